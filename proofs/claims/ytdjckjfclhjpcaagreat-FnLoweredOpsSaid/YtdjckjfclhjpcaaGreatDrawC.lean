/-
 Helper text (no claim of its own): drawn gates. Only that they return, and what their results are made of.
-/
import Derived.Test.YtdjckjfclhjpcaaGreatDrawG
namespace Go.Proofs.YtdjckjfclhjpcaaGreat
open Go.ChangeShapes Go.WideShapes Go.ChangeAt Go.RowKit Go.Deep
theorem blk4 {w : World} {g t : Nat} {a b c d : Value} (h : Blk w g t #[a, b, c, d]) : (w.cell? ⟨g, 0, none⟩ = some a ∧ w.cell? ⟨g, 1, none⟩ = some b ∧ w.cell? ⟨g, 2, none⟩ = some c ∧ w.cell? ⟨g, 3, none⟩ = some d) ∧ w.frozen? ⟨g, 0, none⟩ = false ∧ w.frozen? ⟨g, 1, none⟩ = false ∧ w.frozen? ⟨g, 2, none⟩ = false ∧ w.frozen? ⟨g, 3, none⟩ = false :=
 ⟨⟨h.cell 0, h.cell 1, h.cell 2, h.cell 3⟩, h.frozen 0, h.frozen 1, h.frozen 2, h.frozen 3⟩
theorem Blk.set4 {w : World} {g t : Nat} {z0 z1 z2 z3 : Value} (h : Blk w g t #[z0, z1, z2, z3]) (a b c d : Value) : Blk ((((w.setCell ⟨g, 0, none⟩ a).setCell ⟨g, 1, none⟩ b).setCell ⟨g, 2, none⟩ c).setCell ⟨g, 3, none⟩ d) g t #[a, b, c, d] :=
 (((h.set_ 0 a).set_ 1 b).set_ 2 c).set_ 3 d
theorem Cur.set4 {w : World} {g q : Nat} (h : Cur w g) (hq : g < q) (a b c d : Value) : Cur ((((w.setCell ⟨q, 0, none⟩ a).setCell ⟨q, 1, none⟩ b).setCell ⟨q, 2, none⟩ c).setCell ⟨q, 3, none⟩ d) g :=
 (((h.set_ (p := ⟨q, 0, none⟩) hq a).set_ (p := ⟨q, 1, none⟩) hq b).set_ (p := ⟨q, 2, none⟩) hq c).set_ (p := ⟨q, 3, none⟩) hq d
theorem gr_set4 {w0 w : World} {g q : Nat} (h : w0.grownBy w (some g)) (hq : w0.heap.size ≤ q) (a b c d : Value) : w0.grownBy ((((w.setCell ⟨q, 0, none⟩ a).setCell ⟨q, 1, none⟩ b).setCell ⟨q, 2, none⟩ c).setCell ⟨q, 3, none⟩ d) (some g) :=
 gr_set (gr_set (gr_set (gr_set h (p := ⟨q, 0, none⟩) hq a) (p := ⟨q, 1, none⟩) hq b) (p := ⟨q, 2, none⟩) hq c) (p := ⟨q, 3, none⟩) hq d
theorem Tryz.sizeGate : (Tryz.prog.info? 38).map (·.size) = some 4 := by kernel_rfl
theorem ret4 {fn : Func} {p : Tmp} (hf : fn.results = #[.cell p 38]) {W : World} {q : Nat} {z0 z1 z2 z3 : Value} (hB : Blk W q 38 #[z0, z1, z2, z3]) (a b c d : Value) (tmps : Array Value)
  (hp : tmps.getD p undef = .pointer (some ⟨q, 0, none⟩)) : (results fn tmps).run Tryz.prog ((((W.setCell ⟨q, 0, none⟩ a).setCell ⟨q, 1, none⟩ b).setCell ⟨q, 2, none⟩ c).setCell ⟨q, 3, none⟩ d) = .ok (.agg #[a, b, c, d]) ((((W.setCell ⟨q, 0, none⟩ a).setCell ⟨q, 1, none⟩ b).setCell ⟨q, 2, none⟩ c).setCell ⟨q, 3, none⟩ d) :=
 results_cell_row hf tmps _ q 38 _ (0, 0) _ hp (hB.set4 a b c d) Tryz.underlying38 rfl Tryz.sizeGate

set_option maxRecDepth 100000 in
set_option maxHeartbeats 8000000 in
theorem l9On_any (g n : Nat) (kind : Int) (hn : 1 ≤ n ∧ n ≤ 4) (hk : ar kind ≤ n) (w : World) (h : Cur w g) :
  Calls Tryz.prog 65 #[.pointer (some ⟨g, 0, none⟩), .int .i64 kind, .int .i64 n] w fun e w' => ∃ x : Gt, e = .returned x.val ∧ Cur w' g ∧ w.grownBy w' (some g) := by
 have hgl := h.lt
 have har := ar_range kind
 go_enter Tryz.func65, Tryz.ntmps65
 go_wp2_with fail
 refine (l8Perm_any g n hn _ (h.alloc _)).mono ?_
 rintro e w2 ⟨b, c, rfl, hb, hI, hC, hG⟩
 simp at hb
 have hB6 := (Blk.new w 38 #[.int .i64 0, .int .i64 0, .int .i64 0, .int .i64 0]).grown hG (fun k hk => by injection hk; omega)
 have hG0 : w.grownBy w2 (some g) := gr_trans (((Ext.refl w).alloc _).gr _) hG
 have hlt2 := hB6.lt
 obtain ⟨p0, h0⟩ := hI.cell (j := 0) (by omega)
 have hbl := hI.lt
 clear hG
 go_wp2_with fail
 refine (spec_Arity_any kind _).mono ?_
 rintro e w3 ⟨rfl, rfl⟩
 have hB8 := Blk.new w2 38 #[.int .i64 kind, .int .i64 p0, .int .i64 0, .int .i64 0]
 have hB6 := hB6.alloc (.cells #[.int .i64 kind, .int .i64 p0, .int .i64 0, .int .i64 0] 38)
 have hI := hI.grown (((Ext.refl w2).alloc (.cells #[.int .i64 kind, .int .i64 p0, .int .i64 0, .int .i64 0] 38)).gr none) (by simp)
 have hC := hC.alloc (.cells #[.int .i64 kind, .int .i64 p0, .int .i64 0, .int .i64 0] 38)
 have hG := gr_alloc hG0 (.cells #[.int .i64 kind, .int .i64 p0, .int .i64 0, .int .i64 0] 38)
 clear h0 hG0
 generalize w2.alloc (.cells #[.int .i64 kind, .int .i64 p0, .int .i64 0, .int .i64 0] 38) = W at *
 generalize w2.heap.size = s8 at *
 have hgs : g < s8 := by omega
 have hws : w.heap.size < s8 := by omega
 by_cases ha1 : 1 < ar kind
 ·obtain ⟨p1, h1⟩ := hI.cell (j := 1) (by omega)
  obtain ⟨⟨b0, b1, b2, b3⟩, z0, z1, z2, z3⟩ := blk4 hB8
  go_wp2_with fail
  refine (spec_Arity_any kind _).mono ?_
  rintro e w3 ⟨rfl, rfl⟩
  have hB8 : Blk _ _ _ #[.int .i64 kind, .int .i64 p0, .int .i64 p1, .int .i64 0] := hB8.set_ 2 (.int .i64 p1)
  have hB6 := hB6.far (p := ⟨s8, 2, none⟩) (by simp; omega) (.int .i64 p1)
  have hI := hI.grown (gr_setCell (World.grownBy.refl W (some s8)) 2 (.int .i64 p1)) (fun k hk => by injection hk; omega)
  have hC := hC.set_ (p := ⟨s8, 2, none⟩) (by simp; omega) (.int .i64 p1)
  have hG := gr_set hG (p := ⟨s8, 2, none⟩) (by simp; omega) (.int .i64 p1)
  clear b0 b1 b2 b3 z0 z1 z2 z3 h1
  generalize W.setCell ⟨s8, 2, none⟩ (.int .i64 p1) = W1 at *
  by_cases ha2 : 2 < ar kind
  ·obtain ⟨p2, h2⟩ := hI.cell (j := 2) (by omega)
   obtain ⟨⟨b0, b1, b2, b3⟩, z0, z1, z2, z3⟩ := blk4 hB8
   obtain ⟨⟨a0, a1, a2, a3⟩, y0, y1, y2, y3⟩ := blk4 hB6
   go_wp2
   exact bodyPost_ret (v := .agg #[.int .i64 kind, .int .i64 p0, .int .i64 p1, .int .i64 p2]) (ret4 rfl (hB6.far (p := ⟨s8, 3, none⟩) (by simp; omega) _) (.int .i64 kind) (.int .i64 p0) (.int .i64 p1) (.int .i64 p2) _ rfl) rfl ⟨⟨kind, p0, p1, p2⟩, rfl, Cur.set4 (hC.set_ (p := ⟨s8, 3, none⟩) hgs _) hgl _ _ _ _, gr_set4 (gr_set hG (p := ⟨s8, 3, none⟩) (Nat.le_of_lt hws) _) (Nat.le_refl _) _ _ _ _⟩
  ·obtain ⟨⟨b0, b1, b2, b3⟩, z0, z1, z2, z3⟩ := blk4 hB8
   obtain ⟨⟨a0, a1, a2, a3⟩, y0, y1, y2, y3⟩ := blk4 hB6
   go_wp2
   exact bodyPost_ret (v := .agg #[.int .i64 kind, .int .i64 p0, .int .i64 p1, .int .i64 0]) (ret4 rfl hB6 (.int .i64 kind) (.int .i64 p0) (.int .i64 p1) (.int .i64 0) _ rfl) rfl ⟨⟨kind, p0, p1, 0⟩, rfl, Cur.set4 hC hgl _ _ _ _, gr_set4 hG (Nat.le_refl _) _ _ _ _⟩
 ·go_wp2_with fail
  refine (spec_Arity_any kind _).mono ?_
  rintro e w3 ⟨rfl, rfl⟩
  have ha2 : ¬ 2 < ar kind := by omega
  obtain ⟨⟨b0, b1, b2, b3⟩, z0, z1, z2, z3⟩ := blk4 hB8
  obtain ⟨⟨a0, a1, a2, a3⟩, y0, y1, y2, y3⟩ := blk4 hB6
  go_wp2
  exact bodyPost_ret (v := .agg #[.int .i64 kind, .int .i64 p0, .int .i64 0, .int .i64 0]) (ret4 rfl hB6 (.int .i64 kind) (.int .i64 p0) (.int .i64 0) (.int .i64 0) _ rfl) rfl ⟨⟨kind, p0, 0, 0⟩, rfl, Cur.set4 hC hgl _ _ _ _, gr_set4 hG (Nat.le_refl _) _ _ _ _⟩

set_option maxRecDepth 100000 in
set_option maxHeartbeats 4000000 in
theorem l9Gate_any (g n : Nat) (hn : 1 ≤ n ∧ n ≤ 4) (w : World) (h : Cur w g) :
  Calls Tryz.prog 46 #[.pointer (some ⟨g, 0, none⟩), .int .i64 n] w fun e w' => ∃ x : Gt, e = .returned x.val ∧ Cur w' g ∧ w.grownBy w' (some g) := by
 have hgl := h.lt
 obtain ⟨hn1, hn4⟩ := id hn
 have hmost : ∃ m : Int, (1 ≤ m ∧ m ≤ 12) ∧ ((w.alloc (.cells #[.int .i64 0, .int .i64 0, .int .i64 0, .int .i64 0] 38)).alloc (.cells #[.int .i64 0, .int .i64 8, .int .i64 11, .int .i64 12, .int .i64 12] 3)).cell? ⟨w.heap.size + 1, n, none⟩ = some (.int .i64 m) := by
  have hB := Blk.new (w.alloc (.cells #[.int .i64 0, .int .i64 0, .int .i64 0, .int .i64 0] 38)) 3 #[.int .i64 0, .int .i64 8, .int .i64 11, .int .i64 12, .int .i64 12]
  have e1 : (w.alloc (.cells #[.int .i64 0, .int .i64 0, .int .i64 0, .int .i64 0] 38)).heap.size = w.heap.size + 1 := by simp
  rw [e1] at hB
  rcases (by omega : n = 1 ∨ n = 2 ∨ n = 3 ∨ n = 4) with rfl | rfl | rfl | rfl
  ·exact ⟨8, by omega, hB.cell 1⟩
  ·exact ⟨11, by omega, hB.cell 2⟩
  ·exact ⟨12, by omega, hB.cell 3⟩
  ·exact ⟨12, by omega, hB.cell 4⟩
 obtain ⟨m, hm, hcell⟩ := hmost
 go_enter Tryz.func46, Tryz.ntmps46
 go_wp2_with fail
 refine (l1Below_any g m _ ((h.alloc _).alloc _) (by omega)).mono ?_
 rintro e w2 ⟨x, rfl, ⟨hx0, hx1, _⟩, hC2, hG2⟩
 have hx2 := hx1 (by omega)
 clear hx1 hcell
 have hB2 := ((Blk.new w 38 #[.int .i64 0, .int .i64 0, .int .i64 0, .int .i64 0]).alloc _).grown hG2 (fun k hk => by injection hk; omega)
 have hg2 : w.grownBy w2 (some g) := gr_trans ((((Ext.refl w).alloc _).alloc _).gr _) hG2
 have hl2 := hB2.lt
 clear hG2
 go_wp2_with fail
 refine (l1Once_any g _ _ hC2 (by omega)).mono ?_
 rintro e w3 ⟨bb, rfl, hC3, hG3⟩
 have hB3 := hB2.grown hG3 (fun k hk => by injection hk; omega)
 have hg3 := gr_trans hg2 hG3
 have hl3 := hB3.lt
 clear hB2 hg2 hG3 hC2
 cases bb
 ·go_wp2_with fail
  refine (spec_Arity_any _ _).mono ?_
  rintro e w4 ⟨rfl, rfl⟩
  by_cases hA : (n : Int) < ar (1 + x)
  ·have h41 : ar 4 = 1 := ar1 (by omega)
   go_wp2_with fail
   refine (l9On_any g n (4) hn (by omega) _ hC3).mono ?_
   rintro e w5 ⟨y, rfl, hC5, hG5⟩
   have hB5 := hB3.grown hG5 (fun k hk => by injection hk; omega)
   have hg5 := gr_trans hg3 hG5
   obtain ⟨⟨a0, a1, a2, a3⟩, y0, y1, y2, y3⟩ := blk4 hB5
   go_wp2
   exact bodyPost_ret (v := .agg #[.int .i64 y.k, .int .i64 y.a, .int .i64 y.b, .int .i64 y.c]) (ret4 rfl hB5 (.int .i64 y.k) (.int .i64 y.a) (.int .i64 y.b) (.int .i64 y.c) _ rfl) rfl ⟨y, rfl, Cur.set4 hC5 hgl _ _ _ _, gr_set4 hg5 (Nat.le_refl _) _ _ _ _⟩
  ·have hle : ar (1 + x) ≤ n := by omega
   go_wp2_with fail
   refine (l9On_any g n (1 + x) hn (hle) _ hC3).mono ?_
   rintro e w5 ⟨y, rfl, hC5, hG5⟩
   have hB5 := hB3.grown hG5 (fun k hk => by injection hk; omega)
   have hg5 := gr_trans hg3 hG5
   obtain ⟨⟨a0, a1, a2, a3⟩, y0, y1, y2, y3⟩ := blk4 hB5
   go_wp2
   exact bodyPost_ret (v := .agg #[.int .i64 y.k, .int .i64 y.a, .int .i64 y.b, .int .i64 y.c]) (ret4 rfl hB5 (.int .i64 y.k) (.int .i64 y.a) (.int .i64 y.b) (.int .i64 y.c) _ rfl) rfl ⟨y, rfl, Cur.set4 hC5 hgl _ _ _ _, gr_set4 hg5 (Nat.le_refl _) _ _ _ _⟩
 ·go_wp2_with fail
  refine (l1PickInt_any g _ 8 _ [4, 7, 5, 8, 9, 9, 9, 9] _ (hC3.alloc _) (rd_newN w3 _ _ _ 8 1 _ rfl rfl rfl) (by intro b o e; injection e with e; injection e with e1; omega) (by omega)).mono ?_
  rintro e w6 ⟨kk, rfl, _, hC4, hG4⟩
  have hB4 := (hB3.alloc _).grown hG4 (fun k hk => by injection hk; omega)
  have hg4 := gr_trans (gr_alloc hg3 _) hG4
  clear hB3 hg3 hG4 hC3
  go_wp2_with fail
  refine (spec_Arity_any _ _).mono ?_
  rintro e w4 ⟨rfl, rfl⟩
  by_cases hA : (n : Int) < ar (kk)
  ·have h41 : ar 4 = 1 := ar1 (by omega)
   go_wp2_with fail
   refine (l9On_any g n (4) hn (by omega) _ hC4).mono ?_
   rintro e w5 ⟨y, rfl, hC5, hG5⟩
   have hB5 := hB4.grown hG5 (fun k hk => by injection hk; omega)
   have hg5 := gr_trans hg4 hG5
   obtain ⟨⟨a0, a1, a2, a3⟩, y0, y1, y2, y3⟩ := blk4 hB5
   go_wp2
   exact bodyPost_ret (v := .agg #[.int .i64 y.k, .int .i64 y.a, .int .i64 y.b, .int .i64 y.c]) (ret4 rfl hB5 (.int .i64 y.k) (.int .i64 y.a) (.int .i64 y.b) (.int .i64 y.c) _ rfl) rfl ⟨y, rfl, Cur.set4 hC5 hgl _ _ _ _, gr_set4 hg5 (Nat.le_refl _) _ _ _ _⟩
  ·have hle : ar (kk) ≤ n := by omega
   go_wp2_with fail
   refine (l9On_any g n (kk) hn (hle) _ hC4).mono ?_
   rintro e w5 ⟨y, rfl, hC5, hG5⟩
   have hB5 := hB4.grown hG5 (fun k hk => by injection hk; omega)
   have hg5 := gr_trans hg4 hG5
   obtain ⟨⟨a0, a1, a2, a3⟩, y0, y1, y2, y3⟩ := blk4 hB5
   go_wp2
   exact bodyPost_ret (v := .agg #[.int .i64 y.k, .int .i64 y.a, .int .i64 y.b, .int .i64 y.c]) (ret4 rfl hB5 (.int .i64 y.k) (.int .i64 y.a) (.int .i64 y.b) (.int .i64 y.c) _ rfl) rfl ⟨y, rfl, Cur.set4 hC5 hgl _ _ _ _, gr_set4 hg5 (Nat.le_refl _) _ _ _ _⟩
end Go.Proofs.YtdjckjfclhjpcaaGreat
