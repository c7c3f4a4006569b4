/-
 Helper text (no claim of its own): drawn circuits. Only that they return, and what their results are made of.
-/
import Derived.Test.YtioimnplhmgbgaaGreatDrawD
import Derived.Deep.RegionLaw
namespace Go.Proofs.YtioimnplhmgbgaaGreat
open Go.ChangeShapes Go.WideShapes Go.ChangeAt Go.RowKit Go.Deep
theorem blk2 {w : World} {g t : Nat} {a b : Value} (h : Blk w g t #[a, b]) : (w.cell? ⟨g, 0, none⟩ = some a ∧ w.cell? ⟨g, 1, none⟩ = some b) ∧ w.frozen? ⟨g, 0, none⟩ = false ∧ w.frozen? ⟨g, 1, none⟩ = false :=
 ⟨⟨h.cell 0, h.cell 1⟩, h.frozen 0, h.frozen 1⟩
theorem Blk.set2 {w : World} {g t : Nat} {z0 z1 : Value} (h : Blk w g t #[z0, z1]) (a b : Value) : Blk ((w.setCell ⟨g, 0, none⟩ a).setCell ⟨g, 1, none⟩ b) g t #[a, b] := (h.set_ 0 a).set_ 1 b
theorem Cur.set2 {w : World} {g q : Nat} (h : Cur w g) (hq : g < q) (a b : Value) : Cur ((w.setCell ⟨q, 0, none⟩ a).setCell ⟨q, 1, none⟩ b) g :=
 (h.set_ (p := ⟨q, 0, none⟩) hq a).set_ (p := ⟨q, 1, none⟩) hq b
theorem gr_set2 {w0 w : World} {g q : Nat} (h : w0.grownBy w (some g)) (hq : w0.heap.size ≤ q) (a b : Value) : w0.grownBy ((w.setCell ⟨q, 0, none⟩ a).setCell ⟨q, 1, none⟩ b) (some g) :=
 gr_set (gr_set h (p := ⟨q, 0, none⟩) hq a) (p := ⟨q, 1, none⟩) hq b
theorem Tryz.sizeCirc : (Tryz.prog.info? 26).map (·.size) = some 2 := by kernel_rfl
theorem ret2c {fn : Func} {p : Tmp} (hf : fn.results = #[.cell p 26]) {W : World} {q : Nat} {z0 z1 : Value} (hB : Blk W q 26 #[z0, z1]) (a b : Value) (tmps : Array Value)
  (hp : tmps.getD p undef = .pointer (some ⟨q, 0, none⟩)) : (results fn tmps).run Tryz.prog ((W.setCell ⟨q, 0, none⟩ a).setCell ⟨q, 1, none⟩ b) = .ok (.agg #[a, b]) ((W.setCell ⟨q, 0, none⟩ a).setCell ⟨q, 1, none⟩ b) :=
 results_cell_row hf tmps _ q 26 _ (0, 0) _ hp (hB.set2 a b) Tryz.underlying26 rfl Tryz.sizeCirc
/-- append of one drawn gate in a drawn region. -/
theorem stepG1 {w : World} {B : Nat} {ops : Array Oper} {o : Oper} {a : Act} {K : Act → World → Prop} {Q : Exit → Act → World → Prop} {E : Prop} (hgd : o.guard = none) (s x : Operand)
  (ho : o.op = .call { callee := .builtin .append, args := #[s, x], argTypes := #[24, 24] }) (v : Value) (n : Nat) (xs : List Gt) (hs : a.eval s = v)
  (hown : w.ownsRow B 52 4 v n (gcells xs)) (hB : B ≤ w.heap.size) (y : Gt) (e : TypeId) (b : Nat) (hx : a.eval x = .slice (some ⟨b, 0, none⟩) 1 1) (hbs : b = w.heap.size) (hn : n ≤ 90000000)
  (h : ∀ A' c' w', w'.ownsRow B 52 4 (.slice A' (n + 1) c') (n + 1) (gcells (xs ++ [y])) → w.grownBy w' v.ownBlock → ((Value.slice A' (n + 1) c').ownBlock = v.ownBlock ∨ (Value.slice A' (n + 1) c').ownBlock = some (w.heap.size + 1)) → K (a.put o.dst (.slice A' (n + 1) c')) w') :
  if Region.wanted o (yielded ops a.tmps) = true then Oper.wp Tryz.prog o a (w.alloc (.cells #[.int .i64 y.k, .int .i64 y.a, .int .i64 y.b, .int .i64 y.c] e)) K Q else E := by
 subst hbs
 have hcs := cutW_size hB
 refine stepGateS (w0 := cutW w B) hgd s x ho v n xs hs (by rw [hcs]; exact hown.alloc _) ((cutW_ext hB).alloc _) _ 1 1 [y] hx (rd_new w _ e 4 _ (by simp [Gt.cells]) (by simp [Gt.cells])) (by omega) ?_
 intro v' w' h1 h2 h3 h4
 rw [hcs] at h1
 obtain ⟨A', c', rfl, _⟩ := own_slice h1
 exact h A' c' w' h1 (World.grownBy.trans (((Ext.refl w).alloc _).gr _) h3) (by simpa using h4)

set_option maxRecDepth 100000 in
set_option maxHeartbeats 8000000 in
theorem l11Right_any (g n most : Nat) (hn : 1 ≤ n ∧ n ≤ 4) (hm : most ≤ 200) (w : World) (h : Cur w g) :
  Calls Tryz.prog 33 #[.pointer (some ⟨g, 0, none⟩), .int .i64 n, .int .i64 most] w fun e w' => ∃ A len cap gs, e = .returned (.agg #[.int .i64 n, .slice A len cap]) ∧ len ≤ most ∧ w'.ownsRow w.heap.size 52 4 (.slice A len cap) len (gcells gs) ∧ Cur w' g ∧ w.grownBy w' (some g) := by
 have hgl := h.lt
 go_enter Tryz.func33, Tryz.ntmps33
 go_wp2_with fail
 refine (l1Below_any g _ _ ((h.alloc _).alloc _) (by omega)).mono ?_
 rintro e w2 ⟨x, rfl, ⟨hx0, hx1, _⟩, hC2, hG2⟩
 obtain ⟨m, rfl⟩ := Int.eq_ofNat_of_zero_le hx0
 have hx2 : m ≤ most := by have := hx1 (by omega); omega
 clear hx1 hx0
 have hB6 := ((Blk.new w 26 #[.int .i64 0, .slice none 0 0]).alloc _).grown hG2 (fun k hk => by injection hk; omega)
 have hB7 := (Blk.newAt (w := w.alloc (.cells #[.int .i64 0, .slice none 0 0] 26)) (t := 26) (cs := #[.int .i64 n, .slice none 0 0]) (b := w.heap.size + 1) (by simp)).grown hG2 (fun k hk => by injection hk; omega)
 have hg2 : w.grownBy w2 (some g) := gr_trans ((((Ext.refl w).alloc _).alloc _).gr _) hG2
 clear hG2
 go_wp2
 go_loopw [9] (fun i wr => ∃ (k : Nat) (A : Option Addr) (cap : Nat) (gs : List Gt), k ≤ m ∧ i = .int .i64 k ∧ Blk wr w.heap.size 26 #[.int .i64 0, .slice none 0 0] ∧ Blk wr (w.heap.size + 1) 26 #[.int .i64 n, .slice A k cap] ∧ wr.ownsRow (w.heap.size + 2) 52 4 (.slice A k cap) k (gcells gs) ∧ Cur wr g ∧ w.grownBy wr (some g)) (fun i _ => m - (intOf i).toNat)
 case atStart => exact ⟨0, none, 0, [], Nat.zero_le _, rfl, hB6, hB7, ⟨by simp, .inl ⟨rfl, rfl⟩⟩, hC2, hg2⟩
 case round =>
  clear hB6 hB7 hC2 hg2
  obtain ⟨k, A, cap, gs, hk, rfl, hB6, hB7, hown, hC, hG⟩ := hrel
  have hl7 := hB7.lt
  by_cases hlt : k < m
  ·have HOWN := Lib.hid hown
   have HROW := Lib.hid hown.lt
   have c1 : wr.cell? ⟨w.heap.size + 1, 1, none⟩ = some (.slice A k cap) := hB7.cell 1
   have f1 : wr.frozen? ⟨w.heap.size + 1, 1, none⟩ = false := hB7.frozen 1
   clear hown
   go_wp2
   go_region_law (first
    | (go_simp; go_at_call 56; refine (l9Gate_any g n hn _ (hC.ext (Ext.refl wr).drew)).mono ?_; rintro e w3 ⟨y, rfl, hC3, hG3⟩; have hB73 := Blk.grown (w := wr.drew) hB7 hG3 (fun k hk => by injection hk; omega); have hB63 := Blk.grown (w := wr.drew) hB6 hG3 (fun k hk => by injection hk; omega); have k3 : w3.cell? ⟨w.heap.size + 1, 1, none⟩ = some (.slice A k cap) := hB73.cell 1; have g3 : w3.frozen? ⟨w.heap.size + 1, 1, none⟩ = false := hB73.frozen 1; have hl3 := hB73.lt)
    | (refine stepG1 (B := w.heap.size + 2) (by rfl) _ _ (by rfl) _ k gs (by rfl) (own_kept (w := wr.drew) HOWN.out hG3 (fun q hq => by injection hq; omega)) (by omega) y _ _ (by rfl) (by rfl) (by omega) ?_; intro A4 c4 w4 ho4 hg4 _; have hB74 := hB73.grown hg4 (fun k hk => by have := HROW.out k hk; omega); have hB64 := hB63.grown hg4 (fun k hk => by have := HROW.out k hk; omega); have k4 : w4.cell? ⟨w.heap.size + 1, 1, none⟩ = some (.slice A k cap) := hB74.cell 1; have g4 : w4.frozen? ⟨w.heap.size + 1, 1, none⟩ = false := hB74.frozen 1))
   all_goals
    have hC4 := hC3.grown hg4 (fun q hq => by have := HROW.out q hq; omega)
    have hG4 := gr_new (gr_trans (gr_ext hG (Ext.refl wr).drew) hG3) hg4 (fun q hq => by have := HROW.out q hq; omega)
    clear k4 g4 k3 g3
    go_wp2
    go_roundw
    case rel => exact ⟨k + 1, A4, c4, gs ++ [y], by omega, by go_num, hB64.far (p := ⟨w.heap.size + 1, 1, none⟩) (by simp) _, hB74.set_ 1 _, own_set ho4 (p := ⟨w.heap.size + 1, 1, none⟩) (by simp) _, hC4.set_ (p := ⟨w.heap.size + 1, 1, none⟩) (by simp; omega) _, gr_set hG4 (p := ⟨w.heap.size + 1, 1, none⟩) (by simp) _⟩
    case measure => simp [intOf]; omega
  ·obtain ⟨⟨b0, b1⟩, z0, z1⟩ := blk2 hB7
   obtain ⟨⟨a0, a1⟩, y0, y1⟩ := blk2 hB6
   have HOWN := Lib.hid hown
   clear hown
   go_wp2
   exact bodyPost_ret (v := .agg #[.int .i64 n, .slice A k cap]) (ret2c rfl hB6 (.int .i64 n) (.slice A k cap) _ rfl) rfl ⟨A, k, cap, gs, rfl, by omega, own_base (own_set (own_set HOWN.out (p := ⟨w.heap.size, 0, none⟩) (by simp) _) (p := ⟨w.heap.size, 1, none⟩) (by simp) _) (by omega), Cur.set2 hC hgl _ _, gr_set2 hG (Nat.le_refl _) _ _⟩
end Go.Proofs.YtioimnplhmgbgaaGreat
