/-
 Helper text (no claim of its own): drawn permutations and gates, with what they hold. Printed by gen_drk.py out of XDrawG and XDrawC.
-/
import Derived.Test.YtdjckjfclhjpcaaGreatDrawC
namespace Go.Proofs.YtdjckjfclhjpcaaGreat
open Go.ChangeShapes Go.WideShapes Go.ChangeAt Go.RowKit Go.Deep
set_option linter.unusedVariables false
set_option linter.unusedSimpArgs false
/-- A row of places below n. -/
def PRow (w : World) (b cap n : Nat) : Prop := IntRow w b cap n ∧ ∀ j, j < n → ∃ y : Nat, w.cell? ⟨b, j, none⟩ = some (.int .i64 y) ∧ y < n
theorem PRow.lt {w : World} {b cap n : Nat} (h : PRow w b cap n) : b < w.heap.size := h.1.lt
theorem PRow.grown {w w' : World} {b cap n : Nat} {row : Option Nat} (h : PRow w b cap n) (hg : w.grownBy w' row) (hr : ∀ k, row = some k → b ≠ k) : PRow w' b cap n :=
 ⟨h.1.grown hg hr, fun j hj => by
  obtain ⟨y, hy, hn⟩ := h.2 j hj
  exact ⟨y, (World.cell?_of_block (hg.block b h.1.lt (fun e => hr b e.symm rfl))).trans hy, hn⟩⟩
theorem PRow.set_ {w : World} {b cap n : Nat} (h : PRow w b cap n) (j y : Nat) (hj : j < n) (hy : y < n) (h4 : n ≤ 4) : PRow (w.setCell ⟨b, j, none⟩ (.int .i64 y)) b cap n := by
 refine ⟨h.1.set_ j y (by unfold I64; omega), fun q hq => ?_⟩
 obtain ⟨hnc, _, cur, hc, hs, _⟩ := h.1
 rw [cell_of_row _ b q _ _ (0, 0) (heap_setCell_same w b j cur _ (.int .i64 y) hc), Array.getElem?_setIfInBounds]
 by_cases e : j = q
 ·subst e
  rw [if_pos rfl, if_pos (by omega)]
  exact ⟨y, rfl, hy⟩
 ·rw [if_neg e]
  obtain ⟨z, hz, hzn⟩ := h.2 q hq
  rw [cell_of_row w b q cur _ (0, 0) hc] at hz
  exact ⟨z, hz, hzn⟩
theorem PRow.of {w : World} {B n c : Nat} {A : Option Addr} {xs : List Int} (h : w.ownsRow B 3 1 (.slice A n c) n (icells xs)) (hr : ∀ x ∈ xs, 0 ≤ x ∧ x < n) (hn : 0 < n) (h4 : n ≤ 4) : ∃ b, A = some ⟨b, 0, none⟩ ∧ B ≤ b ∧ PRow w b c n := by
 obtain ⟨b, hA, hB, hI⟩ := IntRow.of h (fun x hx => by have := hr x hx; unfold I64; omega) hn
 refine ⟨b, hA, hB, hI, fun j hj => ?_⟩
 obtain ⟨b', o', y, e, _, hy, hcell⟩ := int_at (Rd.own h) hj
 rw [hA] at e
 injection e with e
 injection e with e1 e2
 subst e1 e2
 rw [Nat.zero_add] at hcell
 have hm := hr y (List.mem_of_getElem? hy)
 exact ⟨y.toNat, by rw [hcell]; congr 2; omega, by omega⟩
set_option maxRecDepth 100000 in
set_option maxHeartbeats 1000000 in
theorem spec_IdentityPermutation_rng (n : Nat) (hn : 1 ≤ n ∧ n ≤ 4) (w : World) :
  Calls Tryz.prog 66 #[.int .i64 n] w fun e w' => ∃ v xs, e = .returned v ∧ (∀ x ∈ xs, 0 ≤ x ∧ x < (n : Int)) ∧ w'.ownsRow w.heap.size 3 1 v n (icells xs) ∧ Ext w w' := by
 obtain ⟨hn1, hn4⟩ := hn
 go_enter Tryz.func66, Tryz.ntmps66
 go_wp2
 go_loopw [3, 4] (fun v i wr => ∃ (k : Nat) (xs : List Int), k ≤ n ∧ i = .int .i64 k ∧ Hid (∀ x ∈ xs, 0 ≤ x ∧ x < (n : Int)) ∧ wr.ownsRow w.heap.size 3 1 v k (icells xs) ∧ Ext w wr) (fun _ i _ => n - (intOf i).toNat)
 case atStart => exact ⟨0, [], Nat.zero_le _, rfl, Lib.hid (by simp), own_empty w w _ _ (Ext.refl _), xx⟩
 case round =>
  obtain ⟨k, xs, hk, rfl, HR, hown, hx⟩ := hrel
  go_wp2_with fail
  refine (l1In_yes _ _ _ _ (by omega) (by omega)).mono ?_
  rintro e w1 ⟨rfl, rfl⟩
  by_cases hlt : k < n
  ·go_wp2_with (at_builtin; refine appInt rfl _ _ rfl _ k xs rfl hown hx (k : Int) _ _ rfl rfl (by omega) ?_; intro v1 w1 hown1 hx1 hg1 hb1)
   go_roundw
   case rel => exact ⟨k + 1, _, by omega, by go_num, Lib.hid (fun x hx => by rcases List.mem_append.1 hx with h | h; exact HR.out x h; (simp at h; subst h; omega)), hown1, hx1⟩
   case measure => simp [intOf]; omega
  ·obtain rfl : k = n := by omega
   go_wp2
   go_ret
   exact ⟨_, xs, rfl, HR.out, hown, hx⟩

set_option maxRecDepth 100000 in
set_option maxHeartbeats 2000000 in
theorem l8Perm_rng (g n : Nat) (hn : 1 ≤ n ∧ n ≤ 4) (w : World) (h : Cur w g) :
  Calls Tryz.prog 48 #[.pointer (some ⟨g, 0, none⟩), .int .i64 n] w fun e w' => ∃ b c, e = .returned (.slice (some ⟨b, 0, none⟩) n c) ∧ w.heap.size ≤ b ∧ PRow w' b c n ∧ Cur w' g ∧ w.grownBy w' (some g) := by
 obtain ⟨hn1, hn4⟩ := hn
 have hgl := h.lt
 go_enter Tryz.func48, Tryz.ntmps48
 go_wp2_with fail
 refine (spec_IdentityPermutation_rng n ⟨hn1, hn4⟩ _).mono ?_
 rintro e w1 ⟨v1, xs, rfl, hr1, ho1, hx1⟩
 obtain ⟨A1, c1, rfl, _⟩ := own_slice ho1
 obtain ⟨b, rfl, hB, hI⟩ := PRow.of ho1 hr1 (by omega) hn4
 clear hr1
 have hC := h.ext hx1
 have hG := hx1.gr (some g)
 clear ho1 hx1
 go_wp2
 go_loopw [6] (fun i wr => ∃ k : Nat, k < n ∧ i = .int .i64 k ∧ PRow wr b c1 n ∧ Cur wr g ∧ w.grownBy wr (some g)) (fun i _ => (intOf i).toNat)
 case atStart => exact ⟨n - 1, by omega, by go_num, hI, hC, hG⟩
 case round =>
  clear hI hC hG
  obtain ⟨k, hk, rfl, hI, hC, hG⟩ := hrel
  by_cases h0 : 0 < k
  ·go_wp2_with fail
   refine (l1Below_any g _ _ hC (by omega)).mono ?_
   rintro e w2 ⟨x, rfl, ⟨hx0, hx1, _⟩, hC2, hg2⟩
   obtain ⟨j, rfl⟩ := Int.eq_ofNat_of_zero_le hx0
   have hj : j < n := by have := hx1 (by omega); omega
   clear hx1 hx0
   have hI2 := hI.grown hg2 (fun q hq => by injection hq; omega)
   have hG2 := gr_trans hG hg2
   obtain ⟨y, hy, hyR⟩ := hI2.2 k hk
   obtain ⟨z, hz, hzR⟩ := hI2.2 j hj
   have HY := Lib.hid hyR
   clear hyR
   have fk := hI2.1.frozen k
   have hI3 := hI2.set_ k z hk hzR hn4
   clear hzR
   obtain ⟨u, hu⟩ := hI3.1.cell hj
   have fj := hI3.1.frozen j
   go_wp2
   go_roundw
   case rel => exact ⟨k - 1, by omega, by go_num, hI3.set_ j y hj HY.out hn4, (hC2.set_ (p := ⟨b, k, none⟩) (by simp; omega) _).set_ (p := ⟨b, j, none⟩) (by simp; omega) _, gr_set (gr_set hG2 (p := ⟨b, k, none⟩) (by simp; omega) _) (p := ⟨b, j, none⟩) (by simp; omega) _⟩
   case measure => simp [intOf]; omega
  ·go_wp2
   go_ret
   exact ⟨b, c1, rfl, hB, hI, hC, hG⟩
set_option maxRecDepth 100000 in
set_option maxHeartbeats 8000000 in
theorem l9On_kind (g n : Nat) (kind : Int) (hn : 1 ≤ n ∧ n ≤ 4) (hk : ar kind ≤ n) (w : World) (h : Cur w g) :
  Calls Tryz.prog 65 #[.pointer (some ⟨g, 0, none⟩), .int .i64 kind, .int .i64 n] w fun e w' => ∃ x : Gt, e = .returned x.val ∧ x.k = kind ∧ Cur w' g ∧ w.grownBy w' (some g) := by
 have hgl := h.lt
 have har := ar_range kind
 go_enter Tryz.func65, Tryz.ntmps65
 go_wp2_with fail
 refine (l8Perm_any g n hn _ (h.alloc _)).mono ?_
 rintro e w2 ⟨b, c, rfl, hb, hI, hC, hG⟩
 simp at hb
 have hB6 := (Blk.new w 38 #[.int .i64 0, .int .i64 0, .int .i64 0, .int .i64 0]).grown hG (fun k hk => by injection hk; omega)
 have hG0 : w.grownBy w2 (some g) := gr_trans (((Ext.refl w).alloc _).gr _) hG
 have hlt2 := hB6.lt
 obtain ⟨p0, h0⟩ := hI.cell (j := 0) (by omega)
 have hbl := hI.lt
 clear hG
 go_wp2_with fail
 refine (spec_Arity_any kind _).mono ?_
 rintro e w3 ⟨rfl, rfl⟩
 have hB8 := Blk.new w2 38 #[.int .i64 kind, .int .i64 p0, .int .i64 0, .int .i64 0]
 have hB6 := hB6.alloc (.cells #[.int .i64 kind, .int .i64 p0, .int .i64 0, .int .i64 0] 38)
 have hI := hI.grown (((Ext.refl w2).alloc (.cells #[.int .i64 kind, .int .i64 p0, .int .i64 0, .int .i64 0] 38)).gr none) (by simp)
 have hC := hC.alloc (.cells #[.int .i64 kind, .int .i64 p0, .int .i64 0, .int .i64 0] 38)
 have hG := gr_alloc hG0 (.cells #[.int .i64 kind, .int .i64 p0, .int .i64 0, .int .i64 0] 38)
 clear h0 hG0
 generalize w2.alloc (.cells #[.int .i64 kind, .int .i64 p0, .int .i64 0, .int .i64 0] 38) = W at *
 generalize w2.heap.size = s8 at *
 have hgs : g < s8 := by omega
 have hws : w.heap.size < s8 := by omega
 by_cases ha1 : 1 < ar kind
 ·obtain ⟨p1, h1⟩ := hI.cell (j := 1) (by omega)
  obtain ⟨⟨b0, b1, b2, b3⟩, z0, z1, z2, z3⟩ := blk4 hB8
  go_wp2_with fail
  refine (spec_Arity_any kind _).mono ?_
  rintro e w3 ⟨rfl, rfl⟩
  have hB8 : Blk _ _ _ #[.int .i64 kind, .int .i64 p0, .int .i64 p1, .int .i64 0] := hB8.set_ 2 (.int .i64 p1)
  have hB6 := hB6.far (p := ⟨s8, 2, none⟩) (by simp; omega) (.int .i64 p1)
  have hI := hI.grown (gr_setCell (World.grownBy.refl W (some s8)) 2 (.int .i64 p1)) (fun k hk => by injection hk; omega)
  have hC := hC.set_ (p := ⟨s8, 2, none⟩) (by simp; omega) (.int .i64 p1)
  have hG := gr_set hG (p := ⟨s8, 2, none⟩) (by simp; omega) (.int .i64 p1)
  clear b0 b1 b2 b3 z0 z1 z2 z3 h1
  generalize W.setCell ⟨s8, 2, none⟩ (.int .i64 p1) = W1 at *
  by_cases ha2 : 2 < ar kind
  ·obtain ⟨p2, h2⟩ := hI.cell (j := 2) (by omega)
   obtain ⟨⟨b0, b1, b2, b3⟩, z0, z1, z2, z3⟩ := blk4 hB8
   obtain ⟨⟨a0, a1, a2, a3⟩, y0, y1, y2, y3⟩ := blk4 hB6
   go_wp2
   exact bodyPost_ret (v := .agg #[.int .i64 kind, .int .i64 p0, .int .i64 p1, .int .i64 p2]) (ret4 rfl (hB6.far (p := ⟨s8, 3, none⟩) (by simp; omega) _) (.int .i64 kind) (.int .i64 p0) (.int .i64 p1) (.int .i64 p2) _ rfl) rfl ⟨⟨kind, p0, p1, p2⟩, rfl, rfl, Cur.set4 (hC.set_ (p := ⟨s8, 3, none⟩) hgs _) hgl _ _ _ _, gr_set4 (gr_set hG (p := ⟨s8, 3, none⟩) (Nat.le_of_lt hws) _) (Nat.le_refl _) _ _ _ _⟩
  ·obtain ⟨⟨b0, b1, b2, b3⟩, z0, z1, z2, z3⟩ := blk4 hB8
   obtain ⟨⟨a0, a1, a2, a3⟩, y0, y1, y2, y3⟩ := blk4 hB6
   go_wp2
   exact bodyPost_ret (v := .agg #[.int .i64 kind, .int .i64 p0, .int .i64 p1, .int .i64 0]) (ret4 rfl hB6 (.int .i64 kind) (.int .i64 p0) (.int .i64 p1) (.int .i64 0) _ rfl) rfl ⟨⟨kind, p0, p1, 0⟩, rfl, rfl, Cur.set4 hC hgl _ _ _ _, gr_set4 hG (Nat.le_refl _) _ _ _ _⟩
 ·go_wp2_with fail
  refine (spec_Arity_any kind _).mono ?_
  rintro e w3 ⟨rfl, rfl⟩
  have ha2 : ¬ 2 < ar kind := by omega
  obtain ⟨⟨b0, b1, b2, b3⟩, z0, z1, z2, z3⟩ := blk4 hB8
  obtain ⟨⟨a0, a1, a2, a3⟩, y0, y1, y2, y3⟩ := blk4 hB6
  go_wp2
  exact bodyPost_ret (v := .agg #[.int .i64 kind, .int .i64 p0, .int .i64 0, .int .i64 0]) (ret4 rfl hB6 (.int .i64 kind) (.int .i64 p0) (.int .i64 0) (.int .i64 0) _ rfl) rfl ⟨⟨kind, p0, 0, 0⟩, rfl, rfl, Cur.set4 hC hgl _ _ _ _, gr_set4 hG (Nat.le_refl _) _ _ _ _⟩

set_option maxRecDepth 100000 in
set_option maxHeartbeats 4000000 in
theorem l9Gate_kind (g n : Nat) (hn : 1 ≤ n ∧ n ≤ 4) (w : World) (h : Cur w g) :
  Calls Tryz.prog 46 #[.pointer (some ⟨g, 0, none⟩), .int .i64 n] w fun e w' => ∃ x : Gt, e = .returned x.val ∧ (1 ≤ ar x.k ∧ ar x.k ≤ n) ∧ Cur w' g ∧ w.grownBy w' (some g) := by
 have hgl := h.lt
 obtain ⟨hn1, hn4⟩ := id hn
 have hmost : ∃ m : Int, (1 ≤ m ∧ m ≤ 12) ∧ ((w.alloc (.cells #[.int .i64 0, .int .i64 0, .int .i64 0, .int .i64 0] 38)).alloc (.cells #[.int .i64 0, .int .i64 8, .int .i64 11, .int .i64 12, .int .i64 12] 3)).cell? ⟨w.heap.size + 1, n, none⟩ = some (.int .i64 m) := by
  have hB := Blk.new (w.alloc (.cells #[.int .i64 0, .int .i64 0, .int .i64 0, .int .i64 0] 38)) 3 #[.int .i64 0, .int .i64 8, .int .i64 11, .int .i64 12, .int .i64 12]
  have e1 : (w.alloc (.cells #[.int .i64 0, .int .i64 0, .int .i64 0, .int .i64 0] 38)).heap.size = w.heap.size + 1 := by simp
  rw [e1] at hB
  rcases (by omega : n = 1 ∨ n = 2 ∨ n = 3 ∨ n = 4) with rfl | rfl | rfl | rfl
  ·exact ⟨8, by omega, hB.cell 1⟩
  ·exact ⟨11, by omega, hB.cell 2⟩
  ·exact ⟨12, by omega, hB.cell 3⟩
  ·exact ⟨12, by omega, hB.cell 4⟩
 obtain ⟨m, hm, hcell⟩ := hmost
 go_enter Tryz.func46, Tryz.ntmps46
 go_wp2_with fail
 refine (l1Below_any g m _ ((h.alloc _).alloc _) (by omega)).mono ?_
 rintro e w2 ⟨x, rfl, ⟨hx0, hx1, _⟩, hC2, hG2⟩
 have hx2 := hx1 (by omega)
 clear hx1 hcell
 have hB2 := ((Blk.new w 38 #[.int .i64 0, .int .i64 0, .int .i64 0, .int .i64 0]).alloc _).grown hG2 (fun k hk => by injection hk; omega)
 have hg2 : w.grownBy w2 (some g) := gr_trans ((((Ext.refl w).alloc _).alloc _).gr _) hG2
 have hl2 := hB2.lt
 clear hG2
 go_wp2_with fail
 refine (l1Once_any g _ _ hC2 (by omega)).mono ?_
 rintro e w3 ⟨bb, rfl, hC3, hG3⟩
 have hB3 := hB2.grown hG3 (fun k hk => by injection hk; omega)
 have hg3 := gr_trans hg2 hG3
 have hl3 := hB3.lt
 clear hB2 hg2 hG3 hC2
 cases bb
 ·go_wp2_with fail
  refine (spec_Arity_any _ _).mono ?_
  rintro e w4 ⟨rfl, rfl⟩
  by_cases hA : (n : Int) < ar (1 + x)
  ·have h41 : ar 4 = 1 := ar1 (by omega)
   go_wp2_with fail
   refine (l9On_kind g n (4) hn (by omega) _ hC3).mono ?_
   rintro e w5 ⟨y, rfl, hyk, hC5, hG5⟩
   have HYK : Hid (1 ≤ ar y.k ∧ ar y.k ≤ n) := by rw [hyk]; unfold Hid; constructor <;> first | omega | assumption | (unfold ar; (repeat' split) <;> omega)
   clear hyk
   have hB5 := hB3.grown hG5 (fun k hk => by injection hk; omega)
   have hg5 := gr_trans hg3 hG5
   obtain ⟨⟨a0, a1, a2, a3⟩, y0, y1, y2, y3⟩ := blk4 hB5
   go_wp2
   exact bodyPost_ret (v := .agg #[.int .i64 y.k, .int .i64 y.a, .int .i64 y.b, .int .i64 y.c]) (ret4 rfl hB5 (.int .i64 y.k) (.int .i64 y.a) (.int .i64 y.b) (.int .i64 y.c) _ rfl) rfl ⟨y, rfl, HYK.out, Cur.set4 hC5 hgl _ _ _ _, gr_set4 hg5 (Nat.le_refl _) _ _ _ _⟩
  ·have hle : ar (1 + x) ≤ n := by omega
   go_wp2_with fail
   refine (l9On_kind g n (1 + x) hn (hle) _ hC3).mono ?_
   rintro e w5 ⟨y, rfl, hyk, hC5, hG5⟩
   have HYK : Hid (1 ≤ ar y.k ∧ ar y.k ≤ n) := by rw [hyk]; unfold Hid; constructor <;> first | omega | assumption | (unfold ar; (repeat' split) <;> omega)
   clear hyk
   have hB5 := hB3.grown hG5 (fun k hk => by injection hk; omega)
   have hg5 := gr_trans hg3 hG5
   obtain ⟨⟨a0, a1, a2, a3⟩, y0, y1, y2, y3⟩ := blk4 hB5
   go_wp2
   exact bodyPost_ret (v := .agg #[.int .i64 y.k, .int .i64 y.a, .int .i64 y.b, .int .i64 y.c]) (ret4 rfl hB5 (.int .i64 y.k) (.int .i64 y.a) (.int .i64 y.b) (.int .i64 y.c) _ rfl) rfl ⟨y, rfl, HYK.out, Cur.set4 hC5 hgl _ _ _ _, gr_set4 hg5 (Nat.le_refl _) _ _ _ _⟩
 ·go_wp2_with fail
  refine (l1PickInt_any g _ 8 _ [4, 7, 5, 8, 9, 9, 9, 9] _ (hC3.alloc _) (rd_newN w3 _ _ _ 8 1 _ rfl rfl rfl) (by intro b o e; injection e with e; injection e with e1; omega) (by omega)).mono ?_
  rintro e w6 ⟨kk, rfl, hkm, hC4, hG4⟩
  have hkk : 1 ≤ kk ∧ kk ≤ 12 := by simp at hkm; omega
  clear hkm
  have hB4 := (hB3.alloc _).grown hG4 (fun k hk => by injection hk; omega)
  have hg4 := gr_trans (gr_alloc hg3 _) hG4
  clear hB3 hg3 hG4 hC3
  go_wp2_with fail
  refine (spec_Arity_any _ _).mono ?_
  rintro e w4 ⟨rfl, rfl⟩
  by_cases hA : (n : Int) < ar (kk)
  ·have h41 : ar 4 = 1 := ar1 (by omega)
   go_wp2_with fail
   refine (l9On_kind g n (4) hn (by omega) _ hC4).mono ?_
   rintro e w5 ⟨y, rfl, hyk, hC5, hG5⟩
   have HYK : Hid (1 ≤ ar y.k ∧ ar y.k ≤ n) := by rw [hyk]; unfold Hid; constructor <;> first | omega | assumption | (unfold ar; (repeat' split) <;> omega)
   clear hyk
   have hB5 := hB4.grown hG5 (fun k hk => by injection hk; omega)
   have hg5 := gr_trans hg4 hG5
   obtain ⟨⟨a0, a1, a2, a3⟩, y0, y1, y2, y3⟩ := blk4 hB5
   go_wp2
   exact bodyPost_ret (v := .agg #[.int .i64 y.k, .int .i64 y.a, .int .i64 y.b, .int .i64 y.c]) (ret4 rfl hB5 (.int .i64 y.k) (.int .i64 y.a) (.int .i64 y.b) (.int .i64 y.c) _ rfl) rfl ⟨y, rfl, HYK.out, Cur.set4 hC5 hgl _ _ _ _, gr_set4 hg5 (Nat.le_refl _) _ _ _ _⟩
  ·have hle : ar (kk) ≤ n := by omega
   go_wp2_with fail
   refine (l9On_kind g n (kk) hn (hle) _ hC4).mono ?_
   rintro e w5 ⟨y, rfl, hyk, hC5, hG5⟩
   have HYK : Hid (1 ≤ ar y.k ∧ ar y.k ≤ n) := by rw [hyk]; unfold Hid; constructor <;> first | omega | assumption | (unfold ar; (repeat' split) <;> omega)
   clear hyk
   have hB5 := hB4.grown hG5 (fun k hk => by injection hk; omega)
   have hg5 := gr_trans hg4 hG5
   obtain ⟨⟨a0, a1, a2, a3⟩, y0, y1, y2, y3⟩ := blk4 hB5
   go_wp2
   exact bodyPost_ret (v := .agg #[.int .i64 y.k, .int .i64 y.a, .int .i64 y.b, .int .i64 y.c]) (ret4 rfl hB5 (.int .i64 y.k) (.int .i64 y.a) (.int .i64 y.b) (.int .i64 y.c) _ rfl) rfl ⟨y, rfl, HYK.out, Cur.set4 hC5 hgl _ _ _ _, gr_set4 hg5 (Nat.le_refl _) _ _ _ _⟩
end Go.Proofs.YtdjckjfclhjpcaaGreat
