/-
 Helper text (no claim of its own): drawn permutations and gates. Only that they return, and what their results are made of.
-/
import Derived.Test.YtdjckjfclhjpcaaGreatDraw
import Derived.Test.YtdjckjfclhjpcaaGreatGate
import Derived.Test.YtdjckjfclhjpcaaGreatArity
namespace Go.Proofs.YtdjckjfclhjpcaaGreat
open Go.ChangeShapes Go.WideShapes Go.ChangeAt Go.RowKit Go.Deep
/-- The world without the blocks from B on. -/
def cutW (w : World) (B : Nat) : World := { w with heap := w.heap.extract 0 B }
theorem cutW_size {w : World} {B : Nat} (h : B ≤ w.heap.size) : (cutW w B).heap.size = B := by simp [cutW]; omega
theorem cutW_ext {w : World} {B : Nat} (h : B ≤ w.heap.size) : Ext (cutW w B) w := by
 refine ⟨rfl, rfl, rfl, by rw [cutW_size h]; exact h, fun k hk => ?_⟩
 rw [cutW_size h] at hk
 simp [cutW, Array.getElem?_extract]
 omega
theorem gr_trans {a b c : World} {row : Option Nat} (h : a.grownBy b row) (k : b.grownBy c row) : a.grownBy c row := h.trans k
/-- What happened to rows of the callee's own does not matter to the caller. -/
theorem gr_new {a b c : World} {g : Nat} {row : Option Nat} (h : a.grownBy b (some g)) (k : b.grownBy c row) (hr : ∀ q, row = some q → a.heap.size ≤ q) : a.grownBy c (some g) :=
 ⟨k.os.trans h.os, k.tape.trans h.tape, k.output.trans h.output, Nat.le_trans h.size k.size, fun q hq hne => (k.block q (Nat.lt_of_lt_of_le hq h.size) (fun e => by have := hr q e.symm; omega)).trans (h.block q hq hne)⟩
theorem gr_ext {a b c : World} {row : Option Nat} (h : a.grownBy b row) (k : Ext b c) : a.grownBy c row := gr_trans h (k.gr row)
theorem gr_set {a b : World} {g : Nat} (h : a.grownBy b (some g)) {p : Addr} (hp : a.heap.size ≤ p.block) (u : Value) : a.grownBy (b.setCell p u) (some g) :=
 ⟨h.os, h.tape, h.output, by simpa [World.setCell] using h.size, fun k hk hne => (Below.heap_setCell b p u k (fun e => by omega)).trans (h.block k hk hne)⟩
theorem gr_alloc {a b : World} {row : Option Nat} (h : a.grownBy b row) (o : Obj) : a.grownBy (b.alloc o) row := gr_ext h ((Ext.refl b).alloc o)
theorem Cur.set_ {w : World} {g : Nat} (h : Cur w g) {p : Addr} (hp : g < p.block) (u : Value) : Cur (w.setCell p u) g := by
 have hl := h.lt
 exact h.grown (row := some p.block) ⟨rfl, rfl, rfl, by simp [World.setCell], fun k hk hne => Below.heap_setCell w p u k (fun e => hne (by rw [e]))⟩ (fun k hk => by injection hk; omega)
theorem Cur.alloc {w : World} {g : Nat} (h : Cur w g) (o : Obj) : Cur (w.alloc o) g := h.ext ((Ext.refl w).alloc o)

/-- Block b is a row of ints, the first n of which are read. -/
def IntRow (w : World) (b cap n : Nat) : Prop :=
 n ≤ cap ∧ cap ≤ maxLen ∧ ∃ cur : Array Value, w.heap[b]? = some (.cells cur 3 (0, 0)) ∧ cur.size = cap ∧ ∃ xs : List Int, xs.length = n ∧ (∀ j, I64 (xs.getD j 0)) ∧ ∀ j, j < n → cur[j]? = some (.int .i64 (xs.getD j 0))
theorem IntRow.lt {w : World} {b cap n : Nat} (h : IntRow w b cap n) : b < w.heap.size := by
 obtain ⟨_, _, cur, hc, _⟩ := h
 rcases Nat.lt_or_ge b w.heap.size with hlt | hge
 ·exact hlt
 ·rw [Array.getElem?_eq_none hge] at hc; cases hc
theorem IntRow.cell {w : World} {b cap n : Nat} (h : IntRow w b cap n) {j : Nat} (hj : j < n) : ∃ y, w.cell? ⟨b, j, none⟩ = some (.int .i64 y) := by
 obtain ⟨_, _, cur, hc, _, xs, _, _, hx⟩ := h
 rw [cell_of_row w b j cur _ (0, 0) hc]
 exact ⟨_, hx j hj⟩
theorem IntRow.cellR {w : World} {b cap n : Nat} (h : IntRow w b cap n) {j : Nat} (hj : j < n) : ∃ y, w.cell? ⟨b, j, none⟩ = some (.int .i64 y) ∧ I64 y := by
 obtain ⟨_, _, cur, hc, _, xs, _, hr, hx⟩ := h
 rw [cell_of_row w b j cur _ (0, 0) hc]
 exact ⟨_, hx j hj, hr j⟩
theorem getD_I64 {xs : List Int} (h : ∀ x ∈ xs, I64 x) (j : Nat) : I64 (xs.getD j 0) := by
 rw [List.getD_eq_getElem?_getD]
 cases e : xs[j]? with
 | none => exact ⟨by simp, by simp⟩
 | some y => exact h y (List.mem_of_getElem? e)
theorem mem_I64 {xs : List Int} (h : ∀ j, I64 (xs.getD j 0)) : ∀ x ∈ xs, I64 x := by
 intro x hx
 obtain ⟨j, hj⟩ := List.mem_iff_getElem?.1 hx
 have := h j
 rwa [List.getD_eq_getElem?_getD, hj] at this
theorem IntRow.frozen {w : World} {b cap n : Nat} (h : IntRow w b cap n) (j : Nat) : w.frozen? ⟨b, j, none⟩ = false := by
 obtain ⟨_, _, cur, hc, _⟩ := h
 exact frozen_of_row w b j cur _ hc
theorem IntRow.set_ {w : World} {b cap n : Nat} (h : IntRow w b cap n) (j : Nat) (y : Int) (hy : I64 y) : IntRow (w.setCell ⟨b, j, none⟩ (.int .i64 y)) b cap n := by
 obtain ⟨h1, h2, cur, hc, hs, xs, hl, hr, hx⟩ := h
 refine ⟨h1, h2, cur.setIfInBounds j (.int .i64 y), heap_setCell_same w b j cur _ _ hc, by simpa using hs, xs.set j y, by simpa using hl, getD_I64 (fun x hx => ?_), fun q hq => ?_⟩
 ·rcases List.mem_or_eq_of_mem_set hx with h | h
  ·exact mem_I64 hr x h
  ·rw [h]; exact hy
 rw [Array.getElem?_setIfInBounds]
 by_cases e : j = q
 ·subst e
  rw [if_pos rfl, if_pos (by omega), List.getD_eq_getElem?_getD, List.getElem?_set_self (by omega)]
  rfl
 ·rw [if_neg e, hx q hq, List.getD_eq_getElem?_getD, List.getD_eq_getElem?_getD, List.getElem?_set_ne e]
theorem IntRow.grown {w w' : World} {b cap n : Nat} {row : Option Nat} (h : IntRow w b cap n) (hg : w.grownBy w' row) (hr : ∀ k, row = some k → b ≠ k) : IntRow w' b cap n := by
 have hl := h.lt
 obtain ⟨h1, h2, cur, hc, r⟩ := h
 exact ⟨h1, h2, cur, (hg.block b hl (fun e => hr b e.symm rfl)).trans hc, r⟩
theorem IntRow.of {w : World} {B n c : Nat} {A : Option Addr} {xs : List Int} (h : w.ownsRow B 3 1 (.slice A n c) n (icells xs)) (hr : ∀ x ∈ xs, I64 x) (hn : 0 < n) : ∃ b, A = some ⟨b, 0, none⟩ ∧ B ≤ b ∧ IntRow w b c n := by
 have hlen : xs.length = n := by
  have := h.1
  rw [flat_len icell_len] at this
  omega
 have hrd := Rd.own h
 rcases h.2 with ⟨_, h0⟩ | ⟨b, cap, cur, hv, hB, hc, hnc, hmx, hs, hx⟩
 ·omega
 ·injection hv with h1 _ h3
  subst h1 h3
  refine ⟨b, rfl, hB, hnc, hmx, cur, hc, by omega, xs, hlen, getD_I64 hr, fun j hj => ?_⟩
  obtain ⟨b', o', y, e, _, hy, hcell⟩ := int_at hrd hj
  injection e with e
  injection e with e1 e2
  subst e1 e2
  rw [Nat.zero_add, cell_of_row w b j cur _ (0, 0) hc] at hcell
  rw [hcell, List.getD_eq_getElem?_getD, hy]
  rfl
theorem IntRow.own {w : World} {B b cap n : Nat} (h : IntRow w b cap n) (hB : B ≤ b) : ∃ xs, (∀ x ∈ xs, I64 x) ∧ w.ownsRow B 3 1 (.slice (some ⟨b, 0, none⟩) n cap) n (icells xs) := by
 obtain ⟨h1, h2, cur, hc, hs, xs, hl, hr, hx⟩ := h
 refine ⟨xs, mem_I64 hr, by rw [flat_len icell_len, hl], .inr ⟨b, cap, cur, rfl, hB, hc, h1, h2, by omega, ?_⟩⟩
 apply List.ext_getElem?
 intro j
 rcases Nat.lt_or_ge j n with hlt | hge
 ·have h3 := flat_at icell_len xs j (xs.getD j 0) (by rw [List.getD_eq_getElem?_getD, List.getElem?_eq_getElem (by omega)]; rfl) 0 (by omega)
  rw [Nat.mul_one, Nat.add_zero] at h3
  rw [List.getElem?_take_of_lt (by omega), Array.getElem?_toList, hx j hlt]
  exact h3.symm
 ·rw [List.getElem?_eq_none (by rw [List.length_take]; omega), List.getElem?_eq_none (by rw [flat_len icell_len]; omega)]

set_option maxRecDepth 100000 in
set_option maxHeartbeats 1000000 in
theorem spec_IdentityPermutation_any (n : Nat) (hn : 1 ≤ n ∧ n ≤ 4) (w : World) :
  Calls Tryz.prog 66 #[.int .i64 n] w fun e w' => ∃ v xs, e = .returned v ∧ (∀ x ∈ xs, I64 x) ∧ w'.ownsRow w.heap.size 3 1 v n (icells xs) ∧ Ext w w' := by
 obtain ⟨hn1, hn4⟩ := hn
 go_enter Tryz.func66, Tryz.ntmps66
 go_wp2
 go_loopw [3, 4] (fun v i wr => ∃ (k : Nat) (xs : List Int), k ≤ n ∧ i = .int .i64 k ∧ Hid (∀ x ∈ xs, I64 x) ∧ wr.ownsRow w.heap.size 3 1 v k (icells xs) ∧ Ext w wr) (fun _ i _ => n - (intOf i).toNat)
 case atStart => exact ⟨0, [], Nat.zero_le _, rfl, Lib.hid (by simp), own_empty w w _ _ (Ext.refl _), xx⟩
 case round =>
  obtain ⟨k, xs, hk, rfl, HR, hown, hx⟩ := hrel
  go_wp2_with fail
  refine (l1In_yes _ _ _ _ (by omega) (by omega)).mono ?_
  rintro e w1 ⟨rfl, rfl⟩
  by_cases hlt : k < n
  ·go_wp2_with (at_builtin; refine appInt rfl _ _ rfl _ k xs rfl hown hx (k : Int) _ _ rfl rfl (by omega) ?_; intro v1 w1 hown1 hx1 hg1 hb1)
   go_roundw
   case rel => exact ⟨k + 1, _, by omega, by go_num, Lib.hid (fun x hx => by rcases List.mem_append.1 hx with h | h; exact HR.out x h; (simp at h; subst h; unfold I64; omega)), hown1, hx1⟩
   case measure => simp [intOf]; omega
  ·obtain rfl : k = n := by omega
   go_wp2
   go_ret
   exact ⟨_, xs, rfl, HR.out, hown, hx⟩

set_option maxRecDepth 100000 in
set_option maxHeartbeats 2000000 in
theorem l8Perm_any (g n : Nat) (hn : 1 ≤ n ∧ n ≤ 4) (w : World) (h : Cur w g) :
  Calls Tryz.prog 48 #[.pointer (some ⟨g, 0, none⟩), .int .i64 n] w fun e w' => ∃ b c, e = .returned (.slice (some ⟨b, 0, none⟩) n c) ∧ w.heap.size ≤ b ∧ IntRow w' b c n ∧ Cur w' g ∧ w.grownBy w' (some g) := by
 obtain ⟨hn1, hn4⟩ := hn
 have hgl := h.lt
 go_enter Tryz.func48, Tryz.ntmps48
 go_wp2_with fail
 refine (spec_IdentityPermutation_any n ⟨hn1, hn4⟩ _).mono ?_
 rintro e w1 ⟨v1, xs, rfl, hr1, ho1, hx1⟩
 obtain ⟨A1, c1, rfl, _⟩ := own_slice ho1
 obtain ⟨b, rfl, hB, hI⟩ := IntRow.of ho1 hr1 (by omega)
 clear hr1
 have hC := h.ext hx1
 have hG := hx1.gr (some g)
 clear ho1 hx1
 go_wp2
 go_loopw [6] (fun i wr => ∃ k : Nat, k < n ∧ i = .int .i64 k ∧ IntRow wr b c1 n ∧ Cur wr g ∧ w.grownBy wr (some g)) (fun i _ => (intOf i).toNat)
 case atStart => exact ⟨n - 1, by omega, by go_num, hI, hC, hG⟩
 case round =>
  clear hI hC hG
  obtain ⟨k, hk, rfl, hI, hC, hG⟩ := hrel
  by_cases h0 : 0 < k
  ·go_wp2_with fail
   refine (l1Below_any g _ _ hC (by omega)).mono ?_
   rintro e w2 ⟨x, rfl, ⟨hx0, hx1, _⟩, hC2, hg2⟩
   obtain ⟨j, rfl⟩ := Int.eq_ofNat_of_zero_le hx0
   have hj : j < n := by have := hx1 (by omega); omega
   clear hx1 hx0
   have hI2 := hI.grown hg2 (fun q hq => by injection hq; omega)
   have hG2 := gr_trans hG hg2
   obtain ⟨y, hy, hyR⟩ := hI2.cellR hk
   obtain ⟨z, hz, hzR⟩ := hI2.cellR hj
   have HY := Lib.hid hyR
   clear hyR
   have fk := hI2.frozen k
   have hI3 := hI2.set_ k z hzR
   clear hzR
   obtain ⟨u, hu⟩ := hI3.cell hj
   have fj := hI3.frozen j
   go_wp2
   go_roundw
   case rel => exact ⟨k - 1, by omega, by go_num, hI3.set_ j y HY.out, (hC2.set_ (p := ⟨b, k, none⟩) (by simp; omega) _).set_ (p := ⟨b, j, none⟩) (by simp; omega) _, gr_set (gr_set hG2 (p := ⟨b, k, none⟩) (by simp; omega) _) (p := ⟨b, j, none⟩) (by simp; omega) _⟩
   case measure => simp [intOf]; omega
  ·go_wp2
   go_ret
   exact ⟨b, c1, rfl, hB, hI, hC, hG⟩
end Go.Proofs.YtdjckjfclhjpcaaGreat
