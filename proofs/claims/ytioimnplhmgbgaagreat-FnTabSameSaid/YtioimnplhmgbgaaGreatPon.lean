/-
 Helper text (no claim of its own): the number of ones of 0 to 15, and whether a Pauli is valid, by the program and by the reference. Printed by gen_pon.py.
-/
import Derived.Test.YtioimnplhmgbgaaGreatPa
import Derived.Test.YtioimnplhmgbgaaGreatIn
namespace Go.Proofs.YtioimnplhmgbgaaGreat
open Go.ChangeShapes Go.WideShapes Go.ChangeAt Go.RowKit Go.Deep
set_option linter.unusedVariables false
set_option maxRecDepth 100000 in
set_option maxHeartbeats 4000000 in
theorem impl_ones_any (v : Int) (w : World) (h0 : 0 ≤ v) (h1 : v ≤ 15) : Calls Tryz.prog 85 #[.int .i64 v] w fun e w' => e = .returned (.int .i64 (ones v)) ∧ w = w' := by
 rcases (show v = 0 ∨ v = 1 ∨ v = 2 ∨ v = 3 ∨ v = 4 ∨ v = 5 ∨ v = 6 ∨ v = 7 ∨ v = 8 ∨ v = 9 ∨ v = 10 ∨ v = 11 ∨ v = 12 ∨ v = 13 ∨ v = 14 ∨ v = 15 by omega) with rfl | rfl | rfl | rfl | rfl | rfl | rfl | rfl | rfl | rfl | rfl | rfl | rfl | rfl | rfl | rfl <;>
  (go_enter Tryz.func85, Tryz.ntmps85; go_wp2; go_ret; exact ⟨ret_int (by kernel_rfl), rfl⟩)
/-- The ones among the low k bits. -/
def onesN (v : Int) : Nat → Int
 | 0 => 0
 | k + 1 => onesN v k + andI (v / 2 ^ k) 1
theorem and_one : ∀ a : Fin 16, andI a.val 1 = (a.val : Int) % 2 := by decide
theorem bit_le {v : Int} (h0 : 0 ≤ v) (h1 : v ≤ 15) (k : Nat) : 0 ≤ andI (v / 2 ^ k) 1 ∧ andI (v / 2 ^ k) 1 ≤ 1 := by
 have hp : (0 : Int) < 2 ^ k := Int.pow_pos (by decide)
 have e0 : 0 ≤ v / 2 ^ k := Int.ediv_nonneg h0 (Int.le_of_lt hp)
 have e1 : v / 2 ^ k ≤ v := Int.ediv_le_self _ h0
 obtain ⟨a, ha⟩ := nib (v / 2 ^ k) e0 (by omega)
 rw [ha, and_one a]
 omega
theorem onesN_le {v : Int} (h0 : 0 ≤ v) (h1 : v ≤ 15) : ∀ k, 0 ≤ onesN v k ∧ onesN v k ≤ k
 | 0 => by simp [onesN]
 | k + 1 => by
  have := onesN_le h0 h1 k
  have := bit_le h0 h1 k
  simp only [onesN]
  omega
set_option maxRecDepth 100000 in
theorem onesN_64 : ∀ a : Fin 16, onesN a.val 64 = ones a.val := by decide
set_option maxRecDepth 100000 in
set_option maxHeartbeats 4000000 in
theorem spec_ones_any (v : Int) (w : World) (h0 : 0 ≤ v) (h1 : v ≤ 15) : Calls Tryz.prog 86 #[.int .i64 v] w fun e w' => e = .returned (.int .i64 (ones v)) ∧ w = w' := by
 go_enter Tryz.func86, Tryz.ntmps86
 go_wp2
 go_loop [3, 4] (fun s i => ∃ k : Nat, k ≤ 64 ∧ i = .int .i64 k ∧ s = .int .i64 (onesN v k)) (fun _ i => 64 - (intOf i).toNat)
 case atStart => exact ⟨0, Nat.zero_le _, rfl, rfl⟩
 case round =>
  obtain ⟨k, hk, rfl, rfl⟩ := hrel
  have hb := onesN_le h0 h1 k
  have hc := bit_le h0 h1 k
  by_cases hlt : k < 64
  ·have HE : Hid (onesN v (k + 1) = onesN v k + andI (v / 2 ^ k) 1) := rfl
   have hw : IntKind.i64.wrap (onesN v k + bits .and .i64 (v / 2 ^ k) 1) = onesN v k + bits .and .i64 (v / 2 ^ k) 1 := IntWalk.i64_in _ (by unfold andI at hc; omega)
   go_wp2
   go_round
   case rel => exact ⟨k + 1, by omega, by go_num, by rw [HE.out]; first | rfl | (unfold andI; go_num)⟩
   case measure => simp [intOf]; omega
  ·have : k = 64 := by omega
   subst this
   obtain ⟨a, rfl⟩ := nib v h0 h1
   go_wp2
   go_ret
   exact ⟨ret_int (onesN_64 a), rfl⟩
theorem vPa_lo {p : Pa} (h : p.n < 1 ∨ 4 < p.n) : vPa p = false := vPa_no (by omega)
theorem vPa_1 {p : Pa} (h : p.n = 1) : vPa p = (decide (0 ≤ p.x) && decide (p.x ≤ 1) && (decide (0 ≤ p.z) && decide (p.z ≤ 1)) && (decide (0 ≤ p.p) && decide (p.p ≤ 3))) := by
 have e : topOf p.n = 1 := by rw [h]; decide
 unfold vPa; rw [e, h]; simp
theorem vPa_2 {p : Pa} (h : p.n = 2) : vPa p = (decide (0 ≤ p.x) && decide (p.x ≤ 3) && (decide (0 ≤ p.z) && decide (p.z ≤ 3)) && (decide (0 ≤ p.p) && decide (p.p ≤ 3))) := by
 have e : topOf p.n = 3 := by rw [h]; decide
 unfold vPa; rw [e, h]; simp
theorem vPa_3 {p : Pa} (h : p.n = 3) : vPa p = (decide (0 ≤ p.x) && decide (p.x ≤ 7) && (decide (0 ≤ p.z) && decide (p.z ≤ 7)) && (decide (0 ≤ p.p) && decide (p.p ≤ 3))) := by
 have e : topOf p.n = 7 := by rw [h]; decide
 unfold vPa; rw [e, h]; simp
theorem vPa_4 {p : Pa} (h : p.n = 4) : vPa p = (decide (0 ≤ p.x) && decide (p.x ≤ 15) && (decide (0 ≤ p.z) && decide (p.z ≤ 15)) && (decide (0 ≤ p.p) && decide (p.p ≤ 3))) := by
 have e : topOf p.n = 15 := by rw [h]; decide
 unfold vPa; rw [e, h]; simp
set_option maxRecDepth 100000 in
set_option maxHeartbeats 8000000 in
theorem spec_IsValidPauli_any (p : Pa) (w : World) : Calls Tryz.prog 68 #[p.val] w fun e w' => e = .returned (.bool (vPa p)) ∧ Ext w w' := by
 obtain ⟨n, x, z, c⟩ := p
 by_cases hn : n < 1 ∨ 4 < n
 ·have HF : Hid (vPa ⟨n, x, z, c⟩ = false) := vPa_lo hn
  rcases hn with hn | hn
  ·have hnn : n < 1 ∨ 4 < n := by omega
   go_enter Tryz.func68, Tryz.ntmps68
   go_wp2_with (go_at_call 42; refine (l1In_no _ _ _ _ hnn).mono ?_; rintro e w1 ⟨rfl, rfl⟩)
   go_ret
   exact ⟨ret_bool HF.out.symm, xx⟩
  ·have hnn : n < 1 ∨ 4 < n := by omega
   go_enter Tryz.func68, Tryz.ntmps68
   go_wp2_with (go_at_call 42; refine (l1In_no _ _ _ _ hnn).mono ?_; rintro e w1 ⟨rfl, rfl⟩)
   go_ret
   exact ⟨ret_bool HF.out.symm, xx⟩
 rcases (show n = 1 ∨ n = 2 ∨ n = 3 ∨ n = 4 by omega) with rfl | rfl | rfl | rfl
 ·have HV : Hid (vPa ⟨1, x, z, c⟩ = (decide (0 ≤ x) && decide (x ≤ 1) && (decide (0 ≤ z) && decide (z ≤ 1)) && (decide (0 ≤ c) && decide (c ≤ 3)))) := vPa_1 rfl
  by_cases hx : x < 0 ∨ 1 < x
  ·skip
   go_enter Tryz.func68, Tryz.ntmps68
   go_wp2_with (first | (go_at_call 42; (with_reducible refine (l1In_yes 1 1 4 _ (by decide) (by decide)).mono ?_); rintro e w1 ⟨rfl, rfl⟩) | (go_at_call 42; (with_reducible refine (l1In_no x 0 1 _ hx).mono ?_); rintro e w1 ⟨rfl, rfl⟩))
   go_ret
   exact ⟨ret_bool (by rw [HV.out]; simp; omega), xx⟩
  replace hx : 0 ≤ x ∧ x ≤ 1 := by omega
  by_cases hz : z < 0 ∨ 1 < z
  ·skip
   go_enter Tryz.func68, Tryz.ntmps68
   go_wp2_with (first | (go_at_call 42; (with_reducible refine (l1In_yes 1 1 4 _ (by decide) (by decide)).mono ?_); rintro e w1 ⟨rfl, rfl⟩) | (go_at_call 42; (with_reducible refine (l1In_yes x 0 1 _ hx.1 hx.2).mono ?_); rintro e w1 ⟨rfl, rfl⟩) | (go_at_call 42; (with_reducible refine (l1In_no z 0 1 _ hz).mono ?_); rintro e w1 ⟨rfl, rfl⟩))
   go_ret
   exact ⟨ret_bool (by rw [HV.out]; simp; omega), xx⟩
  replace hz : 0 ≤ z ∧ z ≤ 1 := by omega
  by_cases hc : c < 0 ∨ 3 < c
  ·skip
   go_enter Tryz.func68, Tryz.ntmps68
   go_wp2_with (first | (go_at_call 42; (with_reducible refine (l1In_yes 1 1 4 _ (by decide) (by decide)).mono ?_); rintro e w1 ⟨rfl, rfl⟩) | (go_at_call 42; (with_reducible refine (l1In_yes x 0 1 _ hx.1 hx.2).mono ?_); rintro e w1 ⟨rfl, rfl⟩) | (go_at_call 42; (with_reducible refine (l1In_yes z 0 1 _ hz.1 hz.2).mono ?_); rintro e w1 ⟨rfl, rfl⟩) | (go_at_call 42; (with_reducible refine (l1In_no c 0 3 _ hc).mono ?_); rintro e w1 ⟨rfl, rfl⟩))
   go_ret
   exact ⟨ret_bool (by rw [HV.out]; simp; omega), xx⟩
  replace hc : 0 ≤ c ∧ c ≤ 3 := by omega
  go_enter Tryz.func68, Tryz.ntmps68
  go_wp2_with (first | (go_at_call 42; (with_reducible refine (l1In_yes 1 1 4 _ (by decide) (by decide)).mono ?_); rintro e w1 ⟨rfl, rfl⟩) | (go_at_call 42; (with_reducible refine (l1In_yes x 0 1 _ hx.1 hx.2).mono ?_); rintro e w1 ⟨rfl, rfl⟩) | (go_at_call 42; (with_reducible refine (l1In_yes z 0 1 _ hz.1 hz.2).mono ?_); rintro e w1 ⟨rfl, rfl⟩) | (go_at_call 42; (with_reducible refine (l1In_yes c 0 3 _ hc.1 hc.2).mono ?_); rintro e w1 ⟨rfl, rfl⟩))
  go_ret
  exact ⟨ret_bool (by rw [HV.out]; simp; omega), xx⟩
 ·have HV : Hid (vPa ⟨2, x, z, c⟩ = (decide (0 ≤ x) && decide (x ≤ 3) && (decide (0 ≤ z) && decide (z ≤ 3)) && (decide (0 ≤ c) && decide (c ≤ 3)))) := vPa_2 rfl
  by_cases hx : x < 0 ∨ 3 < x
  ·skip
   go_enter Tryz.func68, Tryz.ntmps68
   go_wp2_with (first | (go_at_call 42; (with_reducible refine (l1In_yes 2 1 4 _ (by decide) (by decide)).mono ?_); rintro e w1 ⟨rfl, rfl⟩) | (go_at_call 42; (with_reducible refine (l1In_no x 0 3 _ hx).mono ?_); rintro e w1 ⟨rfl, rfl⟩))
   go_ret
   exact ⟨ret_bool (by rw [HV.out]; simp; omega), xx⟩
  replace hx : 0 ≤ x ∧ x ≤ 3 := by omega
  by_cases hz : z < 0 ∨ 3 < z
  ·skip
   go_enter Tryz.func68, Tryz.ntmps68
   go_wp2_with (first | (go_at_call 42; (with_reducible refine (l1In_yes 2 1 4 _ (by decide) (by decide)).mono ?_); rintro e w1 ⟨rfl, rfl⟩) | (go_at_call 42; (with_reducible refine (l1In_yes x 0 3 _ hx.1 hx.2).mono ?_); rintro e w1 ⟨rfl, rfl⟩) | (go_at_call 42; (with_reducible refine (l1In_no z 0 3 _ hz).mono ?_); rintro e w1 ⟨rfl, rfl⟩))
   go_ret
   exact ⟨ret_bool (by rw [HV.out]; simp; omega), xx⟩
  replace hz : 0 ≤ z ∧ z ≤ 3 := by omega
  by_cases hc : c < 0 ∨ 3 < c
  ·skip
   go_enter Tryz.func68, Tryz.ntmps68
   go_wp2_with (first | (go_at_call 42; (with_reducible refine (l1In_yes 2 1 4 _ (by decide) (by decide)).mono ?_); rintro e w1 ⟨rfl, rfl⟩) | (go_at_call 42; (with_reducible refine (l1In_yes x 0 3 _ hx.1 hx.2).mono ?_); rintro e w1 ⟨rfl, rfl⟩) | (go_at_call 42; (with_reducible refine (l1In_yes z 0 3 _ hz.1 hz.2).mono ?_); rintro e w1 ⟨rfl, rfl⟩) | (go_at_call 42; (with_reducible refine (l1In_no c 0 3 _ hc).mono ?_); rintro e w1 ⟨rfl, rfl⟩))
   go_ret
   exact ⟨ret_bool (by rw [HV.out]; simp; omega), xx⟩
  replace hc : 0 ≤ c ∧ c ≤ 3 := by omega
  go_enter Tryz.func68, Tryz.ntmps68
  go_wp2_with (first | (go_at_call 42; (with_reducible refine (l1In_yes 2 1 4 _ (by decide) (by decide)).mono ?_); rintro e w1 ⟨rfl, rfl⟩) | (go_at_call 42; (with_reducible refine (l1In_yes x 0 3 _ hx.1 hx.2).mono ?_); rintro e w1 ⟨rfl, rfl⟩) | (go_at_call 42; (with_reducible refine (l1In_yes z 0 3 _ hz.1 hz.2).mono ?_); rintro e w1 ⟨rfl, rfl⟩) | (go_at_call 42; (with_reducible refine (l1In_yes c 0 3 _ hc.1 hc.2).mono ?_); rintro e w1 ⟨rfl, rfl⟩))
  go_ret
  exact ⟨ret_bool (by rw [HV.out]; simp; omega), xx⟩
 ·have HV : Hid (vPa ⟨3, x, z, c⟩ = (decide (0 ≤ x) && decide (x ≤ 7) && (decide (0 ≤ z) && decide (z ≤ 7)) && (decide (0 ≤ c) && decide (c ≤ 3)))) := vPa_3 rfl
  by_cases hx : x < 0 ∨ 7 < x
  ·skip
   go_enter Tryz.func68, Tryz.ntmps68
   go_wp2_with (first | (go_at_call 42; (with_reducible refine (l1In_yes 3 1 4 _ (by decide) (by decide)).mono ?_); rintro e w1 ⟨rfl, rfl⟩) | (go_at_call 42; (with_reducible refine (l1In_no x 0 7 _ hx).mono ?_); rintro e w1 ⟨rfl, rfl⟩))
   go_ret
   exact ⟨ret_bool (by rw [HV.out]; simp; omega), xx⟩
  replace hx : 0 ≤ x ∧ x ≤ 7 := by omega
  by_cases hz : z < 0 ∨ 7 < z
  ·skip
   go_enter Tryz.func68, Tryz.ntmps68
   go_wp2_with (first | (go_at_call 42; (with_reducible refine (l1In_yes 3 1 4 _ (by decide) (by decide)).mono ?_); rintro e w1 ⟨rfl, rfl⟩) | (go_at_call 42; (with_reducible refine (l1In_yes x 0 7 _ hx.1 hx.2).mono ?_); rintro e w1 ⟨rfl, rfl⟩) | (go_at_call 42; (with_reducible refine (l1In_no z 0 7 _ hz).mono ?_); rintro e w1 ⟨rfl, rfl⟩))
   go_ret
   exact ⟨ret_bool (by rw [HV.out]; simp; omega), xx⟩
  replace hz : 0 ≤ z ∧ z ≤ 7 := by omega
  by_cases hc : c < 0 ∨ 3 < c
  ·skip
   go_enter Tryz.func68, Tryz.ntmps68
   go_wp2_with (first | (go_at_call 42; (with_reducible refine (l1In_yes 3 1 4 _ (by decide) (by decide)).mono ?_); rintro e w1 ⟨rfl, rfl⟩) | (go_at_call 42; (with_reducible refine (l1In_yes x 0 7 _ hx.1 hx.2).mono ?_); rintro e w1 ⟨rfl, rfl⟩) | (go_at_call 42; (with_reducible refine (l1In_yes z 0 7 _ hz.1 hz.2).mono ?_); rintro e w1 ⟨rfl, rfl⟩) | (go_at_call 42; (with_reducible refine (l1In_no c 0 3 _ hc).mono ?_); rintro e w1 ⟨rfl, rfl⟩))
   go_ret
   exact ⟨ret_bool (by rw [HV.out]; simp; omega), xx⟩
  replace hc : 0 ≤ c ∧ c ≤ 3 := by omega
  go_enter Tryz.func68, Tryz.ntmps68
  go_wp2_with (first | (go_at_call 42; (with_reducible refine (l1In_yes 3 1 4 _ (by decide) (by decide)).mono ?_); rintro e w1 ⟨rfl, rfl⟩) | (go_at_call 42; (with_reducible refine (l1In_yes x 0 7 _ hx.1 hx.2).mono ?_); rintro e w1 ⟨rfl, rfl⟩) | (go_at_call 42; (with_reducible refine (l1In_yes z 0 7 _ hz.1 hz.2).mono ?_); rintro e w1 ⟨rfl, rfl⟩) | (go_at_call 42; (with_reducible refine (l1In_yes c 0 3 _ hc.1 hc.2).mono ?_); rintro e w1 ⟨rfl, rfl⟩))
  go_ret
  exact ⟨ret_bool (by rw [HV.out]; simp; omega), xx⟩
 ·have HV : Hid (vPa ⟨4, x, z, c⟩ = (decide (0 ≤ x) && decide (x ≤ 15) && (decide (0 ≤ z) && decide (z ≤ 15)) && (decide (0 ≤ c) && decide (c ≤ 3)))) := vPa_4 rfl
  by_cases hx : x < 0 ∨ 15 < x
  ·skip
   go_enter Tryz.func68, Tryz.ntmps68
   go_wp2_with (first | (go_at_call 42; (with_reducible refine (l1In_yes 4 1 4 _ (by decide) (by decide)).mono ?_); rintro e w1 ⟨rfl, rfl⟩) | (go_at_call 42; (with_reducible refine (l1In_no x 0 15 _ hx).mono ?_); rintro e w1 ⟨rfl, rfl⟩))
   go_ret
   exact ⟨ret_bool (by rw [HV.out]; simp; omega), xx⟩
  replace hx : 0 ≤ x ∧ x ≤ 15 := by omega
  by_cases hz : z < 0 ∨ 15 < z
  ·skip
   go_enter Tryz.func68, Tryz.ntmps68
   go_wp2_with (first | (go_at_call 42; (with_reducible refine (l1In_yes 4 1 4 _ (by decide) (by decide)).mono ?_); rintro e w1 ⟨rfl, rfl⟩) | (go_at_call 42; (with_reducible refine (l1In_yes x 0 15 _ hx.1 hx.2).mono ?_); rintro e w1 ⟨rfl, rfl⟩) | (go_at_call 42; (with_reducible refine (l1In_no z 0 15 _ hz).mono ?_); rintro e w1 ⟨rfl, rfl⟩))
   go_ret
   exact ⟨ret_bool (by rw [HV.out]; simp; omega), xx⟩
  replace hz : 0 ≤ z ∧ z ≤ 15 := by omega
  by_cases hc : c < 0 ∨ 3 < c
  ·skip
   go_enter Tryz.func68, Tryz.ntmps68
   go_wp2_with (first | (go_at_call 42; (with_reducible refine (l1In_yes 4 1 4 _ (by decide) (by decide)).mono ?_); rintro e w1 ⟨rfl, rfl⟩) | (go_at_call 42; (with_reducible refine (l1In_yes x 0 15 _ hx.1 hx.2).mono ?_); rintro e w1 ⟨rfl, rfl⟩) | (go_at_call 42; (with_reducible refine (l1In_yes z 0 15 _ hz.1 hz.2).mono ?_); rintro e w1 ⟨rfl, rfl⟩) | (go_at_call 42; (with_reducible refine (l1In_no c 0 3 _ hc).mono ?_); rintro e w1 ⟨rfl, rfl⟩))
   go_ret
   exact ⟨ret_bool (by rw [HV.out]; simp; omega), xx⟩
  replace hc : 0 ≤ c ∧ c ≤ 3 := by omega
  go_enter Tryz.func68, Tryz.ntmps68
  go_wp2_with (first | (go_at_call 42; (with_reducible refine (l1In_yes 4 1 4 _ (by decide) (by decide)).mono ?_); rintro e w1 ⟨rfl, rfl⟩) | (go_at_call 42; (with_reducible refine (l1In_yes x 0 15 _ hx.1 hx.2).mono ?_); rintro e w1 ⟨rfl, rfl⟩) | (go_at_call 42; (with_reducible refine (l1In_yes z 0 15 _ hz.1 hz.2).mono ?_); rintro e w1 ⟨rfl, rfl⟩) | (go_at_call 42; (with_reducible refine (l1In_yes c 0 3 _ hc.1 hc.2).mono ?_); rintro e w1 ⟨rfl, rfl⟩))
  go_ret
  exact ⟨ret_bool (by rw [HV.out]; simp; omega), xx⟩
set_option maxRecDepth 100000 in
set_option maxHeartbeats 8000000 in
theorem impl_IsValidPauli_any (p : Pa) (w : World) : Calls Tryz.prog 60 #[p.val] w fun e w' => e = .returned (.bool (vPa p)) ∧ Ext w w' := by
 obtain ⟨n, x, z, c⟩ := p
 by_cases hn : n < 1 ∨ 4 < n
 ·have HF : Hid (vPa ⟨n, x, z, c⟩ = false) := vPa_lo hn
  rcases hn with hn | hn
  ·have hnn : n < 1 ∨ 4 < n := by omega
   go_enter Tryz.func60, Tryz.ntmps60
   go_wp2_with fail
   go_quiet ((go_at_call 37; exact quiet_left (in_no _ _ _ _ hnn)))
   go_wp2
   go_ret
   exact ⟨ret_bool HF.out.symm, xx⟩
  ·have hnn : n < 1 ∨ 4 < n := by omega
   go_enter Tryz.func60, Tryz.ntmps60
   go_wp2_with fail
   go_quiet ((go_at_call 37; exact quiet_left (in_no _ _ _ _ hnn)))
   go_wp2
   go_ret
   exact ⟨ret_bool HF.out.symm, xx⟩
 rcases (show n = 1 ∨ n = 2 ∨ n = 3 ∨ n = 4 by omega) with rfl | rfl | rfl | rfl
 ·have HV : Hid (vPa ⟨1, x, z, c⟩ = (decide (0 ≤ x) && decide (x ≤ 1) && (decide (0 ≤ z) && decide (z ≤ 1)) && (decide (0 ≤ c) && decide (c ≤ 3)))) := vPa_1 rfl
  by_cases hx : x < 0 ∨ 1 < x
  ·skip
   go_enter Tryz.func60, Tryz.ntmps60
   go_wp2_with fail
   go_quiet (first | (go_at_call 37; (with_reducible exact quiet_left (in_yes 1 1 4 _ (by decide) (by decide)))) | (go_at_call 37; (with_reducible exact quiet_left (in_no x 0 1 _ hx))))
   go_wp2
   go_ret
   exact ⟨ret_bool (by rw [HV.out]; simp; omega), xx⟩
  replace hx : 0 ≤ x ∧ x ≤ 1 := by omega
  by_cases hz : z < 0 ∨ 1 < z
  ·skip
   go_enter Tryz.func60, Tryz.ntmps60
   go_wp2_with fail
   go_quiet (first | (go_at_call 37; (with_reducible exact quiet_left (in_yes 1 1 4 _ (by decide) (by decide)))) | (go_at_call 37; (with_reducible exact quiet_left (in_yes x 0 1 _ hx.1 hx.2))) | (go_at_call 37; (with_reducible exact quiet_left (in_no z 0 1 _ hz))))
   go_wp2
   go_ret
   exact ⟨ret_bool (by rw [HV.out]; simp; omega), xx⟩
  replace hz : 0 ≤ z ∧ z ≤ 1 := by omega
  by_cases hc : c < 0 ∨ 3 < c
  ·skip
   go_enter Tryz.func60, Tryz.ntmps60
   go_wp2_with fail
   go_quiet (first | (go_at_call 37; (with_reducible exact quiet_left (in_yes 1 1 4 _ (by decide) (by decide)))) | (go_at_call 37; (with_reducible exact quiet_left (in_yes x 0 1 _ hx.1 hx.2))) | (go_at_call 37; (with_reducible exact quiet_left (in_yes z 0 1 _ hz.1 hz.2))) | (go_at_call 37; (with_reducible exact quiet_left (in_no c 0 3 _ hc))))
   go_wp2
   go_ret
   exact ⟨ret_bool (by rw [HV.out]; simp; omega), xx⟩
  replace hc : 0 ≤ c ∧ c ≤ 3 := by omega
  go_enter Tryz.func60, Tryz.ntmps60
  go_wp2_with fail
  go_quiet (first | (go_at_call 37; (with_reducible exact quiet_left (in_yes 1 1 4 _ (by decide) (by decide)))) | (go_at_call 37; (with_reducible exact quiet_left (in_yes x 0 1 _ hx.1 hx.2))) | (go_at_call 37; (with_reducible exact quiet_left (in_yes z 0 1 _ hz.1 hz.2))) | (go_at_call 37; (with_reducible exact quiet_left (in_yes c 0 3 _ hc.1 hc.2))))
  go_wp2
  go_ret
  exact ⟨ret_bool (by rw [HV.out]; simp; omega), xx⟩
 ·have HV : Hid (vPa ⟨2, x, z, c⟩ = (decide (0 ≤ x) && decide (x ≤ 3) && (decide (0 ≤ z) && decide (z ≤ 3)) && (decide (0 ≤ c) && decide (c ≤ 3)))) := vPa_2 rfl
  by_cases hx : x < 0 ∨ 3 < x
  ·skip
   go_enter Tryz.func60, Tryz.ntmps60
   go_wp2_with fail
   go_quiet (first | (go_at_call 37; (with_reducible exact quiet_left (in_yes 2 1 4 _ (by decide) (by decide)))) | (go_at_call 37; (with_reducible exact quiet_left (in_no x 0 3 _ hx))))
   go_wp2
   go_ret
   exact ⟨ret_bool (by rw [HV.out]; simp; omega), xx⟩
  replace hx : 0 ≤ x ∧ x ≤ 3 := by omega
  by_cases hz : z < 0 ∨ 3 < z
  ·skip
   go_enter Tryz.func60, Tryz.ntmps60
   go_wp2_with fail
   go_quiet (first | (go_at_call 37; (with_reducible exact quiet_left (in_yes 2 1 4 _ (by decide) (by decide)))) | (go_at_call 37; (with_reducible exact quiet_left (in_yes x 0 3 _ hx.1 hx.2))) | (go_at_call 37; (with_reducible exact quiet_left (in_no z 0 3 _ hz))))
   go_wp2
   go_ret
   exact ⟨ret_bool (by rw [HV.out]; simp; omega), xx⟩
  replace hz : 0 ≤ z ∧ z ≤ 3 := by omega
  by_cases hc : c < 0 ∨ 3 < c
  ·skip
   go_enter Tryz.func60, Tryz.ntmps60
   go_wp2_with fail
   go_quiet (first | (go_at_call 37; (with_reducible exact quiet_left (in_yes 2 1 4 _ (by decide) (by decide)))) | (go_at_call 37; (with_reducible exact quiet_left (in_yes x 0 3 _ hx.1 hx.2))) | (go_at_call 37; (with_reducible exact quiet_left (in_yes z 0 3 _ hz.1 hz.2))) | (go_at_call 37; (with_reducible exact quiet_left (in_no c 0 3 _ hc))))
   go_wp2
   go_ret
   exact ⟨ret_bool (by rw [HV.out]; simp; omega), xx⟩
  replace hc : 0 ≤ c ∧ c ≤ 3 := by omega
  go_enter Tryz.func60, Tryz.ntmps60
  go_wp2_with fail
  go_quiet (first | (go_at_call 37; (with_reducible exact quiet_left (in_yes 2 1 4 _ (by decide) (by decide)))) | (go_at_call 37; (with_reducible exact quiet_left (in_yes x 0 3 _ hx.1 hx.2))) | (go_at_call 37; (with_reducible exact quiet_left (in_yes z 0 3 _ hz.1 hz.2))) | (go_at_call 37; (with_reducible exact quiet_left (in_yes c 0 3 _ hc.1 hc.2))))
  go_wp2
  go_ret
  exact ⟨ret_bool (by rw [HV.out]; simp; omega), xx⟩
 ·have HV : Hid (vPa ⟨3, x, z, c⟩ = (decide (0 ≤ x) && decide (x ≤ 7) && (decide (0 ≤ z) && decide (z ≤ 7)) && (decide (0 ≤ c) && decide (c ≤ 3)))) := vPa_3 rfl
  by_cases hx : x < 0 ∨ 7 < x
  ·skip
   go_enter Tryz.func60, Tryz.ntmps60
   go_wp2_with fail
   go_quiet (first | (go_at_call 37; (with_reducible exact quiet_left (in_yes 3 1 4 _ (by decide) (by decide)))) | (go_at_call 37; (with_reducible exact quiet_left (in_no x 0 7 _ hx))))
   go_wp2
   go_ret
   exact ⟨ret_bool (by rw [HV.out]; simp; omega), xx⟩
  replace hx : 0 ≤ x ∧ x ≤ 7 := by omega
  by_cases hz : z < 0 ∨ 7 < z
  ·skip
   go_enter Tryz.func60, Tryz.ntmps60
   go_wp2_with fail
   go_quiet (first | (go_at_call 37; (with_reducible exact quiet_left (in_yes 3 1 4 _ (by decide) (by decide)))) | (go_at_call 37; (with_reducible exact quiet_left (in_yes x 0 7 _ hx.1 hx.2))) | (go_at_call 37; (with_reducible exact quiet_left (in_no z 0 7 _ hz))))
   go_wp2
   go_ret
   exact ⟨ret_bool (by rw [HV.out]; simp; omega), xx⟩
  replace hz : 0 ≤ z ∧ z ≤ 7 := by omega
  by_cases hc : c < 0 ∨ 3 < c
  ·skip
   go_enter Tryz.func60, Tryz.ntmps60
   go_wp2_with fail
   go_quiet (first | (go_at_call 37; (with_reducible exact quiet_left (in_yes 3 1 4 _ (by decide) (by decide)))) | (go_at_call 37; (with_reducible exact quiet_left (in_yes x 0 7 _ hx.1 hx.2))) | (go_at_call 37; (with_reducible exact quiet_left (in_yes z 0 7 _ hz.1 hz.2))) | (go_at_call 37; (with_reducible exact quiet_left (in_no c 0 3 _ hc))))
   go_wp2
   go_ret
   exact ⟨ret_bool (by rw [HV.out]; simp; omega), xx⟩
  replace hc : 0 ≤ c ∧ c ≤ 3 := by omega
  go_enter Tryz.func60, Tryz.ntmps60
  go_wp2_with fail
  go_quiet (first | (go_at_call 37; (with_reducible exact quiet_left (in_yes 3 1 4 _ (by decide) (by decide)))) | (go_at_call 37; (with_reducible exact quiet_left (in_yes x 0 7 _ hx.1 hx.2))) | (go_at_call 37; (with_reducible exact quiet_left (in_yes z 0 7 _ hz.1 hz.2))) | (go_at_call 37; (with_reducible exact quiet_left (in_yes c 0 3 _ hc.1 hc.2))))
  go_wp2
  go_ret
  exact ⟨ret_bool (by rw [HV.out]; simp; omega), xx⟩
 ·have HV : Hid (vPa ⟨4, x, z, c⟩ = (decide (0 ≤ x) && decide (x ≤ 15) && (decide (0 ≤ z) && decide (z ≤ 15)) && (decide (0 ≤ c) && decide (c ≤ 3)))) := vPa_4 rfl
  by_cases hx : x < 0 ∨ 15 < x
  ·skip
   go_enter Tryz.func60, Tryz.ntmps60
   go_wp2_with fail
   go_quiet (first | (go_at_call 37; (with_reducible exact quiet_left (in_yes 4 1 4 _ (by decide) (by decide)))) | (go_at_call 37; (with_reducible exact quiet_left (in_no x 0 15 _ hx))))
   go_wp2
   go_ret
   exact ⟨ret_bool (by rw [HV.out]; simp; omega), xx⟩
  replace hx : 0 ≤ x ∧ x ≤ 15 := by omega
  by_cases hz : z < 0 ∨ 15 < z
  ·skip
   go_enter Tryz.func60, Tryz.ntmps60
   go_wp2_with fail
   go_quiet (first | (go_at_call 37; (with_reducible exact quiet_left (in_yes 4 1 4 _ (by decide) (by decide)))) | (go_at_call 37; (with_reducible exact quiet_left (in_yes x 0 15 _ hx.1 hx.2))) | (go_at_call 37; (with_reducible exact quiet_left (in_no z 0 15 _ hz))))
   go_wp2
   go_ret
   exact ⟨ret_bool (by rw [HV.out]; simp; omega), xx⟩
  replace hz : 0 ≤ z ∧ z ≤ 15 := by omega
  by_cases hc : c < 0 ∨ 3 < c
  ·skip
   go_enter Tryz.func60, Tryz.ntmps60
   go_wp2_with fail
   go_quiet (first | (go_at_call 37; (with_reducible exact quiet_left (in_yes 4 1 4 _ (by decide) (by decide)))) | (go_at_call 37; (with_reducible exact quiet_left (in_yes x 0 15 _ hx.1 hx.2))) | (go_at_call 37; (with_reducible exact quiet_left (in_yes z 0 15 _ hz.1 hz.2))) | (go_at_call 37; (with_reducible exact quiet_left (in_no c 0 3 _ hc))))
   go_wp2
   go_ret
   exact ⟨ret_bool (by rw [HV.out]; simp; omega), xx⟩
  replace hc : 0 ≤ c ∧ c ≤ 3 := by omega
  go_enter Tryz.func60, Tryz.ntmps60
  go_wp2_with fail
  go_quiet (first | (go_at_call 37; (with_reducible exact quiet_left (in_yes 4 1 4 _ (by decide) (by decide)))) | (go_at_call 37; (with_reducible exact quiet_left (in_yes x 0 15 _ hx.1 hx.2))) | (go_at_call 37; (with_reducible exact quiet_left (in_yes z 0 15 _ hz.1 hz.2))) | (go_at_call 37; (with_reducible exact quiet_left (in_yes c 0 3 _ hc.1 hc.2))))
  go_wp2
  go_ret
  exact ⟨ret_bool (by rw [HV.out]; simp; omega), xx⟩
end Go.Proofs.YtioimnplhmgbgaaGreat
