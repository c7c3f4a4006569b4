/-
 Helper text (no claim of its own): the arity of a gate's kind, by the program and by the reference.
-/
import Derived.Test.YtdjckjfclhjpcaaGreatIn
namespace Go.Proofs.YtdjckjfclhjpcaaGreat
open Go.ChangeShapes Go.WideShapes Go.ChangeAt Go.RowKit Go.Deep
def ar (k : Int) : Int := if 1 ≤ k ∧ k ≤ 8 then 1 else if 9 ≤ k ∧ k ≤ 11 then 2 else if k = 12 then 3 else 0
theorem ar_range (k : Int) : 0 ≤ ar k ∧ ar k ≤ 3 := by unfold ar; omega
theorem ar1 {k : Int} (h : 1 ≤ k ∧ k ≤ 8) : ar k = 1 := by unfold ar; omega
theorem ar2 {k : Int} (h : 9 ≤ k ∧ k ≤ 11) : ar k = 2 := by unfold ar; omega
theorem ar3 {k : Int} (h : k = 12) : ar k = 3 := by unfold ar; omega
theorem ar0 {k : Int} (h : k < 1 ∨ 12 < k) : ar k = 0 := by unfold ar; omega
theorem spec_Arity_any (k : Int) (w : World) : Calls Tryz.prog 50 #[.int .i64 k] w fun e w' => e = .returned (.int .i64 (ar k)) ∧ w = w' := by
 rcases (by omega : (1 ≤ k ∧ k ≤ 8) ∨ (9 ≤ k ∧ k ≤ 11) ∨ k = 12 ∨ (k < 1 ∨ 12 < k)) with h | h | h | h
 ·rw [ar1 h]
  go_enter Tryz.func50, Tryz.ntmps50
  go_wp2_with fail
  refine (l1In_yes _ _ _ _ h.1 h.2).mono ?_
  rintro e w' ⟨rfl, rfl⟩
  go_wp2
  go_ret
  exact ⟨rfl, rfl⟩
 ·rw [ar2 h]
  go_enter Tryz.func50, Tryz.ntmps50
  go_wp2_with fail
  refine (l1In_no _ _ _ _ (by omega)).mono ?_
  rintro e w' ⟨rfl, rfl⟩
  go_wp2_with fail
  refine (l1In_yes _ _ _ _ h.1 h.2).mono ?_
  rintro e w' ⟨rfl, rfl⟩
  go_wp2
  go_ret
  exact ⟨rfl, rfl⟩
 ·rw [ar3 h]
  subst h
  go_enter Tryz.func50, Tryz.ntmps50
  go_wp2
  go_ret
  exact ⟨rfl, rfl⟩
 ·rw [ar0 h]
  have hne : (k == 12) = false := by rw [beq_eq_false_iff_ne]; omega
  have H := Lib.hid h
  clear h
  go_enter Tryz.func50, Tryz.ntmps50
  go_wp2_with fail
  refine (l1In_no _ _ _ _ (by have := H.out; omega)).mono ?_
  rintro e w' ⟨rfl, rfl⟩
  go_wp2_with fail
  refine (l1In_no _ _ _ _ (by have := H.out; omega)).mono ?_
  rintro e w' ⟨rfl, rfl⟩
  go_wp2
  go_ret
  exact ⟨rfl, rfl⟩
end Go.Proofs.YtdjckjfclhjpcaaGreat
