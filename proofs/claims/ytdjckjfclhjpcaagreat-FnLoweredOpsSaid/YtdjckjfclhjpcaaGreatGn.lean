/-
 Helper text (no claim of its own): the names of the gates, by the program and by the reference.
-/
import Derived.Test.YtdjckjfclhjpcaaGreatLst
import Derived.Test.YtdjckjfclhjpcaaGreatTxt
namespace Go.Proofs.YtdjckjfclhjpcaaGreat
open Go.ChangeShapes Go.WideShapes Go.ChangeAt Go.RowKit Go.Deep
set_option linter.unusedVariables false
set_option maxRecDepth 100000 in
set_option maxHeartbeats 4000000 in
theorem spec_GateName_any (k : Int) (w : World) : Calls Tryz.prog 49 #[.int .i64 k] w fun e w' => e = .returned (.string (gnm k)) ∧ Ext w w' := by
 by_cases hr : 1 ≤ k ∧ k ≤ 12
 ·rcases (by omega : k = 1 ∨ k = 2 ∨ k = 3 ∨ k = 4 ∨ k = 5 ∨ k = 6 ∨ k = 7 ∨ k = 8 ∨ k = 9 ∨ k = 10 ∨ k = 11 ∨ k = 12) with rfl | rfl | rfl | rfl | rfl | rfl | rfl | rfl | rfl | rfl | rfl | rfl
  all_goals
   go_enter Tryz.func49, Tryz.ntmps49
   go_wp2_with fail
   refine (l1In_yes _ _ _ _ (by decide) (by decide)).mono ?_
   rintro e w' ⟨rfl, rfl⟩
   go_wp2
   go_ret
   exact ⟨ret_str (by first | rfl | decide), xx⟩
 ·rw [gnm_none (by omega)]
  go_enter Tryz.func49, Tryz.ntmps49
  go_wp2_with fail
  refine (l1In_no _ _ _ _ (by omega)).mono ?_
  rintro e w' ⟨rfl, rfl⟩
  go_wp2
  go_ret
  exact ⟨rfl, Ext.refl _⟩
end Go.Proofs.YtdjckjfclhjpcaaGreat
