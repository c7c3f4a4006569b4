/-
 Helper text (no claim of its own): the texts of gates, operations and compiled results, in plain Lean.
-/
import Derived.Test.YtdjckjfclhjpcaaGreatVop
import Derived.Test.YtdjckjfclhjpcaaGreatFi
import Derived.Test.YtdjckjfclhjpcaaGreatSval
import Derived.Lib.Join
namespace Go.Proofs.YtdjckjfclhjpcaaGreat
open Go.ChangeShapes Go.WideShapes Go.ChangeAt Go.RowKit Go.Deep
set_option linter.unusedVariables false
set_option linter.unusedSimpArgs false
/-- The name of a gate's kind. -/
def gnm (k : Int) : ByteArray :=
 if k = 1 then ⟨#[120]⟩ else if k = 2 then ⟨#[121]⟩ else if k = 3 then ⟨#[122]⟩ else if k = 4 then ⟨#[104]⟩ else if k = 5 then ⟨#[115]⟩ else if k = 6 then ⟨#[115, 100]⟩
 else if k = 7 then ⟨#[116]⟩ else if k = 8 then ⟨#[116, 100]⟩ else if k = 9 then ⟨#[99, 120]⟩ else if k = 10 then ⟨#[99, 122]⟩ else if k = 11 then ⟨#[115, 119, 97, 112]⟩ else if k = 12 then ⟨#[99, 99, 120]⟩ else ⟨#[]⟩
theorem gnm_none {k : Int} (h : k < 1 ∨ 12 < k) : gnm k = ⟨#[]⟩ := by
 unfold gnm
 repeat rw [if_neg (by omega)]
theorem gnm_size (k : Int) : (gnm k).size ≤ 4 := by
 rcases (by omega : k = 1 ∨ k = 2 ∨ k = 3 ∨ k = 4 ∨ k = 5 ∨ k = 6 ∨ k = 7 ∨ k = 8 ∨ k = 9 ∨ k = 10 ∨ k = 11 ∨ k = 12 ∨ (k < 1 ∨ 12 < k)) with rfl | rfl | rfl | rfl | rfl | rfl | rfl | rfl | rfl | rfl | rfl | rfl | h
 all_goals first | (rw [gnm_none h]; decide) | decide
end Go.Proofs.YtdjckjfclhjpcaaGreat
