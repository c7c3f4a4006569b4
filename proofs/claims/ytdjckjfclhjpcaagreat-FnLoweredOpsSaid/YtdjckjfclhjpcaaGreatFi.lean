/-
 Helper text (no claim of its own): the texts of small numbers, by the program and by the reference.
-/
import Derived.Test.YtdjckjfclhjpcaaGreatIn
import Derived.WalkSpells
import Derived.Laws.IdiomStrings
namespace Go.Proofs.YtdjckjfclhjpcaaGreat
open Go.ChangeShapes Go.WideShapes Go.ChangeAt Go.RowKit Go.Deep
set_option linter.unusedVariables false
set_option linter.unusedSimpArgs false
theorem ret_str {a b : ByteArray} (h : a = b) : Ending.returned (.string a) = .returned (.string b) := by rw [h]
end Go.Proofs.YtdjckjfclhjpcaaGreat
