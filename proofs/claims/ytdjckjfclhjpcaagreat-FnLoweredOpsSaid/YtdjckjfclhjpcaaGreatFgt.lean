/-
 Helper text (no claim of its own): the text of a gate, by the program and by the reference. Printed by gen_fgt.py.
-/
import Derived.Test.YtdjckjfclhjpcaaGreatGn
import Derived.Test.YtdjckjfclhjpcaaGreatGq
namespace Go.Proofs.YtdjckjfclhjpcaaGreat
open Go.ChangeShapes Go.WideShapes Go.ChangeAt Go.RowKit Go.Deep
set_option linter.unusedVariables false
end Go.Proofs.YtdjckjfclhjpcaaGreat
