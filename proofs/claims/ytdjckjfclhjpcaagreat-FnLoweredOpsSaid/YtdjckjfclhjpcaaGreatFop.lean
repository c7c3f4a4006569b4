/-
 Helper text (no claim of its own): the text of an operation, by the program and by the reference. Printed by gen_fop.py.
-/
import Derived.Test.YtdjckjfclhjpcaaGreatFgt
namespace Go.Proofs.YtdjckjfclhjpcaaGreat
open Go.ChangeShapes Go.WideShapes Go.ChangeAt Go.RowKit Go.Deep
set_option linter.unusedVariables false
set_option linter.unusedSimpArgs false
end Go.Proofs.YtdjckjfclhjpcaaGreat
