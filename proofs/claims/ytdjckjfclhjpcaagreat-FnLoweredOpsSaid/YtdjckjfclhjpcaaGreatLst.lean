/-
 Helper text (no claim of its own): the names of the gates, as the program's variable holds them.
-/
import Derived.Test.YtdjckjfclhjpcaaGreatBase
import Derived.Lib.LaidU8
namespace Go.Proofs.YtdjckjfclhjpcaaGreat
open Go.ChangeShapes Go.WideShapes Go.ChangeAt Go.RowKit Go.Deep
set_option linter.unusedVariables false
set_option linter.unusedSimpArgs false
end Go.Proofs.YtdjckjfclhjpcaaGreat
