/-
  Helper text (no claim of its own): the names of the gates, by the program and by the reference.
-/
import Derived.Test.YtaiaaomjphnbfabDoorLst
import Derived.Test.YtaiaaomjphnbfabDoorTxt
namespace Go.Proofs.YtaiaaomjphnbfabDoor
open Go.ChangeShapes Go.WideShapes Go.ChangeAt Go.RowKit Go.Deep
set_option linter.unusedVariables false
end Go.Proofs.YtaiaaomjphnbfabDoor
