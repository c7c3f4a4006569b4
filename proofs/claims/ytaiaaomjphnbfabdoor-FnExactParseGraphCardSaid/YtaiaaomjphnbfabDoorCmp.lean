/-
  Helper text (no claim of its own): comparisons of slices by the program and by the reference.
-/
import Derived.Test.YtaiaaomjphnbfabDoorInt
import Derived.Test.YtaiaaomjphnbfabDoorOp
import Derived.Laws.StructEq
namespace Go.Proofs.YtaiaaomjphnbfabDoor
open Go.ChangeShapes Go.WideShapes Go.ChangeAt Go.RowKit Go.Deep
end Go.Proofs.YtaiaaomjphnbfabDoor
