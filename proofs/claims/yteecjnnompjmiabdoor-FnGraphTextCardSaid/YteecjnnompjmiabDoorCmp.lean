/-
  Helper text (no claim of its own): comparisons of slices by the program and by the reference.
-/
import Derived.Test.YteecjnnompjmiabDoorInt
import Derived.Test.YteecjnnompjmiabDoorOp
import Derived.Laws.StructEq
namespace Go.Proofs.YteecjnnompjmiabDoor
open Go.ChangeShapes Go.WideShapes Go.ChangeAt Go.RowKit Go.Deep
end Go.Proofs.YteecjnnompjmiabDoor
