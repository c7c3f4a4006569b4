/-
  Helper text (no claim of its own): comparisons of slices by the program and by the reference.
-/
import Derived.Test.YtngpkboocpaikaaDoorInt
import Derived.Test.YtngpkboocpaikaaDoorOp
import Derived.Laws.StructEq
namespace Go.Proofs.YtngpkboocpaikaaDoor
open Go.ChangeShapes Go.WideShapes Go.ChangeAt Go.RowKit Go.Deep
end Go.Proofs.YtngpkboocpaikaaDoor
