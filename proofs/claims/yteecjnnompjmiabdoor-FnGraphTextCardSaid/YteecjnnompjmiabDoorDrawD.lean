/-
  Helper text (no claim of its own): drawn gates, bent. Only that they return, and what their results are made of.
-/
import Derived.Test.YteecjnnompjmiabDoorDrawC
namespace Go.Proofs.YteecjnnompjmiabDoor
open Go.ChangeShapes Go.WideShapes Go.ChangeAt Go.RowKit Go.Deep
end Go.Proofs.YteecjnnompjmiabDoor
