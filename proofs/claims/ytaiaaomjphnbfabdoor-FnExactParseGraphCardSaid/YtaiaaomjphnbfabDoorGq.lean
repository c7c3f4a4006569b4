/-
  Helper text (no claim of its own): the qubits of a gate by the program, and whether a gate acts on a qubit, by the program and by the reference.
-/
import Derived.Test.YtaiaaomjphnbfabDoorSval
namespace Go.Proofs.YtaiaaomjphnbfabDoor
open Go.ChangeShapes Go.WideShapes Go.ChangeAt Go.RowKit Go.Deep
/-- Whether gate g acts on qubit q. -/
def acts (g : Gt) (q : Int) : Bool := hasI (qus g) q
end Go.Proofs.YtaiaaomjphnbfabDoor
