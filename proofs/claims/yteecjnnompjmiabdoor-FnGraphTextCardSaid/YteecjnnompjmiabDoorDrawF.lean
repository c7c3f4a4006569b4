/-
  Helper text (no claim of its own): drawn circuits, bent. Only that they return, and what their results are made of.
-/
import Derived.Test.YteecjnnompjmiabDoorDrawE
namespace Go.Proofs.YteecjnnompjmiabDoor
open Go.ChangeShapes Go.WideShapes Go.ChangeAt Go.RowKit Go.Deep
theorem own_ne {w : World} {B e size n s : Nat} {v : Value} {xs : List Value} (h : w.ownsRow B e size v n xs) (hs : w.heap.size ≤ s) : ∀ q, v.ownBlock = some q → B ≤ q ∧ q ≠ s := fun q hq => by
  have := h.lt q hq
  exact ⟨this.1, by omega⟩
end Go.Proofs.YteecjnnompjmiabDoor
