/-
  Helper text (no claim of its own): the arity of a gate's kind, by the program and by the reference.
-/
import Derived.Test.YteecjnnompjmiabDoorIn
namespace Go.Proofs.YteecjnnompjmiabDoor
open Go.ChangeShapes Go.WideShapes Go.ChangeAt Go.RowKit Go.Deep
def ar (k : Int) : Int := if 1 ≤ k ∧ k ≤ 8 then 1 else if 9 ≤ k ∧ k ≤ 11 then 2 else if k = 12 then 3 else 0
theorem ar_range (k : Int) : 0 ≤ ar k ∧ ar k ≤ 3 := by unfold ar; omega
theorem ar1 {k : Int} (h : 1 ≤ k ∧ k ≤ 8) : ar k = 1 := by unfold ar; omega
theorem ar2 {k : Int} (h : 9 ≤ k ∧ k ≤ 11) : ar k = 2 := by unfold ar; omega
theorem ar3 {k : Int} (h : k = 12) : ar k = 3 := by unfold ar; omega
theorem ar0 {k : Int} (h : k < 1 ∨ 12 < k) : ar k = 0 := by unfold ar; omega
end Go.Proofs.YteecjnnompjmiabDoor
