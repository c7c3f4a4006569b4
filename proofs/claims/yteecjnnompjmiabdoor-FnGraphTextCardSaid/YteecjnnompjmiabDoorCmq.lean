/-
  Helper text (no claim of its own): further comparisons of slices. Printed by gen_cmp.py.
-/
import Derived.Test.YteecjnnompjmiabDoorCmp
import Derived.Test.YteecjnnompjmiabDoorEdge
namespace Go.Proofs.YteecjnnompjmiabDoor
open Go.ChangeShapes Go.WideShapes Go.ChangeAt Go.RowKit Go.Deep
theorem Tryd.stoodEdge : Tryd.prog.stoodInHeld 38 = false := by kernel_rfl
theorem Tryd.eqgEdge : Tryd.prog.eqGuardType Tryd.prog.depth 38 = false := by kernel_rfl
set_option maxRecDepth 100000 in
set_option maxHeartbeats 1000000 in
theorem eqIn_edge (x y : Ed) (w : World) : (Op.equalIn 10000 38 x.val y.val).run Tryd.prog w = .ok (eqE x y) w := by
  have h1 := Tryd.stoodEdge
  unfold eqE
  by_cases e1 : x.a = y.a <;> by_cases e2 : x.b = y.b <;> (go_simp <;> simp [*])
end Go.Proofs.YteecjnnompjmiabDoor
