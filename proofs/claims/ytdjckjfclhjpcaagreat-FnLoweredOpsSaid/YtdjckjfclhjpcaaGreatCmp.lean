/-
 Helper text (no claim of its own): comparisons of slices by the program and by the reference.
-/
import Derived.Test.YtdjckjfclhjpcaaGreatInt
import Derived.Test.YtdjckjfclhjpcaaGreatOp
import Derived.Laws.StructEq
namespace Go.Proofs.YtdjckjfclhjpcaaGreat
open Go.ChangeShapes Go.WideShapes Go.ChangeAt Go.RowKit Go.Deep
theorem Tryz.stoodGate : Tryz.prog.stoodInHeld 38 = false := by kernel_rfl
theorem Tryz.stoodOp : Tryz.prog.stoodInHeld 40 = false := by kernel_rfl
theorem Tryz.eqgOp : Tryz.prog.eqGuardType Tryz.prog.depth 40 = false := by kernel_rfl
set_option maxRecDepth 100000 in
set_option maxHeartbeats 1000000 in
theorem eqIn_op (x y : Oq) (w : World) : (Op.equalIn 10000 40 x.val y.val).run Tryz.prog w = .ok (eqO x y) w := by
 have h1 := Tryz.stoodGate
 have h2 := Tryz.stoodOp
 unfold eqO eqG
 go_simp
 by_cases e0 : x.k = y.k <;> by_cases e1 : x.g.k = y.g.k <;> by_cases e2 : x.g.a = y.g.a <;> by_cases e3 : x.g.b = y.g.b <;> by_cases e4 : x.g.c = y.g.c <;> by_cases e5 : x.q = y.q <;> by_cases e6 : x.bit = y.bit <;> by_cases e7 : x.cond = y.cond <;> simp [*]
end Go.Proofs.YtdjckjfclhjpcaaGreat
