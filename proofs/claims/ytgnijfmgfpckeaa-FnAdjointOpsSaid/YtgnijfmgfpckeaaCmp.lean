/-
  Helper text (no claim of its own): comparisons of slices by the program and by the reference.
-/
import Derived.Test.YtgnijfmgfpckeaaInt
import Derived.Test.YtgnijfmgfpckeaaOp
import Derived.Laws.StructEq
namespace Go.Proofs.Ytgnijfmgfpckeaa
open Go.ChangeShapes Go.WideShapes Go.ChangeAt Go.RowKit Go.Deep
theorem Try.stoodGate : Try.prog.stoodInHeld 30 = false := by kernel_rfl
theorem Try.stoodOp : Try.prog.stoodInHeld 32 = false := by kernel_rfl
theorem Try.eqgGate : Try.prog.eqGuardType Try.prog.depth 30 = false := by kernel_rfl
theorem Try.eqgOp : Try.prog.eqGuardType Try.prog.depth 32 = false := by kernel_rfl
set_option maxRecDepth 100000 in
set_option maxHeartbeats 1000000 in
theorem eqIn_gate (x y : Gt) (w : World) : (Op.equalIn 10000 30 x.val y.val).run Try.prog w = .ok (eqG x y) w := by
  have h1 := Try.stoodGate
  unfold eqG
  by_cases e1 : x.k = y.k <;> by_cases e2 : x.a = y.a <;> by_cases e3 : x.b = y.b <;> by_cases e4 : x.c = y.c <;> (go_simp <;> simp [*])
set_option maxRecDepth 100000 in
set_option maxHeartbeats 1000000 in
theorem eqIn_op (x y : Oq) (w : World) : (Op.equalIn 10000 32 x.val y.val).run Try.prog w = .ok (eqO x y) w := by
  have h1 := Try.stoodGate
  have h2 := Try.stoodOp
  unfold eqO eqG
  go_simp
  by_cases e0 : x.k = y.k <;> by_cases e1 : x.g.k = y.g.k <;> by_cases e2 : x.g.a = y.g.a <;> by_cases e3 : x.g.b = y.g.b <;> by_cases e4 : x.g.c = y.g.c <;> by_cases e5 : x.q = y.q <;> by_cases e6 : x.bit = y.bit <;> by_cases e7 : x.cond = y.cond <;> simp [*]
end Go.Proofs.Ytgnijfmgfpckeaa
