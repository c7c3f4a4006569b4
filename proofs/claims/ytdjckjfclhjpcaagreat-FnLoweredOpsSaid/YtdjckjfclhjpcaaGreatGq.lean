/-
 Helper text (no claim of its own): the qubits of a gate by the program, and whether a gate acts on a qubit, by the program and by the reference.
-/
import Derived.Test.YtdjckjfclhjpcaaGreatSval
namespace Go.Proofs.YtdjckjfclhjpcaaGreat
open Go.ChangeShapes Go.WideShapes Go.ChangeAt Go.RowKit Go.Deep
/-- Whether gate g acts on qubit q. -/
def acts (g : Gt) (q : Int) : Bool := hasI (qus g) q
set_option maxRecDepth 100000 in
set_option maxHeartbeats 1000000 in
theorem spec_ActsOn_any (g : Gt) (q : Int) (w : World) :
  Calls Tryz.prog 105 #[g.val, .int .i64 q] w fun e w' => e = .returned (.bool (acts g q)) ∧ Ext w w' := by
 obtain ⟨ha0, ha3⟩ := ar_range g.k
 have HL := Lib.hid (qus_len g)
 go_enter Tryz.func105, Tryz.ntmps105
 go_wp2_with fail
 refine (spec_GateQubits_any g _).mono ?_
 rintro e w1 ⟨v, rfl, ho, hx⟩
 obtain ⟨A, c, rfl, hr⟩ := own_slice ho
 replace hx : Ext w w1 := Ext.trans (by exact xx) hx
 clear ho
 go_wp2_with fail
 refine (l1HasInt_any A _ c (qus g) q _ hr (by have := HL.out; omega)).mono ?_
 rintro e w2 ⟨rfl, rfl⟩
 go_wp2
 go_ret
 exact ⟨rfl, hx⟩
end Go.Proofs.YtdjckjfclhjpcaaGreat
