/-
  Helper text (no claim of its own): the size of a circuit. Printed by gen_tc.py.
-/
import Derived.Test.YtcocabflinlbbaaCi
namespace Go.Proofs.Ytcocabflinlbbaa
open Go.ChangeShapes Go.WideShapes Go.ChangeAt Go.RowKit Go.Deep
set_option linter.unusedVariables false
theorem szCircuit_any (v : Value) (x : Ci) (l : Int) (w : World) (h : CiAt w w.heap.size v x) (hl : 0 ≤ l) (hl2 : l ≤ 1048576) (hn : x.gs.length ≤ maxLen) :
    Calls Try.prog 4 #[v, .int .i64 l] w fun e w' => e = .returned (.int .i64 (szF l x.gs.length)) ∧ Ext w w' := by
  obtain ⟨A1, c1, rfl, h1⟩ := h
  go_enter Try.func4, Try.ntmps4
  go_wp2_with fail
  refine (szGateS_any A1 _ c1 l _ hl hl2 hn).mono ?_
  rintro e w1 ⟨rfl, rfl⟩
  by_cases h : l < x.gs.length
  · have HF := Lib.hid (szF_lt h)
    rw [HF.out]
    go_wp2
    go_ret
    exact ⟨ret_int HF.out.symm, (by repeat (first | exact Ext.refl _ | assumption | refine Ext.alloc ?_ _ | refine Ext.drewN ?_ _ | refine Ext.drew ?_))⟩
  · have HF := Lib.hid (szF_ge h)
    rw [HF.out]
    go_wp2
    go_ret
    exact ⟨ret_int HF.out.symm, (by repeat (first | exact Ext.refl _ | assumption | refine Ext.alloc ?_ _ | refine Ext.drewN ?_ _ | refine Ext.drew ?_))⟩
end Go.Proofs.Ytcocabflinlbbaa
