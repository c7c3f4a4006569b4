/-
 Helper text (no claim of its own): the kind of a gate read out of its name, by the program and by the reference. Printed by gen_gk.py.
-/
import Derived.Test.YtdjckjfclhjpcaaGreatGn
import Derived.Test.YtdjckjfclhjpcaaGreatWd
namespace Go.Proofs.YtdjckjfclhjpcaaGreat
open Go.ChangeShapes Go.WideShapes Go.ChangeAt Go.RowKit Go.Deep
set_option linter.unusedVariables false
set_option linter.unusedSimpArgs false
def KindRes (s : ByteArray) (e : Ending) : Prop := ∃ k : Int, e = .returned (.int .i64 k) ∧ 0 ≤ k ∧ k ≤ 12 ∧ ∀ j, 1 ≤ j → j ≤ 12 → s = gnm j → k = j
theorem kindRes {s : ByteArray} {e : Ending} (k : Int) (h : e = .returned (.int .i64 k)) (h0 : 0 ≤ k) (h12 : k ≤ 12) (hj : ∀ j, 1 ≤ j → j ≤ 12 → s = gnm j → k = j) : KindRes s e := ⟨k, h, h0, h12, hj⟩
set_option maxRecDepth 100000 in
set_option maxHeartbeats 4000000 in
theorem spec_GateKind_any (s : ByteArray) (w : World) : Calls Tryz.prog 91 #[.string s] w fun e w' => KindRes s e ∧ Ext w w' := by
 skip
 go_enter Tryz.func91, Tryz.ntmps91
 go_wp2
 go_loopw [3] (fun iv wr => ∃ k : Nat, iv = .int .i64 k ∧ 1 ≤ k ∧ k ≤ 13 ∧ Hid (∀ j : Int, 1 ≤ j → j < k → gnm j ≠ s) ∧ Ext w wr) (fun i _ => 13 - (intOf i).toNat)
 case atStart => exact ⟨1, rfl, Nat.le_refl _, by omega, fun j h1 h2 => by omega, Ext.refl _⟩
 case round =>
  obtain ⟨k, rfl, hk1, hk13, HJ, hx⟩ := hrel
  by_cases hk : k ≤ 12
  ·have hki : (k : Int) ≤ 12 := by omega
   go_wp2_with fail
   refine (spec_GateName_any k _).mono ?_
   rintro e w2 ⟨rfl, hx2⟩
   replace hx2 := hx.trans hx2
   obtain ⟨q, hq⟩ : ∃ q, ((gnm (k : Int)).toList == s.toList) = q := ⟨_, rfl⟩
   cases q
   ·have HN : Hid (∀ j : Int, 1 ≤ j → j < ((k + 1 : Nat) : Int) → gnm j ≠ s) := by
     intro j h1 h2 he
     rcases (by omega : j < k ∨ j = k) with h3 | rfl
     ·exact HJ.out j h1 h3 he
     ·rw [str_beq.2 he] at hq; cases hq
    generalize gnm (k : Int) = nm at *
    go_wp2
    go_roundw
    case rel => exact ⟨k + 1, by go_num, by omega, by omega, HN, hx2⟩
    case measure => simp [intOf]; omega
   ·have HN : Hid (gnm (k : Int) = s) := str_beq.1 hq
    generalize hnm : gnm (k : Int) = nm at *
    have HM := Lib.hid hnm
    clear hnm
    go_wp2
    go_ret
    exact ⟨kindRes k rfl (by omega) (by omega) (fun j h1 h12 he => gnm_inj ⟨by omega, by omega⟩ ⟨h1, h12⟩ (by rw [HM.out, HN.out, he])), hx2⟩
  ·have hki : ¬ ((k : Int) ≤ 12) := by omega
   have HN : Hid (∀ j : Int, 1 ≤ j → j ≤ 12 → s ≠ gnm j) := fun j h1 h12 he => HJ.out j h1 (by omega) he.symm
   go_wp2
   go_ret
   exact ⟨kindRes 0 rfl (by omega) (by omega) (fun j h1 h12 he => absurd he (HN.out j h1 h12)), hx⟩
end Go.Proofs.YtdjckjfclhjpcaaGreat
