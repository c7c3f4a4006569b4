/-
  Helper text (no claim of its own): the text of a number, by the reference.
-/
import Derived.Test.YteecjnnompjmiacGreatDoorFi
import Derived.Lib.ItoaNum
import Derived.Laws.Concat
namespace Go.Proofs.YteecjnnompjmiacGreatDoor
open Go.ChangeShapes Go.WideShapes Go.ChangeAt Go.RowKit Go.Deep
set_option linter.unusedVariables false
set_option linter.unusedSimpArgs false
/-- The text of a number. -/
def num (n : Nat) : ByteArray := ⟨(Lib.decDigits n).toArray⟩
theorem join1 (x : UInt8) (l : List UInt8) (h : l.length ≤ 2000000000) (w : World) : (Op.stringOp .add ⟨#[x]⟩ ⟨l.toArray⟩).run Tryz.prog w = .ok (.string ⟨(x :: l).toArray⟩) w := by
  have e : (⟨#[x]⟩ : ByteArray) ++ ⟨l.toArray⟩ = ⟨(x :: l).toArray⟩ := by
    apply ByteArray.ext
    simp
  rw [← e]
  refine run_string_add_sum w _ _ ?_
  show 1 + l.toArray.size ≤ _
  simp
  omega
theorem dec_lt {k : Nat} (h : k < 10) : Lib.decDigits k = [UInt8.ofNat (48 + k)] := Lib.decDigits_one h
theorem dec_ge {k : Nat} (h : ¬ k < 10) : Lib.decDigits k = Lib.decDigits (k / 10) ++ [UInt8.ofNat (48 + k % 10)] := by
  rw [Lib.decDigits, dif_neg h]
set_option maxRecDepth 100000 in
set_option maxHeartbeats 4000000 in
theorem spec_FormatInt_nat (m : Nat) (hm : m ≤ 1000000000) (w : World) : Calls Tryz.prog 29 #[.int .i64 m] w fun e w' => e = .returned (.string (num m)) ∧ Ext w w' := by
  by_cases h0 : m = 0
  · subst h0
    go_enter Tryz.func29, Tryz.ntmps29
    go_wp2
    go_ret
    exact ⟨ret_str (by unfold num; rw [dec_lt (by omega)]; rfl), Ext.refl _⟩
  have hne : ((m : Int) == 0) = false := by simp; omega
  have hng : ¬ ((m : Int) < 0) := by omega
  go_enter Tryz.func29, Tryz.ntmps29
  go_wp2
  go_loopw [0, 4] (fun n out wr => ∃ (k : Nat) (l : List UInt8), n = .int .i64 k ∧ out = .string ⟨l.toArray⟩ ∧ l.length + k ≤ m ∧ Hid ((0 < k ∧ Lib.decDigits m = Lib.decDigits k ++ l) ∨ (k = 0 ∧ Lib.decDigits m = l)) ∧ Ext w wr) (fun n _ _ => (intOf n).toNat)
  case atStart => exact ⟨m, [], rfl, rfl, by simp, .inl ⟨by omega, by simp⟩, Ext.refl _⟩
  case round =>
    obtain ⟨k, l, rfl, rfl, hl, HD, hx⟩ := hrel
    by_cases hk : k = 0
    · subst hk
      have HF : Hid (Lib.decDigits m = l) := by
        rcases HD.out with ⟨h, _⟩ | ⟨_, h⟩
        · omega
        · exact h
      go_wp2
      go_ret
      exact ⟨ret_str (by unfold num; rw [HF.out]), hx⟩
    · have hk' : ((k : Int) != 0) = true := by simp; omega
      obtain ⟨d, hd⟩ : ∃ d : Nat, d = k % 10 := ⟨_, rfl⟩
      have hd9 : d ≤ 9 := by omega
      have hmod : (k : Int) % 10 = (d : Int) := by omega
      obtain ⟨k2, hk2⟩ : ∃ k2, k2 = k / 10 := ⟨_, rfl⟩
      have hu8 : IntKind.u8.wrap (48 + (d : Int)) = 48 + (d : Int) := IntWalk.u8_in _ (by omega)
      obtain ⟨x, hx8⟩ : ∃ x : UInt8, x = UInt8.ofNat (48 + d) := ⟨_, rfl⟩
      have hxn : (x.toNat : Int) = 48 + (d : Int) := by rw [hx8, UInt8.toNat_ofNat']; omega
      have hcv : ∀ wx : World, (convert 57 9 (.slice (some ⟨wx.heap.size, 0, none⟩) 1 1)).run Tryz.prog (wx.alloc (.cells #[.int .u8 (48 + (d : Int))] 5)) = .ok (.string ⟨#[x]⟩) (wx.alloc (.cells #[.int .u8 (48 + (d : Int))] 5)) := fun wx => conv1 (48 + (d : Int)) x hxn wx
      have hj := join1 x l (by omega)
      have hk0 : (0 : Int) ≤ (k : Int) := by omega
      have hdv : (k : Int) / 10 = (k2 : Int) := by omega
      clear hxn
      have hdn : ¬ ((d : Int) < 0) := by omega
      have HD2 : Hid ((0 < k2 ∧ Lib.decDigits m = Lib.decDigits (k2) ++ (x :: l)) ∨ (k2 = 0 ∧ Lib.decDigits m = x :: l)) := by
        rcases HD.out with ⟨_, h⟩ | ⟨h, _⟩
        · by_cases h10 : k < 10
          · right
            refine ⟨by omega, ?_⟩
            rw [hx8, h, dec_lt h10, show d = k by omega]
            rfl
          · left
            refine ⟨by omega, ?_⟩
            rw [hx8, h, dec_ge h10, ← hd, ← hk2]
            simp
        · omega
      have hl2 : (x :: l).length + k2 ≤ m := by simp; omega
      clear hx8
      have HM : Hid ((intOf (Value.int .i64 (k2 : Int))).toNat < (intOf (Value.int .i64 (k : Int))).toNat) := by unfold Hid; simp [intOf]; omega
      clear hk2
      clear hd HD
      go_wp2
      go_roundw
      case rel => exact ⟨k2, _, by first | rfl | go_num, rfl, hl2, HD2, hx.alloc _⟩
      case measure => exact HM.out
end Go.Proofs.YteecjnnompjmiacGreatDoor
