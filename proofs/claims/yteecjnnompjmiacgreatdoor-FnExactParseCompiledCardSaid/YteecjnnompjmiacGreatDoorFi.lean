/-
  Helper text (no claim of its own): the texts of small numbers, by the program and by the reference.
-/
import Derived.Test.YteecjnnompjmiacGreatDoorIn
import Derived.WalkSpells
import Derived.Laws.IdiomStrings
namespace Go.Proofs.YteecjnnompjmiacGreatDoor
open Go.ChangeShapes Go.WideShapes Go.ChangeAt Go.RowKit Go.Deep
set_option linter.unusedVariables false
set_option linter.unusedSimpArgs false
/-- The text of a digit. -/
def dig (i : Int) : ByteArray := ⟨#[UInt8.ofNat (48 + i.toNat)]⟩
theorem ret_str {a b : ByteArray} (h : a = b) : Ending.returned (.string a) = .returned (.string b) := by rw [h]
theorem conv1 (n : Int) (d : UInt8) (h : (d.toNat : Int) = n) (wx : World) : (convert 57 9 (.slice (some ⟨wx.heap.size, 0, none⟩) 1 1)).run Tryz.prog (wx.alloc (.cells #[.int .u8 n] 5)) = .ok (.string ⟨[d].toArray⟩) (wx.alloc (.cells #[.int .u8 n] 5)) := by
  subst h
  refine run_convert_bytes_back _ _ _ 5 _ 1 [d] Tryz.underlying57 Tryz.underlying5 Tryz.underlying9 (fun j hj => ?_)
  have h0 : j = 0 := by simpa using hj
  subst h0
  exact (Blk.new wx 5 _).cell 0
set_option maxRecDepth 100000 in
set_option maxHeartbeats 4000000 in
theorem impl_FormatInt_small (i : Int) (hi : 0 ≤ i ∧ i ≤ 4) (w : World) : Calls Tryz.prog 38 #[.int .i64 i] w fun e w' => e = .returned (.string (dig i)) ∧ Ext w w' := by
  rcases (by omega : i = 0 ∨ i = 1 ∨ i = 2 ∨ i = 3 ∨ i = 4) with rfl | rfl | rfl | rfl | rfl
  all_goals
    go_enter Tryz.func38, Tryz.ntmps38
    go_wp2
    go_ret
    exact ⟨ret_str (by first | rfl | decide), (by repeat (first | exact Ext.refl _ | assumption | refine Ext.alloc ?_ _ | refine Ext.drewN ?_ _ | refine Ext.drew ?_))⟩
set_option maxRecDepth 100000 in
set_option maxHeartbeats 4000000 in
theorem spec_FormatInt_small (i : Int) (hi : 0 ≤ i ∧ i ≤ 4) (w : World) : Calls Tryz.prog 29 #[.int .i64 i] w fun e w' => e = .returned (.string (dig i)) ∧ Ext w w' := by
  have k1 := conv1 49 49 rfl
  have k2 := conv1 50 50 rfl
  have k3 := conv1 51 51 rfl
  have k4 := conv1 52 52 rfl
  rcases (by omega : i = 0 ∨ i = 1 ∨ i = 2 ∨ i = 3 ∨ i = 4) with rfl | rfl | rfl | rfl | rfl
  · go_enter Tryz.func29, Tryz.ntmps29
    go_wp2
    go_ret
    exact ⟨ret_str (by first | rfl | decide), Ext.refl _⟩
  · go_enter Tryz.func29, Tryz.ntmps29
    go_wp2
    go_loopw [0, 4] (fun n out wr => ((n = .int .i64 1 ∧ out = .string ⟨#[]⟩) ∨ (n = .int .i64 0 ∧ out = .string (dig 1))) ∧ Ext w wr) (fun n _ _ => (intOf n).toNat)
    case atStart => exact ⟨.inl ⟨rfl, rfl⟩, Ext.refl _⟩
    case round =>
      obtain ⟨⟨rfl, rfl⟩ | ⟨rfl, rfl⟩, hx⟩ := hrel
      · go_wp2
        go_roundw
        case rel => exact ⟨.inr ⟨rfl, by first | rfl | decide⟩, hx.alloc _⟩
        case measure => simp [intOf]
      · go_wp2
        go_ret
        exact ⟨rfl, hx⟩
  · go_enter Tryz.func29, Tryz.ntmps29
    go_wp2
    go_loopw [0, 4] (fun n out wr => ((n = .int .i64 2 ∧ out = .string ⟨#[]⟩) ∨ (n = .int .i64 0 ∧ out = .string (dig 2))) ∧ Ext w wr) (fun n _ _ => (intOf n).toNat)
    case atStart => exact ⟨.inl ⟨rfl, rfl⟩, Ext.refl _⟩
    case round =>
      obtain ⟨⟨rfl, rfl⟩ | ⟨rfl, rfl⟩, hx⟩ := hrel
      · go_wp2
        go_roundw
        case rel => exact ⟨.inr ⟨rfl, by first | rfl | decide⟩, hx.alloc _⟩
        case measure => simp [intOf]
      · go_wp2
        go_ret
        exact ⟨rfl, hx⟩
  · go_enter Tryz.func29, Tryz.ntmps29
    go_wp2
    go_loopw [0, 4] (fun n out wr => ((n = .int .i64 3 ∧ out = .string ⟨#[]⟩) ∨ (n = .int .i64 0 ∧ out = .string (dig 3))) ∧ Ext w wr) (fun n _ _ => (intOf n).toNat)
    case atStart => exact ⟨.inl ⟨rfl, rfl⟩, Ext.refl _⟩
    case round =>
      obtain ⟨⟨rfl, rfl⟩ | ⟨rfl, rfl⟩, hx⟩ := hrel
      · go_wp2
        go_roundw
        case rel => exact ⟨.inr ⟨rfl, by first | rfl | decide⟩, hx.alloc _⟩
        case measure => simp [intOf]
      · go_wp2
        go_ret
        exact ⟨rfl, hx⟩
  · go_enter Tryz.func29, Tryz.ntmps29
    go_wp2
    go_loopw [0, 4] (fun n out wr => ((n = .int .i64 4 ∧ out = .string ⟨#[]⟩) ∨ (n = .int .i64 0 ∧ out = .string (dig 4))) ∧ Ext w wr) (fun n _ _ => (intOf n).toNat)
    case atStart => exact ⟨.inl ⟨rfl, rfl⟩, Ext.refl _⟩
    case round =>
      obtain ⟨⟨rfl, rfl⟩ | ⟨rfl, rfl⟩, hx⟩ := hrel
      · go_wp2
        go_roundw
        case rel => exact ⟨.inr ⟨rfl, by first | rfl | decide⟩, hx.alloc _⟩
        case measure => simp [intOf]
      · go_wp2
        go_ret
        exact ⟨rfl, hx⟩
end Go.Proofs.YteecjnnompjmiacGreatDoor
