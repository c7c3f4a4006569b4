/-
  Helper text (no claim of its own): rows of numbers, by the program and by the reference.
-/
import Derived.Test.YteecjnnompjmiacGreatDoorJn
namespace Go.Proofs.YteecjnnompjmiacGreatDoor
open Go.ChangeShapes Go.WideShapes Go.ChangeAt Go.RowKit Go.Deep
set_option linter.unusedVariables false
set_option linter.unusedSimpArgs false
set_option maxRecDepth 100000 in
set_option maxHeartbeats 4000000 in
theorem l45Row_any (s0 : ByteArray) (A : Option Addr) (n c : Nat) (xs : List Int) (w : World) (h : Rd w w.heap.size 1 A n (icells xs)) (hn : n ≤ 4) (hx0 : ∀ x ∈ xs, 0 ≤ x ∧ x ≤ 4) (hs : s0.size ≤ 10) :
    Calls Tryz.prog 28 #[.string s0, .slice A n c] w fun e w' => e = .returned (.string (rowS s0 xs)) ∧ Ext w w' := by
  have hlen := Lib.hid (h.len icell_len (by omega))
  have HQ := Lib.hid hx0
  clear hx0
  go_enter Tryz.func28, Tryz.ntmps28
  go_wp2
  go_loopw [0, 5] (fun s i wr => ∃ k : Nat, k ≤ n ∧ i = .int .i64 k ∧ s = .string (rowS s0 (xs.take k)) ∧ Ext w wr) (fun _ i _ => n - (intOf i).toNat)
  case atStart => exact ⟨0, Nat.zero_le _, rfl, rfl, Ext.refl _⟩
  case round =>
    obtain ⟨k, hk, rfl, rfl, hx⟩ := hrel
    by_cases hlt : k < n
    · obtain ⟨b, o, q, rfl, hb, hq, r0⟩ := int_at (h.ext hx) hlt
      have HS := Lib.hid (rowS_snoc s0 hq)
      obtain ⟨q0, q4⟩ := HQ.out q (List.mem_of_getElem? hq)
      clear hq
      have hk0 : (0 : Int) ≤ (k : Int) := by omega
      have hkn : (k : Int) < (n : Int) := by omega
      have hsz := rowS_size s0 (xs.take k)
      have htl : (xs.take k).length ≤ k := List.length_take_le _ _
      generalize hss : rowS s0 (xs.take k) = ss at *
      clear hss
      obtain ⟨j1, j2⟩ := joins2 ss q (by omega)
      clear hsz htl
      go_wp2_with fail
      refine (spec_FormatInt_small q ⟨by omega, by omega⟩ _).mono ?_
      rintro e w5 ⟨rfl, hy5⟩
      replace hy5 := hx.trans hy5
      go_wp2
      go_roundw
      case rel => exact ⟨k + 1, by omega, by go_num, by rw [HS.out], hy5⟩
      case measure => simp [intOf]; omega
    · rw [List.take_of_length_le (by rw [hlen.out]; omega)]
      have hge : ¬ ((k : Int) < (n : Int)) := by omega
      go_wp2
      go_ret
      exact ⟨rfl, hx⟩
set_option maxRecDepth 100000 in
set_option maxHeartbeats 4000000 in
theorem impl_spaced_any (A : Option Addr) (n c : Nat) (xs : List Int) (w : World) (h : Rd w w.heap.size 1 A n (icells xs)) (hn : n ≤ 4) (hx0 : ∀ x ∈ xs, 0 ≤ x ∧ x ≤ 4) :
    Calls Tryz.prog 37 #[.slice A n c] w fun e w' => e = .returned (.string (rowS ⟨#[]⟩ xs)) ∧ Ext w w' := by
  have hlen := Lib.hid (h.len icell_len (by omega))
  have HQ := Lib.hid hx0
  clear hx0
  go_enter Tryz.func37, Tryz.ntmps37
  go_wp2
  go_loopw [3, 8] (fun s i wr => ∃ k : Nat, k ≤ n ∧ i = .int .i64 k ∧ s = .string (rowS ⟨#[]⟩ (xs.take k)) ∧ Ext w wr) (fun _ i _ => n - (intOf i).toNat)
  case atStart => exact ⟨0, Nat.zero_le _, rfl, rfl, Ext.refl _⟩
  case round =>
    obtain ⟨k, hk, rfl, rfl, hx⟩ := hrel
    by_cases hlt : k < n
    · obtain ⟨b, o, q, rfl, hb, hq, r0⟩ := int_at (h.ext hx) hlt
      have HS := Lib.hid (rowS_snoc ⟨#[]⟩ hq)
      obtain ⟨q0, q4⟩ := HQ.out q (List.mem_of_getElem? hq)
      clear hq
      have hk0 : (0 : Int) ≤ (k : Int) := by omega
      have hkn : (k : Int) < (n : Int) := by omega
      have hsz := rowS_size ⟨#[]⟩ (xs.take k)
      have hez : (⟨#[]⟩ : ByteArray).size = 0 := rfl
      have htl : (xs.take k).length ≤ k := List.length_take_le _ _
      generalize hss : rowS ⟨#[]⟩ (xs.take k) = ss at *
      clear hss
      obtain ⟨j1, j2⟩ := joins2 ss q (by omega)
      clear hsz htl hez
      go_wp2_with fail
      refine (impl_FormatInt_small q ⟨by omega, by omega⟩ _).mono ?_
      rintro e w5 ⟨rfl, hy5⟩
      replace hy5 := hx.trans hy5
      go_wp2
      go_roundw
      case rel => exact ⟨k + 1, by omega, by go_num, by rw [HS.out], hy5⟩
      case measure => simp [intOf]; omega
    · rw [List.take_of_length_le (by rw [hlen.out]; omega)]
      have hge : ¬ ((k : Int) < (n : Int)) := by omega
      go_wp2
      go_ret
      exact ⟨rfl, hx⟩
end Go.Proofs.YteecjnnompjmiacGreatDoor
