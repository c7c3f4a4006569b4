/-
  Helper text (no claim of its own): lists of texts joined, and rows of numbers, by the program and by the reference.
-/
import Derived.Test.YteecjnnompjmiacGreatDoorFop
import Derived.Test.YteecjnnompjmiacGreatDoorStr
import Derived.Test.YteecjnnompjmiacGreatDoorShelf
namespace Go.Proofs.YteecjnnompjmiacGreatDoor
open Go.ChangeShapes Go.WideShapes Go.ChangeAt Go.RowKit Go.Deep
set_option linter.unusedVariables false
set_option linter.unusedSimpArgs false
theorem jn_take_size (sep : ByteArray) (xs : List ByteArray) (h : ∀ x ∈ xs, x.size ≤ 1000) (hs : sep.size ≤ 10) (hn : xs.length ≤ 10000) (k : Nat) : (jn sep (xs.take k)).size ≤ 10100000 := by
  have h1 := jn_size sep (xs.take k) 1000 (fun x hx => h x (List.mem_of_mem_take hx))
  have h2 : (xs.take k).length ≤ 10000 := Nat.le_trans (List.length_take_le' _ _) hn
  refine Nat.le_trans h1 (Nat.le_trans (Nat.mul_le_mul h2 (show 1000 + sep.size ≤ 1010 by omega)) (by decide))
set_option maxRecDepth 100000 in
set_option maxHeartbeats 4000000 in
theorem spec_Join_any (A : Option Addr) (n c : Nat) (xs : List ByteArray) (sep : ByteArray) (w : World) (h : Rd w w.heap.size 1 A n (scells xs)) (hn : n ≤ 10000) (hz : ∀ x ∈ xs, x.size ≤ 1000) (hs : sep.size ≤ 10) :
    Calls Tryz.prog 30 #[.slice A n c, .string sep] w fun e w' => e = .returned (.string (jn sep xs)) ∧ Ext w w' := by
  have hlen := Lib.hid (h.len scell_len (by omega))
  have HZ : Hid (∀ k, (jn sep (xs.take k)).size ≤ 10100000) := jn_take_size sep xs hz hs (by rw [hlen.out]; exact hn)
  have HX := Lib.hid hz
  clear hz
  go_enter Tryz.func30, Tryz.ntmps30
  go_wp2
  go_loopw [5, 6] (fun v i wr => ∃ k : Nat, k ≤ n ∧ i = .int .i64 k ∧ wr.ownsRow w.heap.size 5 1 v (jn sep (xs.take k)).size (Lib.strCells (jn sep (xs.take k))) ∧ Ext w wr) (fun _ i _ => n - (intOf i).toNat)
  case atStart => exact ⟨0, Nat.zero_le _, rfl, own_empty w w _ _ (Ext.refl _), (by repeat (first | exact Ext.refl _ | assumption | refine Ext.alloc ?_ _ | refine Ext.drewN ?_ _ | refine Ext.drew ?_))⟩
  case round =>
    obtain ⟨k, hk, rfl, hown, hx⟩ := hrel
    by_cases hlt : k < n
    · obtain ⟨b, o, y, rfl, hb, hy, r0⟩ := str_at h hlt
      have h0 : wr.cell? ⟨b, o + k, none⟩ = some (.string y) := (hx.cell (p := ⟨b, o + k, none⟩) hb).trans r0
      have hys := HX.out y (List.mem_of_getElem? hy)
      have hk0 : (0 : Int) ≤ (k : Int) := by omega
      have hk1 : (k : Int) < (n : Int) := by omega
      have R0 := Lib.hid r0
      clear r0
      by_cases hp : k = 0
      · have hpi : ¬ ((0 : Int) < (k : Int)) := by omega
        have HS : Hid (jn sep (xs.take (k + 1)) = jn sep (xs.take k) ++ y) := by
          subst hp
          refine (jn_one sep hy).trans ?_
          apply ByteArray.ext
          simp [jn, ByteArray.data_append]
        clear hy hp
        go_wp2_with (at_builtin; refine appBytes rfl _ _ rfl _ (jn sep (xs.take k)) rfl hown hx y rfl (by have := HZ.out k; omega) ?_; intro v1 w1 hown1 hx1)
        go_roundw
        case rel => exact ⟨k + 1, by omega, by go_num, by rw [HS.out]; exact hown1, hx1⟩
        case measure => simp [intOf]; omega
      · have hpi : ((0 : Int) < (k : Int)) := by omega
        have HS := Lib.hid (jn_snoc sep hy (by omega))
        clear hy
        have HZK := HZ.out k
        have HSZ : Hid ((jn sep (xs.take k) ++ sep).size + y.size ≤ 100000000) := by unfold Hid; rw [ByteArray.size_append]; omega
        go_wp2_with (at_builtin; first
          | (refine appBytes rfl _ _ rfl _ (jn sep (xs.take k)) rfl hown hx sep rfl (by omega) ?_; intro v1 w1 hown1 hx1; have h1 : w1.cell? ⟨b, o + k, none⟩ = some (.string y) := (hx1.cell (p := ⟨b, o + k, none⟩) hb).trans R0.out)
          | (refine appBytes rfl _ _ rfl _ (jn sep (xs.take k) ++ sep) rfl hown1 hx1 y rfl HSZ.out ?_; intro v2 w2 hown2 hx2))
        go_roundw
        case rel => exact ⟨k + 1, by omega, by go_num, by rw [HS.out]; exact hown2, hx2⟩
        case measure => simp [intOf]; omega
    · have hkl : xs.take k = xs := List.take_of_length_le (by rw [hlen.out]; omega)
      rw [hkl] at hown
      have hcv := conv_own hown
      have hge : ¬ ((k : Int) < (n : Int)) := by omega
      go_wp2
      go_ret
      exact ⟨rfl, hx⟩
set_option maxRecDepth 100000 in
set_option maxHeartbeats 4000000 in
theorem impl_Join_own (B n : Nat) (v : Value) (xs : List ByteArray) (sep : ByteArray) (w : World) (h : w.ownsRow B 9 1 v n (scells xs)) (hn0 : 0 < n) (hn : n ≤ 10000) (hz : ∀ x ∈ xs, x.size ≤ 1000) (hs : sep.size ≤ 10) :
    Calls Tryz.prog 34 #[v, .string sep] w fun e w' => e = .returned (.string (jn sep xs)) ∧ Ext w w' := by
  rcases id h.2 with ⟨rfl, rfl⟩ | ⟨g, cap, cur, rfl, hbg, hg, hnc, hcm, hcs, htake⟩
  · omega
  have hr := Rd.own h
  have hlen : xs.length = n := hr.len scell_len (by omega)
  have hgl : g < w.heap.size := by
    rcases Nat.lt_or_ge g w.heap.size with h' | h'
    · exact h'
    · rw [Array.getElem?_eq_none h'] at hg; cases hg
  have hj : (jn sep xs).size ≤ 10100000 := by
    have := jn_take_size sep xs hz hs (by omega) xs.length
    rwa [List.take_length] at this
  have HJ := jn_join sep xs
  have hjl : (Lib.join (xs.map (·.data.toList)) sep.data.toList).length ≤ 140737488355328 := by
    have e : (Lib.join (xs.map (·.data.toList)) sep.data.toList).length = (jn sep xs).size := by rw [← HJ]; rfl
    omega
  subst hlen
  have HC : Hid (Calls Tryz.prog 53 #[.slice (some ⟨g, 0, none⟩) xs.length cap, .string sep] w fun e w' => e = .returned (.string (jn sep xs)) ∧ Ext w w') := by
    refine (Tryz.strings_Join g 0 cap xs sep w (fun j x hx => ?_) hgl (by omega) hnc hjl).mono ?_
    · have hjl := (List.getElem?_eq_some_iff.1 hx).1
      obtain ⟨b, o, y, e, _, hy, hc⟩ := str_at hr hjl
      injection e with e
      injection e with e1 e2
      subst e1 e2
      rw [hx] at hy
      injection hy with hy
      rw [hy]
      exact hc
    · rintro e w' ⟨rfl, hb⟩
      rw [HJ]
      exact ⟨rfl, hb⟩
  clear hr h hg hbg hcm hcs htake hjl hj
  go_enter Tryz.func34, Tryz.ntmps34
  go_wp2_with fail
  refine HC.out.mono ?_
  rintro e w' ⟨rfl, hx⟩
  go_wp2
  go_ret
  exact ⟨rfl, hx⟩
end Go.Proofs.YteecjnnompjmiacGreatDoor
