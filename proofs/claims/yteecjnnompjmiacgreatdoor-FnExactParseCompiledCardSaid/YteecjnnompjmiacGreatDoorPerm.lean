/-
  Helper text (no claim of its own): permutations, by the program and by the reference.
-/
import Derived.Test.YteecjnnompjmiacGreatDoorSvg
namespace Go.Proofs.YteecjnnompjmiacGreatDoor
open Go.ChangeShapes Go.WideShapes Go.ChangeAt Go.RowKit Go.Deep
def okP (p : List Int) (i : Nat) (x : Int) : Bool := decide (0 ≤ x) && decide (x ≤ (p.length : Int) - 1) && !(hasI (p.take i) x)
def permG (p : List Int) (k : Nat) : Bool := (List.range k).all fun i => okP p i (p.getD i 0)
def perm (p : List Int) : Bool := permG p p.length && (decide (1 ≤ p.length) && decide (p.length ≤ 4))
theorem permG_snoc {p : List Int} {k : Nat} {x : Int} (h : p[k]? = some x) : permG p (k + 1) = (permG p k && okP p k x) := by
  unfold permG
  rw [List.range_succ, List.all_append]
  simp [h]
theorem perm_no {p : List Int} {k : Nat} {x : Int} (h : p[k]? = some x) (hx : okP p k x = false) : perm p = false := by
  have hk := (List.getElem?_eq_some_iff.1 h).1
  have : permG p p.length = false := by
    rw [Bool.eq_false_iff]
    intro ha
    unfold permG at ha
    rw [List.all_eq_true] at ha
    have := ha k (by simp [hk])
    rw [List.getD_eq_getElem?_getD, h] at this
    simp [hx] at this
  simp [perm, this]
theorem perm_len {p : List Int} (h : p.length < 1 ∨ 4 < p.length) : perm p = false := by
  unfold perm
  rcases h with h | h
  · have e : decide (1 ≤ p.length) = false := decide_eq_false (by omega)
    rw [e]; simp
  · have e : decide (p.length ≤ 4) = false := decide_eq_false (by omega)
    rw [e]; simp
theorem perm_yes {p : List Int} (h : permG p p.length = true) (h1 : 1 ≤ p.length) (h2 : p.length ≤ 4) : perm p = true := by
  simp [perm, h, h1, h2]
theorem okP_out {p : List Int} {k n : Nat} {x : Int} (hn : p.length = n) (h : x < 0 ∨ (n : Int) - 1 < x) : okP p k x = false := by
  subst hn
  unfold okP
  rcases h with h | h
  · have e : decide (0 ≤ x) = false := by simp; omega
    simp [e]
  · have e : decide (x ≤ (p.length : Int) - 1) = false := by simp; omega
    simp [e]
theorem okP_in {p : List Int} {k n : Nat} {x : Int} {s : Bool} (hn : p.length = n) (h1 : 0 ≤ x) (h2 : x ≤ (n : Int) - 1) (hs : hasI (p.take k) x = s) : okP p k x = !s := by
  subst hn
  unfold okP
  rw [hs]
  simp [h1, h2]
def seenA (p : List Int) (k : Nat) : Array Value := #[.bool (hasI (p.take k) 0), .bool (hasI (p.take k) 1), .bool (hasI (p.take k) 2), .bool (hasI (p.take k) 3)]
theorem hasI_snoc {p : List Int} {k : Nat} {x : Int} (h : p[k]? = some x) (y : Int) : hasI (p.take (k + 1)) y = (hasI (p.take k) y || y == x) := by
  unfold hasI
  rw [take_snoc h]
  simp [List.contains_eq_mem]
  by_cases e : y = x <;> simp [e]
theorem seenA_set {p : List Int} {k j : Nat} (h : p[k]? = some (j : Int)) (hj : j < 4) : (seenA p k).setIfInBounds j (.bool true) = seenA p (k + 1) := by
  unfold seenA
  simp only [hasI_snoc h]
  rcases (by omega : j = 0 ∨ j = 1 ∨ j = 2 ∨ j = 3) with rfl | rfl | rfl | rfl <;> simp [Array.setIfInBounds] <;> rfl
theorem seenA_at (p : List Int) (k j : Nat) (hj : j < 4) : (seenA p k)[j]? = some (.bool (hasI (p.take k) (j : Int))) := by
  rcases (by omega : j = 0 ∨ j = 1 ∨ j = 2 ∨ j = 3) with rfl | rfl | rfl | rfl <;> rfl

set_option maxRecDepth 100000 in
set_option maxHeartbeats 2000000 in
theorem impl_IsPermutation_any (A : Option Addr) (n c : Nat) (p : List Int) (w : World) (h : Rd w w.heap.size 1 A n (icells p)) (hn : n ≤ 100000000) :
    Calls Tryz.prog 55 #[.slice A n c] w fun e w' => e = .returned (.bool (perm p)) ∧ Ext w w' := by
  have hlen := Lib.hid (h.len icell_len (by omega))
  go_enter Tryz.func55, Tryz.ntmps55
  by_cases hb : n < 1 ∨ 4 < n
  · have HF := Lib.hid (perm_len (p := p) (by rw [hlen.out]; exact hb))
    have HR : Hid ((n : Int) < 1 ∨ (4 : Int) < n) := by unfold Hid; omega
    clear hb
    go_wp2_with fail
    refine (in_no _ _ _ _ HR.out).mono ?_
    rintro e w1 ⟨rfl, rfl⟩
    go_wp2
    go_ret
    exact ⟨ret_bool HF.out.symm, (by repeat (first | exact Ext.refl _ | assumption | refine Ext.alloc ?_ _ | refine Ext.drewN ?_ _ | refine Ext.drew ?_))⟩
  have hn1 : 1 ≤ n := by omega
  have hn4 : n ≤ 4 := by omega
  clear hb
  go_wp2_with fail
  refine (in_yes _ _ _ _ (by omega) (by omega)).mono ?_
  rintro e w1 ⟨rfl, rfl⟩
  go_wp2
  go_loopw [13] (fun i wr => ∃ k : Nat, k ≤ n ∧ i = .int .i64 k ∧ Hid (permG p k = true) ∧ Blk wr w.heap.size 86 (seenA p k) ∧ Ext w wr) (fun i _ => n - (intOf i).toNat)
  case atStart => exact ⟨0, Nat.zero_le _, rfl, Lib.hid (by simp [permG]), Blk.new _ _ _, (by repeat (first | exact Ext.refl _ | assumption | refine Ext.alloc ?_ _ | refine Ext.drewN ?_ _ | refine Ext.drew ?_))⟩
  case round =>
    obtain ⟨k, hk, rfl, HQ, hB, hx⟩ := hrel
    by_cases hlt : k < n
    · obtain ⟨b, o, x, rfl, hb, hx0, h0⟩ := int_at (h.ext hx) hlt
      have HG := Lib.hid hx0
      clear hx0
      by_cases hr : x < 0 ∨ (n : Int) - 1 < x
      · have HF := Lib.hid (perm_no HG.out (okP_out hlen.out hr))
        have HR := Lib.hid hr
        clear hr
        go_wp2_with fail
        refine (in_no _ _ _ _ HR.out).mono ?_
        rintro e w1 ⟨rfl, rfl⟩
        go_wp2
        go_ret
        exact ⟨ret_bool HF.out.symm, hx⟩
      · obtain ⟨j, rfl⟩ := Int.eq_ofNat_of_zero_le (show 0 ≤ x by omega)
        have hj : j < n := by omega
        clear hr
        have hc : wr.cell? ⟨w.heap.size, j, none⟩ = some (.bool (hasI (p.take k) (j : Int))) := by rw [hB.cell j, seenA_at _ _ _ (by omega)]
        have hf : wr.frozen? ⟨w.heap.size, j, none⟩ = false := hB.frozen j
        have HB := Lib.hid hB
        clear hB
        cases hs : hasI (p.take k) (j : Int)
        · rw [hs] at hc
          have HN := Lib.hid (permG_snoc HG.out)
          rw [HQ.out, okP_in hlen.out (by omega) (by omega) hs] at HN
          go_wp2_with fail
          refine (in_yes _ _ _ _ (by omega) (by omega)).mono ?_
          rintro e w1 ⟨rfl, rfl⟩
          go_wp2
          go_roundw
          case rel => exact ⟨k + 1, by omega, by go_num, HN, by rw [← seenA_set HG.out (by omega)]; exact HB.out.set_ j _, hx.setCell (Nat.le_refl _) _⟩
          case measure => simp [intOf]; omega
        · rw [hs] at hc
          have HF := Lib.hid (perm_no HG.out (okP_in hlen.out (by omega) (by omega) hs))
          go_wp2_with fail
          refine (in_yes _ _ _ _ (by omega) (by omega)).mono ?_
          rintro e w1 ⟨rfl, rfl⟩
          go_wp2
          go_ret
          exact ⟨ret_bool HF.out.symm, hx⟩
    · obtain rfl : k = n := by omega
      have HF := Lib.hid (perm_yes (p := p) (by rw [hlen.out]; exact HQ.out) (by rw [hlen.out]; omega) (by rw [hlen.out]; omega))
      go_wp2
      go_ret
      exact ⟨ret_bool HF.out.symm, hx⟩

set_option maxRecDepth 100000 in
set_option maxHeartbeats 2000000 in
theorem spec_IsPermutation_any (A : Option Addr) (n c : Nat) (p : List Int) (w : World) (h : Rd w w.heap.size 1 A n (icells p)) (hn : n ≤ 100000000) (hc : n ≤ c) :
    Calls Tryz.prog 44 #[.slice A n c] w fun e w' => e = .returned (.bool (perm p)) ∧ Ext w w' := by
  have hlen := Lib.hid (h.len icell_len (by omega))
  go_enter Tryz.func44, Tryz.ntmps44
  go_wp2
  go_loopw [3] (fun i wr => ∃ k : Nat, k ≤ n ∧ i = .int .i64 k ∧ Hid (permG p k = true) ∧ ∃ r, wr = w.drewN r) (fun i _ => n - (intOf i).toNat)
  case atStart => exact ⟨0, by omega, rfl, Lib.hid (by simp [permG]), 0, rfl⟩
  case round =>
    obtain ⟨k, hk, rfl, HQ, r, rfl⟩ := hrel
    by_cases hlt : k < n
    · obtain ⟨b, o, x, rfl, hb, hx0, h0⟩ := int_at h hlt
      have HG := Lib.hid hx0
      clear hx0
      have hkc : (k : Int) ≤ (c : Int) := by omega
      have hdl : decide ((k : Int) < (n : Int)) = true := by simp; omega
      by_cases hr : x < 0 ∨ (n : Int) - 1 < x
      · have HF := Lib.hid (perm_no HG.out (okP_out hlen.out hr))
        have HR := Lib.hid hr
        clear hr
        go_wp2
        go_quiet ((go_at_call 45; (with_reducible refine quiet_more (l1In_no _ _ _ _ ?_)); exact HR.out))
        go_wp2
        go_ret
        exact ⟨ret_bool HF.out.symm, (by repeat (first | exact Ext.refl _ | assumption | refine Ext.alloc ?_ _ | refine Ext.drewN ?_ _ | refine Ext.drew ?_))⟩
      · have HH1 : Hid (0 ≤ x) := by unfold Hid; omega
        have HH2 : Hid (x ≤ (n : Int) - 1) := by unfold Hid; omega
        clear hr
        have hRk := rd_cut h (Nat.le_of_lt hlt)
        rw [icells_take] at hRk
        have HRk : Hid (∀ z, Rd (w.drewN z) (w.drewN z).heap.size 1 (some ⟨b, o, none⟩) k (icells (p.take k))) := fun z => hRk.ext ((Ext.refl w).drewN z)
        clear hRk
        cases hs : hasI (p.take k) x
        · have HN := Lib.hid (permG_snoc HG.out)
          rw [HQ.out, okP_in hlen.out HH1.out HH2.out hs] at HN
          go_wp2
          go_quiet (first | (go_at_call 45; (with_reducible refine quiet_more (l1In_yes _ _ _ _ HH1.out ?_)); exact HH2.out) | (go_at_call 62; (with_reducible refine quiet_more (l1HasInt_any _ k c (p.take k) x _ (HRk.out _) ?_)); omega))
          go_wp2
          go_roundw
          case rel => exact ⟨k + 1, by omega, by go_num, HN, _, rfl⟩
          case measure => simp [intOf]; omega
        · have HF := Lib.hid (perm_no HG.out (okP_in hlen.out HH1.out HH2.out hs))
          go_wp2
          go_quiet (first | (go_at_call 45; (with_reducible refine quiet_more (l1In_yes _ _ _ _ HH1.out ?_)); exact HH2.out) | (go_at_call 62; (with_reducible refine quiet_more (l1HasInt_any _ k c (p.take k) x _ (HRk.out _) ?_)); omega))
          go_wp2
          go_ret
          exact ⟨ret_bool HF.out.symm, (by repeat (first | exact Ext.refl _ | assumption | refine Ext.alloc ?_ _ | refine Ext.drewN ?_ _ | refine Ext.drew ?_))⟩
    · obtain rfl : k = n := by omega
      by_cases hb : k < 1 ∨ 4 < k
      · have HF := Lib.hid (perm_len (p := p) (by rw [hlen.out]; exact hb))
        have HR : Hid ((k : Int) < 1 ∨ (4 : Int) < k) := by unfold Hid; omega
        clear hb
        go_wp2_with fail
        refine (l1In_no _ _ _ _ HR.out).mono ?_
        rintro e w1 ⟨rfl, rfl⟩
        go_wp2
        go_ret
        exact ⟨ret_bool HF.out.symm, (by repeat (first | exact Ext.refl _ | assumption | refine Ext.alloc ?_ _ | refine Ext.drewN ?_ _ | refine Ext.drew ?_))⟩
      · have HF := Lib.hid (perm_yes (p := p) (by rw [hlen.out]; exact HQ.out) (by rw [hlen.out]; omega) (by rw [hlen.out]; omega))
        go_wp2_with fail
        refine (l1In_yes _ _ _ _ (by omega) (by omega)).mono ?_
        rintro e w1 ⟨rfl, rfl⟩
        go_wp2
        go_ret
        exact ⟨ret_bool HF.out.symm, (by repeat (first | exact Ext.refl _ | assumption | refine Ext.alloc ?_ _ | refine Ext.drewN ?_ _ | refine Ext.drew ?_))⟩
end Go.Proofs.YteecjnnompjmiacGreatDoor
