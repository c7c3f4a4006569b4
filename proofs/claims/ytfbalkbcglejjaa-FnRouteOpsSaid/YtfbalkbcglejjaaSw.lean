/-
  Helper text (no claim of its own): a layout after a swap, by the program and by the reference.
-/
import Derived.Test.YtfbalkbcglejjaaPerm
namespace Go.Proofs.Ytfbalkbcglejjaa
open Go.ChangeShapes Go.WideShapes Go.ChangeAt Go.RowKit Go.Deep
def sw1 (a b x : Int) : Int := if (x == a) = true then b else if (x == b) = true then a else x
theorem sw1_a {a b x : Int} (h : (x == a) = true) : sw1 a b x = b := if_pos h
theorem sw1_b {a b x : Int} (h : (x == a) = false) (h' : (x == b) = true) : sw1 a b x = a := by unfold sw1; rw [if_neg (by simp [h]), if_pos h']
theorem sw1_n {a b x : Int} (h : (x == a) = false) (h' : (x == b) = false) : sw1 a b x = x := by unfold sw1; rw [if_neg (by simp [h]), if_neg (by simp [h'])]
/-- The layout p after a swap of a and b. -/
def swapL (p : List Int) (a b : Int) : List Int := if perm p = true then p.map (sw1 a b) else []
theorem swapL_no {p : List Int} {a b : Int} (h : perm p = false) : swapL p a b = [] := if_neg (by simp [h])
theorem swapL_yes {p : List Int} {a b : Int} (h : perm p = true) : swapL p a b = p.map (sw1 a b) := if_pos h
theorem map_snoc {α β : Type} (f : α → β) {p : List α} {k : Nat} {x : α} (h : p[k]? = some x) : (p.take (k + 1)).map f = (p.take k).map f ++ [f x] := by
  rw [take_snoc h, List.map_append]; rfl
theorem map_take_len {α β : Type} (f : α → β) {p : List α} {k n : Nat} (hk : k ≤ n) (hn : p.length = n) : ((p.take k).map f).length = k := by
  rw [List.length_map, List.length_take]; omega
theorem perm_le {p : List Int} (h : perm p = true) : 1 ≤ p.length ∧ p.length ≤ 4 := by
  unfold perm at h
  simp only [Bool.and_eq_true, decide_eq_true_eq] at h
  exact h.2
set_option maxRecDepth 100000 in
set_option maxHeartbeats 2000000 in
theorem impl_SwapLayout_any (A : Option Addr) (n c : Nat) (p : List Int) (a b : Int) (w : World) (h : Rd w w.heap.size 1 A n (icells p)) (hn : n ≤ 100000000) :
    Calls Try.prog 79 #[.slice A n c, .int .i64 a, .int .i64 b] w fun e w' => ∃ v, e = .returned v ∧ w'.ownsRow w.heap.size 3 1 v (swapL p a b).length (icells (swapL p a b)) ∧ Ext w w' := by
  have hlen := Lib.hid (h.len icell_len (by omega))
  go_enter Try.func79, Try.ntmps79
  go_wp2_with fail
  refine (impl_IsPermutation_any A n c p _ h hn).mono ?_
  rintro e w1 ⟨rfl, hx1⟩
  cases hp : perm p
  · have HS := Lib.hid (swapL_no (a := a) (b := b) hp)
    go_wp2
    go_ret
    exact ⟨_, rfl, by rw [HS.out]; exact World.ownsRow_nil _ _ _ _, hx1⟩
  have HS := Lib.hid (swapL_yes (a := a) (b := b) hp)
  have hn4 : n ≤ 4 := by have := (perm_le hp).2; have := hlen.out; omega
  clear hp
  go_wp2
  go_loopw [7, 16] (fun v i wr => ∃ k : Nat, k ≤ n ∧ i = .int .i64 k ∧ wr.ownsRow w.heap.size 3 1 v k (icells ((p.take k).map (sw1 a b))) ∧ Ext w wr) (fun _ i _ => n - (intOf i).toNat)
  case atStart => exact ⟨0, Nat.zero_le _, rfl, own_empty w w1 _ _ hx1, hx1.alloc _⟩
  case round =>
    obtain ⟨k, hk, rfl, ho, hx⟩ := hrel
    by_cases hlt : k < n
    · obtain ⟨bb, o, x, rfl, hb, hq, h0⟩ := int_at (h.ext hx) hlt
      have HSN := Lib.hid (map_snoc (sw1 a b) hq)
      clear hq
      cases ha : (x == a)
      · cases hb' : (x == b)
        · have HV := Lib.hid (sw1_n ha hb')
          go_wp2_with (at_builtin; refine appInt (w0 := w) rfl _ _ rfl _ k ((p.take k).map (sw1 a b)) rfl ho hx x _ _ rfl (by simp) (by omega) ?_; intro v1 w2 ho1 hx2 hg2 hb2)
          go_roundw
          case rel => exact ⟨k + 1, by omega, by go_num, by rw [HSN.out, HV.out]; exact ho1, hx2⟩
          case measure => simp [intOf]; omega
        · have HV := Lib.hid (sw1_b ha hb')
          go_wp2_with (at_builtin; refine appInt (w0 := w) rfl _ _ rfl _ k ((p.take k).map (sw1 a b)) rfl ho hx a _ _ rfl (by simp) (by omega) ?_; intro v1 w2 ho1 hx2 hg2 hb2)
          go_roundw
          case rel => exact ⟨k + 1, by omega, by go_num, by rw [HSN.out, HV.out]; exact ho1, hx2⟩
          case measure => simp [intOf]; omega
      · have HV := Lib.hid (sw1_a (b := b) ha)
        go_wp2_with (at_builtin; refine appInt (w0 := w) rfl _ _ rfl _ k ((p.take k).map (sw1 a b)) rfl ho hx b _ _ rfl (by simp) (by omega) ?_; intro v1 w2 ho1 hx2 hg2 hb2)
        go_roundw
        case rel => exact ⟨k + 1, by omega, by go_num, by rw [HSN.out, HV.out]; exact ho1, hx2⟩
        case measure => simp [intOf]; omega
    · obtain rfl : k = n := by omega
      rw [List.take_of_length_le (by rw [hlen.out]; omega)] at ho
      go_wp2
      go_ret
      exact ⟨_, rfl, by rw [HS.out, List.length_map, hlen.out]; exact ho, hx⟩
set_option maxRecDepth 100000 in
set_option maxHeartbeats 2000000 in
theorem spec_SwapLayout_any (A : Option Addr) (n c : Nat) (p : List Int) (a b : Int) (w : World) (h : Rd w w.heap.size 1 A n (icells p)) (hn : n ≤ 100000000) (hc : n ≤ c) :
    Calls Try.prog 84 #[.slice A n c, .int .i64 a, .int .i64 b] w fun e w' => ∃ v, e = .returned v ∧ w'.ownsRow w.heap.size 3 1 v (swapL p a b).length (icells (swapL p a b)) ∧ Ext w w' := by
  have hlen := Lib.hid (h.len icell_len (by omega))
  go_enter Try.func84, Try.ntmps84
  go_wp2
  cases hp : perm p
  · have HS := Lib.hid (swapL_no (a := a) (b := b) hp)
    go_loopw [7, 8] (fun v i wr => i = .int .i64 0 ∧ wr.ownsRow w.heap.size 3 1 v 0 (icells []) ∧ Ext w wr) (fun _ _ _ => 0)
    case atStart => exact ⟨rfl, own_empty w w _ _ (Ext.refl _), (by repeat (first | exact Ext.refl _ | assumption | refine Ext.alloc ?_ _ | refine Ext.drewN ?_ _ | refine Ext.drew ?_))⟩
    case round =>
      obtain ⟨rfl, ho, hx⟩ := hrel
      go_wp2_with fail
      refine (spec_IsPermutation_any A n c p _ (h.ext hx) hn hc).mono ?_
      rintro e w1 ⟨rfl, hx1⟩
      rw [hp]
      have ho1 := own_ext ho hx1
      clear hp
      go_wp2
      go_ret
      exact ⟨_, rfl, by rw [HS.out]; exact ho1, hx.trans hx1⟩
  have HS := Lib.hid (swapL_yes (a := a) (b := b) hp)
  have hn4 : n ≤ 4 := by have := (perm_le hp).2; have := hlen.out; omega
  have HP := Lib.hid hp
  clear hp
  go_loopw [7, 8] (fun v i wr => ∃ k : Nat, k ≤ n ∧ i = .int .i64 k ∧ wr.ownsRow w.heap.size 3 1 v k (icells ((p.take k).map (sw1 a b))) ∧ Ext w wr) (fun _ i _ => n - (intOf i).toNat)
  case atStart => exact ⟨0, Nat.zero_le _, rfl, own_empty w w _ _ (Ext.refl _), (by repeat (first | exact Ext.refl _ | assumption | refine Ext.alloc ?_ _ | refine Ext.drewN ?_ _ | refine Ext.drew ?_))⟩
  case round =>
    obtain ⟨k, hk, rfl, ho, hx⟩ := hrel
    go_wp2_with fail
    refine (spec_IsPermutation_any A n c p _ (h.ext hx) hn hc).mono ?_
    rintro e w1 ⟨rfl, hx1⟩
    rw [HP.out]
    have ho1 := own_ext ho hx1
    replace hx := hx.trans hx1
    by_cases hlt : k < n
    · obtain ⟨bb, o, x, rfl, hb, hq, h0⟩ := int_at (h.ext hx) hlt
      have HSN := Lib.hid (map_snoc (sw1 a b) hq)
      clear hq
      cases ha : (x == a)
      · cases hb' : (x == b)
        · have HV := Lib.hid (sw1_n ha hb')
          go_wp2_with (at_builtin; refine appInt (w0 := w) rfl _ _ rfl _ k ((p.take k).map (sw1 a b)) rfl ho1 hx x _ _ rfl (by simp) (by omega) ?_; intro v1 w2 ho2 hx2 hg2 hb2)
          go_roundw
          case rel => exact ⟨k + 1, by omega, by go_num, by rw [HSN.out, HV.out]; exact ho2, hx2⟩
          case measure => simp [intOf]; omega
        · have HV := Lib.hid (sw1_b ha hb')
          go_wp2_with (at_builtin; refine appInt (w0 := w) rfl _ _ rfl _ k ((p.take k).map (sw1 a b)) rfl ho1 hx a _ _ rfl (by simp) (by omega) ?_; intro v1 w2 ho2 hx2 hg2 hb2)
          go_roundw
          case rel => exact ⟨k + 1, by omega, by go_num, by rw [HSN.out, HV.out]; exact ho2, hx2⟩
          case measure => simp [intOf]; omega
      · have HV := Lib.hid (sw1_a (b := b) ha)
        go_wp2_with (at_builtin; refine appInt (w0 := w) rfl _ _ rfl _ k ((p.take k).map (sw1 a b)) rfl ho1 hx b _ _ rfl (by simp) (by omega) ?_; intro v1 w2 ho2 hx2 hg2 hb2)
        go_roundw
        case rel => exact ⟨k + 1, by omega, by go_num, by rw [HSN.out, HV.out]; exact ho2, hx2⟩
        case measure => simp [intOf]; omega
    · obtain rfl : k = n := by omega
      rw [List.take_of_length_le (by rw [hlen.out]; omega)] at ho1
      go_wp2
      go_ret
      exact ⟨_, rfl, by rw [HS.out, List.length_map, hlen.out]; exact ho1, hx⟩
end Go.Proofs.Ytfbalkbcglejjaa
