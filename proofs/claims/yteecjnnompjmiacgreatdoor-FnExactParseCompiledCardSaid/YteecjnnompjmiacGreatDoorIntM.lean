/-
  Helper text (no claim of its own): the laws' marking of slices of ints and the look at the marks.
-/
import Derived.Test.YteecjnnompjmiacGreatDoorInt
namespace Go.Proofs.YteecjnnompjmiacGreatDoor
open Go.ChangeShapes Go.WideShapes Go.ChangeAt Go.RowKit Go.Deep
set_option maxRecDepth 100000 in
set_option maxHeartbeats 2000000 in
theorem markIntS_any (A : Option Addr) (n c B : Nat) (s : Nat) (xs : List Value) (w : World) (h : w.ownsRow B 3 1 (.slice A n c) n xs) (hn : n ≤ 100000000) (hs : s ≤ 1000000000000) :
    Calls Tryz.prog 21 #[.slice A n c, .int .i64 s] w fun e w' => e = .returned (.int .i64 ((s + n : Nat) : Int)) ∧ w'.ownsRow B 3 1 (.slice A n c) n (mkd s n) ∧ w.grownBy w' (Value.slice A n c).ownBlock := by
  have H := Lib.hid h
  clear h
  go_enter Tryz.func21, Tryz.ntmps21
  go_wp2
  go_loopw [1, 5] (fun t i wr => ∃ k : Nat, k ≤ n ∧ i = .int .i64 k ∧ t = .int .i64 ((s + k : Nat) : Int) ∧ (∀ g, A = some ⟨g, 0, none⟩ → B ≤ g ∧ Part wr g 3 (c * 1) (k * 1) (mkd s n)) ∧ w.grownBy wr (Value.slice A n c).ownBlock) (fun _ i _ => n - (intOf i).toNat)
  case atStart => exact ⟨0, Nat.zero_le _, rfl, by simp, fun g hg => own_part H.out hg _, World.grownBy.refl _ _⟩
  case round =>
    obtain ⟨k, hk, rfl, rfl, hP, hG⟩ := hrel
    by_cases hlt : k < n
    · obtain ⟨g, hA, hnc⟩ := own_head H.out (by omega)
      subst hA
      obtain ⟨hBg, hP1⟩ := hP g rfl
      clear hP
      rw [Nat.mul_one, Nat.mul_one] at hP1
      obtain ⟨c0, q0⟩ := hP1.cell (j := k) (by omega)
      have f0 := hP1.frozen k
      go_wp2
      go_roundw
      case rel => exact ⟨k + 1, by omega, by go_num, by go_num, fun g' hg' => by injection hg' with hg'; injection hg' with hg'; subst hg'; refine ⟨hBg, ?_⟩; rw [Nat.mul_one, Nat.mul_one]; exact hP1.set_ (mkd_at _ _ _ _ (by omega) (by omega)) (by omega), grownBy_setCell hG _⟩
      case measure => simp [intOf]; omega
    · have : k = n := by omega
      subst this
      go_wp2
      go_ret
      exact ⟨rfl, own_marked H.out _ (by rw [mkd_len, Nat.mul_one]) hP, hG⟩
set_option maxRecDepth 100000 in
set_option maxHeartbeats 2000000 in
theorem heldIntS_any (A : Option Addr) (n c : Nat) (s : Nat) (w : World) (h : Rd w w.heap.size 1 A n (mkd s n)) (hn : n ≤ 100000000) (hs : s ≤ 1000000000000) :
    Calls Tryz.prog 23 #[.slice A n c, .int .i64 s] w fun e w' => e = .returned (.int .i64 ((s + n : Nat) : Int)) ∧ w = w' := by
  go_enter Tryz.func23, Tryz.ntmps23
  go_wp2
  go_loop [1, 5] (fun t i => ∃ k : Nat, k ≤ n ∧ i = .int .i64 k ∧ t = .int .i64 ((s + k : Nat) : Int)) (fun _ i => n - (intOf i).toNat)
  case atStart => exact ⟨0, Nat.zero_le _, rfl, by simp⟩
  case round =>
    obtain ⟨k, hk, rfl, rfl⟩ := hrel
    by_cases hlt : k < n
    · obtain ⟨b, o, rfl, hb, hc⟩ := h.2 (by omega)
      have h0 : w.cell? ⟨b, o + k, none⟩ = some (.int .i64 (((s + k : Nat) : Int))) := hc k _ (mkd_at s n k ((((s + k : Nat) : Int))) (by omega) (by omega))
      clear hc
      go_wp2
      go_round
      case rel => exact ⟨k + 1, by omega, by go_num, by go_num⟩
      case measure => simp [intOf]; omega
    · have : k = n := by omega
      subst this
      go_wp2
      go_ret
      exact ⟨rfl, rfl⟩
theorem heldIntS_at (A : Option Addr) (n c : Nat) (t : Int) (s : Nat) (w : World) (ht : t = (s : Int)) (h : Rd w w.heap.size 1 A n (mkd s n)) (hn : n ≤ 100000000) (hs : s ≤ 1000000000000) :
    Calls Tryz.prog 23 #[.slice A n c, .int .i64 t] w fun e w' => e = .returned (.int .i64 ((s + n : Nat) : Int)) ∧ w = w' := by
  subst ht
  exact heldIntS_any A n c s w h hn hs
end Go.Proofs.YteecjnnompjmiacGreatDoor
