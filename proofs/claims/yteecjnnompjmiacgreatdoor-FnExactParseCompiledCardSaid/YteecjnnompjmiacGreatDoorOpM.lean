/-
  Helper text (no claim of its own): the laws' marking of slices of Op and the look at the marks. Printed by gen_fam.py.
-/
import Derived.Test.YteecjnnompjmiacGreatDoorOp
namespace Go.Proofs.YteecjnnompjmiacGreatDoor
open Go.ChangeShapes Go.WideShapes Go.ChangeAt Go.RowKit Go.Deep
set_option maxRecDepth 100000 in
set_option maxHeartbeats 2000000 in
theorem markOpS_any (A : Option Addr) (n c B : Nat) (s : Nat) (xs : List Value) (w : World) (h : w.ownsRow B 39 8 (.slice A n c) n xs) (hn : n ≤ 100000000) (hs : s ≤ 1000000000000) :
    Calls Tryz.prog 20 #[.slice A n c, .int .i64 s] w fun e w' => e = .returned (.int .i64 ((s + n * 8 : Nat) : Int)) ∧ w'.ownsRow B 39 8 (.slice A n c) n (mkd s (n * 8)) ∧ w.grownBy w' (Value.slice A n c).ownBlock := by
  have H := Lib.hid h
  clear h
  go_enter Tryz.func20, Tryz.ntmps20
  go_wp2
  go_loopw [1, 5] (fun t i wr => ∃ k : Nat, k ≤ n ∧ i = .int .i64 k ∧ t = .int .i64 ((s + k * 8 : Nat) : Int) ∧ (∀ g, A = some ⟨g, 0, none⟩ → B ≤ g ∧ Part wr g 39 (c * 8) (k * 8) (mkd s (n * 8))) ∧ w.grownBy wr (Value.slice A n c).ownBlock) (fun _ i _ => n - (intOf i).toNat)
  case atStart => exact ⟨0, Nat.zero_le _, rfl, by simp, fun g hg => own_part H.out hg _, World.grownBy.refl _ _⟩
  case round =>
    obtain ⟨k, hk, rfl, rfl, hP, hG⟩ := hrel
    by_cases hlt : k < n
    · obtain ⟨g, hA, hnc⟩ := own_head H.out (by omega)
      subst hA
      obtain ⟨hBg, hP1⟩ := hP g rfl
      clear hP
      obtain ⟨c0, q0⟩ := hP1.cell (j := k * 8) (by omega)
      obtain ⟨c1, q1⟩ := hP1.cell (j := k * 8 + 1) (by omega)
      obtain ⟨c2, q2⟩ := hP1.cell (j := k * 8 + 2) (by omega)
      obtain ⟨c3, q3⟩ := hP1.cell (j := k * 8 + 3) (by omega)
      obtain ⟨c4, q4⟩ := hP1.cell (j := k * 8 + 4) (by omega)
      obtain ⟨c5, q5⟩ := hP1.cell (j := k * 8 + 5) (by omega)
      obtain ⟨c6, q6⟩ := hP1.cell (j := k * 8 + 6) (by omega)
      obtain ⟨c7, q7⟩ := hP1.cell (j := k * 8 + 7) (by omega)
      have f0 := hP1.frozen (k * 8)
      have f1 := hP1.frozen (k * 8 + 1)
      have f2 := hP1.frozen (k * 8 + 2)
      have f3 := hP1.frozen (k * 8 + 3)
      have f4 := hP1.frozen (k * 8 + 4)
      have f5 := hP1.frozen (k * 8 + 5)
      have f6 := hP1.frozen (k * 8 + 6)
      have f7 := hP1.frozen (k * 8 + 7)
      go_wp2
      go_roundw
      case rel => exact ⟨k + 1, by omega, by go_num, by go_num, fun g' hg' => by injection hg' with hg'; injection hg' with hg'; subst hg'; refine ⟨hBg, ?_⟩; rw [Nat.add_mul]; exact ((((((((hP1.set_ (mkd_at _ _ _ _ (by omega) (by omega)) (by omega)).set_ (mkd_at _ _ _ _ (by omega) (by omega)) (by omega)).set_ (mkd_at _ _ _ _ (by omega) (by omega)) (by omega)).set_ (mkd_at _ _ _ _ (by omega) (by omega)) (by omega)).set_ (mkd_at _ _ _ _ (by omega) (by omega)) (by omega)).set_ (mkd_at _ _ _ _ (by omega) (by omega)) (by omega)).set_ (mkd_at _ _ _ _ (by omega) (by omega)) (by omega)).set_ (mkd_at _ _ _ _ (by omega) (by omega)) (by omega)), (grownBy_setCell (grownBy_setCell (grownBy_setCell (grownBy_setCell (grownBy_setCell (grownBy_setCell (grownBy_setCell (grownBy_setCell hG _) _) _) _) _) _) _) _)⟩
      case measure => simp [intOf]; omega
    · have : k = n := by omega
      subst this
      go_wp2
      go_ret
      exact ⟨rfl, own_marked H.out _ (mkd_len _ _) hP, hG⟩
set_option maxRecDepth 100000 in
set_option maxHeartbeats 2000000 in
theorem heldOpS_any (A : Option Addr) (n c : Nat) (s : Nat) (w : World) (h : Rd w w.heap.size 8 A n (mkd s (n * 8))) (hn : n ≤ 100000000) (hs : s ≤ 1000000000000) :
    Calls Tryz.prog 22 #[.slice A n c, .int .i64 s] w fun e w' => e = .returned (.int .i64 ((s + n * 8 : Nat) : Int)) ∧ w = w' := by
  go_enter Tryz.func22, Tryz.ntmps22
  go_wp2
  go_loop [1, 5] (fun t i => ∃ k : Nat, k ≤ n ∧ i = .int .i64 k ∧ t = .int .i64 ((s + k * 8 : Nat) : Int)) (fun _ i => n - (intOf i).toNat)
  case atStart => exact ⟨0, Nat.zero_le _, rfl, by simp⟩
  case round =>
    obtain ⟨k, hk, rfl, rfl⟩ := hrel
    by_cases hlt : k < n
    · obtain ⟨b, o, rfl, hb, hc⟩ := h.2 (by omega)
      have h0 : w.cell? ⟨b, o + k * 8, none⟩ = some (.int .i64 (((s + k * 8 : Nat) : Int))) := by have := hc (k * 8 + 0) _ (mkd_at s (n * 8) (k * 8 + 0) ((((s + k * 8 : Nat) : Int))) (by omega) (by omega)); simpa [Nat.add_assoc] using this
      have h1 : w.cell? ⟨b, o + k * 8 + 1, none⟩ = some (.int .i64 (((s + k * 8 : Nat) : Int) + 1)) := by have := hc (k * 8 + 1) _ (mkd_at s (n * 8) (k * 8 + 1) ((((s + k * 8 : Nat) : Int) + 1)) (by omega) (by omega)); simpa [Nat.add_assoc] using this
      have h2 : w.cell? ⟨b, o + k * 8 + 2, none⟩ = some (.int .i64 (((s + k * 8 : Nat) : Int) + 2)) := by have := hc (k * 8 + 2) _ (mkd_at s (n * 8) (k * 8 + 2) ((((s + k * 8 : Nat) : Int) + 2)) (by omega) (by omega)); simpa [Nat.add_assoc] using this
      have h3 : w.cell? ⟨b, o + k * 8 + 3, none⟩ = some (.int .i64 (((s + k * 8 : Nat) : Int) + 3)) := by have := hc (k * 8 + 3) _ (mkd_at s (n * 8) (k * 8 + 3) ((((s + k * 8 : Nat) : Int) + 3)) (by omega) (by omega)); simpa [Nat.add_assoc] using this
      have h4 : w.cell? ⟨b, o + k * 8 + 4, none⟩ = some (.int .i64 (((s + k * 8 : Nat) : Int) + 4)) := by have := hc (k * 8 + 4) _ (mkd_at s (n * 8) (k * 8 + 4) ((((s + k * 8 : Nat) : Int) + 4)) (by omega) (by omega)); simpa [Nat.add_assoc] using this
      have h5 : w.cell? ⟨b, o + k * 8 + 5, none⟩ = some (.int .i64 (((s + k * 8 : Nat) : Int) + 5)) := by have := hc (k * 8 + 5) _ (mkd_at s (n * 8) (k * 8 + 5) ((((s + k * 8 : Nat) : Int) + 5)) (by omega) (by omega)); simpa [Nat.add_assoc] using this
      have h6 : w.cell? ⟨b, o + k * 8 + 6, none⟩ = some (.int .i64 (((s + k * 8 : Nat) : Int) + 6)) := by have := hc (k * 8 + 6) _ (mkd_at s (n * 8) (k * 8 + 6) ((((s + k * 8 : Nat) : Int) + 6)) (by omega) (by omega)); simpa [Nat.add_assoc] using this
      have h7 : w.cell? ⟨b, o + k * 8 + 7, none⟩ = some (.int .i64 (((s + k * 8 : Nat) : Int) + 7)) := by have := hc (k * 8 + 7) _ (mkd_at s (n * 8) (k * 8 + 7) ((((s + k * 8 : Nat) : Int) + 7)) (by omega) (by omega)); simpa [Nat.add_assoc] using this
      clear hc
      go_wp2
      go_round
      case rel => exact ⟨k + 1, by omega, by go_num, by go_num⟩
      case measure => simp [intOf]; omega
    · have : k = n := by omega
      subst this
      go_wp2
      go_ret
      exact ⟨rfl, rfl⟩
end Go.Proofs.YteecjnnompjmiacGreatDoor
