/-
  Helper text (no claim of its own): the laws' marking of slices of Edge and the look at the marks. Printed by gen_fam.py.
-/
import Derived.Test.YtnemoemdanidbaaEdge
namespace Go.Proofs.Ytnemoemdanidbaa
open Go.ChangeShapes Go.WideShapes Go.ChangeAt Go.RowKit Go.Deep
set_option maxRecDepth 100000 in
set_option maxHeartbeats 2000000 in
theorem markEdgeS_any (A : Option Addr) (n c B : Nat) (s : Nat) (xs : List Value) (w : World) (h : w.ownsRow B 130 2 (.slice A n c) n xs) (hn : n ≤ 100000000) (hs : s ≤ 1000000000000) :
    Calls Try.prog 82 #[.slice A n c, .int .i64 s] w fun e w' => e = .returned (.int .i64 ((s + n * 2 : Nat) : Int)) ∧ w'.ownsRow B 130 2 (.slice A n c) n (mkd s (n * 2)) ∧ w.grownBy w' (Value.slice A n c).ownBlock := by
  have H := Lib.hid h
  clear h
  go_enter Try.func82, Try.ntmps82
  go_wp2
  go_loopw [1, 5] (fun t i wr => ∃ k : Nat, k ≤ n ∧ i = .int .i64 k ∧ t = .int .i64 ((s + k * 2 : Nat) : Int) ∧ (∀ g, A = some ⟨g, 0, none⟩ → B ≤ g ∧ Part wr g 130 (c * 2) (k * 2) (mkd s (n * 2))) ∧ w.grownBy wr (Value.slice A n c).ownBlock) (fun _ i _ => n - (intOf i).toNat)
  case atStart => exact ⟨0, Nat.zero_le _, rfl, by simp, fun g hg => own_part H.out hg _, World.grownBy.refl _ _⟩
  case round =>
    obtain ⟨k, hk, rfl, rfl, hP, hG⟩ := hrel
    by_cases hlt : k < n
    · obtain ⟨g, hA, hnc⟩ := own_head H.out (by omega)
      subst hA
      obtain ⟨hBg, hP1⟩ := hP g rfl
      clear hP
      obtain ⟨c0, q0⟩ := hP1.cell (j := k * 2) (by omega)
      obtain ⟨c1, q1⟩ := hP1.cell (j := k * 2 + 1) (by omega)
      have f0 := hP1.frozen (k * 2)
      have f1 := hP1.frozen (k * 2 + 1)
      go_wp2
      go_roundw
      case rel => exact ⟨k + 1, by omega, by go_num, by go_num, fun g' hg' => by injection hg' with hg'; injection hg' with hg'; subst hg'; refine ⟨hBg, ?_⟩; rw [Nat.add_mul]; exact ((hP1.set_ (mkd_at _ _ _ _ (by omega) (by omega)) (by omega)).set_ (mkd_at _ _ _ _ (by omega) (by omega)) (by omega)), (grownBy_setCell (grownBy_setCell hG _) _)⟩
      case measure => simp [intOf]; omega
    · have : k = n := by omega
      subst this
      go_wp2
      go_ret
      exact ⟨rfl, own_marked H.out _ (mkd_len _ _) hP, hG⟩
end Go.Proofs.Ytnemoemdanidbaa
