/-
  Helper text (no claim of its own): the gates among ops, by the program and by the reference.
-/
import Derived.Test.YtgnijfmgfpckeaaOp
namespace Go.Proofs.Ytgnijfmgfpckeaa
open Go.ChangeShapes Go.WideShapes Go.ChangeAt Go.RowKit Go.Deep
def opGates (xs : List Oq) : List Gt := (xs.filter fun o => o.k == 1).map Oq.g
theorem opGates_yes {xs : List Oq} {k : Nat} {o : Oq} (h : xs[k]? = some o) (hk : (o.k == 1) = true) : opGates (xs.take (k + 1)) = opGates (xs.take k) ++ [o.g] := by
  unfold opGates; rw [take_snoc h]; simp [List.filter_append, hk]
theorem opGates_no {xs : List Oq} {k : Nat} {o : Oq} (h : xs[k]? = some o) (hk : (o.k == 1) = false) : opGates (xs.take (k + 1)) = opGates (xs.take k) := by
  unfold opGates; rw [take_snoc h]; simp [List.filter_append, hk]
theorem opGates_len (xs : List Oq) (k : Nat) : (opGates (xs.take k)).length ≤ k := by
  unfold opGates
  rw [List.length_map]
  exact Nat.le_trans (List.length_filter_le _ _) (List.length_take_le _ _)

set_option maxRecDepth 100000 in
set_option maxHeartbeats 1000000 in
theorem impl_OpGates_any (A : Option Addr) (n c : Nat) (xs : List Oq) (w : World) (h : Rd w w.heap.size 8 A n (ocells xs)) (hn : n ≤ 1048576) :
    Calls Try.prog 11 #[.slice A n c] w fun e w' => ∃ v, e = .returned v ∧ w'.ownsRow w.heap.size 30 4 v (opGates xs).length (gcells (opGates xs)) ∧ Ext w w' := by
  have hlen := Lib.hid (h.len Oq.cells_len (by omega))
  go_enter Try.func11, Try.ntmps11
  go_wp2
  go_loopw [3, 9] (fun v i wr => ∃ k : Nat, k ≤ n ∧ i = .int .i64 k ∧ wr.ownsRow w.heap.size 30 4 v (opGates (xs.take k)).length (gcells (opGates (xs.take k))) ∧ Ext w wr) (fun _ i _ => n - (intOf i).toNat)
  case atStart => exact ⟨0, Nat.zero_le _, rfl, own_empty w w _ _ (Ext.refl _), (by repeat (first | exact Ext.refl _ | assumption | refine Ext.alloc ?_ _ | refine Ext.drewN ?_ _ | refine Ext.drew ?_))⟩
  case round =>
    obtain ⟨k, hk, rfl, hown, hx⟩ := hrel
    by_cases hlt : k < n
    · obtain ⟨b, o, x, rfl, hb, hg, h0, h1, h2, h3, h4, h5, h6, h7⟩ := op_at (h.ext hx) hlt
      have HG := Lib.hid hg
      clear hg
      have hle := opGates_len xs k
      cases hk1 : (x.k == 1)
      · have HS := Lib.hid (opGates_no HG.out hk1)
        go_wp2
        go_roundw
        case rel => exact ⟨k + 1, by omega, by go_num, by rw [HS.out]; exact hown.alloc _, hx.alloc _⟩
        case measure => simp [intOf]; omega
      · have HS := Lib.hid (opGates_yes HG.out hk1)
        go_wp2_with (at_builtin; refine appGate rfl _ _ rfl _ _ (opGates (xs.take k)) rfl (hown.alloc _) (hx.alloc _) x.g _ _ rfl (by simp) (by omega) ?_; intro v1 w1 hown1 hx1 hg1 hb1)
        go_roundw
        case rel => exact ⟨k + 1, by omega, by go_num, by rw [HS.out, List.length_append]; exact hown1, hx1⟩
        case measure => simp [intOf]; omega
    · rw [List.take_of_length_le (by rw [hlen.out]; omega)] at hown
      go_wp2
      go_ret
      exact ⟨_, rfl, hown, hx⟩
end Go.Proofs.Ytgnijfmgfpckeaa
