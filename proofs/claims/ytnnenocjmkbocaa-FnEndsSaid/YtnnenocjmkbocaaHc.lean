/-
  Helper text (no claim of its own): the number of Hadamard gates, by the program and by the reference.
-/
import Derived.Test.YtnnenocjmkbocaaGate
namespace Go.Proofs.Ytnnenocjmkbocaa
open Go.ChangeShapes Go.WideShapes Go.ChangeAt Go.RowKit Go.Deep
def cntK (q : Int) (gs : List Gt) : Nat := (gs.filter fun g => g.k == q).length
theorem cntK_snoc (q : Int) {gs : List Gt} {k : Nat} {g : Gt} (h : gs[k]? = some g) : cntK q (gs.take (k + 1)) = cntK q (gs.take k) + (if (g.k == q) = true then 1 else 0) := by
  unfold cntK
  rw [take_snoc h, List.filter_append, List.length_append]
  by_cases e : (g.k == q) = true <;> simp [e]
theorem cntK_le (q : Int) (gs : List Gt) (k : Nat) : cntK q (gs.take k) ≤ k := by
  unfold cntK
  exact Nat.le_trans (List.length_filter_le _ _) (List.length_take_le _ _)

set_option maxHeartbeats 400000 in
theorem impl_HadamardCount_any (A : Option Addr) (n c : Nat) (gs : List Gt) (w : World) (h : Rd w w.heap.size 4 A n (gcells gs)) (hn : n ≤ 1048576) :
    Calls Try.prog 50 #[.slice A n c] w fun e w' => e = .returned (.int .i64 (cntK 4 gs)) ∧ Ext w w' := by
  go_enter Try.func50, Try.ntmps50
  go_wp2
  go_loopw [3, 8] (fun v i wr => ∃ k : Nat, k ≤ n ∧ i = .int .i64 k ∧ v = .int .i64 (cntK 4 (gs.take k)) ∧ Ext w wr) (fun _ i _ => n - (intOf i).toNat)
  case atStart => exact ⟨0, Nat.zero_le _, rfl, rfl, Ext.refl _⟩
  case round =>
    obtain ⟨k, hk, rfl, rfl, hx⟩ := hrel
    have hle := cntK_le 4 gs k
    by_cases hlt : k < n
    · obtain ⟨b, o, g, rfl, hb, hg, h0, h1, h2, h3⟩ := gate_at (h.ext hx) hlt
      have hs := Lib.hid (cntK_snoc 4 hg)
      go_wp2
      all_goals
        go_roundw
        case rel => exact ⟨k + 1, by omega, by go_num, by rw [hs.out]; first | rw [if_pos (by assumption)]; go_num | rw [if_neg (by simp_all)]; go_num, hx.alloc _⟩
        case measure => simp [intOf]; omega
    · rw [List.take_of_length_le (by rw [h.len Gt.cells_len (by omega)]; omega)]
      go_wp2
      go_ret
      exact ⟨rfl, hx⟩

set_option maxHeartbeats 400000 in
theorem spec_CountGates_any (N q : Int) (A : Option Addr) (n c : Nat) (gs : List Gt) (w : World) (h : Rd w w.heap.size 4 A n (gcells gs)) (hn : n ≤ 1048576) :
    Calls Try.prog 112 #[.agg #[.int .i64 N, .slice A n c], .int .i64 q] w fun e w' => e = .returned (.int .i64 (cntK q gs)) ∧ Ext w w' := by
  go_enter Try.func112, Try.ntmps112
  go_wp2
  go_loop [5, 6] (fun v i => ∃ k : Nat, k ≤ n ∧ i = .int .i64 k ∧ v = .int .i64 (cntK q (gs.take k))) (fun _ i => n - (intOf i).toNat)
  case atStart => exact ⟨0, Nat.zero_le _, rfl, rfl⟩
  case round =>
    obtain ⟨k, hk, rfl, rfl⟩ := hrel
    have hle := cntK_le q gs k
    by_cases hlt : k < n
    · obtain ⟨b, o, g, rfl, hb, hg, h0, h1, h2, h3⟩ := gate_at h hlt
      have hs := Lib.hid (cntK_snoc q hg)
      go_wp2
      all_goals
        go_round
        case rel => exact ⟨k + 1, by omega, by go_num, by rw [hs.out]; first | rw [if_pos (by assumption)]; go_num | rw [if_neg (by simp_all)]; go_num⟩
        case measure => simp [intOf]; omega
    · rw [List.take_of_length_le (by rw [h.len Gt.cells_len (by omega)]; omega)]
      go_wp2
      go_ret
      exact ⟨rfl, (by repeat (first | exact Ext.refl _ | assumption | refine Ext.alloc ?_ _ | refine Ext.drewN ?_ _ | refine Ext.drew ?_))⟩

theorem spec_HadamardCount_any (A : Option Addr) (n c : Nat) (gs : List Gt) (w : World) (h : Rd w w.heap.size 4 A n (gcells gs)) (hn : n ≤ 1048576) :
    Calls Try.prog 51 #[.slice A n c] w fun e w' => e = .returned (.int .i64 (cntK 4 gs)) ∧ Ext w w' := by
  go_enter Try.func51, Try.ntmps51
  go_wp2_with fail
  refine (spec_CountGates_any _ _ A n c gs _ h hn).mono ?_
  rintro e w1 ⟨rfl, hx⟩
  go_wp2
  go_ret
  exact ⟨rfl, hx⟩
end Go.Proofs.Ytnnenocjmkbocaa
