/-
  Helper text (no claim of its own): the cost of gates, by the program and by the reference.
-/
import Derived.Test.YthnbenlglnmehaaGate
import Derived.Test.YthnbenlglnmehaaArity
namespace Go.Proofs.Ythnbenlglnmehaa
open Go.ChangeShapes Go.WideShapes Go.ChangeAt Go.RowKit Go.Deep
def cost1 (g : Gt) : Nat := if (g.k == 7) = true then 1000 else if (g.k == 8) = true then 1000 else if 1 < ar g.k then 10 else 1
def costN (gs : List Gt) : Nat := (gs.map cost1).sum
theorem costN_snoc {gs : List Gt} {k : Nat} {g : Gt} (h : gs[k]? = some g) : costN (gs.take (k + 1)) = costN (gs.take k) + cost1 g := by
  unfold costN; rw [take_snoc h]; simp
theorem cost1_le (g : Gt) : cost1 g ≤ 1000 := by unfold cost1; split <;> (try split) <;> (try split) <;> omega
theorem costN_le (gs : List Gt) : costN gs ≤ 1000 * gs.length := by
  unfold costN
  induction gs with
  | nil => simp
  | cons g gs ih => have := cost1_le g; simp; omega
theorem costN_take (gs : List Gt) (k : Nat) : costN (gs.take k) ≤ 1000 * k := by
  have h1 := costN_le (gs.take k)
  have h2 : (gs.take k).length ≤ k := List.length_take_le _ _
  omega
theorem cost1_t {g : Gt} (h : (g.k == 7) = true) : cost1 g = 1000 := if_pos h
theorem cost1_u {g : Gt} (h : (g.k == 7) = false) (h2 : (g.k == 8) = true) : cost1 g = 1000 := by unfold cost1; rw [if_neg (by simp [h]), if_pos h2]
theorem cost1_2 {g : Gt} (h : (g.k == 7) = false) (h2 : (g.k == 8) = false) (h3 : 1 < ar g.k) : cost1 g = 10 := by unfold cost1; rw [if_neg (by simp [h]), if_neg (by simp [h2]), if_pos h3]
theorem cost1_1 {g : Gt} (h : (g.k == 7) = false) (h2 : (g.k == 8) = false) (h3 : ¬ 1 < ar g.k) : cost1 g = 1 := by unfold cost1; rw [if_neg (by simp [h]), if_neg (by simp [h2]), if_neg h3]

set_option maxRecDepth 100000 in
set_option maxHeartbeats 1000000 in
theorem spec_GateCost_any (A : Option Addr) (n c : Nat) (gs : List Gt) (w : World) (h : Rd w w.heap.size 4 A n (gcells gs)) (hn : n ≤ 100000000) :
    Calls Try.prog 65 #[.slice A n c] w fun e w' => e = .returned (.int .i64 (costN gs : Nat)) ∧ w = w' := by
  have hlen := Lib.hid (h.len Gt.cells_len (by omega))
  go_enter Try.func65, Try.ntmps65
  go_wp2
  go_loop [3, 4] (fun v i => ∃ k : Nat, k ≤ n ∧ i = .int .i64 k ∧ v = .int .i64 (costN (gs.take k) : Nat)) (fun _ i => n - (intOf i).toNat)
  case atStart => exact ⟨0, Nat.zero_le _, rfl, rfl⟩
  case round =>
    obtain ⟨k, hk, rfl, rfl⟩ := hrel
    have hle := costN_take gs k
    by_cases hlt : k < n
    · obtain ⟨b, o, g, rfl, hb, hg, h0, h1, h2, h3⟩ := gate_at h hlt
      have HS := Lib.hid (costN_snoc hg)
      clear hg
      cases h7 : (g.k == 7)
      · cases h8 : (g.k == 8)
        · by_cases ha : 1 < ar g.k
          · have HC := Lib.hid (cost1_2 h7 h8 ha)
            go_wp2_with fail
            refine (spec_Arity_any _ _).mono ?_
            rintro e w' ⟨rfl, rfl⟩
            go_wp2
            go_round
            case rel => exact ⟨k + 1, by omega, by go_num, by rw [HS.out, HC.out]; go_num⟩
            case measure => simp [intOf]; omega
          · have HC := Lib.hid (cost1_1 h7 h8 ha)
            go_wp2_with fail
            refine (spec_Arity_any _ _).mono ?_
            rintro e w' ⟨rfl, rfl⟩
            go_wp2
            go_round
            case rel => exact ⟨k + 1, by omega, by go_num, by rw [HS.out, HC.out]; go_num⟩
            case measure => simp [intOf]; omega
        · have HC := Lib.hid (cost1_u h7 h8)
          go_wp2
          go_round
          case rel => exact ⟨k + 1, by omega, by go_num, by rw [HS.out, HC.out]; go_num⟩
          case measure => simp [intOf]; omega
      · have HC := Lib.hid (cost1_t h7)
        go_wp2
        go_round
        case rel => exact ⟨k + 1, by omega, by go_num, by rw [HS.out, HC.out]; go_num⟩
        case measure => simp [intOf]; omega
    · rw [List.take_of_length_le (by rw [hlen.out]; omega)]
      go_wp2
      go_ret
      exact ⟨rfl, rfl⟩

set_option maxRecDepth 100000 in
set_option maxHeartbeats 1000000 in
theorem impl_GateCost_any (A : Option Addr) (n c : Nat) (gs : List Gt) (w : World) (h : Rd w w.heap.size 4 A n (gcells gs)) (hn : n ≤ 100000000) :
    Calls Try.prog 66 #[.slice A n c] w fun e w' => e = .returned (.int .i64 (costN gs : Nat)) ∧ Ext w w' := by
  have hlen := Lib.hid (h.len Gt.cells_len (by omega))
  go_enter Try.func66, Try.ntmps66
  go_wp2
  go_loopw [3, 8] (fun v i wr => ∃ k : Nat, k ≤ n ∧ i = .int .i64 k ∧ v = .int .i64 (costN (gs.take k) : Nat) ∧ Ext w wr) (fun _ i _ => n - (intOf i).toNat)
  case atStart => exact ⟨0, Nat.zero_le _, rfl, rfl, Ext.refl _⟩
  case round =>
    obtain ⟨k, hk, rfl, rfl, hx⟩ := hrel
    have hle := costN_take gs k
    by_cases hlt : k < n
    · obtain ⟨b, o, g, rfl, hb, hg, h0, h1, h2, h3⟩ := gate_at (h.ext hx) hlt
      have HS := Lib.hid (costN_snoc hg)
      clear hg
      cases h7 : (g.k == 7)
      · cases h8 : (g.k == 8)
        · by_cases ha : 1 < ar g.k
          · have HC := Lib.hid (cost1_2 h7 h8 ha)
            have ha2 : 2 ≤ ar g.k := by omega
            go_wp2_with fail
            refine (impl_Arity_any _ _).mono ?_
            rintro e w' ⟨rfl, rfl⟩
            go_wp2
            go_roundw
            case rel => exact ⟨k + 1, by omega, by go_num, by rw [HS.out, HC.out]; go_num, hx.alloc _⟩
            case measure => simp [intOf]; omega
          · have HC := Lib.hid (cost1_1 h7 h8 ha)
            go_wp2_with fail
            refine (impl_Arity_any _ _).mono ?_
            rintro e w' ⟨rfl, rfl⟩
            go_wp2
            go_roundw
            case rel => exact ⟨k + 1, by omega, by go_num, by rw [HS.out, HC.out]; go_num, hx.alloc _⟩
            case measure => simp [intOf]; omega
        · have HC := Lib.hid (cost1_u h7 h8)
          go_wp2
          go_roundw
          case rel => exact ⟨k + 1, by omega, by go_num, by rw [HS.out, HC.out]; go_num, hx.alloc _⟩
          case measure => simp [intOf]; omega
      · have HC := Lib.hid (cost1_t h7)
        go_wp2
        go_roundw
        case rel => exact ⟨k + 1, by omega, by go_num, by rw [HS.out, HC.out]; go_num, hx.alloc _⟩
        case measure => simp [intOf]; omega
    · rw [List.take_of_length_le (by rw [hlen.out]; omega)]
      go_wp2
      go_ret
      exact ⟨rfl, hx⟩
end Go.Proofs.Ythnbenlglnmehaa
