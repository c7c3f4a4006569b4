/-
  Helper text (no claim of its own): the cost of ops.
-/
import Derived.Test.YthnbenlglnmehaaOpg
import Derived.Test.YthnbenlglnmehaaCost
namespace Go.Proofs.Ythnbenlglnmehaa
open Go.ChangeShapes Go.WideShapes Go.ChangeAt Go.RowKit Go.Deep
theorem opGates_le {A : Option Addr} {w : World} {B n : Nat} {xs : List Oq} (h : Rd w B 8 A n (ocells xs)) : (opGates xs).length ≤ n := by
  have h1 := opGates_len xs n
  rwa [List.take_of_length_le (by rw [h.len Oq.cells_len (by omega)]; omega)] at h1
theorem spec_OpsGateCost_any (A : Option Addr) (n c : Nat) (xs : List Oq) (w : World) (h : Rd w w.heap.size 8 A n (ocells xs)) (hn : n ≤ 1048576) :
    Calls Try.prog 33 #[.slice A n c] w fun e w' => e = .returned (.int .i64 (costN (opGates xs) : Nat)) ∧ Ext w w' := by
  have hl := opGates_le h
  go_enter Try.func33, Try.ntmps33
  go_wp2_with fail
  refine (spec_OpGates_any A n c xs _ h hn).mono ?_
  rintro e w1 ⟨v1, rfl, ho1, hx1⟩
  obtain ⟨A1, c1, rfl, hr1⟩ := own_slice ho1
  go_wp2_with fail
  refine (spec_GateCost_any A1 _ c1 _ _ hr1 (by omega)).mono ?_
  rintro e w2 ⟨rfl, rfl⟩
  go_wp2
  go_ret
  exact ⟨rfl, hx1⟩
theorem impl_OpsGateCost_any (A : Option Addr) (n c : Nat) (xs : List Oq) (w : World) (h : Rd w w.heap.size 8 A n (ocells xs)) (hn : n ≤ 1048576) :
    Calls Try.prog 34 #[.slice A n c] w fun e w' => e = .returned (.int .i64 (costN (opGates xs) : Nat)) ∧ Ext w w' := by
  have hl := opGates_le h
  go_enter Try.func34, Try.ntmps34
  go_wp2_with fail
  refine (impl_OpGates_any A n c xs _ h hn).mono ?_
  rintro e w1 ⟨v1, rfl, ho1, hx1⟩
  obtain ⟨A1, c1, rfl, hr1⟩ := own_slice ho1
  go_wp2_with fail
  refine (impl_GateCost_any A1 _ c1 _ _ hr1 (by omega)).mono ?_
  rintro e w2 ⟨rfl, hx2⟩
  go_wp2
  go_ret
  exact ⟨rfl, hx1.trans hx2⟩
end Go.Proofs.Ythnbenlglnmehaa
