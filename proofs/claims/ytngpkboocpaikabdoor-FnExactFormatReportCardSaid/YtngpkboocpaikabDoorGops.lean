/-
  Helper text (no claim of its own): gates as ops, by the program and by the reference.
-/
import Derived.Test.YtngpkboocpaikabDoorOp
namespace Go.Proofs.YtngpkboocpaikabDoor
open Go.ChangeShapes Go.WideShapes Go.ChangeAt Go.RowKit Go.Deep
def gop (c : Int) (g : Gt) : Oq := ⟨1, g, 0, 0, c⟩
def gops (gs : List Gt) (c : Int) : List Oq := gs.map (gop c)
theorem gops_snoc {gs : List Gt} {k : Nat} {g : Gt} (c : Int) (h : gs[k]? = some g) : gops (gs.take (k + 1)) c = gops (gs.take k) c ++ [gop c g] := by
  unfold gops; rw [take_snoc h]; simp
theorem gops_len (gs : List Gt) (c : Int) : (gops gs c).length = gs.length := by simp [gops]
theorem gops_take (gs : List Gt) (c : Int) (k : Nat) : (gops (gs.take k) c).length ≤ k := by rw [gops_len]; exact List.length_take_le _ _

set_option maxRecDepth 100000 in
set_option maxHeartbeats 1000000 in
theorem spec_GateOps_any (A : Option Addr) (n c : Nat) (gs : List Gt) (q : Int) (w : World) (h : Rd w w.heap.size 4 A n (gcells gs)) (hn : n ≤ 1048576) :
    Calls Tryd.prog 27 #[.slice A n c, .int .i64 q] w fun e w' => ∃ v, e = .returned v ∧ w'.ownsRow w.heap.size 61 8 v (gops gs q).length (ocells (gops gs q)) ∧ Ext w w' := by
  have hlen := Lib.hid (h.len Gt.cells_len (by omega))
  go_enter Tryd.func27, Tryd.ntmps27
  go_wp2
  go_loopw [5, 6] (fun v i wr => ∃ k : Nat, k ≤ n ∧ i = .int .i64 k ∧ wr.ownsRow w.heap.size 61 8 v (gops (gs.take k) q).length (ocells (gops (gs.take k) q)) ∧ Ext w wr) (fun _ i _ => n - (intOf i).toNat)
  case atStart => exact ⟨0, Nat.zero_le _, rfl, own_empty w w _ _ (Ext.refl _), (by repeat (first | exact Ext.refl _ | assumption | refine Ext.alloc ?_ _ | refine Ext.drewN ?_ _ | refine Ext.drew ?_))⟩
  case round =>
    obtain ⟨k, hk, rfl, hown, hx⟩ := hrel
    by_cases hlt : k < n
    · obtain ⟨b, o, x, rfl, hb, hg, h0, h1, h2, h3⟩ := gate_at (h.ext hx) hlt
      have HS := Lib.hid (gops_snoc q hg)
      clear hg
      have hle := gops_take gs q k
      go_wp2_with (at_builtin; refine appOp rfl _ _ rfl _ _ (gops (gs.take k) q) rfl hown hx (gop q x) _ _ rfl rfl (by omega) ?_; intro v1 w1 hown1 hx1 hg1 hb1)
      go_roundw
      case rel => exact ⟨k + 1, by omega, by go_num, by rw [HS.out, List.length_append]; exact hown1, hx1⟩
      case measure => simp [intOf]; omega
    · rw [List.take_of_length_le (by rw [hlen.out]; omega)] at hown
      go_wp2
      go_ret
      exact ⟨_, rfl, hown, hx⟩

end Go.Proofs.YtngpkboocpaikabDoor
