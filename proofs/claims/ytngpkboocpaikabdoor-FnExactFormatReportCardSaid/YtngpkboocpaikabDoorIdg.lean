/-
  Helper text (no claim of its own): the decomposition of lists of gates, by the program; the decomposition of routines and of their gates agree.
-/
import Derived.Test.YtngpkboocpaikabDoorDec
import Derived.Test.YtngpkboocpaikabDoorDops
import Derived.Test.YtngpkboocpaikabDoorOpg
namespace Go.Proofs.YtngpkboocpaikabDoor
open Go.ChangeShapes Go.WideShapes Go.ChangeAt Go.RowKit Go.Deep
set_option linter.unusedVariables false
def decG (gs : List Gt) : List Gt := gs.flatMap dec
theorem decG_snoc {gs : List Gt} {k : Nat} {g : Gt} (h : gs[k]? = some g) : decG (gs.take (k + 1)) = decG (gs.take k) ++ dec g := by
  unfold decG; rw [take_snoc h, List.flatMap_append]; simp
theorem decG_len (gs : List Gt) : (decG gs).length ≤ 15 * gs.length := by
  unfold decG
  induction gs with
  | nil => simp
  | cons o xs ih => have := dec_len o; rw [List.flatMap_cons, List.length_append, List.length_cons]; omega
theorem decG_take (gs : List Gt) (k : Nat) : (decG (gs.take k)).length ≤ 15 * k := by
  have h1 := decG_len (gs.take k)
  have h2 : (gs.take k).length ≤ k := List.length_take_le _ _
  omega
theorem opGates_gopsI (gs : List Gt) (c : Int) : opGates (gops gs c) = gs := by
  unfold opGates gops
  induction gs with
  | nil => rfl
  | cons g xs ih => simpa [gop] using ih
/-- The gates of the decomposed operations are the decomposed gates of the operations. -/
theorem opGates_decOps (xs : List Oq) : opGates (decOps xs) = decG (opGates xs) := by
  induction xs with
  | nil => rfl
  | cons o xs ih =>
    have e : decOps (o :: xs) = dec1 o ++ decOps xs := by unfold decOps; rw [List.flatMap_cons]
    have ea : ∀ (a b : List Oq), opGates (a ++ b) = opGates a ++ opGates b := fun a b => by simp [opGates]
    rw [e, ea, ih]
    by_cases h1 : (o.k == 1) = true
    · rw [dec1_1 h1, opGates_gopsI]
      simp [opGates, decG, h1]
    · have h1' : (o.k == 1) = false := by simpa using h1
      by_cases h3 : (o.k == 3) = true
      · rw [dec1_3 h1' h3]
        simp [opGates, decG, h1']
      · have ed : dec1 o = [o] := by unfold dec1; rw [if_neg (by simp [h1']), if_neg h3]
        rw [ed]
        simp [opGates, decG, h1']
set_option maxRecDepth 100000 in
set_option maxHeartbeats 4000000 in
theorem impl_DecomposeGates_any (A : Option Addr) (n c : Nat) (gs : List Gt) (w : World) (h : Rd w w.heap.size 4 A n (gcells gs)) (hn : n ≤ 1048576) :
    Calls Tryd.prog 22 #[.slice A n c] w fun e w' => ∃ v, e = .returned v ∧ w'.ownsRow w.heap.size 59 4 v (decG gs).length (gcells (decG gs)) ∧ Ext w w' := by
  have hlen := Lib.hid (h.len Gt.cells_len (by omega))
  go_enter Tryd.func22, Tryd.ntmps22
  go_wp2
  go_loopw [3, 9] (fun v i wr => ∃ k : Nat, k ≤ n ∧ i = .int .i64 k ∧ wr.ownsRow w.heap.size 59 4 v (decG (gs.take k)).length (gcells (decG (gs.take k))) ∧ Ext w wr) (fun _ i _ => n - (intOf i).toNat)
  case atStart => exact ⟨0, Nat.zero_le _, rfl, own_empty w w _ _ (Ext.refl _), (by repeat (first | exact Ext.refl _ | assumption | refine Ext.alloc ?_ _ | refine Ext.drewN ?_ _ | refine Ext.drew ?_))⟩
  case round =>
    obtain ⟨k, hk, rfl, hown, hx⟩ := hrel
    by_cases hlt : k < n
    · obtain ⟨b, o, g, rfl, hb, hg, r0, r1, r2, r3⟩ := gate_at (h.ext hx) hlt
      have HS := Lib.hid (decG_snoc hg)
      clear hg
      have hle := decG_take gs k
      have hdl := dec_len g
      go_wp2_with fail
      refine (impl_DecomposeGate_any g _).mono ?_
      rintro e w1 ⟨v1, rfl, ho1, hx1⟩
      replace hx1 : Ext wr w1 := Ext.trans ((Ext.refl wr).alloc _) hx1
      obtain ⟨A1, c1, rfl, hr1⟩ := own_slice ho1
      clear r0 r1 r2 r3
      go_wp2_with (at_builtin; refine appGateS (w0 := w) rfl _ _ rfl _ _ (decG (gs.take k)) rfl (own_ext hown hx1) (hx.trans hx1) A1 _ c1 (dec g) rfl hr1 (by omega) ?_; intro v2 w2 ho2 hX2 hg2 hl2)
      go_roundw
      case rel => exact ⟨k + 1, by omega, by go_num, by rw [HS.out, List.length_append]; exact ho2, hX2⟩
      case measure => simp [intOf]; omega
    · rw [List.take_of_length_le (by rw [hlen.out]; omega)] at hown
      go_wp2
      go_ret
      exact ⟨_, rfl, hown, hx⟩
end Go.Proofs.YtngpkboocpaikabDoor
