/-
  Helper text (no claim of its own): gates on a state, by the reference. Printed by gen_am.py or gen_an.py.
-/
import Derived.Test.YtofbmkpfliofeabAag
namespace Go.Proofs.Ytofbmkpfliofeab
open Go.ChangeShapes Go.WideShapes Go.ChangeAt Go.RowKit Go.Deep
set_option linter.unusedVariables false
set_option linter.unusedSimpArgs false
set_option maxRecDepth 100000 in
set_option maxHeartbeats 8000000 in
theorem l6Copy_t {l : Nat} (A : Option Addr) (c : Nat) (vs : List Dw) (w : World) (h : Rd w w.heap.size 5 A l (scells vs)) (hl : 0 < l ∧ l ≤ 1048576) :
    Calls Try.prog 53 #[.slice A l c] w fun e w' => (∃ v, e = .returned v ∧ TOut l vs v w') ∧ Ext w w' := by
  go_enter Try.func53, Try.ntmps53
  have ho0 : (w.alloc (.cells #[] 83)).ownsRow w.heap.size 83 5 (.slice (some ⟨w.heap.size, 0, none⟩) 0 0) 0 (scells []) := own_lit (Ext.refl _) _ _ 5 0 #[] _ rfl rfl rfl (by omega)
  go_wp2_with (at_builtin; refine appDOmegaS (w0 := w) rfl _ _ rfl _ 0 [] rfl ho0 (by repeat (first | exact Ext.refl _ | assumption | refine Ext.alloc ?_ _ | refine Ext.drewN ?_ _ | refine Ext.drew ?_)) _ _ _ vs rfl (h.ext (by repeat (first | exact Ext.refl _ | assumption | refine Ext.alloc ?_ _ | refine Ext.drewN ?_ _ | refine Ext.drew ?_))) (by omega) ?_; intro v' w' h1 h2 h3 h4)
  go_ret
  rw [Nat.zero_add] at h1
  have h1' := h1
  have hr := own_slice h1
  obtain ⟨A', c', rfl, hrd⟩ := hr
  obtain ⟨hlen, h0 | ⟨g, cap, cur, hv, hB, hc, -⟩⟩ := h1'
  · omega
  · injection hv with e1 _ e3
    subst e1 e3
    exact ⟨⟨_, by simp only [Nat.zero_add]; rfl, g, _, rfl, ⟨cur, hc⟩, hrd⟩, h2⟩
/-- A gate takes a state to a state. -/
def Acts (l : Nat) (g : Gt) (vs vs' : List Dw) : Prop := ∀ (A : Option Addr) (c : Nat) (w : World), Rd w w.heap.size 5 A l (scells vs) → Calls Try.prog 54 #[g.val, .slice A l c] w fun e w' => (∃ v, e = .returned (.tuple #[v, .bool true]) ∧ TOut l vs' v w') ∧ Ext w w'
/-- Gates take a state to a state. -/
def ActsL (l : Nat) (G : Option Addr) (cg : Nat) (gs : List Gt) (vs vs' : List Dw) : Prop := ∀ (A : Option Addr) (c : Nat) (w : World), Rd w w.heap.size 4 G gs.length (gcells gs) → Rd w w.heap.size 5 A l (scells vs) → Calls Try.prog 28 #[.slice G gs.length cg, .slice A l c] w fun e w' => (∃ v, e = .returned (.tuple #[v, .bool true]) ∧ TOut l vs' v w') ∧ Ext w w' 
set_option maxRecDepth 100000 in
set_option maxHeartbeats 8000000 in
theorem ApplyGates_run {n : Nat} (h1 : 1 ≤ n) (h4 : n ≤ 4) (G : Option Addr) (cg : Nat) (gs : List Gt) (s : Nat → List Dw) (hgl : gs.length ≤ 1000000) (hs : (s 0).length = 2 ^ n) (hd : ∀ x ∈ s 0, dok x = true) (ha : ∀ k g, gs[k]? = some g → Acts (2 ^ n) g (s k) (s (k + 1))) : ActsL (2 ^ n) G cg gs (s 0) (s gs.length) := by
  intro A c w hG h
  have HV : Hid (∀ w', Ext w w' → Calls Try.prog 52 #[.slice A (2 ^ n) c] w' fun e w'' => e = .returned (.bool true) ∧ Ext w' w'') := fun w' hx => by
    rw [← hs] at h ⊢
    exact IsValidState_yes h1 h4 A c (s 0) w' (h.ext hx) hs hd
  have hl16 : 0 < 2 ^ n ∧ 2 ^ n ≤ 16 := by rcases (show n = 1 ∨ n = 2 ∨ n = 3 ∨ n = 4 by omega) with rfl | rfl | rfl | rfl <;> decide
  generalize 2 ^ n = l at *
  have HA := Lib.hid ha
  obtain ⟨m, hm⟩ : ∃ m, gs.length = m := ⟨_, rfl⟩
  have HROW : Hid (∀ i, i < m → ∃ x, gs[i]? = some x) := fun i hi => ⟨_, List.getElem?_eq_getElem (by omega)⟩
  rw [hm] at hG hgl ⊢
  clear hd ha hs hm
  go_enter Try.func28, Try.ntmps28
  go_wp2_with fail
  refine (HV.out _ (Ext.refl _)).mono ?_
  rintro e w1 ⟨rfl, hx1⟩
  go_wp2_with fail
  refine (l6Copy_t A c (s 0) _ (h.ext hx1) (by omega)).mono ?_
  rintro e w2 ⟨⟨v, rfl, b0, c0, rfl, ht0⟩, hx2⟩
  have HT0 : Hid (TT w2 b0 l (s 0)) := ht0
  have HE2 : Hid (Ext w w2) := hx1.trans hx2
  clear ht0 hx1 hx2 HV
  go_wp2
  go_loopw [6, 7] (fun rv kv wr => ∃ (k b c' : Nat), rv = .slice (some ⟨b, 0, none⟩) l c' ∧ kv = .int .i64 k ∧ k ≤ m ∧ Hid (TT wr b l (s k)) ∧ Hid (Ext w wr)) (fun _ i _ => m - (intOf i).toNat)
  case atStart => exact ⟨0, b0, c0, rfl, rfl, Nat.zero_le _, HT0, HE2⟩
  case round =>
    obtain ⟨k, b, c', rfl, rfl, hk, HT, HE⟩ := hrel
    clear HT0 HE2
    by_cases hlt : k < m
    · have HLT : Hid (k < m ∧ m ≤ 1000000) := ⟨hlt, hgl⟩
      have hk1 : IntKind.i64.wrap ((k : Int) + 1) = ((k + 1 : Nat) : Int) := by rw [IntWalk.i64_in _ (by omega)]; rfl
      have hk2 : wrap64 ((k : Int) + 1) = ((k + 1 : Nat) : Int) := by unfold wrap64; omega
      obtain ⟨bg, og, g, rfl, -, hg, x0, x1, x2, x3⟩ := gate_at (hG.ext HE.out) hlt
      have HC : Hid (Calls Try.prog 54 #[g.val, .slice (some ⟨b, 0, none⟩) l c'] wr fun e w' => (∃ v, e = .returned (.tuple #[v, .bool true]) ∧ TOut l (s (k + 1)) v w') ∧ Ext wr w') := HA.out k g hg _ _ _ HT.out.2
      clear hg
      go_wp2_with fail
      refine HC.out.mono ?_
      rintro e w5 ⟨⟨v, rfl, b5, c5, rfl, ht5⟩, hx5⟩
      have HT5 : Hid (TT w5 b5 l (s (k + 1))) := ht5
      have HE5 : Hid (Ext w w5) := HE.out.trans hx5
      clear ht5 hx5 x0 x1 x2 x3 HC
      go_wp2
      go_roundw
      case rel => exact ⟨k + 1, b5, c5, rfl, by first | rfl | rw [hk1] | rw [hk2], by have := HLT.out; omega, HT5, HE5⟩
      case measure => simp [intOf, hk2]; have := HLT.out; omega
    · have hkm : k = m := by omega
      subst hkm
      go_wp2
      go_ret2
      exact ⟨⟨_, rfl, b, c', rfl, HT.out⟩, HE.out⟩
end Go.Proofs.Ytofbmkpfliofeab
