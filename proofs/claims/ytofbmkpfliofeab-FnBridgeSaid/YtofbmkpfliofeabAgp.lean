/-
  Helper text (no claim of its own): equal matrices, by the reference. Printed by gen_am.py or gen_an.py.
-/
import Derived.Test.YtofbmkpfliofeabAgs
namespace Go.Proofs.Ytofbmkpfliofeab
open Go.ChangeShapes Go.WideShapes Go.ChangeAt Go.RowKit Go.Deep
set_option linter.unusedVariables false
set_option linter.unusedSimpArgs false
/-- Rows of amplitudes, each in a block of its own. -/
def MV (w : World) (k l : Nat) (r : Nat → List Dw) (vals : List Value) : Prop := vals.length = k ∧ ∀ j, j < k → ∃ b c, vals[j]? = some (.slice (some ⟨b, 0, none⟩) l c) ∧ TT w b l (r j)
def MX (w : World) (X : Option Addr) (k l : Nat) (r : Nat → List Dw) : Prop := ∃ vals, Rd w w.heap.size 1 X k vals ∧ MV w k l r vals
theorem MV.ext {w w' : World} {k l : Nat} {r : Nat → List Dw} {vals : List Value} (h : MV w k l r vals) (hx : Ext w w') : MV w' k l r vals :=
  ⟨h.1, fun j hj => by
    obtain ⟨b, c, h1, h2⟩ := h.2 j hj
    exact ⟨b, c, h1, h2.ext hx⟩⟩
theorem MX.ext {w w' : World} {X : Option Addr} {k l : Nat} {r : Nat → List Dw} (h : MX w X k l r) (hx : Ext w w') : MX w' X k l r := by
  obtain ⟨vals, h1, h2⟩ := h
  exact ⟨vals, h1.ext hx, h2.ext hx⟩
theorem MX.at_ {w : World} {X : Option Addr} {k l j : Nat} {r : Nat → List Dw} (h : MX w X k l r) (hj : j < k) : ∃ bx ox b c, X = some ⟨bx, ox, none⟩ ∧ w.cell? ⟨bx, ox + j, none⟩ = some (.slice (some ⟨b, 0, none⟩) l c) ∧ TT w b l (r j) := by
  obtain ⟨vals, h1, h2⟩ := h
  obtain ⟨bx, ox, rfl, -, hc⟩ := h1.2 (by omega)
  obtain ⟨b, c, h3, h4⟩ := h2.2 j hj
  exact ⟨bx, ox, b, c, rfl, hc j _ h3, h4⟩
set_option maxRecDepth 100000 in
set_option maxHeartbeats 8000000 in
theorem IsValidMatrix_yes {n : Nat} (h1 : 1 ≤ n) (h4 : n ≤ 4) (X : Option Addr) (c : Nat) (r : Nat → List Dw) (w : World) (h : MX w X (2 ^ n) (2 ^ n) r) (hl : ∀ j, j < 2 ^ n → (r j).length = 2 ^ n ∧ ∀ x ∈ r j, dok x = true) :
    Calls Try.prog 56 #[.slice X (2 ^ n) c] w fun e w' => e = .returned (.bool true) ∧ Ext w w' := by
  have HV : Hid (∀ (j : Nat) (A : Option Addr) (c : Nat) (w' : World), j < 2 ^ n → Rd w' w'.heap.size 5 A (2 ^ n) (scells (r j)) → Calls Try.prog 52 #[.slice A (2 ^ n) c] w' fun e w'' => e = .returned (.bool true) ∧ Ext w' w'') := fun j A c w' hj hr => by
    rw [← (hl j hj).1] at hr ⊢
    exact IsValidState_yes h1 h4 A c (r j) w' hr (hl j hj).1 (hl j hj).2
  have hl16 : 0 < 2 ^ n ∧ 2 ^ n ≤ 16 := by rcases (show n = 1 ∨ n = 2 ∨ n = 3 ∨ n = 4 by omega) with rfl | rfl | rfl | rfl <;> decide
  clear hl
  generalize 2 ^ n = l at *
  have hl0 : 0 < l := hl16.1
  have HM := Lib.hid h
  clear h
  go_enter Try.func56, Try.ntmps56
  go_wp2
  go_loopw [3] (fun iv wr => ∃ k : Nat, iv = .int .i64 k ∧ k ≤ l ∧ Hid (Ext w wr)) (fun i _ => l - (intOf i).toNat)
  case atStart => exact ⟨0, rfl, Nat.zero_le _, Ext.refl _⟩
  case round =>
    obtain ⟨k, rfl, hk, HE⟩ := hrel
    by_cases hlt : k < l
    · have hk1 : IntKind.i64.wrap ((k : Int) + 1) = ((k + 1 : Nat) : Int) := by rw [IntWalk.i64_in _ (by omega)]; rfl
      have hk2 : wrap64 ((k : Int) + 1) = ((k + 1 : Nat) : Int) := by unfold wrap64; omega
      have HLT : Hid (k < l ∧ l ≤ 16) := ⟨hlt, hl16.2⟩
      obtain ⟨bx, ox, b, cc, rfl, x0, ht⟩ := (HM.out.ext HE.out).at_ hlt
      have HT := Lib.hid ht
      clear ht
      go_wp2_with fail
      refine (HV.out k _ cc _ HLT.out.1 HT.out.2).mono ?_
      rintro e w5 ⟨rfl, hx5⟩
      have HE5 : Hid (Ext w w5) := HE.out.trans hx5
      clear hx5 x0
      go_wp2
      go_roundw
      case rel => exact ⟨k + 1, by first | rfl | rw [hk1] | rw [hk2], by have := HLT.out; omega, HE5⟩
      case measure => simp [intOf, hk2]; have := HLT.out; omega
    · go_wp2
      go_ret
      exact ⟨rfl, HE.out⟩
set_option maxRecDepth 100000 in
set_option maxHeartbeats 8000000 in
theorem GlobalPhase_same {n : Nat} (h1 : 1 ≤ n) (h4 : n ≤ 4) (X Y : Option Addr) (c d : Nat) (r : Nat → List Dw) (w : World) (hx : MX w X (2 ^ n) (2 ^ n) r) (hy : MX w Y (2 ^ n) (2 ^ n) r) (hl : ∀ j, j < 2 ^ n → (r j).length = 2 ^ n ∧ ∀ x ∈ r j, dok x = true) :
    Calls Try.prog 30 #[.slice X (2 ^ n) c, .slice Y (2 ^ n) d] w fun e w' => e = .returned (.tuple #[.int .i64 0, .bool true]) ∧ Ext w w' := by
  have HV : Hid (∀ (X : Option Addr) (c : Nat) (w' : World), MX w' X (2 ^ n) (2 ^ n) r → Calls Try.prog 56 #[.slice X (2 ^ n) c] w' fun e w'' => e = .returned (.bool true) ∧ Ext w' w'') := fun X c w' hr => IsValidMatrix_yes h1 h4 X c r w' hr hl
  have HSC : Hid (∀ (j : Nat) (A : Option Addr) (c : Nat) (w' : World), j < 2 ^ n → Rd w' w'.heap.size 5 A (2 ^ n) (scells (r j)) → Calls Try.prog 57 #[.slice A (2 ^ n) c, .agg #[.int .i64 1, .int .i64 0, .int .i64 0, .int .i64 0, .int .i64 0]] w' fun e w'' => (∃ A' c', e = .returned (.tuple #[.slice A' (2 ^ n) c', .bool true]) ∧ Rd w'' w''.heap.size 5 A' (2 ^ n) (scells (r j))) ∧ Ext w' w'') := fun j A c w' hj hr => by
    have e := (hl j hj).1
    rw [← e] at hr ⊢
    refine (ScaleState_0 h1 h4 A c (r j) w' hr (hl j hj).1 (hl j hj).2).mono ?_
    rintro e w'' ⟨⟨v, rfl, A', c', rfl, h⟩, hx⟩
    exact ⟨⟨A', c', rfl, h⟩, hx⟩
  have HEQ : Hid (∀ (j : Nat) (A B : Option Addr) (c d : Nat) (w' : World), j < 2 ^ n → Rd w' w'.heap.size 5 A (2 ^ n) (scells (r j)) → Rd w' w'.heap.size 5 B (2 ^ n) (scells (r j)) → Calls Try.prog 59 #[.slice A (2 ^ n) c, .slice B (2 ^ n) d] w' fun e w'' => e = .returned (.bool true) ∧ Ext w' w'') := fun j A B c d w' hj hr hs => by
    have e := (hl j hj).1
    rw [← e] at hr hs ⊢
    exact EqualState_same A B c d (r j) w' hr hs (by rw [e]; rcases (show n = 1 ∨ n = 2 ∨ n = 3 ∨ n = 4 by omega) with rfl | rfl | rfl | rfl <;> decide)
  have hl16 : 0 < 2 ^ n ∧ 2 ^ n ≤ 16 := by rcases (show n = 1 ∨ n = 2 ∨ n = 3 ∨ n = 4 by omega) with rfl | rfl | rfl | rfl <;> decide
  clear hl
  generalize 2 ^ n = l at *
  have HX := Lib.hid hx
  have HY := Lib.hid hy
  clear hx hy h1 h4
  go_enter Try.func30, Try.ntmps30
  go_wp2_with fail
  refine (HV.out X c _ HX.out).mono ?_
  rintro e w1 ⟨rfl, hx1⟩
  go_wp2_with fail
  refine (HV.out Y d _ (HY.out.ext hx1)).mono ?_
  rintro e w2 ⟨rfl, hx2⟩
  have HE : Hid (Ext w w2) := hx1.trans hx2
  clear hx1 hx2 HV
  go_wp2
  go_loopw [6] (fun iv wr => iv = .int .i64 0 ∧ Hid (Ext w wr)) (fun _ _ => 0)
  case atStart => exact ⟨rfl, HE⟩
  case round =>
    obtain ⟨rfl, HE1⟩ := hrel
    clear HE
    go_wp2
    go_loopw [7, 8] (fun sv kv wr => sv = .bool true ∧ ∃ k : Nat, kv = .int .i64 k ∧ k ≤ l ∧ Hid (Ext w wr)) (fun _ k _ => l - (intOf k).toNat)
    case atStart => exact ⟨rfl, 0, rfl, Nat.zero_le _, HE1⟩
    case round =>
      obtain ⟨rfl, k, rfl, hk, HE2⟩ := hrel
      clear HE1
      by_cases hlt : k < l
      · have hk1 : IntKind.i64.wrap ((k : Int) + 1) = ((k + 1 : Nat) : Int) := by rw [IntWalk.i64_in _ (by omega)]; rfl
        have hk2 : wrap64 ((k : Int) + 1) = ((k + 1 : Nat) : Int) := by unfold wrap64; omega
        have HLT : Hid (k < l ∧ l ≤ 16) := ⟨hlt, hl16.2⟩
        obtain ⟨by_, oy, b, cc, rfl, x0, ht⟩ := (HY.out.ext HE2.out).at_ hlt
        have HT := Lib.hid ht
        have HK : Hid (∀ w', Ext wr w' → w'.cell? ⟨by_, oy + k, none⟩ = some (.slice (some ⟨b, 0, none⟩) l cc)) := fun w' hx => (World.cell?_of_block (a := ⟨by_, oy + k, none⟩) (hx.block by_ (by
          rcases Nat.lt_or_ge by_ wr.heap.size with h | h
          · exact h
          · exfalso
            have := World.cell?_of_block (w := wr) (w' := { wr with heap := #[] }) (a := ⟨by_, oy + k, none⟩) (by simp [Array.getElem?_eq_none h])
            rw [x0] at this
            cases this))).trans x0
        clear ht
        go_upto_region 10 with (fail)
        refine wp_region_held_drew (S := fun w' => w'.cell? ⟨by_, oy + k, none⟩ = some (.slice (some ⟨b, 0, none⟩) l cc)) (by kernel_rfl) (HK.out _ (Ext.refl wr).drew) (fun hHeld => ?_)
        clear x0
        (refine wpAnyH_take (i := 0) (v := ?_) rfl (by kernel_rfl) (by kernel_rfl) (by kernel_rfl) (fun _ _ _ h => h) (Or.inl ⟨by rfl, ?_⟩) (by assumption) ?_; rotate_left; · (intro w hSw; (try dsimp only at hSw); go_simp; all_goals with_reducible rfl); (try simp only [Act.put, List.getElem_toArray, List.getElem_cons_zero, List.getElem_cons_succ, List.setIfInBounds_toArray, List.set_cons_zero, List.set_cons_succ]))
        (try simp only [Act.put, List.getElem_toArray, List.getElem_cons_zero, List.getElem_cons_succ, List.setIfInBounds_toArray, List.set_cons_zero, List.set_cons_succ])
        (refine wpAnyH_take (i := 1) (v := ?_) rfl (by kernel_rfl) (by kernel_rfl) (by kernel_rfl) (fun _ _ _ h => h) (Or.inl ⟨by rfl, ?_⟩) (by assumption) ?_; rotate_left; · (intro w hSw; (try dsimp only at hSw); go_simp; all_goals with_reducible rfl); (try simp only [Act.put, List.getElem_toArray, List.getElem_cons_zero, List.getElem_cons_succ, List.setIfInBounds_toArray, List.set_cons_zero, List.set_cons_succ]))
        (try simp only [Act.put, List.getElem_toArray, List.getElem_cons_zero, List.getElem_cons_succ, List.setIfInBounds_toArray, List.set_cons_zero, List.set_cons_succ])
        (refine wpAnyH_take (i := 2) (v := ?_) rfl (by kernel_rfl) (by kernel_rfl) (by kernel_rfl) (fun _ _ _ h => h) (Or.inl ⟨by rfl, ?_⟩) (by assumption) ?_; rotate_left; · (intro w hSw; (try dsimp only at hSw); go_simp; all_goals with_reducible rfl); (try simp only [Act.put, List.getElem_toArray, List.getElem_cons_zero, List.getElem_cons_succ, List.setIfInBounds_toArray, List.set_cons_zero, List.set_cons_succ]))
        (try simp only [Act.put, List.getElem_toArray, List.getElem_cons_zero, List.getElem_cons_succ, List.setIfInBounds_toArray, List.set_cons_zero, List.set_cons_succ])
        (refine wpAnyH_take (i := 3) (v := ?_) rfl (by kernel_rfl) (by kernel_rfl) (by kernel_rfl) (fun _ _ _ h => h) (Or.inl ⟨by rfl, ?_⟩) (by assumption) ?_; rotate_left; · (intro w hSw; (try dsimp only at hSw); go_simp; all_goals with_reducible rfl); (try simp only [Act.put, List.getElem_toArray, List.getElem_cons_zero, List.getElem_cons_succ, List.setIfInBounds_toArray, List.set_cons_zero, List.set_cons_succ]))
        (try simp only [Act.put, List.getElem_toArray, List.getElem_cons_zero, List.getElem_cons_succ, List.setIfInBounds_toArray, List.set_cons_zero, List.set_cons_succ])
        (refine wpAnyH_take (i := 4) (v := ?_) rfl (by kernel_rfl) (by kernel_rfl) (by kernel_rfl) (fun _ _ _ h => h) (Or.inl ⟨by rfl, ?_⟩) (by assumption) ?_; rotate_left; · (intro w hSw; (try dsimp only at hSw); go_simp; all_goals with_reducible rfl); (try simp only [Act.put, List.getElem_toArray, List.getElem_cons_zero, List.getElem_cons_succ, List.setIfInBounds_toArray, List.set_cons_zero, List.set_cons_succ]))
        (try simp only [Act.put, List.getElem_toArray, List.getElem_cons_zero, List.getElem_cons_succ, List.setIfInBounds_toArray, List.set_cons_zero, List.set_cons_succ])
        refine wpAnyH_ready (rs := [5]) (by kernel_rfl) (by simp) ?_
        refine AllReadyH.cons rfl (fun K hK => ?_) AllReadyH.nil
        go_simp
        refine (PhaseFactor_0 _).mono ?_
        rintro e v5 ⟨rfl, hy5⟩
        have HY5 : Hid (Ext wr v5) := Ext.trans (Ext.refl wr).drew hy5
        clear hy5
        refine hK.out _ _ (HK.out _ HY5.out) (fun hHeld => ?_)
        clear hK K
        (try simp only [Act.put, List.getElem_toArray, List.getElem_cons_zero, List.getElem_cons_succ, List.setIfInBounds_toArray, List.set_cons_zero, List.set_cons_succ])
        refine wpAnyH_ready (rs := [6]) (by kernel_rfl) (by simp) ?_
        refine AllReadyH.cons rfl (fun K hK => ?_) AllReadyH.nil
        go_simp
        refine (HSC.out k _ cc _ HLT.out.1 (HT.out.2.ext HY5.out)).mono ?_
        rintro e v6 ⟨⟨A6, c6, rfl, hr6⟩, hy6⟩
        have HY6 : Hid (Ext wr v6) := HY5.out.trans hy6
        have HR6 : Hid (Rd v6 v6.heap.size 5 A6 l (scells (r k))) := hr6
        clear hy6 hr6
        refine hK.out _ _ (HK.out _ HY6.out) (fun hHeld => ?_)
        clear hK K
        (try simp only [Act.put, List.getElem_toArray, List.getElem_cons_zero, List.getElem_cons_succ, List.setIfInBounds_toArray, List.set_cons_zero, List.set_cons_succ])
        (refine wpAnyH_take (i := 7) (v := ?_) rfl (by kernel_rfl) (by kernel_rfl) (by kernel_rfl) (fun _ _ _ h => h) (Or.inl ⟨by rfl, ?_⟩) (by assumption) ?_; rotate_left; · (intro w hSw; (try dsimp only at hSw); go_simp; all_goals with_reducible rfl); (try simp only [Act.put, List.getElem_toArray, List.getElem_cons_zero, List.getElem_cons_succ, List.setIfInBounds_toArray, List.set_cons_zero, List.set_cons_succ]))
        (try simp only [Act.put, List.getElem_toArray, List.getElem_cons_zero, List.getElem_cons_succ, List.setIfInBounds_toArray, List.set_cons_zero, List.set_cons_succ])
        (refine wpAnyH_take (i := 8) (v := ?_) rfl (by kernel_rfl) (by kernel_rfl) (by kernel_rfl) (fun _ _ _ h => h) (Or.inl ⟨by rfl, ?_⟩) (by assumption) ?_; rotate_left; · (intro w hSw; (try dsimp only at hSw); go_simp; all_goals with_reducible rfl); (try simp only [Act.put, List.getElem_toArray, List.getElem_cons_zero, List.getElem_cons_succ, List.setIfInBounds_toArray, List.set_cons_zero, List.set_cons_succ]))
        (try simp only [Act.put, List.getElem_toArray, List.getElem_cons_zero, List.getElem_cons_succ, List.setIfInBounds_toArray, List.set_cons_zero, List.set_cons_succ])
        (refine wpAnyH_take (i := 9) (v := ?_) rfl (by kernel_rfl) (by kernel_rfl) (by kernel_rfl) (fun _ _ _ h => h) (Or.inl ⟨by rfl, ?_⟩) (by assumption) ?_; rotate_left; · (intro w hSw; (try dsimp only at hSw); go_simp; all_goals with_reducible rfl); (try simp only [Act.put, List.getElem_toArray, List.getElem_cons_zero, List.getElem_cons_succ, List.setIfInBounds_toArray, List.set_cons_zero, List.set_cons_succ]))
        (try simp only [Act.put, List.getElem_toArray, List.getElem_cons_zero, List.getElem_cons_succ, List.setIfInBounds_toArray, List.set_cons_zero, List.set_cons_succ])
        (refine wpAnyH_take (i := 10) (v := ?_) rfl (by kernel_rfl) (by kernel_rfl) (by kernel_rfl) (fun _ _ _ h => h) (Or.inl ⟨by rfl, ?_⟩) (by assumption) ?_; rotate_left; · (intro w hSw; (try dsimp only at hSw); go_simp; all_goals with_reducible rfl); (try simp only [Act.put, List.getElem_toArray, List.getElem_cons_zero, List.getElem_cons_succ, List.setIfInBounds_toArray, List.set_cons_zero, List.set_cons_succ]))
        (try simp only [Act.put, List.getElem_toArray, List.getElem_cons_zero, List.getElem_cons_succ, List.setIfInBounds_toArray, List.set_cons_zero, List.set_cons_succ])
        (refine wpAnyH_take (i := 11) (v := ?_) rfl (by kernel_rfl) (by kernel_rfl) (by kernel_rfl) (fun _ _ _ h => h) (Or.inl ⟨by rfl, ?_⟩) (by assumption) ?_; rotate_left; · (intro w hSw; (try dsimp only at hSw); go_simp; all_goals with_reducible rfl); (try simp only [Act.put, List.getElem_toArray, List.getElem_cons_zero, List.getElem_cons_succ, List.setIfInBounds_toArray, List.set_cons_zero, List.set_cons_succ]))
        (refine wpAnyH_done (by kernel_rfl) ?_ _)
        clear hHeld HK HT HY5
        obtain ⟨bx, ox, b2, c2, rfl, x0, ht⟩ := (HX.out.ext (HE2.out.trans HY6.out)).at_ HLT.out.1
        have HT2 := Lib.hid ht
        clear ht
        go_wp2_with fail
        refine (HEQ.out k _ _ _ _ _ HLT.out.1 HR6.out HT2.out.2).mono ?_
        rintro e w7 ⟨rfl, hx7⟩
        have HE7 : Hid (Ext w w7) := (HE2.out.trans HY6.out).trans hx7
        clear hx7 x0
        go_wp2
        go_roundw
        case rel => exact ⟨rfl, k + 1, by first | rfl | rw [hk1] | rw [hk2], by have := HLT.out; omega, HE7⟩
        case measure => simp [intOf, hk2]; have := HLT.out; omega
      · go_wp2
        go_ret2
        exact ⟨rfl, HE2.out⟩
end Go.Proofs.Ytofbmkpfliofeab
