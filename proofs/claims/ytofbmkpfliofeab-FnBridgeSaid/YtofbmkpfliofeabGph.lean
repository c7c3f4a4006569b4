/-
  Helper text (no claim of its own): equality of matrices up to a phase, by the reference. Printed by gen_am.py or gen_an.py.
-/
import Derived.Test.YtofbmkpfliofeabAgp
import Derived.Test.YtofbmkpfliofeabAeq
namespace Go.Proofs.Ytofbmkpfliofeab
open Go.ChangeShapes Go.WideShapes Go.ChangeAt Go.RowKit Go.Deep
set_option linter.unusedVariables false
set_option linter.unusedSimpArgs false
/-- A measure while a bool is true. -/
def boolM (v : Value) (a : Nat) : Nat := match v with | .bool true => a | _ => 0
/-- The second matrix, times the i-th power of the eighth root, is the first. -/
def PhEq (l : Nat) (r s : Nat → List Dw) (i : Nat) : Prop := ∀ t, t < l → (s t).map (rotD i) = r t
/-- What GlobalPhase tells. -/
def GpOut (l : Nat) (r s : Nat → List Dw) (e : Ending) : Prop := (∃ i, i < 8 ∧ PhEq l r s i ∧ (∀ j, j < i → ¬ PhEq l r s j) ∧ e = .returned (.tuple #[.int .i64 i, .bool true])) ∨ ((∀ j, j < 8 → ¬ PhEq l r s j) ∧ e = .returned (.tuple #[.int .i64 0, .bool false]))
set_option maxRecDepth 100000 in
set_option maxHeartbeats 8000000 in
theorem GlobalPhase_any {n : Nat} (h1 : 1 ≤ n) (h4 : n ≤ 4) (X Y : Option Addr) (c d : Nat) (r s : Nat → List Dw) (w : World) (hx : MX w X (2 ^ n) (2 ^ n) r) (hy : MX w Y (2 ^ n) (2 ^ n) s) (hl : ∀ j, j < 2 ^ n → (r j).length = 2 ^ n ∧ ∀ x ∈ r j, dok x = true) (hm : ∀ j, j < 2 ^ n → (s j).length = 2 ^ n ∧ ∀ x ∈ s j, dok x = true) :
    Calls Try.prog 30 #[.slice X (2 ^ n) c, .slice Y (2 ^ n) d] w fun e w' => GpOut (2 ^ n) r s e ∧ Ext w w' := by
  have HV : Hid (∀ (X : Option Addr) (c : Nat) (w' : World), MX w' X (2 ^ n) (2 ^ n) r → Calls Try.prog 56 #[.slice X (2 ^ n) c] w' fun e w'' => e = .returned (.bool true) ∧ Ext w' w'') := fun X c w' hr => IsValidMatrix_yes h1 h4 X c r w' hr hl
  have HW : Hid (∀ (X : Option Addr) (c : Nat) (w' : World), MX w' X (2 ^ n) (2 ^ n) s → Calls Try.prog 56 #[.slice X (2 ^ n) c] w' fun e w'' => e = .returned (.bool true) ∧ Ext w' w'') := fun X c w' hr => IsValidMatrix_yes h1 h4 X c s w' hr hm
  have HSC : Hid (∀ (i : Nat), i < 8 → ∀ (j : Nat) (A : Option Addr) (c : Nat) (w' : World), j < 2 ^ n → Rd w' w'.heap.size 5 A (2 ^ n) (scells (s j)) → Calls Try.prog 57 #[.slice A (2 ^ n) c, (ph i).val] w' fun e w'' => (∃ A' c', e = .returned (.tuple #[.slice A' (2 ^ n) c', .bool true]) ∧ Rd w'' w''.heap.size 5 A' (2 ^ n) (scells ((s j).map (rotD i)))) ∧ Ext w' w'') := fun i hi j A c w' hj hr => by
    have e := (hm j hj).1
    rw [← e] at hr ⊢
    refine (ScaleState_ph h1 h4 hi A c (s j) w' hr (hm j hj).1 (hm j hj).2).mono ?_
    rintro e w'' ⟨⟨v, rfl, A', c', rfl, h⟩, hx⟩
    rw [List.length_map] at h ⊢
    exact ⟨⟨A', c', rfl, h⟩, hx⟩
  have HEQ : Hid (∀ (i j : Nat) (A B : Option Addr) (c d : Nat) (w' : World), j < 2 ^ n → Rd w' w'.heap.size 5 A (2 ^ n) (scells ((s j).map (rotD i))) → Rd w' w'.heap.size 5 B (2 ^ n) (scells (r j)) → Calls Try.prog 59 #[.slice A (2 ^ n) c, .slice B (2 ^ n) d] w' fun e w'' => (∃ b, e = .returned (.bool b) ∧ (b = true ↔ (s j).map (rotD i) = r j)) ∧ Ext w' w'') := fun i j A B c d w' hj hr hs =>
    EqualState_any A B c d (2 ^ n) ((s j).map (rotD i)) (r j) w' hr hs (by rw [List.length_map]; exact (hm j hj).1) (hl j hj).1 (by rcases (show n = 1 ∨ n = 2 ∨ n = 3 ∨ n = 4 by omega) with rfl | rfl | rfl | rfl <;> decide)
  have hl16 : 0 < 2 ^ n ∧ 2 ^ n ≤ 16 := by rcases (show n = 1 ∨ n = 2 ∨ n = 3 ∨ n = 4 by omega) with rfl | rfl | rfl | rfl <;> decide
  clear hl hm
  generalize 2 ^ n = l at *
  have HX := Lib.hid hx
  have HY := Lib.hid hy
  clear hx hy h1 h4
  go_enter Try.func30, Try.ntmps30
  go_wp2_with fail
  refine (HV.out X c _ HX.out).mono ?_
  rintro e w1 ⟨rfl, hx1⟩
  go_wp2_with fail
  refine (HW.out Y d _ (HY.out.ext hx1)).mono ?_
  rintro e w2 ⟨rfl, hx2⟩
  have HE : Hid (Ext w w2) := hx1.trans hx2
  clear hx1 hx2 HV HW
  go_wp2
  go_loopw [6] (fun iv wr => ∃ i : Nat, i ≤ 8 ∧ iv = .int .i64 i ∧ Hid ((∀ j, j < i → ¬ PhEq l r s j) ∧ Ext w wr)) (fun i _ => 8 - (intOf i).toNat)
  case atStart => exact ⟨0, Nat.zero_le _, rfl, fun j hj => absurd hj (by omega), HE.out⟩
  case round =>
    obtain ⟨i, hi8, rfl, HI⟩ := hrel
    clear HE
    by_cases hilt : i < 8
    case pos =>
      have hi1 : IntKind.i64.wrap ((i : Int) + 1) = ((i + 1 : Nat) : Int) := by rw [IntWalk.i64_in _ (by omega)]; rfl
      have hi2 : wrap64 ((i : Int) + 1) = ((i + 1 : Nat) : Int) := by unfold wrap64; omega
      have HIL : Hid (i < 8) := hilt
      have hil' : (i : Int) < 8 := by omega
      have HE1 : Hid (Ext w wr) := HI.out.2
      have HPF : Hid (∀ w', Calls Try.prog 58 #[.int .i64 i] w' fun e w'' => e = .returned (ph i).val ∧ Ext w' w'') := fun w' => PhaseFactor_any HIL.out w'
      go_wp2
      go_loopw [7, 8] (fun sv kv wr => ∃ (b : Bool) (k : Nat), sv = .bool b ∧ kv = .int .i64 k ∧ k ≤ l ∧ Hid ((b = true → ∀ t, t < k → (s t).map (rotD i) = r t) ∧ (b = false → ¬ PhEq l r s i) ∧ Ext w wr)) (fun sv k _ => boolM sv (l + 1 - (intOf k).toNat))
      case atStart => exact ⟨true, 0, rfl, rfl, Nat.zero_le _, fun _ t ht => absurd ht (by omega), (fun h => by cases h), HE1.out⟩
      case round =>
        obtain ⟨b, k, rfl, rfl, hk, HE2⟩ := hrel
        clear HE1
        cases b
        case false =>
          have HI2 : Hid ((∀ j, j < i + 1 → ¬ PhEq l r s j) ∧ Ext w wr) := ⟨fun j hj => by
            by_cases e : j = i
            · subst e; exact HE2.out.2.1 (by trivial)
            · exact HI.out.1 j (by omega), HE2.out.2.2⟩
          by_cases hlt : k < l
          · go_wp2
            go_roundw
            case rel => exact ⟨i + 1, by have := HIL.out; omega, by first | rfl | rw [hi1] | rw [hi2], HI2⟩
            case measure => simp [intOf, hi2]; have := HIL.out; omega
          · go_wp2
            go_roundw
            case rel => exact ⟨i + 1, by have := HIL.out; omega, by first | rfl | rw [hi1] | rw [hi2], HI2⟩
            case measure => simp [intOf, hi2]; have := HIL.out; omega
        case true =>
          by_cases hlt : k < l
          · have hk1 : IntKind.i64.wrap ((k : Int) + 1) = ((k + 1 : Nat) : Int) := by rw [IntWalk.i64_in _ (by omega)]; rfl
            have hk2 : wrap64 ((k : Int) + 1) = ((k + 1 : Nat) : Int) := by unfold wrap64; omega
            have HLT : Hid (k < l ∧ l ≤ 16) := ⟨hlt, hl16.2⟩
            obtain ⟨by_, oy, b, cc, rfl, x0, ht⟩ := (HY.out.ext HE2.out.2.2).at_ hlt
            have HT := Lib.hid ht
            have HK : Hid (∀ w', Ext wr w' → w'.cell? ⟨by_, oy + k, none⟩ = some (.slice (some ⟨b, 0, none⟩) l cc)) := fun w' hx => (World.cell?_of_block (a := ⟨by_, oy + k, none⟩) (hx.block by_ (by
              rcases Nat.lt_or_ge by_ wr.heap.size with h | h
              · exact h
              · exfalso
                have := World.cell?_of_block (w := wr) (w' := { wr with heap := #[] }) (a := ⟨by_, oy + k, none⟩) (by simp [Array.getElem?_eq_none h])
                rw [x0] at this
                cases this))).trans x0
            clear ht
            go_upto_region 10 with (fail)
            refine wp_region_held_drew (S := fun w' => w'.cell? ⟨by_, oy + k, none⟩ = some (.slice (some ⟨b, 0, none⟩) l cc)) (by kernel_rfl) (HK.out _ (Ext.refl wr).drew) (fun hHeld => ?_)
            clear x0
            (refine wpAnyH_take (i := 0) (v := ?_) rfl (by kernel_rfl) (by kernel_rfl) (by kernel_rfl) (fun _ _ _ h => h) (Or.inl ⟨by rfl, ?_⟩) (by assumption) ?_; rotate_left; · (intro w hSw; (try dsimp only at hSw); go_simp; all_goals with_reducible rfl); (try simp only [Act.put, List.getElem_toArray, List.getElem_cons_zero, List.getElem_cons_succ, List.setIfInBounds_toArray, List.set_cons_zero, List.set_cons_succ]))
            (try simp only [Act.put, List.getElem_toArray, List.getElem_cons_zero, List.getElem_cons_succ, List.setIfInBounds_toArray, List.set_cons_zero, List.set_cons_succ])
            (refine wpAnyH_take (i := 1) (v := ?_) rfl (by kernel_rfl) (by kernel_rfl) (by kernel_rfl) (fun _ _ _ h => h) (Or.inl ⟨by rfl, ?_⟩) (by assumption) ?_; rotate_left; · (intro w hSw; (try dsimp only at hSw); go_simp; all_goals with_reducible rfl); (try simp only [Act.put, List.getElem_toArray, List.getElem_cons_zero, List.getElem_cons_succ, List.setIfInBounds_toArray, List.set_cons_zero, List.set_cons_succ]))
            (try simp only [Act.put, List.getElem_toArray, List.getElem_cons_zero, List.getElem_cons_succ, List.setIfInBounds_toArray, List.set_cons_zero, List.set_cons_succ])
            (refine wpAnyH_take (i := 2) (v := ?_) rfl (by kernel_rfl) (by kernel_rfl) (by kernel_rfl) (fun _ _ _ h => h) (Or.inl ⟨by rfl, ?_⟩) (by assumption) ?_; rotate_left; · (intro w hSw; (try dsimp only at hSw); go_simp; all_goals with_reducible rfl); (try simp only [Act.put, List.getElem_toArray, List.getElem_cons_zero, List.getElem_cons_succ, List.setIfInBounds_toArray, List.set_cons_zero, List.set_cons_succ]))
            (try simp only [Act.put, List.getElem_toArray, List.getElem_cons_zero, List.getElem_cons_succ, List.setIfInBounds_toArray, List.set_cons_zero, List.set_cons_succ])
            (refine wpAnyH_take (i := 3) (v := ?_) rfl (by kernel_rfl) (by kernel_rfl) (by kernel_rfl) (fun _ _ _ h => h) (Or.inl ⟨by rfl, ?_⟩) (by assumption) ?_; rotate_left; · (intro w hSw; (try dsimp only at hSw); go_simp; all_goals with_reducible rfl); (try simp only [Act.put, List.getElem_toArray, List.getElem_cons_zero, List.getElem_cons_succ, List.setIfInBounds_toArray, List.set_cons_zero, List.set_cons_succ]))
            (try simp only [Act.put, List.getElem_toArray, List.getElem_cons_zero, List.getElem_cons_succ, List.setIfInBounds_toArray, List.set_cons_zero, List.set_cons_succ])
            (refine wpAnyH_take (i := 4) (v := ?_) rfl (by kernel_rfl) (by kernel_rfl) (by kernel_rfl) (fun _ _ _ h => h) (Or.inl ⟨by rfl, ?_⟩) (by assumption) ?_; rotate_left; · (intro w hSw; (try dsimp only at hSw); go_simp; all_goals with_reducible rfl); (try simp only [Act.put, List.getElem_toArray, List.getElem_cons_zero, List.getElem_cons_succ, List.setIfInBounds_toArray, List.set_cons_zero, List.set_cons_succ]))
            (try simp only [Act.put, List.getElem_toArray, List.getElem_cons_zero, List.getElem_cons_succ, List.setIfInBounds_toArray, List.set_cons_zero, List.set_cons_succ])
            refine wpAnyH_ready (rs := [5]) (by kernel_rfl) (by simp) ?_
            refine AllReadyH.cons rfl (fun K hK => ?_) AllReadyH.nil
            go_simp
            refine (HPF.out _).mono ?_
            rintro e v5 ⟨rfl, hy5⟩
            have HY5 : Hid (Ext wr v5) := Ext.trans (Ext.refl wr).drew hy5
            clear hy5
            refine hK.out _ _ (HK.out _ HY5.out) (fun hHeld => ?_)
            clear hK K
            (try simp only [Act.put, List.getElem_toArray, List.getElem_cons_zero, List.getElem_cons_succ, List.setIfInBounds_toArray, List.set_cons_zero, List.set_cons_succ])
            refine wpAnyH_ready (rs := [6]) (by kernel_rfl) (by simp) ?_
            refine AllReadyH.cons rfl (fun K hK => ?_) AllReadyH.nil
            go_simp
            refine (HSC.out i HIL.out k _ cc _ HLT.out.1 (HT.out.2.ext HY5.out)).mono ?_
            rintro e v6 ⟨⟨A6, c6, rfl, hr6⟩, hy6⟩
            have HY6 : Hid (Ext wr v6) := HY5.out.trans hy6
            have HR6 : Hid (Rd v6 v6.heap.size 5 A6 l (scells ((s k).map (rotD i)))) := hr6
            clear hy6 hr6
            refine hK.out _ _ (HK.out _ HY6.out) (fun hHeld => ?_)
            clear hK K
            (try simp only [Act.put, List.getElem_toArray, List.getElem_cons_zero, List.getElem_cons_succ, List.setIfInBounds_toArray, List.set_cons_zero, List.set_cons_succ])
            (refine wpAnyH_take (i := 7) (v := ?_) rfl (by kernel_rfl) (by kernel_rfl) (by kernel_rfl) (fun _ _ _ h => h) (Or.inl ⟨by rfl, ?_⟩) (by assumption) ?_; rotate_left; · (intro w hSw; (try dsimp only at hSw); go_simp; all_goals with_reducible rfl); (try simp only [Act.put, List.getElem_toArray, List.getElem_cons_zero, List.getElem_cons_succ, List.setIfInBounds_toArray, List.set_cons_zero, List.set_cons_succ]))
            (try simp only [Act.put, List.getElem_toArray, List.getElem_cons_zero, List.getElem_cons_succ, List.setIfInBounds_toArray, List.set_cons_zero, List.set_cons_succ])
            (refine wpAnyH_take (i := 8) (v := ?_) rfl (by kernel_rfl) (by kernel_rfl) (by kernel_rfl) (fun _ _ _ h => h) (Or.inl ⟨by rfl, ?_⟩) (by assumption) ?_; rotate_left; · (intro w hSw; (try dsimp only at hSw); go_simp; all_goals with_reducible rfl); (try simp only [Act.put, List.getElem_toArray, List.getElem_cons_zero, List.getElem_cons_succ, List.setIfInBounds_toArray, List.set_cons_zero, List.set_cons_succ]))
            (try simp only [Act.put, List.getElem_toArray, List.getElem_cons_zero, List.getElem_cons_succ, List.setIfInBounds_toArray, List.set_cons_zero, List.set_cons_succ])
            (refine wpAnyH_take (i := 9) (v := ?_) rfl (by kernel_rfl) (by kernel_rfl) (by kernel_rfl) (fun _ _ _ h => h) (Or.inl ⟨by rfl, ?_⟩) (by assumption) ?_; rotate_left; · (intro w hSw; (try dsimp only at hSw); go_simp; all_goals with_reducible rfl); (try simp only [Act.put, List.getElem_toArray, List.getElem_cons_zero, List.getElem_cons_succ, List.setIfInBounds_toArray, List.set_cons_zero, List.set_cons_succ]))
            (try simp only [Act.put, List.getElem_toArray, List.getElem_cons_zero, List.getElem_cons_succ, List.setIfInBounds_toArray, List.set_cons_zero, List.set_cons_succ])
            (refine wpAnyH_take (i := 10) (v := ?_) rfl (by kernel_rfl) (by kernel_rfl) (by kernel_rfl) (fun _ _ _ h => h) (Or.inl ⟨by rfl, ?_⟩) (by assumption) ?_; rotate_left; · (intro w hSw; (try dsimp only at hSw); go_simp; all_goals with_reducible rfl); (try simp only [Act.put, List.getElem_toArray, List.getElem_cons_zero, List.getElem_cons_succ, List.setIfInBounds_toArray, List.set_cons_zero, List.set_cons_succ]))
            (try simp only [Act.put, List.getElem_toArray, List.getElem_cons_zero, List.getElem_cons_succ, List.setIfInBounds_toArray, List.set_cons_zero, List.set_cons_succ])
            (refine wpAnyH_take (i := 11) (v := ?_) rfl (by kernel_rfl) (by kernel_rfl) (by kernel_rfl) (fun _ _ _ h => h) (Or.inl ⟨by rfl, ?_⟩) (by assumption) ?_; rotate_left; · (intro w hSw; (try dsimp only at hSw); go_simp; all_goals with_reducible rfl); (try simp only [Act.put, List.getElem_toArray, List.getElem_cons_zero, List.getElem_cons_succ, List.setIfInBounds_toArray, List.set_cons_zero, List.set_cons_succ]))
            (refine wpAnyH_done (by kernel_rfl) ?_ _)
            clear hHeld HK HT HY5
            obtain ⟨bx, ox, b2, c2, rfl, x0, ht⟩ := (HX.out.ext (HE2.out.2.2.trans HY6.out)).at_ HLT.out.1
            have HT2 := Lib.hid ht
            clear ht
            go_wp2_with fail
            refine (HEQ.out i k _ _ _ _ _ HLT.out.1 HR6.out HT2.out.2).mono ?_
            rintro e w7 ⟨⟨f, rfl, hf⟩, hx7⟩
            have HE7 : Hid ((f = true → ∀ t, t < k + 1 → (s t).map (rotD i) = r t) ∧ (f = false → ¬ PhEq l r s i) ∧ Ext w w7) := by
              refine ⟨fun e t ht => ?_, fun e h2 => ?_, (HE2.out.2.2.trans HY6.out).trans hx7⟩
              · by_cases h2 : t = k
                · subst h2; exact hf.1 e
                · exact HE2.out.1 (by trivial) t (by omega)
              · have := hf.2 (h2 k HLT.out.1)
                rw [e] at this
                cases this
            clear hx7 x0 hf
            go_wp2
            go_roundw
            case rel => exact ⟨f, k + 1, rfl, by first | rfl | rw [hk1] | rw [hk2], by have := HLT.out; omega, HE7⟩
            case measure =>
              have := HLT.out
              cases f <;> simp [intOf, hk2, boolM] <;> omega
          · have HP : Hid (PhEq l r s i) := fun t ht => HE2.out.1 (by trivial) t (by omega)
            go_wp2
            go_ret2
            exact ⟨.inl ⟨i, HIL.out, HP.out, HI.out.1, rfl⟩, HE2.out.2.2⟩
    case neg =>
      have hi : i = 8 := by omega
      subst hi
      go_wp2
      go_ret2
      exact ⟨.inr ⟨HI.out.1, rfl⟩, HI.out.2⟩
end Go.Proofs.Ytofbmkpfliofeab
