/-
  Helper text (no claim of its own): what H makes of a state. Printed by gen_alf.py.
-/
import Derived.Test.YtofbmkpfliofeabAlg
namespace Go.Proofs.Ytofbmkpfliofeab
open Go.ChangeShapes Go.WideShapes Go.ChangeAt Go.RowKit Go.Deep
set_option linter.unusedVariables false
set_option linter.unusedSimpArgs false
/-- The sign of H. -/
def sgnH (j a : Nat) : Nat := if bt j a then 4 else 0
theorem sgnH_or (j a : Nat) : sgnH j a = 0 ∨ sgnH j a = 4 := by unfold sgnH; split <;> simp
/-- What H makes of a state. -/
theorem acts_h {n K : Nat} {M : Int} {vs : List Dw} {a b c : Nat} (hn : 1 ≤ n ∧ n ≤ 4) (ha : a < n) (hg : vg ⟨4, a, b, c⟩ n = true) (hs : St n K M vs) (hK : K ≤ 59) (hM : 0 ≤ M ∧ M + M ≤ 1073741824) :
    ∃ us, Acts (2 ^ n) ⟨4, a, b, c⟩ vs us ∧ St n (K + 1) (M + M) us ∧ ∀ j, j < 2 ^ n → Lf (K + 1) us j = zadd (Lf K vs (qlo j a)) (rot (sgnH j a) (Lf K vs (qhi j a))) := by
  have hfa := fun {i : Nat} (hi : i < 2 ^ n) => h_facts hn.2 ha hi
  have hnL : ∀ {i : Nat}, i < 2 ^ n → near M (Lf K vs i) := fun hi => by
    obtain ⟨x, x1, x2, x3, x4, x5⟩ := hs.get hi
    rw [x5]; exact x4
  have hs8 : ∀ j, sgnH j a < 8 := fun j => by have := sgnH_or j a; omega
  -- the place of the step that sends from s to j
  let kj : Nat → Nat := fun j => if bt j a then 1 else 0
  let pl : Nat → Nat → Nat → Nat → Bool := fun i t j s => decide (j < 2 ^ n ∧ 2 * s + kj j < 2 * i + t)
  let c1 : Nat → Nat → Nat → Zw := fun i t j => if pl i t j (qlo j a) then Lf K vs (qlo j a) else z0
  let c2 : Nat → Nat → Nat → Zw := fun i t j => if pl i t j (qhi j a) then rot (sgnH j a) (Lf K vs (qhi j a)) else z0
  have hkj : ∀ j, kj j ≤ 1 := fun j => by show (if bt j a then 1 else 0) ≤ 1; split <;> omega
  have hb1 : ∀ i t j, near M (c1 i t j) := fun i t j => by
    show near M (if pl i t j (qlo j a) then Lf K vs (qlo j a) else z0)
    split
    · rename_i h
      exact hnL (hfa (of_decide_eq_true h).1).1
    · exact near_z0 hM.1
  have hb2 : ∀ i t j, near M (c2 i t j) := fun i t j => by
    show near M (if pl i t j (qhi j a) then rot (sgnH j a) (Lf K vs (qhi j a)) else z0)
    split
    · rename_i h
      exact rot_near (hs8 j) (hnL (hfa (of_decide_eq_true h).1).2.1)
    · exact near_z0 hM.1
  have hcb : ∀ i t j, near (M + M) (zadd (c1 i t j) (c2 i t j)) := fun i t j => near_add (hb1 i t j) (hb2 i t j)
  have hpl : ∀ {i t i' t' j s : Nat}, (2 * s + kj j < 2 * i + t ↔ 2 * s + kj j < 2 * i' + t') → pl i t j s = pl i' t' j s := fun h => by
    show decide _ = decide _
    rw [decide_eq_decide]
    exact and_congr_right fun _ => h
  have hne : ∀ {j}, j < 2 ^ n → qlo j a ≠ qhi j a := fun hj e => by
    have h1 := (hfa hj).2.2.2.2.2.2.1
    have h2 := (hfa hj).2.2.2.2.2.2.2.1
    rw [e, h2] at h1
    cases h1
  have hrun := run_of (K' := K + 1) (g := ⟨4, a, b, c⟩) hs (by omega) (fun i t j => zadd (c1 i t j) (c2 i t j)) (fun j hj => by
      have h1 : c1 0 0 j = z0 := if_neg (by show ¬ (decide _ = true); rw [decide_eq_true_eq]; omega)
      have h2 : c2 0 0 j = z0 := if_neg (by show ¬ (decide _ = true); rw [decide_eq_true_eq]; omega)
      show zadd (c1 0 0 j) (c2 0 0 j) = z0
      rw [h1, h2, zadd_z0]) (fun i hi hz j hj => by
      have h1 : c1 (i + 1) 0 j = c1 i 0 j := by
        by_cases e : qlo j a = i
        · have hz1 : Lf K vs (qlo j a) = z0 := by rw [e]; exact hz
          show (if pl (i + 1) 0 j (qlo j a) then Lf K vs (qlo j a) else z0) = if pl i 0 j (qlo j a) then Lf K vs (qlo j a) else z0
          rw [hz1]; split <;> split <;> rfl
        · show (if pl (i + 1) 0 j (qlo j a) then Lf K vs (qlo j a) else z0) = if pl i 0 j (qlo j a) then Lf K vs (qlo j a) else z0
          rw [hpl (i := i + 1) (t := 0) (i' := i) (t' := 0) (by have := hkj j; omega)]
      have h2 : c2 (i + 1) 0 j = c2 i 0 j := by
        by_cases e : qhi j a = i
        · have hz1 : rot (sgnH j a) (Lf K vs (qhi j a)) = z0 := by rw [e, hz]; exact rot_z0 (hs8 j)
          show (if pl (i + 1) 0 j (qhi j a) then rot (sgnH j a) (Lf K vs (qhi j a)) else z0) = if pl i 0 j (qhi j a) then rot (sgnH j a) (Lf K vs (qhi j a)) else z0
          rw [hz1]; split <;> split <;> rfl
        · show (if pl (i + 1) 0 j (qhi j a) then rot (sgnH j a) (Lf K vs (qhi j a)) else z0) = if pl i 0 j (qhi j a) then rot (sgnH j a) (Lf K vs (qhi j a)) else z0
          rw [hpl (i := i + 1) (t := 0) (i' := i) (t' := 0) (by have := hkj j; omega)]
      show zadd (c1 (i + 1) 0 j) (c2 (i + 1) 0 j) = zadd (c1 i 0 j) (c2 i 0 j)
      rw [h1, h2]) (fun i t s x hi hst hx => by
      rw [sent_h rfl] at hst
      obtain ⟨y, y1, y2, y3, y4, y5⟩ := hs.get hi
      rw [hx] at y1
      obtain rfl := Option.some.inj y1
      obtain ⟨f1, f2, f3, f4, f5, f6, f7, f8, f9⟩ := hfa hi
      have ht : t < 2 := by have := (List.getElem?_eq_some_iff.1 hst).1; simpa using this
      rcases (show t = 0 ∨ t = 1 by omega) with rfl | rfl
      · obtain rfl := Option.some.inj hst
        refine ⟨f1, _, mulOk_h (Or.inl rfl) y2 y3 hK, near_le (rot_near (by omega) y4) (by omega), fun j hj => ?_⟩
        show zadd (c1 i 1 j) (c2 i 1 j) = if j = qlo i a then zadd (zadd (c1 i 0 j) (c2 i 0 j)) (rot 0 (lift K x)) else zadd (c1 i 0 j) (c2 i 0 j)
        rw [rot_0]
        by_cases hji : j = qlo i a
        · rw [if_pos hji]
          have hk0 : kj j = 0 := by show (if bt j a then 1 else 0) = 0; rw [hji, f7]; rfl
          have hsg : sgnH j a = 0 := by unfold sgnH; rw [hji, f7]; rfl
          have hlo : qlo j a = qlo i a := by rw [hji]; exact f3
          have hhi : qhi j a = qhi i a := by rw [hji]; exact f4
          by_cases hbi : bt i a = true
          · rw [if_pos hbi] at f9
            have h1 : c1 i 1 j = c1 i 0 j := by
              show (if pl i 1 j (qlo j a) then Lf K vs (qlo j a) else z0) = if pl i 0 j (qlo j a) then Lf K vs (qlo j a) else z0
              rw [hpl (i := i) (t := 1) (i' := i) (t' := 0) (by rw [hk0, hlo]; have := hne hi; omega)]
            have h2 : c2 i 1 j = rot 0 (lift K x) := by
              show (if pl i 1 j (qhi j a) then rot (sgnH j a) (Lf K vs (qhi j a)) else z0) = _
              rw [if_pos (by show decide _ = true; rw [decide_eq_true_eq, hk0, hhi, ← f9]; omega), hsg, hhi, ← f9, y5]
            have h3 : c2 i 0 j = z0 := by
              show (if pl i 0 j (qhi j a) then rot (sgnH j a) (Lf K vs (qhi j a)) else z0) = _
              rw [if_neg (by show ¬ (decide _ = true); rw [decide_eq_true_eq, hk0, hhi, ← f9]; omega)]
            rw [h1, h2, h3, zadd_z0, rot_0]
          · rw [if_neg hbi] at f9
            have h1 : c1 i 1 j = lift K x := by
              show (if pl i 1 j (qlo j a) then Lf K vs (qlo j a) else z0) = _
              rw [if_pos (by show decide _ = true; rw [decide_eq_true_eq, hk0, hlo, ← f9]; omega), hlo, ← f9, y5]
            have h3 : c1 i 0 j = z0 := by
              show (if pl i 0 j (qlo j a) then Lf K vs (qlo j a) else z0) = _
              rw [if_neg (by show ¬ (decide _ = true); rw [decide_eq_true_eq, hk0, hlo, ← f9]; omega)]
            have h2 : c2 i 1 j = c2 i 0 j := by
              show (if pl i 1 j (qhi j a) then rot (sgnH j a) (Lf K vs (qhi j a)) else z0) = if pl i 0 j (qhi j a) then rot (sgnH j a) (Lf K vs (qhi j a)) else z0
              rw [hpl (i := i) (t := 1) (i' := i) (t' := 0) (by rw [hk0, hhi]; have := hne hi; omega)]
            rw [h1, h2, h3, z0_zadd]
            apply Zw.eq <;> simp only [zadd] <;> omega
        · rw [if_neg hji]
          have hcase : ∀ s, (s = qlo j a ∨ s = qhi j a) → (2 * s + kj j < 2 * i + 1 ↔ 2 * s + kj j < 2 * i + 0) := fun s hs => by
            have hk := hkj j
            by_cases e : s = i
            · have hkk : kj j = 1 := by
                rcases (show kj j = 0 ∨ kj j = 1 by omega) with h | h
                · exfalso
                  apply hji
                  have hbj : bt j a = false := by
                    cases hb : bt j a
                    · rfl
                    · have : kj j = 1 := by show (if bt j a then 1 else 0) = 1; rw [hb]; rfl
                      omega
                  obtain ⟨g1, g2, g3, g4, g5, g6, g7, g8, g9⟩ := hfa hj
                  rw [hbj] at g9
                  rw [if_neg (by decide)] at g9
                  rcases hs with hs | hs
                  · rw [← e, hs, g3]; exact g9
                  · rw [← e, hs, g5]; exact g9
                · exact h
              omega
            · omega
          have h1 : c1 i 1 j = c1 i 0 j := by
            show (if pl i 1 j (qlo j a) then Lf K vs (qlo j a) else z0) = if pl i 0 j (qlo j a) then Lf K vs (qlo j a) else z0
            rw [hpl (i := i) (t := 1) (i' := i) (t' := 0) (hcase _ (Or.inl rfl))]
          have h2 : c2 i 1 j = c2 i 0 j := by
            show (if pl i 1 j (qhi j a) then rot (sgnH j a) (Lf K vs (qhi j a)) else z0) = if pl i 0 j (qhi j a) then rot (sgnH j a) (Lf K vs (qhi j a)) else z0
            rw [hpl (i := i) (t := 1) (i' := i) (t' := 0) (hcase _ (Or.inr rfl))]
          rw [h1, h2]
      · obtain rfl := Option.some.inj hst
        have hsi : (if bt i a then 4 else 0) = 0 ∨ (if bt i a then 4 else 0) = 4 := by split <;> simp
        refine ⟨f2, _, mulOk_h hsi y2 y3 hK, near_le (rot_near (by omega) y4) (by omega), fun j hj => ?_⟩
        show zadd (c1 i 2 j) (c2 i 2 j) = if j = qhi i a then zadd (zadd (c1 i 1 j) (c2 i 1 j)) (rot (sgnH i a) (lift K x)) else zadd (c1 i 1 j) (c2 i 1 j)
        by_cases hji : j = qhi i a
        · rw [if_pos hji]
          have hk0 : kj j = 1 := by show (if bt j a then 1 else 0) = 1; rw [hji, f8]; rfl
          have hsg : sgnH j a = 4 := by unfold sgnH; rw [hji, f8]; rfl
          have hlo : qlo j a = qlo i a := by rw [hji]; exact f5
          have hhi : qhi j a = qhi i a := by rw [hji]; exact f6
          by_cases hbi : bt i a = true
          · rw [if_pos hbi] at f9
            have hsi4 : sgnH i a = 4 := by unfold sgnH; rw [hbi]; rfl
            have h1 : c1 i 2 j = c1 i 1 j := by
              show (if pl i 2 j (qlo j a) then Lf K vs (qlo j a) else z0) = if pl i 1 j (qlo j a) then Lf K vs (qlo j a) else z0
              rw [hpl (i := i) (t := 2) (i' := i) (t' := 1) (by rw [hk0, hlo]; have := hne hi; omega)]
            have h2 : c2 i 2 j = rot 4 (lift K x) := by
              show (if pl i 2 j (qhi j a) then rot (sgnH j a) (Lf K vs (qhi j a)) else z0) = _
              rw [if_pos (by show decide _ = true; rw [decide_eq_true_eq, hk0, hhi, ← f9]; omega), hsg, hhi, ← f9, y5]
            have h3 : c2 i 1 j = z0 := by
              show (if pl i 1 j (qhi j a) then rot (sgnH j a) (Lf K vs (qhi j a)) else z0) = _
              rw [if_neg (by show ¬ (decide _ = true); rw [decide_eq_true_eq, hk0, hhi, ← f9]; omega)]
            rw [h1, h2, h3, zadd_z0, hsi4]
          · rw [if_neg hbi] at f9
            have hsi0 : sgnH i a = 0 := by unfold sgnH; rw [if_neg hbi]
            have h1 : c1 i 2 j = lift K x := by
              show (if pl i 2 j (qlo j a) then Lf K vs (qlo j a) else z0) = _
              rw [if_pos (by show decide _ = true; rw [decide_eq_true_eq, hk0, hlo, ← f9]; omega), hlo, ← f9, y5]
            have h3 : c1 i 1 j = z0 := by
              show (if pl i 1 j (qlo j a) then Lf K vs (qlo j a) else z0) = _
              rw [if_neg (by show ¬ (decide _ = true); rw [decide_eq_true_eq, hk0, hlo, ← f9]; omega)]
            have h2 : c2 i 2 j = c2 i 1 j := by
              show (if pl i 2 j (qhi j a) then rot (sgnH j a) (Lf K vs (qhi j a)) else z0) = if pl i 1 j (qhi j a) then rot (sgnH j a) (Lf K vs (qhi j a)) else z0
              rw [hpl (i := i) (t := 2) (i' := i) (t' := 1) (by rw [hk0, hhi]; have := hne hi; omega)]
            rw [h1, h2, h3, z0_zadd, hsi0, rot_0]
            apply Zw.eq <;> simp only [zadd] <;> omega
        · rw [if_neg hji]
          have hcase : ∀ s, (s = qlo j a ∨ s = qhi j a) → (2 * s + kj j < 2 * i + 2 ↔ 2 * s + kj j < 2 * i + 1) := fun s hs => by
            have hk := hkj j
            by_cases e : s = i
            · have hkk : kj j = 0 := by
                rcases (show kj j = 0 ∨ kj j = 1 by omega) with h | h
                · exact h
                · exfalso
                  apply hji
                  have hbj : bt j a = true := by
                    cases hb : bt j a
                    · have : kj j = 0 := by show (if bt j a then 1 else 0) = 0; rw [hb]; rfl
                      omega
                    · rfl
                  obtain ⟨g1, g2, g3, g4, g5, g6, g7, g8, g9⟩ := hfa hj
                  rw [if_pos hbj] at g9
                  rcases hs with hs | hs
                  · rw [← e, hs, g4]; exact g9
                  · rw [← e, hs, g6]; exact g9
              omega
            · omega
          have h1 : c1 i 2 j = c1 i 1 j := by
            show (if pl i 2 j (qlo j a) then Lf K vs (qlo j a) else z0) = if pl i 1 j (qlo j a) then Lf K vs (qlo j a) else z0
            rw [hpl (i := i) (t := 2) (i' := i) (t' := 1) (hcase _ (Or.inl rfl))]
          have h2 : c2 i 2 j = c2 i 1 j := by
            show (if pl i 2 j (qhi j a) then rot (sgnH j a) (Lf K vs (qhi j a)) else z0) = if pl i 1 j (qhi j a) then rot (sgnH j a) (Lf K vs (qhi j a)) else z0
            rw [hpl (i := i) (t := 2) (i' := i) (t' := 1) (hcase _ (Or.inr rfl))]
          rw [h1, h2]) (fun i hi j hj => by
      rw [sent_h rfl]
      show zadd (c1 (i + 1) 0 j) (c2 (i + 1) 0 j) = zadd (c1 i 2 j) (c2 i 2 j)
      have h1 : c1 (i + 1) 0 j = c1 i 2 j := by
        show (if pl (i + 1) 0 j (qlo j a) then Lf K vs (qlo j a) else z0) = if pl i 2 j (qlo j a) then Lf K vs (qlo j a) else z0
        rw [hpl (i := i + 1) (t := 0) (i' := i) (t' := 2) (by omega)]
      have h2 : c2 (i + 1) 0 j = c2 i 2 j := by
        show (if pl (i + 1) 0 j (qhi j a) then rot (sgnH j a) (Lf K vs (qhi j a)) else z0) = if pl i 2 j (qhi j a) then rot (sgnH j a) (Lf K vs (qhi j a)) else z0
        rw [hpl (i := i + 1) (t := 0) (i' := i) (t' := 2) (by omega)]
      rw [h1, h2]) (fun i t j => near_le (hcb i t j) hM.2)
  have hcn : ∀ j, j < 2 ^ n → zadd (c1 (2 ^ n) 0 j) (c2 (2 ^ n) 0 j) = zadd (Lf K vs (qlo j a)) (rot (sgnH j a) (Lf K vs (qhi j a))) := fun j hj => by
    have hk := hkj j
    have h1 : c1 (2 ^ n) 0 j = Lf K vs (qlo j a) := if_pos (by show decide _ = true; rw [decide_eq_true_eq]; have := (hfa hj).1; omega)
    have h2 : c2 (2 ^ n) 0 j = rot (sgnH j a) (Lf K vs (qhi j a)) := if_pos (by show decide _ = true; rw [decide_eq_true_eq]; have := (hfa hj).2.1; omega)
    rw [h1, h2]
  refine ⟨(List.range (2 ^ n)).map fun j => cano (K + 1) (zadd (c1 (2 ^ n) 0 j) (c2 (2 ^ n) 0 j)), fun A cap w hr => ?_, ⟨by rw [List.length_map, List.length_range], fun x hx => ?_⟩, fun j hj => ?_⟩
  · have h := ApplyGate_run hn.1 hn.2 ⟨4, a, b, c⟩ hg A cap vs w (by rw [hs.len]; exact hr) hs.len (fun x hx => (hs.ok x hx).1) _ hrun (fun i t => by rw [List.length_map, List.length_range, hs.len])
    rw [hs.len] at h
    exact h
  · obtain ⟨j, -, rfl⟩ := List.mem_map.1 hx
    obtain ⟨h1, h2, h3⟩ := cano_is (near_le (hcb (2 ^ n) 0 j) hM.2) (show K + 1 ≤ 60 by omega)
    exact ⟨h1, h2, by rw [h3]; exact hcb _ _ _⟩
  · unfold Lf
    rw [List.getD_eq_getElem?_getD, List.getElem?_map, List.getElem?_range hj]
    show lift (K + 1) (cano (K + 1) (zadd (c1 (2 ^ n) 0 j) (c2 (2 ^ n) 0 j))) = _
    rw [(cano_is (near_le (hcb (2 ^ n) 0 j) hM.2) (show K + 1 ≤ 60 by omega)).2.2]
    exact hcn j hj
end Go.Proofs.Ytofbmkpfliofeab
