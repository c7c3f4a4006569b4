/-
 Helper text (no claim of its own): Clifford circuits with equal tableaux are the same up to a phase (plain Lean).
-/
import Derived.Test.YtioimnplhmgbgaaGreatMTabLd
import Derived.Test.YtioimnplhmgbgaaGreatMTabLa
import Derived.Test.YtioimnplhmgbgaaGreatDec
import Derived.Test.YtioimnplhmgbgaaGreatPau
/-
 Helper text (no claim of its own): what H makes of a state. Printed by gen_alf.py.
-/
namespace Go.Proofs.YtioimnplhmgbgaaGreat
open Go.ChangeShapes Go.WideShapes Go.ChangeAt Go.RowKit Go.Deep
set_option linter.unusedVariables false
set_option linter.unusedSimpArgs false
/-- The sign of H. -/
def sgnH (j a : Nat) : Nat := if bt j a then 4 else 0
theorem sgnH_or (j a : Nat) : sgnH j a = 0 ∨ sgnH j a = 4 := by unfold sgnH; split <;> simp
/-- What H makes of a state. -/
theorem acts_h {n K : Nat} {M : Int} {vs : List Dw} {a b c : Nat} (hn : 1 ≤ n ∧ n ≤ 4) (ha : a < n) (hg : vg ⟨4, a, b, c⟩ n = true) (hs : St n K M vs) (hK : K ≤ 59) (hM : 0 ≤ M ∧ M + M ≤ 1073741824) :
  ∃ us, Acts (2 ^ n) ⟨4, a, b, c⟩ vs us ∧ St n (K + 1) (M + M) us ∧ ∀ j, j < 2 ^ n → Lf (K + 1) us j = zadd (Lf K vs (qlo j a)) (rot (sgnH j a) (Lf K vs (qhi j a))) := by
 have hfa := fun {i : Nat} (hi : i < 2 ^ n) => h_facts hn.2 ha hi
 have hnL : ∀ {i : Nat}, i < 2 ^ n → near M (Lf K vs i) := fun hi => by
  obtain ⟨x, x1, x2, x3, x4, x5⟩ := hs.get hi
  rw [x5]; exact x4
 have hs8 : ∀ j, sgnH j a < 8 := fun j => by have := sgnH_or j a; omega
 -- the place of the step that sends from s to j
 let kj : Nat → Nat := fun j => if bt j a then 1 else 0
 let pl : Nat → Nat → Nat → Nat → Bool := fun i t j s => decide (j < 2 ^ n ∧ 2 * s + kj j < 2 * i + t)
 let c1 : Nat → Nat → Nat → Zw := fun i t j => if pl i t j (qlo j a) then Lf K vs (qlo j a) else z0
 let c2 : Nat → Nat → Nat → Zw := fun i t j => if pl i t j (qhi j a) then rot (sgnH j a) (Lf K vs (qhi j a)) else z0
 have hkj : ∀ j, kj j ≤ 1 := fun j => by show (if bt j a then 1 else 0) ≤ 1; split <;> omega
 have hb1 : ∀ i t j, near M (c1 i t j) := fun i t j => by
  show near M (if pl i t j (qlo j a) then Lf K vs (qlo j a) else z0)
  split
  ·rename_i h
   exact hnL (hfa (of_decide_eq_true h).1).1
  ·exact near_z0 hM.1
 have hb2 : ∀ i t j, near M (c2 i t j) := fun i t j => by
  show near M (if pl i t j (qhi j a) then rot (sgnH j a) (Lf K vs (qhi j a)) else z0)
  split
  ·rename_i h
   exact rot_near (hs8 j) (hnL (hfa (of_decide_eq_true h).1).2.1)
  ·exact near_z0 hM.1
 have hcb : ∀ i t j, near (M + M) (zadd (c1 i t j) (c2 i t j)) := fun i t j => near_add (hb1 i t j) (hb2 i t j)
 have hpl : ∀ {i t i' t' j s : Nat}, (2 * s + kj j < 2 * i + t ↔ 2 * s + kj j < 2 * i' + t') → pl i t j s = pl i' t' j s := fun h => by
  show decide _ = decide _
  rw [decide_eq_decide]
  exact and_congr_right fun _ => h
 have hne : ∀ {j}, j < 2 ^ n → qlo j a ≠ qhi j a := fun hj e => by
  have h1 := (hfa hj).2.2.2.2.2.2.1
  have h2 := (hfa hj).2.2.2.2.2.2.2.1
  rw [e, h2] at h1
  cases h1
 have hrun := run_of (K' := K + 1) (g := ⟨4, a, b, c⟩) hs (by omega) (fun i t j => zadd (c1 i t j) (c2 i t j)) (fun j hj => by
   have h1 : c1 0 0 j = z0 := if_neg (by show ¬ (decide _ = true); rw [decide_eq_true_eq]; omega)
   have h2 : c2 0 0 j = z0 := if_neg (by show ¬ (decide _ = true); rw [decide_eq_true_eq]; omega)
   show zadd (c1 0 0 j) (c2 0 0 j) = z0
   rw [h1, h2, zadd_z0]) (fun i hi hz j hj => by
   have h1 : c1 (i + 1) 0 j = c1 i 0 j := by
    by_cases e : qlo j a = i
    ·have hz1 : Lf K vs (qlo j a) = z0 := by rw [e]; exact hz
     show (if pl (i + 1) 0 j (qlo j a) then Lf K vs (qlo j a) else z0) = if pl i 0 j (qlo j a) then Lf K vs (qlo j a) else z0
     rw [hz1]; split <;> split <;> rfl
    ·show (if pl (i + 1) 0 j (qlo j a) then Lf K vs (qlo j a) else z0) = if pl i 0 j (qlo j a) then Lf K vs (qlo j a) else z0
     rw [hpl (i := i + 1) (t := 0) (i' := i) (t' := 0) (by have := hkj j; omega)]
   have h2 : c2 (i + 1) 0 j = c2 i 0 j := by
    by_cases e : qhi j a = i
    ·have hz1 : rot (sgnH j a) (Lf K vs (qhi j a)) = z0 := by rw [e, hz]; exact rot_z0 (hs8 j)
     show (if pl (i + 1) 0 j (qhi j a) then rot (sgnH j a) (Lf K vs (qhi j a)) else z0) = if pl i 0 j (qhi j a) then rot (sgnH j a) (Lf K vs (qhi j a)) else z0
     rw [hz1]; split <;> split <;> rfl
    ·show (if pl (i + 1) 0 j (qhi j a) then rot (sgnH j a) (Lf K vs (qhi j a)) else z0) = if pl i 0 j (qhi j a) then rot (sgnH j a) (Lf K vs (qhi j a)) else z0
     rw [hpl (i := i + 1) (t := 0) (i' := i) (t' := 0) (by have := hkj j; omega)]
   show zadd (c1 (i + 1) 0 j) (c2 (i + 1) 0 j) = zadd (c1 i 0 j) (c2 i 0 j)
   rw [h1, h2]) (fun i t s x hi hst hx => by
   rw [sent_h rfl] at hst
   obtain ⟨y, y1, y2, y3, y4, y5⟩ := hs.get hi
   rw [hx] at y1
   obtain rfl := Option.some.inj y1
   obtain ⟨f1, f2, f3, f4, f5, f6, f7, f8, f9⟩ := hfa hi
   have ht : t < 2 := by have := (List.getElem?_eq_some_iff.1 hst).1; simpa using this
   rcases (show t = 0 ∨ t = 1 by omega) with rfl | rfl
   ·obtain rfl := Option.some.inj hst
    refine ⟨f1, _, mulOk_h (Or.inl rfl) y2 y3 hK, near_le (rot_near (by omega) y4) (by omega), fun j hj => ?_⟩
    show zadd (c1 i 1 j) (c2 i 1 j) = if j = qlo i a then zadd (zadd (c1 i 0 j) (c2 i 0 j)) (rot 0 (lift K x)) else zadd (c1 i 0 j) (c2 i 0 j)
    rw [rot_0]
    by_cases hji : j = qlo i a
    ·rw [if_pos hji]
     have hk0 : kj j = 0 := by show (if bt j a then 1 else 0) = 0; rw [hji, f7]; rfl
     have hsg : sgnH j a = 0 := by unfold sgnH; rw [hji, f7]; rfl
     have hlo : qlo j a = qlo i a := by rw [hji]; exact f3
     have hhi : qhi j a = qhi i a := by rw [hji]; exact f4
     by_cases hbi : bt i a = true
     ·rw [if_pos hbi] at f9
      have h1 : c1 i 1 j = c1 i 0 j := by
       show (if pl i 1 j (qlo j a) then Lf K vs (qlo j a) else z0) = if pl i 0 j (qlo j a) then Lf K vs (qlo j a) else z0
       rw [hpl (i := i) (t := 1) (i' := i) (t' := 0) (by rw [hk0, hlo]; have := hne hi; omega)]
      have h2 : c2 i 1 j = rot 0 (lift K x) := by
       show (if pl i 1 j (qhi j a) then rot (sgnH j a) (Lf K vs (qhi j a)) else z0) = _
       rw [if_pos (by show decide _ = true; rw [decide_eq_true_eq, hk0, hhi, ← f9]; omega), hsg, hhi, ← f9, y5]
      have h3 : c2 i 0 j = z0 := by
       show (if pl i 0 j (qhi j a) then rot (sgnH j a) (Lf K vs (qhi j a)) else z0) = _
       rw [if_neg (by show ¬ (decide _ = true); rw [decide_eq_true_eq, hk0, hhi, ← f9]; omega)]
      rw [h1, h2, h3, zadd_z0, rot_0]
     ·rw [if_neg hbi] at f9
      have h1 : c1 i 1 j = lift K x := by
       show (if pl i 1 j (qlo j a) then Lf K vs (qlo j a) else z0) = _
       rw [if_pos (by show decide _ = true; rw [decide_eq_true_eq, hk0, hlo, ← f9]; omega), hlo, ← f9, y5]
      have h3 : c1 i 0 j = z0 := by
       show (if pl i 0 j (qlo j a) then Lf K vs (qlo j a) else z0) = _
       rw [if_neg (by show ¬ (decide _ = true); rw [decide_eq_true_eq, hk0, hlo, ← f9]; omega)]
      have h2 : c2 i 1 j = c2 i 0 j := by
       show (if pl i 1 j (qhi j a) then rot (sgnH j a) (Lf K vs (qhi j a)) else z0) = if pl i 0 j (qhi j a) then rot (sgnH j a) (Lf K vs (qhi j a)) else z0
       rw [hpl (i := i) (t := 1) (i' := i) (t' := 0) (by rw [hk0, hhi]; have := hne hi; omega)]
      rw [h1, h2, h3, z0_zadd]
      apply Zw.eq <;> simp only [zadd] <;> omega
    ·rw [if_neg hji]
     have hcase : ∀ s, (s = qlo j a ∨ s = qhi j a) → (2 * s + kj j < 2 * i + 1 ↔ 2 * s + kj j < 2 * i + 0) := fun s hs => by
      have hk := hkj j
      by_cases e : s = i
      ·have hkk : kj j = 1 := by
        rcases (show kj j = 0 ∨ kj j = 1 by omega) with h | h
        ·exfalso
         apply hji
         have hbj : bt j a = false := by
          cases hb : bt j a
          ·rfl
          ·have : kj j = 1 := by show (if bt j a then 1 else 0) = 1; rw [hb]; rfl
           omega
         obtain ⟨g1, g2, g3, g4, g5, g6, g7, g8, g9⟩ := hfa hj
         rw [hbj] at g9
         rw [if_neg (by decide)] at g9
         rcases hs with hs | hs
         ·rw [← e, hs, g3]; exact g9
         ·rw [← e, hs, g5]; exact g9
        ·exact h
       omega
      ·omega
     have h1 : c1 i 1 j = c1 i 0 j := by
      show (if pl i 1 j (qlo j a) then Lf K vs (qlo j a) else z0) = if pl i 0 j (qlo j a) then Lf K vs (qlo j a) else z0
      rw [hpl (i := i) (t := 1) (i' := i) (t' := 0) (hcase _ (Or.inl rfl))]
     have h2 : c2 i 1 j = c2 i 0 j := by
      show (if pl i 1 j (qhi j a) then rot (sgnH j a) (Lf K vs (qhi j a)) else z0) = if pl i 0 j (qhi j a) then rot (sgnH j a) (Lf K vs (qhi j a)) else z0
      rw [hpl (i := i) (t := 1) (i' := i) (t' := 0) (hcase _ (Or.inr rfl))]
     rw [h1, h2]
   ·obtain rfl := Option.some.inj hst
    have hsi : (if bt i a then 4 else 0) = 0 ∨ (if bt i a then 4 else 0) = 4 := by split <;> simp
    refine ⟨f2, _, mulOk_h hsi y2 y3 hK, near_le (rot_near (by omega) y4) (by omega), fun j hj => ?_⟩
    show zadd (c1 i 2 j) (c2 i 2 j) = if j = qhi i a then zadd (zadd (c1 i 1 j) (c2 i 1 j)) (rot (sgnH i a) (lift K x)) else zadd (c1 i 1 j) (c2 i 1 j)
    by_cases hji : j = qhi i a
    ·rw [if_pos hji]
     have hk0 : kj j = 1 := by show (if bt j a then 1 else 0) = 1; rw [hji, f8]; rfl
     have hsg : sgnH j a = 4 := by unfold sgnH; rw [hji, f8]; rfl
     have hlo : qlo j a = qlo i a := by rw [hji]; exact f5
     have hhi : qhi j a = qhi i a := by rw [hji]; exact f6
     by_cases hbi : bt i a = true
     ·rw [if_pos hbi] at f9
      have hsi4 : sgnH i a = 4 := by unfold sgnH; rw [hbi]; rfl
      have h1 : c1 i 2 j = c1 i 1 j := by
       show (if pl i 2 j (qlo j a) then Lf K vs (qlo j a) else z0) = if pl i 1 j (qlo j a) then Lf K vs (qlo j a) else z0
       rw [hpl (i := i) (t := 2) (i' := i) (t' := 1) (by rw [hk0, hlo]; have := hne hi; omega)]
      have h2 : c2 i 2 j = rot 4 (lift K x) := by
       show (if pl i 2 j (qhi j a) then rot (sgnH j a) (Lf K vs (qhi j a)) else z0) = _
       rw [if_pos (by show decide _ = true; rw [decide_eq_true_eq, hk0, hhi, ← f9]; omega), hsg, hhi, ← f9, y5]
      have h3 : c2 i 1 j = z0 := by
       show (if pl i 1 j (qhi j a) then rot (sgnH j a) (Lf K vs (qhi j a)) else z0) = _
       rw [if_neg (by show ¬ (decide _ = true); rw [decide_eq_true_eq, hk0, hhi, ← f9]; omega)]
      rw [h1, h2, h3, zadd_z0, hsi4]
     ·rw [if_neg hbi] at f9
      have hsi0 : sgnH i a = 0 := by unfold sgnH; rw [if_neg hbi]
      have h1 : c1 i 2 j = lift K x := by
       show (if pl i 2 j (qlo j a) then Lf K vs (qlo j a) else z0) = _
       rw [if_pos (by show decide _ = true; rw [decide_eq_true_eq, hk0, hlo, ← f9]; omega), hlo, ← f9, y5]
      have h3 : c1 i 1 j = z0 := by
       show (if pl i 1 j (qlo j a) then Lf K vs (qlo j a) else z0) = _
       rw [if_neg (by show ¬ (decide _ = true); rw [decide_eq_true_eq, hk0, hlo, ← f9]; omega)]
      have h2 : c2 i 2 j = c2 i 1 j := by
       show (if pl i 2 j (qhi j a) then rot (sgnH j a) (Lf K vs (qhi j a)) else z0) = if pl i 1 j (qhi j a) then rot (sgnH j a) (Lf K vs (qhi j a)) else z0
       rw [hpl (i := i) (t := 2) (i' := i) (t' := 1) (by rw [hk0, hhi]; have := hne hi; omega)]
      rw [h1, h2, h3, z0_zadd, hsi0, rot_0]
      apply Zw.eq <;> simp only [zadd] <;> omega
    ·rw [if_neg hji]
     have hcase : ∀ s, (s = qlo j a ∨ s = qhi j a) → (2 * s + kj j < 2 * i + 2 ↔ 2 * s + kj j < 2 * i + 1) := fun s hs => by
      have hk := hkj j
      by_cases e : s = i
      ·have hkk : kj j = 0 := by
        rcases (show kj j = 0 ∨ kj j = 1 by omega) with h | h
        ·exact h
        ·exfalso
         apply hji
         have hbj : bt j a = true := by
          cases hb : bt j a
          ·have : kj j = 0 := by show (if bt j a then 1 else 0) = 0; rw [hb]; rfl
           omega
          ·rfl
         obtain ⟨g1, g2, g3, g4, g5, g6, g7, g8, g9⟩ := hfa hj
         rw [if_pos hbj] at g9
         rcases hs with hs | hs
         ·rw [← e, hs, g4]; exact g9
         ·rw [← e, hs, g6]; exact g9
       omega
      ·omega
     have h1 : c1 i 2 j = c1 i 1 j := by
      show (if pl i 2 j (qlo j a) then Lf K vs (qlo j a) else z0) = if pl i 1 j (qlo j a) then Lf K vs (qlo j a) else z0
      rw [hpl (i := i) (t := 2) (i' := i) (t' := 1) (hcase _ (Or.inl rfl))]
     have h2 : c2 i 2 j = c2 i 1 j := by
      show (if pl i 2 j (qhi j a) then rot (sgnH j a) (Lf K vs (qhi j a)) else z0) = if pl i 1 j (qhi j a) then rot (sgnH j a) (Lf K vs (qhi j a)) else z0
      rw [hpl (i := i) (t := 2) (i' := i) (t' := 1) (hcase _ (Or.inr rfl))]
     rw [h1, h2]) (fun i hi j hj => by
   rw [sent_h rfl]
   show zadd (c1 (i + 1) 0 j) (c2 (i + 1) 0 j) = zadd (c1 i 2 j) (c2 i 2 j)
   have h1 : c1 (i + 1) 0 j = c1 i 2 j := by
    show (if pl (i + 1) 0 j (qlo j a) then Lf K vs (qlo j a) else z0) = if pl i 2 j (qlo j a) then Lf K vs (qlo j a) else z0
    rw [hpl (i := i + 1) (t := 0) (i' := i) (t' := 2) (by omega)]
   have h2 : c2 (i + 1) 0 j = c2 i 2 j := by
    show (if pl (i + 1) 0 j (qhi j a) then rot (sgnH j a) (Lf K vs (qhi j a)) else z0) = if pl i 2 j (qhi j a) then rot (sgnH j a) (Lf K vs (qhi j a)) else z0
    rw [hpl (i := i + 1) (t := 0) (i' := i) (t' := 2) (by omega)]
   rw [h1, h2]) (fun i t j => near_le (hcb i t j) hM.2)
 have hcn : ∀ j, j < 2 ^ n → zadd (c1 (2 ^ n) 0 j) (c2 (2 ^ n) 0 j) = zadd (Lf K vs (qlo j a)) (rot (sgnH j a) (Lf K vs (qhi j a))) := fun j hj => by
  have hk := hkj j
  have h1 : c1 (2 ^ n) 0 j = Lf K vs (qlo j a) := if_pos (by show decide _ = true; rw [decide_eq_true_eq]; have := (hfa hj).1; omega)
  have h2 : c2 (2 ^ n) 0 j = rot (sgnH j a) (Lf K vs (qhi j a)) := if_pos (by show decide _ = true; rw [decide_eq_true_eq]; have := (hfa hj).2.1; omega)
  rw [h1, h2]
 refine ⟨(List.range (2 ^ n)).map fun j => cano (K + 1) (zadd (c1 (2 ^ n) 0 j) (c2 (2 ^ n) 0 j)), fun A cap w hr => ?_, ⟨by rw [List.length_map, List.length_range], fun x hx => ?_⟩, fun j hj => ?_⟩
 ·have h := ApplyGate_run hn.1 hn.2 ⟨4, a, b, c⟩ hg A cap vs w (by rw [hs.len]; exact hr) hs.len (fun x hx => (hs.ok x hx).1) _ hrun (fun i t => by rw [List.length_map, List.length_range, hs.len])
  rw [hs.len] at h
  exact h
 ·obtain ⟨j, -, rfl⟩ := List.mem_map.1 hx
  obtain ⟨h1, h2, h3⟩ := cano_is (near_le (hcb (2 ^ n) 0 j) hM.2) (show K + 1 ≤ 60 by omega)
  exact ⟨h1, h2, by rw [h3]; exact hcb _ _ _⟩
 ·unfold Lf
  rw [List.getD_eq_getElem?_getD, List.getElem?_map, List.getElem?_range hj]
  show lift (K + 1) (cano (K + 1) (zadd (c1 (2 ^ n) 0 j) (c2 (2 ^ n) 0 j))) = _
  rw [(cano_is (near_le (hcb (2 ^ n) 0 j) hM.2) (show K + 1 ≤ 60 by omega)).2.2]
  exact hcn j hj
end Go.Proofs.YtioimnplhmgbgaaGreat
/-
 Helper text (no claim of its own): gates and their inverses. Printed by gen_alf.py.
-/
namespace Go.Proofs.YtioimnplhmgbgaaGreat
open Go.ChangeShapes Go.WideShapes Go.ChangeAt Go.RowKit Go.Deep
set_option linter.unusedVariables false
set_option linter.unusedSimpArgs false
theorem invG_nat (k a b c : Nat) : invG ⟨k, a, b, c⟩ = ⟨(invN k : Nat), a, b, c⟩ := by
 unfold invG invN
 simp only
 split
 ·have : k = 5 := by omega
  subst this; rfl
 ·split
  ·have : k = 6 := by omega
   subst this; rfl
  ·split
   ·have : k = 7 := by omega
    subst this; rfl
   ·split
    ·have : k = 8 := by omega
     subst this; rfl
    ·split <;> first | rfl | (exfalso; omega)
theorem ar_inv (g : Gt) : ar (invG g).k = ar g.k := by
 unfold invG ar
 simp only
 split
 ·omega
 ·split
  ·omega
  ·split
   ·omega
   ·split <;> omega
theorem vg_inv {g : Gt} {n : Int} (h : vg g n = true) : vg (invG g) n = true := by
 have e : vg (invG g) n = vg g n := by
  unfold vg okI
  rw [ar_inv]
  rfl
 rw [e]; exact h
theorem invN_mem {k : Nat} (hk : k ∈ kindsN) : invN k ∈ kindsN := by
 simp only [kindsN, List.mem_cons, List.not_mem_nil, or_false] at hk ⊢
 rcases hk with rfl | rfl | rfl | rfl | rfl | rfl | rfl | rfl | rfl | rfl | rfl <;> decide
theorem fine_inv {k a b c : Nat} (hk : k ∈ kindsN) : fineN (invN k) a b c = fineN k a b c := by
 simp only [kindsN, List.mem_cons, List.not_mem_nil, or_false] at hk
 rcases hk with rfl | rfl | rfl | rfl | rfl | rfl | rfl | rfl | rfl | rfl | rfl <;> rfl
theorem Lf_more {n K J j : Nat} {M : Int} {vs : List Dw} (hs : St n K M vs) (hj : j < 2 ^ n) : Lf (K + J) vs j = up J (Lf K vs j) := by
 obtain ⟨x, x1, x2, x3, x4, x5⟩ := hs.get hj
 unfold Lf
 rw [List.getD_eq_getElem?_getD, x1]
 exact lift_more x3
/-- Gates, one behind the other. -/
def Chain (l : Nat) (gs : List Gt) (vs us : List Dw) : Prop := ∃ s : Nat → List Dw, s 0 = vs ∧ s gs.length = us ∧ ∀ k g, gs[k]? = some g → Acts l g (s k) (s (k + 1))
theorem Chain.nil (l : Nat) (vs : List Dw) : Chain l [] vs vs := ⟨fun _ => vs, rfl, rfl, fun k g h => by simp at h⟩
theorem Chain.cons {l : Nat} {g : Gt} {gs : List Gt} {vs ws us : List Dw} (h : Acts l g vs ws) (k : Chain l gs ws us) : Chain l (g :: gs) vs us := by
 obtain ⟨s, s0, s1, s2⟩ := k
 refine ⟨fun i => match i with | 0 => vs | i + 1 => s i, rfl, s1, fun i g' hi => ?_⟩
 cases i with
 | zero =>
  obtain rfl := Option.some.inj hi
  show Acts l g vs (s 0)
  rw [s0]; exact h
 | succ i => exact s2 i g' hi
theorem Chain.append {l : Nat} {us ws : List Dw} {hs : List Gt} : ∀ {gs : List Gt} {vs : List Dw}, Chain l gs vs ws → Chain l hs ws us → Chain l (gs ++ hs) vs us
 | [], vs, ⟨s, s0, s1, _⟩, k => by
  have : vs = ws := by rw [← s0, ← s1]; rfl
  rw [this]; exact k
 | g :: gs, vs, ⟨s, s0, s1, s2⟩, k => by
  refine Chain.cons (ws := s 1) ?_ (Chain.append (gs := gs) ⟨fun i => s (i + 1), rfl, s1, fun i g' hi => s2 (i + 1) g' hi⟩ k)
  have := s2 0 g rfl
  rw [s0] at this
  exact this
theorem Chain.one {l : Nat} {g : Gt} {vs us : List Dw} (h : Acts l g vs us) : Chain l [g] vs us := Chain.cons h (Chain.nil l us)
/-- The adjoint of gates. -/
theorem adjG_cons (g : Gt) (gs : List Gt) : adjG (g :: gs) = adjG gs ++ [invG g] := by unfold adjG; rw [List.reverse_cons, List.map_append]; rfl
theorem lift_00 (x : Dw) : lift 0 x = x.n := by unfold lift; rw [Nat.zero_sub]; rfl
theorem basis_St (n i : Nat) : St n 0 1 (basis n i) := by
 refine ⟨by simp [basis], fun x hx => ?_⟩
 rcases List.mem_or_eq_of_mem_set hx with h | rfl
 ·obtain rfl := List.eq_of_mem_replicate h
  exact ⟨rfl, Nat.le_refl 0, by rw [lift_00]; unfold near d0 z0; simp only; omega⟩
 ·exact ⟨rfl, Nat.le_refl 0, by rw [lift_00]; unfold near ph zw; simp only; omega⟩
/-- Gates in a chain, as the reference applies them. -/
theorem actsL_of {n : Nat} (h1 : 1 ≤ n) (h4 : n ≤ 4) {vs us : List Dw} {gs : List Gt} (hl : vs.length = 2 ^ n) (hd : ∀ x ∈ vs, dok x = true) (hgl : gs.length ≤ 1000000) (h : Chain (2 ^ n) gs vs us) (G : Option Addr) (cg : Nat) : ActsL (2 ^ n) G cg gs vs us := by
 obtain ⟨s, rfl, rfl, s2⟩ := h
 exact ApplyGates_run h1 h4 G cg gs s hgl hl hd s2
end Go.Proofs.YtioimnplhmgbgaaGreat
/-
 Helper text (no claim of its own): lists of gates that do the same (plain Lean over the reference's run of gates).
-/
namespace Go.Proofs.YtioimnplhmgbgaaGreat
open Go.ChangeShapes Go.WideShapes Go.ChangeAt Go.RowKit Go.Deep
set_option linter.unusedVariables false
set_option linter.unusedSimpArgs false
/-- What a gate makes of the amplitudes (H: at the next power of the root of 2). -/
def ap1 (g : Gt) (f : Nat → Zw) (j : Nat) : Zw :=
 if (g.k == 4) = true then zadd (f (qlo j g.a.toNat)) (rot (sgnH j g.a.toNat) (f (qhi j g.a.toNat)))
 else rot (pgN g.k.toNat g.a.toNat g.b.toNat g.c.toNat (sgN g.k.toNat g.a.toNat g.b.toNat g.c.toNat j)) (f (sgN g.k.toNat g.a.toNat g.b.toNat g.c.toNat j))
def apG : List Gt → (Nat → Zw) → Nat → Zw
 | [], f => f
 | g :: gs, f => apG gs (ap1 g f)
theorem apG_app (gs : List Gt) : ∀ (hs : List Gt) (f : Nat → Zw), apG (gs ++ hs) f = apG hs (apG gs f) := by
 induction gs with
 | nil => exact fun hs f => rfl
 | cons g gs ih => exact fun hs f => ih hs (ap1 g f)
theorem ap1_4 (a b c : Nat) (f : Nat → Zw) (j : Nat) : ap1 ⟨4, a, b, c⟩ f j = zadd (f (qlo j a)) (rot (sgnH j a) (f (qhi j a))) := rfl
theorem ap1_p {k a b c : Nat} (hk : k ∈ kindsN) (f : Nat → Zw) (j : Nat) : ap1 ⟨k, a, b, c⟩ f j = rot (pgN k a b c (sgN k a b c j)) (f (sgN k a b c j)) := by
 simp only [kindsN, List.mem_cons, List.not_mem_nil, or_false] at hk
 rcases hk with rfl | rfl | rfl | rfl | rfl | rfl | rfl | rfl | rfl | rfl | rfl <;> rfl
theorem hct_p {k a b c : Nat} (hk : k ∈ kindsN) : hct ⟨k, a, b, c⟩ = 0 := by
 simp only [kindsN, List.mem_cons, List.not_mem_nil, or_false] at hk
 rcases hk with rfl | rfl | rfl | rfl | rfl | rfl | rfl | rfl | rfl | rfl | rfl <;> rfl
theorem ap1_cong {g : Gt} {n : Nat} (hg : vg g n = true) {f h : Nat → Zw} (he : ∀ j, j < 2 ^ n → f j = h j) : ∀ j, j < 2 ^ n → ap1 g f j = ap1 g h j := by
 intro j hj
 obtain ⟨k, a, b, c, rfl, hn, hk, ha, hb, hc, hf⟩ := vg_nat hg
 rcases hk with rfl | hk
 ·obtain ⟨f1, f2, -⟩ := h_facts hn.2 ha hj
  rw [show (⟨((4 : Nat) : Int), a, b, c⟩ : Gt) = ⟨4, a, b, c⟩ from rfl, ap1_4, ap1_4, he _ f1, he _ f2]
 ·rw [ap1_p hk, ap1_p hk, he _ (sg_facts hn.2 hk ha hb hc hf hj).1]
theorem apG_cong {n : Nat} : ∀ {gs : List Gt}, (∀ g ∈ gs, vg g n = true) → ∀ {f h : Nat → Zw}, (∀ j, j < 2 ^ n → f j = h j) → ∀ j, j < 2 ^ n → apG gs f j = apG gs h j
 | [], _, _, _, he, j, hj => he j hj
 | g :: gs, hg, f, h, he, j, hj => apG_cong (gs := gs) (fun g' h' => hg g' (List.mem_cons_of_mem _ h')) (ap1_cong (hg g (List.mem_cons_self ..)) he) j hj
/-- The state after a gate. -/
theorem acts_one {g : Gt} {n K : Nat} {M : Int} {vs : List Dw} (hg : vg g n = true) (hs : St n K M vs) (hK : K + hct g ≤ 60) (h0 : 0 ≤ M) (hM : M * 2 ^ hct g ≤ 1073741824) :
  ∃ us, Acts (2 ^ n) g vs us ∧ St n (K + hct g) (M * 2 ^ hct g) us ∧ ∀ j, j < 2 ^ n → Lf (K + hct g) us j = ap1 g (Lf K vs) j := by
 have hg0 := hg
 obtain ⟨k, a, b, c, rfl, hn, hk, ha, hb, hc, hf⟩ := vg_nat hg
 rcases hk with rfl | hk
 ·have e : hct (⟨((4 : Nat) : Int), a, b, c⟩ : Gt) = 1 := rfl
  rw [e] at hK hM ⊢
  have e2 : M * 2 ^ 1 = M + M := by omega
  rw [e2] at hM ⊢
  exact acts_h hn ha hg0 hs (by omega) ⟨h0, hM⟩
 ·rw [hct_p hk] at hK hM ⊢
  have e2 : M * 2 ^ 0 = M := by omega
  rw [e2] at hM ⊢
  obtain ⟨us, h1, h2, h3⟩ := acts_perm hn hk ha hb hc hf hg0 hs hK ⟨h0, hM⟩
  exact ⟨us, h1, h2, fun j hj => by rw [ap1_p hk]; exact h3 j hj⟩
/-- The state after some gates. -/
def Res (n K : Nat) (M : Int) (gs : List Gt) (vs us : List Dw) : Prop := St n (K + hcs gs) (M * 2 ^ hcs gs) us ∧ ∀ j, j < 2 ^ n → Lf (K + hcs gs) us j = apG gs (Lf K vs) j
theorem pow_one (h : Nat) : (1 : Int) ≤ 2 ^ h := by
 have : (0 : Int) < 2 ^ h := Int.pow_pos (by decide)
 omega
theorem le_pow {M : Int} (h0 : 0 ≤ M) (h : Nat) : M ≤ M * 2 ^ h := by
 have := Int.mul_le_mul_of_nonneg_left (pow_one h) h0
 omega
theorem pow_split (M : Int) (i j : Nat) : M * 2 ^ (i + j) = M * 2 ^ i * 2 ^ j := by rw [Int.pow_add, Int.mul_assoc]
theorem chain_of {n : Nat} : ∀ (gs : List Gt) (K : Nat) (M : Int) (vs : List Dw), (∀ g ∈ gs, vg g n = true) → St n K M vs → K + hcs gs ≤ 60 → 0 ≤ M → M * 2 ^ hcs gs ≤ 1073741824 → ∃ us, Chain (2 ^ n) gs vs us ∧ Res n K M gs vs us
 | [], K, M, vs, _, hs, _, _, _ => ⟨vs, Chain.nil _ _, by show St n (K + 0) (M * 2 ^ 0) vs; rw [show M * 2 ^ 0 = M by omega]; exact hs, fun j _ => rfl⟩
 | g :: gs, K, M, vs, hg, hs, hK, h0, hM => by
  rw [hcs_cons] at hK hM
  rw [pow_split] at hM
  have h1 : 0 ≤ M * 2 ^ hct g := Int.le_trans h0 (le_pow h0 _)
  obtain ⟨ws, w1, w2, w3⟩ := acts_one (hg g (List.mem_cons_self ..)) hs (by omega) h0 (Int.le_trans (le_pow h1 _) hM)
  obtain ⟨us, u1, u2, u3⟩ := chain_of gs (K + hct g) (M * 2 ^ hct g) ws (fun g' h' => hg g' (List.mem_cons_of_mem _ h')) w2 (by omega) h1 hM
  refine ⟨us, Chain.cons w1 u1, ?_, fun j hj => ?_⟩
  ·rw [hcs_cons, pow_split, ← Nat.add_assoc]; exact u2
  ·rw [hcs_cons, ← Nat.add_assoc, u3 j hj]
   exact apG_cong (fun g' h' => hg g' (List.mem_cons_of_mem _ h')) w3 j hj
theorem Res.eq {n K : Nat} {M : Int} {gs : List Gt} {vs us ws : List Dw} (h : Res n K M gs vs us) (k : Res n K M gs vs ws) : us = ws :=
 h.1.eq k.1 fun j hj => by rw [h.2 j hj, k.2 j hj]
/-- The second list of gates ends where the first does. -/
def Same (n : Nat) (gs hs : List Gt) : Prop := ∀ (K : Nat) (M : Int) (vs us : List Dw), St n K M vs → 0 ≤ M → K + hcs gs + 4 ≤ 60 → M * 2 ^ hcs gs * 16 ≤ 1073741824 → Res n K M gs vs us → Chain (2 ^ n) hs vs us
theorem Same.nil (n : Nat) : Same n [] [] := fun K M vs us hs _ _ _ hr => by
 have : vs = us := hs.eq (N := M) (by have h := hr.1; rw [show M * 2 ^ hcs [] = M by show M * 2 ^ 0 = M; omega] at h; exact h) fun j hj => (hr.2 j hj).symm
 rw [this]
 exact Chain.nil _ _
theorem Same.refl {n : Nat} {gs : List Gt} (hg : ∀ g ∈ gs, vg g n = true) : Same n gs gs := fun K M vs us hs h0 hK hM hr => by
 obtain ⟨ws, w1, w2⟩ := chain_of gs K M vs hg hs (by omega) h0 (by have := le_pow h0 (hcs gs); omega)
 rw [hr.eq w2]
 exact w1
theorem Same.app {n : Nat} {gs hs gs' hs' : List Gt} (hg : ∀ g ∈ gs, vg g n = true) (hg' : ∀ g ∈ gs', vg g n = true) (h : Same n gs hs) (h' : Same n gs' hs') : Same n (gs ++ gs') (hs ++ hs') := fun K M vs us hst h0 hK hM hr => by
 rw [hcs_app] at hK hM
 rw [pow_split] at hM
 have p0 := le_pow h0 (hcs gs)
 have h1 : 0 ≤ M * 2 ^ hcs gs := Int.le_trans h0 p0
 have p1 := le_pow h1 (hcs gs')
 obtain ⟨ws, w1, w2⟩ := chain_of gs K M vs hg hst (by omega) h0 (by omega)
 obtain ⟨us', u1, u2⟩ := chain_of gs' (K + hcs gs) (M * 2 ^ hcs gs) ws hg' w2.1 (by omega) h1 (by omega)
 have e : us = us' := by
  refine hr.1.eq (N := M * 2 ^ hcs (gs ++ gs')) ?_ fun j hj => ?_
  ·rw [hcs_app, pow_split, ← Nat.add_assoc]; exact u2.1
  ·rw [hr.2 j hj, hcs_app, ← Nat.add_assoc, u2.2 j hj, apG_app]
   exact (apG_cong hg' w2.2 j hj).symm
 rw [e]
 exact (h K M vs ws hst h0 (by omega) (by omega) w2).append (h' _ _ ws us' w2.1 h1 (by omega) (by omega) u2)
/-- Lists without H: what one makes of the amplitudes the other makes too. -/
theorem Same.of {n : Nat} {gs hs : List Gt} {d : Nat} (hd : d ≤ 2) (hh : ∀ g ∈ hs, vg g n = true) (hc : hcs hs = hcs gs + 2 * d) (he : ∀ f j, j < 2 ^ n → apG hs f j = up (2 * d) (apG gs f j)) : Same n gs hs := fun K M vs us hs' h0 hK hM hr => by
 have e16 : ∀ x : Int, 0 ≤ x → x * 2 ^ (2 * d) ≤ x * 16 := fun x hx => by
  rcases (show d = 0 ∨ d = 1 ∨ d = 2 by omega) with rfl | rfl | rfl
  ·show x * 1 ≤ x * 16; omega
  ·show x * 4 ≤ x * 16; omega
  ·show x * 16 ≤ x * 16; omega
 have h1 : 0 ≤ M * 2 ^ hcs gs := Int.le_trans h0 (le_pow h0 _)
 obtain ⟨ws, w1, w2⟩ := chain_of hs K M vs hh hs' (by rw [hc]; omega) h0 (by rw [hc, pow_split]; exact Int.le_trans (e16 _ h1) hM)
 have e : us = ws := by
  have w3 := w2.1
  rw [hc, ← Nat.add_assoc] at w3
  have hup : ∀ u : Zw, near (M * 2 ^ hcs gs) u → near (M * 2 ^ hcs gs * 16) (up (2 * d) u) := fun u hu => by
   have n1 := near_root hu
   have n2 := near_root n1
   have n3 := near_root n2
   have n4 := near_root n3
   rcases (show d = 0 ∨ d = 1 ∨ d = 2 by omega) with rfl | rfl | rfl
   ·exact near_le hu (by omega)
   ·exact near_le n2 (by omega)
   ·exact near_le n4 (by omega)
  refine (hr.1.mono (J := 2 * d) hup).eq w3 fun j hj => ?_
  have w4 := w2.2 j hj
  rw [hc, ← Nat.add_assoc] at w4
  rw [w4, he _ j hj, Lf_more hr.1 hj, hr.2 j hj]
 rw [e]
 exact w1
theorem rot4 (x : Zw) : rot 4 x = ⟨-x.a, -x.b, -x.c, -x.d⟩ := by apply Zw.eq <;> simp only [rot, zmul, zw] <;> omega
end Go.Proofs.YtioimnplhmgbgaaGreat
/-
 Helper text (no claim of its own): what a Pauli makes of amplitudes, and how a Clifford gate carries it (plain Lean).
-/
namespace Go.Proofs.YtioimnplhmgbgaaGreat
open Go.ChangeShapes Go.WideShapes Go.ChangeAt Go.RowKit Go.Deep
set_option linter.unusedVariables false
set_option linter.unusedSimpArgs false
theorem rot_add2 {i j : Nat} (hi : i < 8) (hj : j < 8) (x : Zw) : rot i (rot j x) = rot ((i + j) % 8) x := by
 rcases lt8 hi with rfl | rfl | rfl | rfl | rfl | rfl | rfl | rfl <;> rcases lt8 hj with rfl | rfl | rfl | rfl | rfl | rfl | rfl | rfl <;> (apply Zw.eq <;> simp only [rot, zmul, zw] <;> omega)
/-- The parity of the ones of a nibble. -/
def par (v : Nat) : Nat := (v + v / 2 + v / 4 + v / 8) % 2
theorem par_lt (v : Nat) : par v < 2 := Nat.mod_lt _ (by decide)
theorem chk_par : (List.range 16).all (fun z => (List.range 16).all fun a => (List.range 16).all fun b => (par (z &&& (a ^^^ b)) == (par (z &&& a) + par (z &&& b)) % 2) && (par ((z ^^^ a) &&& b) == (par (z &&& b) + par (a &&& b)) % 2)) = true := by kernel_rfl
theorem par_r {z a b : Nat} (hz : z < 16) (ha : a < 16) (hb : b < 16) : par (z &&& (a ^^^ b)) = (par (z &&& a) + par (z &&& b)) % 2 := by
 have h := of_all (of_all (of_all chk_par hz) ha) hb
 rw [Bool.and_eq_true] at h
 exact beq_iff_eq.1 h.1
theorem par_l {z a b : Nat} (hz : z < 16) (ha : a < 16) (hb : b < 16) : par ((z ^^^ a) &&& b) = (par (z &&& b) + par (a &&& b)) % 2 := by
 have h := of_all (of_all (of_all chk_par hz) ha) hb
 rw [Bool.and_eq_true] at h
 exact beq_iff_eq.1 h.2
theorem chk_x16 : (List.range 5).all (fun n => (List.range (2 ^ n)).all fun a => (List.range (2 ^ n)).all fun b => decide (a ^^^ b < 2 ^ n)) = true := by kernel_rfl
theorem xor_lt {n a b : Nat} (hn : n ≤ 4) (ha : a < 2 ^ n) (hb : b < 2 ^ n) : a ^^^ b < 2 ^ n := by
 have h := of_all (of_all (of_all chk_x16 (show n < 5 by omega)) ha) hb
 exact of_decide_eq_true h
theorem chk_bits : (List.range 16).all (fun a => (List.range 16).all fun b => (xorI a b == ((a ^^^ b : Nat) : Int)) && (ones (andI a b) % 2 == ((par (a &&& b) : Nat) : Int)) && decide (0 ≤ ones (andI a b)) && decide (ones (andI a b) ≤ 4)) = true := by kernel_rfl
theorem xorI_nat {a b : Nat} (ha : a < 16) (hb : b < 16) : xorI a b = ((a ^^^ b : Nat) : Int) := by
 have h := of_all (of_all chk_bits ha) hb
 simp only [Bool.and_eq_true] at h
 exact beq_iff_eq.1 h.1.1.1
theorem ones_nat {a b : Nat} (ha : a < 16) (hb : b < 16) : ones (andI a b) % 2 = ((par (a &&& b) : Nat) : Int) ∧ 0 ≤ ones (andI a b) ∧ ones (andI a b) ≤ 4 := by
 have h := of_all (of_all chk_bits ha) hb
 simp only [Bool.and_eq_true, decide_eq_true_eq] at h
 exact ⟨beq_iff_eq.1 h.1.1.2, h.1.2, h.2⟩
/-- The power of the eighth root that a Pauli gives to what comes to j. -/
def phN (x z p j : Nat) : Nat := (2 * p + 4 * par (z &&& (j ^^^ x))) % 8
def opN (x z p : Nat) (f : Nat → Zw) (j : Nat) : Zw := rot (phN x z p j) (f (j ^^^ x))
def opP (p : Pa) (f : Nat → Zw) (j : Nat) : Zw := opN p.x.toNat p.z.toNat p.p.toNat f j
theorem phN_lt (x z p j : Nat) : phN x z p j < 8 := Nat.mod_lt _ (by decide)
theorem pow_16 {n : Nat} (hn : n ≤ 4) : 2 ^ n ≤ 16 := Nat.pow_le_pow_right (n := 2) (by decide) hn
/-- A valid Pauli in naturals. -/
theorem vPa_nat {p : Pa} (h : vPa p = true) : ∃ n x z q : Nat, p = ⟨n, x, z, q⟩ ∧ 1 ≤ n ∧ n ≤ 4 ∧ x < 2 ^ n ∧ z < 2 ^ n ∧ q < 4 := by
 obtain ⟨h1, h2, h3, h4⟩ := vPa_iff.1 h
 obtain ⟨n, x, z, q⟩ := p
 simp only at h1 h2 h3 h4
 obtain ⟨n, rfl⟩ := Int.eq_ofNat_of_zero_le (by omega : 0 ≤ n)
 obtain ⟨x, rfl⟩ := Int.eq_ofNat_of_zero_le h2.1
 obtain ⟨z, rfl⟩ := Int.eq_ofNat_of_zero_le h3.1
 obtain ⟨q, rfl⟩ := Int.eq_ofNat_of_zero_le h4.1
 have e : topOf (n : Int) = ((2 ^ n : Nat) : Int) - 1 := by
  unfold topOf pw
  rw [Int.toNat_natCast, Int.natCast_pow]
  rfl
 rw [e] at h2 h3
 have hp : 0 < 2 ^ n := Nat.pow_pos (by decide)
 exact ⟨n, x, z, q, rfl, by omega, by omega, by omega, by omega, by omega⟩
theorem vPa_of {n x z q : Nat} (h1 : 1 ≤ n) (h4 : n ≤ 4) (hx : x < 2 ^ n) (hz : z < 2 ^ n) (hq : q < 4) : vPa ⟨n, x, z, q⟩ = true := by
 have e : topOf (n : Int) = ((2 ^ n : Nat) : Int) - 1 := by
  unfold topOf pw
  rw [Int.toNat_natCast, Int.natCast_pow]
  rfl
 rw [vPa_iff]
 simp only
 rw [e]
 omega
theorem opP_nat (n x z q : Nat) (f : Nat → Zw) (j : Nat) : opP ⟨n, x, z, q⟩ f j = opN x z q f j := by
 unfold opP
 simp only [Int.toNat_natCast]
/-- The product of Paulis. -/
theorem mulP_nat {n x z q x' z' q' m : Nat} (hx : x < 16) (hz : z < 16) (hx' : x' < 16) (hz' : z' < 16) : ∃ r : Nat, mulP ⟨n, x, z, q⟩ ⟨m, x', z', q'⟩ = ⟨n, (x ^^^ x' : Nat), (z ^^^ z' : Nat), r⟩ ∧ r < 4 ∧ (2 * r) % 8 = (2 * q + 2 * q' + 4 * par (z &&& x')) % 8 := by
 obtain ⟨o1, o2, o3⟩ := ones_nat hz hx'
 obtain ⟨o, ho⟩ := Int.eq_ofNat_of_zero_le o2
 refine ⟨(q + q' + 2 * o) % 4, ?_, Nat.mod_lt _ (by decide), ?_⟩
 ·unfold mulP
  simp only
  rw [xorI_nat hx hx', xorI_nat hz hz', ho]
  congr 1
 ·rw [ho] at o1
  omega
theorem mulP_ok {a b : Pa} (ha : vPa a = true) (hb : vPa b = true) (hn : a.n = b.n) : vPa (mulP a b) = true ∧ (mulP a b).n = a.n := by
 obtain ⟨n, x, z, q, rfl, n1, n4, hx, hz, hq⟩ := vPa_nat ha
 obtain ⟨m, x', z', q', rfl, m1, m4, hx', hz', hq'⟩ := vPa_nat hb
 simp only at hn
 obtain rfl : n = m := by omega
 have h16 := pow_16 n4
 obtain ⟨r, hr, hr4, -⟩ := mulP_nat (n := n) (m := n) (q := q) (q' := q') (by omega : x < 16) (by omega : z < 16) (by omega : x' < 16) (by omega : z' < 16)
 rw [hr]
 exact ⟨vPa_of n1 n4 (xor_lt n4 hx hx') (xor_lt n4 hz hz') hr4, rfl⟩
theorem opP_mul {a b : Pa} (ha : vPa a = true) (hb : vPa b = true) (hn : a.n = b.n) (f : Nat → Zw) (j : Nat) (hj : j < 16) : opP (mulP a b) f j = opP a (opP b f) j := by
 obtain ⟨n, x, z, q, rfl, n1, n4, hx, hz, hq⟩ := vPa_nat ha
 obtain ⟨m, x', z', q', rfl, m1, m4, hx', hz', hq'⟩ := vPa_nat hb
 simp only at hn
 obtain rfl : n = m := by omega
 have h16 := pow_16 n4
 obtain ⟨r, hr, hr4, hr8⟩ := mulP_nat (n := n) (m := n) (q := q) (q' := q') (by omega : x < 16) (by omega : z < 16) (by omega : x' < 16) (by omega : z' < 16)
 rw [hr, opP_nat, opP_nat]
 unfold opN
 rw [opP_nat]
 unfold opN
 rw [rot_add2 (phN_lt _ _ _ _) (phN_lt _ _ _ _), ← Nat.xor_assoc]
 congr 1
 unfold phN
 have hjx : j ^^^ x < 16 := by
  have := xor_lt (n := 4) (by decide) (show j < 2 ^ 4 from hj) (show x < 2 ^ 4 by omega)
  exact this
 have ht : j ^^^ x ^^^ x' < 16 := by
  have := xor_lt (n := 4) (by decide) (show j ^^^ x < 2 ^ 4 from hjx) (show x' < 2 ^ 4 by omega)
  exact this
 have hzx : j ^^^ x = (j ^^^ x ^^^ x') ^^^ x' := by rw [Nat.xor_assoc (j ^^^ x), Nat.xor_self, Nat.xor_zero]
 have h1 := par_l (z := z) (a := z') (b := j ^^^ x ^^^ x') (by omega) (by omega) ht
 have h2 : par (z &&& (j ^^^ x)) = (par (z &&& (j ^^^ x ^^^ x')) + par (z &&& x')) % 2 := by
  have := par_r (z := z) (a := j ^^^ x ^^^ x') (b := x') (by omega) ht (by omega)
  rw [← hzx] at this
  exact this
 have e : j ^^^ (x ^^^ x') = j ^^^ x ^^^ x' := (Nat.xor_assoc _ _ _).symm
 rw [e, h1, h2]
 generalize par (z &&& (j ^^^ x ^^^ x')) = u1 at *
 generalize par (z' &&& (j ^^^ x ^^^ x')) = u2 at *
 have hp := par_lt (z &&& x')
 generalize par (z &&& x') = u3 at *
 omega
theorem mulR_is {a b : Pa} (ha : vPa a = true) (hb : vPa b = true) (hn : a.n = b.n) : mulR a b = mulP a b := by
 unfold mulR
 rw [ha, hb, hn]
 simp
/-- The kinds of Clifford gates other than H. -/
def kindsC : List Nat := [1, 2, 3, 5, 6, 9, 10, 11]
def okImg (n : Nat) (p : Pa) : Bool := vPa p && (p.n == (n : Int))
def chkX (n k a b q : Nat) (p : Pa) : Bool := okImg n p && (List.range (2 ^ n)).all fun j =>
 (sgN k a b 0 j ^^^ 2 ^ q == sgN k a b 0 (j ^^^ p.x.toNat)) && (pgN k a b 0 (sgN k a b 0 j) % 8 == (phN p.x.toNat p.z.toNat p.p.toNat j + pgN k a b 0 (sgN k a b 0 (j ^^^ p.x.toNat))) % 8)
def chkZ (n k a b q : Nat) (p : Pa) : Bool := okImg n p && (List.range (2 ^ n)).all fun j =>
 (sgN k a b 0 j == sgN k a b 0 (j ^^^ p.x.toNat)) && ((pgN k a b 0 (sgN k a b 0 j) + 4 * par (2 ^ q &&& sgN k a b 0 j)) % 8 == (phN p.x.toNat p.z.toNat p.p.toNat j + pgN k a b 0 (sgN k a b 0 (j ^^^ p.x.toNat))) % 8)
theorem chk_gen : (List.range 5).all (fun n => (List.range n).all fun a => (List.range n).all fun b => (List.range n).all fun q => kindsC.all fun k => (8 < k && a == b) || (chkX n k a b q (imgX n ⟨k, a, b, 0⟩ q) && chkZ n k a b q (imgZ n ⟨k, a, b, 0⟩ q))) = true := by kernel_rfl
def chkH (n a q j : Nat) : Bool :=
 if q == a then (qlo j a ^^^ 2 ^ a == qhi j a) && (qhi j a ^^^ 2 ^ a == qlo j a) && (par (2 ^ a &&& qlo j a) == 0) && (par (2 ^ a &&& qhi j a) == 1) && (par (2 ^ a &&& j) == if bt j a then 1 else 0) && (bt (j ^^^ 2 ^ a) a == !bt j a) && (qlo (j ^^^ 2 ^ a) a == qlo j a) && (qhi (j ^^^ 2 ^ a) a == qhi j a)
 else (qlo (j ^^^ 2 ^ q) a == qlo j a ^^^ 2 ^ q) && (qhi (j ^^^ 2 ^ q) a == qhi j a ^^^ 2 ^ q) && (bt (j ^^^ 2 ^ q) a == bt j a) && (par (2 ^ q &&& qlo j a) == par (2 ^ q &&& j)) && (par (2 ^ q &&& qhi j a) == par (2 ^ q &&& j))
theorem chk_H : (List.range 5).all (fun n => (List.range n).all fun a => (List.range n).all fun q => (List.range (2 ^ n)).all fun j => chkH n a q j) = true := by kernel_rfl
end Go.Proofs.YtioimnplhmgbgaaGreat
/-
 Helper text (no claim of its own): a Clifford gate carries every Pauli to the one that the tableau tells (plain Lean).
-/
namespace Go.Proofs.YtioimnplhmgbgaaGreat
open Go.ChangeShapes Go.WideShapes Go.ChangeAt Go.RowKit Go.Deep
set_option linter.unusedVariables false
set_option linter.unusedSimpArgs false
theorem kindsC_N {k : Nat} (h : k ∈ kindsC) : k ∈ kindsN := by
 simp only [kindsC, List.mem_cons, List.not_mem_nil, or_false] at h
 rcases h with rfl | rfl | rfl | rfl | rfl | rfl | rfl | rfl <;> decide
theorem sg_c {k : Nat} (h : k ∈ kindsC) (a b c i : Nat) : sgN k a b c i = sgN k a b 0 i ∧ pgN k a b c i = pgN k a b 0 i := by
 simp only [kindsC, List.mem_cons, List.not_mem_nil, or_false] at h
 rcases h with rfl | rfl | rfl | rfl | rfl | rfl | rfl | rfl <;> exact ⟨rfl, rfl⟩
theorem fineC {k a b c : Nat} (h : k ∈ kindsC) (hab : 8 < k → a ≠ b) : fineN k a b c = true := by
 simp only [kindsC, List.mem_cons, List.not_mem_nil, or_false] at h
 rcases h with rfl | rfl | rfl | rfl | rfl | rfl | rfl | rfl
 ·rfl
 ·rfl
 ·rfl
 ·rfl
 ·rfl
 all_goals
  have h := hab (by decide)
  unfold fineN
  simp [h]
theorem chkX_facts {n k a b q : Nat} {p : Pa} (h : chkX n k a b q p = true) : vPa p = true ∧ p.n = n ∧ ∀ j, j < 2 ^ n →
  sgN k a b 0 j ^^^ 2 ^ q = sgN k a b 0 (j ^^^ p.x.toNat) ∧ pgN k a b 0 (sgN k a b 0 j) % 8 = (phN p.x.toNat p.z.toNat p.p.toNat j + pgN k a b 0 (sgN k a b 0 (j ^^^ p.x.toNat))) % 8 := by
 unfold chkX okImg at h
 simp only [Bool.and_eq_true] at h
 refine ⟨h.1.1, beq_iff_eq.1 h.1.2, fun j hj => ?_⟩
 have h2 := List.all_eq_true.1 h.2 j (List.mem_range.2 hj)
 rw [Bool.and_eq_true] at h2
 exact ⟨beq_iff_eq.1 h2.1, beq_iff_eq.1 h2.2⟩
theorem chkZ_facts {n k a b q : Nat} {p : Pa} (h : chkZ n k a b q p = true) : vPa p = true ∧ p.n = n ∧ ∀ j, j < 2 ^ n →
  sgN k a b 0 j = sgN k a b 0 (j ^^^ p.x.toNat) ∧ (pgN k a b 0 (sgN k a b 0 j) + 4 * par (2 ^ q &&& sgN k a b 0 j)) % 8 = (phN p.x.toNat p.z.toNat p.p.toNat j + pgN k a b 0 (sgN k a b 0 (j ^^^ p.x.toNat))) % 8 := by
 unfold chkZ okImg at h
 simp only [Bool.and_eq_true] at h
 refine ⟨h.1.1, beq_iff_eq.1 h.1.2, fun j hj => ?_⟩
 have h2 := List.all_eq_true.1 h.2 j (List.mem_range.2 hj)
 rw [Bool.and_eq_true] at h2
 exact ⟨beq_iff_eq.1 h2.1, beq_iff_eq.1 h2.2⟩
theorem gen_facts {n k a b q : Nat} (hn : n ≤ 4) (ha : a < n) (hb : b < n) (hq : q < n) (hk : k ∈ kindsC) (hab : 8 < k → a ≠ b) : chkX n k a b q (imgX n ⟨k, a, b, 0⟩ q) = true ∧ chkZ n k a b q (imgZ n ⟨k, a, b, 0⟩ q) = true := by
 have h1 := of_all (of_all (of_all (of_all chk_gen (show n < 5 by omega)) ha) hb) hq
 have h2 := List.all_eq_true.1 h1 k hk
 rw [Bool.or_eq_true] at h2
 rcases h2 with h2 | h2
 ·rw [Bool.and_eq_true, decide_eq_true_eq, beq_iff_eq] at h2
  exact absurd h2.2 (hab h2.1)
 ·rw [Bool.and_eq_true] at h2
  exact h2
theorem phX (q s : Nat) : phN (2 ^ q) 0 0 s = 0 := by unfold phN; rw [Nat.zero_and]; rfl
theorem phZ (q s : Nat) : phN 0 (2 ^ q) 0 s = 4 * par (2 ^ q &&& s) := by
 unfold phN
 rw [Nat.xor_zero]
 have := par_lt (2 ^ q &&& s)
 omega
theorem opX_is (q : Nat) (f : Nat → Zw) (s : Nat) : opN (2 ^ q) 0 0 f s = f (s ^^^ 2 ^ q) := by unfold opN; rw [phX, rot_0]
theorem opZ_is (q : Nat) (f : Nat → Zw) (s : Nat) : opN 0 (2 ^ q) 0 f s = rot (4 * par (2 ^ q &&& s)) (f s) := by unfold opN; rw [phZ, Nat.xor_zero]
theorem two_lt {q n : Nat} (h : q < n) : 2 ^ q < 2 ^ n := Nat.pow_lt_pow_right (by decide) h
/-- A gate other than H carries the generators. -/
theorem gen_perm {n k a b c q : Nat} (hn : n ≤ 4) (ha : a < n) (hb : b < n) (hc : c < n) (hq : q < n) (hk : k ∈ kindsC) (hab : 8 < k → a ≠ b) (f : Nat → Zw) (j : Nat) (hj : j < 2 ^ n) :
  ap1 ⟨k, a, b, c⟩ (opN (2 ^ q) 0 0 f) j = opP (imgX n ⟨k, a, b, c⟩ q) (ap1 ⟨k, a, b, c⟩ f) j ∧ ap1 ⟨k, a, b, c⟩ (opN 0 (2 ^ q) 0 f) j = opP (imgZ n ⟨k, a, b, c⟩ q) (ap1 ⟨k, a, b, c⟩ f) j := by
 obtain ⟨hX, hZ⟩ := gen_facts hn ha hb hq hk hab
 have hkN := kindsC_N hk
 have hf := fineC (c := c) hk hab
 constructor
 ·have hi : imgX n ⟨k, a, b, c⟩ q = imgX n ⟨k, a, b, 0⟩ q := rfl
  rw [hi]
  generalize imgX n ⟨k, a, b, 0⟩ q = r at *
  obtain ⟨hv, hrn, hch⟩ := chkX_facts hX
  obtain ⟨m, x, z, p, rfl, m1, m4, hx, hz, hp⟩ := vPa_nat hv
  simp only at hrn
  obtain rfl : m = n := by omega
  obtain ⟨h1, h2⟩ := hch j hj
  simp only [Int.toNat_natCast] at h1 h2
  have hjx := xor_lt hn hj hx
  have p1 := (sg_facts hn hkN ha hb hc hf (sg_facts hn hkN ha hb hc hf hj).1).2.2.1
  have p2 := (sg_facts hn hkN ha hb hc hf (sg_facts hn hkN ha hb hc hf hjx).1).2.2.1
  rw [ap1_p hkN, opP_nat]
  unfold opN
  rw [ap1_p hkN, phX, rot_add2 p1 (by decide), rot_add2 (phN_lt _ _ _ _) p2]
  rw [(sg_c hk a b c j).1, (sg_c hk a b c (j ^^^ x)).1, (sg_c hk a b c _).2, (sg_c hk a b c (sgN k a b 0 (j ^^^ x))).2, Nat.add_zero, h1, h2]
 ·have hi : imgZ n ⟨k, a, b, c⟩ q = imgZ n ⟨k, a, b, 0⟩ q := rfl
  rw [hi]
  generalize imgZ n ⟨k, a, b, 0⟩ q = r at *
  obtain ⟨hv, hrn, hch⟩ := chkZ_facts hZ
  obtain ⟨m, x, z, p, rfl, m1, m4, hx, hz, hp⟩ := vPa_nat hv
  simp only at hrn
  obtain rfl : m = n := by omega
  obtain ⟨h1, h2⟩ := hch j hj
  simp only [Int.toNat_natCast] at h1 h2
  have hjx := xor_lt hn hj hx
  have p1 := (sg_facts hn hkN ha hb hc hf (sg_facts hn hkN ha hb hc hf hj).1).2.2.1
  have p2 := (sg_facts hn hkN ha hb hc hf (sg_facts hn hkN ha hb hc hf hjx).1).2.2.1
  rw [ap1_p hkN, opP_nat, opZ_is]
  unfold opN
  have hlt := par_lt (2 ^ q &&& sgN k a b c j)
  rw [ap1_p hkN, rot_add2 p1 (by omega), rot_add2 (phN_lt _ _ _ _) p2]
  rw [(sg_c hk a b c j).1, (sg_c hk a b c (j ^^^ x)).1, (sg_c hk a b c _).2, (sg_c hk a b c (sgN k a b 0 (j ^^^ x))).2, h2, h1]
theorem zadd_comm (x y : Zw) : zadd x y = zadd y x := by apply Zw.eq <;> simp only [zadd] <;> omega
theorem H_facts {n a q j : Nat} (hn : n ≤ 4) (ha : a < n) (hq : q < n) (hj : j < 2 ^ n) : chkH n a q j = true := by
 have h := of_all (of_all (of_all (of_all chk_H (show n < 5 by omega)) ha) hq) hj
 exact h
theorem imgX_H (n a q : Nat) (b c : Int) : imgX n ⟨4, a, b, c⟩ q = if q = a then ⟨n, 0, (2 ^ q : Nat), 0⟩ else ⟨n, (2 ^ q : Nat), 0, 0⟩ := by
 unfold imgX isFst isSnd
 have e : pw (q : Int) = ((2 ^ q : Nat) : Int) := by unfold pw; rw [Int.toNat_natCast, Int.natCast_pow]; rfl
 rw [e]
 by_cases h : q = a
 ·subst h; simp
 ·have h2 : ((q : Int) == (a : Int)) = false := by simp; omega
  rw [if_neg h]
  simp [h2, ar]
theorem imgZ_H (n a q : Nat) (b c : Int) : imgZ n ⟨4, a, b, c⟩ q = if q = a then ⟨n, (2 ^ q : Nat), 0, 0⟩ else ⟨n, 0, (2 ^ q : Nat), 0⟩ := by
 unfold imgZ isFst isSnd
 have e : pw (q : Int) = ((2 ^ q : Nat) : Int) := by unfold pw; rw [Int.toNat_natCast, Int.natCast_pow]; rfl
 rw [e]
 by_cases h : q = a
 ·subst h; simp
 ·have h2 : ((q : Int) == (a : Int)) = false := by simp; omega
  rw [if_neg h]
  simp [h2, ar]
theorem opP_X (n q : Nat) (f : Nat → Zw) (j : Nat) : opP ⟨n, (2 ^ q : Nat), 0, 0⟩ f j = f (j ^^^ 2 ^ q) := by
 have := opP_nat n (2 ^ q) 0 0 f j
 rw [opX_is] at this
 exact this
theorem opP_Z (n q : Nat) (f : Nat → Zw) (j : Nat) : opP ⟨n, 0, (2 ^ q : Nat), 0⟩ f j = rot (4 * par (2 ^ q &&& j)) (f j) := by
 have := opP_nat n 0 (2 ^ q) 0 f j
 rw [opZ_is] at this
 exact this
/-- H carries the generators. -/
theorem gen_H {n a b c q : Nat} (hn : n ≤ 4) (ha : a < n) (hq : q < n) (f : Nat → Zw) (j : Nat) (hj : j < 2 ^ n) :
  ap1 ⟨4, a, b, c⟩ (opN (2 ^ q) 0 0 f) j = opP (imgX n ⟨4, a, b, c⟩ q) (ap1 ⟨4, a, b, c⟩ f) j ∧ ap1 ⟨4, a, b, c⟩ (opN 0 (2 ^ q) 0 f) j = opP (imgZ n ⟨4, a, b, c⟩ q) (ap1 ⟨4, a, b, c⟩ f) j := by
 have h := H_facts hn ha hq hj
 rw [imgX_H, imgZ_H]
 unfold chkH at h
 by_cases e : q = a
 ·subst e
  rw [if_pos rfl, if_pos rfl]
  rw [if_pos (by simp)] at h
  simp only [Bool.and_eq_true, beq_iff_eq, and_assoc] at h
  obtain ⟨h1, h2, h3, h4, h5, h6, h7, h8⟩ := h
  rw [opP_X, opP_Z]
  simp only [ap1_4, opX_is, opZ_is]
  rw [h1, h2, h3, h4, h5, h7, h8]
  unfold sgnH
  rw [h6]
  cases hb : bt j q
  ·simp only [Bool.not_false, if_true, Bool.false_eq_true, if_false, Nat.mul_zero, Nat.mul_one, rot_0, rot4]
   exact ⟨zadd_comm _ _, trivial⟩
  ·simp only [Bool.not_true, if_true, Bool.false_eq_true, if_false, Nat.mul_zero, Nat.mul_one, rot_0, rot4]
   exact ⟨by apply Zw.eq <;> simp only [zadd] <;> omega, by apply Zw.eq <;> simp only [zadd] <;> omega⟩
 ·rw [if_neg e, if_neg e]
  rw [if_neg (by simp [e])] at h
  simp only [Bool.and_eq_true, beq_iff_eq, and_assoc] at h
  obtain ⟨h1, h2, h3, h4, h5⟩ := h
  rw [opP_X, opP_Z]
  simp only [ap1_4, opX_is, opZ_is]
  unfold sgnH
  rw [h1, h2, h3, h4, h5]
  refine ⟨rfl, ?_⟩
  have hp := par_lt (2 ^ q &&& j)
  rcases (show par (2 ^ q &&& j) = 0 ∨ par (2 ^ q &&& j) = 1 by omega) with e1 | e1 <;> rw [e1] <;> cases bt j a <;>
   simp only [Bool.false_eq_true, if_false, if_true, Nat.mul_zero, Nat.mul_one, rot_0, rot4] <;> first | rfl | (apply Zw.eq <;> simp only [zadd] <;> omega)
/-- A Clifford gate in naturals. -/
theorem cliff_nat {g : Gt} {n : Nat} (hv : vg g n = true) (hc : cliff g = true) : ∃ k a b c : Nat, g = ⟨k, a, b, c⟩ ∧ (1 ≤ n ∧ n ≤ 4) ∧ (k = 4 ∨ k ∈ kindsC) ∧ a < n ∧ b < n ∧ c < n ∧ (8 < k → a ≠ b) := by
 obtain ⟨k, a, b, c, rfl, hn, hk, ha, hb, hcc, hf⟩ := vg_nat hv
 refine ⟨k, a, b, c, rfl, hn, ?_, ha, hb, hcc, fun h8 => ?_⟩
 ·rcases hk with hk | hk
  ·exact Or.inl hk
  ·right
   unfold cliff at hc
   simp only [kindsN, List.mem_cons, List.not_mem_nil, or_false] at hk
   rcases hk with rfl | rfl | rfl | rfl | rfl | rfl | rfl | rfl | rfl | rfl | rfl <;> first | decide | (exfalso; simp at hc)
 ·unfold fineN at hf
  simp only [Bool.and_eq_true, Bool.or_eq_true, decide_eq_true_eq, bne_iff_ne] at hf
  rcases hf.1 with h | h
  ·omega
  ·exact h
/-- A Clifford gate carries the generators. -/
theorem gen_any {g : Gt} {n q : Nat} (hv : vg g n = true) (hc : cliff g = true) (hq : q < n) (f : Nat → Zw) (j : Nat) (hj : j < 2 ^ n) :
  ap1 g (opN (2 ^ q) 0 0 f) j = opP (imgX n g q) (ap1 g f) j ∧ ap1 g (opN 0 (2 ^ q) 0 f) j = opP (imgZ n g q) (ap1 g f) j := by
 obtain ⟨k, a, b, c, rfl, hn, hk, ha, hb, hcc, hab⟩ := cliff_nat hv hc
 rcases hk with rfl | hk
 ·exact gen_H hn.2 ha hq f j hj
 ·exact gen_perm hn.2 ha hb hcc hq hk hab f j hj
theorem img_ok {g : Gt} {n q : Nat} (hv : vg g n = true) (hc : cliff g = true) (hq : q < n) : (vPa (imgX n g q) = true ∧ (imgX n g q).n = n) ∧ (vPa (imgZ n g q) = true ∧ (imgZ n g q).n = n) := by
 obtain ⟨k, a, b, c, rfl, hn, hk, ha, hb, hcc, hab⟩ := cliff_nat hv hc
 rcases hk with rfl | hk
 ·have h2 := two_lt hq
  have h0 : 0 < 2 ^ n := Nat.pow_pos (by decide)
  have v1 := vPa_of hn.1 hn.2 h2 h0 (by decide : 0 < 4)
  have v2 := vPa_of hn.1 hn.2 h0 h2 (by decide : 0 < 4)
  have e1 := imgX_H n a q b c
  have e2 := imgZ_H n a q b c
  rw [show (⟨((4 : Nat) : Int), a, b, c⟩ : Gt) = ⟨4, a, b, c⟩ from rfl, e1, e2]
  split
  ·exact ⟨⟨v2, rfl⟩, v1, rfl⟩
  ·exact ⟨⟨v1, rfl⟩, v2, rfl⟩
 ·obtain ⟨hX, hZ⟩ := gen_facts hn.2 ha hb hq hk hab
  have x1 := chkX_facts hX
  have x2 := chkZ_facts hZ
  exact ⟨⟨x1.1, x1.2.1⟩, x2.1, x2.2.1⟩
end Go.Proofs.YtioimnplhmgbgaaGreat
/-
 Helper text (no claim of its own): what a tableau says of a circuit (plain Lean).
-/
namespace Go.Proofs.YtioimnplhmgbgaaGreat
open Go.ChangeShapes Go.WideShapes Go.ChangeAt Go.RowKit Go.Deep
set_option linter.unusedVariables false
set_option linter.unusedSimpArgs false
theorem opP_cong {P : Pa} {n : Nat} (hP : vPa P = true) (hn : P.n = n) {f h : Nat → Zw} (he : ∀ j, j < 2 ^ n → f j = h j) : ∀ j, j < 2 ^ n → opP P f j = opP P h j := by
 intro j hj
 obtain ⟨m, x, z, p, rfl, m1, m4, hx, hz, hp⟩ := vPa_nat hP
 simp only at hn
 obtain rfl : m = n := by omega
 rw [opP_nat, opP_nat]
 unfold opN
 rw [he _ (xor_lt m4 hj hx)]
theorem rot_zadd4 {i j : Nat} (hi : i < 8) (hj : j = 0 ∨ j = 4) (x y : Zw) : rot i (zadd x (rot j y)) = zadd (rot i x) (rot j (rot i y)) := by
 rw [rot_add hi, rot_add2 hi (by omega), rot_add2 (by omega) hi, Nat.add_comm]
theorem ap1_rot {g : Gt} {n i : Nat} (hg : vg g n = true) (hi : i < 8) (f : Nat → Zw) (j : Nat) (hj : j < 2 ^ n) : ap1 g (fun t => rot i (f t)) j = rot i (ap1 g f j) := by
 obtain ⟨k, a, b, c, rfl, hn, hk, ha, hb, hc, hf⟩ := vg_nat hg
 rcases hk with rfl | hk
 ·rw [show (⟨((4 : Nat) : Int), a, b, c⟩ : Gt) = ⟨4, a, b, c⟩ from rfl, ap1_4, ap1_4, rot_zadd4 hi (sgnH_or j a)]
 ·rw [ap1_p hk, ap1_p hk]
  have p1 := (sg_facts hn.2 hk ha hb hc hf (sg_facts hn.2 hk ha hb hc hf hj).1).2.2.1
  rw [rot_add2 p1 hi, rot_add2 hi p1, Nat.add_comm]
/-- The part of a Pauli on the first k qubits. -/
def loP (n x z p k : Nat) : Pa := ⟨n, (x % 2 ^ k : Nat), (z % 2 ^ k : Nat), p⟩
def gX (b : Bool) (q : Nat) (f : Nat → Zw) : Nat → Zw := if b = true then opN (2 ^ q) 0 0 f else f
def gZ (b : Bool) (q : Nat) (f : Nat → Zw) : Nat → Zw := if b = true then opN 0 (2 ^ q) 0 f else f
theorem chk_low : (List.range 16).all (fun v => (List.range 4).all fun k => (v % 2 ^ (k + 1) == if bitI v k then (v % 2 ^ k) ^^^ 2 ^ k else v % 2 ^ k) && (par (v % 2 ^ k &&& 2 ^ k) == 0)) = true := by kernel_rfl
theorem low_bit {v k : Nat} (hv : v < 16) (hk : k < 4) : v % 2 ^ (k + 1) = (if bitI v k = true then (v % 2 ^ k) ^^^ 2 ^ k else v % 2 ^ k) ∧ par (v % 2 ^ k &&& 2 ^ k) = 0 := by
 have h := of_all (of_all chk_low hv) hk
 rw [Bool.and_eq_true] at h
 exact ⟨beq_iff_eq.1 h.1, beq_iff_eq.1 h.2⟩
theorem mod_pow {v n k : Nat} (hv : v < 2 ^ n) : v % 2 ^ k < 2 ^ n := Nat.lt_of_le_of_lt (Nat.mod_le _ _) hv
theorem loP_ok {n x z p k : Nat} (h1 : 1 ≤ n) (h4 : n ≤ 4) (hx : x < 2 ^ n) (hz : z < 2 ^ n) (hp : p < 4) : vPa (loP n x z p k) = true := vPa_of h1 h4 (mod_pow hx) (mod_pow hz) hp
/-- A part of a Pauli, one qubit more. -/
theorem loP_step {n x z p k : Nat} (h1 : 1 ≤ n) (h4 : n ≤ 4) (hx : x < 2 ^ n) (hz : z < 2 ^ n) (hp : p < 4) (hk : k < n) (f : Nat → Zw) (j : Nat) (hj : j < 2 ^ n) :
  opP (loP n x z p (k + 1)) f j = opP (loP n x z p k) (gX (bitI x k) k (gZ (bitI z k) k f)) j := by
 have h16 := pow_16 h4
 obtain ⟨ex, px⟩ := low_bit (v := x) (k := k) (by omega) (by omega)
 obtain ⟨ez, pz⟩ := low_bit (v := z) (k := k) (by omega) (by omega)
 have hk2 := two_lt hk
 have hxl := mod_pow (k := k) hx
 have hzl := mod_pow (k := k) hz
 have h0 : 0 < 2 ^ n := Nat.pow_pos (by decide)
 have vX : vPa (⟨n, (2 ^ k : Nat), (0 : Nat), (0 : Nat)⟩ : Pa) = true := vPa_of h1 h4 hk2 h0 (by decide)
 have vZ : vPa (⟨n, (0 : Nat), (2 ^ k : Nat), (0 : Nat)⟩ : Pa) = true := vPa_of h1 h4 h0 hk2 (by decide)
 -- times X
 have stepX : ∀ (h : Nat → Zw), (bitI x k = true) → opP ⟨n, (x % 2 ^ (k + 1) : Nat), (z % 2 ^ k : Nat), p⟩ h j = opP (loP n x z p k) (opN (2 ^ k) 0 0 h) j := by
  intro h hb
  rw [if_pos hb] at ex
  obtain ⟨r, hr, hr4, hr8⟩ := mulP_nat (n := n) (m := n) (x := x % 2 ^ k) (z := z % 2 ^ k) (q := p) (x' := 2 ^ k) (z' := 0) (q' := 0) (by omega) (by omega) (by omega) (by omega)
  rw [pz] at hr8
  have hrp : r = p := by omega
  have hm := opP_mul (loP_ok (k := k) h1 h4 hx hz hp) vX rfl h j (by omega)
  have e : mulP (loP n x z p k) ⟨n, (2 ^ k : Nat), (0 : Nat), (0 : Nat)⟩ = ⟨n, (x % 2 ^ (k + 1) : Nat), (z % 2 ^ k : Nat), p⟩ := by
   unfold loP
   rw [hr, hrp, ex, Nat.xor_zero]
  rw [e] at hm
  rw [hm]
  refine opP_cong (n := n) (loP_ok h1 h4 hx hz hp) rfl (fun t ht => ?_) j hj
  rw [opP_nat]
 have stepZ : ∀ (h : Nat → Zw), (bitI z k = true) → opP (loP n x z p (k + 1)) h j = opP ⟨n, (x % 2 ^ (k + 1) : Nat), (z % 2 ^ k : Nat), p⟩ (opN 0 (2 ^ k) 0 h) j := by
  intro h hb
  rw [if_pos hb] at ez
  obtain ⟨r, hr, hr4, hr8⟩ := mulP_nat (n := n) (m := n) (x := x % 2 ^ (k + 1)) (z := z % 2 ^ k) (q := p) (x' := 0) (z' := 2 ^ k) (q' := 0) (by have := mod_pow (k := k + 1) hx; omega) (by omega) (by omega) (by omega)
  have hrp : r = p := by rw [Nat.and_zero] at hr8; have : par 0 = 0 := rfl; omega
  have vL : vPa (⟨n, (x % 2 ^ (k + 1) : Nat), (z % 2 ^ k : Nat), p⟩ : Pa) = true := vPa_of h1 h4 (mod_pow hx) (mod_pow hz) hp
  have hm := opP_mul vL vZ rfl h j (by omega)
  have e : mulP ⟨n, (x % 2 ^ (k + 1) : Nat), (z % 2 ^ k : Nat), p⟩ ⟨n, (0 : Nat), (2 ^ k : Nat), (0 : Nat)⟩ = loP n x z p (k + 1) := by
   unfold loP
   rw [hr, hrp, ez, Nat.xor_zero]
  rw [e] at hm
  rw [hm]
  refine opP_cong (n := n) vL rfl (fun t ht => ?_) j hj
  rw [opP_nat]
 have noZ : bitI z k = false → loP n x z p (k + 1) = ⟨n, (x % 2 ^ (k + 1) : Nat), (z % 2 ^ k : Nat), p⟩ := fun hb => by
  rw [if_neg (by simp [hb])] at ez
  unfold loP
  rw [ez]
 have noX : bitI x k = false → (⟨n, (x % 2 ^ (k + 1) : Nat), (z % 2 ^ k : Nat), p⟩ : Pa) = loP n x z p k := fun hb => by
  rw [if_neg (by simp [hb])] at ex
  unfold loP
  rw [ex]
 unfold gX gZ
 cases hbz : bitI z k <;> cases hbx : bitI x k
 ·rw [noZ hbz, noX hbx]; rfl
 ·rw [noZ hbz, stepX _ hbx]; rfl
 ·rw [stepZ _ hbz, noX hbx]; rfl
 ·rw [stepZ _ hbz, stepX _ hbx]; rfl
/-- A Clifford gate carries every Pauli. -/
theorem carry_low {g : Gt} {n x z p : Nat} (h1 : 1 ≤ n) (h4 : n ≤ 4) (hx : x < 2 ^ n) (hz : z < 2 ^ n) (hp : p < 4) (hv : vg g n = true) (hc : cliff g = true) : ∀ k, k ≤ n →
  (vPa (cjN ⟨n, x, z, p⟩ g k) = true ∧ (cjN ⟨n, x, z, p⟩ g k).n = n) ∧ ∀ (f : Nat → Zw) (j : Nat), j < 2 ^ n → ap1 g (opP (loP n x z p k) f) j = opP (cjN ⟨n, x, z, p⟩ g k) (ap1 g f) j
 | 0, _ => by
  have h0 : 0 < 2 ^ n := Nat.pow_pos (by decide)
  refine ⟨⟨vPa_of (x := 0) (z := 0) h1 h4 h0 h0 hp, rfl⟩, fun f j hj => ?_⟩
  have e : loP n x z p 0 = ⟨n, (0 : Nat), (0 : Nat), p⟩ := by
   unfold loP
   simp [Nat.mod_one]
  have e2 : ∀ (h : Nat → Zw) (t : Nat), opP ⟨n, (0 : Nat), (0 : Nat), p⟩ h t = rot ((2 * p) % 8) (h t) := fun h t => by
   rw [opP_nat]
   unfold opN phN
   rw [Nat.zero_and, Nat.xor_zero]
   rfl
  rw [e]
  show ap1 g (opP ⟨n, (0 : Nat), (0 : Nat), p⟩ f) j = opP ⟨n, (0 : Nat), (0 : Nat), p⟩ (ap1 g f) j
  rw [e2, ← ap1_rot hv (Nat.mod_lt _ (by decide)) f j hj]
  exact ap1_cong hv (fun t ht => e2 f t) j hj
 | k + 1, hk => by
  obtain ⟨⟨i1, i2⟩, i3⟩ := carry_low h1 h4 hx hz hp hv hc k (by omega)
  have hkn : k < n := by omega
  obtain ⟨⟨x1, x2⟩, z1, z2⟩ := img_ok hv hc hkn
  have hstep : ∀ (f : Nat → Zw) (j : Nat), j < 2 ^ n → ap1 g (opP (loP n x z p (k + 1)) f) j = opP (cjN ⟨n, x, z, p⟩ g k) (ap1 g (gX (bitI x k) k (gZ (bitI z k) k f))) j := fun f j hj => by
   rw [ap1_cong hv (fun t ht => loP_step h1 h4 hx hz hp hkn f t ht) j hj]
   exact i3 _ j hj
  have h16 := pow_16 h4
  -- the X of qubit k
  have hX : (vPa (cjX ⟨n, x, z, p⟩ g k (cjN ⟨n, x, z, p⟩ g k)) = true ∧ (cjX ⟨n, x, z, p⟩ g k (cjN ⟨n, x, z, p⟩ g k)).n = n) ∧ ∀ (f : Nat → Zw) (j : Nat), j < 2 ^ n → opP (cjN ⟨n, x, z, p⟩ g k) (ap1 g (gX (bitI x k) k f)) j = opP (cjX ⟨n, x, z, p⟩ g k (cjN ⟨n, x, z, p⟩ g k)) (ap1 g f) j := by
   unfold cjX gX
   simp only
   cases hb : bitI x k
   ·exact ⟨⟨i1, i2⟩, fun f j hj => rfl⟩
   ·rw [if_pos rfl, mulR_is i1 x1 (i2.trans x2.symm)]
    obtain ⟨m1, m2⟩ := mulP_ok i1 x1 (i2.trans x2.symm)
    refine ⟨⟨m1, m2.trans i2⟩, fun f j hj => ?_⟩
    rw [opP_mul i1 x1 (i2.trans x2.symm) _ j (by omega)]
    exact opP_cong i1 i2 (fun t ht => (gen_any hv hc hkn f t ht).1) j hj
  obtain ⟨⟨j1, j2⟩, j3⟩ := hX
  show (vPa (cjZ ⟨n, x, z, p⟩ g k (cjX ⟨n, x, z, p⟩ g k (cjN ⟨n, x, z, p⟩ g k))) = true ∧ (cjZ ⟨n, x, z, p⟩ g k (cjX ⟨n, x, z, p⟩ g k (cjN ⟨n, x, z, p⟩ g k))).n = n) ∧ ∀ (f : Nat → Zw) (j : Nat), j < 2 ^ n → ap1 g (opP (loP n x z p (k + 1)) f) j = opP (cjZ ⟨n, x, z, p⟩ g k (cjX ⟨n, x, z, p⟩ g k (cjN ⟨n, x, z, p⟩ g k))) (ap1 g f) j
  generalize cjX ⟨n, x, z, p⟩ g k (cjN ⟨n, x, z, p⟩ g k) = o at *
  unfold cjZ
  simp only
  cases hb : bitI z k
  ·refine ⟨⟨j1, j2⟩, fun f j hj => ?_⟩
   rw [hstep f j hj, j3 _ j hj]
   rw [hb]
   rfl
  ·rw [if_pos rfl, mulR_is j1 z1 (j2.trans z2.symm)]
   obtain ⟨m1, m2⟩ := mulP_ok j1 z1 (j2.trans z2.symm)
   refine ⟨⟨m1, m2.trans j2⟩, fun f j hj => ?_⟩
   rw [hstep f j hj, j3 _ j hj, opP_mul j1 z1 (j2.trans z2.symm) _ j (by omega), hb]
   exact opP_cong j1 j2 (fun t ht => (gen_any hv hc hkn f t ht).2) j hj
theorem carry {g : Gt} {P : Pa} {n : Nat} (hn : P.n = n) (hk : cjOk P g = true) : (vPa (cj P g) = true ∧ (cj P g).n = n) ∧ ∀ (f : Nat → Zw) (j : Nat), j < 2 ^ n → ap1 g (opP P f) j = opP (cj P g) (ap1 g f) j := by
 have hk0 := hk
 unfold cjOk at hk
 simp only [Bool.and_eq_true] at hk
 obtain ⟨⟨hP, hv⟩, hc⟩ := hk
 obtain ⟨m, x, z, p, rfl, m1, m4, hx, hz, hp⟩ := vPa_nat hP
 simp only at hn hv
 obtain rfl : m = n := by omega
 obtain ⟨h1, h2⟩ := carry_low m1 m4 hx hz hp hv hc m (Nat.le_refl _)
 unfold cj
 rw [if_pos hk0]
 show (vPa (cjN ⟨m, x, z, p⟩ g (m : Int).toNat) = true ∧ (cjN ⟨m, x, z, p⟩ g (m : Int).toNat).n = m) ∧ _
 rw [Int.toNat_natCast]
 refine ⟨h1, fun f j hj => ?_⟩
 have e : loP m x z p m = ⟨m, x, z, p⟩ := by
  unfold loP
  rw [Nat.mod_eq_of_lt hx, Nat.mod_eq_of_lt hz]
 rw [← h2 f j hj, e]
/-- The rows of a tableau are where the gates carry the generators. -/
def carL (gs : List Gt) (P : Pa) : Pa := gs.foldl cj P
theorem carry_all {n : Nat} : ∀ (gs : List Gt) (P : Pa), vPa P = true → P.n = n → (∀ g ∈ gs, vg g n = true ∧ cliff g = true) → (vPa (carL gs P) = true ∧ (carL gs P).n = n) ∧ ∀ (f : Nat → Zw) (j : Nat), j < 2 ^ n → apG gs (opP P f) j = opP (carL gs P) (apG gs f) j
 | [], P, hP, hn, _ => ⟨⟨hP, hn⟩, fun f j hj => rfl⟩
 | g :: gs, P, hP, hn, hg => by
  obtain ⟨g1, g2⟩ := hg g (List.mem_cons_self ..)
  have hk : cjOk P g = true := by
   unfold cjOk
   rw [hP, hn, g1, g2]
   rfl
  obtain ⟨⟨c1, c2⟩, c3⟩ := carry hn hk
  obtain ⟨i1, i2⟩ := carry_all gs (cj P g) c1 c2 (fun g' h' => hg g' (List.mem_cons_of_mem _ h'))
  refine ⟨i1, fun f j hj => ?_⟩
  show apG gs (ap1 g (opP P f)) j = _
  rw [apG_cong (fun g' h' => (hg g' (List.mem_cons_of_mem _ h')).1) (fun t ht => c3 f t ht) j hj]
  exact i2 (ap1 g f) j hj
theorem tabN_rows {n : Nat} : ∀ (gs : List Gt) (t rs : List Pa), (∀ p ∈ t, p.n = n) → t ≠ [] → gs.foldl (fun t g => t.bind fun rs => tabG n rs g) (some t) = some rs → rs = t.map (carL gs) ∧ ∀ g ∈ gs, vg g n = true ∧ cliff g = true
 | [], t, rs, _, _, h => by
  obtain rfl := Option.some.inj h
  refine ⟨?_, fun g hg => (List.not_mem_nil hg).elim⟩
  have e : carL [] = id := rfl
  rw [e, List.map_id]
 | g :: gs, t, rs, ht, hne, h => by
  have hg : tabG n t g = some (t.map fun p => cj p g) ∧ (t.all fun p => cjOk p g) = true := by
   have h2 : gs.foldl (fun t g => t.bind fun rs => tabG n rs g) (tabG n t g) = some rs := h
   unfold tabG at h2 ⊢
   split at h2
   ·rename_i hc
    rw [if_pos hc]
    rw [Bool.and_eq_true] at hc
    exact ⟨rfl, hc.2⟩
   ·exfalso
    have hN : ∀ gs : List Gt, gs.foldl (fun t g => t.bind fun rs => tabG n rs g) (none : Option (List Pa)) = none := by
     intro gs
     induction gs with
     | nil => rfl
     | cons g gs ih => exact ih
    have h3 := hN gs
    unfold tabG at h3
    rw [h3] at h2
    cases h2
  have h2 : gs.foldl (fun t g => t.bind fun rs => tabG n rs g) (tabG n t g) = some rs := h
  rw [hg.1] at h2
  have hok := List.all_eq_true.1 hg.2
  obtain ⟨i1, i2⟩ := tabN_rows gs (t.map fun p => cj p g) rs (fun p hp => by
   obtain ⟨p', hp', rfl⟩ := List.mem_map.1 hp
   exact (carry (ht p' hp') (hok p' hp')).1.2) (by
    intro e
    exact hne (List.map_eq_nil_iff.1 e)) h2
  refine ⟨?_, fun g' hg' => ?_⟩
  ·rw [i1, List.map_map]
   rfl
  ·rcases List.mem_cons.1 hg' with rfl | hg'
   ·obtain ⟨p, r, rfl⟩ := List.exists_cons_of_ne_nil hne
    have h4 := hok p (List.mem_cons_self ..)
    unfold cjOk at h4
    simp only [Bool.and_eq_true] at h4
    rw [ht p (List.mem_cons_self ..)] at h4
    exact ⟨h4.1.2, h4.2⟩
   ·exact i2 g' hg'
end Go.Proofs.YtioimnplhmgbgaaGreat
/-
 Helper text (no claim of its own): what H makes of a state whose sums are near.
-/
namespace Go.Proofs.YtioimnplhmgbgaaGreat
open Go.ChangeShapes Go.WideShapes Go.ChangeAt Go.RowKit Go.Deep
set_option linter.unusedVariables false
set_option linter.unusedSimpArgs false
/-- What H makes of a state whose sums are near. -/
theorem acts_h2 {n K : Nat} {M : Int} {vs : List Dw} {a b c : Nat} (hn : 1 ≤ n ∧ n ≤ 4) (ha : a < n) (hg : vg ⟨4, a, b, c⟩ n = true) (hs : St n K M vs) (hK : K ≤ 59) (hM : 0 ≤ M ∧ M ≤ 1073741824)
  (hS : ∀ j, j < 2 ^ n → near 1073741824 (zadd (Lf K vs (qlo j a)) (rot (sgnH j a) (Lf K vs (qhi j a))))) :
  ∃ us, Acts (2 ^ n) ⟨4, a, b, c⟩ vs us ∧ St n (K + 1) 1073741824 us ∧ ∀ j, j < 2 ^ n → Lf (K + 1) us j = zadd (Lf K vs (qlo j a)) (rot (sgnH j a) (Lf K vs (qhi j a))) := by
 have hfa := fun {i : Nat} (hi : i < 2 ^ n) => h_facts hn.2 ha hi
 have hnL : ∀ {i : Nat}, i < 2 ^ n → near M (Lf K vs i) := fun hi => by
  obtain ⟨x, x1, x2, x3, x4, x5⟩ := hs.get hi
  rw [x5]; exact x4
 have hs8 : ∀ j, sgnH j a < 8 := fun j => by have := sgnH_or j a; omega
 -- the place of the step that sends from s to j
 let kj : Nat → Nat := fun j => if bt j a then 1 else 0
 let pl : Nat → Nat → Nat → Nat → Bool := fun i t j s => decide (j < 2 ^ n ∧ 2 * s + kj j < 2 * i + t)
 let c1 : Nat → Nat → Nat → Zw := fun i t j => if pl i t j (qlo j a) then Lf K vs (qlo j a) else z0
 let c2 : Nat → Nat → Nat → Zw := fun i t j => if pl i t j (qhi j a) then rot (sgnH j a) (Lf K vs (qhi j a)) else z0
 have hkj : ∀ j, kj j ≤ 1 := fun j => by show (if bt j a then 1 else 0) ≤ 1; split <;> omega
 have hb1 : ∀ i t j, near M (c1 i t j) := fun i t j => by
  show near M (if pl i t j (qlo j a) then Lf K vs (qlo j a) else z0)
  split
  ·rename_i h
   exact hnL (hfa (of_decide_eq_true h).1).1
  ·exact near_z0 hM.1
 have hb2 : ∀ i t j, near M (c2 i t j) := fun i t j => by
  show near M (if pl i t j (qhi j a) then rot (sgnH j a) (Lf K vs (qhi j a)) else z0)
  split
  ·rename_i h
   exact rot_near (hs8 j) (hnL (hfa (of_decide_eq_true h).1).2.1)
  ·exact near_z0 hM.1
 have hcb : ∀ i t j, near 1073741824 (zadd (c1 i t j) (c2 i t j)) := fun i t j => by
  have e1 := near_le (hb1 i t j) hM.2
  have e2 := near_le (hb2 i t j) hM.2
  cases h1 : pl i t j (qlo j a)
  ·have : c1 i t j = z0 := if_neg (by rw [h1]; simp)
   rw [this, z0_zadd]; exact e2
  ·cases h2 : pl i t j (qhi j a)
   ·have : c2 i t j = z0 := if_neg (by rw [h2]; simp)
    rw [this, zadd_z0]; exact e1
   ·have g1 : c1 i t j = Lf K vs (qlo j a) := if_pos h1
    have g2 : c2 i t j = rot (sgnH j a) (Lf K vs (qhi j a)) := if_pos h2
    rw [g1, g2]
    exact hS j (of_decide_eq_true h1).1
 have hpl : ∀ {i t i' t' j s : Nat}, (2 * s + kj j < 2 * i + t ↔ 2 * s + kj j < 2 * i' + t') → pl i t j s = pl i' t' j s := fun h => by
  show decide _ = decide _
  rw [decide_eq_decide]
  exact and_congr_right fun _ => h
 have hne : ∀ {j}, j < 2 ^ n → qlo j a ≠ qhi j a := fun hj e => by
  have h1 := (hfa hj).2.2.2.2.2.2.1
  have h2 := (hfa hj).2.2.2.2.2.2.2.1
  rw [e, h2] at h1
  cases h1
 have hrun := run_of (K' := K + 1) (g := ⟨4, a, b, c⟩) hs (by omega) (fun i t j => zadd (c1 i t j) (c2 i t j)) (fun j hj => by
   have h1 : c1 0 0 j = z0 := if_neg (by show ¬ (decide _ = true); rw [decide_eq_true_eq]; omega)
   have h2 : c2 0 0 j = z0 := if_neg (by show ¬ (decide _ = true); rw [decide_eq_true_eq]; omega)
   show zadd (c1 0 0 j) (c2 0 0 j) = z0
   rw [h1, h2, zadd_z0]) (fun i hi hz j hj => by
   have h1 : c1 (i + 1) 0 j = c1 i 0 j := by
    by_cases e : qlo j a = i
    ·have hz1 : Lf K vs (qlo j a) = z0 := by rw [e]; exact hz
     show (if pl (i + 1) 0 j (qlo j a) then Lf K vs (qlo j a) else z0) = if pl i 0 j (qlo j a) then Lf K vs (qlo j a) else z0
     rw [hz1]; split <;> split <;> rfl
    ·show (if pl (i + 1) 0 j (qlo j a) then Lf K vs (qlo j a) else z0) = if pl i 0 j (qlo j a) then Lf K vs (qlo j a) else z0
     rw [hpl (i := i + 1) (t := 0) (i' := i) (t' := 0) (by have := hkj j; omega)]
   have h2 : c2 (i + 1) 0 j = c2 i 0 j := by
    by_cases e : qhi j a = i
    ·have hz1 : rot (sgnH j a) (Lf K vs (qhi j a)) = z0 := by rw [e, hz]; exact rot_z0 (hs8 j)
     show (if pl (i + 1) 0 j (qhi j a) then rot (sgnH j a) (Lf K vs (qhi j a)) else z0) = if pl i 0 j (qhi j a) then rot (sgnH j a) (Lf K vs (qhi j a)) else z0
     rw [hz1]; split <;> split <;> rfl
    ·show (if pl (i + 1) 0 j (qhi j a) then rot (sgnH j a) (Lf K vs (qhi j a)) else z0) = if pl i 0 j (qhi j a) then rot (sgnH j a) (Lf K vs (qhi j a)) else z0
     rw [hpl (i := i + 1) (t := 0) (i' := i) (t' := 0) (by have := hkj j; omega)]
   show zadd (c1 (i + 1) 0 j) (c2 (i + 1) 0 j) = zadd (c1 i 0 j) (c2 i 0 j)
   rw [h1, h2]) (fun i t s x hi hst hx => by
   rw [sent_h rfl] at hst
   obtain ⟨y, y1, y2, y3, y4, y5⟩ := hs.get hi
   rw [hx] at y1
   obtain rfl := Option.some.inj y1
   obtain ⟨f1, f2, f3, f4, f5, f6, f7, f8, f9⟩ := hfa hi
   have ht : t < 2 := by have := (List.getElem?_eq_some_iff.1 hst).1; simpa using this
   rcases (show t = 0 ∨ t = 1 by omega) with rfl | rfl
   ·obtain rfl := Option.some.inj hst
    refine ⟨f1, _, mulOk_h (Or.inl rfl) y2 y3 hK, near_le (rot_near (by omega) y4) (by omega), fun j hj => ?_⟩
    show zadd (c1 i 1 j) (c2 i 1 j) = if j = qlo i a then zadd (zadd (c1 i 0 j) (c2 i 0 j)) (rot 0 (lift K x)) else zadd (c1 i 0 j) (c2 i 0 j)
    rw [rot_0]
    by_cases hji : j = qlo i a
    ·rw [if_pos hji]
     have hk0 : kj j = 0 := by show (if bt j a then 1 else 0) = 0; rw [hji, f7]; rfl
     have hsg : sgnH j a = 0 := by unfold sgnH; rw [hji, f7]; rfl
     have hlo : qlo j a = qlo i a := by rw [hji]; exact f3
     have hhi : qhi j a = qhi i a := by rw [hji]; exact f4
     by_cases hbi : bt i a = true
     ·rw [if_pos hbi] at f9
      have h1 : c1 i 1 j = c1 i 0 j := by
       show (if pl i 1 j (qlo j a) then Lf K vs (qlo j a) else z0) = if pl i 0 j (qlo j a) then Lf K vs (qlo j a) else z0
       rw [hpl (i := i) (t := 1) (i' := i) (t' := 0) (by rw [hk0, hlo]; have := hne hi; omega)]
      have h2 : c2 i 1 j = rot 0 (lift K x) := by
       show (if pl i 1 j (qhi j a) then rot (sgnH j a) (Lf K vs (qhi j a)) else z0) = _
       rw [if_pos (by show decide _ = true; rw [decide_eq_true_eq, hk0, hhi, ← f9]; omega), hsg, hhi, ← f9, y5]
      have h3 : c2 i 0 j = z0 := by
       show (if pl i 0 j (qhi j a) then rot (sgnH j a) (Lf K vs (qhi j a)) else z0) = _
       rw [if_neg (by show ¬ (decide _ = true); rw [decide_eq_true_eq, hk0, hhi, ← f9]; omega)]
      rw [h1, h2, h3, zadd_z0, rot_0]
     ·rw [if_neg hbi] at f9
      have h1 : c1 i 1 j = lift K x := by
       show (if pl i 1 j (qlo j a) then Lf K vs (qlo j a) else z0) = _
       rw [if_pos (by show decide _ = true; rw [decide_eq_true_eq, hk0, hlo, ← f9]; omega), hlo, ← f9, y5]
      have h3 : c1 i 0 j = z0 := by
       show (if pl i 0 j (qlo j a) then Lf K vs (qlo j a) else z0) = _
       rw [if_neg (by show ¬ (decide _ = true); rw [decide_eq_true_eq, hk0, hlo, ← f9]; omega)]
      have h2 : c2 i 1 j = c2 i 0 j := by
       show (if pl i 1 j (qhi j a) then rot (sgnH j a) (Lf K vs (qhi j a)) else z0) = if pl i 0 j (qhi j a) then rot (sgnH j a) (Lf K vs (qhi j a)) else z0
       rw [hpl (i := i) (t := 1) (i' := i) (t' := 0) (by rw [hk0, hhi]; have := hne hi; omega)]
      rw [h1, h2, h3, z0_zadd]
      apply Zw.eq <;> simp only [zadd] <;> omega
    ·rw [if_neg hji]
     have hcase : ∀ s, (s = qlo j a ∨ s = qhi j a) → (2 * s + kj j < 2 * i + 1 ↔ 2 * s + kj j < 2 * i + 0) := fun s hs => by
      have hk := hkj j
      by_cases e : s = i
      ·have hkk : kj j = 1 := by
        rcases (show kj j = 0 ∨ kj j = 1 by omega) with h | h
        ·exfalso
         apply hji
         have hbj : bt j a = false := by
          cases hb : bt j a
          ·rfl
          ·have : kj j = 1 := by show (if bt j a then 1 else 0) = 1; rw [hb]; rfl
           omega
         obtain ⟨g1, g2, g3, g4, g5, g6, g7, g8, g9⟩ := hfa hj
         rw [hbj] at g9
         rw [if_neg (by decide)] at g9
         rcases hs with hs | hs
         ·rw [← e, hs, g3]; exact g9
         ·rw [← e, hs, g5]; exact g9
        ·exact h
       omega
      ·omega
     have h1 : c1 i 1 j = c1 i 0 j := by
      show (if pl i 1 j (qlo j a) then Lf K vs (qlo j a) else z0) = if pl i 0 j (qlo j a) then Lf K vs (qlo j a) else z0
      rw [hpl (i := i) (t := 1) (i' := i) (t' := 0) (hcase _ (Or.inl rfl))]
     have h2 : c2 i 1 j = c2 i 0 j := by
      show (if pl i 1 j (qhi j a) then rot (sgnH j a) (Lf K vs (qhi j a)) else z0) = if pl i 0 j (qhi j a) then rot (sgnH j a) (Lf K vs (qhi j a)) else z0
      rw [hpl (i := i) (t := 1) (i' := i) (t' := 0) (hcase _ (Or.inr rfl))]
     rw [h1, h2]
   ·obtain rfl := Option.some.inj hst
    have hsi : (if bt i a then 4 else 0) = 0 ∨ (if bt i a then 4 else 0) = 4 := by split <;> simp
    refine ⟨f2, _, mulOk_h hsi y2 y3 hK, near_le (rot_near (by omega) y4) (by omega), fun j hj => ?_⟩
    show zadd (c1 i 2 j) (c2 i 2 j) = if j = qhi i a then zadd (zadd (c1 i 1 j) (c2 i 1 j)) (rot (sgnH i a) (lift K x)) else zadd (c1 i 1 j) (c2 i 1 j)
    by_cases hji : j = qhi i a
    ·rw [if_pos hji]
     have hk0 : kj j = 1 := by show (if bt j a then 1 else 0) = 1; rw [hji, f8]; rfl
     have hsg : sgnH j a = 4 := by unfold sgnH; rw [hji, f8]; rfl
     have hlo : qlo j a = qlo i a := by rw [hji]; exact f5
     have hhi : qhi j a = qhi i a := by rw [hji]; exact f6
     by_cases hbi : bt i a = true
     ·rw [if_pos hbi] at f9
      have hsi4 : sgnH i a = 4 := by unfold sgnH; rw [hbi]; rfl
      have h1 : c1 i 2 j = c1 i 1 j := by
       show (if pl i 2 j (qlo j a) then Lf K vs (qlo j a) else z0) = if pl i 1 j (qlo j a) then Lf K vs (qlo j a) else z0
       rw [hpl (i := i) (t := 2) (i' := i) (t' := 1) (by rw [hk0, hlo]; have := hne hi; omega)]
      have h2 : c2 i 2 j = rot 4 (lift K x) := by
       show (if pl i 2 j (qhi j a) then rot (sgnH j a) (Lf K vs (qhi j a)) else z0) = _
       rw [if_pos (by show decide _ = true; rw [decide_eq_true_eq, hk0, hhi, ← f9]; omega), hsg, hhi, ← f9, y5]
      have h3 : c2 i 1 j = z0 := by
       show (if pl i 1 j (qhi j a) then rot (sgnH j a) (Lf K vs (qhi j a)) else z0) = _
       rw [if_neg (by show ¬ (decide _ = true); rw [decide_eq_true_eq, hk0, hhi, ← f9]; omega)]
      rw [h1, h2, h3, zadd_z0, hsi4]
     ·rw [if_neg hbi] at f9
      have hsi0 : sgnH i a = 0 := by unfold sgnH; rw [if_neg hbi]
      have h1 : c1 i 2 j = lift K x := by
       show (if pl i 2 j (qlo j a) then Lf K vs (qlo j a) else z0) = _
       rw [if_pos (by show decide _ = true; rw [decide_eq_true_eq, hk0, hlo, ← f9]; omega), hlo, ← f9, y5]
      have h3 : c1 i 1 j = z0 := by
       show (if pl i 1 j (qlo j a) then Lf K vs (qlo j a) else z0) = _
       rw [if_neg (by show ¬ (decide _ = true); rw [decide_eq_true_eq, hk0, hlo, ← f9]; omega)]
      have h2 : c2 i 2 j = c2 i 1 j := by
       show (if pl i 2 j (qhi j a) then rot (sgnH j a) (Lf K vs (qhi j a)) else z0) = if pl i 1 j (qhi j a) then rot (sgnH j a) (Lf K vs (qhi j a)) else z0
       rw [hpl (i := i) (t := 2) (i' := i) (t' := 1) (by rw [hk0, hhi]; have := hne hi; omega)]
      rw [h1, h2, h3, z0_zadd, hsi0, rot_0]
      apply Zw.eq <;> simp only [zadd] <;> omega
    ·rw [if_neg hji]
     have hcase : ∀ s, (s = qlo j a ∨ s = qhi j a) → (2 * s + kj j < 2 * i + 2 ↔ 2 * s + kj j < 2 * i + 1) := fun s hs => by
      have hk := hkj j
      by_cases e : s = i
      ·have hkk : kj j = 0 := by
        rcases (show kj j = 0 ∨ kj j = 1 by omega) with h | h
        ·exact h
        ·exfalso
         apply hji
         have hbj : bt j a = true := by
          cases hb : bt j a
          ·have : kj j = 0 := by show (if bt j a then 1 else 0) = 0; rw [hb]; rfl
           omega
          ·rfl
         obtain ⟨g1, g2, g3, g4, g5, g6, g7, g8, g9⟩ := hfa hj
         rw [if_pos hbj] at g9
         rcases hs with hs | hs
         ·rw [← e, hs, g4]; exact g9
         ·rw [← e, hs, g6]; exact g9
       omega
      ·omega
     have h1 : c1 i 2 j = c1 i 1 j := by
      show (if pl i 2 j (qlo j a) then Lf K vs (qlo j a) else z0) = if pl i 1 j (qlo j a) then Lf K vs (qlo j a) else z0
      rw [hpl (i := i) (t := 2) (i' := i) (t' := 1) (hcase _ (Or.inl rfl))]
     have h2 : c2 i 2 j = c2 i 1 j := by
      show (if pl i 2 j (qhi j a) then rot (sgnH j a) (Lf K vs (qhi j a)) else z0) = if pl i 1 j (qhi j a) then rot (sgnH j a) (Lf K vs (qhi j a)) else z0
      rw [hpl (i := i) (t := 2) (i' := i) (t' := 1) (hcase _ (Or.inr rfl))]
     rw [h1, h2]) (fun i hi j hj => by
   rw [sent_h rfl]
   show zadd (c1 (i + 1) 0 j) (c2 (i + 1) 0 j) = zadd (c1 i 2 j) (c2 i 2 j)
   have h1 : c1 (i + 1) 0 j = c1 i 2 j := by
    show (if pl (i + 1) 0 j (qlo j a) then Lf K vs (qlo j a) else z0) = if pl i 2 j (qlo j a) then Lf K vs (qlo j a) else z0
    rw [hpl (i := i + 1) (t := 0) (i' := i) (t' := 2) (by omega)]
   have h2 : c2 (i + 1) 0 j = c2 i 2 j := by
    show (if pl (i + 1) 0 j (qhi j a) then rot (sgnH j a) (Lf K vs (qhi j a)) else z0) = if pl i 2 j (qhi j a) then rot (sgnH j a) (Lf K vs (qhi j a)) else z0
    rw [hpl (i := i + 1) (t := 0) (i' := i) (t' := 2) (by omega)]
   rw [h1, h2]) (fun i t j => hcb i t j)
 have hcn : ∀ j, j < 2 ^ n → zadd (c1 (2 ^ n) 0 j) (c2 (2 ^ n) 0 j) = zadd (Lf K vs (qlo j a)) (rot (sgnH j a) (Lf K vs (qhi j a))) := fun j hj => by
  have hk := hkj j
  have h1 : c1 (2 ^ n) 0 j = Lf K vs (qlo j a) := if_pos (by show decide _ = true; rw [decide_eq_true_eq]; have := (hfa hj).1; omega)
  have h2 : c2 (2 ^ n) 0 j = rot (sgnH j a) (Lf K vs (qhi j a)) := if_pos (by show decide _ = true; rw [decide_eq_true_eq]; have := (hfa hj).2.1; omega)
  rw [h1, h2]
 refine ⟨(List.range (2 ^ n)).map fun j => cano (K + 1) (zadd (c1 (2 ^ n) 0 j) (c2 (2 ^ n) 0 j)), fun A cap w hr => ?_, ⟨by rw [List.length_map, List.length_range], fun x hx => ?_⟩, fun j hj => ?_⟩
 ·have h := ApplyGate_run hn.1 hn.2 ⟨4, a, b, c⟩ hg A cap vs w (by rw [hs.len]; exact hr) hs.len (fun x hx => (hs.ok x hx).1) _ hrun (fun i t => by rw [List.length_map, List.length_range, hs.len])
  rw [hs.len] at h
  exact h
 ·obtain ⟨j, -, rfl⟩ := List.mem_map.1 hx
  obtain ⟨h1, h2, h3⟩ := cano_is (hcb (2 ^ n) 0 j) (show K + 1 ≤ 60 by omega)
  exact ⟨h1, h2, by rw [h3]; exact hcb _ _ _⟩
 ·unfold Lf
  rw [List.getD_eq_getElem?_getD, List.getElem?_map, List.getElem?_range hj]
  show lift (K + 1) (cano (K + 1) (zadd (c1 (2 ^ n) 0 j) (c2 (2 ^ n) 0 j))) = _
  rw [(cano_is (hcb (2 ^ n) 0 j) (show K + 1 ≤ 60 by omega)).2.2]
  exact hcn j hj
end Go.Proofs.YtioimnplhmgbgaaGreat
/-
 Helper text (no claim of its own): the norm of a state is kept by gates (plain Lean).
-/
namespace Go.Proofs.YtioimnplhmgbgaaGreat
open Go.ChangeShapes Go.WideShapes Go.ChangeAt Go.RowKit Go.Deep
set_option linter.unusedVariables false
set_option linter.unusedSimpArgs false
/-- The two parts of the square of an amplitude's size. -/
def nS (u : Zw) : Int := u.a * u.a + u.b * u.b + u.c * u.c + u.d * u.d
def nC (u : Zw) : Int := u.a * u.b + u.b * u.c + u.c * u.d - u.d * u.a
theorem nS_rot {i : Nat} (hi : i < 8) (u : Zw) : nS (rot i u) = nS u := by
 obtain ⟨a, b, c, d⟩ := u
 rcases lt8 hi with rfl | rfl | rfl | rfl | rfl | rfl | rfl | rfl <;> simp only [nS, rot, zmul, zw] <;> grind
theorem nC_rot {i : Nat} (hi : i < 8) (u : Zw) : nC (rot i u) = nC u := by
 obtain ⟨a, b, c, d⟩ := u
 rcases lt8 hi with rfl | rfl | rfl | rfl | rfl | rfl | rfl | rfl <;> simp only [nC, rot, zmul, zw] <;> grind
theorem nS_pm (x y : Zw) : nS (zadd x y) + nS (zadd x (rot 4 y)) = 2 * nS x + 2 * nS y := by
 obtain ⟨a, b, c, d⟩ := x
 obtain ⟨a', b', c', d'⟩ := y
 simp only [nS, zadd, rot, zmul, zw]
 grind
theorem nC_pm (x y : Zw) : nC (zadd x y) + nC (zadd x (rot 4 y)) = 2 * nC x + 2 * nC y := by
 obtain ⟨a, b, c, d⟩ := x
 obtain ⟨a', b', c', d'⟩ := y
 simp only [nC, zadd, rot, zmul, zw]
 grind
theorem nS_zrt (x : Zw) : nS (zrt x) = 2 * nS x := by
 obtain ⟨a, b, c, d⟩ := x
 simp only [nS, zrt]
 grind
theorem nC_zrt (x : Zw) : nC (zrt x) = 2 * nC x := by
 obtain ⟨a, b, c, d⟩ := x
 simp only [nC, zrt]
 grind
/-- A sum over a list. -/
def sumL (l : List Nat) (F : Nat → Int) : Int := (l.map F).foldr (· + ·) 0
theorem sumL_nil (F : Nat → Int) : sumL [] F = 0 := rfl
theorem sumL_cons (x : Nat) (l : List Nat) (F : Nat → Int) : sumL (x :: l) F = F x + sumL l F := rfl
theorem sumL_app (l m : List Nat) (F : Nat → Int) : sumL (l ++ m) F = sumL l F + sumL m F := by
 induction l with
 | nil => rw [List.nil_append, sumL_nil, Int.zero_add]
 | cons x l ih => rw [List.cons_append, sumL_cons, sumL_cons, ih, Int.add_assoc]
theorem sumL_perm {l m : List Nat} (h : l.Perm m) (F : Nat → Int) : sumL l F = sumL m F := by
 induction h with
 | nil => rfl
 | cons x _ ih => rw [sumL_cons, sumL_cons, ih]
 | swap x y l => rw [sumL_cons, sumL_cons, sumL_cons, sumL_cons]; omega
 | trans _ _ i1 i2 => rw [i1, i2]
theorem sumL_map (l : List Nat) (g : Nat → Nat) (F : Nat → Int) : sumL (l.map g) F = sumL l fun i => F (g i) := by
 unfold sumL
 rw [List.map_map]
 rfl
theorem sumL_cong {l : List Nat} {F G : Nat → Int} (h : ∀ x ∈ l, F x = G x) : sumL l F = sumL l G := by
 unfold sumL
 rw [List.map_congr_left h]
theorem sumL_add (l : List Nat) (F G : Nat → Int) : sumL l (fun i => F i + G i) = sumL l F + sumL l G := by
 induction l with
 | nil => rfl
 | cons x l ih => rw [sumL_cons, sumL_cons, sumL_cons, ih]; omega
theorem sumL_two (l : List Nat) (F : Nat → Int) : sumL l (fun i => 2 * F i) = 2 * sumL l F := by
 induction l with
 | nil => rfl
 | cons x l ih => rw [sumL_cons, sumL_cons, ih]; omega
theorem sumL_nonneg {l : List Nat} {F : Nat → Int} (h : ∀ x ∈ l, 0 ≤ F x) : 0 ≤ sumL l F := by
 induction l with
 | nil => exact Int.le_refl 0
 | cons x l ih =>
  rw [sumL_cons]
  have h1 := h x (List.mem_cons_self ..)
  have h2 := ih fun y hy => h y (List.mem_cons_of_mem _ hy)
  omega
theorem sumL_ge {l : List Nat} {F : Nat → Int} (h : ∀ x ∈ l, 0 ≤ F x) {y : Nat} (hy : y ∈ l) : F y ≤ sumL l F := by
 induction l with
 | nil => exact (List.not_mem_nil hy).elim
 | cons x l ih =>
  rw [sumL_cons]
  have h2 := sumL_nonneg fun z hz => h z (List.mem_cons_of_mem x hz)
  rcases List.mem_cons.1 hy with rfl | hy
  ·omega
  ·have h1 := h x (List.mem_cons_self ..)
   have h3 := ih (fun z hz => h z (List.mem_cons_of_mem _ hz)) hy
   omega
theorem chk_perm : (List.range 5).all (fun n => (List.range n).all fun a => (List.range n).all fun b => (List.range n).all fun c => kindsN.all fun k => !fineN k a b c || ((List.range (2 ^ n)).map (sgN k a b c)).isPerm (List.range (2 ^ n))) = true := by kernel_rfl
def loL (n a : Nat) : List Nat := (List.range (2 ^ n)).filter fun j => !bt j a
theorem chk_half : (List.range 5).all (fun n => (List.range n).all fun a => (loL n a ++ (loL n a).map fun j => qhi j a).isPerm (List.range (2 ^ n))) = true := by kernel_rfl
theorem sg_perm {n k a b c : Nat} (hn : n ≤ 4) (hk : k ∈ kindsN) (ha : a < n) (hb : b < n) (hc : c < n) (hf : fineN k a b c = true) : ((List.range (2 ^ n)).map (sgN k a b c)).Perm (List.range (2 ^ n)) := by
 have h1 := List.all_eq_true.1 (of_all (of_all (of_all (of_all chk_perm (show n < 5 by omega)) ha) hb) hc) k hk
 rw [hf, Bool.not_true, Bool.false_or] at h1
 exact List.isPerm_iff.1 h1
theorem half_perm {n a : Nat} (hn : n ≤ 4) (ha : a < n) : (loL n a ++ (loL n a).map fun j => qhi j a).Perm (List.range (2 ^ n)) := by
 have h1 := of_all (of_all chk_half (show n < 5 by omega)) ha
 exact List.isPerm_iff.1 h1
/-- The sum over all places. -/
def sumN (F : Zw → Int) (n : Nat) (f : Nat → Zw) : Int := sumL (List.range (2 ^ n)) fun j => F (f j)
theorem sumN_cong {F : Zw → Int} {n : Nat} {f h : Nat → Zw} (he : ∀ j, j < 2 ^ n → f j = h j) : sumN F n f = sumN F n h := sumL_cong fun j hj => by rw [he j (List.mem_range.1 hj)]
/-- A gate keeps the norm (H: times two). -/
theorem norm_one {F : Zw → Int} (hr : ∀ i, i < 8 → ∀ u, F (rot i u) = F u) (hp : ∀ x y, F (zadd x y) + F (zadd x (rot 4 y)) = 2 * F x + 2 * F y) {g : Gt} {n : Nat} (hg : vg g n = true) (f : Nat → Zw) : sumN F n (ap1 g f) = 2 ^ hct g * sumN F n f := by
 obtain ⟨k, a, b, c, rfl, hn, hk, ha, hb, hc, hf⟩ := vg_nat hg
 rcases hk with rfl | hk
 ·rw [show (⟨((4 : Nat) : Int), a, b, c⟩ : Gt) = ⟨4, a, b, c⟩ from rfl, show hct (⟨4, a, b, c⟩ : Gt) = 1 from rfl]
  unfold sumN
  rw [← sumL_perm (half_perm hn.2 ha), ← sumL_perm (half_perm hn.2 ha), sumL_app, sumL_app, sumL_map, sumL_map, ← sumL_add, ← sumL_add]
  show _ = 2 * _
  rw [← sumL_two]
  refine sumL_cong fun j hj => ?_
  have hj2 := List.mem_filter.1 hj
  have hjn := List.mem_range.1 hj2.1
  have hjb : bt j a = false := by simpa using hj2.2
  obtain ⟨f1, f2, f3, f4, f5, f6, f7, f8, f9⟩ := h_facts hn.2 ha hjn
  rw [hjb] at f9
  simp only [Bool.false_eq_true, if_false] at f9
  rw [ap1_4, ap1_4, f5, f6, ← f9]
  have s0 : sgnH j a = 0 := by unfold sgnH; rw [hjb]; rfl
  have s4 : sgnH (qhi j a) a = 4 := by unfold sgnH; rw [f8]; rfl
  rw [s0, s4, rot_0, hp]
  omega
 ·rw [hct_p hk]
  unfold sumN
  rw [← sumL_perm (sg_perm hn.2 hk ha hb hc hf) (fun j => F (f j)), sumL_map]
  show _ = 1 * _
  rw [Int.one_mul]
  refine sumL_cong fun j hj => ?_
  rw [ap1_p hk]
  exact hr _ (sg_facts hn.2 hk ha hb hc hf (sg_facts hn.2 hk ha hb hc hf (List.mem_range.1 hj)).1).2.2.1 _
theorem norm_all {F : Zw → Int} (hr : ∀ i, i < 8 → ∀ u, F (rot i u) = F u) (hp : ∀ x y, F (zadd x y) + F (zadd x (rot 4 y)) = 2 * F x + 2 * F y) {n : Nat} : ∀ (gs : List Gt) (f : Nat → Zw), (∀ g ∈ gs, vg g n = true) → sumN F n (apG gs f) = 2 ^ hcs gs * sumN F n f
 | [], f, _ => by show _ = 1 * _; rw [Int.one_mul]; rfl
 | g :: gs, f, h => by
  show sumN F n (apG gs (ap1 g f)) = _
  rw [norm_all hr hp gs (ap1 g f) fun g' h' => h g' (List.mem_cons_of_mem _ h'), norm_one hr hp (h g (List.mem_cons_self ..)), hcs_cons, Int.pow_add, Int.mul_left_comm, Int.mul_assoc]
theorem sq_nonneg (a : Int) : 0 ≤ a * a := by
 rcases Int.le_total 0 a with h | h
 ·exact Int.mul_nonneg h h
 ·have := Int.mul_nonneg (a := -a) (b := -a) (by omega) (by omega)
  rw [Int.neg_mul_neg] at this
  exact this
theorem nS_nonneg (u : Zw) : 0 ≤ nS u := by
 unfold nS
 have h1 := sq_nonneg u.a
 have h2 := sq_nonneg u.b
 have h3 := sq_nonneg u.c
 have h4 := sq_nonneg u.d
 omega
theorem sq_le {a M : Int} (h0 : 0 < M) (h : a * a ≤ M * M) : -M ≤ a ∧ a ≤ M := by
 constructor
 ·rcases (show a < -M ∨ -M ≤ a by omega) with h1 | h1
  ·exfalso
   have e : M * M < a * a := by
    have h2 : M < -a := by omega
    have h3 := Int.mul_lt_mul h2 (Int.le_of_lt h2) h0 (by omega)
    rw [Int.neg_mul_neg] at h3
    exact h3
   omega
  ·exact h1
 ·rcases (show M < a ∨ a ≤ M by omega) with h1 | h1
  ·exfalso
   have := Int.mul_lt_mul h1 (Int.le_of_lt h1) h0 (by omega)
   omega
  ·exact h1
/-- A state of norm 2^K, K at most 60, has near amplitudes. -/
theorem near_norm {K n : Nat} {f : Nat → Zw} (hK : K ≤ 60) (h : sumN nS n f = 2 ^ K) {j : Nat} (hj : j < 2 ^ n) : near 1073741824 (f j) := by
 have h1 : nS (f j) ≤ sumN nS n f := sumL_ge (F := fun j => nS (f j)) (fun x _ => nS_nonneg _) (List.mem_range.2 hj)
 rw [h] at h1
 have h2 : (2 : Int) ^ K ≤ 1073741824 * 1073741824 := by
  have h3 : 2 ^ K ≤ 2 ^ 60 := Nat.pow_le_pow_right (by decide) hK
  have h4 : ((2 : Int) ^ K) = ((2 ^ K : Nat) : Int) := by rw [Int.natCast_pow]; rfl
  rw [h4]
  have h5 : ((2 ^ K : Nat) : Int) ≤ ((2 ^ 60 : Nat) : Int) := by exact_mod_cast h3
  have h6 : ((2 ^ 60 : Nat) : Int) = 1073741824 * 1073741824 := by decide
  omega
 have g1 := sq_nonneg (f j).a
 have g2 := sq_nonneg (f j).b
 have g3 := sq_nonneg (f j).c
 have g4 := sq_nonneg (f j).d
 unfold nS at h1
 exact ⟨sq_le (by decide) (by omega), sq_le (by decide) (by omega), sq_le (by decide) (by omega), sq_le (by decide) (by omega)⟩
/-- The state after a gate, by the norm. -/
theorem acts_norm {g : Gt} {n K : Nat} {vs : List Dw} (hg : vg g n = true) (hs : St n K 1073741824 vs) (hK : K + hct g ≤ 60) (hN : sumN nS n (Lf K vs) = 2 ^ K) :
  ∃ us, Acts (2 ^ n) g vs us ∧ St n (K + hct g) 1073741824 us ∧ (∀ j, j < 2 ^ n → Lf (K + hct g) us j = ap1 g (Lf K vs) j) ∧ sumN nS n (Lf (K + hct g) us) = 2 ^ (K + hct g) := by
 have hg0 := hg
 have hnn := norm_one (fun i hi u => nS_rot hi u) nS_pm hg (Lf K vs)
 rw [hN, ← Int.pow_add, Nat.add_comm] at hnn
 have hfin : ∀ us : List Dw, (∀ j, j < 2 ^ n → Lf (K + hct g) us j = ap1 g (Lf K vs) j) → sumN nS n (Lf (K + hct g) us) = 2 ^ (K + hct g) := fun us h => by rw [sumN_cong h]; exact hnn
 have hnear : ∀ j, j < 2 ^ n → near 1073741824 (ap1 g (Lf K vs) j) := fun j hj => near_norm hK hnn hj
 obtain ⟨k, a, b, c, rfl, hn, hk, ha, hb, hc, hf⟩ := vg_nat hg
 rcases hk with rfl | hk
 ·have e : hct (⟨((4 : Nat) : Int), a, b, c⟩ : Gt) = 1 := rfl
  rw [e] at hK hfin ⊢
  obtain ⟨us, h1, h2, h3⟩ := acts_h2 hn ha hg0 hs (by omega) ⟨by decide, by decide⟩ (fun j hj => hnear j hj)
  exact ⟨us, h1, h2, h3, hfin us h3⟩
 ·rw [hct_p hk] at hK hfin ⊢
  obtain ⟨us, h1, h2, h3⟩ := acts_perm hn hk ha hb hc hf hg0 hs hK ⟨by decide, by decide⟩
  have h4 : ∀ j, j < 2 ^ n → Lf (K + 0) us j = ap1 ⟨k, a, b, c⟩ (Lf K vs) j := fun j hj => by rw [ap1_p hk]; exact h3 j hj
  exact ⟨us, h1, h2, h4, hfin us h4⟩
theorem chain_norm {n : Nat} : ∀ (gs : List Gt) (K : Nat) (vs : List Dw), (∀ g ∈ gs, vg g n = true) → St n K 1073741824 vs → K + hcs gs ≤ 60 → sumN nS n (Lf K vs) = 2 ^ K → ∃ us, Chain (2 ^ n) gs vs us ∧ St n (K + hcs gs) 1073741824 us ∧ ∀ j, j < 2 ^ n → Lf (K + hcs gs) us j = apG gs (Lf K vs) j
 | [], K, vs, _, hs, _, _ => ⟨vs, Chain.nil _ _, hs, fun j _ => rfl⟩
 | g :: gs, K, vs, hg, hs, hK, hN => by
  rw [hcs_cons] at hK
  obtain ⟨ws, w1, w2, w3, w4⟩ := acts_norm (hg g (List.mem_cons_self ..)) hs (by omega) hN
  obtain ⟨us, u1, u2, u3⟩ := chain_norm gs (K + hct g) ws (fun g' h' => hg g' (List.mem_cons_of_mem _ h')) w2 (by omega) w4
  refine ⟨us, Chain.cons w1 u1, ?_, fun j hj => ?_⟩
  ·rw [hcs_cons, ← Nat.add_assoc]; exact u2
  ·rw [hcs_cons, ← Nat.add_assoc, u3 j hj]
   exact apG_cong (fun g' h' => hg g' (List.mem_cons_of_mem _ h')) w3 j hj
/-- A basis state. -/
def eB (i j : Nat) : Zw := if j = i then zw 0 else z0
theorem basis_Lf {n i j : Nat} (hi : i < 2 ^ n) (hj : j < 2 ^ n) : Lf 0 (basis n i) j = eB i j := by
 unfold Lf eB basis
 rw [lift_00, List.getD_eq_getElem?_getD, List.getElem?_set]
 by_cases h : i = j
 ·subst h
  rw [if_pos rfl, if_pos (by rw [List.length_replicate]; exact hi), if_pos rfl]
  rfl
 ·rw [if_neg h, List.getElem?_replicate, if_pos hj, if_neg (fun e => h e.symm)]
  rfl
theorem sumL_point {l : List Nat} {F : Nat → Int} {i : Nat} (hl : l.Nodup) (hi : i ∈ l) (h : ∀ x ∈ l, x ≠ i → F x = 0) : sumL l F = F i := by
 induction l with
 | nil => exact (List.not_mem_nil hi).elim
 | cons x l ih =>
  rw [sumL_cons]
  obtain ⟨h1, h2⟩ := List.nodup_cons.1 hl
  rcases List.mem_cons.1 hi with rfl | hi
  ·have : sumL l F = sumL l fun _ => 0 := sumL_cong fun y hy => h y (List.mem_cons_of_mem _ hy) (fun e => h1 (e ▸ hy))
   have h0 : sumL l (fun _ => 0) = 0 := by
    have := sumL_two l fun _ => 0
    simp only [Int.mul_zero] at this
    omega
   rw [this, h0, Int.add_zero]
  ·have : F x = 0 := h x (List.mem_cons_self ..) (fun e => h1 (e ▸ hi))
   rw [this, Int.zero_add]
   exact ih h2 hi fun y hy => h y (List.mem_cons_of_mem _ hy)
theorem sumN_point {F : Zw → Int} (h0 : F z0 = 0) {n i : Nat} (hi : i < 2 ^ n) {f : Nat → Zw} (h : ∀ j, j < 2 ^ n → j ≠ i → f j = z0) : sumN F n f = F (f i) :=
 sumL_point (F := fun j => F (f j)) List.nodup_range (List.mem_range.2 hi) fun x hx hne => by
  show F (f x) = 0
  rw [h x (List.mem_range.1 hx) hne, h0]
theorem basis_norm {n i : Nat} (hi : i < 2 ^ n) : sumN nS n (Lf 0 (basis n i)) = 2 ^ 0 := by
 rw [sumN_cong (h := eB i) (fun j hj => basis_Lf hi hj), sumN_point (F := nS) (f := eB i) (i := i) rfl hi (fun j hj hne => if_neg hne)]
 unfold eB
 rw [if_pos rfl]
 rfl
theorem St.mono0 {n K : Nat} {M N : Int} {vs : List Dw} (h : St n K M vs) (hl : M ≤ N) : St n K N vs := ⟨h.len, fun x hx => by
 obtain ⟨h1, h2, h3⟩ := h.ok x hx
 exact ⟨h1, h2, near_le h3 hl⟩⟩
/-- Valid gates with at most 60 H, from a basis state. -/
theorem chain_basis {n i : Nat} (hi : i < 2 ^ n) (gs : List Gt) (hg : ∀ g ∈ gs, vg g n = true) (hK : hcs gs ≤ 60) : ∃ us, Chain (2 ^ n) gs (basis n i) us ∧ St n (hcs gs) 1073741824 us ∧ ∀ j, j < 2 ^ n → Lf (hcs gs) us j = apG gs (eB i) j := by
 obtain ⟨us, u1, u2, u3⟩ := chain_norm gs 0 (basis n i) hg ((basis_St n i).mono0 (by decide)) (by omega) (basis_norm hi)
 rw [Nat.zero_add] at u2 u3
 refine ⟨us, u1, u2, fun j hj => ?_⟩
 rw [u3 j hj]
 exact apG_cong hg (fun t ht => basis_Lf hi ht) j hj
/-- An amplitude of norm 2^h is a power of the eighth root at that power. -/
theorem odd_even {u : Zw} {m : Int} (h1 : nS u = 2 * m) (h2 : nC u = 0) : (u.a - u.c) % 2 = 0 ∧ (u.b - u.d) % 2 = 0 := by
 obtain ⟨a, b, c, d⟩ := u
 simp only [nS, nC] at *
 have e1 : (a * a + b * b + c * c + d * d) % 2 = 0 := by omega
 have e2 : (a * b + b * c + c * d - d * a) % 2 = 0 := by omega
 have m1 : ∀ x y : Int, x * y % 2 = (x % 2) * (y % 2) % 2 := fun x y => Int.mul_emod x y 2
 have ha := m1 a a
 have hb := m1 b b
 have hc := m1 c c
 have hd := m1 d d
 have hab := m1 a b
 have hbc := m1 b c
 have hcd := m1 c d
 have hda := m1 d a
 generalize a * a = q1 at *
 generalize b * b = q2 at *
 generalize c * c = q3 at *
 generalize d * d = q4 at *
 generalize a * b = q5 at *
 generalize b * c = q6 at *
 generalize c * d = q7 at *
 generalize d * a = q8 at *
 rcases Int.emod_two_eq a with ea | ea <;> rcases Int.emod_two_eq b with eb | eb <;> rcases Int.emod_two_eq c with ec | ec <;> rcases Int.emod_two_eq d with ed | ed <;>
  simp only [ea, eb, ec, ed] at ha hb hc hd hab hbc hcd hda <;> omega
theorem zw_inj : (List.range 8).all (fun i => (List.range 8).all fun j => (i == j) || !((zw i).a == (zw j).a && (zw i).b == (zw j).b && (zw i).c == (zw j).c && (zw i).d == (zw j).d)) = true := by decide
theorem unit_of {u : Zw} (h : nS u = 1) : ∃ j, j < 8 ∧ u = zw j := by
 obtain ⟨a, b, c, d⟩ := u
 simp only [nS] at h
 have g1 := sq_nonneg a
 have g2 := sq_nonneg b
 have g3 := sq_nonneg c
 have g4 := sq_nonneg d
 have b1 := sq_le (a := a) (M := 1) (by decide) (by omega)
 have b2 := sq_le (a := b) (M := 1) (by decide) (by omega)
 have b3 := sq_le (a := c) (M := 1) (by decide) (by omega)
 have b4 := sq_le (a := d) (M := 1) (by decide) (by omega)
 rcases (show a = -1 ∨ a = 0 ∨ a = 1 by omega) with rfl | rfl | rfl <;> rcases (show b = -1 ∨ b = 0 ∨ b = 1 by omega) with rfl | rfl | rfl <;> rcases (show c = -1 ∨ c = 0 ∨ c = 1 by omega) with rfl | rfl | rfl <;> rcases (show d = -1 ∨ d = 0 ∨ d = 1 by omega) with rfl | rfl | rfl <;>
  first
   | (exfalso; revert h; decide)
   | exact ⟨0, by decide, rfl⟩
   | exact ⟨1, by decide, rfl⟩
   | exact ⟨2, by decide, rfl⟩
   | exact ⟨3, by decide, rfl⟩
   | exact ⟨4, by decide, rfl⟩
   | exact ⟨5, by decide, rfl⟩
   | exact ⟨6, by decide, rfl⟩
   | exact ⟨7, by decide, rfl⟩
theorem root_of : ∀ (h : Nat) (u : Zw), nS u = 2 ^ h → nC u = 0 → ∃ j, j < 8 ∧ u = up h (zw j)
 | 0, u, hs, _ => unit_of hs
 | h + 1, u, hs, hc => by
  have hs2 : nS u = 2 * 2 ^ h := by rw [hs, Int.pow_succ, Int.mul_comm]
  obtain ⟨e1, e2⟩ := odd_even hs2 hc
  have hv : u = zrt ⟨(u.b - u.d) / 2, (u.a + u.c) / 2, (u.b + u.d) / 2, (u.c - u.a) / 2⟩ := by
   apply Zw.eq <;> simp only [zrt] <;> omega
  generalize (⟨(u.b - u.d) / 2, (u.a + u.c) / 2, (u.b + u.d) / 2, (u.c - u.a) / 2⟩ : Zw) = v at hv
  have s1 : nS v = 2 ^ h := by
   have := nS_zrt v
   rw [← hv, hs2] at this
   omega
  have s2 : nC v = 0 := by
   have := nC_zrt v
   rw [← hv, hc] at this
   omega
  obtain ⟨j, hj, e⟩ := root_of h v s1 s2
  exact ⟨j, hj, by rw [hv, e, up_succ]⟩
end Go.Proofs.YtioimnplhmgbgaaGreat
/-
 Helper text (no claim of its own): Clifford circuits are the same up to a phase exactly where their tableaux are (plain Lean).
-/
namespace Go.Proofs.YtioimnplhmgbgaaGreat
open Go.ChangeShapes Go.WideShapes Go.ChangeAt Go.RowKit Go.Deep
set_option linter.unusedVariables false
set_option linter.unusedSimpArgs false
/-! ### There and back -/
theorem zadd_up (k : Nat) (x y : Zw) : zadd (up k x) (up k y) = up k (zadd x y) := (up_add k x y).symm
theorem ap1_up {g : Gt} {n k : Nat} (hg : vg g n = true) (f : Nat → Zw) (j : Nat) (hj : j < 2 ^ n) : ap1 g (fun t => up k (f t)) j = up k (ap1 g f j) := by
 obtain ⟨q, a, b, c, rfl, hn, hk, ha, hb, hc, hf⟩ := vg_nat hg
 rcases hk with rfl | hk
 ·rw [show (⟨((4 : Nat) : Int), a, b, c⟩ : Gt) = ⟨4, a, b, c⟩ from rfl, ap1_4, ap1_4, rot_up (by have := sgnH_or j a; omega), zadd_up]
 ·rw [ap1_p hk, ap1_p hk, rot_up (sg_facts hn.2 hk ha hb hc hf (sg_facts hn.2 hk ha hb hc hf hj).1).2.2.1]
theorem apG_up {n k : Nat} : ∀ (gs : List Gt) (f : Nat → Zw), (∀ g ∈ gs, vg g n = true) → ∀ j, j < 2 ^ n → apG gs (fun t => up k (f t)) j = up k (apG gs f j)
 | [], f, _, j, _ => rfl
 | g :: gs, f, h, j, hj => by
  show apG gs (ap1 g fun t => up k (f t)) j = up k (apG gs (ap1 g f) j)
  rw [← apG_up gs (ap1 g f) (fun g' h' => h g' (List.mem_cons_of_mem _ h')) j hj]
  exact apG_cong (fun g' h' => h g' (List.mem_cons_of_mem _ h')) (fun t ht => ap1_up (h g (List.mem_cons_self ..)) f t ht) j hj
theorem apG_rot {n k : Nat} (hk : k < 8) : ∀ (gs : List Gt) (f : Nat → Zw), (∀ g ∈ gs, vg g n = true) → ∀ j, j < 2 ^ n → apG gs (fun t => rot k (f t)) j = rot k (apG gs f j)
 | [], f, _, j, _ => rfl
 | g :: gs, f, h, j, hj => by
  show apG gs (ap1 g fun t => rot k (f t)) j = rot k (apG gs (ap1 g f) j)
  rw [← apG_rot hk gs (ap1 g f) (fun g' h' => h g' (List.mem_cons_of_mem _ h')) j hj]
  exact apG_cong (fun g' h' => h g' (List.mem_cons_of_mem _ h')) (fun t ht => ap1_rot (h g (List.mem_cons_self ..)) hk f t ht) j hj
theorem opP_up {P : Pa} {n k : Nat} (f : Nat → Zw) (j : Nat) : opP P (fun t => up k (f t)) j = up k (opP P f j) := by
 unfold opP opN
 rw [rot_up (phN_lt _ _ _ _)]
theorem opP_rot {P : Pa} {k : Nat} (hk : k < 8) (f : Nat → Zw) (j : Nat) : opP P (fun t => rot k (f t)) j = rot k (opP P f j) := by
 unfold opP opN
 rw [rot_add2 (phN_lt _ _ _ _) hk, rot_add2 hk (phN_lt _ _ _ _), Nat.add_comm]
theorem hct_inv (g : Gt) : hct (invG g) = hct g := by
 unfold hct invG
 by_cases h4 : g.k = 4
 ·simp [h4]
 ·have e1 : (g.k == 4) = false := by simpa using h4
  rw [e1]
  simp only
  split
  ·rfl
  ·split
   ·rfl
   ·split
    ·rfl
    ·split
     ·rfl
     ·rw [e1]
theorem ap1_inv {g : Gt} {n : Nat} (hg : vg g n = true) (f : Nat → Zw) (j : Nat) (hj : j < 2 ^ n) : ap1 (invG g) (ap1 g f) j = up (2 * hct g) (f j) := by
 obtain ⟨k, a, b, c, rfl, hn, hk, ha, hb, hc, hf⟩ := vg_nat hg
 rw [invG_nat]
 rcases hk with rfl | hk
 ·rw [show (⟨((invN 4 : Nat) : Int), a, b, c⟩ : Gt) = ⟨4, a, b, c⟩ from rfl, show (⟨((4 : Nat) : Int), a, b, c⟩ : Gt) = ⟨4, a, b, c⟩ from rfl]
  obtain ⟨f1, f2, f3, f4, f5, f6, f7, f8, f9⟩ := h_facts hn.2 ha hj
  have s0 : sgnH (qlo j a) a = 0 := by unfold sgnH; rw [f7]; rfl
  have s4 : sgnH (qhi j a) a = 4 := by unfold sgnH; rw [f8]; rfl
  rw [ap1_4, ap1_4, ap1_4, f3, f4, f5, f6, s0, s4]
  show _ = zrt (zrt (f j))
  rw [zrt_zrt]
  by_cases hb : bt j a = true
  ·rw [if_pos hb] at f9
   have sj : sgnH j a = 4 := by unfold sgnH; rw [hb]; rfl
   rw [sj, ← f9]
   apply Zw.eq <;> simp only [zadd, rot, zmul, zw] <;> omega
  ·rw [if_neg hb] at f9
   have sj : sgnH j a = 0 := by unfold sgnH; rw [if_neg hb]
   rw [sj, ← f9]
   apply Zw.eq <;> simp only [zadd, rot, zmul, zw] <;> omega
 ·obtain ⟨f1, f2, f3, f4, f5⟩ := sg_facts hn.2 hk ha hb hc hf hj
  have f6 := (sg_facts hn.2 hk ha hb hc hf f1).2.2.1
  have g3 := (sg_facts hn.2 (invN_mem hk) ha hb hc ((fine_inv hk).trans hf) f1).2.2.1
  rw [ap1_p (invN_mem hk), f4, ap1_p hk, f2, rot_rot g3 f3 f5, hct_p hk]
  rfl
theorem invG_twice (g : Gt) : invG (invG g) = g := by
 obtain ⟨k, a, b, c⟩ := g
 unfold invG
 simp only
 by_cases h5 : k = 5
 ·subst h5; rfl
 by_cases h6 : k = 6
 ·subst h6; rfl
 by_cases h7 : k = 7
 ·subst h7; rfl
 by_cases h8 : k = 8
 ·subst h8; rfl
 simp only [if_neg h5, if_neg h6, if_neg h7, if_neg h8]
theorem adjG_twice (gs : List Gt) : adjG (adjG gs) = gs := by
 unfold adjG
 rw [← List.map_reverse, List.reverse_reverse, List.map_map]
 have : (invG ∘ invG) = id := funext invG_twice
 rw [this, List.map_id]
theorem hcs_adj (gs : List Gt) : hcs (adjG gs) = hcs gs := by
 induction gs with
 | nil => rfl
 | cons g gs ih => rw [adjG_cons, hcs_snoc, ih, hct_inv, hcs_cons]; omega
theorem vg_adj {gs : List Gt} {n : Nat} (h : ∀ g ∈ gs, vg g n = true) : ∀ g ∈ adjG gs, vg g n = true := by
 intro g hg
 unfold adjG at hg
 obtain ⟨g', hg', rfl⟩ := List.mem_map.1 hg
 exact vg_inv (h g' (List.mem_reverse.1 hg'))
theorem cliff_inv {g : Gt} (h : cliff g = true) : cliff (invG g) = true := by
 have ha := ar_inv g
 unfold cliff at *
 rw [ha]
 simp only [Bool.and_eq_true, Bool.not_eq_true', beq_eq_false_iff_ne, ne_eq, decide_eq_true_eq] at *
 obtain ⟨⟨⟨h1, h7⟩, h8⟩, h12⟩ := h
 refine ⟨⟨⟨h1, ?_⟩, ?_⟩, ?_⟩ <;> (unfold invG; simp only; split <;> first | omega | (split <;> first | omega | (split <;> first | omega | (split <;> omega))))
theorem there_back_f {n : Nat} : ∀ (gs : List Gt) (f : Nat → Zw), (∀ g ∈ gs, vg g n = true) → ∀ j, j < 2 ^ n → apG (adjG gs) (apG gs f) j = up (2 * hcs gs) (f j)
 | [], f, _, j, _ => rfl
 | g :: gs, f, h, j, hj => by
  have hv := fun g' (h' : g' ∈ gs) => h g' (List.mem_cons_of_mem _ h')
  have hg := h g (List.mem_cons_self ..)
  rw [adjG_cons, apG_app]
  show ap1 (invG g) (apG (adjG gs) (apG gs (ap1 g f))) j = _
  rw [ap1_cong (vg_inv hg) (fun t ht => there_back_f gs (ap1 g f) hv t ht) j hj, ap1_up (vg_inv hg) _ j hj, ap1_inv hg f j hj, ← up_more, hcs_cons]
  congr 1
  omega
theorem back_there_f {n : Nat} (gs : List Gt) (f : Nat → Zw) (h : ∀ g ∈ gs, vg g n = true) (j : Nat) (hj : j < 2 ^ n) : apG gs (apG (adjG gs) f) j = up (2 * hcs gs) (f j) := by
 have := there_back_f (adjG gs) f (vg_adj h) j hj
 rw [adjG_twice, hcs_adj] at this
 exact this
/-! ### Paulis are told apart by the basis states -/
theorem chk_z : (List.range 5).all (fun n => (List.range (2 ^ n)).all fun z => (z == par (z &&& 1) + 2 * par (z &&& 2) + 4 * par (z &&& 4) + 8 * par (z &&& 8)) && (List.range 4).all fun q => decide (q < n) || (par (z &&& 2 ^ q) == 0)) = true := by kernel_rfl
theorem z_bits {n z z' : Nat} (hn : n ≤ 4) (hz : z < 2 ^ n) (hz' : z' < 2 ^ n) (h : ∀ q, q < n → par (z &&& 2 ^ q) = par (z' &&& 2 ^ q)) : z = z' := by
 have h1 := of_all (of_all chk_z (show n < 5 by omega)) hz
 have h2 := of_all (of_all chk_z (show n < 5 by omega)) hz'
 rw [Bool.and_eq_true] at h1 h2
 have hq : ∀ q, q < 4 → par (z &&& 2 ^ q) = par (z' &&& 2 ^ q) := fun q hq => by
  by_cases hqn : q < n
  ·exact h q hqn
  ·have e1 := List.all_eq_true.1 h1.2 q (List.mem_range.2 hq)
   have e2 := List.all_eq_true.1 h2.2 q (List.mem_range.2 hq)
   rw [Bool.or_eq_true, decide_eq_true_eq, beq_iff_eq] at e1 e2
   rcases e1 with e1 | e1
   ·exact absurd e1 hqn
   ·rcases e2 with e2 | e2
    ·exact absurd e2 hqn
    ·rw [e1, e2]
 have q0 := hq 0 (by decide)
 have q1 := hq 1 (by decide)
 have q2 := hq 2 (by decide)
 have q3 := hq 3 (by decide)
 have r1 := beq_iff_eq.1 h1.1
 have r2 := beq_iff_eq.1 h2.1
 simp only [show (2 : Nat) ^ 0 = 1 from rfl, show (2 : Nat) ^ 1 = 2 from rfl, show (2 : Nat) ^ 2 = 4 from rfl, show (2 : Nat) ^ 3 = 8 from rfl] at q0 q1 q2 q3
 omega
theorem zw_ne0 (i : Nat) : zw i ≠ z0 := by
 intro e
 obtain ⟨h1, h2, h3, h4⟩ := Zw.eqs e
 unfold zw z0 at *
 split at h1 <;> simp at *
theorem zw_same {i j : Nat} (hi : i < 8) (hj : j < 8) (h : zw i = zw j) : i = j := by
 have h1 := of_all (of_all zw_inj hi) hj
 rw [Bool.or_eq_true] at h1
 rcases h1 with h1 | h1
 ·exact beq_iff_eq.1 h1
 ·rw [h] at h1
  simp at h1
theorem rot_one {i : Nat} (hi : i < 8) : rot i (zw 0) = zw i := by
 rcases lt8 hi with rfl | rfl | rfl | rfl | rfl | rfl | rfl | rfl <;> rfl
theorem opP_basis (n x z p i j : Nat) : opP ⟨n, x, z, p⟩ (eB i) j = if j ^^^ x = i then zw (phN x z p j) else z0 := by
 rw [opP_nat]
 unfold opN eB
 split
 ·rw [rot_one (phN_lt _ _ _ _)]
 ·rw [rot_z0 (phN_lt _ _ _ _)]
theorem xor_back (i x : Nat) : (i ^^^ x) ^^^ x = i := by rw [Nat.xor_assoc, Nat.xor_self, Nat.xor_zero]
theorem faithful {P Q : Pa} {n : Nat} (hP : vPa P = true) (hQ : vPa Q = true) (hn : P.n = n) (hm : Q.n = n) (h : ∀ i, i < 2 ^ n → ∀ j, j < 2 ^ n → opP P (eB i) j = opP Q (eB i) j) : P = Q := by
 obtain ⟨m, x, z, p, rfl, m1, m4, hx, hz, hp⟩ := vPa_nat hP
 obtain ⟨m', x', z', p', rfl, -, -, hx', hz', hp'⟩ := vPa_nat hQ
 simp only at hn hm
 obtain rfl : m = n := by omega
 obtain rfl : m' = m := by omega
 have h0 : 0 < 2 ^ m' := Nat.pow_pos (by decide)
 have hxx : x = x' := by
  have e := h 0 h0 x hx
  rw [opP_basis, opP_basis, if_pos (Nat.xor_self x)] at e
  by_cases hc : x ^^^ x' = 0
  ·have := xor_back x x'
   rw [hc, Nat.zero_xor] at this
   exact this.symm
  ·rw [if_neg hc] at e
   exact absurd e (zw_ne0 _)
 subst hxx
 have hph : ∀ i, i < 2 ^ m' → phN x z p (i ^^^ x) = phN x z' p' (i ^^^ x) := fun i hi => by
  have e := h i hi (i ^^^ x) (xor_lt m4 hi hx)
  rw [opP_basis, opP_basis, if_pos (xor_back i x), if_pos (xor_back i x)] at e
  exact zw_same (phN_lt _ _ _ _) (phN_lt _ _ _ _) e
 have hpp : p = p' := by
  have e := hph 0 h0
  unfold phN at e
  rw [xor_back, Nat.and_zero, Nat.and_zero] at e
  have : par 0 = 0 := rfl
  omega
 subst hpp
 have hzz : z = z' := z_bits m4 hz hz' fun q hq => by
  have e := hph (2 ^ q) (two_lt hq)
  unfold phN at e
  rw [xor_back] at e
  have := par_lt (z &&& 2 ^ q)
  have := par_lt (z' &&& 2 ^ q)
  omega
 subst hzz
 rfl
/-- There and back brings every Pauli back. -/
theorem car_back {n : Nat} {gs : List Gt} (hg : ∀ g ∈ gs, vg g n = true ∧ cliff g = true) {P : Pa} (hP : vPa P = true) (hn : P.n = n) : carL (adjG gs) (carL gs P) = P := by
 have hv := fun g (h : g ∈ gs) => (hg g h).1
 have ha : ∀ g ∈ adjG gs, vg g n = true ∧ cliff g = true := fun g h => ⟨vg_adj hv g h, by
  unfold adjG at h
  obtain ⟨g', h', rfl⟩ := List.mem_map.1 h
  exact cliff_inv (hg g' (List.mem_reverse.1 h')).2⟩
 obtain ⟨⟨c1, c2⟩, c3⟩ := carry_all gs P hP hn hg
 obtain ⟨⟨d1, d2⟩, d3⟩ := carry_all (adjG gs) (carL gs P) c1 c2 ha
 refine faithful d1 hP d2 hn fun i hi j hj => ?_
 have e1 := d3 (apG gs (eB i)) j hj
 have e2 : apG (adjG gs) (opP (carL gs P) (apG gs (eB i))) j = up (2 * hcs gs) (opP P (eB i) j) := by
  rw [apG_cong (vg_adj hv) (fun t ht => (c3 (eB i) t ht).symm) j hj]
  exact there_back_f gs _ hv j hj
 have e3 : opP (carL (adjG gs) (carL gs P)) (apG (adjG gs) (apG gs (eB i))) j = up (2 * hcs gs) (opP (carL (adjG gs) (carL gs P)) (eB i) j) := by
  rw [opP_cong d1 d2 (fun t ht => there_back_f gs (eB i) hv t ht) j hj]
  exact opP_up (n := n) (eB i) j
 rw [e2, e3] at e1
 exact (up_inj _ e1).symm
theorem car_forth {n : Nat} {gs : List Gt} (hg : ∀ g ∈ gs, vg g n = true ∧ cliff g = true) {P : Pa} (hP : vPa P = true) (hn : P.n = n) : carL gs (carL (adjG gs) P) = P := by
 have ha : ∀ g ∈ adjG gs, vg g n = true ∧ cliff g = true := fun g h => ⟨vg_adj (fun g h => (hg g h).1) g h, by
  unfold adjG at h
  obtain ⟨g', h', rfl⟩ := List.mem_map.1 h
  exact cliff_inv (hg g' (List.mem_reverse.1 h')).2⟩
 have := car_back ha hP hn
 rw [adjG_twice] at this
 exact this
/-! ### The two directions -/
/-- The circuits differ by the k-th power of the eighth root. -/
def Apart (n : Nat) (a b : List Gt) (k : Nat) : Prop := ∀ i, i < 2 ^ n → ∀ j, j < 2 ^ n → up (hcs b) (apG a (eB i) j) = up (hcs a) (rot k (apG b (eB i) j))
theorem basis_scaled {n x z p i : Nat} (hx : x < 2 ^ n) (j : Nat) : opP ⟨n, x, z, p⟩ (eB i) j = rot (phN x z p (i ^^^ x)) (eB (i ^^^ x) j) := by
 rw [opP_basis]
 unfold eB
 by_cases h : j ^^^ x = i
 ·have hj : j = i ^^^ x := by rw [← h, xor_back]
  rw [if_pos h, if_pos hj, rot_one (phN_lt _ _ _ _), hj]
 ·have hj : ¬ j = i ^^^ x := fun e => h (by rw [e, xor_back])
  rw [if_neg h, if_neg hj, rot_z0 (phN_lt _ _ _ _)]
theorem same_rows {n k : Nat} {a b : List Gt} (hk : k < 8) (ha : ∀ g ∈ a, vg g n = true ∧ cliff g = true) (hb : ∀ g ∈ b, vg g n = true ∧ cliff g = true) (h : Apart n a b k) {P : Pa} (hP : vPa P = true) (hn : P.n = n) : carL a P = carL b P := by
 have va := fun g (h : g ∈ a) => (ha g h).1
 have vb := fun g (h : g ∈ b) => (hb g h).1
 have haa : ∀ g ∈ adjG a, vg g n = true ∧ cliff g = true := fun g h => ⟨vg_adj va g h, by
  unfold adjG at h
  obtain ⟨g', h', rfl⟩ := List.mem_map.1 h
  exact cliff_inv (ha g' (List.mem_reverse.1 h')).2⟩
 obtain ⟨⟨a1, a2⟩, a3⟩ := carry_all a P hP hn ha
 obtain ⟨⟨b1, b2⟩, b3⟩ := carry_all b P hP hn hb
 -- the rows act alike on what a makes of the basis
 have hrow : ∀ i, i < 2 ^ n → ∀ j, j < 2 ^ n → opP (carL a P) (apG a (eB i)) j = opP (carL b P) (apG a (eB i)) j := fun i hi j hj => by
  apply up_inj (hcs b)
  obtain ⟨m, x, z, p, rfl, m1, m4, hx, hz, hp⟩ := vPa_nat hP
  simp only at hn
  obtain rfl : m = n := by omega
  have hix := xor_lt m4 hi hx
  have eA : ∀ (gs : List Gt), (∀ g ∈ gs, vg g m = true) → apG gs (opP ⟨m, x, z, p⟩ (eB i)) j = rot (phN x z p (i ^^^ x)) (apG gs (eB (i ^^^ x)) j) := fun gs hv => by
   rw [← apG_rot (phN_lt _ _ _ _) gs (eB (i ^^^ x)) hv j hj]
   exact apG_cong hv (fun t _ => basis_scaled hx t) j hj
  calc up (hcs b) (opP (carL a ⟨m, x, z, p⟩) (apG a (eB i)) j)
    = up (hcs b) (apG a (opP ⟨m, x, z, p⟩ (eB i)) j) := by rw [a3 (eB i) j hj]
   _ = rot (phN x z p (i ^^^ x)) (up (hcs b) (apG a (eB (i ^^^ x)) j)) := by rw [eA a va, rot_up (phN_lt _ _ _ _)]
   _ = rot (phN x z p (i ^^^ x)) (up (hcs a) (rot k (apG b (eB (i ^^^ x)) j))) := by rw [h _ hix j hj]
   _ = up (hcs a) (rot k (rot (phN x z p (i ^^^ x)) (apG b (eB (i ^^^ x)) j))) := by rw [rot_up (phN_lt _ _ _ _), rot_add2 (phN_lt _ _ _ _) hk, rot_add2 hk (phN_lt _ _ _ _), Nat.add_comm]
   _ = up (hcs a) (rot k (opP (carL b ⟨m, x, z, p⟩) (apG b (eB i)) j)) := by rw [← eA b vb, b3 (eB i) j hj]
   _ = opP (carL b ⟨m, x, z, p⟩) (fun t => up (hcs a) (rot k (apG b (eB i) t))) j := by rw [opP_up (n := m) (fun t => rot k (apG b (eB i) t)) j, opP_rot hk]
   _ = opP (carL b ⟨m, x, z, p⟩) (fun t => up (hcs b) (apG a (eB i) t)) j := opP_cong b1 b2 (fun t ht => (h i hi t ht).symm) j hj
   _ = up (hcs b) (opP (carL b ⟨m, x, z, p⟩) (apG a (eB i)) j) := opP_up (n := m) _ j
 -- carried back through a they are alike on the basis
 obtain ⟨⟨s1, s2⟩, s3⟩ := carry_all (adjG a) (carL a P) a1 a2 haa
 obtain ⟨⟨t1, t2⟩, t3⟩ := carry_all (adjG a) (carL b P) b1 b2 haa
 have hback : carL (adjG a) (carL a P) = carL (adjG a) (carL b P) := faithful s1 t1 s2 t2 fun i hi j hj => by
  apply up_inj (2 * hcs a)
  have e1 := s3 (apG a (eB i)) j hj
  have e2 := t3 (apG a (eB i)) j hj
  rw [opP_cong s1 s2 (fun t ht => there_back_f a (eB i) va t ht) j hj, opP_up (n := n) (eB i) j] at e1
  rw [opP_cong t1 t2 (fun t ht => there_back_f a (eB i) va t ht) j hj, opP_up (n := n) (eB i) j] at e2
  rw [← e1, ← e2]
  exact apG_cong (vg_adj va) (fun t ht => hrow i hi t ht) j hj
 have := congrArg (carL a) hback
 rw [car_forth ha a1 a2, car_forth ha b1 b2] at this
 exact this
end Go.Proofs.YtioimnplhmgbgaaGreat
namespace Go.Proofs.YtioimnplhmgbgaaGreat
open Go.ChangeShapes Go.WideShapes Go.ChangeAt Go.RowKit Go.Deep
set_option linter.unusedVariables false
set_option linter.unusedSimpArgs false
theorem chk_q : (List.range 5).all (fun n => (List.range (2 ^ n)).all fun j => (j == 0) || (List.range n).any fun q => (par (2 ^ q &&& j) == 1) && decide (j ^^^ 2 ^ q < j)) = true := by kernel_rfl
theorem bit_of {n j : Nat} (hn : n ≤ 4) (hj : j < 2 ^ n) (h0 : j ≠ 0) : ∃ q, q < n ∧ par (2 ^ q &&& j) = 1 ∧ j ^^^ 2 ^ q < j := by
 have h := of_all (of_all chk_q (show n < 5 by omega)) hj
 rw [Bool.or_eq_true] at h
 rcases h with h | h
 ·exact absurd (beq_iff_eq.1 h) h0
 ·obtain ⟨q, hq, h2⟩ := List.any_eq_true.1 h
  rw [Bool.and_eq_true, beq_iff_eq, decide_eq_true_eq] at h2
  exact ⟨q, List.mem_range.1 hq, h2.1, h2.2⟩
/-- The generators. -/
def pX (n q : Nat) : Pa := ⟨n, (2 ^ q : Nat), (0 : Nat), (0 : Nat)⟩
def pZ (n q : Nat) : Pa := ⟨n, (0 : Nat), (2 ^ q : Nat), (0 : Nat)⟩
theorem pX_ok {n q : Nat} (h1 : 1 ≤ n) (h4 : n ≤ 4) (hq : q < n) : vPa (pX n q) = true := vPa_of h1 h4 (two_lt hq) (Nat.pow_pos (by decide)) (by decide)
theorem pZ_ok {n q : Nat} (h1 : 1 ≤ n) (h4 : n ≤ 4) (hq : q < n) : vPa (pZ n q) = true := vPa_of h1 h4 (Nat.pow_pos (by decide)) (two_lt hq) (by decide)
theorem opP_pX (n q : Nat) (f : Nat → Zw) (j : Nat) : opP (pX n q) f j = f (j ^^^ 2 ^ q) := opP_X n q f j
theorem opP_pZ (n q : Nat) (f : Nat → Zw) (j : Nat) : opP (pZ n q) f j = rot (4 * par (2 ^ q &&& j)) (f j) := opP_Z n q f j
theorem rot4_z0 {x : Zw} (h : rot 4 x = x) : x = z0 := by
 rw [rot4] at h
 obtain ⟨h1, h2, h3, h4⟩ := Zw.eqs h
 simp only at h1 h2 h3 h4
 apply Zw.eq <;> simp only [z0] <;> omega
theorem apart_of_rows {n : Nat} (h1 : 1 ≤ n) (h4 : n ≤ 4) {a b : List Gt} (ha : ∀ g ∈ a, vg g n = true ∧ cliff g = true) (hb : ∀ g ∈ b, vg g n = true ∧ cliff g = true)
  (hX : ∀ q, q < n → carL a (pX n q) = carL b (pX n q)) (hZ : ∀ q, q < n → carL a (pZ n q) = carL b (pZ n q)) : ∃ k, k < 8 ∧ Apart n a b k := by
 have va := fun g (h : g ∈ a) => (ha g h).1
 have vb := fun g (h : g ∈ b) => (hb g h).1
 have vbb := vg_adj vb
 have hbb : ∀ g ∈ adjG b, vg g n = true ∧ cliff g = true := fun g h => ⟨vbb g h, by
  unfold adjG at h
  obtain ⟨g', h', rfl⟩ := List.mem_map.1 h
  exact cliff_inv (hb g' (List.mem_reverse.1 h')).2⟩
 have h0 : 0 < 2 ^ n := Nat.pow_pos (by decide)
 -- the gates of a, then b turned back
 let W : (Nat → Zw) → Nat → Zw := fun f => apG (adjG b) (apG a f)
 have hWc : ∀ {f h : Nat → Zw}, (∀ j, j < 2 ^ n → f j = h j) → ∀ j, j < 2 ^ n → W f j = W h j := fun he => apG_cong vbb (apG_cong va he)
 have hW : ∀ {P : Pa}, vPa P = true → P.n = n → carL a P = carL b P → ∀ (f : Nat → Zw) (j : Nat), j < 2 ^ n → W (opP P f) j = opP P (W f) j := fun {P} hP hn he f j hj => by
  obtain ⟨⟨a1, a2⟩, a3⟩ := carry_all a P hP hn ha
  obtain ⟨-, b3⟩ := carry_all (adjG b) (carL a P) a1 a2 hbb
  have e1 : W (opP P f) j = apG (adjG b) (opP (carL a P) (apG a f)) j := apG_cong vbb (fun t ht => a3 f t ht) j hj
  rw [e1, b3 (apG a f) j hj, he, car_back hb hP hn]
 -- the first column
 have hcol0 : ∀ j, j < 2 ^ n → j ≠ 0 → W (eB 0) j = z0 := fun j hj hj0 => by
  obtain ⟨q, hq, hp, -⟩ := bit_of h4 hj hj0
  apply rot4_z0
  have e1 := hW (pZ_ok h1 h4 hq) rfl (hZ q hq) (eB 0) j hj
  rw [opP_pZ, hp] at e1
  rw [← e1]
  refine hWc (fun t _ => ?_) j hj
  rw [opP_pZ]
  unfold eB
  by_cases ht : t = 0
  ·subst ht
   rw [if_pos rfl, Nat.and_zero]
   rfl
  ·rw [if_neg ht]
   have := par_lt (2 ^ q &&& t)
   exact rot_z0 (by omega)
 obtain ⟨u, hu⟩ : ∃ u, u = W (eB 0) 0 := ⟨_, rfl⟩
 have hcol : ∀ i, i < 2 ^ n → ∀ j, j < 2 ^ n → W (eB i) j = if j = i then u else z0 := by
  intro i
  induction i using Nat.strongRecOn with
  | _ i ih =>
   intro hi j hj
   by_cases hi0 : i = 0
   ·subst hi0
    by_cases hj0 : j = 0
    ·subst hj0; rw [if_pos rfl]; exact hu.symm
    ·rw [if_neg hj0]; exact hcol0 j hj hj0
   ·obtain ⟨q, hq, -, hlt⟩ := bit_of h4 hi hi0
    have hq2 := two_lt hq
    have hjq := xor_lt h4 hj hq2
    have e1 := hW (pX_ok h1 h4 hq) rfl (hX q hq) (eB (i ^^^ 2 ^ q)) j hj
    rw [opP_pX, ih _ hlt (xor_lt h4 hi hq2) _ hjq] at e1
    have e2 : W (eB i) j = W (opP (pX n q) (eB (i ^^^ 2 ^ q))) j := hWc (fun t _ => by
     rw [opP_pX]
     unfold eB
     by_cases ht : t = i
     ·subst ht; rw [if_pos rfl, if_pos rfl]
     ·rw [if_neg ht, if_neg]
      intro e
      apply ht
      have := congrArg (· ^^^ 2 ^ q) e
      simp only [xor_back] at this
      exact this) j hj
    rw [e2, e1]
    by_cases hji : j = i
    ·subst hji; rw [if_pos rfl, if_pos rfl]
    ·rw [if_neg hji, if_neg]
     intro e
     apply hji
     have := congrArg (· ^^^ 2 ^ q) e
     simp only [xor_back] at this
     exact this
 -- its size
 have hsize : ∀ {F : Zw → Int}, (∀ i, i < 8 → ∀ u, F (rot i u) = F u) → (∀ x y, F (zadd x y) + F (zadd x (rot 4 y)) = 2 * F x + 2 * F y) → F z0 = 0 → F u = 2 ^ (hcs a + hcs b) * F (zw 0) := fun {F} hr hp hz => by
  have e1 : sumN F n (W (eB 0)) = F u := by
   rw [sumN_point (F := F) (f := W (eB 0)) (i := 0) hz h0 (fun j hj hne => hcol0 j hj hne), ← hu]
  have e2 : sumN F n (eB 0) = F (zw 0) := by
   rw [sumN_point (F := F) (f := eB 0) (i := 0) hz h0 (fun j hj hne => if_neg hne)]
   rfl
  have e3 : sumN F n (W (eB 0)) = 2 ^ hcs b * (2 ^ hcs a * F (zw 0)) := by
   show sumN F n (apG (adjG b) (apG a (eB 0))) = _
   rw [norm_all hr hp (adjG b) _ vbb, norm_all hr hp a _ va, hcs_adj, e2]
  rw [← e1, e3, Int.pow_add, ← Int.mul_assoc, Int.mul_comm ((2 : Int) ^ hcs b)]
 have hs : nS u = 2 ^ (hcs a + hcs b) := by
  have := hsize (F := nS) (fun i hi u => nS_rot hi u) nS_pm rfl
  rw [this]
  show _ * 1 = _
  rw [Int.mul_one]
 have hc : nC u = 0 := by
  have := hsize (F := nC) (fun i hi u => nC_rot hi u) nC_pm rfl
  rw [this]
  show _ * 0 = _
  rw [Int.mul_zero]
 obtain ⟨k, hk, huk⟩ := root_of _ u hs hc
 refine ⟨k, hk, fun i hi j hj => ?_⟩
 have hWi : ∀ t, t < 2 ^ n → W (eB i) t = up (hcs a + hcs b) (rot k (eB i t)) := fun t ht => by
  rw [hcol i hi t ht]
  unfold eB
  by_cases hti : t = i
  ·rw [if_pos hti, if_pos hti, rot_one hk, huk]
  ·rw [if_neg hti, if_neg hti, rot_z0 hk, up_zero]
 have e1 := back_there_f b (apG a (eB i)) vb j hj
 have e2 : apG b (W (eB i)) j = up (hcs a + hcs b) (rot k (apG b (eB i) j)) := by
  rw [apG_cong vb hWi j hj, apG_up b (fun t => rot k (eB i t)) vb j hj, apG_rot hk b (eB i) vb j hj]
 have e3 : up (2 * hcs b) (apG a (eB i) j) = up (hcs a + hcs b) (rot k (apG b (eB i) j)) := by rw [← e1, ← e2]
 rw [show 2 * hcs b = hcs b + hcs b by omega, up_more, up_more] at e3
 exact up_inj _ e3
/-- The rows of the two tableaux, and the circuits. -/
theorem tab_apart {n : Nat} {a b : List Gt} {ra rb : List Pa} (ha : tabN n a = some ra) (hb : tabN n b = some rb) (h1 : 1 ≤ n) (h4 : n ≤ 4) : ra = rb ↔ ∃ k, k < 8 ∧ Apart n a b k := by
 have hid : ∀ p ∈ idT n, p.n = n ∧ vPa p = true := fun p hp => by
  have e : ∀ q : Nat, pw (q : Int) = ((2 ^ q : Nat) : Int) := fun q => by unfold pw; rw [Int.toNat_natCast, Int.natCast_pow]; rfl
  unfold idT at hp
  rcases List.mem_append.1 hp with hp | hp
  ·obtain ⟨q, hq, rfl⟩ := List.mem_map.1 hp
   rw [e]
   exact ⟨rfl, pX_ok h1 h4 (List.mem_range.1 hq)⟩
  ·obtain ⟨q, hq, rfl⟩ := List.mem_map.1 hp
   rw [e]
   exact ⟨rfl, pZ_ok h1 h4 (List.mem_range.1 hq)⟩
 have hne : idT n ≠ [] := by
  unfold idT
  intro e
  have := congrArg List.length e
  rw [List.length_append, List.length_map, List.length_map, List.length_range] at this
  simp at this
  omega
 obtain ⟨ea, va⟩ := tabN_rows a (idT n) ra (fun p hp => (hid p hp).1) hne (by unfold tabN at ha; rw [Int.toNat_natCast] at ha; exact ha)
 obtain ⟨eb, vb⟩ := tabN_rows b (idT n) rb (fun p hp => (hid p hp).1) hne (by unfold tabN at hb; rw [Int.toNat_natCast] at hb; exact hb)
 have hmem : ∀ q, q < n → pX n q ∈ idT n ∧ pZ n q ∈ idT n := fun q hq => by
  have e : pw (q : Int) = ((2 ^ q : Nat) : Int) := by unfold pw; rw [Int.toNat_natCast, Int.natCast_pow]; rfl
  unfold idT
  constructor
  ·exact List.mem_append_left _ (List.mem_map.2 ⟨q, List.mem_range.2 hq, by rw [e]; rfl⟩)
  ·exact List.mem_append_right _ (List.mem_map.2 ⟨q, List.mem_range.2 hq, by rw [e]; rfl⟩)
 constructor
 ·intro he
  rw [ea, eb] at he
  have hall := List.map_inj_left.1 he
  exact apart_of_rows h1 h4 va vb (fun q hq => hall _ (hmem q hq).1) (fun q hq => hall _ (hmem q hq).2)
 ·rintro ⟨k, hk, h⟩
  rw [ea, eb]
  exact List.map_congr_left fun p hp => same_rows hk va vb h (hid p hp).2 (hid p hp).1
end Go.Proofs.YtioimnplhmgbgaaGreat
