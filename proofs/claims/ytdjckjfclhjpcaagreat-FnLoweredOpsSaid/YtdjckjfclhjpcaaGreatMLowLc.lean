/-
 Helper text (no claim of its own): programs are elaborated: statements and lists of them. Printed by gen_smi.py.
-/
import Derived.Test.YtdjckjfclhjpcaaGreatMLowLb
import Derived.Test.YtdjckjfclhjpcaaGreatRet
import Derived.Test.YtdjckjfclhjpcaaGreatGate
import Derived.Test.YtdjckjfclhjpcaaGreatOp
import Derived.Test.YtdjckjfclhjpcaaGreatGq
import Derived.Test.YtdjckjfclhjpcaaGreatSvg
import Derived.Test.YtdjckjfclhjpcaaGreatBase
import Derived.Test.YtdjckjfclhjpcaaGreatSmh
import Derived.Test.YtdjckjfclhjpcaaGreatDrawG
/-
 Helper text (no claim of its own): what H makes of a state. Printed by gen_alf.py.
-/
namespace Go.Proofs.YtdjckjfclhjpcaaGreat
open Go.ChangeShapes Go.WideShapes Go.ChangeAt Go.RowKit Go.Deep
set_option linter.unusedVariables false
set_option linter.unusedSimpArgs false
/-- The sign of H. -/
def sgnH (j a : Nat) : Nat := if bt j a then 4 else 0
theorem sgnH_or (j a : Nat) : sgnH j a = 0 ∨ sgnH j a = 4 := by unfold sgnH; split <;> simp
/-- What H makes of a state. -/
theorem acts_h {n K : Nat} {M : Int} {vs : List Dw} {a b c : Nat} (hn : 1 ≤ n ∧ n ≤ 4) (ha : a < n) (hg : vg ⟨4, a, b, c⟩ n = true) (hs : St n K M vs) (hK : K ≤ 59) (hM : 0 ≤ M ∧ M + M ≤ 1073741824) :
  ∃ us, Acts (2 ^ n) ⟨4, a, b, c⟩ vs us ∧ St n (K + 1) (M + M) us ∧ ∀ j, j < 2 ^ n → Lf (K + 1) us j = zadd (Lf K vs (qlo j a)) (rot (sgnH j a) (Lf K vs (qhi j a))) := by
 have hfa := fun {i : Nat} (hi : i < 2 ^ n) => h_facts hn.2 ha hi
 have hnL : ∀ {i : Nat}, i < 2 ^ n → near M (Lf K vs i) := fun hi => by
  obtain ⟨x, x1, x2, x3, x4, x5⟩ := hs.get hi
  rw [x5]; exact x4
 have hs8 : ∀ j, sgnH j a < 8 := fun j => by have := sgnH_or j a; omega
 -- the place of the step that sends from s to j
 let kj : Nat → Nat := fun j => if bt j a then 1 else 0
 let pl : Nat → Nat → Nat → Nat → Bool := fun i t j s => decide (j < 2 ^ n ∧ 2 * s + kj j < 2 * i + t)
 let c1 : Nat → Nat → Nat → Zw := fun i t j => if pl i t j (qlo j a) then Lf K vs (qlo j a) else z0
 let c2 : Nat → Nat → Nat → Zw := fun i t j => if pl i t j (qhi j a) then rot (sgnH j a) (Lf K vs (qhi j a)) else z0
 have hkj : ∀ j, kj j ≤ 1 := fun j => by show (if bt j a then 1 else 0) ≤ 1; split <;> omega
 have hb1 : ∀ i t j, near M (c1 i t j) := fun i t j => by
  show near M (if pl i t j (qlo j a) then Lf K vs (qlo j a) else z0)
  split
  ·rename_i h
   exact hnL (hfa (of_decide_eq_true h).1).1
  ·exact near_z0 hM.1
 have hb2 : ∀ i t j, near M (c2 i t j) := fun i t j => by
  show near M (if pl i t j (qhi j a) then rot (sgnH j a) (Lf K vs (qhi j a)) else z0)
  split
  ·rename_i h
   exact rot_near (hs8 j) (hnL (hfa (of_decide_eq_true h).1).2.1)
  ·exact near_z0 hM.1
 have hcb : ∀ i t j, near (M + M) (zadd (c1 i t j) (c2 i t j)) := fun i t j => near_add (hb1 i t j) (hb2 i t j)
 have hpl : ∀ {i t i' t' j s : Nat}, (2 * s + kj j < 2 * i + t ↔ 2 * s + kj j < 2 * i' + t') → pl i t j s = pl i' t' j s := fun h => by
  show decide _ = decide _
  rw [decide_eq_decide]
  exact and_congr_right fun _ => h
 have hne : ∀ {j}, j < 2 ^ n → qlo j a ≠ qhi j a := fun hj e => by
  have h1 := (hfa hj).2.2.2.2.2.2.1
  have h2 := (hfa hj).2.2.2.2.2.2.2.1
  rw [e, h2] at h1
  cases h1
 have hrun := run_of (K' := K + 1) (g := ⟨4, a, b, c⟩) hs (by omega) (fun i t j => zadd (c1 i t j) (c2 i t j)) (fun j hj => by
   have h1 : c1 0 0 j = z0 := if_neg (by show ¬ (decide _ = true); rw [decide_eq_true_eq]; omega)
   have h2 : c2 0 0 j = z0 := if_neg (by show ¬ (decide _ = true); rw [decide_eq_true_eq]; omega)
   show zadd (c1 0 0 j) (c2 0 0 j) = z0
   rw [h1, h2, zadd_z0]) (fun i hi hz j hj => by
   have h1 : c1 (i + 1) 0 j = c1 i 0 j := by
    by_cases e : qlo j a = i
    ·have hz1 : Lf K vs (qlo j a) = z0 := by rw [e]; exact hz
     show (if pl (i + 1) 0 j (qlo j a) then Lf K vs (qlo j a) else z0) = if pl i 0 j (qlo j a) then Lf K vs (qlo j a) else z0
     rw [hz1]; split <;> split <;> rfl
    ·show (if pl (i + 1) 0 j (qlo j a) then Lf K vs (qlo j a) else z0) = if pl i 0 j (qlo j a) then Lf K vs (qlo j a) else z0
     rw [hpl (i := i + 1) (t := 0) (i' := i) (t' := 0) (by have := hkj j; omega)]
   have h2 : c2 (i + 1) 0 j = c2 i 0 j := by
    by_cases e : qhi j a = i
    ·have hz1 : rot (sgnH j a) (Lf K vs (qhi j a)) = z0 := by rw [e, hz]; exact rot_z0 (hs8 j)
     show (if pl (i + 1) 0 j (qhi j a) then rot (sgnH j a) (Lf K vs (qhi j a)) else z0) = if pl i 0 j (qhi j a) then rot (sgnH j a) (Lf K vs (qhi j a)) else z0
     rw [hz1]; split <;> split <;> rfl
    ·show (if pl (i + 1) 0 j (qhi j a) then rot (sgnH j a) (Lf K vs (qhi j a)) else z0) = if pl i 0 j (qhi j a) then rot (sgnH j a) (Lf K vs (qhi j a)) else z0
     rw [hpl (i := i + 1) (t := 0) (i' := i) (t' := 0) (by have := hkj j; omega)]
   show zadd (c1 (i + 1) 0 j) (c2 (i + 1) 0 j) = zadd (c1 i 0 j) (c2 i 0 j)
   rw [h1, h2]) (fun i t s x hi hst hx => by
   rw [sent_h rfl] at hst
   obtain ⟨y, y1, y2, y3, y4, y5⟩ := hs.get hi
   rw [hx] at y1
   obtain rfl := Option.some.inj y1
   obtain ⟨f1, f2, f3, f4, f5, f6, f7, f8, f9⟩ := hfa hi
   have ht : t < 2 := by have := (List.getElem?_eq_some_iff.1 hst).1; simpa using this
   rcases (show t = 0 ∨ t = 1 by omega) with rfl | rfl
   ·obtain rfl := Option.some.inj hst
    refine ⟨f1, _, mulOk_h (Or.inl rfl) y2 y3 hK, near_le (rot_near (by omega) y4) (by omega), fun j hj => ?_⟩
    show zadd (c1 i 1 j) (c2 i 1 j) = if j = qlo i a then zadd (zadd (c1 i 0 j) (c2 i 0 j)) (rot 0 (lift K x)) else zadd (c1 i 0 j) (c2 i 0 j)
    rw [rot_0]
    by_cases hji : j = qlo i a
    ·rw [if_pos hji]
     have hk0 : kj j = 0 := by show (if bt j a then 1 else 0) = 0; rw [hji, f7]; rfl
     have hsg : sgnH j a = 0 := by unfold sgnH; rw [hji, f7]; rfl
     have hlo : qlo j a = qlo i a := by rw [hji]; exact f3
     have hhi : qhi j a = qhi i a := by rw [hji]; exact f4
     by_cases hbi : bt i a = true
     ·rw [if_pos hbi] at f9
      have h1 : c1 i 1 j = c1 i 0 j := by
       show (if pl i 1 j (qlo j a) then Lf K vs (qlo j a) else z0) = if pl i 0 j (qlo j a) then Lf K vs (qlo j a) else z0
       rw [hpl (i := i) (t := 1) (i' := i) (t' := 0) (by rw [hk0, hlo]; have := hne hi; omega)]
      have h2 : c2 i 1 j = rot 0 (lift K x) := by
       show (if pl i 1 j (qhi j a) then rot (sgnH j a) (Lf K vs (qhi j a)) else z0) = _
       rw [if_pos (by show decide _ = true; rw [decide_eq_true_eq, hk0, hhi, ← f9]; omega), hsg, hhi, ← f9, y5]
      have h3 : c2 i 0 j = z0 := by
       show (if pl i 0 j (qhi j a) then rot (sgnH j a) (Lf K vs (qhi j a)) else z0) = _
       rw [if_neg (by show ¬ (decide _ = true); rw [decide_eq_true_eq, hk0, hhi, ← f9]; omega)]
      rw [h1, h2, h3, zadd_z0, rot_0]
     ·rw [if_neg hbi] at f9
      have h1 : c1 i 1 j = lift K x := by
       show (if pl i 1 j (qlo j a) then Lf K vs (qlo j a) else z0) = _
       rw [if_pos (by show decide _ = true; rw [decide_eq_true_eq, hk0, hlo, ← f9]; omega), hlo, ← f9, y5]
      have h3 : c1 i 0 j = z0 := by
       show (if pl i 0 j (qlo j a) then Lf K vs (qlo j a) else z0) = _
       rw [if_neg (by show ¬ (decide _ = true); rw [decide_eq_true_eq, hk0, hlo, ← f9]; omega)]
      have h2 : c2 i 1 j = c2 i 0 j := by
       show (if pl i 1 j (qhi j a) then rot (sgnH j a) (Lf K vs (qhi j a)) else z0) = if pl i 0 j (qhi j a) then rot (sgnH j a) (Lf K vs (qhi j a)) else z0
       rw [hpl (i := i) (t := 1) (i' := i) (t' := 0) (by rw [hk0, hhi]; have := hne hi; omega)]
      rw [h1, h2, h3, z0_zadd]
      apply Zw.eq <;> simp only [zadd] <;> omega
    ·rw [if_neg hji]
     have hcase : ∀ s, (s = qlo j a ∨ s = qhi j a) → (2 * s + kj j < 2 * i + 1 ↔ 2 * s + kj j < 2 * i + 0) := fun s hs => by
      have hk := hkj j
      by_cases e : s = i
      ·have hkk : kj j = 1 := by
        rcases (show kj j = 0 ∨ kj j = 1 by omega) with h | h
        ·exfalso
         apply hji
         have hbj : bt j a = false := by
          cases hb : bt j a
          ·rfl
          ·have : kj j = 1 := by show (if bt j a then 1 else 0) = 1; rw [hb]; rfl
           omega
         obtain ⟨g1, g2, g3, g4, g5, g6, g7, g8, g9⟩ := hfa hj
         rw [hbj] at g9
         rw [if_neg (by decide)] at g9
         rcases hs with hs | hs
         ·rw [← e, hs, g3]; exact g9
         ·rw [← e, hs, g5]; exact g9
        ·exact h
       omega
      ·omega
     have h1 : c1 i 1 j = c1 i 0 j := by
      show (if pl i 1 j (qlo j a) then Lf K vs (qlo j a) else z0) = if pl i 0 j (qlo j a) then Lf K vs (qlo j a) else z0
      rw [hpl (i := i) (t := 1) (i' := i) (t' := 0) (hcase _ (Or.inl rfl))]
     have h2 : c2 i 1 j = c2 i 0 j := by
      show (if pl i 1 j (qhi j a) then rot (sgnH j a) (Lf K vs (qhi j a)) else z0) = if pl i 0 j (qhi j a) then rot (sgnH j a) (Lf K vs (qhi j a)) else z0
      rw [hpl (i := i) (t := 1) (i' := i) (t' := 0) (hcase _ (Or.inr rfl))]
     rw [h1, h2]
   ·obtain rfl := Option.some.inj hst
    have hsi : (if bt i a then 4 else 0) = 0 ∨ (if bt i a then 4 else 0) = 4 := by split <;> simp
    refine ⟨f2, _, mulOk_h hsi y2 y3 hK, near_le (rot_near (by omega) y4) (by omega), fun j hj => ?_⟩
    show zadd (c1 i 2 j) (c2 i 2 j) = if j = qhi i a then zadd (zadd (c1 i 1 j) (c2 i 1 j)) (rot (sgnH i a) (lift K x)) else zadd (c1 i 1 j) (c2 i 1 j)
    by_cases hji : j = qhi i a
    ·rw [if_pos hji]
     have hk0 : kj j = 1 := by show (if bt j a then 1 else 0) = 1; rw [hji, f8]; rfl
     have hsg : sgnH j a = 4 := by unfold sgnH; rw [hji, f8]; rfl
     have hlo : qlo j a = qlo i a := by rw [hji]; exact f5
     have hhi : qhi j a = qhi i a := by rw [hji]; exact f6
     by_cases hbi : bt i a = true
     ·rw [if_pos hbi] at f9
      have hsi4 : sgnH i a = 4 := by unfold sgnH; rw [hbi]; rfl
      have h1 : c1 i 2 j = c1 i 1 j := by
       show (if pl i 2 j (qlo j a) then Lf K vs (qlo j a) else z0) = if pl i 1 j (qlo j a) then Lf K vs (qlo j a) else z0
       rw [hpl (i := i) (t := 2) (i' := i) (t' := 1) (by rw [hk0, hlo]; have := hne hi; omega)]
      have h2 : c2 i 2 j = rot 4 (lift K x) := by
       show (if pl i 2 j (qhi j a) then rot (sgnH j a) (Lf K vs (qhi j a)) else z0) = _
       rw [if_pos (by show decide _ = true; rw [decide_eq_true_eq, hk0, hhi, ← f9]; omega), hsg, hhi, ← f9, y5]
      have h3 : c2 i 1 j = z0 := by
       show (if pl i 1 j (qhi j a) then rot (sgnH j a) (Lf K vs (qhi j a)) else z0) = _
       rw [if_neg (by show ¬ (decide _ = true); rw [decide_eq_true_eq, hk0, hhi, ← f9]; omega)]
      rw [h1, h2, h3, zadd_z0, hsi4]
     ·rw [if_neg hbi] at f9
      have hsi0 : sgnH i a = 0 := by unfold sgnH; rw [if_neg hbi]
      have h1 : c1 i 2 j = lift K x := by
       show (if pl i 2 j (qlo j a) then Lf K vs (qlo j a) else z0) = _
       rw [if_pos (by show decide _ = true; rw [decide_eq_true_eq, hk0, hlo, ← f9]; omega), hlo, ← f9, y5]
      have h3 : c1 i 1 j = z0 := by
       show (if pl i 1 j (qlo j a) then Lf K vs (qlo j a) else z0) = _
       rw [if_neg (by show ¬ (decide _ = true); rw [decide_eq_true_eq, hk0, hlo, ← f9]; omega)]
      have h2 : c2 i 2 j = c2 i 1 j := by
       show (if pl i 2 j (qhi j a) then rot (sgnH j a) (Lf K vs (qhi j a)) else z0) = if pl i 1 j (qhi j a) then rot (sgnH j a) (Lf K vs (qhi j a)) else z0
       rw [hpl (i := i) (t := 2) (i' := i) (t' := 1) (by rw [hk0, hhi]; have := hne hi; omega)]
      rw [h1, h2, h3, z0_zadd, hsi0, rot_0]
      apply Zw.eq <;> simp only [zadd] <;> omega
    ·rw [if_neg hji]
     have hcase : ∀ s, (s = qlo j a ∨ s = qhi j a) → (2 * s + kj j < 2 * i + 2 ↔ 2 * s + kj j < 2 * i + 1) := fun s hs => by
      have hk := hkj j
      by_cases e : s = i
      ·have hkk : kj j = 0 := by
        rcases (show kj j = 0 ∨ kj j = 1 by omega) with h | h
        ·exact h
        ·exfalso
         apply hji
         have hbj : bt j a = true := by
          cases hb : bt j a
          ·have : kj j = 0 := by show (if bt j a then 1 else 0) = 0; rw [hb]; rfl
           omega
          ·rfl
         obtain ⟨g1, g2, g3, g4, g5, g6, g7, g8, g9⟩ := hfa hj
         rw [if_pos hbj] at g9
         rcases hs with hs | hs
         ·rw [← e, hs, g4]; exact g9
         ·rw [← e, hs, g6]; exact g9
       omega
      ·omega
     have h1 : c1 i 2 j = c1 i 1 j := by
      show (if pl i 2 j (qlo j a) then Lf K vs (qlo j a) else z0) = if pl i 1 j (qlo j a) then Lf K vs (qlo j a) else z0
      rw [hpl (i := i) (t := 2) (i' := i) (t' := 1) (hcase _ (Or.inl rfl))]
     have h2 : c2 i 2 j = c2 i 1 j := by
      show (if pl i 2 j (qhi j a) then rot (sgnH j a) (Lf K vs (qhi j a)) else z0) = if pl i 1 j (qhi j a) then rot (sgnH j a) (Lf K vs (qhi j a)) else z0
      rw [hpl (i := i) (t := 2) (i' := i) (t' := 1) (hcase _ (Or.inr rfl))]
     rw [h1, h2]) (fun i hi j hj => by
   rw [sent_h rfl]
   show zadd (c1 (i + 1) 0 j) (c2 (i + 1) 0 j) = zadd (c1 i 2 j) (c2 i 2 j)
   have h1 : c1 (i + 1) 0 j = c1 i 2 j := by
    show (if pl (i + 1) 0 j (qlo j a) then Lf K vs (qlo j a) else z0) = if pl i 2 j (qlo j a) then Lf K vs (qlo j a) else z0
    rw [hpl (i := i + 1) (t := 0) (i' := i) (t' := 2) (by omega)]
   have h2 : c2 (i + 1) 0 j = c2 i 2 j := by
    show (if pl (i + 1) 0 j (qhi j a) then rot (sgnH j a) (Lf K vs (qhi j a)) else z0) = if pl i 2 j (qhi j a) then rot (sgnH j a) (Lf K vs (qhi j a)) else z0
    rw [hpl (i := i + 1) (t := 0) (i' := i) (t' := 2) (by omega)]
   rw [h1, h2]) (fun i t j => near_le (hcb i t j) hM.2)
 have hcn : ∀ j, j < 2 ^ n → zadd (c1 (2 ^ n) 0 j) (c2 (2 ^ n) 0 j) = zadd (Lf K vs (qlo j a)) (rot (sgnH j a) (Lf K vs (qhi j a))) := fun j hj => by
  have hk := hkj j
  have h1 : c1 (2 ^ n) 0 j = Lf K vs (qlo j a) := if_pos (by show decide _ = true; rw [decide_eq_true_eq]; have := (hfa hj).1; omega)
  have h2 : c2 (2 ^ n) 0 j = rot (sgnH j a) (Lf K vs (qhi j a)) := if_pos (by show decide _ = true; rw [decide_eq_true_eq]; have := (hfa hj).2.1; omega)
  rw [h1, h2]
 refine ⟨(List.range (2 ^ n)).map fun j => cano (K + 1) (zadd (c1 (2 ^ n) 0 j) (c2 (2 ^ n) 0 j)), fun A cap w hr => ?_, ⟨by rw [List.length_map, List.length_range], fun x hx => ?_⟩, fun j hj => ?_⟩
 ·have h := ApplyGate_run hn.1 hn.2 ⟨4, a, b, c⟩ hg A cap vs w (by rw [hs.len]; exact hr) hs.len (fun x hx => (hs.ok x hx).1) _ hrun (fun i t => by rw [List.length_map, List.length_range, hs.len])
  rw [hs.len] at h
  exact h
 ·obtain ⟨j, -, rfl⟩ := List.mem_map.1 hx
  obtain ⟨h1, h2, h3⟩ := cano_is (near_le (hcb (2 ^ n) 0 j) hM.2) (show K + 1 ≤ 60 by omega)
  exact ⟨h1, h2, by rw [h3]; exact hcb _ _ _⟩
 ·unfold Lf
  rw [List.getD_eq_getElem?_getD, List.getElem?_map, List.getElem?_range hj]
  show lift (K + 1) (cano (K + 1) (zadd (c1 (2 ^ n) 0 j) (c2 (2 ^ n) 0 j))) = _
  rw [(cano_is (near_le (hcb (2 ^ n) 0 j) hM.2) (show K + 1 ≤ 60 by omega)).2.2]
  exact hcn j hj
end Go.Proofs.YtdjckjfclhjpcaaGreat
/-
 Helper text (no claim of its own): the inverse of a gate, by the program and by the reference.
-/
namespace Go.Proofs.YtdjckjfclhjpcaaGreat
open Go.ChangeShapes Go.WideShapes Go.ChangeAt Go.RowKit Go.Deep
set_option linter.unusedVariables false
set_option linter.unusedSimpArgs false
/-- The inverse of a gate. -/
def invG (g : Gt) : Gt := ⟨if g.k = 5 then 6 else if g.k = 6 then 5 else if g.k = 7 then 8 else if g.k = 8 then 7 else g.k, g.a, g.b, g.c⟩
theorem Tryz.sizeGateR : (Tryz.prog.info? 38).map (·.size) = some 4 := by kernel_rfl
theorem retG {fn : Func} {p : Tmp} (hf : fn.results = #[.cell p 38]) {W : World} {q : Nat} {cs : Array Value} (hB : Blk W q 38 cs) (tmps : Array Value)
  (hp : tmps.getD p undef = .pointer (some ⟨q, 0, none⟩)) (hs : cs.size = 4) : (results fn tmps).run Tryz.prog W = .ok (.agg cs) W :=
 results_cell_row hf tmps _ q 38 _ (0, 0) _ hp hB Tryz.underlying38 rfl (by rw [hs]; exact Tryz.sizeGateR)
theorem invG_other {k a b c : Int} (h5 : k ≠ 5) (h6 : k ≠ 6) (h7 : k ≠ 7) (h8 : k ≠ 8) : invG ⟨k, a, b, c⟩ = ⟨k, a, b, c⟩ := by unfold invG; simp only [if_neg h5, if_neg h6, if_neg h7, if_neg h8]
set_option maxRecDepth 100000 in
set_option maxHeartbeats 8000000 in
theorem spec_InverseGate_any (g : Gt) (w : World) : Calls Tryz.prog 92 #[g.val] w fun e w' => e = .returned (invG g).val ∧ Ext w w' := by
 obtain ⟨k, a, b, c⟩ := g
 by_cases h5 : k = 5
 ·subst h5
  go_enter Tryz.func92, Tryz.ntmps92
  go_upto_region 1 with (fail)
  have HB : Hid (Blk ((w.alloc (.cells #[.int .i64 5, .int .i64 a, .int .i64 b, .int .i64 c] 38)).alloc (.cells #[.int .i64 0, .int .i64 0, .int .i64 0, .int .i64 0] 38)) w.heap.size 38 #[.int .i64 5, .int .i64 a, .int .i64 b, .int .i64 c]) := (Blk.new w _ _).alloc _
  have HR : Hid (Blk ((w.alloc (.cells #[.int .i64 5, .int .i64 a, .int .i64 b, .int .i64 c] 38)).alloc (.cells #[.int .i64 0, .int .i64 0, .int .i64 0, .int .i64 0] 38)) (w.heap.size + 1) 38 #[.int .i64 0, .int .i64 0, .int .i64 0, .int .i64 0]) := Blk.newAt (by simp)
  have HE : Hid (Ext w ((w.alloc (.cells #[.int .i64 5, .int .i64 a, .int .i64 b, .int .i64 c] 38)).alloc (.cells #[.int .i64 0, .int .i64 0, .int .i64 0, .int .i64 0] 38))) := xx
  generalize ((w.alloc (.cells #[.int .i64 5, .int .i64 a, .int .i64 b, .int .i64 c] 38)).alloc (.cells #[.int .i64 0, .int .i64 0, .int .i64 0, .int .i64 0] 38)) = w2 at *
  obtain ⟨⟨b0, b1, b2, b3⟩, e0, e1, e2, e3⟩ := cells4 HB.out
  obtain ⟨⟨r0, r1, r2, r3⟩, f0, f1, f2, f3⟩ := cells4 HR.out
  go_upto_region 10 with (fail)
  have HB2 : Hid (Blk (w2.setCell ⟨w.heap.size, 0, none⟩ (.int .i64 6)) w.heap.size 38 #[.int .i64 6, .int .i64 a, .int .i64 b, .int .i64 c]) := HB.out.set_ 0 _
  have HR2 : Hid (Blk (w2.setCell ⟨w.heap.size, 0, none⟩ (.int .i64 6)) (w.heap.size + 1) 38 #[.int .i64 0, .int .i64 0, .int .i64 0, .int .i64 0]) := HR.out.far (p := ⟨w.heap.size, 0, none⟩) (show w.heap.size + 1 ≠ w.heap.size by omega) _
  have HE2 : Hid (Ext w (w2.setCell ⟨w.heap.size, 0, none⟩ (.int .i64 6))) := HE.out.setCell (p := ⟨w.heap.size, 0, none⟩) (Nat.le_refl _) _
  clear b0 b1 b2 b3 e0 e1 e2 e3 r0 r1 r2 r3 f0 f1 f2 f3 HB HR HE
  generalize w2.setCell ⟨w.heap.size, 0, none⟩ (.int .i64 6) = w3 at *
  obtain ⟨⟨b0, b1, b2, b3⟩, -⟩ := cells4 HB2.out
  obtain ⟨⟨r0, r1, r2, r3⟩, f0, f1, f2, f3⟩ := cells4 HR2.out
  go_wp2
  have HBB : Hid (Blk (put4 w3 (w.heap.size + 1) (.int .i64 6) (.int .i64 a) (.int .i64 b) (.int .i64 c)) (w.heap.size + 1) 38 #[.int .i64 6, .int .i64 a, .int .i64 b, .int .i64 c]) := HR2.out.put4 _ _ _ _
  refine bodyPost_ret (v := .agg #[.int .i64 6, .int .i64 a, .int .i64 b, .int .i64 c]) ?_ rfl ?_
  rotate_left
  ·exact ⟨rfl, ext_put4 (g := w.heap.size + 1) HE2.out (by omega) _ _ _ _⟩
  ·exact retG rfl HBB.out _ (by kernel_rfl) rfl
 by_cases h6 : k = 6
 ·subst h6
  go_enter Tryz.func92, Tryz.ntmps92
  go_upto_region 1 with (fail)
  have HB : Hid (Blk ((w.alloc (.cells #[.int .i64 6, .int .i64 a, .int .i64 b, .int .i64 c] 38)).alloc (.cells #[.int .i64 0, .int .i64 0, .int .i64 0, .int .i64 0] 38)) w.heap.size 38 #[.int .i64 6, .int .i64 a, .int .i64 b, .int .i64 c]) := (Blk.new w _ _).alloc _
  have HR : Hid (Blk ((w.alloc (.cells #[.int .i64 6, .int .i64 a, .int .i64 b, .int .i64 c] 38)).alloc (.cells #[.int .i64 0, .int .i64 0, .int .i64 0, .int .i64 0] 38)) (w.heap.size + 1) 38 #[.int .i64 0, .int .i64 0, .int .i64 0, .int .i64 0]) := Blk.newAt (by simp)
  have HE : Hid (Ext w ((w.alloc (.cells #[.int .i64 6, .int .i64 a, .int .i64 b, .int .i64 c] 38)).alloc (.cells #[.int .i64 0, .int .i64 0, .int .i64 0, .int .i64 0] 38))) := xx
  generalize ((w.alloc (.cells #[.int .i64 6, .int .i64 a, .int .i64 b, .int .i64 c] 38)).alloc (.cells #[.int .i64 0, .int .i64 0, .int .i64 0, .int .i64 0] 38)) = w2 at *
  obtain ⟨⟨b0, b1, b2, b3⟩, e0, e1, e2, e3⟩ := cells4 HB.out
  obtain ⟨⟨r0, r1, r2, r3⟩, f0, f1, f2, f3⟩ := cells4 HR.out
  go_upto_region 10 with (fail)
  have HB2 : Hid (Blk (w2.setCell ⟨w.heap.size, 0, none⟩ (.int .i64 5)) w.heap.size 38 #[.int .i64 5, .int .i64 a, .int .i64 b, .int .i64 c]) := HB.out.set_ 0 _
  have HR2 : Hid (Blk (w2.setCell ⟨w.heap.size, 0, none⟩ (.int .i64 5)) (w.heap.size + 1) 38 #[.int .i64 0, .int .i64 0, .int .i64 0, .int .i64 0]) := HR.out.far (p := ⟨w.heap.size, 0, none⟩) (show w.heap.size + 1 ≠ w.heap.size by omega) _
  have HE2 : Hid (Ext w (w2.setCell ⟨w.heap.size, 0, none⟩ (.int .i64 5))) := HE.out.setCell (p := ⟨w.heap.size, 0, none⟩) (Nat.le_refl _) _
  clear b0 b1 b2 b3 e0 e1 e2 e3 r0 r1 r2 r3 f0 f1 f2 f3 HB HR HE
  generalize w2.setCell ⟨w.heap.size, 0, none⟩ (.int .i64 5) = w3 at *
  obtain ⟨⟨b0, b1, b2, b3⟩, -⟩ := cells4 HB2.out
  obtain ⟨⟨r0, r1, r2, r3⟩, f0, f1, f2, f3⟩ := cells4 HR2.out
  go_wp2
  have HBB : Hid (Blk (put4 w3 (w.heap.size + 1) (.int .i64 5) (.int .i64 a) (.int .i64 b) (.int .i64 c)) (w.heap.size + 1) 38 #[.int .i64 5, .int .i64 a, .int .i64 b, .int .i64 c]) := HR2.out.put4 _ _ _ _
  refine bodyPost_ret (v := .agg #[.int .i64 5, .int .i64 a, .int .i64 b, .int .i64 c]) ?_ rfl ?_
  rotate_left
  ·exact ⟨rfl, ext_put4 (g := w.heap.size + 1) HE2.out (by omega) _ _ _ _⟩
  ·exact retG rfl HBB.out _ (by kernel_rfl) rfl
 by_cases h7 : k = 7
 ·subst h7
  go_enter Tryz.func92, Tryz.ntmps92
  go_upto_region 1 with (fail)
  have HB : Hid (Blk ((w.alloc (.cells #[.int .i64 7, .int .i64 a, .int .i64 b, .int .i64 c] 38)).alloc (.cells #[.int .i64 0, .int .i64 0, .int .i64 0, .int .i64 0] 38)) w.heap.size 38 #[.int .i64 7, .int .i64 a, .int .i64 b, .int .i64 c]) := (Blk.new w _ _).alloc _
  have HR : Hid (Blk ((w.alloc (.cells #[.int .i64 7, .int .i64 a, .int .i64 b, .int .i64 c] 38)).alloc (.cells #[.int .i64 0, .int .i64 0, .int .i64 0, .int .i64 0] 38)) (w.heap.size + 1) 38 #[.int .i64 0, .int .i64 0, .int .i64 0, .int .i64 0]) := Blk.newAt (by simp)
  have HE : Hid (Ext w ((w.alloc (.cells #[.int .i64 7, .int .i64 a, .int .i64 b, .int .i64 c] 38)).alloc (.cells #[.int .i64 0, .int .i64 0, .int .i64 0, .int .i64 0] 38))) := xx
  generalize ((w.alloc (.cells #[.int .i64 7, .int .i64 a, .int .i64 b, .int .i64 c] 38)).alloc (.cells #[.int .i64 0, .int .i64 0, .int .i64 0, .int .i64 0] 38)) = w2 at *
  obtain ⟨⟨b0, b1, b2, b3⟩, e0, e1, e2, e3⟩ := cells4 HB.out
  obtain ⟨⟨r0, r1, r2, r3⟩, f0, f1, f2, f3⟩ := cells4 HR.out
  go_upto_region 10 with (fail)
  have HB2 : Hid (Blk (w2.setCell ⟨w.heap.size, 0, none⟩ (.int .i64 8)) w.heap.size 38 #[.int .i64 8, .int .i64 a, .int .i64 b, .int .i64 c]) := HB.out.set_ 0 _
  have HR2 : Hid (Blk (w2.setCell ⟨w.heap.size, 0, none⟩ (.int .i64 8)) (w.heap.size + 1) 38 #[.int .i64 0, .int .i64 0, .int .i64 0, .int .i64 0]) := HR.out.far (p := ⟨w.heap.size, 0, none⟩) (show w.heap.size + 1 ≠ w.heap.size by omega) _
  have HE2 : Hid (Ext w (w2.setCell ⟨w.heap.size, 0, none⟩ (.int .i64 8))) := HE.out.setCell (p := ⟨w.heap.size, 0, none⟩) (Nat.le_refl _) _
  clear b0 b1 b2 b3 e0 e1 e2 e3 r0 r1 r2 r3 f0 f1 f2 f3 HB HR HE
  generalize w2.setCell ⟨w.heap.size, 0, none⟩ (.int .i64 8) = w3 at *
  obtain ⟨⟨b0, b1, b2, b3⟩, -⟩ := cells4 HB2.out
  obtain ⟨⟨r0, r1, r2, r3⟩, f0, f1, f2, f3⟩ := cells4 HR2.out
  go_wp2
  have HBB : Hid (Blk (put4 w3 (w.heap.size + 1) (.int .i64 8) (.int .i64 a) (.int .i64 b) (.int .i64 c)) (w.heap.size + 1) 38 #[.int .i64 8, .int .i64 a, .int .i64 b, .int .i64 c]) := HR2.out.put4 _ _ _ _
  refine bodyPost_ret (v := .agg #[.int .i64 8, .int .i64 a, .int .i64 b, .int .i64 c]) ?_ rfl ?_
  rotate_left
  ·exact ⟨rfl, ext_put4 (g := w.heap.size + 1) HE2.out (by omega) _ _ _ _⟩
  ·exact retG rfl HBB.out _ (by kernel_rfl) rfl
 by_cases h8 : k = 8
 ·subst h8
  go_enter Tryz.func92, Tryz.ntmps92
  go_upto_region 1 with (fail)
  have HB : Hid (Blk ((w.alloc (.cells #[.int .i64 8, .int .i64 a, .int .i64 b, .int .i64 c] 38)).alloc (.cells #[.int .i64 0, .int .i64 0, .int .i64 0, .int .i64 0] 38)) w.heap.size 38 #[.int .i64 8, .int .i64 a, .int .i64 b, .int .i64 c]) := (Blk.new w _ _).alloc _
  have HR : Hid (Blk ((w.alloc (.cells #[.int .i64 8, .int .i64 a, .int .i64 b, .int .i64 c] 38)).alloc (.cells #[.int .i64 0, .int .i64 0, .int .i64 0, .int .i64 0] 38)) (w.heap.size + 1) 38 #[.int .i64 0, .int .i64 0, .int .i64 0, .int .i64 0]) := Blk.newAt (by simp)
  have HE : Hid (Ext w ((w.alloc (.cells #[.int .i64 8, .int .i64 a, .int .i64 b, .int .i64 c] 38)).alloc (.cells #[.int .i64 0, .int .i64 0, .int .i64 0, .int .i64 0] 38))) := xx
  generalize ((w.alloc (.cells #[.int .i64 8, .int .i64 a, .int .i64 b, .int .i64 c] 38)).alloc (.cells #[.int .i64 0, .int .i64 0, .int .i64 0, .int .i64 0] 38)) = w2 at *
  obtain ⟨⟨b0, b1, b2, b3⟩, e0, e1, e2, e3⟩ := cells4 HB.out
  obtain ⟨⟨r0, r1, r2, r3⟩, f0, f1, f2, f3⟩ := cells4 HR.out
  go_upto_region 10 with (fail)
  have HB2 : Hid (Blk (w2.setCell ⟨w.heap.size, 0, none⟩ (.int .i64 7)) w.heap.size 38 #[.int .i64 7, .int .i64 a, .int .i64 b, .int .i64 c]) := HB.out.set_ 0 _
  have HR2 : Hid (Blk (w2.setCell ⟨w.heap.size, 0, none⟩ (.int .i64 7)) (w.heap.size + 1) 38 #[.int .i64 0, .int .i64 0, .int .i64 0, .int .i64 0]) := HR.out.far (p := ⟨w.heap.size, 0, none⟩) (show w.heap.size + 1 ≠ w.heap.size by omega) _
  have HE2 : Hid (Ext w (w2.setCell ⟨w.heap.size, 0, none⟩ (.int .i64 7))) := HE.out.setCell (p := ⟨w.heap.size, 0, none⟩) (Nat.le_refl _) _
  clear b0 b1 b2 b3 e0 e1 e2 e3 r0 r1 r2 r3 f0 f1 f2 f3 HB HR HE
  generalize w2.setCell ⟨w.heap.size, 0, none⟩ (.int .i64 7) = w3 at *
  obtain ⟨⟨b0, b1, b2, b3⟩, -⟩ := cells4 HB2.out
  obtain ⟨⟨r0, r1, r2, r3⟩, f0, f1, f2, f3⟩ := cells4 HR2.out
  go_wp2
  have HBB : Hid (Blk (put4 w3 (w.heap.size + 1) (.int .i64 7) (.int .i64 a) (.int .i64 b) (.int .i64 c)) (w.heap.size + 1) 38 #[.int .i64 7, .int .i64 a, .int .i64 b, .int .i64 c]) := HR2.out.put4 _ _ _ _
  refine bodyPost_ret (v := .agg #[.int .i64 7, .int .i64 a, .int .i64 b, .int .i64 c]) ?_ rfl ?_
  rotate_left
  ·exact ⟨rfl, ext_put4 (g := w.heap.size + 1) HE2.out (by omega) _ _ _ _⟩
  ·exact retG rfl HBB.out _ (by kernel_rfl) rfl
 have HO := Lib.hid (invG_other (a := a) (b := b) (c := c) h5 h6 h7 h8)
 have g5 : (k == 5) = false := beq_eq_false_iff_ne.2 h5
 have g6 : (k == 6) = false := beq_eq_false_iff_ne.2 h6
 have g7 : (k == 7) = false := beq_eq_false_iff_ne.2 h7
 have g8 : (k == 8) = false := beq_eq_false_iff_ne.2 h8
 clear h5 h6 h7 h8
 go_enter Tryz.func92, Tryz.ntmps92
 go_upto_region 1 with (fail)
 have HB : Hid (Blk ((w.alloc (.cells #[.int .i64 k, .int .i64 a, .int .i64 b, .int .i64 c] 38)).alloc (.cells #[.int .i64 0, .int .i64 0, .int .i64 0, .int .i64 0] 38)) w.heap.size 38 #[.int .i64 k, .int .i64 a, .int .i64 b, .int .i64 c]) := (Blk.new w _ _).alloc _
 have HR : Hid (Blk ((w.alloc (.cells #[.int .i64 k, .int .i64 a, .int .i64 b, .int .i64 c] 38)).alloc (.cells #[.int .i64 0, .int .i64 0, .int .i64 0, .int .i64 0] 38)) (w.heap.size + 1) 38 #[.int .i64 0, .int .i64 0, .int .i64 0, .int .i64 0]) := Blk.newAt (by simp)
 have HE : Hid (Ext w ((w.alloc (.cells #[.int .i64 k, .int .i64 a, .int .i64 b, .int .i64 c] 38)).alloc (.cells #[.int .i64 0, .int .i64 0, .int .i64 0, .int .i64 0] 38))) := xx
 generalize ((w.alloc (.cells #[.int .i64 k, .int .i64 a, .int .i64 b, .int .i64 c] 38)).alloc (.cells #[.int .i64 0, .int .i64 0, .int .i64 0, .int .i64 0] 38)) = w2 at *
 obtain ⟨⟨b0, b1, b2, b3⟩, e0, e1, e2, e3⟩ := cells4 HB.out
 obtain ⟨⟨r0, r1, r2, r3⟩, f0, f1, f2, f3⟩ := cells4 HR.out
 have HR2 := HR
 have HE2 := HE
 go_wp2
 have HBB : Hid (Blk (put4 w2 (w.heap.size + 1) (.int .i64 k) (.int .i64 a) (.int .i64 b) (.int .i64 c)) (w.heap.size + 1) 38 #[.int .i64 k, .int .i64 a, .int .i64 b, .int .i64 c]) := HR2.out.put4 _ _ _ _
 refine bodyPost_ret (v := .agg #[.int .i64 k, .int .i64 a, .int .i64 b, .int .i64 c]) ?_ rfl ?_
 rotate_left
 ·exact ⟨by rw [HO.out], ext_put4 (g := w.heap.size + 1) HE2.out (by omega) _ _ _ _⟩
 ·exact retG rfl HBB.out _ (by kernel_rfl) rfl
end Go.Proofs.YtdjckjfclhjpcaaGreat
/-
 Helper text (no claim of its own): gates and their inverses. Printed by gen_alf.py.
-/
namespace Go.Proofs.YtdjckjfclhjpcaaGreat
open Go.ChangeShapes Go.WideShapes Go.ChangeAt Go.RowKit Go.Deep
set_option linter.unusedVariables false
set_option linter.unusedSimpArgs false
theorem Lf_more {n K J j : Nat} {M : Int} {vs : List Dw} (hs : St n K M vs) (hj : j < 2 ^ n) : Lf (K + J) vs j = up J (Lf K vs j) := by
 obtain ⟨x, x1, x2, x3, x4, x5⟩ := hs.get hj
 unfold Lf
 rw [List.getD_eq_getElem?_getD, x1]
 exact lift_more x3
theorem near_up {M : Int} (hM : 0 ≤ M) {u : Zw} (h : near M u) : near (M + M) (up 1 u) := by
 have := near_root h
 exact near_le this (by omega)
/-- Gates, one behind the other. -/
def Chain (l : Nat) (gs : List Gt) (vs us : List Dw) : Prop := ∃ s : Nat → List Dw, s 0 = vs ∧ s gs.length = us ∧ ∀ k g, gs[k]? = some g → Acts l g (s k) (s (k + 1))
theorem Chain.nil (l : Nat) (vs : List Dw) : Chain l [] vs vs := ⟨fun _ => vs, rfl, rfl, fun k g h => by simp at h⟩
theorem Chain.cons {l : Nat} {g : Gt} {gs : List Gt} {vs ws us : List Dw} (h : Acts l g vs ws) (k : Chain l gs ws us) : Chain l (g :: gs) vs us := by
 obtain ⟨s, s0, s1, s2⟩ := k
 refine ⟨fun i => match i with | 0 => vs | i + 1 => s i, rfl, s1, fun i g' hi => ?_⟩
 cases i with
 | zero =>
  obtain rfl := Option.some.inj hi
  show Acts l g vs (s 0)
  rw [s0]; exact h
 | succ i => exact s2 i g' hi
theorem Chain.append {l : Nat} {us ws : List Dw} {hs : List Gt} : ∀ {gs : List Gt} {vs : List Dw}, Chain l gs vs ws → Chain l hs ws us → Chain l (gs ++ hs) vs us
 | [], vs, ⟨s, s0, s1, _⟩, k => by
  have : vs = ws := by rw [← s0, ← s1]; rfl
  rw [this]; exact k
 | g :: gs, vs, ⟨s, s0, s1, s2⟩, k => by
  refine Chain.cons (ws := s 1) ?_ (Chain.append (gs := gs) ⟨fun i => s (i + 1), rfl, s1, fun i g' hi => s2 (i + 1) g' hi⟩ k)
  have := s2 0 g rfl
  rw [s0] at this
  exact this
theorem Chain.one {l : Nat} {g : Gt} {vs us : List Dw} (h : Acts l g vs us) : Chain l [g] vs us := Chain.cons h (Chain.nil l us)
theorem lift_00 (x : Dw) : lift 0 x = x.n := by unfold lift; rw [Nat.zero_sub]; rfl
theorem basis_St (n i : Nat) : St n 0 1 (basis n i) := by
 refine ⟨by simp [basis], fun x hx => ?_⟩
 rcases List.mem_or_eq_of_mem_set hx with h | rfl
 ·obtain rfl := List.eq_of_mem_replicate h
  exact ⟨rfl, Nat.le_refl 0, by rw [lift_00]; unfold near d0 z0; simp only; omega⟩
 ·exact ⟨rfl, Nat.le_refl 0, by rw [lift_00]; unfold near ph zw; simp only; omega⟩
end Go.Proofs.YtdjckjfclhjpcaaGreat
/-
 Helper text (no claim of its own): adjoint ops, by the program and by the reference. Printed by gen_adj.py.
-/
namespace Go.Proofs.YtdjckjfclhjpcaaGreat
open Go.ChangeShapes Go.WideShapes Go.ChangeAt Go.RowKit Go.Deep
set_option linter.unusedVariables false
set_option linter.unusedSimpArgs false
def invO (x : Oq) : Oq := if (x.k == 1) = true then ⟨x.k, invG x.g, x.q, x.bit, x.cond⟩ else x
theorem invO_1 {x : Oq} (h : (x.k == 1) = true) : invO x = ⟨x.k, invG x.g, x.q, x.bit, x.cond⟩ := if_pos h
theorem invO_n {x : Oq} (h : (x.k == 1) = false) : invO x = x := if_neg (by simp [h])
/-- The adjoint of ops. -/
def adjO (xs : List Oq) : List Oq := xs.reverse.map invO
theorem adjO_len (xs : List Oq) : (adjO xs).length = xs.length := by unfold adjO; rw [List.length_map, List.length_reverse]
set_option maxRecDepth 100000 in
set_option maxHeartbeats 8000000 in
theorem spec_AdjointOps_any (A : Option Addr) (n c : Nat) (xs : List Oq) (w : World) (h : Rd w w.heap.size 8 A n (ocells xs)) (hn : n ≤ 1048576) :
  Calls Tryz.prog 74 #[.slice A n c] w fun e w' => ∃ v, e = .returned v ∧ w'.ownsRow w.heap.size 40 8 v n (ocells (adjO xs)) ∧ Ext w w' := by
 have hlen := h.len Oq.cells_len (by omega)
 have HREV : Hid (∀ j i x, j < n → i = n - 1 - j → xs[i]? = some x → (adjO xs)[j]? = some (invO x)) := fun j i x hj hi hx => by
  unfold adjO
  rw [List.getElem?_map, List.getElem?_reverse (by omega), hlen, ← hi, hx]
  rfl
 have HALL : Hid ((adjO xs).length = n) := (adjO_len xs).trans hlen
 clear hlen
 go_enter Tryz.func74, Tryz.ntmps74
 have ho0 : (w.alloc (.cells #[] 40)).ownsRow w.heap.size 40 8 (.slice (some ⟨w.heap.size, 0, none⟩) 0 0) 0 (ocells ((adjO xs).take 0)) := own_lit (Ext.refl _) _ _ 8 0 #[] _ rfl rfl rfl (by omega)
 have hw0 : IntKind.i64.wrap ((n : Int) - 1) = (n : Int) - 1 := IntWalk.i64_in _ (by omega)
 go_wp2
 have HD0 : Hid ((w.alloc (.cells #[] 40)).ownsRow w.heap.size 40 8 (.slice (some ⟨w.heap.size, 0, none⟩) 0 0) 0 (ocells ((adjO xs).take 0)) ∧ Ext w (w.alloc (.cells #[] 40))) := ⟨ho0, (Ext.refl _).alloc _⟩
 clear ho0
 generalize w.alloc (.cells #[] 40) = w1 at *
 go_loopw [3, 4] (fun rv iv wr => ∃ (j : Nat) (A' : Option Addr) (cap : Nat), rv = .slice A' j cap ∧ iv = .int .i64 ((n : Int) - 1 - j) ∧ j ≤ n ∧ Hid (wr.ownsRow w.heap.size 40 8 (.slice A' j cap) j (ocells ((adjO xs).take j)) ∧ Ext w wr)) (fun _ i _ => (intOf i + 1).toNat)
 case atStart => exact ⟨0, _, 0, rfl, by simp [hw0], Nat.zero_le _, HD0⟩
 case round =>
  obtain ⟨j, A', cap, rfl, rfl, hj, HDj⟩ := hrel
  clear HD0 hw0
  by_cases hlt : j < n
  ·have HLT : Hid (j < n ∧ n ≤ 1048576) := ⟨hlt, hn⟩
   obtain ⟨i, hi⟩ : ∃ i : Nat, (n : Int) - 1 - j = i := ⟨n - 1 - j, by omega⟩
   have hin : i < n := by omega
   have hk1 : IntKind.i64.wrap ((i : Int) - 1) = (n : Int) - 1 - ((j + 1 : Nat) : Int) := by rw [IntWalk.i64_in _ (by omega)]; omega
   have hk2 : wrap64 ((i : Int) - 1) = (n : Int) - 1 - ((j + 1 : Nat) : Int) := by unfold wrap64; omega
   have hi0 : (0 : Int) ≤ (i : Int) := by omega
   have hi1 : (i : Int) ≥ 0 := hi0
   have HI : Hid (i = n - 1 - j) := by show i = n - 1 - j; omega
   rw [hi]
   clear hi hlt hj
   obtain ⟨b, oo, x, rfl, hb, hx, x0, x1, x2, x3, x4, x5, x6, x7⟩ := op_at (h.ext HDj.out.2) hin
   have HG := Lib.hid (HREV.out j i x HLT.out.1 HI.out hx)
   clear hx hb
   go_upto_region 6 with (fail)
   have HB : Hid (Blk (wr.alloc (.cells #[.int .i64 x.k, .int .i64 x.g.k, .int .i64 x.g.a, .int .i64 x.g.b, .int .i64 x.g.c, .int .i64 x.q, .int .i64 x.bit, .int .i64 x.cond] 40)) wr.heap.size 40 #[.int .i64 x.k, .int .i64 x.g.k, .int .i64 x.g.a, .int .i64 x.g.b, .int .i64 x.g.c, .int .i64 x.q, .int .i64 x.bit, .int .i64 x.cond]) := Blk.new _ _ _
   have HD5 : Hid ((wr.alloc (.cells #[.int .i64 x.k, .int .i64 x.g.k, .int .i64 x.g.a, .int .i64 x.g.b, .int .i64 x.g.c, .int .i64 x.q, .int .i64 x.bit, .int .i64 x.cond] 40)).ownsRow w.heap.size 40 8 (.slice A' j cap) j (ocells ((adjO xs).take j)) ∧ Ext w (wr.alloc (.cells #[.int .i64 x.k, .int .i64 x.g.k, .int .i64 x.g.a, .int .i64 x.g.b, .int .i64 x.g.c, .int .i64 x.q, .int .i64 x.bit, .int .i64 x.cond] 40))) := ⟨own_ext HDj.out.1 ((Ext.refl _).alloc _), HDj.out.2.alloc _⟩
   have HBELOW : Hid (w.heap.size ≤ wr.heap.size ∧ ∀ g, (Value.slice A' j cap).ownBlock = some g → g < wr.heap.size) := ⟨HDj.out.2.size, fun g hg => (HDj.out.1.lt g hg).2⟩
   clear HDj x0 x1 x2 x3 x4 x5 x6 x7
   generalize wr.alloc (.cells #[.int .i64 x.k, .int .i64 x.g.k, .int .i64 x.g.a, .int .i64 x.g.b, .int .i64 x.g.c, .int .i64 x.q, .int .i64 x.bit, .int .i64 x.cond] 40) = w5 at *
   generalize wr.heap.size = s at *
   cases hk : (x.k == 1)
   ·rw [invO_n hk] at HG
    have y0 := HB.out.cell 0
    have y1 := HB.out.cell 1
    have y2 := HB.out.cell 2
    have y3 := HB.out.cell 3
    have y4 := HB.out.cell 4
    have y5 := HB.out.cell 5
    have y6 := HB.out.cell 6
    have y7 := HB.out.cell 7
    change w5.cell? ⟨s, 0, none⟩ = some (.int .i64 x.k) at y0
    change w5.cell? ⟨s, 1, none⟩ = some (.int .i64 x.g.k) at y1
    change w5.cell? ⟨s, 2, none⟩ = some (.int .i64 x.g.a) at y2
    change w5.cell? ⟨s, 3, none⟩ = some (.int .i64 x.g.b) at y3
    change w5.cell? ⟨s, 4, none⟩ = some (.int .i64 x.g.c) at y4
    change w5.cell? ⟨s, 5, none⟩ = some (.int .i64 x.q) at y5
    change w5.cell? ⟨s, 6, none⟩ = some (.int .i64 x.bit) at y6
    change w5.cell? ⟨s, 7, none⟩ = some (.int .i64 x.cond) at y7
    have HD := HD5
    go_wp2_with (at_builtin; refine appOpS (w0 := w) rfl _ _ rfl _ j ((adjO xs).take j) rfl (own_ext HD.out.1 ((Ext.refl _).alloc _)) (HD.out.2.alloc _) _ 1 1 [x] rfl (rd_new _ _ _ 8 _ (by simp [Oq.cells]) (by simp [Oq.cells])) (by have := HLT.out; omega) ?_; intro v' w9 g1 g2 g3 g4)
    obtain ⟨A9, c9, rfl, _⟩ := own_slice g1
    have HD9 : Hid (w9.ownsRow w.heap.size 40 8 (.slice A9 (j + 1) c9) (j + 1) (ocells ((adjO xs).take (j + 1))) ∧ Ext w w9) := ⟨by rw [List.take_add_one, HG.out]; exact g1, g2⟩
    clear g1 g2 g3 g4
    go_roundw
    case rel => exact ⟨j + 1, A9, c9, rfl, by first | rfl | rw [hk1] | rw [hk2], by have := HLT.out; omega, HD9⟩
    case measure => have h5 := hk2; have h6 : i = n - 1 - j := HI.out; have h7 := HLT.out; simp [intOf]; omega
   ·rw [invO_1 hk] at HG
    have y0 : w5.cell? ⟨s, 0, none⟩ = some (.int .i64 x.k) := HB.out.cell 0
    have y1 : w5.cell? ⟨s, 1, none⟩ = some (.int .i64 x.g.k) := HB.out.cell 1
    have y2 : w5.cell? ⟨s, 2, none⟩ = some (.int .i64 x.g.a) := HB.out.cell 2
    have y3 : w5.cell? ⟨s, 3, none⟩ = some (.int .i64 x.g.b) := HB.out.cell 3
    have y4 : w5.cell? ⟨s, 4, none⟩ = some (.int .i64 x.g.c) := HB.out.cell 4
    have y5 : w5.cell? ⟨s, 5, none⟩ = some (.int .i64 x.q) := HB.out.cell 5
    have y6 : w5.cell? ⟨s, 6, none⟩ = some (.int .i64 x.bit) := HB.out.cell 6
    have y7 : w5.cell? ⟨s, 7, none⟩ = some (.int .i64 x.cond) := HB.out.cell 7
    go_wp2_with fail
    refine (spec_InverseGate_any x.g _).mono ?_
    rintro e w6 ⟨rfl, hx6⟩
    have HB6 := Lib.hid (HB.out.ext hx6)
    have HD6 : Hid (w6.ownsRow w.heap.size 40 8 (.slice A' j cap) j (ocells ((adjO xs).take j)) ∧ Ext w w6) := ⟨own_ext HD5.out.1 hx6, HD5.out.2.trans hx6⟩
    clear y0 y1 y2 y3 y4 y5 y6 y7 hx6 HB HD5
    have y1 : w6.cell? ⟨s, 1, none⟩ = some (.int .i64 x.g.k) := HB6.out.cell 1
    have f1 := HB6.out.frozen 1
    have y2 : w6.cell? ⟨s, 2, none⟩ = some (.int .i64 x.g.a) := HB6.out.cell 2
    have f2 := HB6.out.frozen 2
    have y3 : w6.cell? ⟨s, 3, none⟩ = some (.int .i64 x.g.b) := HB6.out.cell 3
    have f3 := HB6.out.frozen 3
    have y4 : w6.cell? ⟨s, 4, none⟩ = some (.int .i64 x.g.c) := HB6.out.cell 4
    have f4 := HB6.out.frozen 4
    go_upto_region 8 with (fail)
    have HB7 : Hid (Blk ((((w6.setCell ⟨s, 1, none⟩ (.int .i64 (invG x.g).k)).setCell ⟨s, 2, none⟩ (.int .i64 (invG x.g).a)).setCell ⟨s, 3, none⟩ (.int .i64 (invG x.g).b)).setCell ⟨s, 4, none⟩ (.int .i64 (invG x.g).c)) s 40 #[.int .i64 x.k, .int .i64 (invG x.g).k, .int .i64 (invG x.g).a, .int .i64 (invG x.g).b, .int .i64 (invG x.g).c, .int .i64 x.q, .int .i64 x.bit, .int .i64 x.cond]) := (((HB6.out.set_ 1 _).set_ 2 _).set_ 3 _).set_ 4 _
    have HD : Hid (((((w6.setCell ⟨s, 1, none⟩ (.int .i64 (invG x.g).k)).setCell ⟨s, 2, none⟩ (.int .i64 (invG x.g).a)).setCell ⟨s, 3, none⟩ (.int .i64 (invG x.g).b)).setCell ⟨s, 4, none⟩ (.int .i64 (invG x.g).c)).ownsRow w.heap.size 40 8 (.slice A' j cap) j (ocells ((adjO xs).take j)) ∧ Ext w ((((w6.setCell ⟨s, 1, none⟩ (.int .i64 (invG x.g).k)).setCell ⟨s, 2, none⟩ (.int .i64 (invG x.g).a)).setCell ⟨s, 3, none⟩ (.int .i64 (invG x.g).b)).setCell ⟨s, 4, none⟩ (.int .i64 (invG x.g).c))) := by
     have hne : ∀ g, (Value.slice A' j cap).ownBlock = some g → g ≠ s := fun g hg => by have := HBELOW.out.2 g hg; omega
     have hgr : w6.grownBy ((((w6.setCell ⟨s, 1, none⟩ (.int .i64 (invG x.g).k)).setCell ⟨s, 2, none⟩ (.int .i64 (invG x.g).a)).setCell ⟨s, 3, none⟩ (.int .i64 (invG x.g).b)).setCell ⟨s, 4, none⟩ (.int .i64 (invG x.g).c)) (some s) := (by refine ⟨rfl, rfl, rfl, by simp, fun k hk hne => ?_⟩; have hne2 : k ≠ s := fun e => hne (by rw [e]); exact (((Below.heap_setCell _ ⟨s, 4, none⟩ _ k hne2).trans (Below.heap_setCell _ ⟨s, 3, none⟩ _ k hne2)).trans (Below.heap_setCell _ ⟨s, 2, none⟩ _ k hne2)).trans (Below.heap_setCell _ ⟨s, 1, none⟩ _ k hne2))
     refine ⟨HD6.out.1.kept hgr ?_, (((HD6.out.2.setCell (p := ⟨s, 1, none⟩) HBELOW.out.1 _).setCell (p := ⟨s, 2, none⟩) HBELOW.out.1 _).setCell (p := ⟨s, 3, none⟩) HBELOW.out.1 _).setCell (p := ⟨s, 4, none⟩) HBELOW.out.1 _⟩
     cases hv : (Value.slice A' j cap).ownBlock with
     | none => exact .inl rfl
     | some k =>
      right
      intro e1
      injection e1 with e1
      exact hne k hv e1
    clear y1 y2 y3 y4 f1 f2 f3 f4 HB6 HD6
    generalize (((w6.setCell ⟨s, 1, none⟩ (.int .i64 (invG x.g).k)).setCell ⟨s, 2, none⟩ (.int .i64 (invG x.g).a)).setCell ⟨s, 3, none⟩ (.int .i64 (invG x.g).b)).setCell ⟨s, 4, none⟩ (.int .i64 (invG x.g).c) = w7 at *
    have y0 : w7.cell? ⟨s, 0, none⟩ = some (.int .i64 x.k) := HB7.out.cell 0
    have y1 : w7.cell? ⟨s, 1, none⟩ = some (.int .i64 (invG x.g).k) := HB7.out.cell 1
    have y2 : w7.cell? ⟨s, 2, none⟩ = some (.int .i64 (invG x.g).a) := HB7.out.cell 2
    have y3 : w7.cell? ⟨s, 3, none⟩ = some (.int .i64 (invG x.g).b) := HB7.out.cell 3
    have y4 : w7.cell? ⟨s, 4, none⟩ = some (.int .i64 (invG x.g).c) := HB7.out.cell 4
    have y5 : w7.cell? ⟨s, 5, none⟩ = some (.int .i64 x.q) := HB7.out.cell 5
    have y6 : w7.cell? ⟨s, 6, none⟩ = some (.int .i64 x.bit) := HB7.out.cell 6
    have y7 : w7.cell? ⟨s, 7, none⟩ = some (.int .i64 x.cond) := HB7.out.cell 7
    go_wp2_with (at_builtin; refine appOpS (w0 := w) rfl _ _ rfl _ j ((adjO xs).take j) rfl (own_ext HD.out.1 ((Ext.refl _).alloc _)) (HD.out.2.alloc _) _ 1 1 [⟨x.k, invG x.g, x.q, x.bit, x.cond⟩] rfl (rd_new _ _ _ 8 _ (by simp [Oq.cells]) (by simp [Oq.cells])) (by have := HLT.out; omega) ?_; intro v' w9 g1 g2 g3 g4)
    obtain ⟨A9, c9, rfl, _⟩ := own_slice g1
    have HD9 : Hid (w9.ownsRow w.heap.size 40 8 (.slice A9 (j + 1) c9) (j + 1) (ocells ((adjO xs).take (j + 1))) ∧ Ext w w9) := ⟨by rw [List.take_add_one, HG.out]; exact g1, g2⟩
    clear g1 g2 g3 g4
    go_roundw
    case rel => exact ⟨j + 1, A9, c9, rfl, by first | rfl | rw [hk1] | rw [hk2], by have := HLT.out; omega, HD9⟩
    case measure => have h5 := hk2; have h6 : i = n - 1 - j := HI.out; have h7 := HLT.out; simp [intOf]; omega
  ·have hjn : j = n := by omega
   subst hjn
   have hneg : ¬ (0 : Int) ≤ (j : Int) - 1 - j := by omega
   have hneg2 : ¬ (j : Int) - 1 - j ≥ 0 := hneg
   go_wp2
   go_ret
   have h9 := HDj.out.1
   rw [List.take_of_length_le (by rw [HALL.out]; exact Nat.le_refl _)] at h9
   exact ⟨_, rfl, h9, HDj.out.2⟩
end Go.Proofs.YtdjckjfclhjpcaaGreat
/-
 Helper text (no claim of its own): the decomposition of a gate, by the program and by the reference.
-/
namespace Go.Proofs.YtdjckjfclhjpcaaGreat
open Go.ChangeShapes Go.WideShapes Go.ChangeAt Go.RowKit Go.Deep
def g1 (k a : Int) : Gt := ⟨k, a, 0, 0⟩
def gcx (a b : Int) : Gt := ⟨9, a, b, 0⟩
def dec (g : Gt) : List Gt :=
 if (g.k == 10) = true then [g1 4 g.b, gcx g.a g.b, g1 4 g.b]
 else if (g.k == 11) = true then [gcx g.a g.b, gcx g.b g.a, gcx g.a g.b]
 else if (g.k == 12) = true then [g1 4 g.c, gcx g.b g.c, g1 8 g.c, gcx g.a g.c, g1 7 g.c, gcx g.b g.c, g1 8 g.c, gcx g.a g.c, g1 7 g.b, g1 7 g.c, g1 4 g.c, gcx g.a g.b, g1 7 g.a, g1 8 g.b, gcx g.a g.b]
 else [g]
theorem dec10 {g : Gt} (h : (g.k == 10) = true) : dec g = [g1 4 g.b, gcx g.a g.b, g1 4 g.b] := if_pos h
theorem dec11 {g : Gt} (h0 : (g.k == 10) = false) (h : (g.k == 11) = true) : dec g = [gcx g.a g.b, gcx g.b g.a, gcx g.a g.b] := by unfold dec; rw [if_neg (by simp [h0]), if_pos h]
theorem dec12 {g : Gt} (h0 : (g.k == 10) = false) (h1 : (g.k == 11) = false) (h : (g.k == 12) = true) : dec g = [g1 4 g.c, gcx g.b g.c, g1 8 g.c, gcx g.a g.c, g1 7 g.c, gcx g.b g.c, g1 8 g.c, gcx g.a g.c] ++ [g1 7 g.b, g1 7 g.c, g1 4 g.c, gcx g.a g.b, g1 7 g.a, g1 8 g.b, gcx g.a g.b] := by unfold dec; rw [if_neg (by simp [h0]), if_neg (by simp [h1]), if_pos h]; rfl
theorem decN {g : Gt} (h0 : (g.k == 10) = false) (h1 : (g.k == 11) = false) (h2 : (g.k == 12) = false) : dec g = [g] := by unfold dec; rw [if_neg (by simp [h0]), if_neg (by simp [h1]), if_neg (by simp [h2])]
theorem dec_len (g : Gt) : (dec g).length ≤ 15 := by unfold dec; split <;> (try split) <;> (try split) <;> simp
/-- One for H, none for any other gate. -/
def hct (g : Gt) : Nat := if (g.k == 4) = true then 1 else 0
def hcs (gs : List Gt) : Nat := (gs.map hct).sum
theorem hcs_cons (g : Gt) (gs : List Gt) : hcs (g :: gs) = hct g + hcs gs := by unfold hcs; rw [List.map_cons, List.sum_cons]
theorem hcs_app (gs hs : List Gt) : hcs (gs ++ hs) = hcs gs + hcs hs := by unfold hcs; rw [List.map_append, List.sum_append]
theorem hct_le (g : Gt) : hct g ≤ 1 := by unfold hct; split <;> omega
theorem spec_one_any {w0 : World} (a b : Int) (w : World) (hx : Ext w0 w) : Calls Tryz.prog 26 #[.int .i64 a, .int .i64 b] w fun e w' => e = .returned (.agg #[.int .i64 a, .int .i64 b, .int .i64 0, .int .i64 0]) ∧ Ext w0 w' := by
 have H := Lib.hid hx
 clear hx
 go_enter Tryz.func26, Tryz.ntmps26
 go_wp2
 exact bodyPost_ret (v := .agg #[.int .i64 a, .int .i64 b, .int .i64 0, .int .i64 0]) (by simp [results, Tryz.results26, go_sem]) rfl ⟨rfl, H.out.alloc _⟩

theorem spec_cx_any {w0 : World} (a b : Int) (w : World) (hx : Ext w0 w) : Calls Tryz.prog 27 #[.int .i64 a, .int .i64 b] w fun e w' => e = .returned (.agg #[.int .i64 9, .int .i64 a, .int .i64 b, .int .i64 0]) ∧ Ext w0 w' := by
 have H := Lib.hid hx
 clear hx
 go_enter Tryz.func27, Tryz.ntmps27
 go_wp2
 exact bodyPost_ret (v := .agg #[.int .i64 9, .int .i64 a, .int .i64 b, .int .i64 0]) (by simp [results, Tryz.results27, go_sem]) rfl ⟨rfl, H.out.alloc _⟩

set_option maxRecDepth 100000 in
set_option maxHeartbeats 4000000 in
theorem spec_DecomposeGate_any (g : Gt) (w : World) : Calls Tryz.prog 16 #[g.val] w fun e w' => ∃ v, e = .returned v ∧ w'.ownsRow w.heap.size 38 4 v (dec g).length (gcells (dec g)) ∧ Ext w w' := by
 have hx : Ext w (w.alloc (.cells #[.int .i64 g.k, .int .i64 g.a, .int .i64 g.b, .int .i64 g.c] 38)) := (Ext.refl w).alloc _
 cases h10 : (g.k == 10)
 ·cases h11 : (g.k == 11)
  ·cases h12 : (g.k == 12)
   ·rw [decN h10 h11 h12]
    go_enter Tryz.func16, Tryz.ntmps16
    go_wp2_with (first | (go_at_call 26; refine (spec_one_any _ _ _ hx).mono ?_; clear hx; rintro e w' ⟨rfl, hx⟩) | (go_at_call 27; refine (spec_cx_any _ _ _ hx).mono ?_; clear hx; rintro e w' ⟨rfl, hx⟩))
    go_ret
    exact ⟨_, rfl, own_lit hx _ _ 4 1 #[.int .i64 g.k, .int .i64 g.a, .int .i64 g.b, .int .i64 g.c] _ (by simp) rfl rfl (by omega), hx.alloc _⟩
   ·rw [dec12 h10 h11 h12]
    go_enter Tryz.func16, Tryz.ntmps16
    go_upto_region 11 with ((first | (go_at_call 26; refine (spec_one_any _ _ _ hx).mono ?_; clear hx; rintro e w' ⟨rfl, hx⟩) | (go_at_call 27; refine (spec_cx_any _ _ _ hx).mono ?_; clear hx; rintro e w' ⟨rfl, hx⟩)))
    have ho := own_lit hx _ 38 4 8 #[.int .i64 4, .int .i64 g.c, .int .i64 0, .int .i64 0, .int .i64 9, .int .i64 g.b, .int .i64 g.c, .int .i64 0, .int .i64 8, .int .i64 g.c, .int .i64 0, .int .i64 0, .int .i64 9, .int .i64 g.a, .int .i64 g.c, .int .i64 0, .int .i64 7, .int .i64 g.c, .int .i64 0, .int .i64 0, .int .i64 9, .int .i64 g.b, .int .i64 g.c, .int .i64 0, .int .i64 8, .int .i64 g.c, .int .i64 0, .int .i64 0, .int .i64 9, .int .i64 g.a, .int .i64 g.c, .int .i64 0] (gcells [g1 4 g.c, gcx g.b g.c, g1 8 g.c, gcx g.a g.c, g1 7 g.c, gcx g.b g.c, g1 8 g.c, gcx g.a g.c]) rfl rfl rfl (by omega)
    have hx2 := Ext.refl (w'.alloc (.cells #[.int .i64 4, .int .i64 g.c, .int .i64 0, .int .i64 0, .int .i64 9, .int .i64 g.b, .int .i64 g.c, .int .i64 0, .int .i64 8, .int .i64 g.c, .int .i64 0, .int .i64 0, .int .i64 9, .int .i64 g.a, .int .i64 g.c, .int .i64 0, .int .i64 7, .int .i64 g.c, .int .i64 0, .int .i64 0, .int .i64 9, .int .i64 g.b, .int .i64 g.c, .int .i64 0, .int .i64 8, .int .i64 g.c, .int .i64 0, .int .i64 0, .int .i64 9, .int .i64 g.a, .int .i64 g.c, .int .i64 0] 38))
    have hx0 := hx.alloc (.cells #[.int .i64 4, .int .i64 g.c, .int .i64 0, .int .i64 0, .int .i64 9, .int .i64 g.b, .int .i64 g.c, .int .i64 0, .int .i64 8, .int .i64 g.c, .int .i64 0, .int .i64 0, .int .i64 9, .int .i64 g.a, .int .i64 g.c, .int .i64 0, .int .i64 7, .int .i64 g.c, .int .i64 0, .int .i64 0, .int .i64 9, .int .i64 g.b, .int .i64 g.c, .int .i64 0, .int .i64 8, .int .i64 g.c, .int .i64 0, .int .i64 0, .int .i64 9, .int .i64 g.a, .int .i64 g.c, .int .i64 0] 38)
    clear hx
    go_wp2_with (first | (at_builtin; refine appGateS (w0 := w) rfl _ _ rfl _ 8 [g1 4 g.c, gcx g.b g.c, g1 8 g.c, gcx g.a g.c, g1 7 g.c, gcx g.b g.c, g1 8 g.c, gcx g.a g.c] rfl ((own_ext ho hx2).alloc _) ((hx0.trans hx2).alloc _) _ 7 7 [g1 7 g.b, g1 7 g.c, g1 4 g.c, gcx g.a g.b, g1 7 g.a, g1 8 g.b, gcx g.a g.b] rfl (rd_newN _ _ _ _ 7 4 _ rfl (by simp [Gt.cells, g1, gcx]) rfl) (by omega) ?_; intro v1 w1 ho1 hx1 hg1 hb1) | (go_at_call 26; refine (spec_one_any _ _ _ hx2).mono ?_; clear hx2; rintro e w' ⟨rfl, hx2⟩) | (go_at_call 27; refine (spec_cx_any _ _ _ hx2).mono ?_; clear hx2; rintro e w' ⟨rfl, hx2⟩))
    go_ret
    exact ⟨v1, rfl, ho1, hx1⟩
  ·rw [dec11 h10 h11]
   go_enter Tryz.func16, Tryz.ntmps16
   go_wp2_with (first | (go_at_call 26; refine (spec_one_any _ _ _ hx).mono ?_; clear hx; rintro e w' ⟨rfl, hx⟩) | (go_at_call 27; refine (spec_cx_any _ _ _ hx).mono ?_; clear hx; rintro e w' ⟨rfl, hx⟩))
   go_ret
   exact ⟨_, rfl, own_lit hx _ _ 4 3 _ _ rfl (by simp [Gt.cells, gcx]) rfl (by omega), hx.alloc _⟩
 ·rw [dec10 h10]
  go_enter Tryz.func16, Tryz.ntmps16
  go_wp2_with (first | (go_at_call 26; refine (spec_one_any _ _ _ hx).mono ?_; clear hx; rintro e w' ⟨rfl, hx⟩) | (go_at_call 27; refine (spec_cx_any _ _ _ hx).mono ?_; clear hx; rintro e w' ⟨rfl, hx⟩))
  go_ret
  exact ⟨_, rfl, own_lit hx _ _ _ _ _ _ rfl (by simp [Gt.cells, g1, gcx]) rfl (by simp), hx.alloc _⟩

theorem impl_one_any {w0 : World} (a b : Int) (w : World) (hx : Ext w0 w) : Calls Tryz.prog 24 #[.int .i64 a, .int .i64 b] w fun e w' => e = .returned (.agg #[.int .i64 a, .int .i64 b, .int .i64 0, .int .i64 0]) ∧ Ext w0 w' := by
 have H := Lib.hid hx
 clear hx
 go_enter Tryz.func24, Tryz.ntmps24
 go_wp2
 exact bodyPost_ret (v := .agg #[.int .i64 a, .int .i64 b, .int .i64 0, .int .i64 0]) (by simp [results, Tryz.results24, go_sem]) rfl ⟨rfl, H.out.alloc _⟩

theorem impl_cx_any {w0 : World} (a b : Int) (w : World) (hx : Ext w0 w) : Calls Tryz.prog 25 #[.int .i64 a, .int .i64 b] w fun e w' => e = .returned (.agg #[.int .i64 9, .int .i64 a, .int .i64 b, .int .i64 0]) ∧ Ext w0 w' := by
 have H := Lib.hid hx
 clear hx
 go_enter Tryz.func25, Tryz.ntmps25
 go_wp2
 exact bodyPost_ret (v := .agg #[.int .i64 9, .int .i64 a, .int .i64 b, .int .i64 0]) (by simp [results, Tryz.results25, go_sem]) rfl ⟨rfl, H.out.alloc _⟩

set_option maxRecDepth 100000 in
set_option maxHeartbeats 4000000 in
theorem impl_DecomposeGate_any (g : Gt) (w : World) : Calls Tryz.prog 14 #[g.val] w fun e w' => ∃ v, e = .returned v ∧ w'.ownsRow w.heap.size 38 4 v (dec g).length (gcells (dec g)) ∧ Ext w w' := by
 have hx : Ext w (w.alloc (.cells #[.int .i64 g.k, .int .i64 g.a, .int .i64 g.b, .int .i64 g.c] 38)) := (Ext.refl w).alloc _
 cases h10 : (g.k == 10)
 ·cases h11 : (g.k == 11)
  ·cases h12 : (g.k == 12)
   ·rw [decN h10 h11 h12]
    go_enter Tryz.func14, Tryz.ntmps14
    go_wp2_with (first | (go_at_call 24; refine (impl_one_any _ _ _ hx).mono ?_; clear hx; rintro e w' ⟨rfl, hx⟩) | (go_at_call 25; refine (impl_cx_any _ _ _ hx).mono ?_; clear hx; rintro e w' ⟨rfl, hx⟩))
    go_ret
    exact ⟨_, rfl, own_lit hx _ _ 4 1 #[.int .i64 g.k, .int .i64 g.a, .int .i64 g.b, .int .i64 g.c] _ (by simp) rfl rfl (by omega), hx.alloc _⟩
   ·rw [dec12 h10 h11 h12]
    go_enter Tryz.func14, Tryz.ntmps14
    go_wp2_with (first | (go_at_call 24; refine (impl_one_any _ _ _ hx).mono ?_; clear hx; rintro e w' ⟨rfl, hx⟩) | (go_at_call 25; refine (impl_cx_any _ _ _ hx).mono ?_; clear hx; rintro e w' ⟨rfl, hx⟩))
    go_ret
    exact ⟨_, rfl, own_lit hx _ _ _ _ _ _ rfl (by simp [Gt.cells, g1, gcx]) rfl (by simp), hx.alloc _⟩
  ·rw [dec11 h10 h11]
   go_enter Tryz.func14, Tryz.ntmps14
   go_wp2_with (first | (go_at_call 24; refine (impl_one_any _ _ _ hx).mono ?_; clear hx; rintro e w' ⟨rfl, hx⟩) | (go_at_call 25; refine (impl_cx_any _ _ _ hx).mono ?_; clear hx; rintro e w' ⟨rfl, hx⟩))
   go_ret
   exact ⟨_, rfl, own_lit hx _ _ 4 3 _ _ rfl (by simp [Gt.cells, gcx]) rfl (by omega), hx.alloc _⟩
 ·rw [dec10 h10]
  go_enter Tryz.func14, Tryz.ntmps14
  go_wp2_with (first | (go_at_call 24; refine (impl_one_any _ _ _ hx).mono ?_; clear hx; rintro e w' ⟨rfl, hx⟩) | (go_at_call 25; refine (impl_cx_any _ _ _ hx).mono ?_; clear hx; rintro e w' ⟨rfl, hx⟩))
  go_ret
  exact ⟨_, rfl, own_lit hx _ _ _ _ _ _ rfl (by simp [Gt.cells, g1, gcx]) rfl (by simp), hx.alloc _⟩

end Go.Proofs.YtdjckjfclhjpcaaGreat
/-
 Helper text (no claim of its own): the controlled gate, by the program and by the reference. Printed by gen_ctl.py.
-/
namespace Go.Proofs.YtdjckjfclhjpcaaGreat
open Go.ChangeShapes Go.WideShapes Go.ChangeAt Go.RowKit Go.Deep
/-- The gate and the control are such that a controlled gate is asked for rightly. -/
def ctlP (q : Int) (g : Gt) : Bool := vg g 4 && decide (0 ≤ q) && decide (q ≤ 3) && !acts g q
def ctlK (k : Int) : Bool := k == 1 || k == 2 || k == 3 || k == 4 || k == 5 || k == 6 || k == 9 || k == 10 || k == 11
def ctlOk (q : Int) (g : Gt) : Bool := ctlP q g && ctlK g.k
def ctlL (q : Int) (g : Gt) : List Gt :=
 if (g.k == 1) = true then [gcx q g.a]
 else if (g.k == 2) = true then [g1 6 g.a, gcx q g.a, g1 5 g.a]
 else if (g.k == 3) = true then [⟨10, q, g.a, 0⟩]
 else if (g.k == 4) = true then [g1 6 g.a, g1 4 g.a, g1 8 g.a, gcx q g.a, g1 7 g.a, g1 4 g.a, g1 5 g.a]
 else if (g.k == 5) = true then [g1 7 q, g1 7 g.a, gcx q g.a, g1 8 g.a, gcx q g.a]
 else if (g.k == 6) = true then [g1 8 q, g1 8 g.a, gcx q g.a, g1 7 g.a, gcx q g.a]
 else if (g.k == 9) = true then [⟨12, q, g.a, g.b⟩]
 else if (g.k == 10) = true then [g1 4 g.b, ⟨12, q, g.a, g.b⟩, g1 4 g.b]
 else if (g.k == 11) = true then [gcx g.b g.a, ⟨12, q, g.a, g.b⟩, gcx g.b g.a]
 else []
def ctlR (q : Int) (g : Gt) : List Gt := if ctlOk q g = true then ctlL q g else []
theorem ctl_no {q : Int} {g : Gt} (h : ctlOk q g = false) : ctlR q g = [] := if_neg (by simp [h])
theorem ctl_nop {q : Int} {g : Gt} (h : ctlP q g = false) : ctlOk q g = false := by unfold ctlOk; rw [h]; rfl
theorem ctl_v {q : Int} {g : Gt} (h : vg g 4 = false) : ctlP q g = false := by unfold ctlP; rw [h]; rfl
theorem ctl_q {q : Int} {g : Gt} (h : q < 0 ∨ 3 < q) : ctlP q g = false := by
 unfold ctlP
 rcases h with h | h
 ·rw [show decide (0 ≤ q) = false from by simpa using h]; simp
 ·rw [show decide (q ≤ 3) = false from by simpa using h]; simp
theorem ctl_a {q : Int} {g : Gt} (h : acts g q = true) : ctlP q g = false := by unfold ctlP; rw [h]; simp
theorem ctl_p {q : Int} {g : Gt} (h : vg g 4 = true) (h0 : 0 ≤ q) (h1 : q ≤ 3) (h2 : acts g q = false) : ctlP q g = true := by unfold ctlP; simp [h, h0, h1, h2]
theorem ctlR_len (q : Int) (g : Gt) : (ctlR q g).length ≤ 7 := by
 unfold ctlR ctlL
 split <;> (repeat (first | split | simp))
theorem ctl_1 {q : Int} {g : Gt} (hp : ctlP q g = true) (h : (g.k == 1) = true) : ctlOk q g = true ∧ ctlR q g = [gcx q g.a] := by
 have e : g.k = 1 := by simpa using h
 have h0 : ctlOk q g = true := by unfold ctlOk ctlK; rw [hp, e]; rfl
 refine ⟨h0, ?_⟩; unfold ctlR; rw [if_pos h0]; unfold ctlL; simp [e]
theorem ctl_2 {q : Int} {g : Gt} (hp : ctlP q g = true) (h : (g.k == 2) = true) : ctlOk q g = true ∧ ctlR q g = [g1 6 g.a, gcx q g.a, g1 5 g.a] := by
 have e : g.k = 2 := by simpa using h
 have h0 : ctlOk q g = true := by unfold ctlOk ctlK; rw [hp, e]; rfl
 refine ⟨h0, ?_⟩; unfold ctlR; rw [if_pos h0]; unfold ctlL; simp [e]
theorem ctl_3 {q : Int} {g : Gt} (hp : ctlP q g = true) (h : (g.k == 3) = true) : ctlOk q g = true ∧ ctlR q g = [⟨10, q, g.a, 0⟩] := by
 have e : g.k = 3 := by simpa using h
 have h0 : ctlOk q g = true := by unfold ctlOk ctlK; rw [hp, e]; rfl
 refine ⟨h0, ?_⟩; unfold ctlR; rw [if_pos h0]; unfold ctlL; simp [e]
theorem ctl_4 {q : Int} {g : Gt} (hp : ctlP q g = true) (h : (g.k == 4) = true) : ctlOk q g = true ∧ ctlR q g = [g1 6 g.a, g1 4 g.a, g1 8 g.a, gcx q g.a, g1 7 g.a, g1 4 g.a, g1 5 g.a] := by
 have e : g.k = 4 := by simpa using h
 have h0 : ctlOk q g = true := by unfold ctlOk ctlK; rw [hp, e]; rfl
 refine ⟨h0, ?_⟩; unfold ctlR; rw [if_pos h0]; unfold ctlL; simp [e]
theorem ctl_5 {q : Int} {g : Gt} (hp : ctlP q g = true) (h : (g.k == 5) = true) : ctlOk q g = true ∧ ctlR q g = [g1 7 q, g1 7 g.a, gcx q g.a, g1 8 g.a, gcx q g.a] := by
 have e : g.k = 5 := by simpa using h
 have h0 : ctlOk q g = true := by unfold ctlOk ctlK; rw [hp, e]; rfl
 refine ⟨h0, ?_⟩; unfold ctlR; rw [if_pos h0]; unfold ctlL; simp [e]
theorem ctl_6 {q : Int} {g : Gt} (hp : ctlP q g = true) (h : (g.k == 6) = true) : ctlOk q g = true ∧ ctlR q g = [g1 8 q, g1 8 g.a, gcx q g.a, g1 7 g.a, gcx q g.a] := by
 have e : g.k = 6 := by simpa using h
 have h0 : ctlOk q g = true := by unfold ctlOk ctlK; rw [hp, e]; rfl
 refine ⟨h0, ?_⟩; unfold ctlR; rw [if_pos h0]; unfold ctlL; simp [e]
theorem ctl_9 {q : Int} {g : Gt} (hp : ctlP q g = true) (h : (g.k == 9) = true) : ctlOk q g = true ∧ ctlR q g = [⟨12, q, g.a, g.b⟩] := by
 have e : g.k = 9 := by simpa using h
 have h0 : ctlOk q g = true := by unfold ctlOk ctlK; rw [hp, e]; rfl
 refine ⟨h0, ?_⟩; unfold ctlR; rw [if_pos h0]; unfold ctlL; simp [e]
theorem ctl_10 {q : Int} {g : Gt} (hp : ctlP q g = true) (h : (g.k == 10) = true) : ctlOk q g = true ∧ ctlR q g = [g1 4 g.b, ⟨12, q, g.a, g.b⟩, g1 4 g.b] := by
 have e : g.k = 10 := by simpa using h
 have h0 : ctlOk q g = true := by unfold ctlOk ctlK; rw [hp, e]; rfl
 refine ⟨h0, ?_⟩; unfold ctlR; rw [if_pos h0]; unfold ctlL; simp [e]
theorem ctl_11 {q : Int} {g : Gt} (hp : ctlP q g = true) (h : (g.k == 11) = true) : ctlOk q g = true ∧ ctlR q g = [gcx g.b g.a, ⟨12, q, g.a, g.b⟩, gcx g.b g.a] := by
 have e : g.k = 11 := by simpa using h
 have h0 : ctlOk q g = true := by unfold ctlOk ctlK; rw [hp, e]; rfl
 refine ⟨h0, ?_⟩; unfold ctlR; rw [if_pos h0]; unfold ctlL; simp [e]
theorem ctl_n {q : Int} {g : Gt} (h1 : (g.k == 1) = false) (h2 : (g.k == 2) = false) (h3 : (g.k == 3) = false) (h4 : (g.k == 4) = false) (h5 : (g.k == 5) = false) (h6 : (g.k == 6) = false) (h9 : (g.k == 9) = false) (h10 : (g.k == 10) = false) (h11 : (g.k == 11) = false) : ctlOk q g = false := by unfold ctlOk ctlK; simp [h1, h2, h3, h4, h5, h6, h9, h10, h11]
/-- What ControlledGate hands back. -/
def CtlE (w : World) (q : Int) (g : Gt) (e : Ending) (w' : World) : Prop := ∃ v, e = .returned (.tuple #[v, .bool (ctlOk q g)]) ∧ w'.ownsRow w.heap.size 38 4 v (ctlR q g).length (gcells (ctlR q g)) ∧ Ext w w'
theorem CtlE.mk {w w' : World} {q : Int} {g : Gt} {v : Value} {b : Bool} {xs : List Gt} (hb : ctlOk q g = b) (hx : ctlR q g = xs) (ho : w'.ownsRow w.heap.size 38 4 v xs.length (gcells xs)) (hw : Ext w w') : CtlE w q g (.returned (.tuple #[v, .bool b])) w' := by
 subst hb hx; exact ⟨v, rfl, ho, hw⟩

set_option maxRecDepth 100000 in
set_option maxHeartbeats 8000000 in
theorem spec_ControlledGate_any (q : Int) (g : Gt) (w : World) : Calls Tryz.prog 93 #[.int .i64 q, g.val] w (CtlE w q g) := by
 go_enter Tryz.func93, Tryz.ntmps93
 go_wp2_with fail
 have hx0 : Ext w (w.alloc (.cells #[.int .i64 g.k, .int .i64 g.a, .int .i64 g.b, .int .i64 g.c] 38)) := by exact xx
 have hb0 : Blk (w.alloc (.cells #[.int .i64 g.k, .int .i64 g.a, .int .i64 g.b, .int .i64 g.c] 38)) w.heap.size 38 #[.int .i64 g.k, .int .i64 g.a, .int .i64 g.b, .int .i64 g.c] := Blk.new _ _ _
 generalize (w.alloc (.cells #[.int .i64 g.k, .int .i64 g.a, .int .i64 g.b, .int .i64 g.c] 38)) = W at *
 refine (spec_IsValidGate_any g 4 _).mono ?_
 rintro e w1 ⟨rfl, hx1⟩
 have hx := hx0.trans hx1
 have hB := hb0.ext hx1
 clear hx0 hb0 hx1
 have b0 : w1.cell? ⟨w.heap.size, 0, none⟩ = some (.int .i64 g.k) := hB.cell 0
 have b1 : w1.cell? ⟨w.heap.size, 1, none⟩ = some (.int .i64 g.a) := hB.cell 1
 have b2 : w1.cell? ⟨w.heap.size, 2, none⟩ = some (.int .i64 g.b) := hB.cell 2
 have b3 : w1.cell? ⟨w.heap.size, 3, none⟩ = some (.int .i64 g.c) := hB.cell 3
 cases hv : vg g 4
 ·have HO := Lib.hid (ctl_nop (ctl_v (q := q) hv))
  go_wp2
  go_ret2
  exact CtlE.mk HO.out (ctl_no HO.out) (own_lit hx _ _ 4 0 #[] _ rfl rfl rfl (by omega)) (Ext.alloc hx _)
 have HV := Lib.hid hv
 clear hv
 by_cases hq : q < 0 ∨ 3 < q
 ·have HO := Lib.hid (ctl_nop (ctl_q (g := g) hq))
  have HQ := Lib.hid hq
  clear hq
  go_wp2_with fail
  refine (l1In_no _ _ _ _ HQ.out).mono ?_
  rintro e w2 ⟨rfl, rfl⟩
  go_wp2
  go_ret2
  exact CtlE.mk HO.out (ctl_no HO.out) (own_lit hx _ _ 4 0 #[] _ rfl rfl rfl (by omega)) (Ext.alloc hx _)
 have hq0 : 0 ≤ q := by omega
 have hq3 : q ≤ 3 := by omega
 clear hq
 go_wp2_with fail
 refine (l1In_yes _ _ _ _ hq0 hq3).mono ?_
 rintro e w2 ⟨rfl, rfl⟩
 go_wp2_with fail
 refine (spec_ActsOn_any g q _).mono ?_
 rintro e w2 ⟨rfl, hx2⟩
 replace hx := hx.trans hx2
 replace hB := hB.ext hx2
 clear b0 b1 b2 b3 hx2
 have b0 : w2.cell? ⟨w.heap.size, 0, none⟩ = some (.int .i64 g.k) := hB.cell 0
 have b1 : w2.cell? ⟨w.heap.size, 1, none⟩ = some (.int .i64 g.a) := hB.cell 1
 have b2 : w2.cell? ⟨w.heap.size, 2, none⟩ = some (.int .i64 g.b) := hB.cell 2
 have b3 : w2.cell? ⟨w.heap.size, 3, none⟩ = some (.int .i64 g.c) := hB.cell 3
 cases ha : acts g q
 case true =>
  have HO := Lib.hid (ctl_nop (ctl_a ha))
  go_wp2
  go_ret2
  exact CtlE.mk HO.out (ctl_no HO.out) (own_lit hx _ _ 4 0 #[] _ rfl rfl rfl (by omega)) (Ext.alloc hx _)
 have HP := Lib.hid (ctl_p HV.out hq0 hq3 ha)
 clear ha
 go_upto_region 6 with (fail)
 have hT : Blk (w2.alloc (.cells #[.int .i64 12, .int .i64 q, .int .i64 g.a, .int .i64 g.b] 38)) w2.heap.size 38 #[.int .i64 12, .int .i64 q, .int .i64 g.a, .int .i64 g.b] := Blk.new _ _ _
 replace hx := hx.alloc (.cells #[.int .i64 12, .int .i64 q, .int .i64 g.a, .int .i64 g.b] 38)
 replace hB := hB.alloc (.cells #[.int .i64 12, .int .i64 q, .int .i64 g.a, .int .i64 g.b] 38)
 clear b0 b1 b2 b3
 have hs : w2.heap.size = w2.heap.size := rfl
 generalize hW : (w2.alloc (.cells #[.int .i64 12, .int .i64 q, .int .i64 g.a, .int .i64 g.b] 38)) = W3 at *
 clear hW hs
 generalize w2.heap.size = s at *
 have b0 : W3.cell? ⟨w.heap.size, 0, none⟩ = some (.int .i64 g.k) := hB.cell 0
 have b1 : W3.cell? ⟨w.heap.size, 1, none⟩ = some (.int .i64 g.a) := hB.cell 1
 have b2 : W3.cell? ⟨w.heap.size, 2, none⟩ = some (.int .i64 g.b) := hB.cell 2
 have b3 : W3.cell? ⟨w.heap.size, 3, none⟩ = some (.int .i64 g.c) := hB.cell 3
 have c0 : W3.cell? ⟨s, 0, none⟩ = some (.int .i64 12) := hT.cell 0
 have c1 : W3.cell? ⟨s, 1, none⟩ = some (.int .i64 q) := hT.cell 1
 have c2 : W3.cell? ⟨s, 2, none⟩ = some (.int .i64 g.a) := hT.cell 2
 have c3 : W3.cell? ⟨s, 3, none⟩ = some (.int .i64 g.b) := hT.cell 3
 cases h1 : (g.k == 1)
 case true =>
  have HO := Lib.hid (ctl_1 HP.out h1)
  have hz := hx
  go_wp2_with (first | (go_at_call 26; refine (spec_one_any _ _ _ hz).mono ?_; clear hz; rintro e w' ⟨rfl, hz⟩) | (go_at_call 27; refine (spec_cx_any _ _ _ hz).mono ?_; clear hz; rintro e w' ⟨rfl, hz⟩))
  go_ret2
  exact CtlE.mk HO.out.1 HO.out.2 (own_lit (by exact xx) _ _ 4 1 #[.int .i64 9, .int .i64 q, .int .i64 g.a, .int .i64 0] _ rfl rfl rfl (by omega)) (by exact xx)
 cases h2 : (g.k == 2)
 case true =>
  have HO := Lib.hid (ctl_2 HP.out h2)
  have hz := hx
  go_wp2_with (first | (go_at_call 26; refine (spec_one_any _ _ _ hz).mono ?_; clear hz; rintro e w' ⟨rfl, hz⟩) | (go_at_call 27; refine (spec_cx_any _ _ _ hz).mono ?_; clear hz; rintro e w' ⟨rfl, hz⟩))
  go_ret2
  exact CtlE.mk HO.out.1 HO.out.2 (own_lit (by exact xx) _ _ 4 3 #[.int .i64 6, .int .i64 g.a, .int .i64 0, .int .i64 0, .int .i64 9, .int .i64 q, .int .i64 g.a, .int .i64 0, .int .i64 5, .int .i64 g.a, .int .i64 0, .int .i64 0] _ rfl rfl rfl (by omega)) (by exact xx)
 cases h3 : (g.k == 3)
 case true =>
  have HO := Lib.hid (ctl_3 HP.out h3)
  have hz := hx
  go_wp2_with (first | (go_at_call 26; refine (spec_one_any _ _ _ hz).mono ?_; clear hz; rintro e w' ⟨rfl, hz⟩) | (go_at_call 27; refine (spec_cx_any _ _ _ hz).mono ?_; clear hz; rintro e w' ⟨rfl, hz⟩))
  go_ret2
  exact CtlE.mk HO.out.1 HO.out.2 (own_lit (by exact xx) _ _ 4 1 #[.int .i64 10, .int .i64 q, .int .i64 g.a, .int .i64 0] _ rfl rfl rfl (by omega)) (by exact xx)
 cases h4 : (g.k == 4)
 case true =>
  have HO := Lib.hid (ctl_4 HP.out h4)
  have hz := hx
  go_wp2_with (first | (go_at_call 26; refine (spec_one_any _ _ _ hz).mono ?_; clear hz; rintro e w' ⟨rfl, hz⟩) | (go_at_call 27; refine (spec_cx_any _ _ _ hz).mono ?_; clear hz; rintro e w' ⟨rfl, hz⟩))
  go_ret2
  exact CtlE.mk HO.out.1 HO.out.2 (own_lit (by exact xx) _ _ 4 7 #[.int .i64 6, .int .i64 g.a, .int .i64 0, .int .i64 0, .int .i64 4, .int .i64 g.a, .int .i64 0, .int .i64 0, .int .i64 8, .int .i64 g.a, .int .i64 0, .int .i64 0, .int .i64 9, .int .i64 q, .int .i64 g.a, .int .i64 0, .int .i64 7, .int .i64 g.a, .int .i64 0, .int .i64 0, .int .i64 4, .int .i64 g.a, .int .i64 0, .int .i64 0, .int .i64 5, .int .i64 g.a, .int .i64 0, .int .i64 0] _ rfl rfl rfl (by omega)) (by exact xx)
 cases h5 : (g.k == 5)
 case true =>
  have HO := Lib.hid (ctl_5 HP.out h5)
  have hz := hx
  go_wp2_with (first | (go_at_call 26; refine (spec_one_any _ _ _ hz).mono ?_; clear hz; rintro e w' ⟨rfl, hz⟩) | (go_at_call 27; refine (spec_cx_any _ _ _ hz).mono ?_; clear hz; rintro e w' ⟨rfl, hz⟩))
  go_ret2
  exact CtlE.mk HO.out.1 HO.out.2 (own_lit (by exact xx) _ _ 4 5 #[.int .i64 7, .int .i64 q, .int .i64 0, .int .i64 0, .int .i64 7, .int .i64 g.a, .int .i64 0, .int .i64 0, .int .i64 9, .int .i64 q, .int .i64 g.a, .int .i64 0, .int .i64 8, .int .i64 g.a, .int .i64 0, .int .i64 0, .int .i64 9, .int .i64 q, .int .i64 g.a, .int .i64 0] _ rfl rfl rfl (by omega)) (by exact xx)
 cases h6 : (g.k == 6)
 case true =>
  have HO := Lib.hid (ctl_6 HP.out h6)
  have hz := hx
  go_wp2_with (first | (go_at_call 26; refine (spec_one_any _ _ _ hz).mono ?_; clear hz; rintro e w' ⟨rfl, hz⟩) | (go_at_call 27; refine (spec_cx_any _ _ _ hz).mono ?_; clear hz; rintro e w' ⟨rfl, hz⟩))
  go_ret2
  exact CtlE.mk HO.out.1 HO.out.2 (own_lit (by exact xx) _ _ 4 5 #[.int .i64 8, .int .i64 q, .int .i64 0, .int .i64 0, .int .i64 8, .int .i64 g.a, .int .i64 0, .int .i64 0, .int .i64 9, .int .i64 q, .int .i64 g.a, .int .i64 0, .int .i64 7, .int .i64 g.a, .int .i64 0, .int .i64 0, .int .i64 9, .int .i64 q, .int .i64 g.a, .int .i64 0] _ rfl rfl rfl (by omega)) (by exact xx)
 cases h9 : (g.k == 9)
 case true =>
  have HO := Lib.hid (ctl_9 HP.out h9)
  have hz := hx
  go_wp2_with (first | (go_at_call 26; refine (spec_one_any _ _ _ hz).mono ?_; clear hz; rintro e w' ⟨rfl, hz⟩) | (go_at_call 27; refine (spec_cx_any _ _ _ hz).mono ?_; clear hz; rintro e w' ⟨rfl, hz⟩))
  go_ret2
  exact CtlE.mk HO.out.1 HO.out.2 (own_lit (by exact xx) _ _ 4 1 #[.int .i64 12, .int .i64 q, .int .i64 g.a, .int .i64 g.b] _ rfl rfl rfl (by omega)) (by exact xx)
 cases h10 : (g.k == 10)
 case true =>
  have HO := Lib.hid (ctl_10 HP.out h10)
  have hz := hx
  have HK : Hid (∀ w', Blk w' s 38 #[.int .i64 12, .int .i64 q, .int .i64 g.a, .int .i64 g.b] → w'.cell? ⟨s, 0, none⟩ = some (.int .i64 12) ∧ w'.cell? ⟨s, 1, none⟩ = some (.int .i64 q) ∧ w'.cell? ⟨s, 2, none⟩ = some (.int .i64 g.a) ∧ w'.cell? ⟨s, 3, none⟩ = some (.int .i64 g.b)) := fun w' q1 => ⟨q1.cell 0, q1.cell 1, q1.cell 2, q1.cell 3⟩
  go_wp2
  have hz0 := Ext.refl W3
  go_region_held3 (fun w' => w'.cell? ⟨s, 0, none⟩ = some (.int .i64 12) ∧ w'.cell? ⟨s, 1, none⟩ = some (.int .i64 q) ∧ w'.cell? ⟨s, 2, none⟩ = some (.int .i64 g.a) ∧ w'.cell? ⟨s, 3, none⟩ = some (.int .i64 g.b))
   (first | go_keep | exact HK.out _ (hT.ext (by assumption)))
   (first | (go_at_call 26; (with_reducible refine (spec_one_any (w0 := W3) _ _ _ (by exact xx)).mono ?_); clear hz0; rintro e w' ⟨rfl, hz0⟩))
  all_goals
   go_wp2
   go_ret2
   exact CtlE.mk HO.out.1 HO.out.2 (own_lit (hx.trans (by exact xx)) _ _ 4 3 #[.int .i64 4, .int .i64 g.b, .int .i64 0, .int .i64 0, .int .i64 12, .int .i64 q, .int .i64 g.a, .int .i64 g.b, .int .i64 4, .int .i64 g.b, .int .i64 0, .int .i64 0] _ rfl rfl rfl (by omega)) (hx.trans (by exact xx))
 cases h11 : (g.k == 11)
 case true =>
  have HO := Lib.hid (ctl_11 HP.out h11)
  have hz := hx
  have HK : Hid (∀ w', Blk w' s 38 #[.int .i64 12, .int .i64 q, .int .i64 g.a, .int .i64 g.b] → w'.cell? ⟨s, 0, none⟩ = some (.int .i64 12) ∧ w'.cell? ⟨s, 1, none⟩ = some (.int .i64 q) ∧ w'.cell? ⟨s, 2, none⟩ = some (.int .i64 g.a) ∧ w'.cell? ⟨s, 3, none⟩ = some (.int .i64 g.b)) := fun w' q1 => ⟨q1.cell 0, q1.cell 1, q1.cell 2, q1.cell 3⟩
  go_wp2
  have hz0 := Ext.refl W3
  go_region_held3 (fun w' => w'.cell? ⟨s, 0, none⟩ = some (.int .i64 12) ∧ w'.cell? ⟨s, 1, none⟩ = some (.int .i64 q) ∧ w'.cell? ⟨s, 2, none⟩ = some (.int .i64 g.a) ∧ w'.cell? ⟨s, 3, none⟩ = some (.int .i64 g.b))
   (first | go_keep | exact HK.out _ (hT.ext (by assumption)))
   (first | (go_at_call 27; (with_reducible refine (spec_cx_any (w0 := W3) _ _ _ (by exact xx)).mono ?_); clear hz0; rintro e w' ⟨rfl, hz0⟩))
  all_goals
   go_wp2
   go_ret2
   exact CtlE.mk HO.out.1 HO.out.2 (own_lit (hx.trans (by exact xx)) _ _ 4 3 #[.int .i64 9, .int .i64 g.b, .int .i64 g.a, .int .i64 0, .int .i64 12, .int .i64 q, .int .i64 g.a, .int .i64 g.b, .int .i64 9, .int .i64 g.b, .int .i64 g.a, .int .i64 0] _ rfl rfl rfl (by omega)) (hx.trans (by exact xx))
 have HO := Lib.hid (ctl_n (q := q) (g := g) h1 h2 h3 h4 h5 h6 h9 h10 h11)
 go_wp2
 go_ret2
 exact CtlE.mk HO.out (ctl_no HO.out) (own_lit hx _ _ 4 0 #[] _ rfl rfl rfl (by omega)) (Ext.alloc hx _)
end Go.Proofs.YtdjckjfclhjpcaaGreat
/-
 Helper text (no claim of its own): lists that are all right, and what each element gives.
-/
namespace Go.Proofs.YtdjckjfclhjpcaaGreat
open Go.ChangeShapes Go.WideShapes Go.ChangeAt Go.RowKit Go.Deep
/-! ### Lists that are all right, and what each element gives -/
section
variable {α β : Type} {xs : List α} {x : α} {k m : Nat}
theorem all_no {f : α → Bool} (h : xs[k]? = some x) (hf : f x = false) : xs.all f = false := by
 rw [List.all_eq_false]
 exact ⟨x, List.mem_of_getElem? h, by simp [hf]⟩
theorem all_snoc {f : α → Bool} (h : xs[k]? = some x) (hq : (xs.take k).all f = true) (hf : f x = true) : (xs.take (k + 1)).all f = true := by
 rw [take_snoc h, List.all_append, hq]; simp [hf]
theorem fm_snoc (f : α → List β) (h : xs[k]? = some x) : (xs.take (k + 1)).flatMap f = (xs.take k).flatMap f ++ f x := by
 rw [take_snoc h, List.flatMap_append]; simp
theorem fm_len (f : α → List β) (hf : ∀ x, (f x).length ≤ m) (xs : List α) : (xs.flatMap f).length ≤ m * xs.length := by
 induction xs with
 | nil => simp
 | cons o xs ih => have := hf o; rw [List.flatMap_cons, List.length_append, List.length_cons, Nat.mul_succ]; omega
theorem fm_take (f : α → List β) (hf : ∀ x, (f x).length ≤ m) (xs : List α) (k : Nat) : ((xs.take k).flatMap f).length ≤ m * k :=
 Nat.le_trans (fm_len f hf _) (Nat.mul_le_mul_left _ (List.length_take_le _ _))
end
/-- What a list gives that is right throughout; nothing else gives anything. -/
def allR {α β : Type} (ok : α → Bool) (f : α → List β) (xs : List α) : List β := if xs.all ok = true then xs.flatMap f else []
theorem allR_no {α β : Type} {ok : α → Bool} {f : α → List β} {xs : List α} (h : xs.all ok = false) : allR ok f xs = [] := if_neg (by simp [h])
theorem allR_yes {α β : Type} {ok : α → Bool} {f : α → List β} {xs : List α} (h : xs.all ok = true) : allR ok f xs = xs.flatMap f := if_pos h
def AllE {α : Type} (T size : Nat) (cells : List α → List Value) (w : World) (ok : Bool) (r : List α) (e : Ending) (w' : World) : Prop := ∃ v, e = .returned (.tuple #[v, .bool ok]) ∧ w'.ownsRow w.heap.size T size v r.length (cells r) ∧ Ext w w'
theorem AllE.mk {α : Type} {T size : Nat} {cells : List α → List Value} {w w' : World} {v : Value} {ok b : Bool} {r xs : List α} (hb : ok = b) (hx : r = xs) (ho : w'.ownsRow w.heap.size T size v xs.length (cells xs)) (hw : Ext w w') : AllE T size cells w ok r (.returned (.tuple #[v, .bool b])) w' := by
 subst hb hx; exact ⟨v, rfl, ho, hw⟩

end Go.Proofs.YtdjckjfclhjpcaaGreat
/-
 Helper text (no claim of its own): gates as ops, by the program and by the reference.
-/
namespace Go.Proofs.YtdjckjfclhjpcaaGreat
open Go.ChangeShapes Go.WideShapes Go.ChangeAt Go.RowKit Go.Deep
def gop (c : Int) (g : Gt) : Oq := ⟨1, g, 0, 0, c⟩
def gops (gs : List Gt) (c : Int) : List Oq := gs.map (gop c)
theorem gops_snoc {gs : List Gt} {k : Nat} {g : Gt} (c : Int) (h : gs[k]? = some g) : gops (gs.take (k + 1)) c = gops (gs.take k) c ++ [gop c g] := by
 unfold gops; rw [take_snoc h]; simp
theorem gops_len (gs : List Gt) (c : Int) : (gops gs c).length = gs.length := by simp [gops]
theorem gops_take (gs : List Gt) (c : Int) (k : Nat) : (gops (gs.take k) c).length ≤ k := by rw [gops_len]; exact List.length_take_le _ _

set_option maxRecDepth 100000 in
set_option maxHeartbeats 1000000 in
theorem spec_GateOps_any (A : Option Addr) (n c : Nat) (gs : List Gt) (q : Int) (w : World) (h : Rd w w.heap.size 4 A n (gcells gs)) (hn : n ≤ 200000000000) :
  Calls Tryz.prog 15 #[.slice A n c, .int .i64 q] w fun e w' => ∃ v, e = .returned v ∧ w'.ownsRow w.heap.size 40 8 v (gops gs q).length (ocells (gops gs q)) ∧ Ext w w' := by
 have hlen := Lib.hid (h.len Gt.cells_len (by omega))
 go_enter Tryz.func15, Tryz.ntmps15
 go_wp2
 go_loopw [5, 6] (fun v i wr => ∃ k : Nat, k ≤ n ∧ i = .int .i64 k ∧ wr.ownsRow w.heap.size 40 8 v (gops (gs.take k) q).length (ocells (gops (gs.take k) q)) ∧ Ext w wr) (fun _ i _ => n - (intOf i).toNat)
 case atStart => exact ⟨0, Nat.zero_le _, rfl, own_empty w w _ _ (Ext.refl _), xx⟩
 case round =>
  obtain ⟨k, hk, rfl, hown, hx⟩ := hrel
  by_cases hlt : k < n
  ·obtain ⟨b, o, x, rfl, hb, hg, h0, h1, h2, h3⟩ := gate_at (h.ext hx) hlt
   have HS := Lib.hid (gops_snoc q hg)
   clear hg
   have hle := gops_take gs q k
   go_wp2_with (at_builtin; refine appOp rfl _ _ rfl _ _ (gops (gs.take k) q) rfl hown hx (gop q x) _ _ rfl rfl (by omega) ?_; intro v1 w1 hown1 hx1 hg1 hb1)
   go_roundw
   case rel => exact ⟨k + 1, by omega, by go_num, by rw [HS.out, List.length_append]; exact hown1, hx1⟩
   case measure => simp [intOf]; omega
  ·rw [List.take_of_length_le (by rw [hlen.out]; omega)] at hown
   go_wp2
   go_ret
   exact ⟨_, rfl, hown, hx⟩

set_option maxRecDepth 100000 in
set_option maxHeartbeats 1000000 in
theorem impl_GateOps_any (A : Option Addr) (n c : Nat) (gs : List Gt) (q : Int) (w : World) (h : Rd w w.heap.size 4 A n (gcells gs)) (hn : n ≤ 200000000000) :
  Calls Tryz.prog 13 #[.slice A n c, .int .i64 q] w fun e w' => ∃ v, e = .returned v ∧ w'.ownsRow w.heap.size 40 8 v (gops gs q).length (ocells (gops gs q)) ∧ Ext w w' := by
 have hlen := Lib.hid (h.len Gt.cells_len (by omega))
 go_enter Tryz.func13, Tryz.ntmps13
 go_wp2
 go_loopw [5, 11] (fun v i wr => ∃ k : Nat, k ≤ n ∧ i = .int .i64 k ∧ wr.ownsRow w.heap.size 40 8 v (gops (gs.take k) q).length (ocells (gops (gs.take k) q)) ∧ Ext w wr) (fun _ i _ => n - (intOf i).toNat)
 case atStart => exact ⟨0, Nat.zero_le _, rfl, own_empty w w _ _ (Ext.refl _), xx⟩
 case round =>
  obtain ⟨k, hk, rfl, hown, hx⟩ := hrel
  by_cases hlt : k < n
  ·obtain ⟨b, o, x, rfl, hb, hg, h0, h1, h2, h3⟩ := gate_at (h.ext hx) hlt
   have HS := Lib.hid (gops_snoc q hg)
   clear hg
   have hle := gops_take gs q k
   go_wp2_with (at_builtin; refine appOp rfl _ _ rfl _ _ (gops (gs.take k) q) rfl (hown.alloc _) (hx.alloc _) (gop q x) _ _ rfl (by simp) (by omega) ?_; intro v1 w1 hown1 hx1 hg1 hb1)
   go_roundw
   case rel => exact ⟨k + 1, by omega, by go_num, by rw [HS.out, List.length_append]; exact hown1, hx1⟩
   case measure => simp [intOf]; omega
  ·rw [List.take_of_length_le (by rw [hlen.out]; omega)] at hown
   go_wp2
   go_ret
   exact ⟨_, rfl, hown, hx⟩
end Go.Proofs.YtdjckjfclhjpcaaGreat
/-
 Helper text (no claim of its own): controlled lists of gates and of ops.
-/
namespace Go.Proofs.YtdjckjfclhjpcaaGreat
open Go.ChangeShapes Go.WideShapes Go.ChangeAt Go.RowKit Go.Deep
/-- Whether an op can be controlled, and what it gives. -/
def ctoOk (q : Int) (o : Oq) : Bool := o.k != 1 || ctlOk q o.g
def ctoR (q : Int) (o : Oq) : List Oq := if (o.k == 1) = true then gops (ctlR q o.g) o.cond else [o]
theorem ctoR_len (q : Int) (o : Oq) : (ctoR q o).length ≤ 7 := by
 unfold ctoR
 split
 ·rw [gops_len]; exact ctlR_len _ _
 ·simp
theorem cto_n {q : Int} {o : Oq} (h : (o.k == 1) = false) : ctoOk q o = true ∧ ctoR q o = [o] := by
 unfold ctoOk ctoR; simp [bne, h]
theorem cto_1 {q : Int} {o : Oq} (h : (o.k == 1) = true) : ctoOk q o = ctlOk q o.g ∧ ctoR q o = gops (ctlR q o.g) o.cond := by
 unfold ctoOk ctoR; simp [bne, h]
set_option maxRecDepth 100000 in
set_option maxHeartbeats 8000000 in
theorem spec_ControlledOps_any (q : Int) (A : Option Addr) (n c : Nat) (xs : List Oq) (w : World) (h : Rd w w.heap.size 8 A n (ocells xs)) (hn : n ≤ 1048576) :
  Calls Tryz.prog 75 #[.int .i64 q, .slice A n c] w (AllE 40 8 ocells w (xs.all (ctoOk q)) (allR (ctoOk q) (ctoR q) xs)) := by
 have hlen := Lib.hid (h.len Oq.cells_len (by omega))
 go_enter Tryz.func75, Tryz.ntmps75
 go_wp2
 go_loopw [6, 7] (fun v i wr => ∃ k : Nat, k ≤ n ∧ i = .int .i64 k ∧ Hid ((xs.take k).all (ctoOk q) = true) ∧ wr.ownsRow w.heap.size 40 8 v ((xs.take k).flatMap (ctoR q)).length (ocells ((xs.take k).flatMap (ctoR q))) ∧ Ext w wr) (fun _ i _ => n - (intOf i).toNat)
 case atStart => exact ⟨0, Nat.zero_le _, rfl, Lib.hid (by simp), own_empty w w _ _ (Ext.refl _), xx⟩
 case round =>
  obtain ⟨k, hk, rfl, HQ, hown, hx⟩ := hrel
  by_cases hlt : k < n
  ·obtain ⟨b, o, x, rfl, hb, hg, r0, r1, r2, r3, r4, r5, r6, r7⟩ := op_at (h.ext hx) hlt
   have HG := Lib.hid hg
   clear hg
   have hf := fm_take (ctoR q) (ctoR_len q) xs k
   have hol := ctlR_len q x.g
   cases hk1 : (x.k == 1)
   ·have hk1' : (x.k != 1) = true := by simp [bne, hk1]
    have HC := Lib.hid (cto_n (q := q) hk1)
    have HQ2 := Lib.hid (all_snoc HG.out HQ.out HC.out.1)
    have HS := Lib.hid (fm_snoc (ctoR q) HG.out)
    go_wp2_with (at_builtin; refine appOp rfl _ _ rfl _ _ ((xs.take k).flatMap (ctoR q)) rfl hown hx x _ _ rfl (by simp) (by omega) ?_; intro v1 w1 hown1 hx1 hg1 hb1)
    go_roundw
    case rel => exact ⟨k + 1, by omega, by go_num, HQ2, by rw [HS.out, HC.out.2, List.length_append]; exact hown1, hx1⟩
    case measure => simp [intOf]; omega
   ·have hk1' : (x.k != 1) = false := by simp [bne, hk1]
    have HC := Lib.hid (cto_1 (q := q) hk1)
    go_wp2_with fail
    refine (spec_ControlledGate_any q x.g _).mono ?_
    rintro e w1 ⟨v1, rfl, hl1, hy1⟩
    have hy0 := hy1
    have q0 := (hy0.cell (p := ⟨b, o + k * 8 + 7, none⟩) hb).trans r7
    obtain ⟨A1', c1', rfl, hr1⟩ := own_slice hl1
    have hx1 := hx.trans hy1
    have ho1 := own_ext hown hy1
    clear r0 r1 r2 r3 r4 r5 r6  hl1
    cases hok : ctlOk q x.g
    ·have HO := Lib.hid (all_no HG.out (HC.out.1.trans hok))
     go_wp2
     go_ret2
     exact AllE.mk HO.out (allR_no HO.out) (own_lit hx1 _ _ 8 0 #[] _ rfl rfl rfl (by omega)) (Ext.alloc hx1 _)
    ·have HQ2 := Lib.hid (all_snoc HG.out HQ.out (HC.out.1.trans hok))
     have HS := Lib.hid (fm_snoc (ctoR q) HG.out)
     go_wp2_with fail
     refine (spec_GateOps_any A1' _ c1' (ctlR q x.g) x.cond _ hr1 (by omega)).mono ?_
     rintro e w2 ⟨v2, rfl, hl2, hy2⟩
     have HL := Lib.hid (gops_len (ctlR q x.g) x.cond)
     obtain ⟨A2', c2', rfl, hr2⟩ := own_slice hl2
     have hx2 := hx1.trans hy2
     have ho2 := own_ext ho1 hy2
     clear hl2
     go_wp2_with (at_builtin; refine appOpS (w0 := w) rfl _ _ rfl _ _ ((xs.take k).flatMap (ctoR q)) rfl ho2 hx2 A2' _ c2' (gops (ctlR q x.g) x.cond) rfl hr2 (by rw [HL.out]; omega) ?_; intro v3 w3 ho3 hx3 hg3 hl3)
     go_roundw
     case rel => exact ⟨k + 1, by omega, by go_num, HQ2, by rw [HS.out, HC.out.2, List.length_append]; exact ho3, hx3⟩
     case measure => simp [intOf]; omega
  ·rw [List.take_of_length_le (by rw [hlen.out]; omega)] at hown HQ
   go_wp2
   go_ret2
   exact AllE.mk HQ.out (allR_yes HQ.out) hown hx
end Go.Proofs.YtdjckjfclhjpcaaGreat
namespace Go.Proofs.YtdjckjfclhjpcaaGreat
open Go.ChangeShapes Go.WideShapes Go.ChangeAt Go.RowKit Go.Deep
set_option linter.unusedVariables false
set_option linter.unusedSimpArgs false
/-- How many bits a statement may add. -/
def cC : Nat → Nat
 | 0 => 0
 | d + 1 => 1 + 10 * cC d
/-- What elaboration returns and changes. -/
def El (w : World) (N : Nat) (ge : Nat) (An : Option Addr) (nn cn bd : Nat) (e : Ending) (w' : World) : Prop := ROps w N e w' ∧ En w' ge An nn cn bd ∧ w.grownBy w' (some ge)
def ElA (d : Nat) : Prop := ∀ (A : Option Addr) (n c : Nat) (An : Option Addr) (nn cn bd ge : Nat) (KS : Nat → Prop) (w : World), Ss d w KS A n → (∀ b, KS b → b ≠ ge ∧ b < w.heap.size) → En w ge An nn cn bd → nn + d ≤ 900 → bd + 10 * cC d ≤ 1000000 →
 Calls Tryz.prog 37 #[.slice A n c, .pointer (some ⟨ge, 0, none⟩)] w (El w 2000 ge An nn cn (bd + 10 * cC d))
theorem ROps.base {w w1 w' : World} {N M : Nat} {e : Ending} (h : ROps w1 N e w') (hw : w.heap.size ≤ w1.heap.size) (hN : N ≤ M) : ROps w M e w' := by
 obtain ⟨A, c, xs, h1, h2, h3⟩ := h
 exact ⟨A, c, xs, h1, own_base h2 hw, Nat.le_trans h3 hN⟩
set_option maxRecDepth 100000 in
set_option maxHeartbeats 8000000 in
theorem l22All_of {d : Nat} (hst : ∀ (xk : Int) (wd : ByteArray) (A : Option Addr) (n c : Nat) (cnt : Int) (B : Option Addr) (m e : Nat) (An : Option Addr) (nn cn bd ge : Nat) (KS : Nat → Prop) (w : World), Sv d w KS ⟨xk, wd, A, n, c, cnt, B, m, e⟩ → (∀ b, KS b → b ≠ ge ∧ b < w.heap.size) → En w ge An nn cn bd → nn + d ≤ 900 → bd + cC d ≤ 1000000 →
  Calls Tryz.prog 60 #[.agg #[.int .i64 xk, .string wd, .slice A n c, .int .i64 cnt, .slice B m e], .pointer (some ⟨ge, 0, none⟩)] w (El w 20000 ge An nn cn (bd + cC d))) : ElA d := by
 intro A n c An nn cn bd ge KS w hs hKS hE hnn hbd
 have hn := hs.1
 have HST := Lib.hid hst
 have HSS := Lib.hid hs
 have HKS := Lib.hid hKS
 have hgl := hE.lt
 have HE0 : Hid (En (w.alloc (.cells #[] 40)) ge An nn cn bd) := hE.ext ((Ext.refl w).alloc _)
 have HG0 : Hid (w.grownBy (w.alloc (.cells #[] 40)) (some ge)) := ((Ext.refl w).alloc _).gr _
 have HO0 : Hid ((w.alloc (.cells #[] 40)).ownsRow w.heap.size 40 8 (.slice (some ⟨w.heap.size, 0, none⟩) 0 0) 0 (ocells [])) := own_empty w w _ 8 (Ext.refl _)
 clear hst hs hKS hE
 go_enter Tryz.func37, Tryz.ntmps37
 go_wp2
 go_loopw [5, 6] (fun v i wr => ∃ (k : Nat) (A' : Option Addr) (c' : Nat) (ys : List Oq), k ≤ n ∧ i = .int .i64 k ∧ v = .slice A' ys.length c' ∧ Hid (ys.length ≤ 2000 ∧ wr.ownsRow w.heap.size 40 8 (.slice A' ys.length c') ys.length (ocells ys) ∧ En wr ge An nn cn (bd + k * cC d) ∧ w.grownBy wr (some ge))) (fun _ i _ => n - (intOf i).toNat)
 case atStart => exact ⟨0, _, 0, [], Nat.zero_le _, rfl, rfl, Nat.zero_le _, HO0.out, by rw [Nat.zero_mul]; exact HE0.out, HG0.out⟩
 case round =>
  clear HE0 HG0 HO0
  obtain ⟨k, A', c', ys, hk, rfl, rfl, HR⟩ := hrel
  have hsz := HR.out.2.2.2.size
  have hyl := HR.out.1
  by_cases hlt : k < n
  ·have hs2 : Ss d wr KS A n := HSS.out.keep (fun b hb => HR.out.2.2.2.block b (HKS.out b hb).2 (fun e => (HKS.out b hb).1 (by injection e))) fun _ h => h
   have hK2 : ∀ b, KS b → b ≠ ge ∧ b < wr.heap.size := fun b hb => ⟨(HKS.out b hb).1, Nat.lt_of_lt_of_le (HKS.out b hb).2 hsz⟩
   obtain ⟨zs, a1, a2⟩ := hs2.2
   obtain ⟨b, o, x, rfl, hb, hg, r0, r1, r2, r3, r4⟩ := sc_at (a1.rd fun b hb => (hK2 b hb).2) hlt
   have hv := a2 x (List.mem_of_getElem? hg)
   obtain ⟨xk, wd, A1, n1, c1, cnt, B1, m1, e1⟩ := x
   simp only at r0 r1 r2 r3 r4
   have hkc : k * cC d ≤ 9 * cC d := Nat.mul_le_mul_right _ (by omega)
   have HC := Lib.hid (HST.out xk wd A1 n1 c1 cnt B1 m1 e1 An nn cn (bd + k * cC d) ge KS wr hv hK2 HR.out.2.2.1 hnn (by omega))
   clear hv a1 a2 hg hs2 hK2
   go_wp2_with fail
   refine HC.out.mono ?_
   rintro e w1 ⟨⟨A2, c2, zs2, rfl, ho2, hl2⟩, he2, hg2⟩
   have hsz2 := hg2.size
   have hown : w1.ownsRow w.heap.size 40 8 (.slice A' ys.length c') ys.length (ocells ys) := own_kept HR.out.2.1 hg2 (fun g hg => by injection hg; omega)
   have hcw : (cutW w1 w.heap.size).heap.size = w.heap.size := cutW_size (by omega)
   go_upto_region 6 with (at_builtin; refine appOpS (w0 := cutW w1 w.heap.size) rfl _ _ rfl _ ys.length ys rfl (by rw [hcw]; exact hown) (cutW_ext (by omega)) A2 zs2.length c2 zs2 rfl (Rd.own ho2) (by omega) ?_; intro v3 w3 g1 g2 g3 g4; rw [hcw] at g1; rw [← List.length_append] at g1; obtain ⟨A3, c3, rfl, -⟩ := own_slice g1)
   have HN3 : Hid (En w3 ge An nn cn (bd + k * cC d + cC d)) := he2.grown hown g3
   have HG3 : Hid (w.grownBy w3 (some ge)) := gr_new (gr_trans HR.out.2.2.2 hg2) g3 (fun q hq => (hown.lt q hq).1)
   have HO3 := Lib.hid g1
   clear g1 g2 g3 g4 hown ho2 he2 hg2 HC
   by_cases hle : (ys ++ zs2).length ≤ 2000
   ·have hli : ¬ ((ys.length : Int) + (zs2.length : Int)) > 2000 := by rw [List.length_append] at hle; omega
    have hli2 : ¬ (((ys ++ zs2).length : Nat) : Int) > 2000 := by omega
    go_wp2
    go_roundw
    case rel => exact ⟨k + 1, A3, c3, ys ++ zs2, by omega, by go_num, by rw [List.length_append], hle, HO3.out, by rw [Nat.add_mul, Nat.one_mul, ← Nat.add_assoc]; exact HN3.out, HG3.out⟩
    case measure => simp [intOf]; omega
   ·have hli : ((ys.length : Int) + (zs2.length : Int)) > 2000 := by rw [List.length_append] at hle; omega
    have hli2 : (((ys ++ zs2).length : Nat) : Int) > 2000 := by omega
    obtain ⟨e1, Ab, nb, cb, mo, lg, e2, e3, e4, e5⟩ := HN3.out
    have y3 : w3.cell? ⟨ge, 3, none⟩ = some (.bool lg) := e2.cell 3
    have f3 := e2.frozen 3
    have hgl3 := e2.lt
    have HB4 : Hid (Blk (w3.setCell ⟨ge, 3, none⟩ (.bool true)) ge 77 #[.slice An nn cn, .slice Ab nb cb, .int .i64 mo, .bool true]) := e2.set_ 3 _
    have hk4 : ∀ b cs, Blk w3 b 9 cs → (w3.setCell ⟨ge, 3, none⟩ (.bool true)).heap[b]? = w3.heap[b]? := fun b cs hb => Below.heap_setCell w3 ⟨ge, 3, none⟩ _ b (blk_ne hb e2 (by decide))
    have HE4 : Hid (En (w3.setCell ⟨ge, 3, none⟩ (.bool true)) ge An nn cn (bd + 10 * cC d)) := ⟨e1.keep hk4, Ab, nb, cb, mo, true, HB4.out, by omega, e4, e5.keep hk4⟩
    have HG4 : Hid (w.grownBy (w3.setCell ⟨ge, 3, none⟩ (.bool true)) (some ge)) := gr_setCell HG3.out 3 _
    clear e1 e2 e3 e4 e5 hk4
    go_upto_region 8 with (fail)
    clear y3 f3
    generalize w3.setCell ⟨ge, 3, none⟩ (.bool true) = w4 at *
    have hsz4 := HG4.out.size
    go_wp2
    go_ret
    refine ⟨⟨_, _, [], rfl, ?_, by simp⟩, HE4.out.ext ((Ext.refl w4).alloc _), gr_ext HG4.out ((Ext.refl w4).alloc _)⟩
    exact own_base (own_empty w4 w4 _ 8 (Ext.refl _)) hsz4
  ·obtain rfl : k = n := by omega
   have hkc : k * cC d ≤ 10 * cC d := Nat.mul_le_mul_right _ hn
   go_wp2
   go_ret
   exact ⟨⟨A', c', ys, rfl, HR.out.2.1, HR.out.1⟩, HR.out.2.2.1.mono (by omega), HR.out.2.2.2⟩
end Go.Proofs.YtdjckjfclhjpcaaGreat
