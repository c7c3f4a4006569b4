/-
  Helper text (no claim of its own): what the orientation of gates gives (plain Lean).
-/
import Derived.Test.YtofbmkpfliofeaaExe
import Derived.Test.YtofbmkpfliofeaaDec
namespace Go.Proofs.Ytofbmkpfliofeaa
open Go.ChangeShapes Go.WideShapes Go.ChangeAt Go.RowKit Go.Deep
/-- A CX along an edge, or turned by four Hadamard gates. -/
def cx1 (x : Gr) (g : Gt) : List Gt := if hasE x.es g.a g.b = true then [gcx g.a g.b] else [g1 4 g.a, g1 4 g.b, gcx g.b g.a, g1 4 g.a, g1 4 g.b]
def coup (x : Gr) (g : Gt) : Bool := hasE x.es g.a g.b || hasE x.es g.b g.a
/-- Can the gate be oriented? -/
def oriOk (x : Gr) (g : Gt) : Bool := vg g x.n && (ar g.k == 1 || (coup x g && (g.k == 9 || g.k == 11)))
/-- The oriented gates. -/
def oriL (x : Gr) (g : Gt) : List Gt := if oriOk x g = true then (if (ar g.k == 1) = true then [g] else (dec g).flatMap (cx1 x)) else []
theorem oriL_no {x : Gr} {g : Gt} (h : oriOk x g = false) : oriL x g = [] := by unfold oriL; rw [if_neg (by simp [h])]
theorem oriL_1 {x : Gr} {g : Gt} (h : oriOk x g = true) (h1 : (ar g.k == 1) = true) : oriL x g = [g] := by unfold oriL; rw [if_pos h, if_pos h1]
theorem oriL_2 {x : Gr} {g : Gt} (h : oriOk x g = true) (h1 : (ar g.k == 1) = false) : oriL x g = (dec g).flatMap (cx1 x) := by unfold oriL; rw [if_pos h, if_neg (by simp [h1])]
theorem cx1_len (x : Gr) (g : Gt) : (cx1 x g).length ≤ 5 := by unfold cx1; split <;> simp
theorem flat_cx1_len (x : Gr) (gs : List Gt) : (gs.flatMap (cx1 x)).length ≤ 5 * gs.length := by
  induction gs with
  | nil => simp
  | cons g gs ih => have := cx1_len x g; rw [List.flatMap_cons, List.length_append, List.length_cons]; omega
theorem oriL_len (x : Gr) (g : Gt) : (oriL x g).length ≤ 75 := by
  unfold oriL
  split
  · split
    · simp
    · have h1 := flat_cx1_len x (dec g)
      have h2 := dec_len g
      omega
  · simp
def oriAllOk (x : Gr) (gs : List Gt) : Bool := gs.all (oriOk x)
def oriAll (x : Gr) (gs : List Gt) : List Gt := if oriAllOk x gs = true then gs.flatMap (oriL x) else []
theorem oriAllOk_no {x : Gr} {gs : List Gt} {k : Nat} {g : Gt} (h : gs[k]? = some g) (hg : oriOk x g = false) : oriAllOk x gs = false := by
  unfold oriAllOk
  rw [Bool.eq_false_iff]
  intro ha
  rw [List.all_eq_true] at ha
  rw [ha g (List.mem_of_getElem? h)] at hg
  cases hg
theorem oriAllOk_snoc {x : Gr} {gs : List Gt} {k : Nat} {g : Gt} (h : gs[k]? = some g) (hk : oriAllOk x (gs.take k) = true) (hg : oriOk x g = true) : oriAllOk x (gs.take (k + 1)) = true := by
  unfold oriAllOk at *
  rw [take_snoc h, List.all_append, hk]
  simp [hg]
theorem oriAll_no {x : Gr} {gs : List Gt} (h : oriAllOk x gs = false) : oriAll x gs = [] := by unfold oriAll; rw [if_neg (by simp [h])]
theorem oriAll_yes {x : Gr} {gs : List Gt} (h : oriAllOk x gs = true) : oriAll x gs = gs.flatMap (oriL x) := by unfold oriAll; rw [if_pos h]
theorem oriF_snoc {x : Gr} {gs : List Gt} {k : Nat} {g : Gt} (h : gs[k]? = some g) : (gs.take (k + 1)).flatMap (oriL x) = (gs.take k).flatMap (oriL x) ++ oriL x g := by
  rw [take_snoc h, List.flatMap_append]; simp
theorem oriF_len (x : Gr) (gs : List Gt) : (gs.flatMap (oriL x)).length ≤ 75 * gs.length := by
  induction gs with
  | nil => simp
  | cons g gs ih => have := oriL_len x g; rw [List.flatMap_cons, List.length_append, List.length_cons]; omega
/-! A valid two-qubit gate is a CX on valid qubits once its kind is 9. -/
theorem ar9 : ar 9 = 2 := by unfold ar; omega
theorem vg_parts {g : Gt} {n : Int} (h : vg g n = true) : 1 ≤ n ∧ n ≤ 4 ∧ 0 < ar g.k ∧ okI g n 0 g.a = true ∧ okI g n 1 g.b = true ∧ okI g n 2 g.c = true := by
  unfold vg at h
  simp only [Bool.and_eq_true, decide_eq_true_eq] at h
  obtain ⟨⟨⟨⟨⟨h1, h2⟩, h3⟩, h4⟩, h5⟩, h6⟩ := h
  exact ⟨h1, h2, h3, h4, h5, h6⟩
theorem vg_two {g : Gt} {n : Int} (h : vg g n = true) (h2 : ar g.k = 2) : 1 ≤ n ∧ n ≤ 4 ∧ 0 ≤ g.a ∧ g.a ≤ n - 1 ∧ 0 ≤ g.b ∧ g.b ≤ n - 1 ∧ g.a ≠ g.b ∧ g.c = 0 := by
  obtain ⟨p1, p2, p3, p4, p5, p6⟩ := vg_parts h
  rw [okI_lo (by rw [h2]; omega)] at p4
  rw [okI_lo (by rw [h2]; omega)] at p5
  rw [okI_hi (by rw [h2]; omega)] at p6
  simp only [Bool.and_eq_true, decide_eq_true_eq, qs, List.take_zero, Bool.not_eq_true', beq_iff_eq] at p4 p5 p6
  obtain ⟨⟨p5a, p5b⟩, p5c⟩ := p5
  refine ⟨p1, p2, p4.1.1, p4.1.2, p5a, p5b, fun e => ?_, p6⟩
  rw [e] at p5c
  simp at p5c
theorem vg_cx {n a b : Int} (h1 : 1 ≤ n) (h2 : n ≤ 4) (ha : 0 ≤ a) (ha' : a ≤ n - 1) (hb : 0 ≤ b) (hb' : b ≤ n - 1) (hne : a ≠ b) : vg (gcx a b) n = true := by
  refine vg_good h1 h2 (by show 0 < ar 9; rw [ar9]; omega) ?_
  intro i q hq
  have hk : (gcx a b).k = 9 := rfl
  rcases (by have := (List.getElem?_eq_some_iff.1 hq).1; simp [qs] at this; omega : i = 0 ∨ i = 1 ∨ i = 2) with rfl | rfl | rfl
  · rw [okI_lo (by rw [hk, ar9]; omega)]
    simp [qs, gcx] at hq
    subst hq
    simp [ha, ha']
  · rw [okI_lo (by rw [hk, ar9]; omega)]
    simp [qs, gcx] at hq
    subst hq
    simp [hb, hb', qs, gcx, hne.symm]
  · rw [okI_hi (by rw [hk, ar9]; omega)]
    simp [qs, gcx] at hq
    subst hq
    simp
theorem ar_9_11 {k : Int} (h : (k == 9) = true ∨ (k == 11) = true) : ar k = 2 := by
  rcases h with h | h <;> (rw [beq_iff_eq] at h; subst h; unfold ar; omega)
theorem cx_of_vg {g : Gt} {n : Int} (h : vg g n = true) (h9 : (g.k == 9) = true) : g = gcx g.a g.b := by
  have h2 := vg_two h (ar_9_11 (.inl h9))
  rw [beq_iff_eq] at h9
  obtain ⟨k, a, b, c⟩ := g
  simp at h2 h9
  simp [gcx, h9, h2.2.2.2.2.2.2.2]
theorem dec_9 {g : Gt} (h9 : (g.k == 9) = true) : dec g = [g] := by
  rw [beq_iff_eq] at h9
  exact decN (by rw [h9]; rfl) (by rw [h9]; rfl) (by rw [h9]; rfl)
theorem dec_11 {g : Gt} (h : (g.k == 11) = true) : dec g = [gcx g.a g.b, gcx g.b g.a, gcx g.a g.b] := by
  have h' := h
  rw [beq_iff_eq] at h'
  exact dec11 (by rw [h']; rfl) h
end Go.Proofs.Ytofbmkpfliofeaa
