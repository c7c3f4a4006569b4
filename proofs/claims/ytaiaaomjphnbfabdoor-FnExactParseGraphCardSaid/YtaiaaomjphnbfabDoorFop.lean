/-
  Helper text (no claim of its own): the text of an operation, by the program and by the reference. Printed by gen_fop.py.
-/
import Derived.Test.YtaiaaomjphnbfabDoorFgt
namespace Go.Proofs.YtaiaaomjphnbfabDoor
open Go.ChangeShapes Go.WideShapes Go.ChangeAt Go.RowKit Go.Deep
set_option linter.unusedVariables false
set_option linter.unusedSimpArgs false
theorem inB_out {x lo hi : Int} (h : inB x lo hi = true) : lo ≤ x ∧ x ≤ hi := by
  unfold inB at h
  simp at h
  exact h
theorem vOp_facts {o : Oq} {n bits : Int} (h : vOp o n bits = true) : (o.k = 1 ∧ vg o.g n = true ∧ 0 ≤ o.cond ∧ o.cond ≤ bits) ∨ (o.k = 2 ∧ (0 ≤ o.q ∧ o.q ≤ n - 1) ∧ 0 ≤ o.bit ∧ o.bit ≤ bits - 1) ∨ (o.k = 3 ∧ 0 ≤ o.q ∧ o.q ≤ n - 1) := by
  have hn : inB n 1 4 = true := by
    cases e : inB n 1 4
    · rw [vOp_n e] at h; cases h
    · rfl
  have hb : inB bits 0 3 = true := by
    cases e : inB bits 0 3
    · rw [vOp_b e] at h; cases h
    · rfl
  by_cases h1 : o.k = 1
  · rw [vOp_1 hn hb h1] at h
    simp only [Bool.and_eq_true] at h
    have := inB_out h.2
    exact .inl ⟨h1, h.1.2, this.1, this.2⟩
  by_cases h2 : o.k = 2
  · rw [vOp_2 hn hb h2] at h
    simp only [Bool.and_eq_true] at h
    exact .inr (.inl ⟨h2, inB_out h.1.2, inB_out h.2⟩)
  by_cases h3 : o.k = 3
  · rw [vOp_3 hn hb h3] at h
    simp only [Bool.and_eq_true] at h
    exact .inr (.inr ⟨h3, inB_out h.2⟩)
  · rw [vOp_0 h1 h2 h3] at h; cases h
theorem otx_no {o : Oq} (h : vOp o 4 3 = false) : otx o = ⟨#[]⟩ := by unfold otx; rw [if_neg (by rw [h]; decide)]
theorem otx_2 {o : Oq} (h : vOp o 4 3 = true) (hk : o.k = 2) : otx o = ⟨#[109, 101, 97, 115, 117, 114, 101, 32]⟩ ++ dig o.q ++ ⟨#[32]⟩ ++ dig o.bit := by unfold otx; rw [if_pos h, if_pos hk]; rfl
theorem otx_3 {o : Oq} (h : vOp o 4 3 = true) (hk : o.k = 3) : otx o = ⟨#[99, 108, 101, 97, 110, 32]⟩ ++ dig o.q := by unfold otx; rw [if_pos h, if_neg (by omega), if_pos hk]; rfl
theorem otx_1c {o : Oq} (h : vOp o 4 3 = true) (hk : o.k = 1) (hc : 0 < o.cond) : otx o = ⟨#[105, 102, 32]⟩ ++ dig (o.cond - 1) ++ ⟨#[32]⟩ ++ gtx o.g := by unfold otx; rw [if_pos h, if_neg (by omega), if_neg (by omega), if_pos hc]; rfl
theorem otx_1n {o : Oq} (h : vOp o 4 3 = true) (hk : o.k = 1) (hc : ¬ 0 < o.cond) : otx o = gtx o.g := by unfold otx; rw [if_pos h, if_neg (by omega), if_neg (by omega), if_neg hc]
end Go.Proofs.YtaiaaomjphnbfabDoor
