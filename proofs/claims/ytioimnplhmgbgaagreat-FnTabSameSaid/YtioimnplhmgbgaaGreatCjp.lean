/-
 Helper text (no claim of its own): conjugation of a Pauli by a Clifford gate: plain facts, its state. Printed by gen_cj.py.
-/
import Derived.Test.YtioimnplhmgbgaaGreatMu
import Derived.Test.YtioimnplhmgbgaaGreatImg
namespace Go.Proofs.YtioimnplhmgbgaaGreat
open Go.ChangeShapes Go.WideShapes Go.ChangeAt Go.RowKit Go.Deep
set_option linter.unusedVariables false
theorem vg_ab {g : Gt} {n : Int} (h : vg g n = true) : (0 ≤ g.a ∧ g.a ≤ 3) ∧ (0 ≤ g.b ∧ g.b ≤ 3) ∧ (ar g.k = 2 → g.a ≠ g.b) := by
 unfold vg okI at h
 simp only [Bool.and_eq_true, decide_eq_true_eq] at h
 obtain ⟨⟨⟨⟨⟨h1, h2⟩, h3⟩, ha⟩, hb⟩, hc⟩ := h
 obtain ⟨r0, r3⟩ := ar_range g.k
 rcases (show ar g.k = 1 ∨ ar g.k = 2 ∨ ar g.k = 3 by omega) with e | e | e <;> rw [e] at ha hb <;> simp [qs] at ha hb <;> refine ⟨by omega, by omega, fun h => ?_⟩ <;> first | omega | (have := hb.2; intro hh; exact this hh.symm)
/-- What a conjugation returns. -/
def CjRes (p : Pa) (g : Gt) (e : Ending) : Prop := e = .returned (.tuple #[(cj p g).val, .bool (cjOk p g)])
theorem cjRes_no {p : Pa} {g : Gt} {e : Ending} (h : cjOk p g = false) (he : e = .returned (.tuple #[P0.val, .bool false])) : CjRes p g e := by
 unfold CjRes cj; rw [he, h]; rfl
theorem cjRes_yes {p : Pa} {g : Gt} {e : Ending} {r : Pa} (h : cjOk p g = true) (hr : cjN p g p.n.toNat = r) (he : e = .returned (.tuple #[r.val, .bool true])) : CjRes p g e := by
 unfold CjRes cj; rw [he, h, if_pos rfl, hr]
/-- The state of a conjugation. -/
def CjW (w W : World) (p : Pa) (g : Gt) (q : Nat) (r : Pa) : Prop :=
 Blk W w.heap.size 66 #[.int .i64 p.n, .int .i64 p.x, .int .i64 p.z, .int .i64 p.p] ∧ Blk W (w.heap.size + 1) 52 #[.int .i64 g.k, .int .i64 g.a, .int .i64 g.b, .int .i64 g.c] ∧ Blk W (w.heap.size + 2) 66 #[.int .i64 0, .int .i64 0, .int .i64 0, .int .i64 0] ∧ Blk W q 66 #[.int .i64 r.n, .int .i64 r.x, .int .i64 r.z, .int .i64 r.p] ∧ Ext w W ∧ w.heap.size + 3 ≤ q
theorem CjW.ext {w W W' : World} {p : Pa} {g : Gt} {q : Nat} {r : Pa} (h : CjW w W p g q r) (hx : Ext W W') : CjW w W' p g q r :=
 ⟨h.1.ext hx, h.2.1.ext hx, h.2.2.1.ext hx, h.2.2.2.1.ext hx, h.2.2.2.2.1.trans hx, h.2.2.2.2.2⟩
theorem CjW.put {w W : World} {p : Pa} {g : Gt} {q : Nat} {r : Pa} (h : CjW w W p g q r) (m : Pa) : CjW w ((((W.setCell ⟨q, 0, none⟩ (.int .i64 m.n)).setCell ⟨q, 1, none⟩ (.int .i64 m.x)).setCell ⟨q, 2, none⟩ (.int .i64 m.z)).setCell ⟨q, 3, none⟩ (.int .i64 m.p)) p g q m :=
 ⟨far_put4 h.1 (by have := h.2.2.2.2.2; omega) _ _ _ _, far_put4 h.2.1 (by have := h.2.2.2.2.2; omega) _ _ _ _, far_put4 h.2.2.1 (by have := h.2.2.2.2.2; omega) _ _ _ _, h.2.2.2.1.put4 _ _ _ _, ext_put4 (g := q) h.2.2.2.2.1 (by have := h.2.2.2.2.2; omega) _ _ _ _, h.2.2.2.2.2⟩
/-- X or Z of a qubit, behind a gate. -/
theorem cjN_step (p : Pa) (g : Gt) (k : Nat) : cjN p g (k + 1) = cjZ p g k (cjX p g k (cjN p g k)) := rfl
theorem cjX_no {p : Pa} {g : Gt} {q : Int} {r : Pa} (h : bitI p.x q = false) : cjX p g q r = r := by unfold cjX; rw [h]; rfl
theorem cjX_yes {p : Pa} {g : Gt} {q : Int} {r : Pa} (h : bitI p.x q = true) : cjX p g q r = mulR r (imgX p.n g q) := by unfold cjX; rw [h]; rfl
theorem cjZ_no {p : Pa} {g : Gt} {q : Int} {r : Pa} (h : bitI p.z q = false) : cjZ p g q r = r := by unfold cjZ; rw [h]; rfl
theorem cjZ_yes {p : Pa} {g : Gt} {q : Int} {r : Pa} (h : bitI p.z q = true) : cjZ p g q r = mulR r (imgZ p.n g q) := by unfold cjZ; rw [h]; rfl
end Go.Proofs.YtioimnplhmgbgaaGreat
