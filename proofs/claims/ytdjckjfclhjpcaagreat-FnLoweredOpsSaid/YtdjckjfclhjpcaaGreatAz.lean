/-
 Helper text (no claim of its own): amplitudes: rows of five cells. Printed by gen_am.py or gen_an.py.
-/
import Derived.Test.YtdjckjfclhjpcaaGreatRet
import Derived.Test.YtdjckjfclhjpcaaGreatDw
namespace Go.Proofs.YtdjckjfclhjpcaaGreat
open Go.ChangeShapes Go.WideShapes Go.ChangeAt Go.RowKit Go.Deep
set_option linter.unusedVariables false
set_option linter.unusedSimpArgs false
theorem Tryz.sizeZOmega : (Tryz.prog.info? 89).map (·.size) = some 4 := by kernel_rfl
theorem Tryz.sizeDOmega : (Tryz.prog.info? 91).map (·.size) = some 5 := by kernel_rfl
theorem cells5 {w : World} {g t : Nat} {a b c d e : Value} (h : Blk w g t #[a, b, c, d, e]) : (w.cell? ⟨g, 0, none⟩ = some a ∧ w.cell? ⟨g, 1, none⟩ = some b ∧ w.cell? ⟨g, 2, none⟩ = some c ∧ w.cell? ⟨g, 3, none⟩ = some d ∧ w.cell? ⟨g, 4, none⟩ = some e) ∧ w.frozen? ⟨g, 0, none⟩ = false ∧ w.frozen? ⟨g, 1, none⟩ = false ∧ w.frozen? ⟨g, 2, none⟩ = false ∧ w.frozen? ⟨g, 3, none⟩ = false ∧ w.frozen? ⟨g, 4, none⟩ = false :=
 ⟨⟨h.cell 0, h.cell 1, h.cell 2, h.cell 3, h.cell 4⟩, h.frozen 0, h.frozen 1, h.frozen 2, h.frozen 3, h.frozen 4⟩
def put5 (w : World) (g : Nat) (a b c d e : Value) : World := ((((w.setCell ⟨g, 0, none⟩ a).setCell ⟨g, 1, none⟩ b).setCell ⟨g, 2, none⟩ c).setCell ⟨g, 3, none⟩ d).setCell ⟨g, 4, none⟩ e
theorem Blk.put5 {w : World} {g t : Nat} {z0 z1 z2 z3 z4 : Value} (h : Blk w g t #[z0, z1, z2, z3, z4]) (a b c d e : Value) : Blk (put5 w g a b c d e) g t #[a, b, c, d, e] :=
 ((((h.set_ 0 a).set_ 1 b).set_ 2 c).set_ 3 d).set_ 4 e
theorem ext_put5 {w0 w : World} (h : Ext w0 w) {g : Nat} (hg : w0.heap.size ≤ g) (a b c d e : Value) : Ext w0 (put5 w g a b c d e) :=
 ((((h.setCell (p := ⟨g, 0, none⟩) hg a).setCell (p := ⟨g, 1, none⟩) hg b).setCell (p := ⟨g, 2, none⟩) hg c).setCell (p := ⟨g, 3, none⟩) hg d).setCell (p := ⟨g, 4, none⟩) hg e
theorem far_put5 {w : World} {g k t : Nat} {cs : Array Value} (h : Blk w k t cs) (hg : k ≠ g) (a b c d e : Value) : Blk (put5 w g a b c d e) k t cs :=
 ((((h.far (p := ⟨g, 0, none⟩) hg a).far (p := ⟨g, 1, none⟩) hg b).far (p := ⟨g, 2, none⟩) hg c).far (p := ⟨g, 3, none⟩) hg d).far (p := ⟨g, 4, none⟩) hg e
theorem retZ {fn : Func} {p : Tmp} (hf : fn.results = #[.cell p 89]) {W : World} {q : Nat} {cs : Array Value} (hB : Blk W q 89 cs) (tmps : Array Value)
  (hp : tmps.getD p undef = .pointer (some ⟨q, 0, none⟩)) (hs : cs.size = 4) : (results fn tmps).run Tryz.prog W = .ok (.agg cs) W :=
 results_cell_row hf tmps _ q 89 _ (0, 0) _ hp hB Tryz.underlying89 rfl (by rw [hs]; exact Tryz.sizeZOmega)
theorem retD {fn : Func} {p : Tmp} (hf : fn.results = #[.cell p 91]) {W : World} {q : Nat} {cs : Array Value} (hB : Blk W q 91 cs) (tmps : Array Value)
  (hp : tmps.getD p undef = .pointer (some ⟨q, 0, none⟩)) (hs : cs.size = 5) : (results fn tmps).run Tryz.prog W = .ok (.agg cs) W :=
 results_cell_row hf tmps _ q 91 _ (0, 0) _ hp hB Tryz.underlying91 rfl (by rw [hs]; exact Tryz.sizeDOmega)
end Go.Proofs.YtdjckjfclhjpcaaGreat
