/-
 Helper text (no claim of its own): a struct and a value returned together; rows of four and of eight cells, stored whole.
-/
import Derived.Test.YtdjckjfclhjpcaaGreatBase
import Derived.Laws.ResultCell
namespace Go.Proofs.YtdjckjfclhjpcaaGreat
open Go.ChangeShapes Go.WideShapes Go.ChangeAt Go.RowKit Go.Deep
set_option linter.unusedVariables false
theorem ret_pair {P : Program} {fn : Func} {p u : Tmp} {ty : TypeId} (h : fn.results = #[.cell p ty, .tmp u]) (tmps : Array Value) (w : World) (g : Nat) (t : TypeId) (cs : Array Value) (d : TypeDesc) (z : Value)
  (hp : tmps.getD p undef = .pointer (some ⟨g, 0, none⟩)) (hz : tmps.getD u undef = z) (hg : Blk w g t cs)
  (hu : P.underlying ty = some d) (hd : (match d with | .struct _ | .array _ _ => true | _ => false) = true) (hi : (P.info? ty).map (·.size) = some cs.size) :
  (results fn tmps).run P w = .ok (.tuple #[.agg cs, z]) w := by
 rw [results_cell_tmp h, hp, hz]
 simp [asAddr, Result.andThen, run_loadVar_row w g t ty cs (0, 0) d hg hu hd hi]
theorem cells4 {w : World} {g t : Nat} {a b c d : Value} (h : Blk w g t #[a, b, c, d]) : (w.cell? ⟨g, 0, none⟩ = some a ∧ w.cell? ⟨g, 1, none⟩ = some b ∧ w.cell? ⟨g, 2, none⟩ = some c ∧ w.cell? ⟨g, 3, none⟩ = some d) ∧ w.frozen? ⟨g, 0, none⟩ = false ∧ w.frozen? ⟨g, 1, none⟩ = false ∧ w.frozen? ⟨g, 2, none⟩ = false ∧ w.frozen? ⟨g, 3, none⟩ = false :=
 ⟨⟨h.cell 0, h.cell 1, h.cell 2, h.cell 3⟩, h.frozen 0, h.frozen 1, h.frozen 2, h.frozen 3⟩
def put4 (w : World) (g : Nat) (a b c d : Value) : World := (((w.setCell ⟨g, 0, none⟩ a).setCell ⟨g, 1, none⟩ b).setCell ⟨g, 2, none⟩ c).setCell ⟨g, 3, none⟩ d
theorem Blk.put4 {w : World} {g t : Nat} {z0 z1 z2 z3 : Value} (h : Blk w g t #[z0, z1, z2, z3]) (a b c d : Value) : Blk (put4 w g a b c d) g t #[a, b, c, d] :=
 (((h.set_ 0 a).set_ 1 b).set_ 2 c).set_ 3 d
theorem ext_put4 {w0 w : World} (h : Ext w0 w) {g : Nat} (hg : w0.heap.size ≤ g) (a b c d : Value) : Ext w0 (put4 w g a b c d) :=
 (((h.setCell (p := ⟨g, 0, none⟩) hg a).setCell (p := ⟨g, 1, none⟩) hg b).setCell (p := ⟨g, 2, none⟩) hg c).setCell (p := ⟨g, 3, none⟩) hg d
theorem far_put4 {w : World} {g k t : Nat} {cs : Array Value} (h : Blk w k t cs) (hg : k ≠ g) (a b c d : Value) : Blk (put4 w g a b c d) k t cs :=
 (((h.far (p := ⟨g, 0, none⟩) hg a).far (p := ⟨g, 1, none⟩) hg b).far (p := ⟨g, 2, none⟩) hg c).far (p := ⟨g, 3, none⟩) hg d
end Go.Proofs.YtdjckjfclhjpcaaGreat
