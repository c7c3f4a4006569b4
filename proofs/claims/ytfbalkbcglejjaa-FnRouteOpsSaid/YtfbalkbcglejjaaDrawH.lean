/-
  Helper text (no claim of its own): drawn circuits, bent. Only that they return, and what their results are made of.
-/
import Derived.Test.YtfbalkbcglejjaaDrawF
namespace Go.Proofs.Ytfbalkbcglejjaa
open Go.ChangeShapes Go.WideShapes Go.ChangeAt Go.RowKit Go.Deep
theorem DC.done {w W : World} {g s : Nat} {N : Int} {A : Option Addr} {len cap : Nat} {gs : List Gt} (h : DC w W g s N A len cap gs) (hl : g < w.heap.size) :
    ((W.setCell ⟨w.heap.size, 0, none⟩ (.int .i64 N)).setCell ⟨w.heap.size, 1, none⟩ (.slice A len cap)).ownsRow w.heap.size 43 4 (.slice A len cap) len (gcells gs) ∧ Cur ((W.setCell ⟨w.heap.size, 0, none⟩ (.int .i64 N)).setCell ⟨w.heap.size, 1, none⟩ (.slice A len cap)) g ∧ w.grownBy ((W.setCell ⟨w.heap.size, 0, none⟩ (.int .i64 N)).setCell ⟨w.heap.size, 1, none⟩ (.slice A len cap)) (some g) :=
  ⟨own_base (own_set (own_set h.2.2.1 (p := ⟨w.heap.size, 0, none⟩) (by simp) _) (p := ⟨w.heap.size, 1, none⟩) (by simp) _) (by omega), Cur.set2 h.2.2.2.2.1 hl _ _, gr_set2 h.2.2.2.2.2 (Nat.le_refl _) _ _⟩
def lenAt (w : World) (s : Nat) : Nat := match w.cell? ⟨s, 1, none⟩ with | some (.slice _ n _) => n | _ => 0
theorem lenAt_blk {w : World} {s t : Nat} {a : Value} {A : Option Addr} {n c : Nat} (h : Blk w s t #[a, .slice A n c]) : lenAt w s = n := by
  have : w.cell? ⟨s, 1, none⟩ = some (.slice A n c) := h.cell 1
  unfold lenAt
  rw [this]
/-- What a drawn circuit is. -/
def DrewCirc (w : World) (g most : Nat) (e : Ending) (w' : World) : Prop :=
  ∃ (N : Int) (A : Option Addr) (len cap : Nat) (gs : List Gt), e = .returned (.agg #[.int .i64 N, .slice A len cap]) ∧ (-1 ≤ N ∧ N ≤ 5) ∧ len ≤ most + 61 ∧ w'.ownsRow w.heap.size 43 4 (.slice A len cap) len (gcells gs) ∧ Cur w' g ∧ w.grownBy w' (some g)
theorem DrewCirc.mk {w w' : World} {g most : Nat} (N : Int) (A : Option Addr) (len cap : Nat) (gs : List Gt) (h1 : -1 ≤ N ∧ N ≤ 5) (h2 : len ≤ most + 61) (h3 : w'.ownsRow w.heap.size 43 4 (.slice A len cap) len (gcells gs) ∧ Cur w' g ∧ w.grownBy w' (some g)) : DrewCirc w g most (.returned (.agg #[.int .i64 N, .slice A len cap])) w' :=
  ⟨N, A, len, cap, gs, rfl, h1, h2, h3⟩
end Go.Proofs.Ytfbalkbcglejjaa
