/-
  Helper text (no claim of its own): drawn gates. Only that they return, and what their results are made of.
-/
import Derived.Test.YteecjnnompjmiabDoorDrawG
namespace Go.Proofs.YteecjnnompjmiabDoor
open Go.ChangeShapes Go.WideShapes Go.ChangeAt Go.RowKit Go.Deep
theorem blk4 {w : World} {g t : Nat} {a b c d : Value} (h : Blk w g t #[a, b, c, d]) : (w.cell? ⟨g, 0, none⟩ = some a ∧ w.cell? ⟨g, 1, none⟩ = some b ∧ w.cell? ⟨g, 2, none⟩ = some c ∧ w.cell? ⟨g, 3, none⟩ = some d) ∧ w.frozen? ⟨g, 0, none⟩ = false ∧ w.frozen? ⟨g, 1, none⟩ = false ∧ w.frozen? ⟨g, 2, none⟩ = false ∧ w.frozen? ⟨g, 3, none⟩ = false :=
  ⟨⟨h.cell 0, h.cell 1, h.cell 2, h.cell 3⟩, h.frozen 0, h.frozen 1, h.frozen 2, h.frozen 3⟩
theorem Cur.of_gr {w w' : World} {g : Nat} (h : Cur w g) (hx : w.grownBy w' none) : Cur w' g := h.grown hx (fun _ h => by cases h)
theorem Blk.set4 {w : World} {g t : Nat} {z0 z1 z2 z3 : Value} (h : Blk w g t #[z0, z1, z2, z3]) (a b c d : Value) : Blk ((((w.setCell ⟨g, 0, none⟩ a).setCell ⟨g, 1, none⟩ b).setCell ⟨g, 2, none⟩ c).setCell ⟨g, 3, none⟩ d) g t #[a, b, c, d] :=
  (((h.set_ 0 a).set_ 1 b).set_ 2 c).set_ 3 d
theorem Cur.set4 {w : World} {g q : Nat} (h : Cur w g) (hq : g < q) (a b c d : Value) : Cur ((((w.setCell ⟨q, 0, none⟩ a).setCell ⟨q, 1, none⟩ b).setCell ⟨q, 2, none⟩ c).setCell ⟨q, 3, none⟩ d) g :=
  (((h.set_ (p := ⟨q, 0, none⟩) hq a).set_ (p := ⟨q, 1, none⟩) hq b).set_ (p := ⟨q, 2, none⟩) hq c).set_ (p := ⟨q, 3, none⟩) hq d
theorem gr_set4 {w0 w : World} {g q : Nat} (h : w0.grownBy w (some g)) (hq : w0.heap.size ≤ q) (a b c d : Value) : w0.grownBy ((((w.setCell ⟨q, 0, none⟩ a).setCell ⟨q, 1, none⟩ b).setCell ⟨q, 2, none⟩ c).setCell ⟨q, 3, none⟩ d) (some g) :=
  gr_set (gr_set (gr_set (gr_set h (p := ⟨q, 0, none⟩) hq a) (p := ⟨q, 1, none⟩) hq b) (p := ⟨q, 2, none⟩) hq c) (p := ⟨q, 3, none⟩) hq d
end Go.Proofs.YteecjnnompjmiabDoor
