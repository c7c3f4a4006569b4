/-
  Helper text (no claim of its own): drawn circuits. Only that they return, and what their results are made of.
-/
import Derived.Test.YteecjnnompjmiabDoorDrawD
import Derived.Deep.RegionLaw
namespace Go.Proofs.YteecjnnompjmiabDoor
open Go.ChangeShapes Go.WideShapes Go.ChangeAt Go.RowKit Go.Deep
theorem blk2 {w : World} {g t : Nat} {a b : Value} (h : Blk w g t #[a, b]) : (w.cell? ⟨g, 0, none⟩ = some a ∧ w.cell? ⟨g, 1, none⟩ = some b) ∧ w.frozen? ⟨g, 0, none⟩ = false ∧ w.frozen? ⟨g, 1, none⟩ = false :=
  ⟨⟨h.cell 0, h.cell 1⟩, h.frozen 0, h.frozen 1⟩
theorem Blk.set2 {w : World} {g t : Nat} {z0 z1 : Value} (h : Blk w g t #[z0, z1]) (a b : Value) : Blk ((w.setCell ⟨g, 0, none⟩ a).setCell ⟨g, 1, none⟩ b) g t #[a, b] := (h.set_ 0 a).set_ 1 b
theorem Cur.set2 {w : World} {g q : Nat} (h : Cur w g) (hq : g < q) (a b : Value) : Cur ((w.setCell ⟨q, 0, none⟩ a).setCell ⟨q, 1, none⟩ b) g :=
  (h.set_ (p := ⟨q, 0, none⟩) hq a).set_ (p := ⟨q, 1, none⟩) hq b
theorem gr_set2 {w0 w : World} {g q : Nat} (h : w0.grownBy w (some g)) (hq : w0.heap.size ≤ q) (a b : Value) : w0.grownBy ((w.setCell ⟨q, 0, none⟩ a).setCell ⟨q, 1, none⟩ b) (some g) :=
  gr_set (gr_set h (p := ⟨q, 0, none⟩) hq a) (p := ⟨q, 1, none⟩) hq b
end Go.Proofs.YteecjnnompjmiabDoor
