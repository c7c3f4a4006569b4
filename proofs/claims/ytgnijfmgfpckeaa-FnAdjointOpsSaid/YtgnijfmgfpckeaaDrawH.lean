/-
  Helper text (no claim of its own): drawn circuits, bent. Only that they return, and what their results are made of.
-/
import Derived.Test.YtgnijfmgfpckeaaDrawF
namespace Go.Proofs.Ytgnijfmgfpckeaa
open Go.ChangeShapes Go.WideShapes Go.ChangeAt Go.RowKit Go.Deep
theorem l1Max_no (a b : Int) (w : World) (h : ¬ b < a) : Calls Try.prog 51 #[.int .i64 a, .int .i64 b] w fun e w' => e = .returned (.int .i64 b) ∧ w = w' := by
  have := l1Max_any a b w
  rwa [if_neg h] at this
def lenAt (w : World) (s : Nat) : Nat := match w.cell? ⟨s, 1, none⟩ with | some (.slice _ n _) => n | _ => 0
theorem lenAt_blk {w : World} {s t : Nat} {a : Value} {A : Option Addr} {n c : Nat} (h : Blk w s t #[a, .slice A n c]) : lenAt w s = n := by
  have : w.cell? ⟨s, 1, none⟩ = some (.slice A n c) := h.cell 1
  unfold lenAt
  rw [this]
/-- What a drawn circuit is. -/
def DrewCirc (w : World) (g most : Nat) (e : Ending) (w' : World) : Prop :=
  ∃ (N : Int) (A : Option Addr) (len cap : Nat) (gs : List Gt), e = .returned (.agg #[.int .i64 N, .slice A len cap]) ∧ (-1 ≤ N ∧ N ≤ 5) ∧ len ≤ most + 61 ∧ w'.ownsRow w.heap.size 30 4 (.slice A len cap) len (gcells gs) ∧ Cur w' g ∧ w.grownBy w' (some g)
theorem DrewCirc.mk {w w' : World} {g most : Nat} (N : Int) (A : Option Addr) (len cap : Nat) (gs : List Gt) (h1 : -1 ≤ N ∧ N ≤ 5) (h2 : len ≤ most + 61) (h3 : w'.ownsRow w.heap.size 30 4 (.slice A len cap) len (gcells gs) ∧ Cur w' g ∧ w.grownBy w' (some g)) : DrewCirc w g most (.returned (.agg #[.int .i64 N, .slice A len cap])) w' :=
  ⟨N, A, len, cap, gs, rfl, h1, h2, h3⟩
end Go.Proofs.Ytgnijfmgfpckeaa
