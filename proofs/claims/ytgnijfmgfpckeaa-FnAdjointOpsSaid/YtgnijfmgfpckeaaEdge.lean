/-
  Helper text (no claim of its own): Edge as records, slices of them, and the laws' own helpers on them (size, copy, comparison). Printed by gen_fam.py.
-/
import Derived.Test.YtgnijfmgfpckeaaBase
namespace Go.Proofs.Ytgnijfmgfpckeaa
open Go.ChangeShapes Go.WideShapes Go.ChangeAt Go.RowKit Go.Deep

structure Ed where
  a : Int
  b : Int
def eqE (x y : Ed) : Bool := x.a == y.a && x.b == y.b
def Ed.ok (x : Ed) : Prop := I64 x.a ∧ I64 x.b
abbrev Ed.val (x : Ed) : Value := .agg #[.int .i64 x.a, .int .i64 x.b]
def Ed.cells (x : Ed) : List Value := [.int .i64 x.a, .int .i64 x.b]
abbrev ecells (xs : List Ed) : List Value := xs.flatMap Ed.cells
theorem Ed.cells_len (x : Ed) : x.cells.length = 2 := rfl
theorem edge_at {w : World} {B n i : Nat} {A : Option Addr} {xs : List Ed} (h : Rd w B 2 A n (ecells xs)) (hi : i < n) :
    ∃ b o x, A = some ⟨b, o, none⟩ ∧ b < B ∧ xs[i]? = some x ∧ w.cell? ⟨b, o + i * 2, none⟩ = some (.int .i64 x.a) ∧ w.cell? ⟨b, o + i * 2 + 1, none⟩ = some (.int .i64 x.b) := by
  obtain ⟨b, o, x, rfl, hb, hx, hc⟩ := elem_at Ed.cells_len (by omega) h hi
  exact ⟨b, o, x, rfl, hb, hx, hc 0 _ rfl, hc 1 _ rfl⟩


theorem Ed.one (xs : List Ed) : ∀ u ∈ ecells xs, u.oneCell' = true := by
  intro u hu
  obtain ⟨x, _, hx⟩ := List.mem_flatMap.1 hu
  simp [Ed.cells] at hx
  rcases hx with rfl | rfl <;> rfl
theorem eqE_self (x : Ed) : eqE x x = true := by simp [eqE]
end Go.Proofs.Ytgnijfmgfpckeaa
