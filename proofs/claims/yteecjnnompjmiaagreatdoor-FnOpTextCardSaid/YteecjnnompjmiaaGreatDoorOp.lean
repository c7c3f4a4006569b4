/-
  Helper text (no claim of its own): Op as records, slices of them, and the laws' own helpers on them (size, copy, comparison). Printed by gen_fam.py.
-/
import Derived.Test.YteecjnnompjmiaaGreatDoorGate
namespace Go.Proofs.YteecjnnompjmiaaGreatDoor
open Go.ChangeShapes Go.WideShapes Go.ChangeAt Go.RowKit Go.Deep

structure Oq where
  k : Int
  g : Gt
  q : Int
  bit : Int
  cond : Int
def eqO (x y : Oq) : Bool := x.k == y.k && eqG x.g y.g && x.q == y.q && x.bit == y.bit && x.cond == y.cond
def Oq.ok (x : Oq) : Prop := I64 x.k ∧ x.g.ok ∧ I64 x.q ∧ I64 x.bit ∧ I64 x.cond
abbrev Oq.val (x : Oq) : Value := .agg #[.int .i64 x.k, .int .i64 x.g.k, .int .i64 x.g.a, .int .i64 x.g.b, .int .i64 x.g.c, .int .i64 x.q, .int .i64 x.bit, .int .i64 x.cond]
def Oq.cells (x : Oq) : List Value := [.int .i64 x.k, .int .i64 x.g.k, .int .i64 x.g.a, .int .i64 x.g.b, .int .i64 x.g.c, .int .i64 x.q, .int .i64 x.bit, .int .i64 x.cond]
abbrev ocells (xs : List Oq) : List Value := xs.flatMap Oq.cells
theorem Oq.cells_len (x : Oq) : x.cells.length = 8 := rfl
theorem op_at {w : World} {B n i : Nat} {A : Option Addr} {xs : List Oq} (h : Rd w B 8 A n (ocells xs)) (hi : i < n) :
    ∃ b o x, A = some ⟨b, o, none⟩ ∧ b < B ∧ xs[i]? = some x ∧ w.cell? ⟨b, o + i * 8, none⟩ = some (.int .i64 x.k) ∧ w.cell? ⟨b, o + i * 8 + 1, none⟩ = some (.int .i64 x.g.k) ∧ w.cell? ⟨b, o + i * 8 + 2, none⟩ = some (.int .i64 x.g.a) ∧ w.cell? ⟨b, o + i * 8 + 3, none⟩ = some (.int .i64 x.g.b) ∧ w.cell? ⟨b, o + i * 8 + 4, none⟩ = some (.int .i64 x.g.c) ∧ w.cell? ⟨b, o + i * 8 + 5, none⟩ = some (.int .i64 x.q) ∧ w.cell? ⟨b, o + i * 8 + 6, none⟩ = some (.int .i64 x.bit) ∧ w.cell? ⟨b, o + i * 8 + 7, none⟩ = some (.int .i64 x.cond) := by
  obtain ⟨b, o, x, rfl, hb, hx, hc⟩ := elem_at Oq.cells_len (by omega) h hi
  exact ⟨b, o, x, rfl, hb, hx, hc 0 _ rfl, hc 1 _ rfl, hc 2 _ rfl, hc 3 _ rfl, hc 4 _ rfl, hc 5 _ rfl, hc 6 _ rfl, hc 7 _ rfl⟩


theorem Tryz.infoOp : (Tryz.prog.info? 27).map (fun i => (i.zero, i.size, i.bytes)) = some (some (.agg #[.int .i64 0, .int .i64 0, .int .i64 0, .int .i64 0, .int .i64 0, .int .i64 0, .int .i64 0, .int .i64 0]), 8, 64) := by kernel_rfl
theorem Oq.one (xs : List Oq) : ∀ u ∈ ocells xs, u.oneCell' = true := by
  intro u hu
  obtain ⟨x, _, hx⟩ := List.mem_flatMap.1 hu
  simp [Oq.cells] at hx
  rcases hx with rfl | rfl | rfl | rfl | rfl | rfl | rfl | rfl <;> rfl
theorem eqO_self (x : Oq) : eqO x x = true := by simp [eqO, eqG_self]
end Go.Proofs.YteecjnnompjmiaaGreatDoor
