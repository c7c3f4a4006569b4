/-
  Helper text (no claim of its own): Gate as records, slices of them, and the laws' own helpers on them (size, copy, comparison). Printed by gen_fam.py.
-/
import Derived.Test.YteecjnnompjmiacGreatDoorBase
namespace Go.Proofs.YteecjnnompjmiacGreatDoor
open Go.ChangeShapes Go.WideShapes Go.ChangeAt Go.RowKit Go.Deep

structure Gt where
  k : Int
  a : Int
  b : Int
  c : Int
def eqG (x y : Gt) : Bool := x.k == y.k && x.a == y.a && x.b == y.b && x.c == y.c
def Gt.ok (g : Gt) : Prop := I64 g.k ∧ I64 g.a ∧ I64 g.b ∧ I64 g.c
abbrev Gt.val (x : Gt) : Value := .agg #[.int .i64 x.k, .int .i64 x.a, .int .i64 x.b, .int .i64 x.c]
def Gt.cells (x : Gt) : List Value := [.int .i64 x.k, .int .i64 x.a, .int .i64 x.b, .int .i64 x.c]
abbrev gcells (xs : List Gt) : List Value := xs.flatMap Gt.cells
theorem Gt.cells_len (x : Gt) : x.cells.length = 4 := rfl
theorem gate_at {w : World} {B n i : Nat} {A : Option Addr} {xs : List Gt} (h : Rd w B 4 A n (gcells xs)) (hi : i < n) :
    ∃ b o x, A = some ⟨b, o, none⟩ ∧ b < B ∧ xs[i]? = some x ∧ w.cell? ⟨b, o + i * 4, none⟩ = some (.int .i64 x.k) ∧ w.cell? ⟨b, o + i * 4 + 1, none⟩ = some (.int .i64 x.a) ∧ w.cell? ⟨b, o + i * 4 + 2, none⟩ = some (.int .i64 x.b) ∧ w.cell? ⟨b, o + i * 4 + 3, none⟩ = some (.int .i64 x.c) := by
  obtain ⟨b, o, x, rfl, hb, hx, hc⟩ := elem_at Gt.cells_len (by omega) h hi
  exact ⟨b, o, x, rfl, hb, hx, hc 0 _ rfl, hc 1 _ rfl, hc 2 _ rfl, hc 3 _ rfl⟩


theorem Tryz.infoGate : (Tryz.prog.info? 37).map (fun i => (i.zero, i.size, i.bytes)) = some (some (.agg #[.int .i64 0, .int .i64 0, .int .i64 0, .int .i64 0]), 4, 32) := by kernel_rfl
theorem Gt.one (xs : List Gt) : ∀ u ∈ gcells xs, u.oneCell' = true := by
  intro u hu
  obtain ⟨x, _, hx⟩ := List.mem_flatMap.1 hu
  simp [Gt.cells] at hx
  rcases hx with rfl | rfl | rfl | rfl <;> rfl
set_option maxRecDepth 100000 in
set_option maxHeartbeats 1000000 in
theorem eqGate_any (x y : Gt) (w : World) :
    Calls Tryz.prog 58 #[x.val, y.val] w fun e w' => e = .returned (.bool (eqG x y)) ∧ Ext w w' := by
  go_enter Tryz.func58, Tryz.ntmps58
  go_wp2
  all_goals
    go_ret
    exact ⟨ret_bool (by simp_all [eqG]), (by repeat (first | exact Ext.refl _ | assumption | refine Ext.alloc ?_ _ | refine Ext.drewN ?_ _ | refine Ext.drew ?_))⟩

theorem eqG_self (x : Gt) : eqG x x = true := by simp [eqG]
end Go.Proofs.YteecjnnompjmiacGreatDoor
