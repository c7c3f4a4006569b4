/-
  Helper text (no claim of its own): compiled results, as records, and the laws' own helpers on them. Printed in part by gen_struct.py.
-/
import Derived.Test.YteecjnnompjmiacGreatDoorCmp
namespace Go.Proofs.YteecjnnompjmiacGreatDoor
open Go.ChangeShapes Go.WideShapes Go.ChangeAt Go.RowKit Go.Deep
structure Cm where
  n : Int
  bits : Int
  ops : List Oq
  st : List Int
  fin : List Int
/-- The struct value v reads as the record x; its slices lie below block B. -/
def CmAt (w : World) (B : Nat) (v : Value) (x : Cm) : Prop :=
  ∃ (A1 A2 A3 : Option Addr) (c1 c2 c3 : Nat), v = .agg #[.int .i64 x.n, .int .i64 x.bits, .slice A1 x.ops.length c1, .slice A2 x.st.length c2, .slice A3 x.fin.length c3] ∧ Rd w B 8 A1 x.ops.length (ocells x.ops) ∧ Rd w B 1 A2 x.st.length (icells x.st) ∧ Rd w B 1 A3 x.fin.length (icells x.fin)
/-- The same, each slice in new memory of its own: slice j from block b(j-1) on and below bj. -/
def CmOwn (w : World) (b0 b1 b2 b3 : Nat) (v : Value) (x : Cm) : Prop :=
  ∃ (A1 A2 A3 : Option Addr) (c1 c2 c3 : Nat), v = .agg #[.int .i64 x.n, .int .i64 x.bits, .slice A1 x.ops.length c1, .slice A2 x.st.length c2, .slice A3 x.fin.length c3] ∧ w.ownsRow b0 39 8 (.slice A1 x.ops.length c1) x.ops.length (ocells x.ops) ∧ (∀ g, (Value.slice A1 x.ops.length c1).ownBlock = some g → g < b1) ∧ w.ownsRow b1 3 1 (.slice A2 x.st.length c2) x.st.length (icells x.st) ∧ (∀ g, (Value.slice A2 x.st.length c2).ownBlock = some g → g < b2) ∧ w.ownsRow b2 3 1 (.slice A3 x.fin.length c3) x.fin.length (icells x.fin) ∧ (∀ g, (Value.slice A3 x.fin.length c3).ownBlock = some g → g < b3)
theorem CmAt.up {w w' : World} {B : Nat} {v : Value} {x : Cm} (h : CmAt w B v x) (hx : Ext w w') (hB : B ≤ w.heap.size) : CmAt w' B v x := by
  obtain ⟨A1, A2, A3, c1, c2, c3, hv, h1, h2, h3⟩ := h
  exact ⟨A1, A2, A3, c1, c2, c3, hv, h1.up hx hB, h2.up hx hB, h3.up hx hB⟩
theorem CmAt.more {w : World} {B B' : Nat} {v : Value} {x : Cm} (h : CmAt w B v x) (hB : B ≤ B') : CmAt w B' v x := by
  obtain ⟨A1, A2, A3, c1, c2, c3, hv, h1, h2, h3⟩ := h
  exact ⟨A1, A2, A3, c1, c2, c3, hv, h1.more hB, h2.more hB, h3.more hB⟩
theorem CmAt.grown {w w' : World} {B : Nat} {v : Value} {x : Cm} {row : Option Nat} (h : CmAt w B v x) (hg : w.grownBy w' row) (hB : B ≤ w.heap.size) (hr : ∀ g, row = some g → B ≤ g) : CmAt w' B v x := by
  obtain ⟨A1, A2, A3, c1, c2, c3, hv, h1, h2, h3⟩ := h
  exact ⟨A1, A2, A3, c1, c2, c3, hv, h1.grown hg hB hr, h2.grown hg hB hr, h3.grown hg hB hr⟩
theorem CmOwn.at_ {w : World} {b0 b1 b2 b3 : Nat} {v : Value} {x : Cm} (h : CmOwn w b0 b1 b2 b3 v x) : CmAt w w.heap.size v x := by
  obtain ⟨A1, A2, A3, c1, c2, c3, hv, h1, l1, h2, l2, h3, l3⟩ := h
  exact ⟨A1, A2, A3, c1, c2, c3, hv, Rd.own h1, Rd.own h2, Rd.own h3⟩
theorem CmOwn.ext {w w' : World} {b0 b1 b2 b3 : Nat} {v : Value} {x : Cm} (h : CmOwn w b0 b1 b2 b3 v x) (hx : Ext w w') : CmOwn w' b0 b1 b2 b3 v x := by
  obtain ⟨A1, A2, A3, c1, c2, c3, hv, h1, l1, h2, l2, h3, l3⟩ := h
  exact ⟨A1, A2, A3, c1, c2, c3, hv, own_ext h1 hx, l1, own_ext h2 hx, l2, own_ext h3 hx, l3⟩
def Cm.small (x : Cm) : Prop := x.ops.length ≤ 1048576 ∧ x.st.length ≤ 1048576 ∧ x.fin.length ≤ 1048576

def eqCm (x y : Cm) : Bool := (x.n == y.n) && (x.bits == y.bits) && (eqL eqO x.ops y.ops) && (eqL eqI x.st y.st) && (eqL eqI x.fin y.fin)
theorem eqCm_self (x : Cm) : eqCm x x = true := by
  unfold eqCm
  simp [eqL_self eqI eqI_self, eqL_self eqO eqO_self]
set_option maxRecDepth 100000 in
set_option maxHeartbeats 4000000 in
theorem eqCompiled_any (v u : Value) (x y : Cm) (w : World) (h : CmAt w w.heap.size v x) (h' : CmAt w w.heap.size u y) (hs : x.ops.length ≤ 100000000 ∧ y.ops.length ≤ 100000000 ∧ x.st.length ≤ 100000000 ∧ y.st.length ≤ 100000000 ∧ x.fin.length ≤ 100000000 ∧ y.fin.length ≤ 100000000) :
    Calls Tryz.prog 6 #[v, u] w fun e w' => e = .returned (.bool (eqCm x y)) ∧ Ext w w' := by
  obtain ⟨A1, A2, A3, c1, c2, c3, rfl, h1, h2, h3⟩ := h
  obtain ⟨B1, B2, B3, d1, d2, d3, rfl, r1, r2, r3⟩ := h'
  obtain ⟨s1, t1, s2, t2, s3, t3⟩ := hs
  go_enter Tryz.func6, Tryz.ntmps6
  cases i0 : (x.n == y.n)
  · have HE : Hid (eqCm x y = false) := by unfold Hid eqCm; rw [i0] <;> simp
    have j0 : (x.n != y.n) = true := by simp [bne, i0]
    go_wp2
    go_ret
    exact ⟨ret_bool HE.out.symm, (by repeat (first | exact Ext.refl _ | assumption | refine Ext.alloc ?_ _ | refine Ext.drewN ?_ _ | refine Ext.drew ?_))⟩
  have j0 : (x.n != y.n) = false := by simp [bne, i0]
  cases i1 : (x.bits == y.bits)
  · have HE : Hid (eqCm x y = false) := by unfold Hid eqCm; rw [i0, i1] <;> simp
    have j1 : (x.bits != y.bits) = true := by simp [bne, i1]
    go_wp2
    go_ret
    exact ⟨ret_bool HE.out.symm, (by repeat (first | exact Ext.refl _ | assumption | refine Ext.alloc ?_ _ | refine Ext.drewN ?_ _ | refine Ext.drew ?_))⟩
  have j1 : (x.bits != y.bits) = false := by simp [bne, i1]
  go_wp2_with fail
  refine (eqOpS_any A1 B1 _ _ c1 d1 x.ops y.ops _ (h1.ext (by repeat (first | exact Ext.refl _ | assumption | refine Ext.alloc ?_ _ | refine Ext.drewN ?_ _ | refine Ext.drew ?_))) (r1.ext (by repeat (first | exact Ext.refl _ | assumption | refine Ext.alloc ?_ _ | refine Ext.drewN ?_ _ | refine Ext.drew ?_))) s1 t1).mono ?_
  rintro e w1 ⟨rfl, hx1⟩
  have bx : Blk w1 w.heap.size 25 #[.int .i64 x.n, .int .i64 x.bits, .slice A1 x.ops.length c1, .slice A2 x.st.length c2, .slice A3 x.fin.length c3] := ((Blk.new w _ _).alloc _).ext hx1
  have by_ : Blk w1 (w.heap.size + 1) 25 #[.int .i64 y.n, .int .i64 y.bits, .slice B1 y.ops.length d1, .slice B2 y.st.length d2, .slice B3 y.fin.length d3] := (Blk.newAt (b := w.heap.size + 1) (by first | omega | (simp; done) | (simp; omega))).ext hx1
  have hy : Ext w w1 := Ext.trans (by repeat (first | exact Ext.refl _ | assumption | refine Ext.alloc ?_ _ | refine Ext.drewN ?_ _ | refine Ext.drew ?_)) hx1
  have p1_3 : w1.cell? ⟨w.heap.size, 3, none⟩ = some (.slice A2 x.st.length c2) := bx.cell 3
  have q1_3 : w1.cell? ⟨w.heap.size + 1, 3, none⟩ = some (.slice B2 y.st.length d2) := by_.cell 3
  have p1_4 : w1.cell? ⟨w.heap.size, 4, none⟩ = some (.slice A3 x.fin.length c3) := bx.cell 4
  have q1_4 : w1.cell? ⟨w.heap.size + 1, 4, none⟩ = some (.slice B3 y.fin.length d3) := by_.cell 4
  cases i2 : eqL eqO x.ops y.ops
  · have HE : Hid (eqCm x y = false) := by unfold Hid eqCm; rw [i0, i1, i2] <;> simp
    go_wp2
    go_ret
    exact ⟨ret_bool HE.out.symm, hy⟩
  go_wp2_with fail
  refine (eqIntS_any A2 B2 _ _ c2 d2 x.st y.st _ (h2.ext hy) (r2.ext hy) s2 t2).mono ?_
  rintro e w2 ⟨rfl, hx2⟩
  replace bx := bx.ext hx2
  replace by_ := by_.ext hx2
  replace hy := hy.trans hx2
  have p2_4 : w2.cell? ⟨w.heap.size, 4, none⟩ = some (.slice A3 x.fin.length c3) := bx.cell 4
  have q2_4 : w2.cell? ⟨w.heap.size + 1, 4, none⟩ = some (.slice B3 y.fin.length d3) := by_.cell 4
  cases i3 : eqL eqI x.st y.st
  · have HE : Hid (eqCm x y = false) := by unfold Hid eqCm; rw [i0, i1, i2, i3] <;> simp
    go_wp2
    go_ret
    exact ⟨ret_bool HE.out.symm, hy⟩
  go_wp2_with fail
  refine (eqIntS_any A3 B3 _ _ c3 d3 x.fin y.fin _ (h3.ext hy) (r3.ext hy) s3 t3).mono ?_
  rintro e w3 ⟨rfl, hx3⟩
  replace bx := bx.ext hx3
  replace by_ := by_.ext hx3
  replace hy := hy.trans hx3
  cases i4 : eqL eqI x.fin y.fin
  · have HE : Hid (eqCm x y = false) := by unfold Hid eqCm; rw [i0, i1, i2, i3, i4] <;> simp
    go_wp2
    go_ret
    exact ⟨ret_bool HE.out.symm, hy⟩
  have HE : Hid (eqCm x y = true) := by unfold Hid eqCm; rw [i0, i1, i2, i3, i4] <;> simp
  go_wp2
  go_ret
  exact ⟨ret_bool HE.out.symm, hy⟩
theorem Tryz.cellsCompiledSlInt : Tryz.prog.cellsOf 23 = 1 := by kernel_rfl
def Cm.ok (x : Cm) : Prop := I64 x.n ∧ I64 x.bits ∧ x.ops.length ≤ maxLen ∧ (∀ g ∈ x.ops, g.ok) ∧ x.st.length ≤ maxLen ∧ (∀ g ∈ x.st, I64 g) ∧ x.fin.length ≤ maxLen ∧ (∀ g ∈ x.fin, I64 g)
end Go.Proofs.YteecjnnompjmiacGreatDoor
