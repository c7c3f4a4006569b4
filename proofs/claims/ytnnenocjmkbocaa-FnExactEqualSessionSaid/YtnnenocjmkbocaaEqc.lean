/-
  Helper text (no claim of its own): comparison of compiled results, as records, and the laws' own helpers on them. Printed in part by gen_struct.py.
-/
import Derived.Test.YtnnenocjmkbocaaCm
namespace Go.Proofs.Ytnnenocjmkbocaa
open Go.ChangeShapes Go.WideShapes Go.ChangeAt Go.RowKit Go.Deep
set_option maxRecDepth 100000 in
set_option maxHeartbeats 4000000 in
theorem spec_EqualCompiled_any (v u : Value) (x y : Cm) (w : World) (h : CmAt w w.heap.size v x) (h' : CmAt w w.heap.size u y) (hs : x.ops.length ≤ 100000000 ∧ y.ops.length ≤ 100000000 ∧ x.st.length ≤ 100000000 ∧ y.st.length ≤ 100000000 ∧ x.fin.length ≤ 100000000 ∧ y.fin.length ≤ 100000000) :
    Calls Try.prog 81 #[v, u] w fun e w' => e = .returned (.bool (eqCm x y)) ∧ Ext w w' := by
  obtain ⟨A1, A2, A3, c1, c2, c3, rfl, h1, h2, h3⟩ := h
  obtain ⟨B1, B2, B3, d1, d2, d3, rfl, r1, r2, r3⟩ := h'
  obtain ⟨s1, t1, s2, t2, s3, t3⟩ := hs
  go_enter Try.func81, Try.ntmps81
  cases i0 : (x.n == y.n)
  · have HE : Hid (eqCm x y = false) := by unfold Hid eqCm; rw [i0] <;> simp
    have j0 : (x.n != y.n) = true := by simp [bne, i0]
    go_wp2
    go_ret
    exact ⟨ret_bool HE.out.symm, (by repeat (first | exact Ext.refl _ | assumption | refine Ext.alloc ?_ _ | refine Ext.drewN ?_ _ | refine Ext.drew ?_))⟩
  have j0 : (x.n != y.n) = false := by simp [bne, i0]
  cases i1 : (x.bits == y.bits)
  · have HE : Hid (eqCm x y = false) := by unfold Hid eqCm; rw [i0, i1] <;> simp
    have j1 : (x.bits != y.bits) = true := by simp [bne, i1]
    go_wp2
    go_ret
    exact ⟨ret_bool HE.out.symm, (by repeat (first | exact Ext.refl _ | assumption | refine Ext.alloc ?_ _ | refine Ext.drewN ?_ _ | refine Ext.drew ?_))⟩
  have j1 : (x.bits != y.bits) = false := by simp [bne, i1]
  go_wp2_with fail
  refine (l21List_any A1 B1 _ _ c1 d1 x.ops y.ops _ (h1.ext (by repeat (first | exact Ext.refl _ | assumption | refine Ext.alloc ?_ _ | refine Ext.drewN ?_ _ | refine Ext.drew ?_))) (r1.ext (by repeat (first | exact Ext.refl _ | assumption | refine Ext.alloc ?_ _ | refine Ext.drewN ?_ _ | refine Ext.drew ?_))) s1 t1).mono ?_
  rintro e w1 ⟨rfl, hx1⟩
  have bx : Blk w1 w.heap.size 46 #[.int .i64 x.n, .int .i64 x.bits, .slice A1 x.ops.length c1, .slice A2 x.st.length c2, .slice A3 x.fin.length c3] := ((Blk.new w _ _).alloc _).ext hx1
  have by_ : Blk w1 (w.heap.size + 1) 46 #[.int .i64 y.n, .int .i64 y.bits, .slice B1 y.ops.length d1, .slice B2 y.st.length d2, .slice B3 y.fin.length d3] := (Blk.newAt (b := w.heap.size + 1) (by first | omega | (simp; done) | (simp; omega))).ext hx1
  have hy : Ext w w1 := Ext.trans (by repeat (first | exact Ext.refl _ | assumption | refine Ext.alloc ?_ _ | refine Ext.drewN ?_ _ | refine Ext.drew ?_)) hx1
  have p1_3 : w1.cell? ⟨w.heap.size, 3, none⟩ = some (.slice A2 x.st.length c2) := bx.cell 3
  have q1_3 : w1.cell? ⟨w.heap.size + 1, 3, none⟩ = some (.slice B2 y.st.length d2) := by_.cell 3
  have p1_4 : w1.cell? ⟨w.heap.size, 4, none⟩ = some (.slice A3 x.fin.length c3) := bx.cell 4
  have q1_4 : w1.cell? ⟨w.heap.size + 1, 4, none⟩ = some (.slice B3 y.fin.length d3) := by_.cell 4
  cases i2 : eqL eqO x.ops y.ops
  · have HE : Hid (eqCm x y = false) := by unfold Hid eqCm; rw [i0, i1, i2] <;> simp
    go_wp2
    go_ret
    exact ⟨ret_bool HE.out.symm, hy⟩
  go_wp2_with fail
  refine (l1Ints_any A2 B2 _ _ c2 d2 x.st y.st _ (h2.ext hy) (r2.ext hy) s2 t2).mono ?_
  rintro e w2 ⟨rfl, hx2⟩
  replace bx := bx.ext hx2
  replace by_ := by_.ext hx2
  replace hy := hy.trans hx2
  have p2_4 : w2.cell? ⟨w.heap.size, 4, none⟩ = some (.slice A3 x.fin.length c3) := bx.cell 4
  have q2_4 : w2.cell? ⟨w.heap.size + 1, 4, none⟩ = some (.slice B3 y.fin.length d3) := by_.cell 4
  cases i3 : eqL eqI x.st y.st
  · have HE : Hid (eqCm x y = false) := by unfold Hid eqCm; rw [i0, i1, i2, i3] <;> simp
    go_wp2
    go_ret
    exact ⟨ret_bool HE.out.symm, hy⟩
  go_wp2_with fail
  refine (l1Ints_any A3 B3 _ _ c3 d3 x.fin y.fin _ (h3.ext hy) (r3.ext hy) s3 t3).mono ?_
  rintro e w3 ⟨rfl, hx3⟩
  replace bx := bx.ext hx3
  replace by_ := by_.ext hx3
  replace hy := hy.trans hx3
  cases i4 : eqL eqI x.fin y.fin
  · have HE : Hid (eqCm x y = false) := by unfold Hid eqCm; rw [i0, i1, i2, i3, i4] <;> simp
    go_wp2
    go_ret
    exact ⟨ret_bool HE.out.symm, hy⟩
  have HE : Hid (eqCm x y = true) := by unfold Hid eqCm; rw [i0, i1, i2, i3, i4] <;> simp
  go_wp2
  go_ret
  exact ⟨ret_bool HE.out.symm, hy⟩
set_option maxRecDepth 100000 in
set_option maxHeartbeats 4000000 in
theorem impl_EqualCompiled_any (v u : Value) (x y : Cm) (w : World) (h : CmAt w w.heap.size v x) (h' : CmAt w w.heap.size u y) (hs : x.ops.length ≤ 100000000 ∧ y.ops.length ≤ 100000000 ∧ x.st.length ≤ 100000000 ∧ y.st.length ≤ 100000000 ∧ x.fin.length ≤ 100000000 ∧ y.fin.length ≤ 100000000) :
    Calls Try.prog 83 #[v, u] w fun e w' => e = .returned (.bool (eqCm x y)) ∧ Ext w w' := by
  obtain ⟨A1, A2, A3, c1, c2, c3, rfl, h1, h2, h3⟩ := h
  obtain ⟨B1, B2, B3, d1, d2, d3, rfl, r1, r2, r3⟩ := h'
  obtain ⟨s1, t1, s2, t2, s3, t3⟩ := hs
  go_enter Try.func83, Try.ntmps83
  cases i0 : (x.n == y.n)
  · have HE : Hid (eqCm x y = false) := by unfold Hid eqCm; rw [i0] <;> simp
    have j0 : (x.n != y.n) = true := by simp [bne, i0]
    go_wp2
    go_ret
    exact ⟨ret_bool HE.out.symm, (by repeat (first | exact Ext.refl _ | assumption | refine Ext.alloc ?_ _ | refine Ext.drewN ?_ _ | refine Ext.drew ?_))⟩
  have j0 : (x.n != y.n) = false := by simp [bne, i0]
  cases i1 : (x.bits == y.bits)
  · have HE : Hid (eqCm x y = false) := by unfold Hid eqCm; rw [i0, i1] <;> simp
    have j1 : (x.bits != y.bits) = true := by simp [bne, i1]
    go_wp2
    go_ret
    exact ⟨ret_bool HE.out.symm, (by repeat (first | exact Ext.refl _ | assumption | refine Ext.alloc ?_ _ | refine Ext.drewN ?_ _ | refine Ext.drew ?_))⟩
  have j1 : (x.bits != y.bits) = false := by simp [bne, i1]
  go_wp2_with fail
  refine (sameOp_any A1 B1 _ _ c1 d1 x.ops y.ops _ (h1.ext (by repeat (first | exact Ext.refl _ | assumption | refine Ext.alloc ?_ _ | refine Ext.drewN ?_ _ | refine Ext.drew ?_))) (r1.ext (by repeat (first | exact Ext.refl _ | assumption | refine Ext.alloc ?_ _ | refine Ext.drewN ?_ _ | refine Ext.drew ?_))) s1 t1).mono ?_
  rintro e w1 ⟨rfl, hx1⟩
  have bx : Blk w1 w.heap.size 46 #[.int .i64 x.n, .int .i64 x.bits, .slice A1 x.ops.length c1, .slice A2 x.st.length c2, .slice A3 x.fin.length c3] := ((Blk.new w _ _).alloc _).ext hx1
  have by_ : Blk w1 (w.heap.size + 1) 46 #[.int .i64 y.n, .int .i64 y.bits, .slice B1 y.ops.length d1, .slice B2 y.st.length d2, .slice B3 y.fin.length d3] := (Blk.newAt (b := w.heap.size + 1) (by first | omega | (simp; done) | (simp; omega))).ext hx1
  have hy : Ext w w1 := Ext.trans (by repeat (first | exact Ext.refl _ | assumption | refine Ext.alloc ?_ _ | refine Ext.drewN ?_ _ | refine Ext.drew ?_)) hx1
  have p1_3 : w1.cell? ⟨w.heap.size, 3, none⟩ = some (.slice A2 x.st.length c2) := bx.cell 3
  have q1_3 : w1.cell? ⟨w.heap.size + 1, 3, none⟩ = some (.slice B2 y.st.length d2) := by_.cell 3
  have p1_4 : w1.cell? ⟨w.heap.size, 4, none⟩ = some (.slice A3 x.fin.length c3) := bx.cell 4
  have q1_4 : w1.cell? ⟨w.heap.size + 1, 4, none⟩ = some (.slice B3 y.fin.length d3) := by_.cell 4
  cases i2 : eqL eqO x.ops y.ops
  · have HE : Hid (eqCm x y = false) := by unfold Hid eqCm; rw [i0, i1, i2] <;> simp
    go_wp2
    go_ret
    exact ⟨ret_bool HE.out.symm, hy⟩
  go_wp2_with fail
  refine (sameInt_any A2 B2 _ _ c2 d2 x.st y.st _ (h2.ext hy) (r2.ext hy) s2 t2).mono ?_
  rintro e w2 ⟨rfl, hx2⟩
  replace bx := bx.ext hx2
  replace by_ := by_.ext hx2
  replace hy := hy.trans hx2
  have p2_4 : w2.cell? ⟨w.heap.size, 4, none⟩ = some (.slice A3 x.fin.length c3) := bx.cell 4
  have q2_4 : w2.cell? ⟨w.heap.size + 1, 4, none⟩ = some (.slice B3 y.fin.length d3) := by_.cell 4
  cases i3 : eqL eqI x.st y.st
  · have HE : Hid (eqCm x y = false) := by unfold Hid eqCm; rw [i0, i1, i2, i3] <;> simp
    go_wp2
    go_ret
    exact ⟨ret_bool HE.out.symm, hy⟩
  go_wp2_with fail
  refine (sameInt_any A3 B3 _ _ c3 d3 x.fin y.fin _ (h3.ext hy) (r3.ext hy) s3 t3).mono ?_
  rintro e w3 ⟨rfl, hx3⟩
  replace bx := bx.ext hx3
  replace by_ := by_.ext hx3
  replace hy := hy.trans hx3
  cases i4 : eqL eqI x.fin y.fin
  · have HE : Hid (eqCm x y = false) := by unfold Hid eqCm; rw [i0, i1, i2, i3, i4] <;> simp
    go_wp2
    go_ret
    exact ⟨ret_bool HE.out.symm, hy⟩
  have HE : Hid (eqCm x y = true) := by unfold Hid eqCm; rw [i0, i1, i2, i3, i4] <;> simp
  go_wp2
  go_ret
  exact ⟨ret_bool HE.out.symm, hy⟩
end Go.Proofs.Ytnnenocjmkbocaa
