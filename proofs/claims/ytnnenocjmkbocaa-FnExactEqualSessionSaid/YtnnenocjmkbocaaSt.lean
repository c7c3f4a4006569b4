/-
  Helper text (no claim of its own): comparisons of sessions. Printed by gen_sess2.py.
-/
import Derived.Test.YtnnenocjmkbocaaSs
namespace Go.Proofs.Ytnnenocjmkbocaa
open Go.ChangeShapes Go.WideShapes Go.ChangeAt Go.RowKit Go.Deep
set_option maxRecDepth 100000 in
set_option maxHeartbeats 4000000 in
theorem eqSession_any (v u : Value) (x y : Ss) (w : World) (h : SsAt w w.heap.size v x) (h' : SsAt w w.heap.size u y) (s0 : x.g.es.length ≤ 100000000) (t0 : y.g.es.length ≤ 100000000) (hs : x.c.ops.length ≤ 100000000 ∧ y.c.ops.length ≤ 100000000 ∧ x.c.st.length ≤ 100000000 ∧ y.c.st.length ≤ 100000000 ∧ x.c.fin.length ≤ 100000000 ∧ y.c.fin.length ≤ 100000000) :
    Calls Try.prog 23 #[v, u] w fun e w' => e = .returned (.bool (eqSs x y)) ∧ Ext w w' := by
  obtain ⟨A0, A1, A2, A3, c0, c1, c2, c3, rfl, h0, h1, h2, h3⟩ := h
  obtain ⟨B0, B1, B2, B3, d0, d1, d2, d3, rfl, r0, r1, r2, r3⟩ := h'
  go_enter Try.func23, Try.ntmps23
  go_wp2_with fail
  refine (eqGraph_any _ _ x.g y.g _ ⟨A0, c0, rfl, h0.ext (by repeat (first | exact Ext.refl _ | assumption | refine Ext.alloc ?_ _ | refine Ext.drewN ?_ _ | refine Ext.drew ?_))⟩ ⟨B0, d0, rfl, r0.ext (by repeat (first | exact Ext.refl _ | assumption | refine Ext.alloc ?_ _ | refine Ext.drewN ?_ _ | refine Ext.drew ?_))⟩ ⟨s0, t0⟩).mono ?_
  rintro e w1 ⟨rfl, hx1⟩
  have bx : Blk w1 w.heap.size 48 #[.int .i64 x.g.n, .slice A0 x.g.es.length c0, .string x.t, .int .i64 x.c.n, .int .i64 x.c.bits, .slice A1 x.c.ops.length c1, .slice A2 x.c.st.length c2, .slice A3 x.c.fin.length c3, .bool x.h] := ((Blk.new w _ _).alloc _).ext hx1
  have by_ : Blk w1 (w.heap.size + 1) 48 #[.int .i64 y.g.n, .slice B0 y.g.es.length d0, .string y.t, .int .i64 y.c.n, .int .i64 y.c.bits, .slice B1 y.c.ops.length d1, .slice B2 y.c.st.length d2, .slice B3 y.c.fin.length d3, .bool y.h] := (Blk.newAt (b := w.heap.size + 1) (by first | omega | (simp; done) | (simp; omega))).ext hx1
  have hy : Ext w w1 := Ext.trans (by repeat (first | exact Ext.refl _ | assumption | refine Ext.alloc ?_ _ | refine Ext.drewN ?_ _ | refine Ext.drew ?_)) hx1
  have p2 : w1.cell? ⟨w.heap.size, 2, none⟩ = some (.string x.t) := bx.cell 2
  have q2 : w1.cell? ⟨w.heap.size + 1, 2, none⟩ = some (.string y.t) := by_.cell 2
  have p3 : w1.cell? ⟨w.heap.size, 3, none⟩ = some (.int .i64 x.c.n) := bx.cell 3
  have q3 : w1.cell? ⟨w.heap.size + 1, 3, none⟩ = some (.int .i64 y.c.n) := by_.cell 3
  have p4 : w1.cell? ⟨w.heap.size, 4, none⟩ = some (.int .i64 x.c.bits) := bx.cell 4
  have q4 : w1.cell? ⟨w.heap.size + 1, 4, none⟩ = some (.int .i64 y.c.bits) := by_.cell 4
  have p5 : w1.cell? ⟨w.heap.size, 5, none⟩ = some (.slice A1 x.c.ops.length c1) := bx.cell 5
  have q5 : w1.cell? ⟨w.heap.size + 1, 5, none⟩ = some (.slice B1 y.c.ops.length d1) := by_.cell 5
  have p6 : w1.cell? ⟨w.heap.size, 6, none⟩ = some (.slice A2 x.c.st.length c2) := bx.cell 6
  have q6 : w1.cell? ⟨w.heap.size + 1, 6, none⟩ = some (.slice B2 y.c.st.length d2) := by_.cell 6
  have p7 : w1.cell? ⟨w.heap.size, 7, none⟩ = some (.slice A3 x.c.fin.length c3) := bx.cell 7
  have q7 : w1.cell? ⟨w.heap.size + 1, 7, none⟩ = some (.slice B3 y.c.fin.length d3) := by_.cell 7
  have p8 : w1.cell? ⟨w.heap.size, 8, none⟩ = some (.bool x.h) := bx.cell 8
  have q8 : w1.cell? ⟨w.heap.size + 1, 8, none⟩ = some (.bool y.h) := by_.cell 8
  cases ieqG : eqGr x.g y.g
  · have HE : Hid (eqSs x y = false) := by unfold Hid eqSs; rw [ieqG] <;> simp
    go_wp2
    go_ret
    exact ⟨ret_bool HE.out.symm, hy⟩
  cases iT : (x.t.toList == y.t.toList)
  · have HE : Hid (eqSs x y = false) := by unfold Hid eqSs; rw [iT] <;> simp
    have jT : (x.t.toList != y.t.toList) = true := by simp [bne, iT]
    go_wp2
    go_ret
    exact ⟨ret_bool HE.out.symm, hy⟩
  have jT : (x.t.toList != y.t.toList) = false := by simp [bne, iT]
  go_wp2_with fail
  refine (eqCompiled_any _ _ x.c y.c _ ⟨A1, A2, A3, c1, c2, c3, rfl, h1.ext hy, h2.ext hy, h3.ext hy⟩ ⟨B1, B2, B3, d1, d2, d3, rfl, r1.ext hy, r2.ext hy, r3.ext hy⟩ hs).mono ?_
  rintro e w2 ⟨rfl, hx2⟩
  replace bx := bx.ext hx2
  replace by_ := by_.ext hx2
  replace hy := hy.trans hx2
  clear p2 q2 p3 q3 p4 q4 p5 q5 p6 q6 p7 q7 p8 q8
  have p2 : w2.cell? ⟨w.heap.size, 2, none⟩ = some (.string x.t) := bx.cell 2
  have q2 : w2.cell? ⟨w.heap.size + 1, 2, none⟩ = some (.string y.t) := by_.cell 2
  have p3 : w2.cell? ⟨w.heap.size, 3, none⟩ = some (.int .i64 x.c.n) := bx.cell 3
  have q3 : w2.cell? ⟨w.heap.size + 1, 3, none⟩ = some (.int .i64 y.c.n) := by_.cell 3
  have p4 : w2.cell? ⟨w.heap.size, 4, none⟩ = some (.int .i64 x.c.bits) := bx.cell 4
  have q4 : w2.cell? ⟨w.heap.size + 1, 4, none⟩ = some (.int .i64 y.c.bits) := by_.cell 4
  have p5 : w2.cell? ⟨w.heap.size, 5, none⟩ = some (.slice A1 x.c.ops.length c1) := bx.cell 5
  have q5 : w2.cell? ⟨w.heap.size + 1, 5, none⟩ = some (.slice B1 y.c.ops.length d1) := by_.cell 5
  have p6 : w2.cell? ⟨w.heap.size, 6, none⟩ = some (.slice A2 x.c.st.length c2) := bx.cell 6
  have q6 : w2.cell? ⟨w.heap.size + 1, 6, none⟩ = some (.slice B2 y.c.st.length d2) := by_.cell 6
  have p7 : w2.cell? ⟨w.heap.size, 7, none⟩ = some (.slice A3 x.c.fin.length c3) := bx.cell 7
  have q7 : w2.cell? ⟨w.heap.size + 1, 7, none⟩ = some (.slice B3 y.c.fin.length d3) := by_.cell 7
  have p8 : w2.cell? ⟨w.heap.size, 8, none⟩ = some (.bool x.h) := bx.cell 8
  have q8 : w2.cell? ⟨w.heap.size + 1, 8, none⟩ = some (.bool y.h) := by_.cell 8
  cases iC0 : eqCm x.c y.c
  · have HE : Hid (eqSs x y = false) := by unfold Hid eqSs; rw [iC0] <;> simp
    go_wp2
    go_ret
    exact ⟨ret_bool HE.out.symm, hy⟩
  cases iH : (x.h == y.h)
  · have HE : Hid (eqSs x y = false) := by unfold Hid eqSs; rw [iH] <;> simp
    have jH : (x.h != y.h) = true := by simp [bne, iH]
    go_wp2
    go_ret
    exact ⟨ret_bool HE.out.symm, hy⟩
  have jH : (x.h != y.h) = false := by simp [bne, iH]
  have HE : Hid (eqSs x y = true) := by unfold Hid eqSs; rw [ieqG, iT, iC0, iH] <;> simp
  go_wp2
  go_ret
  exact ⟨ret_bool HE.out.symm, hy⟩
set_option maxRecDepth 100000 in
set_option maxHeartbeats 4000000 in
theorem spec_EqualSession_any (v u : Value) (x y : Ss) (w : World) (h : SsAt w w.heap.size v x) (h' : SsAt w w.heap.size u y) (s0 : x.g.es.length ≤ 100000000) (t0 : y.g.es.length ≤ 100000000) (hs : x.c.ops.length ≤ 100000000 ∧ y.c.ops.length ≤ 100000000 ∧ x.c.st.length ≤ 100000000 ∧ y.c.st.length ≤ 100000000 ∧ x.c.fin.length ≤ 100000000 ∧ y.c.fin.length ≤ 100000000) :
    Calls Try.prog 20 #[v, u] w fun e w' => e = .returned (.bool (eqSs x y)) ∧ Ext w w' := by
  obtain ⟨A0, A1, A2, A3, c0, c1, c2, c3, rfl, h0, h1, h2, h3⟩ := h
  obtain ⟨B0, B1, B2, B3, d0, d1, d2, d3, rfl, r0, r1, r2, r3⟩ := h'
  go_enter Try.func20, Try.ntmps20
  cases iT : (x.t.toList == y.t.toList)
  · have HE : Hid (eqSs x y = false) := by unfold Hid eqSs eqGr; rw [iT] <;> simp
    have jT : (x.t.toList != y.t.toList) = true := by simp [bne, iT]
    go_wp2
    go_ret
    exact ⟨ret_bool HE.out.symm, (by repeat (first | exact Ext.refl _ | assumption | refine Ext.alloc ?_ _ | refine Ext.drewN ?_ _ | refine Ext.drew ?_))⟩
  have jT : (x.t.toList != y.t.toList) = false := by simp [bne, iT]
  cases iH : (x.h == y.h)
  · have HE : Hid (eqSs x y = false) := by unfold Hid eqSs eqGr; rw [iH] <;> simp
    have jH : (x.h != y.h) = true := by simp [bne, iH]
    go_wp2
    go_ret
    exact ⟨ret_bool HE.out.symm, (by repeat (first | exact Ext.refl _ | assumption | refine Ext.alloc ?_ _ | refine Ext.drewN ?_ _ | refine Ext.drew ?_))⟩
  have jH : (x.h != y.h) = false := by simp [bne, iH]
  cases iN : (x.g.n == y.g.n)
  · have HE : Hid (eqSs x y = false) := by unfold Hid eqSs eqGr; rw [iN] <;> simp
    have jN : (x.g.n != y.g.n) = true := by simp [bne, iN]
    go_wp2
    go_ret
    exact ⟨ret_bool HE.out.symm, (by repeat (first | exact Ext.refl _ | assumption | refine Ext.alloc ?_ _ | refine Ext.drewN ?_ _ | refine Ext.drew ?_))⟩
  have jN : (x.g.n != y.g.n) = false := by simp [bne, iN]
  go_wp2_with fail
  refine (l46Edges_any A0 B0 _ _ c0 d0 x.g.es y.g.es _ (h0.ext (by repeat (first | exact Ext.refl _ | assumption | refine Ext.alloc ?_ _ | refine Ext.drewN ?_ _ | refine Ext.drew ?_))) (r0.ext (by repeat (first | exact Ext.refl _ | assumption | refine Ext.alloc ?_ _ | refine Ext.drewN ?_ _ | refine Ext.drew ?_))) s0 t0).mono ?_
  rintro e w1 ⟨rfl, hx1⟩
  have bx : Blk w1 w.heap.size 48 #[.int .i64 x.g.n, .slice A0 x.g.es.length c0, .string x.t, .int .i64 x.c.n, .int .i64 x.c.bits, .slice A1 x.c.ops.length c1, .slice A2 x.c.st.length c2, .slice A3 x.c.fin.length c3, .bool x.h] := ((Blk.new w _ _).alloc _).ext hx1
  have by_ : Blk w1 (w.heap.size + 1) 48 #[.int .i64 y.g.n, .slice B0 y.g.es.length d0, .string y.t, .int .i64 y.c.n, .int .i64 y.c.bits, .slice B1 y.c.ops.length d1, .slice B2 y.c.st.length d2, .slice B3 y.c.fin.length d3, .bool y.h] := (Blk.newAt (b := w.heap.size + 1) (by first | omega | (simp; done) | (simp; omega))).ext hx1
  have hy : Ext w w1 := Ext.trans (by repeat (first | exact Ext.refl _ | assumption | refine Ext.alloc ?_ _ | refine Ext.drewN ?_ _ | refine Ext.drew ?_)) hx1
  have p2 : w1.cell? ⟨w.heap.size, 2, none⟩ = some (.string x.t) := bx.cell 2
  have q2 : w1.cell? ⟨w.heap.size + 1, 2, none⟩ = some (.string y.t) := by_.cell 2
  have p3 : w1.cell? ⟨w.heap.size, 3, none⟩ = some (.int .i64 x.c.n) := bx.cell 3
  have q3 : w1.cell? ⟨w.heap.size + 1, 3, none⟩ = some (.int .i64 y.c.n) := by_.cell 3
  have p4 : w1.cell? ⟨w.heap.size, 4, none⟩ = some (.int .i64 x.c.bits) := bx.cell 4
  have q4 : w1.cell? ⟨w.heap.size + 1, 4, none⟩ = some (.int .i64 y.c.bits) := by_.cell 4
  have p5 : w1.cell? ⟨w.heap.size, 5, none⟩ = some (.slice A1 x.c.ops.length c1) := bx.cell 5
  have q5 : w1.cell? ⟨w.heap.size + 1, 5, none⟩ = some (.slice B1 y.c.ops.length d1) := by_.cell 5
  have p6 : w1.cell? ⟨w.heap.size, 6, none⟩ = some (.slice A2 x.c.st.length c2) := bx.cell 6
  have q6 : w1.cell? ⟨w.heap.size + 1, 6, none⟩ = some (.slice B2 y.c.st.length d2) := by_.cell 6
  have p7 : w1.cell? ⟨w.heap.size, 7, none⟩ = some (.slice A3 x.c.fin.length c3) := bx.cell 7
  have q7 : w1.cell? ⟨w.heap.size + 1, 7, none⟩ = some (.slice B3 y.c.fin.length d3) := by_.cell 7
  have p8 : w1.cell? ⟨w.heap.size, 8, none⟩ = some (.bool x.h) := bx.cell 8
  have q8 : w1.cell? ⟨w.heap.size + 1, 8, none⟩ = some (.bool y.h) := by_.cell 8
  cases iE1 : eqL eqE x.g.es y.g.es
  · have HE : Hid (eqSs x y = false) := by unfold Hid eqSs eqGr; rw [iE1] <;> simp
    go_wp2
    go_ret
    exact ⟨ret_bool HE.out.symm, hy⟩
  go_wp2_with fail
  refine (spec_EqualCompiled_any _ _ x.c y.c _ ⟨A1, A2, A3, c1, c2, c3, rfl, h1.ext hy, h2.ext hy, h3.ext hy⟩ ⟨B1, B2, B3, d1, d2, d3, rfl, r1.ext hy, r2.ext hy, r3.ext hy⟩ hs).mono ?_
  rintro e w2 ⟨rfl, hx2⟩
  replace bx := bx.ext hx2
  replace by_ := by_.ext hx2
  replace hy := hy.trans hx2
  clear p2 q2 p3 q3 p4 q4 p5 q5 p6 q6 p7 q7 p8 q8
  have p2 : w2.cell? ⟨w.heap.size, 2, none⟩ = some (.string x.t) := bx.cell 2
  have q2 : w2.cell? ⟨w.heap.size + 1, 2, none⟩ = some (.string y.t) := by_.cell 2
  have p3 : w2.cell? ⟨w.heap.size, 3, none⟩ = some (.int .i64 x.c.n) := bx.cell 3
  have q3 : w2.cell? ⟨w.heap.size + 1, 3, none⟩ = some (.int .i64 y.c.n) := by_.cell 3
  have p4 : w2.cell? ⟨w.heap.size, 4, none⟩ = some (.int .i64 x.c.bits) := bx.cell 4
  have q4 : w2.cell? ⟨w.heap.size + 1, 4, none⟩ = some (.int .i64 y.c.bits) := by_.cell 4
  have p5 : w2.cell? ⟨w.heap.size, 5, none⟩ = some (.slice A1 x.c.ops.length c1) := bx.cell 5
  have q5 : w2.cell? ⟨w.heap.size + 1, 5, none⟩ = some (.slice B1 y.c.ops.length d1) := by_.cell 5
  have p6 : w2.cell? ⟨w.heap.size, 6, none⟩ = some (.slice A2 x.c.st.length c2) := bx.cell 6
  have q6 : w2.cell? ⟨w.heap.size + 1, 6, none⟩ = some (.slice B2 y.c.st.length d2) := by_.cell 6
  have p7 : w2.cell? ⟨w.heap.size, 7, none⟩ = some (.slice A3 x.c.fin.length c3) := bx.cell 7
  have q7 : w2.cell? ⟨w.heap.size + 1, 7, none⟩ = some (.slice B3 y.c.fin.length d3) := by_.cell 7
  have p8 : w2.cell? ⟨w.heap.size, 8, none⟩ = some (.bool x.h) := bx.cell 8
  have q8 : w2.cell? ⟨w.heap.size + 1, 8, none⟩ = some (.bool y.h) := by_.cell 8
  cases iC1 : eqCm x.c y.c
  · have HE : Hid (eqSs x y = false) := by unfold Hid eqSs eqGr; rw [iC1] <;> simp
    go_wp2
    go_ret
    exact ⟨ret_bool HE.out.symm, hy⟩
  have HE : Hid (eqSs x y = true) := by unfold Hid eqSs eqGr; rw [iN, iE1, iT, iC1, iH] <;> simp
  go_wp2
  go_ret
  exact ⟨ret_bool HE.out.symm, hy⟩
set_option maxRecDepth 100000 in
set_option maxHeartbeats 4000000 in
theorem impl_EqualSession_any (v u : Value) (x y : Ss) (w : World) (h : SsAt w w.heap.size v x) (h' : SsAt w w.heap.size u y) (s0 : x.g.es.length ≤ 100000000) (t0 : y.g.es.length ≤ 100000000) (hs : x.c.ops.length ≤ 100000000 ∧ y.c.ops.length ≤ 100000000 ∧ x.c.st.length ≤ 100000000 ∧ y.c.st.length ≤ 100000000 ∧ x.c.fin.length ≤ 100000000 ∧ y.c.fin.length ≤ 100000000) :
    Calls Try.prog 22 #[v, u] w fun e w' => e = .returned (.bool (eqSs x y)) ∧ Ext w w' := by
  obtain ⟨A0, A1, A2, A3, c0, c1, c2, c3, rfl, h0, h1, h2, h3⟩ := h
  obtain ⟨B0, B1, B2, B3, d0, d1, d2, d3, rfl, r0, r1, r2, r3⟩ := h'
  go_enter Try.func22, Try.ntmps22
  cases iN : (x.g.n == y.g.n)
  · have HE : Hid (eqSs x y = false) := by unfold Hid eqSs eqGr; rw [iN] <;> simp
    have jN : (x.g.n != y.g.n) = true := by simp [bne, iN]
    go_wp2
    go_ret
    exact ⟨ret_bool HE.out.symm, (by repeat (first | exact Ext.refl _ | assumption | refine Ext.alloc ?_ _ | refine Ext.drewN ?_ _ | refine Ext.drew ?_))⟩
  have jN : (x.g.n != y.g.n) = false := by simp [bne, iN]
  go_wp2_with fail
  refine (sameEdge_any A0 B0 _ _ c0 d0 x.g.es y.g.es _ (h0.ext (by repeat (first | exact Ext.refl _ | assumption | refine Ext.alloc ?_ _ | refine Ext.drewN ?_ _ | refine Ext.drew ?_))) (r0.ext (by repeat (first | exact Ext.refl _ | assumption | refine Ext.alloc ?_ _ | refine Ext.drewN ?_ _ | refine Ext.drew ?_))) s0 t0).mono ?_
  rintro e w1 ⟨rfl, hx1⟩
  have bx : Blk w1 w.heap.size 48 #[.int .i64 x.g.n, .slice A0 x.g.es.length c0, .string x.t, .int .i64 x.c.n, .int .i64 x.c.bits, .slice A1 x.c.ops.length c1, .slice A2 x.c.st.length c2, .slice A3 x.c.fin.length c3, .bool x.h] := ((Blk.new w _ _).alloc _).ext hx1
  have by_ : Blk w1 (w.heap.size + 1) 48 #[.int .i64 y.g.n, .slice B0 y.g.es.length d0, .string y.t, .int .i64 y.c.n, .int .i64 y.c.bits, .slice B1 y.c.ops.length d1, .slice B2 y.c.st.length d2, .slice B3 y.c.fin.length d3, .bool y.h] := (Blk.newAt (b := w.heap.size + 1) (by first | omega | (simp; done) | (simp; omega))).ext hx1
  have hy : Ext w w1 := Ext.trans (by repeat (first | exact Ext.refl _ | assumption | refine Ext.alloc ?_ _ | refine Ext.drewN ?_ _ | refine Ext.drew ?_)) hx1
  have p2 : w1.cell? ⟨w.heap.size, 2, none⟩ = some (.string x.t) := bx.cell 2
  have q2 : w1.cell? ⟨w.heap.size + 1, 2, none⟩ = some (.string y.t) := by_.cell 2
  have p3 : w1.cell? ⟨w.heap.size, 3, none⟩ = some (.int .i64 x.c.n) := bx.cell 3
  have q3 : w1.cell? ⟨w.heap.size + 1, 3, none⟩ = some (.int .i64 y.c.n) := by_.cell 3
  have p4 : w1.cell? ⟨w.heap.size, 4, none⟩ = some (.int .i64 x.c.bits) := bx.cell 4
  have q4 : w1.cell? ⟨w.heap.size + 1, 4, none⟩ = some (.int .i64 y.c.bits) := by_.cell 4
  have p5 : w1.cell? ⟨w.heap.size, 5, none⟩ = some (.slice A1 x.c.ops.length c1) := bx.cell 5
  have q5 : w1.cell? ⟨w.heap.size + 1, 5, none⟩ = some (.slice B1 y.c.ops.length d1) := by_.cell 5
  have p6 : w1.cell? ⟨w.heap.size, 6, none⟩ = some (.slice A2 x.c.st.length c2) := bx.cell 6
  have q6 : w1.cell? ⟨w.heap.size + 1, 6, none⟩ = some (.slice B2 y.c.st.length d2) := by_.cell 6
  have p7 : w1.cell? ⟨w.heap.size, 7, none⟩ = some (.slice A3 x.c.fin.length c3) := bx.cell 7
  have q7 : w1.cell? ⟨w.heap.size + 1, 7, none⟩ = some (.slice B3 y.c.fin.length d3) := by_.cell 7
  have p8 : w1.cell? ⟨w.heap.size, 8, none⟩ = some (.bool x.h) := bx.cell 8
  have q8 : w1.cell? ⟨w.heap.size + 1, 8, none⟩ = some (.bool y.h) := by_.cell 8
  cases iE2 : eqL eqE x.g.es y.g.es
  · have HE : Hid (eqSs x y = false) := by unfold Hid eqSs eqGr; rw [iE2] <;> simp
    go_wp2
    go_ret
    exact ⟨ret_bool HE.out.symm, hy⟩
  cases iT : (x.t.toList == y.t.toList)
  · have HE : Hid (eqSs x y = false) := by unfold Hid eqSs eqGr; rw [iT] <;> simp
    have jT : (x.t.toList != y.t.toList) = true := by simp [bne, iT]
    go_wp2
    go_ret
    exact ⟨ret_bool HE.out.symm, hy⟩
  have jT : (x.t.toList != y.t.toList) = false := by simp [bne, iT]
  go_wp2_with fail
  refine (impl_EqualCompiled_any _ _ x.c y.c _ ⟨A1, A2, A3, c1, c2, c3, rfl, h1.ext hy, h2.ext hy, h3.ext hy⟩ ⟨B1, B2, B3, d1, d2, d3, rfl, r1.ext hy, r2.ext hy, r3.ext hy⟩ hs).mono ?_
  rintro e w2 ⟨rfl, hx2⟩
  replace bx := bx.ext hx2
  replace by_ := by_.ext hx2
  replace hy := hy.trans hx2
  clear p2 q2 p3 q3 p4 q4 p5 q5 p6 q6 p7 q7 p8 q8
  have p2 : w2.cell? ⟨w.heap.size, 2, none⟩ = some (.string x.t) := bx.cell 2
  have q2 : w2.cell? ⟨w.heap.size + 1, 2, none⟩ = some (.string y.t) := by_.cell 2
  have p3 : w2.cell? ⟨w.heap.size, 3, none⟩ = some (.int .i64 x.c.n) := bx.cell 3
  have q3 : w2.cell? ⟨w.heap.size + 1, 3, none⟩ = some (.int .i64 y.c.n) := by_.cell 3
  have p4 : w2.cell? ⟨w.heap.size, 4, none⟩ = some (.int .i64 x.c.bits) := bx.cell 4
  have q4 : w2.cell? ⟨w.heap.size + 1, 4, none⟩ = some (.int .i64 y.c.bits) := by_.cell 4
  have p5 : w2.cell? ⟨w.heap.size, 5, none⟩ = some (.slice A1 x.c.ops.length c1) := bx.cell 5
  have q5 : w2.cell? ⟨w.heap.size + 1, 5, none⟩ = some (.slice B1 y.c.ops.length d1) := by_.cell 5
  have p6 : w2.cell? ⟨w.heap.size, 6, none⟩ = some (.slice A2 x.c.st.length c2) := bx.cell 6
  have q6 : w2.cell? ⟨w.heap.size + 1, 6, none⟩ = some (.slice B2 y.c.st.length d2) := by_.cell 6
  have p7 : w2.cell? ⟨w.heap.size, 7, none⟩ = some (.slice A3 x.c.fin.length c3) := bx.cell 7
  have q7 : w2.cell? ⟨w.heap.size + 1, 7, none⟩ = some (.slice B3 y.c.fin.length d3) := by_.cell 7
  have p8 : w2.cell? ⟨w.heap.size, 8, none⟩ = some (.bool x.h) := bx.cell 8
  have q8 : w2.cell? ⟨w.heap.size + 1, 8, none⟩ = some (.bool y.h) := by_.cell 8
  cases iC2 : eqCm x.c y.c
  · have HE : Hid (eqSs x y = false) := by unfold Hid eqSs eqGr; rw [iC2] <;> simp
    go_wp2
    go_ret
    exact ⟨ret_bool HE.out.symm, hy⟩
  cases iH : (x.h == y.h)
  · have HE : Hid (eqSs x y = false) := by unfold Hid eqSs eqGr; rw [iH] <;> simp
    have jH : (x.h != y.h) = true := by simp [bne, iH]
    go_wp2
    go_ret
    exact ⟨ret_bool HE.out.symm, hy⟩
  have jH : (x.h != y.h) = false := by simp [bne, iH]
  have HE : Hid (eqSs x y = true) := by unfold Hid eqSs eqGr; rw [iN, iE2, iT, iC2, iH] <;> simp
  go_wp2
  go_ret
  exact ⟨ret_bool HE.out.symm, hy⟩
end Go.Proofs.Ytnnenocjmkbocaa
