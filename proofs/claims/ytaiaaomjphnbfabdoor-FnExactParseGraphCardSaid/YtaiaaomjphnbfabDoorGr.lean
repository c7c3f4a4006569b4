/-
  Helper text (no claim of its own): graphs, as records, and the laws' own helpers on them. Printed in part by gen_struct.py.
-/
import Derived.Test.YtaiaaomjphnbfabDoorEdge
namespace Go.Proofs.YtaiaaomjphnbfabDoor
open Go.ChangeShapes Go.WideShapes Go.ChangeAt Go.RowKit Go.Deep
structure Gr where
  n : Int
  es : List Ed
/-- The struct value v reads as the record x; its slices lie below block B. -/
def GrAt (w : World) (B : Nat) (v : Value) (x : Gr) : Prop :=
  ∃ (A1 : Option Addr) (c1 : Nat), v = .agg #[.int .i64 x.n, .slice A1 x.es.length c1] ∧ Rd w B 2 A1 x.es.length (ecells x.es)
/-- The same, each slice in new memory of its own: slice j from block b(j-1) on and below bj. -/
def GrOwn (w : World) (b0 b1 : Nat) (v : Value) (x : Gr) : Prop :=
  ∃ (A1 : Option Addr) (c1 : Nat), v = .agg #[.int .i64 x.n, .slice A1 x.es.length c1] ∧ w.ownsRow b0 35 2 (.slice A1 x.es.length c1) x.es.length (ecells x.es) ∧ (∀ g, (Value.slice A1 x.es.length c1).ownBlock = some g → g < b1)
theorem GrAt.up {w w' : World} {B : Nat} {v : Value} {x : Gr} (h : GrAt w B v x) (hx : Ext w w') (hB : B ≤ w.heap.size) : GrAt w' B v x := by
  obtain ⟨A1, c1, hv, h1⟩ := h
  exact ⟨A1, c1, hv, h1.up hx hB⟩
theorem GrAt.more {w : World} {B B' : Nat} {v : Value} {x : Gr} (h : GrAt w B v x) (hB : B ≤ B') : GrAt w B' v x := by
  obtain ⟨A1, c1, hv, h1⟩ := h
  exact ⟨A1, c1, hv, h1.more hB⟩
theorem GrAt.grown {w w' : World} {B : Nat} {v : Value} {x : Gr} {row : Option Nat} (h : GrAt w B v x) (hg : w.grownBy w' row) (hB : B ≤ w.heap.size) (hr : ∀ g, row = some g → B ≤ g) : GrAt w' B v x := by
  obtain ⟨A1, c1, hv, h1⟩ := h
  exact ⟨A1, c1, hv, h1.grown hg hB hr⟩
theorem GrOwn.at_ {w : World} {b0 b1 : Nat} {v : Value} {x : Gr} (h : GrOwn w b0 b1 v x) : GrAt w w.heap.size v x := by
  obtain ⟨A1, c1, hv, h1, l1⟩ := h
  exact ⟨A1, c1, hv, Rd.own h1⟩
theorem GrOwn.ext {w w' : World} {b0 b1 : Nat} {v : Value} {x : Gr} (h : GrOwn w b0 b1 v x) (hx : Ext w w') : GrOwn w' b0 b1 v x := by
  obtain ⟨A1, c1, hv, h1, l1⟩ := h
  exact ⟨A1, c1, hv, own_ext h1 hx, l1⟩
def Gr.small (x : Gr) : Prop := x.es.length ≤ 1048576

def eqGr (x y : Gr) : Bool := (x.n == y.n) && (eqL eqE x.es y.es)
theorem eqGr_self (x : Gr) : eqGr x x = true := by
  unfold eqGr
  simp [eqL_self eqE eqE_self]
set_option maxRecDepth 100000 in
set_option maxHeartbeats 4000000 in
theorem eqGraph_any (v u : Value) (x y : Gr) (w : World) (h : GrAt w w.heap.size v x) (h' : GrAt w w.heap.size u y) (hs : x.es.length ≤ 100000000 ∧ y.es.length ≤ 100000000) :
    Calls Tryd.prog 6 #[v, u] w fun e w' => e = .returned (.bool (eqGr x y)) ∧ Ext w w' := by
  obtain ⟨A1, c1, rfl, h1⟩ := h
  obtain ⟨B1, d1, rfl, r1⟩ := h'
  obtain ⟨s1, t1⟩ := hs
  go_enter Tryd.func6, Tryd.ntmps6
  cases i0 : (x.n == y.n)
  · have HE : Hid (eqGr x y = false) := by unfold Hid eqGr; rw [i0] <;> simp
    have j0 : (x.n != y.n) = true := by simp [bne, i0]
    go_wp2
    go_ret
    exact ⟨ret_bool HE.out.symm, (by repeat (first | exact Ext.refl _ | assumption | refine Ext.alloc ?_ _ | refine Ext.drewN ?_ _ | refine Ext.drew ?_))⟩
  have j0 : (x.n != y.n) = false := by simp [bne, i0]
  go_wp2_with fail
  refine (eqEdgeS_any A1 B1 _ _ c1 d1 x.es y.es _ (h1.ext (by repeat (first | exact Ext.refl _ | assumption | refine Ext.alloc ?_ _ | refine Ext.drewN ?_ _ | refine Ext.drew ?_))) (r1.ext (by repeat (first | exact Ext.refl _ | assumption | refine Ext.alloc ?_ _ | refine Ext.drewN ?_ _ | refine Ext.drew ?_))) s1 t1).mono ?_
  rintro e w1 ⟨rfl, hx1⟩
  have bx : Blk w1 w.heap.size 24 #[.int .i64 x.n, .slice A1 x.es.length c1] := ((Blk.new w _ _).alloc _).ext hx1
  have by_ : Blk w1 (w.heap.size + 1) 24 #[.int .i64 y.n, .slice B1 y.es.length d1] := (Blk.newAt (b := w.heap.size + 1) (by first | omega | (simp; done) | (simp; omega))).ext hx1
  have hy : Ext w w1 := Ext.trans (by repeat (first | exact Ext.refl _ | assumption | refine Ext.alloc ?_ _ | refine Ext.drewN ?_ _ | refine Ext.drew ?_)) hx1
  cases i1 : eqL eqE x.es y.es
  · have HE : Hid (eqGr x y = false) := by unfold Hid eqGr; rw [i0, i1] <;> simp
    go_wp2
    go_ret
    exact ⟨ret_bool HE.out.symm, hy⟩
  have HE : Hid (eqGr x y = true) := by unfold Hid eqGr; rw [i0, i1] <;> simp
  go_wp2
  go_ret
  exact ⟨ret_bool HE.out.symm, hy⟩
def Gr.ok (x : Gr) : Prop := I64 x.n ∧ x.es.length ≤ maxLen ∧ (∀ g ∈ x.es, g.ok)
end Go.Proofs.YtaiaaomjphnbfabDoor
