/-
  Helper text (no claim of its own): graphs, as records, and the laws' own helpers on them. Printed in part by gen_struct.py.
-/
import Derived.Test.YtofbmkpfliofeaaEdge
namespace Go.Proofs.Ytofbmkpfliofeaa
open Go.ChangeShapes Go.WideShapes Go.ChangeAt Go.RowKit Go.Deep
structure Gr where
  n : Int
  es : List Ed
/-- The struct value v reads as the record x; its slices lie below block B. -/
def GrAt (w : World) (B : Nat) (v : Value) (x : Gr) : Prop :=
  ∃ (A1 : Option Addr) (c1 : Nat), v = .agg #[.int .i64 x.n, .slice A1 x.es.length c1] ∧ Rd w B 2 A1 x.es.length (ecells x.es)
/-- The same, each slice in new memory of its own: slice j from block b(j-1) on and below bj. -/
def GrOwn (w : World) (b0 b1 : Nat) (v : Value) (x : Gr) : Prop :=
  ∃ (A1 : Option Addr) (c1 : Nat), v = .agg #[.int .i64 x.n, .slice A1 x.es.length c1] ∧ w.ownsRow b0 63 2 (.slice A1 x.es.length c1) x.es.length (ecells x.es) ∧ (∀ g, (Value.slice A1 x.es.length c1).ownBlock = some g → g < b1)
theorem GrAt.up {w w' : World} {B : Nat} {v : Value} {x : Gr} (h : GrAt w B v x) (hx : Ext w w') (hB : B ≤ w.heap.size) : GrAt w' B v x := by
  obtain ⟨A1, c1, hv, h1⟩ := h
  exact ⟨A1, c1, hv, h1.up hx hB⟩
theorem GrAt.more {w : World} {B B' : Nat} {v : Value} {x : Gr} (h : GrAt w B v x) (hB : B ≤ B') : GrAt w B' v x := by
  obtain ⟨A1, c1, hv, h1⟩ := h
  exact ⟨A1, c1, hv, h1.more hB⟩
theorem GrAt.grown {w w' : World} {B : Nat} {v : Value} {x : Gr} {row : Option Nat} (h : GrAt w B v x) (hg : w.grownBy w' row) (hB : B ≤ w.heap.size) (hr : ∀ g, row = some g → B ≤ g) : GrAt w' B v x := by
  obtain ⟨A1, c1, hv, h1⟩ := h
  exact ⟨A1, c1, hv, h1.grown hg hB hr⟩
theorem GrOwn.at_ {w : World} {b0 b1 : Nat} {v : Value} {x : Gr} (h : GrOwn w b0 b1 v x) : GrAt w w.heap.size v x := by
  obtain ⟨A1, c1, hv, h1, l1⟩ := h
  exact ⟨A1, c1, hv, Rd.own h1⟩
theorem GrOwn.ext {w w' : World} {b0 b1 : Nat} {v : Value} {x : Gr} (h : GrOwn w b0 b1 v x) (hx : Ext w w') : GrOwn w' b0 b1 v x := by
  obtain ⟨A1, c1, hv, h1, l1⟩ := h
  exact ⟨A1, c1, hv, own_ext h1 hx, l1⟩
def Gr.small (x : Gr) : Prop := x.es.length ≤ 1048576

def eqGr (x y : Gr) : Bool := (x.n == y.n) && (eqL eqE x.es y.es)
theorem eqGr_self (x : Gr) : eqGr x x = true := by
  unfold eqGr
  simp [eqL_self eqE eqE_self]
def Gr.ok (x : Gr) : Prop := I64 x.n ∧ x.es.length ≤ maxLen ∧ (∀ g ∈ x.es, g.ok)
end Go.Proofs.Ytofbmkpfliofeaa
