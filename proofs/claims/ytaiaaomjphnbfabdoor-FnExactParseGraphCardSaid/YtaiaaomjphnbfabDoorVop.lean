/-
  Helper text (no claim of its own): validity of an operation, by the program and by the reference.
-/
import Derived.Test.YtaiaaomjphnbfabDoorSvg
import Derived.Test.YtaiaaomjphnbfabDoorCmp
namespace Go.Proofs.YtaiaaomjphnbfabDoor
open Go.ChangeShapes Go.WideShapes Go.ChangeAt Go.RowKit Go.Deep
def inB (x lo hi : Int) : Bool := decide (lo ≤ x) && decide (x ≤ hi)
theorem inB_no {x lo hi : Int} (h : x < lo ∨ hi < x) : inB x lo hi = false := by
  unfold inB
  rcases h with h | h
  · rw [decide_eq_false (by omega), Bool.false_and]
  · rw [decide_eq_false (p := x ≤ hi) (by omega), Bool.and_false]
theorem inB_yes {x lo hi : Int} (h1 : lo ≤ x) (h2 : x ≤ hi) : inB x lo hi = true := by
  unfold inB
  rw [decide_eq_true h1, decide_eq_true h2, Bool.and_true]
def Oq.g1 (o : Oq) : Oq := ⟨o.k, o.g, 0, 0, o.cond⟩
def Oq.g2 (o : Oq) : Oq := ⟨o.k, ⟨0, 0, 0, 0⟩, o.q, o.bit, 0⟩
def Oq.g3 (o : Oq) : Oq := ⟨o.k, ⟨0, 0, 0, 0⟩, o.q, 0, 0⟩
def vOp (o : Oq) (n bits : Int) : Bool :=
  inB n 1 4 && inB bits 0 3 && (if o.k = 1 then eqO o o.g1 && vg o.g n && inB o.cond 0 bits
    else if o.k = 2 then eqO o o.g2 && inB o.q 0 (n - 1) && inB o.bit 0 (bits - 1)
    else if o.k = 3 then eqO o o.g3 && inB o.q 0 (n - 1) else false)
theorem vOp_n {o : Oq} {n bits : Int} (h : inB n 1 4 = false) : vOp o n bits = false := by unfold vOp; rw [h, Bool.false_and, Bool.false_and]
theorem vOp_b {o : Oq} {n bits : Int} (h : inB bits 0 3 = false) : vOp o n bits = false := by unfold vOp; rw [h, Bool.and_false, Bool.false_and]
theorem vOp_1 {o : Oq} {n bits : Int} (h : inB n 1 4 = true) (h' : inB bits 0 3 = true) (hk : o.k = 1) : vOp o n bits = (eqO o o.g1 && vg o.g n && inB o.cond 0 bits) := by unfold vOp; rw [h, h', if_pos hk]; rfl
theorem vOp_2 {o : Oq} {n bits : Int} (h : inB n 1 4 = true) (h' : inB bits 0 3 = true) (hk : o.k = 2) : vOp o n bits = (eqO o o.g2 && inB o.q 0 (n - 1) && inB o.bit 0 (bits - 1)) := by unfold vOp; rw [h, h', if_neg (by omega), if_pos hk]; rfl
theorem vOp_3 {o : Oq} {n bits : Int} (h : inB n 1 4 = true) (h' : inB bits 0 3 = true) (hk : o.k = 3) : vOp o n bits = (eqO o o.g3 && inB o.q 0 (n - 1)) := by unfold vOp; rw [h, h', if_neg (by omega), if_neg (by omega), if_pos hk]; rfl
theorem vOp_0 {o : Oq} {n bits : Int} (h1 : ¬ o.k = 1) (h2 : ¬ o.k = 2) (h3 : ¬ o.k = 3) : vOp o n bits = false := by unfold vOp; rw [if_neg h1, if_neg h2, if_neg h3, Bool.and_false]
end Go.Proofs.YtaiaaomjphnbfabDoor
