/-
  Helper text (no claim of its own): the laws' marking of a graph.
-/
import Derived.Test.YtaiaaomjphnbfabDoorGr
import Derived.Test.YtaiaaomjphnbfabDoorEdgeM
namespace Go.Proofs.YtaiaaomjphnbfabDoor
open Go.ChangeShapes Go.WideShapes Go.ChangeAt Go.RowKit Go.Deep
theorem grownBy_of_alloc {w w' : World} {o : Obj} {row : Option Nat} (h : (w.alloc o).grownBy w' row) : w.grownBy w' row :=
  ⟨h.os, h.tape, h.output, Nat.le_trans (by simp) h.size, fun k hk hne => (h.block k (by simp; omega) hne).trans (Below.heap_alloc w o k hk)⟩
set_option maxRecDepth 100000 in
theorem markGraph_any (N : Int) (A : Option Addr) (n c B : Nat) (s : Nat) (xs : List Value) (w : World) (h : w.ownsRow B 35 2 (.slice A n c) n xs) (hn : n ≤ 100000000) (hs : s ≤ 1000000000000) :
    Calls Tryd.prog 7 #[.agg #[.int .i64 N, .slice A n c], .int .i64 s] w fun e w' => e = .returned (.int .i64 ((s + n * 2 : Nat) : Int)) ∧ w'.ownsRow B 35 2 (.slice A n c) n (mkd s (n * 2)) ∧ w.grownBy w' (Value.slice A n c).ownBlock := by
  have H := Lib.hid h
  clear h
  go_enter Tryd.func7, Tryd.ntmps7
  go_wp2_with fail
  refine (markEdgeS_any A n c B s xs _ (H.out.alloc _) hn hs).mono ?_
  rintro e w1 ⟨rfl, ho, hg⟩
  go_wp2
  go_ret
  exact ⟨rfl, ho, grownBy_of_alloc hg⟩
end Go.Proofs.YtaiaaomjphnbfabDoor
