/-
  Helper text (no claim of its own): orientation of gates by the reference. Printed by gen_orient2.py.
-/
import Derived.Test.YteecjnnompjmiabDoorOri
namespace Go.Proofs.YteecjnnompjmiabDoor
open Go.ChangeShapes Go.WideShapes Go.ChangeAt Go.RowKit Go.Deep
set_option maxRecDepth 100000 in
set_option maxHeartbeats 1000000 in
theorem spec_AreCoupled_any (v : Value) (x : Gr) (a b : Int) (w : World) (h : GrAt w w.heap.size v x) (hn : x.es.length ≤ 100000000) :
    Calls Tryd.prog 37 #[v, .int .i64 a, .int .i64 b] w fun e w' => e = .returned (.bool (hasE x.es a b || hasE x.es b a)) ∧ Ext w w' := by
  obtain ⟨A1, c1, rfl, h1⟩ := h
  have hG : GrAt w w.heap.size (.agg #[.int .i64 x.n, .slice A1 x.es.length c1]) x := ⟨A1, c1, rfl, h1⟩
  clear h1
  go_enter Tryd.func37, Tryd.ntmps37
  go_wp2_with fail
  refine (spec_HasEdge_any _ x a b _ ((hG.up (by repeat (first | exact Ext.refl _ | assumption | refine Ext.alloc ?_ _ | refine Ext.drewN ?_ _ | refine Ext.drew ?_)) (Nat.le_refl _)).more (by simp)) hn).mono ?_
  rintro e w1 ⟨rfl, hx1⟩
  have hB : Blk w1 w.heap.size 26 #[.int .i64 x.n, .slice A1 x.es.length c1] := (Blk.new w _ _).ext hx1
  have hx : Ext w w1 := Ext.trans (by repeat (first | exact Ext.refl _ | assumption | refine Ext.alloc ?_ _ | refine Ext.drewN ?_ _ | refine Ext.drew ?_)) hx1
  have b0 : w1.cell? ⟨w.heap.size, 0, none⟩ = some (.int .i64 x.n) := hB.cell 0
  have b1 : w1.cell? ⟨w.heap.size, 1, none⟩ = some (.slice A1 x.es.length c1) := hB.cell 1
  clear hx1
  cases h1 : hasE x.es a b
  · go_wp2_with fail
    refine (spec_HasEdge_any _ x b a _ ((hG.up hx (Nat.le_refl _)).more hx.size) hn).mono ?_
    rintro e w2 ⟨rfl, hx2⟩
    go_wp2
    go_ret
    exact ⟨ret_bool (by rw [h1, Bool.false_or]), hx.trans hx2⟩
  · go_wp2
    go_ret
    exact ⟨ret_bool (by rw [h1, Bool.true_or]), hx⟩

theorem Rd.keepRow {w w' : World} {B size n : Nat} {A : Option Addr} {xs : List Value} {row : Option Nat} (h : Rd w B size A n xs) (hg : w.grownBy w' row) (hB : B ≤ w.heap.size) (hne : ∀ b o, A = some ⟨b, o, none⟩ → row ≠ some b) : Rd w' B size A n xs :=
  ⟨h.1, fun hn => by
    obtain ⟨b, o, e, hb, hc⟩ := h.2 hn
    exact ⟨b, o, e, hb, fun j u hu => (World.cell?_of_block (a := ⟨b, o + j, none⟩) (hg.block b (by omega) (fun e1 => hne b o e e1.symm))).trans (hc j u hu)⟩⟩
theorem flat_snoc {α β : Type} (f : α → List β) {l : List α} {k : Nat} {a : α} (h : l[k]? = some a) : (l.take (k + 1)).flatMap f = (l.take k).flatMap f ++ f a := by
  rw [take_snoc h, List.flatMap_append]; simp

end Go.Proofs.YteecjnnompjmiabDoor
