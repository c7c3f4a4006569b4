/-
  Helper text (no claim of its own): graphs, as records, and the laws' own helpers on them. Printed in part by gen_struct.py.
-/
import Derived.Test.YtngpkboocpaikaaDoorEdge
namespace Go.Proofs.YtngpkboocpaikaaDoor
open Go.ChangeShapes Go.WideShapes Go.ChangeAt Go.RowKit Go.Deep
structure Gr where
  n : Int
  es : List Ed
/-- The struct value v reads as the record x; its slices lie below block B. -/
def GrAt (w : World) (B : Nat) (v : Value) (x : Gr) : Prop :=
  ∃ (A1 : Option Addr) (c1 : Nat), v = .agg #[.int .i64 x.n, .slice A1 x.es.length c1] ∧ Rd w B 2 A1 x.es.length (ecells x.es)
/-- The same, each slice in new memory of its own: slice j from block b(j-1) on and below bj. -/
def GrOwn (w : World) (b0 b1 : Nat) (v : Value) (x : Gr) : Prop :=
  ∃ (A1 : Option Addr) (c1 : Nat), v = .agg #[.int .i64 x.n, .slice A1 x.es.length c1] ∧ w.ownsRow b0 37 2 (.slice A1 x.es.length c1) x.es.length (ecells x.es) ∧ (∀ g, (Value.slice A1 x.es.length c1).ownBlock = some g → g < b1)
theorem GrAt.up {w w' : World} {B : Nat} {v : Value} {x : Gr} (h : GrAt w B v x) (hx : Ext w w') (hB : B ≤ w.heap.size) : GrAt w' B v x := by
  obtain ⟨A1, c1, hv, h1⟩ := h
  exact ⟨A1, c1, hv, h1.up hx hB⟩
theorem GrAt.more {w : World} {B B' : Nat} {v : Value} {x : Gr} (h : GrAt w B v x) (hB : B ≤ B') : GrAt w B' v x := by
  obtain ⟨A1, c1, hv, h1⟩ := h
  exact ⟨A1, c1, hv, h1.more hB⟩
theorem GrAt.grown {w w' : World} {B : Nat} {v : Value} {x : Gr} {row : Option Nat} (h : GrAt w B v x) (hg : w.grownBy w' row) (hB : B ≤ w.heap.size) (hr : ∀ g, row = some g → B ≤ g) : GrAt w' B v x := by
  obtain ⟨A1, c1, hv, h1⟩ := h
  exact ⟨A1, c1, hv, h1.grown hg hB hr⟩
theorem GrOwn.at_ {w : World} {b0 b1 : Nat} {v : Value} {x : Gr} (h : GrOwn w b0 b1 v x) : GrAt w w.heap.size v x := by
  obtain ⟨A1, c1, hv, h1, l1⟩ := h
  exact ⟨A1, c1, hv, Rd.own h1⟩
theorem GrOwn.ext {w w' : World} {b0 b1 : Nat} {v : Value} {x : Gr} (h : GrOwn w b0 b1 v x) (hx : Ext w w') : GrOwn w' b0 b1 v x := by
  obtain ⟨A1, c1, hv, h1, l1⟩ := h
  exact ⟨A1, c1, hv, own_ext h1 hx, l1⟩
def Gr.small (x : Gr) : Prop := x.es.length ≤ 1048576

set_option maxRecDepth 100000 in
set_option maxHeartbeats 4000000 in
theorem toGraph_own (v : Value) (x : Gr) (w : World) (h : GrAt w w.heap.size v x) (hs : x.small) :
    Calls Tryd.prog 6 #[v] w fun e w' => ∃ v' b1, e = .returned v' ∧ GrOwn w' w.heap.size b1 v' x ∧ (w.heap.size ≤ b1 ∧ b1 ≤ w'.heap.size) ∧ Ext w w' := by
  obtain ⟨A1, c1, rfl, h1⟩ := h
  have s1 : x.es.length ≤ 1048576 := hs
  go_enter Tryd.func6, Tryd.ntmps6
  go_wp2_with fail
  refine (toEdgeS_any A1 _ c1 x.es _ (h1.ext (by repeat (first | exact Ext.refl _ | assumption | refine Ext.alloc ?_ _ | refine Ext.drewN ?_ _ | refine Ext.drew ?_))) s1).mono ?_
  rintro e w1 ⟨v1, rfl, ho1, hx⟩
  obtain ⟨B1, d1, rfl, hr1⟩ := own_slice ho1
  have hl1 := ho1.lt
  have HL1 := Lib.hid hl1
  clear hl1 hr1
  have bx : Blk w1 w.heap.size 24 #[.int .i64 x.n, .slice A1 x.es.length c1] := (((Blk.new w _ _).alloc _).alloc _).ext hx
  have br : Blk w1 (w.heap.size + 1) 29 #[.int .i64 0, .slice none 0 0] := ((Blk.newAt (b := w.heap.size + 1) (by first | omega | (simp; done) | (simp; omega))).alloc _).ext hx
  have bo : Blk w1 (w.heap.size + 1 + 1) 29 #[.int .i64 x.n, .slice none 0 0] := (Blk.newAt (b := w.heap.size + 1 + 1) (by first | omega | (simp; done) | (simp; omega))).ext hx
  have hy : Ext w w1 := Ext.trans (by repeat (first | exact Ext.refl _ | assumption | refine Ext.alloc ?_ _ | refine Ext.drewN ?_ _ | refine Ext.drew ?_)) hx
  replace ho1 := own_base (base' := w.heap.size + 3) ho1 (by first | omega | (simp; done) | (simp; omega))
  have hz1 := hx.size
  simp at hz1
  replace HL1 : Hid (∀ g, (Value.slice B1 x.es.length d1).ownBlock = some g → g < w1.heap.size) := fun g hg => (HL1.out g hg).2
  clear hx
  have y1 : w1.cell? ⟨w.heap.size + 1 + 1, 1, none⟩ = some (.slice none 0 0) := bo.cell 1
  have u1 : w1.frozen? ⟨w.heap.size + 1 + 1, 1, none⟩ = false := bo.frozen 1
  go_upto_region 4 with (fail)
  replace hy := hy.setCell (p := ⟨w.heap.size + 1 + 1, 1, none⟩) (by first | omega | (simp; done) | (simp; omega)) (.slice B1 x.es.length d1)
  replace br := br.far (p := ⟨w.heap.size + 1 + 1, 1, none⟩) (by first | omega | (simp; done) | (simp; omega)) (.slice B1 x.es.length d1)
  replace bo := bo.set_ 1 (.slice B1 x.es.length d1)
  replace ho1 := own_set ho1 (p := ⟨w.heap.size + 1 + 1, 1, none⟩) (by first | omega | (simp; done) | (simp; omega)) (.slice B1 x.es.length d1)
  have hsz : (w1.setCell ⟨w.heap.size + 1 + 1, 1, none⟩ (.slice B1 x.es.length d1)).heap.size = w1.heap.size := by simp [World.setCell]
  generalize (w1.setCell ⟨w.heap.size + 1 + 1, 1, none⟩ (.slice B1 x.es.length d1)) = W at *
  replace bo : Blk W (w.heap.size + 1 + 1) 29 #[.int .i64 x.n, .slice B1 x.es.length d1] := bo
  have e0 : W.cell? ⟨w.heap.size + 1 + 1, 0, none⟩ = some (.int .i64 x.n) := bo.cell 0
  have t0 : W.cell? ⟨w.heap.size + 1, 0, none⟩ = some (.int .i64 0) := br.cell 0
  have k0 : W.frozen? ⟨w.heap.size + 1, 0, none⟩ = false := br.frozen 0
  have e1 : W.cell? ⟨w.heap.size + 1 + 1, 1, none⟩ = some (.slice B1 x.es.length d1) := bo.cell 1
  have t1 : W.cell? ⟨w.heap.size + 1, 1, none⟩ = some (.slice none 0 0) := br.cell 1
  have k1 : W.frozen? ⟨w.heap.size + 1, 1, none⟩ = false := br.frozen 1
  go_wp2
  refine bodyPost_ret (v := .agg #[.int .i64 x.n, .slice B1 x.es.length d1]) (by simp [results, Tryd.results6, go_sem, t0, t1]) rfl ⟨_, w1.heap.size, rfl, ⟨B1, d1, rfl, ?_⟩, ?_, ?_⟩
  · exact ⟨own_base (own_set (own_set (ho1) (p := ⟨w.heap.size + 1, 0, none⟩) (by first | omega | (simp; done) | (simp; omega)) _) (p := ⟨w.heap.size + 1, 1, none⟩) (by first | omega | (simp; done) | (simp; omega)) _) (by omega), HL1.out⟩
  · simp [World.setCell]; omega
  · exact ((hy).setCell (p := ⟨w.heap.size + 1, 0, none⟩) (by first | omega | (simp; done) | (simp; omega)) _).setCell (p := ⟨w.heap.size + 1, 1, none⟩) (by first | omega | (simp; done) | (simp; omega)) _
def eqGr (x y : Gr) : Bool := (x.n == y.n) && (eqL eqE x.es y.es)
theorem eqGr_self (x : Gr) : eqGr x x = true := by
  unfold eqGr
  simp [eqL_self eqE eqE_self]
set_option maxRecDepth 100000 in
set_option maxHeartbeats 4000000 in
theorem eqGraph_any (v u : Value) (x y : Gr) (w : World) (h : GrAt w w.heap.size v x) (h' : GrAt w w.heap.size u y) (hs : x.es.length ≤ 100000000 ∧ y.es.length ≤ 100000000) :
    Calls Tryd.prog 8 #[v, u] w fun e w' => e = .returned (.bool (eqGr x y)) ∧ Ext w w' := by
  obtain ⟨A1, c1, rfl, h1⟩ := h
  obtain ⟨B1, d1, rfl, r1⟩ := h'
  obtain ⟨s1, t1⟩ := hs
  go_enter Tryd.func8, Tryd.ntmps8
  cases i0 : (x.n == y.n)
  · have HE : Hid (eqGr x y = false) := by unfold Hid eqGr; rw [i0] <;> simp
    have j0 : (x.n != y.n) = true := by simp [bne, i0]
    go_wp2
    go_ret
    exact ⟨ret_bool HE.out.symm, (by repeat (first | exact Ext.refl _ | assumption | refine Ext.alloc ?_ _ | refine Ext.drewN ?_ _ | refine Ext.drew ?_))⟩
  have j0 : (x.n != y.n) = false := by simp [bne, i0]
  go_wp2_with fail
  refine (eqEdgeS_any A1 B1 _ _ c1 d1 x.es y.es _ (h1.ext (by repeat (first | exact Ext.refl _ | assumption | refine Ext.alloc ?_ _ | refine Ext.drewN ?_ _ | refine Ext.drew ?_))) (r1.ext (by repeat (first | exact Ext.refl _ | assumption | refine Ext.alloc ?_ _ | refine Ext.drewN ?_ _ | refine Ext.drew ?_))) s1 t1).mono ?_
  rintro e w1 ⟨rfl, hx1⟩
  have bx : Blk w1 w.heap.size 29 #[.int .i64 x.n, .slice A1 x.es.length c1] := ((Blk.new w _ _).alloc _).ext hx1
  have by_ : Blk w1 (w.heap.size + 1) 29 #[.int .i64 y.n, .slice B1 y.es.length d1] := (Blk.newAt (b := w.heap.size + 1) (by first | omega | (simp; done) | (simp; omega))).ext hx1
  have hy : Ext w w1 := Ext.trans (by repeat (first | exact Ext.refl _ | assumption | refine Ext.alloc ?_ _ | refine Ext.drewN ?_ _ | refine Ext.drew ?_)) hx1
  cases i1 : eqL eqE x.es y.es
  · have HE : Hid (eqGr x y = false) := by unfold Hid eqGr; rw [i0, i1] <;> simp
    go_wp2
    go_ret
    exact ⟨ret_bool HE.out.symm, hy⟩
  have HE : Hid (eqGr x y = true) := by unfold Hid eqGr; rw [i0, i1] <;> simp
  go_wp2
  go_ret
  exact ⟨ret_bool HE.out.symm, hy⟩
theorem Tryd.cellsLGraph : Tryd.prog.cellsOf 24 = 2 := by kernel_rfl
theorem Tryd.cellsGraphSlEdge : Tryd.prog.cellsOf 22 = 1 := by kernel_rfl
def Gr.ok (x : Gr) : Prop := I64 x.n ∧ x.es.length ≤ maxLen ∧ (∀ g ∈ x.es, g.ok)
set_option maxRecDepth 100000 in
/-- An argument of type laws.Graph. -/
theorem open_lgraph {H : Type} {enc : TypeId × Value → H} {w : World} {spare : Nat → Bool} {held : Bool} {base : Nat} {v : Value} {d : DataW H} {p : List MemPlace} (hv : Value.okWide Tryd.prog w .any base 24 v)
    (h : DataW.Trod enc Tryd.prog w 0 spare held 24 v d p) : ∃ x : Gr, GrAt w w.heap.size v x ∧ x.ok := by
  obtain ⟨cs, rfl, hsz⟩ := okWide_struct Tryd.underlying24 hv
  obtain ⟨n, hn⟩ := h
  obtain ⟨ys, n', _, _, hl, hyl, hf⟩ := DataW.trod_struct Tryd.underlying24 hn
  rw [Tryd.cellsLGraph] at hl
  obtain ⟨l⟩ := cs
  replace hl : l.length = 2 := hl
  obtain ⟨k0, k1, rfl⟩ := len2 hl
  obtain ⟨_, f0⟩ := field_at hf hyl 0 _ rfl 3 0 1 rfl rfl Tryd.cellsInt
  obtain ⟨_, f1⟩ := field_at hf hyl 1 _ rfl 22 1 1 rfl rfl Tryd.cellsGraphSlEdge
  obtain ⟨x0, e0, o0⟩ := open_cell_int Tryd.underlying3 f0
  replace e0 : [k0] = _ := e0
  injection e0 with e0
  subst e0
  obtain ⟨A1, n1, c1, x1, e1, nc1, m1, r1, o1⟩ := open_ledgesT f1
  replace e1 : [k1] = _ := e1
  injection e1 with e1
  subst e1
  obtain rfl := r1.len Ed.cells_len (by omega)
  exact ⟨⟨x0, x1⟩, ⟨A1, c1, rfl, r1⟩, o0, Nat.le_trans nc1 m1, o1⟩

set_option maxRecDepth 100000 in
theorem szGraph_any (v : Value) (x : Gr) (l : Int) (w : World) (h : GrAt w w.heap.size v x) (hl : 0 ≤ l) (hl2 : l ≤ 1048576) (hn : x.es.length ≤ maxLen) :
    Calls Tryd.prog 4 #[v, .int .i64 l] w fun e w' => e = .returned (.int .i64 (szF l x.es.length)) ∧ Ext w w' := by
  obtain ⟨A1, c1, rfl, h1⟩ := h
  go_enter Tryd.func4, Tryd.ntmps4
  go_wp2_with fail
  refine (szEdgeS_any A1 _ c1 l _ hl hl2 hn).mono ?_
  rintro e w1 ⟨rfl, rfl⟩
  by_cases h : l < x.es.length
  · have HF := Lib.hid (szF_lt h)
    rw [HF.out]
    go_wp2
    go_ret
    exact ⟨ret_int HF.out.symm, (by repeat (first | exact Ext.refl _ | assumption | refine Ext.alloc ?_ _ | refine Ext.drewN ?_ _ | refine Ext.drew ?_))⟩
  · have HF := Lib.hid (szF_ge h)
    rw [HF.out]
    go_wp2
    go_ret
    exact ⟨ret_int HF.out.symm, (by repeat (first | exact Ext.refl _ | assumption | refine Ext.alloc ?_ _ | refine Ext.drewN ?_ _ | refine Ext.drew ?_))⟩
end Go.Proofs.YtngpkboocpaikaaDoor
