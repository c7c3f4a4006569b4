/-
  Helper text (no claim of its own): circuits, as records, and the laws' own helpers on them. Printed in part by gen_struct.py.
-/
import Derived.Test.YtcocabflinlbbaaGate
namespace Go.Proofs.Ytcocabflinlbbaa
open Go.ChangeShapes Go.WideShapes Go.ChangeAt Go.RowKit Go.Deep
structure Ci where
  n : Int
  gs : List Gt
/-- The struct value v reads as the record x; its slices lie below block B. -/
def CiAt (w : World) (B : Nat) (v : Value) (x : Ci) : Prop :=
  ∃ (A1 : Option Addr) (c1 : Nat), v = .agg #[.int .i64 x.n, .slice A1 x.gs.length c1] ∧ Rd w B 4 A1 x.gs.length (gcells x.gs)
/-- The same, each slice in new memory of its own: slice j from block b(j-1) on and below bj. -/
def CiOwn (w : World) (b0 b1 : Nat) (v : Value) (x : Ci) : Prop :=
  ∃ (A1 : Option Addr) (c1 : Nat), v = .agg #[.int .i64 x.n, .slice A1 x.gs.length c1] ∧ w.ownsRow b0 45 4 (.slice A1 x.gs.length c1) x.gs.length (gcells x.gs) ∧ (∀ g, (Value.slice A1 x.gs.length c1).ownBlock = some g → g < b1)
theorem CiAt.up {w w' : World} {B : Nat} {v : Value} {x : Ci} (h : CiAt w B v x) (hx : Ext w w') (hB : B ≤ w.heap.size) : CiAt w' B v x := by
  obtain ⟨A1, c1, hv, h1⟩ := h
  exact ⟨A1, c1, hv, h1.up hx hB⟩
theorem CiAt.more {w : World} {B B' : Nat} {v : Value} {x : Ci} (h : CiAt w B v x) (hB : B ≤ B') : CiAt w B' v x := by
  obtain ⟨A1, c1, hv, h1⟩ := h
  exact ⟨A1, c1, hv, h1.more hB⟩
theorem CiAt.grown {w w' : World} {B : Nat} {v : Value} {x : Ci} {row : Option Nat} (h : CiAt w B v x) (hg : w.grownBy w' row) (hB : B ≤ w.heap.size) (hr : ∀ g, row = some g → B ≤ g) : CiAt w' B v x := by
  obtain ⟨A1, c1, hv, h1⟩ := h
  exact ⟨A1, c1, hv, h1.grown hg hB hr⟩
theorem CiOwn.at_ {w : World} {b0 b1 : Nat} {v : Value} {x : Ci} (h : CiOwn w b0 b1 v x) : CiAt w w.heap.size v x := by
  obtain ⟨A1, c1, hv, h1, l1⟩ := h
  exact ⟨A1, c1, hv, Rd.own h1⟩
theorem CiOwn.ext {w w' : World} {b0 b1 : Nat} {v : Value} {x : Ci} (h : CiOwn w b0 b1 v x) (hx : Ext w w') : CiOwn w' b0 b1 v x := by
  obtain ⟨A1, c1, hv, h1, l1⟩ := h
  exact ⟨A1, c1, hv, own_ext h1 hx, l1⟩
def Ci.small (x : Ci) : Prop := x.gs.length ≤ 1048576

set_option maxRecDepth 100000 in
set_option maxHeartbeats 4000000 in
theorem toCircuit_own (v : Value) (x : Ci) (w : World) (h : CiAt w w.heap.size v x) (hs : x.small) :
    Calls Try.prog 6 #[v] w fun e w' => ∃ v' b1, e = .returned v' ∧ CiOwn w' w.heap.size b1 v' x ∧ (w.heap.size ≤ b1 ∧ b1 ≤ w'.heap.size) ∧ Ext w w' := by
  obtain ⟨A1, c1, rfl, h1⟩ := h
  have s1 : x.gs.length ≤ 1048576 := hs
  go_enter Try.func6, Try.ntmps6
  go_wp2_with fail
  refine (toGateS_any A1 _ c1 x.gs _ (h1.ext (by repeat (first | exact Ext.refl _ | assumption | refine Ext.alloc ?_ _ | refine Ext.drewN ?_ _ | refine Ext.drew ?_))) s1).mono ?_
  rintro e w1 ⟨v1, rfl, ho1, hx⟩
  obtain ⟨B1, d1, rfl, hr1⟩ := own_slice ho1
  have hl1 := ho1.lt
  have HL1 := Lib.hid hl1
  clear hl1 hr1
  have bx : Blk w1 w.heap.size 24 #[.int .i64 x.n, .slice A1 x.gs.length c1] := (((Blk.new w _ _).alloc _).alloc _).ext hx
  have br : Blk w1 (w.heap.size + 1) 29 #[.int .i64 0, .slice none 0 0] := ((Blk.newAt (b := w.heap.size + 1) (by first | omega | (simp; done) | (simp; omega))).alloc _).ext hx
  have bo : Blk w1 (w.heap.size + 1 + 1) 29 #[.int .i64 x.n, .slice none 0 0] := (Blk.newAt (b := w.heap.size + 1 + 1) (by first | omega | (simp; done) | (simp; omega))).ext hx
  have hy : Ext w w1 := Ext.trans (by repeat (first | exact Ext.refl _ | assumption | refine Ext.alloc ?_ _ | refine Ext.drewN ?_ _ | refine Ext.drew ?_)) hx
  replace ho1 := own_base (base' := w.heap.size + 3) ho1 (by first | omega | (simp; done) | (simp; omega))
  have hz1 := hx.size
  simp at hz1
  replace HL1 : Hid (∀ g, (Value.slice B1 x.gs.length d1).ownBlock = some g → g < w1.heap.size) := fun g hg => (HL1.out g hg).2
  clear hx
  have y1 : w1.cell? ⟨w.heap.size + 1 + 1, 1, none⟩ = some (.slice none 0 0) := bo.cell 1
  have u1 : w1.frozen? ⟨w.heap.size + 1 + 1, 1, none⟩ = false := bo.frozen 1
  go_upto_region 4 with (fail)
  replace hy := hy.setCell (p := ⟨w.heap.size + 1 + 1, 1, none⟩) (by first | omega | (simp; done) | (simp; omega)) (.slice B1 x.gs.length d1)
  replace br := br.far (p := ⟨w.heap.size + 1 + 1, 1, none⟩) (by first | omega | (simp; done) | (simp; omega)) (.slice B1 x.gs.length d1)
  replace bo := bo.set_ 1 (.slice B1 x.gs.length d1)
  replace ho1 := own_set ho1 (p := ⟨w.heap.size + 1 + 1, 1, none⟩) (by first | omega | (simp; done) | (simp; omega)) (.slice B1 x.gs.length d1)
  have hsz : (w1.setCell ⟨w.heap.size + 1 + 1, 1, none⟩ (.slice B1 x.gs.length d1)).heap.size = w1.heap.size := by simp [World.setCell]
  generalize (w1.setCell ⟨w.heap.size + 1 + 1, 1, none⟩ (.slice B1 x.gs.length d1)) = W at *
  replace bo : Blk W (w.heap.size + 1 + 1) 29 #[.int .i64 x.n, .slice B1 x.gs.length d1] := bo
  have e0 : W.cell? ⟨w.heap.size + 1 + 1, 0, none⟩ = some (.int .i64 x.n) := bo.cell 0
  have t0 : W.cell? ⟨w.heap.size + 1, 0, none⟩ = some (.int .i64 0) := br.cell 0
  have k0 : W.frozen? ⟨w.heap.size + 1, 0, none⟩ = false := br.frozen 0
  have e1 : W.cell? ⟨w.heap.size + 1 + 1, 1, none⟩ = some (.slice B1 x.gs.length d1) := bo.cell 1
  have t1 : W.cell? ⟨w.heap.size + 1, 1, none⟩ = some (.slice none 0 0) := br.cell 1
  have k1 : W.frozen? ⟨w.heap.size + 1, 1, none⟩ = false := br.frozen 1
  go_wp2
  refine bodyPost_ret (v := .agg #[.int .i64 x.n, .slice B1 x.gs.length d1]) (by simp [results, Try.results6, go_sem, t0, t1]) rfl ⟨_, w1.heap.size, rfl, ⟨B1, d1, rfl, ?_⟩, ?_, ?_⟩
  · exact ⟨own_base (own_set (own_set (ho1) (p := ⟨w.heap.size + 1, 0, none⟩) (by first | omega | (simp; done) | (simp; omega)) _) (p := ⟨w.heap.size + 1, 1, none⟩) (by first | omega | (simp; done) | (simp; omega)) _) (by omega), HL1.out⟩
  · simp [World.setCell]; omega
  · exact ((hy).setCell (p := ⟨w.heap.size + 1, 0, none⟩) (by first | omega | (simp; done) | (simp; omega)) _).setCell (p := ⟨w.heap.size + 1, 1, none⟩) (by first | omega | (simp; done) | (simp; omega)) _
def eqCi (x y : Ci) : Bool := (x.n == y.n) && (eqL eqG x.gs y.gs)
theorem eqCi_self (x : Ci) : eqCi x x = true := by
  unfold eqCi
  simp [eqL_self eqG eqG_self]
set_option maxRecDepth 100000 in
set_option maxHeartbeats 4000000 in
theorem eqCircuit_any (v u : Value) (x y : Ci) (w : World) (h : CiAt w w.heap.size v x) (h' : CiAt w w.heap.size u y) (hs : x.gs.length ≤ 100000000 ∧ y.gs.length ≤ 100000000) :
    Calls Try.prog 8 #[v, u] w fun e w' => e = .returned (.bool (eqCi x y)) ∧ Ext w w' := by
  obtain ⟨A1, c1, rfl, h1⟩ := h
  obtain ⟨B1, d1, rfl, r1⟩ := h'
  obtain ⟨s1, t1⟩ := hs
  go_enter Try.func8, Try.ntmps8
  cases i0 : (x.n == y.n)
  · have HE : Hid (eqCi x y = false) := by unfold Hid eqCi; rw [i0] <;> simp
    have j0 : (x.n != y.n) = true := by simp [bne, i0]
    go_wp2
    go_ret
    exact ⟨ret_bool HE.out.symm, (by repeat (first | exact Ext.refl _ | assumption | refine Ext.alloc ?_ _ | refine Ext.drewN ?_ _ | refine Ext.drew ?_))⟩
  have j0 : (x.n != y.n) = false := by simp [bne, i0]
  go_wp2_with fail
  refine (eqGateS_any A1 B1 _ _ c1 d1 x.gs y.gs _ (h1.ext (by repeat (first | exact Ext.refl _ | assumption | refine Ext.alloc ?_ _ | refine Ext.drewN ?_ _ | refine Ext.drew ?_))) (r1.ext (by repeat (first | exact Ext.refl _ | assumption | refine Ext.alloc ?_ _ | refine Ext.drewN ?_ _ | refine Ext.drew ?_))) s1 t1).mono ?_
  rintro e w1 ⟨rfl, hx1⟩
  have bx : Blk w1 w.heap.size 29 #[.int .i64 x.n, .slice A1 x.gs.length c1] := ((Blk.new w _ _).alloc _).ext hx1
  have by_ : Blk w1 (w.heap.size + 1) 29 #[.int .i64 y.n, .slice B1 y.gs.length d1] := (Blk.newAt (b := w.heap.size + 1) (by first | omega | (simp; done) | (simp; omega))).ext hx1
  have hy : Ext w w1 := Ext.trans (by repeat (first | exact Ext.refl _ | assumption | refine Ext.alloc ?_ _ | refine Ext.drewN ?_ _ | refine Ext.drew ?_)) hx1
  cases i1 : eqL eqG x.gs y.gs
  · have HE : Hid (eqCi x y = false) := by unfold Hid eqCi; rw [i0, i1] <;> simp
    go_wp2
    go_ret
    exact ⟨ret_bool HE.out.symm, hy⟩
  have HE : Hid (eqCi x y = true) := by unfold Hid eqCi; rw [i0, i1] <;> simp
  go_wp2
  go_ret
  exact ⟨ret_bool HE.out.symm, hy⟩
theorem Try.cellsLCircuit : Try.prog.cellsOf 24 = 2 := by kernel_rfl
theorem Try.cellsCircuitSlGate : Try.prog.cellsOf 22 = 1 := by kernel_rfl
def Ci.ok (x : Ci) : Prop := I64 x.n ∧ x.gs.length ≤ maxLen ∧ (∀ g ∈ x.gs, g.ok)
set_option maxRecDepth 100000 in
/-- An argument of type laws.Circuit. -/
theorem open_lcircuit {H : Type} {enc : TypeId × Value → H} {w : World} {spare : Nat → Bool} {held : Bool} {base : Nat} {v : Value} {d : DataW H} {p : List MemPlace} (hv : Value.okWide Try.prog w .any base 24 v)
    (h : DataW.Trod enc Try.prog w 0 spare held 24 v d p) : ∃ x : Ci, CiAt w w.heap.size v x ∧ x.ok := by
  obtain ⟨cs, rfl, hsz⟩ := okWide_struct Try.underlying24 hv
  obtain ⟨n, hn⟩ := h
  obtain ⟨ys, n', _, _, hl, hyl, hf⟩ := DataW.trod_struct Try.underlying24 hn
  rw [Try.cellsLCircuit] at hl
  obtain ⟨l⟩ := cs
  replace hl : l.length = 2 := hl
  obtain ⟨k0, k1, rfl⟩ := len2 hl
  obtain ⟨_, f0⟩ := field_at hf hyl 0 _ rfl 3 0 1 rfl rfl Try.cellsInt
  obtain ⟨_, f1⟩ := field_at hf hyl 1 _ rfl 22 1 1 rfl rfl Try.cellsCircuitSlGate
  obtain ⟨x0, e0, o0⟩ := open_cell_int Try.underlying3 f0
  replace e0 : [k0] = _ := e0
  injection e0 with e0
  subst e0
  obtain ⟨A1, n1, c1, x1, e1, nc1, m1, r1, o1⟩ := open_lgatesT f1
  replace e1 : [k1] = _ := e1
  injection e1 with e1
  subst e1
  obtain rfl := r1.len Gt.cells_len (by omega)
  exact ⟨⟨x0, x1⟩, ⟨A1, c1, rfl, r1⟩, o0, Nat.le_trans nc1 m1, o1⟩
end Go.Proofs.Ytcocabflinlbbaa
