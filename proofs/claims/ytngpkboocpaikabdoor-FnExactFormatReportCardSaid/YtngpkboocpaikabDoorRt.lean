/-
  Helper text (no claim of its own): routines, as records, and the laws' own helpers on them. Printed in part by gen_struct.py.
-/
import Derived.Test.YtngpkboocpaikabDoorOp
namespace Go.Proofs.YtngpkboocpaikabDoor
open Go.ChangeShapes Go.WideShapes Go.ChangeAt Go.RowKit Go.Deep
structure Rt where
  n : Int
  inn : Int
  bits : Int
  ops : List Oq
/-- The struct value v reads as the record x; its slices lie below block B. -/
def RtAt (w : World) (B : Nat) (v : Value) (x : Rt) : Prop :=
  ∃ (A1 : Option Addr) (c1 : Nat), v = .agg #[.int .i64 x.n, .int .i64 x.inn, .int .i64 x.bits, .slice A1 x.ops.length c1] ∧ Rd w B 8 A1 x.ops.length (ocells x.ops)
/-- The same, each slice in new memory of its own: slice j from block b(j-1) on and below bj. -/
def RtOwn (w : World) (b0 b1 : Nat) (v : Value) (x : Rt) : Prop :=
  ∃ (A1 : Option Addr) (c1 : Nat), v = .agg #[.int .i64 x.n, .int .i64 x.inn, .int .i64 x.bits, .slice A1 x.ops.length c1] ∧ w.ownsRow b0 61 8 (.slice A1 x.ops.length c1) x.ops.length (ocells x.ops) ∧ (∀ g, (Value.slice A1 x.ops.length c1).ownBlock = some g → g < b1)
theorem RtAt.up {w w' : World} {B : Nat} {v : Value} {x : Rt} (h : RtAt w B v x) (hx : Ext w w') (hB : B ≤ w.heap.size) : RtAt w' B v x := by
  obtain ⟨A1, c1, hv, h1⟩ := h
  exact ⟨A1, c1, hv, h1.up hx hB⟩
theorem RtAt.more {w : World} {B B' : Nat} {v : Value} {x : Rt} (h : RtAt w B v x) (hB : B ≤ B') : RtAt w B' v x := by
  obtain ⟨A1, c1, hv, h1⟩ := h
  exact ⟨A1, c1, hv, h1.more hB⟩
theorem RtAt.grown {w w' : World} {B : Nat} {v : Value} {x : Rt} {row : Option Nat} (h : RtAt w B v x) (hg : w.grownBy w' row) (hB : B ≤ w.heap.size) (hr : ∀ g, row = some g → B ≤ g) : RtAt w' B v x := by
  obtain ⟨A1, c1, hv, h1⟩ := h
  exact ⟨A1, c1, hv, h1.grown hg hB hr⟩
theorem RtOwn.at_ {w : World} {b0 b1 : Nat} {v : Value} {x : Rt} (h : RtOwn w b0 b1 v x) : RtAt w w.heap.size v x := by
  obtain ⟨A1, c1, hv, h1, l1⟩ := h
  exact ⟨A1, c1, hv, Rd.own h1⟩
theorem RtOwn.ext {w w' : World} {b0 b1 : Nat} {v : Value} {x : Rt} (h : RtOwn w b0 b1 v x) (hx : Ext w w') : RtOwn w' b0 b1 v x := by
  obtain ⟨A1, c1, hv, h1, l1⟩ := h
  exact ⟨A1, c1, hv, own_ext h1 hx, l1⟩
def Rt.small (x : Rt) : Prop := x.ops.length ≤ 1048576

set_option maxRecDepth 100000 in
set_option maxHeartbeats 4000000 in
theorem toRoutine_own (v : Value) (x : Rt) (w : World) (h : RtAt w w.heap.size v x) (hs : x.small) :
    Calls Tryd.prog 7 #[v] w fun e w' => ∃ v' b1, e = .returned v' ∧ RtOwn w' w.heap.size b1 v' x ∧ (w.heap.size ≤ b1 ∧ b1 ≤ w'.heap.size) ∧ Ext w w' := by
  obtain ⟨A1, c1, rfl, h1⟩ := h
  have s1 : x.ops.length ≤ 1048576 := hs
  go_enter Tryd.func7, Tryd.ntmps7
  go_wp2_with fail
  refine (toOpS_any A1 _ c1 x.ops _ (h1.ext (by repeat (first | exact Ext.refl _ | assumption | refine Ext.alloc ?_ _ | refine Ext.drewN ?_ _ | refine Ext.drew ?_))) s1).mono ?_
  rintro e w1 ⟨v1, rfl, ho1, hx⟩
  obtain ⟨B1, d1, rfl, hr1⟩ := own_slice ho1
  have hl1 := ho1.lt
  have HL1 := Lib.hid hl1
  clear hl1 hr1
  have bx : Blk w1 w.heap.size 24 #[.int .i64 x.n, .int .i64 x.inn, .int .i64 x.bits, .slice A1 x.ops.length c1] := (((Blk.new w _ _).alloc _).alloc _).ext hx
  have br : Blk w1 (w.heap.size + 1) 33 #[.int .i64 0, .int .i64 0, .int .i64 0, .slice none 0 0] := ((Blk.newAt (b := w.heap.size + 1) (by first | omega | (simp; done) | (simp; omega))).alloc _).ext hx
  have bo : Blk w1 (w.heap.size + 1 + 1) 33 #[.int .i64 x.n, .int .i64 x.inn, .int .i64 x.bits, .slice none 0 0] := (Blk.newAt (b := w.heap.size + 1 + 1) (by first | omega | (simp; done) | (simp; omega))).ext hx
  have hy : Ext w w1 := Ext.trans (by repeat (first | exact Ext.refl _ | assumption | refine Ext.alloc ?_ _ | refine Ext.drewN ?_ _ | refine Ext.drew ?_)) hx
  replace ho1 := own_base (base' := w.heap.size + 3) ho1 (by first | omega | (simp; done) | (simp; omega))
  have hz1 := hx.size
  simp at hz1
  replace HL1 : Hid (∀ g, (Value.slice B1 x.ops.length d1).ownBlock = some g → g < w1.heap.size) := fun g hg => (HL1.out g hg).2
  clear hx
  have y3 : w1.cell? ⟨w.heap.size + 1 + 1, 3, none⟩ = some (.slice none 0 0) := bo.cell 3
  have u3 : w1.frozen? ⟨w.heap.size + 1 + 1, 3, none⟩ = false := bo.frozen 3
  go_upto_region 6 with (fail)
  replace hy := hy.setCell (p := ⟨w.heap.size + 1 + 1, 3, none⟩) (by first | omega | (simp; done) | (simp; omega)) (.slice B1 x.ops.length d1)
  replace br := br.far (p := ⟨w.heap.size + 1 + 1, 3, none⟩) (by first | omega | (simp; done) | (simp; omega)) (.slice B1 x.ops.length d1)
  replace bo := bo.set_ 3 (.slice B1 x.ops.length d1)
  replace ho1 := own_set ho1 (p := ⟨w.heap.size + 1 + 1, 3, none⟩) (by first | omega | (simp; done) | (simp; omega)) (.slice B1 x.ops.length d1)
  have hsz : (w1.setCell ⟨w.heap.size + 1 + 1, 3, none⟩ (.slice B1 x.ops.length d1)).heap.size = w1.heap.size := by simp [World.setCell]
  generalize (w1.setCell ⟨w.heap.size + 1 + 1, 3, none⟩ (.slice B1 x.ops.length d1)) = W at *
  replace bo : Blk W (w.heap.size + 1 + 1) 33 #[.int .i64 x.n, .int .i64 x.inn, .int .i64 x.bits, .slice B1 x.ops.length d1] := bo
  have e0 : W.cell? ⟨w.heap.size + 1 + 1, 0, none⟩ = some (.int .i64 x.n) := bo.cell 0
  have t0 : W.cell? ⟨w.heap.size + 1, 0, none⟩ = some (.int .i64 0) := br.cell 0
  have k0 : W.frozen? ⟨w.heap.size + 1, 0, none⟩ = false := br.frozen 0
  have e1 : W.cell? ⟨w.heap.size + 1 + 1, 1, none⟩ = some (.int .i64 x.inn) := bo.cell 1
  have t1 : W.cell? ⟨w.heap.size + 1, 1, none⟩ = some (.int .i64 0) := br.cell 1
  have k1 : W.frozen? ⟨w.heap.size + 1, 1, none⟩ = false := br.frozen 1
  have e2 : W.cell? ⟨w.heap.size + 1 + 1, 2, none⟩ = some (.int .i64 x.bits) := bo.cell 2
  have t2 : W.cell? ⟨w.heap.size + 1, 2, none⟩ = some (.int .i64 0) := br.cell 2
  have k2 : W.frozen? ⟨w.heap.size + 1, 2, none⟩ = false := br.frozen 2
  have e3 : W.cell? ⟨w.heap.size + 1 + 1, 3, none⟩ = some (.slice B1 x.ops.length d1) := bo.cell 3
  have t3 : W.cell? ⟨w.heap.size + 1, 3, none⟩ = some (.slice none 0 0) := br.cell 3
  have k3 : W.frozen? ⟨w.heap.size + 1, 3, none⟩ = false := br.frozen 3
  go_wp2
  refine bodyPost_ret (v := .agg #[.int .i64 x.n, .int .i64 x.inn, .int .i64 x.bits, .slice B1 x.ops.length d1]) (by simp [results, Tryd.results7, go_sem, t0, t1, t2, t3]) rfl ⟨_, w1.heap.size, rfl, ⟨B1, d1, rfl, ?_⟩, ?_, ?_⟩
  · exact ⟨own_base (own_set (own_set (own_set (own_set (ho1) (p := ⟨w.heap.size + 1, 0, none⟩) (by first | omega | (simp; done) | (simp; omega)) _) (p := ⟨w.heap.size + 1, 1, none⟩) (by first | omega | (simp; done) | (simp; omega)) _) (p := ⟨w.heap.size + 1, 2, none⟩) (by first | omega | (simp; done) | (simp; omega)) _) (p := ⟨w.heap.size + 1, 3, none⟩) (by first | omega | (simp; done) | (simp; omega)) _) (by omega), HL1.out⟩
  · simp [World.setCell]; omega
  · exact ((((hy).setCell (p := ⟨w.heap.size + 1, 0, none⟩) (by first | omega | (simp; done) | (simp; omega)) _).setCell (p := ⟨w.heap.size + 1, 1, none⟩) (by first | omega | (simp; done) | (simp; omega)) _).setCell (p := ⟨w.heap.size + 1, 2, none⟩) (by first | omega | (simp; done) | (simp; omega)) _).setCell (p := ⟨w.heap.size + 1, 3, none⟩) (by first | omega | (simp; done) | (simp; omega)) _
def eqRt (x y : Rt) : Bool := (x.n == y.n) && (x.inn == y.inn) && (x.bits == y.bits) && (eqL eqO x.ops y.ops)
theorem eqRt_self (x : Rt) : eqRt x x = true := by
  unfold eqRt
  simp [eqL_self eqO eqO_self]
set_option maxRecDepth 100000 in
set_option maxHeartbeats 4000000 in
theorem eqRoutine_any (v u : Value) (x y : Rt) (w : World) (h : RtAt w w.heap.size v x) (h' : RtAt w w.heap.size u y) (hs : x.ops.length ≤ 100000000 ∧ y.ops.length ≤ 100000000) :
    Calls Tryd.prog 10 #[v, u] w fun e w' => e = .returned (.bool (eqRt x y)) ∧ Ext w w' := by
  obtain ⟨A1, c1, rfl, h1⟩ := h
  obtain ⟨B1, d1, rfl, r1⟩ := h'
  obtain ⟨s1, t1⟩ := hs
  go_enter Tryd.func10, Tryd.ntmps10
  cases i0 : (x.n == y.n)
  · have HE : Hid (eqRt x y = false) := by unfold Hid eqRt; rw [i0] <;> simp
    have j0 : (x.n != y.n) = true := by simp [bne, i0]
    go_wp2
    go_ret
    exact ⟨ret_bool HE.out.symm, (by repeat (first | exact Ext.refl _ | assumption | refine Ext.alloc ?_ _ | refine Ext.drewN ?_ _ | refine Ext.drew ?_))⟩
  have j0 : (x.n != y.n) = false := by simp [bne, i0]
  cases i1 : (x.inn == y.inn)
  · have HE : Hid (eqRt x y = false) := by unfold Hid eqRt; rw [i0, i1] <;> simp
    have j1 : (x.inn != y.inn) = true := by simp [bne, i1]
    go_wp2
    go_ret
    exact ⟨ret_bool HE.out.symm, (by repeat (first | exact Ext.refl _ | assumption | refine Ext.alloc ?_ _ | refine Ext.drewN ?_ _ | refine Ext.drew ?_))⟩
  have j1 : (x.inn != y.inn) = false := by simp [bne, i1]
  cases i2 : (x.bits == y.bits)
  · have HE : Hid (eqRt x y = false) := by unfold Hid eqRt; rw [i0, i1, i2] <;> simp
    have j2 : (x.bits != y.bits) = true := by simp [bne, i2]
    go_wp2
    go_ret
    exact ⟨ret_bool HE.out.symm, (by repeat (first | exact Ext.refl _ | assumption | refine Ext.alloc ?_ _ | refine Ext.drewN ?_ _ | refine Ext.drew ?_))⟩
  have j2 : (x.bits != y.bits) = false := by simp [bne, i2]
  go_wp2_with fail
  refine (eqOpS_any A1 B1 _ _ c1 d1 x.ops y.ops _ (h1.ext (by repeat (first | exact Ext.refl _ | assumption | refine Ext.alloc ?_ _ | refine Ext.drewN ?_ _ | refine Ext.drew ?_))) (r1.ext (by repeat (first | exact Ext.refl _ | assumption | refine Ext.alloc ?_ _ | refine Ext.drewN ?_ _ | refine Ext.drew ?_))) s1 t1).mono ?_
  rintro e w1 ⟨rfl, hx1⟩
  have bx : Blk w1 w.heap.size 33 #[.int .i64 x.n, .int .i64 x.inn, .int .i64 x.bits, .slice A1 x.ops.length c1] := ((Blk.new w _ _).alloc _).ext hx1
  have by_ : Blk w1 (w.heap.size + 1) 33 #[.int .i64 y.n, .int .i64 y.inn, .int .i64 y.bits, .slice B1 y.ops.length d1] := (Blk.newAt (b := w.heap.size + 1) (by first | omega | (simp; done) | (simp; omega))).ext hx1
  have hy : Ext w w1 := Ext.trans (by repeat (first | exact Ext.refl _ | assumption | refine Ext.alloc ?_ _ | refine Ext.drewN ?_ _ | refine Ext.drew ?_)) hx1
  cases i3 : eqL eqO x.ops y.ops
  · have HE : Hid (eqRt x y = false) := by unfold Hid eqRt; rw [i0, i1, i2, i3] <;> simp
    go_wp2
    go_ret
    exact ⟨ret_bool HE.out.symm, hy⟩
  have HE : Hid (eqRt x y = true) := by unfold Hid eqRt; rw [i0, i1, i2, i3] <;> simp
  go_wp2
  go_ret
  exact ⟨ret_bool HE.out.symm, hy⟩
theorem Tryd.cellsLRoutine : Tryd.prog.cellsOf 24 = 4 := by kernel_rfl
theorem Tryd.cellsRoutineSlOp : Tryd.prog.cellsOf 22 = 1 := by kernel_rfl
def Rt.ok (x : Rt) : Prop := I64 x.n ∧ I64 x.inn ∧ I64 x.bits ∧ x.ops.length ≤ maxLen ∧ (∀ g ∈ x.ops, g.ok)
set_option maxRecDepth 100000 in
/-- An argument of type laws.Routine. -/
theorem open_lroutine {H : Type} {enc : TypeId × Value → H} {w : World} {spare : Nat → Bool} {held : Bool} {base : Nat} {v : Value} {d : DataW H} {p : List MemPlace} (hv : Value.okWide Tryd.prog w .any base 24 v)
    (h : DataW.Trod enc Tryd.prog w 0 spare held 24 v d p) : ∃ x : Rt, RtAt w w.heap.size v x ∧ x.ok := by
  obtain ⟨cs, rfl, hsz⟩ := okWide_struct Tryd.underlying24 hv
  obtain ⟨n, hn⟩ := h
  obtain ⟨ys, n', _, _, hl, hyl, hf⟩ := DataW.trod_struct Tryd.underlying24 hn
  rw [Tryd.cellsLRoutine] at hl
  obtain ⟨l⟩ := cs
  replace hl : l.length = 4 := hl
  obtain ⟨k0, k1, k2, k3, rfl⟩ := len4 hl
  obtain ⟨_, f0⟩ := field_at hf hyl 0 _ rfl 3 0 1 rfl rfl Tryd.cellsInt
  obtain ⟨_, f1⟩ := field_at hf hyl 1 _ rfl 3 1 1 rfl rfl Tryd.cellsInt
  obtain ⟨_, f2⟩ := field_at hf hyl 2 _ rfl 3 2 1 rfl rfl Tryd.cellsInt
  obtain ⟨_, f3⟩ := field_at hf hyl 3 _ rfl 22 3 1 rfl rfl Tryd.cellsRoutineSlOp
  obtain ⟨x0, e0, o0⟩ := open_cell_int Tryd.underlying3 f0
  replace e0 : [k0] = _ := e0
  injection e0 with e0
  subst e0
  obtain ⟨x1, e1, o1⟩ := open_cell_int Tryd.underlying3 f1
  replace e1 : [k1] = _ := e1
  injection e1 with e1
  subst e1
  obtain ⟨x2, e2, o2⟩ := open_cell_int Tryd.underlying3 f2
  replace e2 : [k2] = _ := e2
  injection e2 with e2
  subst e2
  obtain ⟨A3, n3, c3, x3, e3, nc3, m3, r3, o3⟩ := open_lopsT f3
  replace e3 : [k3] = _ := e3
  injection e3 with e3
  subst e3
  obtain rfl := r3.len Oq.cells_len (by omega)
  exact ⟨⟨x0, x1, x2, x3⟩, ⟨A3, c3, rfl, r3⟩, o0, o1, o2, Nat.le_trans nc3 m3, o3⟩

set_option maxRecDepth 100000 in
theorem szRoutine_any (v : Value) (x : Rt) (l : Int) (w : World) (h : RtAt w w.heap.size v x) (hl : 0 ≤ l) (hl2 : l ≤ 1048576) (hn : x.ops.length ≤ maxLen) :
    Calls Tryd.prog 4 #[v, .int .i64 l] w fun e w' => e = .returned (.int .i64 (szF l x.ops.length)) ∧ Ext w w' := by
  obtain ⟨A1, c1, rfl, h1⟩ := h
  go_enter Tryd.func4, Tryd.ntmps4
  go_wp2_with fail
  refine (szOpS_any A1 _ c1 l _ hl hl2 hn).mono ?_
  rintro e w1 ⟨rfl, rfl⟩
  by_cases h : l < x.ops.length
  · have HF := Lib.hid (szF_lt h)
    rw [HF.out]
    go_wp2
    go_ret
    exact ⟨ret_int HF.out.symm, (by repeat (first | exact Ext.refl _ | assumption | refine Ext.alloc ?_ _ | refine Ext.drewN ?_ _ | refine Ext.drew ?_))⟩
  · have HF := Lib.hid (szF_ge h)
    rw [HF.out]
    go_wp2
    go_ret
    exact ⟨ret_int HF.out.symm, (by repeat (first | exact Ext.refl _ | assumption | refine Ext.alloc ?_ _ | refine Ext.drewN ?_ _ | refine Ext.drew ?_))⟩
end Go.Proofs.YtngpkboocpaikabDoor
