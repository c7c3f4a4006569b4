/-
  Helper text (no claim of its own): compiled results, as records, and the laws' own helpers on them. Printed in part by gen_struct.py.
-/
import Derived.Test.YtaiaaomjphnbfaaDoorCmp
namespace Go.Proofs.YtaiaaomjphnbfaaDoor
open Go.ChangeShapes Go.WideShapes Go.ChangeAt Go.RowKit Go.Deep
structure Cm where
  n : Int
  bits : Int
  ops : List Oq
  st : List Int
  fin : List Int
/-- The struct value v reads as the record x; its slices lie below block B. -/
def CmAt (w : World) (B : Nat) (v : Value) (x : Cm) : Prop :=
  ∃ (A1 A2 A3 : Option Addr) (c1 c2 c3 : Nat), v = .agg #[.int .i64 x.n, .int .i64 x.bits, .slice A1 x.ops.length c1, .slice A2 x.st.length c2, .slice A3 x.fin.length c3] ∧ Rd w B 8 A1 x.ops.length (ocells x.ops) ∧ Rd w B 1 A2 x.st.length (icells x.st) ∧ Rd w B 1 A3 x.fin.length (icells x.fin)
/-- The same, each slice in new memory of its own: slice j from block b(j-1) on and below bj. -/
def CmOwn (w : World) (b0 b1 b2 b3 : Nat) (v : Value) (x : Cm) : Prop :=
  ∃ (A1 A2 A3 : Option Addr) (c1 c2 c3 : Nat), v = .agg #[.int .i64 x.n, .int .i64 x.bits, .slice A1 x.ops.length c1, .slice A2 x.st.length c2, .slice A3 x.fin.length c3] ∧ w.ownsRow b0 44 8 (.slice A1 x.ops.length c1) x.ops.length (ocells x.ops) ∧ (∀ g, (Value.slice A1 x.ops.length c1).ownBlock = some g → g < b1) ∧ w.ownsRow b1 3 1 (.slice A2 x.st.length c2) x.st.length (icells x.st) ∧ (∀ g, (Value.slice A2 x.st.length c2).ownBlock = some g → g < b2) ∧ w.ownsRow b2 3 1 (.slice A3 x.fin.length c3) x.fin.length (icells x.fin) ∧ (∀ g, (Value.slice A3 x.fin.length c3).ownBlock = some g → g < b3)
theorem CmAt.up {w w' : World} {B : Nat} {v : Value} {x : Cm} (h : CmAt w B v x) (hx : Ext w w') (hB : B ≤ w.heap.size) : CmAt w' B v x := by
  obtain ⟨A1, A2, A3, c1, c2, c3, hv, h1, h2, h3⟩ := h
  exact ⟨A1, A2, A3, c1, c2, c3, hv, h1.up hx hB, h2.up hx hB, h3.up hx hB⟩
theorem CmAt.more {w : World} {B B' : Nat} {v : Value} {x : Cm} (h : CmAt w B v x) (hB : B ≤ B') : CmAt w B' v x := by
  obtain ⟨A1, A2, A3, c1, c2, c3, hv, h1, h2, h3⟩ := h
  exact ⟨A1, A2, A3, c1, c2, c3, hv, h1.more hB, h2.more hB, h3.more hB⟩
theorem CmAt.grown {w w' : World} {B : Nat} {v : Value} {x : Cm} {row : Option Nat} (h : CmAt w B v x) (hg : w.grownBy w' row) (hB : B ≤ w.heap.size) (hr : ∀ g, row = some g → B ≤ g) : CmAt w' B v x := by
  obtain ⟨A1, A2, A3, c1, c2, c3, hv, h1, h2, h3⟩ := h
  exact ⟨A1, A2, A3, c1, c2, c3, hv, h1.grown hg hB hr, h2.grown hg hB hr, h3.grown hg hB hr⟩
theorem CmOwn.at_ {w : World} {b0 b1 b2 b3 : Nat} {v : Value} {x : Cm} (h : CmOwn w b0 b1 b2 b3 v x) : CmAt w w.heap.size v x := by
  obtain ⟨A1, A2, A3, c1, c2, c3, hv, h1, l1, h2, l2, h3, l3⟩ := h
  exact ⟨A1, A2, A3, c1, c2, c3, hv, Rd.own h1, Rd.own h2, Rd.own h3⟩
theorem CmOwn.ext {w w' : World} {b0 b1 b2 b3 : Nat} {v : Value} {x : Cm} (h : CmOwn w b0 b1 b2 b3 v x) (hx : Ext w w') : CmOwn w' b0 b1 b2 b3 v x := by
  obtain ⟨A1, A2, A3, c1, c2, c3, hv, h1, l1, h2, l2, h3, l3⟩ := h
  exact ⟨A1, A2, A3, c1, c2, c3, hv, own_ext h1 hx, l1, own_ext h2 hx, l2, own_ext h3 hx, l3⟩
def Cm.small (x : Cm) : Prop := x.ops.length ≤ 1048576 ∧ x.st.length ≤ 1048576 ∧ x.fin.length ≤ 1048576

set_option maxRecDepth 100000 in
set_option maxHeartbeats 4000000 in
theorem toCompiled_own (v : Value) (x : Cm) (w : World) (h : CmAt w w.heap.size v x) (hs : x.small) :
    Calls Tryd.prog 6 #[v] w fun e w' => ∃ v' b1 b2 b3, e = .returned v' ∧ CmOwn w' w.heap.size b1 b2 b3 v' x ∧ (w.heap.size ≤ b1 ∧ b1 ≤ b2 ∧ b2 ≤ b3 ∧ b3 ≤ w'.heap.size) ∧ Ext w w' := by
  obtain ⟨A1, A2, A3, c1, c2, c3, rfl, h1, h2, h3⟩ := h
  obtain ⟨s1, s2, s3⟩ := hs
  go_enter Tryd.func6, Tryd.ntmps6
  go_wp2_with fail
  refine (toOpS_any A1 _ c1 x.ops _ (h1.ext (by repeat (first | exact Ext.refl _ | assumption | refine Ext.alloc ?_ _ | refine Ext.drewN ?_ _ | refine Ext.drew ?_))) s1).mono ?_
  rintro e w1 ⟨v1, rfl, ho1, hx⟩
  obtain ⟨B1, d1, rfl, hr1⟩ := own_slice ho1
  have hl1 := ho1.lt
  have HL1 := Lib.hid hl1
  clear hl1 hr1
  have bx : Blk w1 w.heap.size 25 #[.int .i64 x.n, .int .i64 x.bits, .slice A1 x.ops.length c1, .slice A2 x.st.length c2, .slice A3 x.fin.length c3] := (((Blk.new w _ _).alloc _).alloc _).ext hx
  have br : Blk w1 (w.heap.size + 1) 30 #[.int .i64 0, .int .i64 0, .slice none 0 0, .slice none 0 0, .slice none 0 0] := ((Blk.newAt (b := w.heap.size + 1) (by first | omega | (simp; done) | (simp; omega))).alloc _).ext hx
  have bo : Blk w1 (w.heap.size + 1 + 1) 30 #[.int .i64 x.n, .int .i64 x.bits, .slice none 0 0, .slice none 0 0, .slice none 0 0] := (Blk.newAt (b := w.heap.size + 1 + 1) (by first | omega | (simp; done) | (simp; omega))).ext hx
  have hy : Ext w w1 := Ext.trans (by repeat (first | exact Ext.refl _ | assumption | refine Ext.alloc ?_ _ | refine Ext.drewN ?_ _ | refine Ext.drew ?_)) hx
  replace ho1 := own_base (base' := w.heap.size + 3) ho1 (by first | omega | (simp; done) | (simp; omega))
  have hz1 := hx.size
  simp at hz1
  replace HL1 : Hid (∀ g, (Value.slice B1 x.ops.length d1).ownBlock = some g → g < w1.heap.size) := fun g hg => (HL1.out g hg).2
  clear hx
  have z1_3 : w1.cell? ⟨w.heap.size, 3, none⟩ = some (.slice A2 x.st.length c2) := bx.cell 3
  have z1_4 : w1.cell? ⟨w.heap.size, 4, none⟩ = some (.slice A3 x.fin.length c3) := bx.cell 4
  have y2 : w1.cell? ⟨w.heap.size + 1 + 1, 2, none⟩ = some (.slice none 0 0) := bo.cell 2
  have u2 : w1.frozen? ⟨w.heap.size + 1 + 1, 2, none⟩ = false := bo.frozen 2
  go_wp2_with fail
  replace hy := hy.setCell (p := ⟨w.heap.size + 1 + 1, 2, none⟩) (by first | omega | (simp; done) | (simp; omega)) (.slice B1 x.ops.length d1)
  replace bx := bx.far (p := ⟨w.heap.size + 1 + 1, 2, none⟩) (by first | omega | (simp; done) | (simp; omega)) (.slice B1 x.ops.length d1)
  replace br := br.far (p := ⟨w.heap.size + 1 + 1, 2, none⟩) (by first | omega | (simp; done) | (simp; omega)) (.slice B1 x.ops.length d1)
  replace bo := bo.set_ 2 (.slice B1 x.ops.length d1)
  replace ho1 := own_set ho1 (p := ⟨w.heap.size + 1 + 1, 2, none⟩) (by first | omega | (simp; done) | (simp; omega)) (.slice B1 x.ops.length d1)
  have hsz : (w1.setCell ⟨w.heap.size + 1 + 1, 2, none⟩ (.slice B1 x.ops.length d1)).heap.size = w1.heap.size := by simp [World.setCell]
  generalize (w1.setCell ⟨w.heap.size + 1 + 1, 2, none⟩ (.slice B1 x.ops.length d1)) = W2 at *
  replace bo : Blk W2 (w.heap.size + 1 + 1) 30 #[.int .i64 x.n, .int .i64 x.bits, .slice B1 x.ops.length d1, .slice none 0 0, .slice none 0 0] := bo
  refine (toIntS_any A2 _ c2 x.st _ (h2.ext hy) s2).mono ?_
  rintro e w2 ⟨v2, rfl, ho2, hx⟩
  obtain ⟨B2, d2, rfl, hr2⟩ := own_slice ho2
  have hl2 := ho2.lt
  have HL2 := Lib.hid hl2
  clear hl2 hr2
  replace bx := bx.ext hx
  replace br := br.ext hx
  replace bo := bo.ext hx
  replace hy := hy.trans hx
  have hz2 := hx.size
  rw [hsz] at hz2
  replace ho1 := own_ext ho1 hx
  rw [hsz] at ho2
  replace HL2 : Hid (∀ g, (Value.slice B2 x.st.length d2).ownBlock = some g → g < w2.heap.size) := fun g hg => (HL2.out g hg).2
  clear hsz
  clear hx
  clear z1_3 z1_4
  have z2_4 : w2.cell? ⟨w.heap.size, 4, none⟩ = some (.slice A3 x.fin.length c3) := bx.cell 4
  have y3 : w2.cell? ⟨w.heap.size + 1 + 1, 3, none⟩ = some (.slice none 0 0) := bo.cell 3
  have u3 : w2.frozen? ⟨w.heap.size + 1 + 1, 3, none⟩ = false := bo.frozen 3
  go_wp2_with fail
  replace hy := hy.setCell (p := ⟨w.heap.size + 1 + 1, 3, none⟩) (by first | omega | (simp; done) | (simp; omega)) (.slice B2 x.st.length d2)
  replace bx := bx.far (p := ⟨w.heap.size + 1 + 1, 3, none⟩) (by first | omega | (simp; done) | (simp; omega)) (.slice B2 x.st.length d2)
  replace br := br.far (p := ⟨w.heap.size + 1 + 1, 3, none⟩) (by first | omega | (simp; done) | (simp; omega)) (.slice B2 x.st.length d2)
  replace bo := bo.set_ 3 (.slice B2 x.st.length d2)
  replace ho1 := own_set ho1 (p := ⟨w.heap.size + 1 + 1, 3, none⟩) (by first | omega | (simp; done) | (simp; omega)) (.slice B2 x.st.length d2)
  replace ho2 := own_set ho2 (p := ⟨w.heap.size + 1 + 1, 3, none⟩) (by first | omega | (simp; done) | (simp; omega)) (.slice B2 x.st.length d2)
  have hsz : (w2.setCell ⟨w.heap.size + 1 + 1, 3, none⟩ (.slice B2 x.st.length d2)).heap.size = w2.heap.size := by simp [World.setCell]
  generalize (w2.setCell ⟨w.heap.size + 1 + 1, 3, none⟩ (.slice B2 x.st.length d2)) = W3 at *
  replace bo : Blk W3 (w.heap.size + 1 + 1) 30 #[.int .i64 x.n, .int .i64 x.bits, .slice B1 x.ops.length d1, .slice B2 x.st.length d2, .slice none 0 0] := bo
  refine (toIntS_any A3 _ c3 x.fin _ (h3.ext hy) s3).mono ?_
  rintro e w3 ⟨v3, rfl, ho3, hx⟩
  obtain ⟨B3, d3, rfl, hr3⟩ := own_slice ho3
  have hl3 := ho3.lt
  have HL3 := Lib.hid hl3
  clear hl3 hr3
  replace bx := bx.ext hx
  replace br := br.ext hx
  replace bo := bo.ext hx
  replace hy := hy.trans hx
  have hz3 := hx.size
  rw [hsz] at hz3
  replace ho1 := own_ext ho1 hx
  replace ho2 := own_ext ho2 hx
  rw [hsz] at ho3
  replace HL3 : Hid (∀ g, (Value.slice B3 x.fin.length d3).ownBlock = some g → g < w3.heap.size) := fun g hg => (HL3.out g hg).2
  clear hsz
  clear hx
  clear z2_4
  have y4 : w3.cell? ⟨w.heap.size + 1 + 1, 4, none⟩ = some (.slice none 0 0) := bo.cell 4
  have u4 : w3.frozen? ⟨w.heap.size + 1 + 1, 4, none⟩ = false := bo.frozen 4
  go_upto_region 7 with (fail)
  replace hy := hy.setCell (p := ⟨w.heap.size + 1 + 1, 4, none⟩) (by first | omega | (simp; done) | (simp; omega)) (.slice B3 x.fin.length d3)
  replace br := br.far (p := ⟨w.heap.size + 1 + 1, 4, none⟩) (by first | omega | (simp; done) | (simp; omega)) (.slice B3 x.fin.length d3)
  replace bo := bo.set_ 4 (.slice B3 x.fin.length d3)
  replace ho1 := own_set ho1 (p := ⟨w.heap.size + 1 + 1, 4, none⟩) (by first | omega | (simp; done) | (simp; omega)) (.slice B3 x.fin.length d3)
  replace ho2 := own_set ho2 (p := ⟨w.heap.size + 1 + 1, 4, none⟩) (by first | omega | (simp; done) | (simp; omega)) (.slice B3 x.fin.length d3)
  replace ho3 := own_set ho3 (p := ⟨w.heap.size + 1 + 1, 4, none⟩) (by first | omega | (simp; done) | (simp; omega)) (.slice B3 x.fin.length d3)
  have hsz : (w3.setCell ⟨w.heap.size + 1 + 1, 4, none⟩ (.slice B3 x.fin.length d3)).heap.size = w3.heap.size := by simp [World.setCell]
  generalize (w3.setCell ⟨w.heap.size + 1 + 1, 4, none⟩ (.slice B3 x.fin.length d3)) = W at *
  replace bo : Blk W (w.heap.size + 1 + 1) 30 #[.int .i64 x.n, .int .i64 x.bits, .slice B1 x.ops.length d1, .slice B2 x.st.length d2, .slice B3 x.fin.length d3] := bo
  have e0 : W.cell? ⟨w.heap.size + 1 + 1, 0, none⟩ = some (.int .i64 x.n) := bo.cell 0
  have t0 : W.cell? ⟨w.heap.size + 1, 0, none⟩ = some (.int .i64 0) := br.cell 0
  have k0 : W.frozen? ⟨w.heap.size + 1, 0, none⟩ = false := br.frozen 0
  have e1 : W.cell? ⟨w.heap.size + 1 + 1, 1, none⟩ = some (.int .i64 x.bits) := bo.cell 1
  have t1 : W.cell? ⟨w.heap.size + 1, 1, none⟩ = some (.int .i64 0) := br.cell 1
  have k1 : W.frozen? ⟨w.heap.size + 1, 1, none⟩ = false := br.frozen 1
  have e2 : W.cell? ⟨w.heap.size + 1 + 1, 2, none⟩ = some (.slice B1 x.ops.length d1) := bo.cell 2
  have t2 : W.cell? ⟨w.heap.size + 1, 2, none⟩ = some (.slice none 0 0) := br.cell 2
  have k2 : W.frozen? ⟨w.heap.size + 1, 2, none⟩ = false := br.frozen 2
  have e3 : W.cell? ⟨w.heap.size + 1 + 1, 3, none⟩ = some (.slice B2 x.st.length d2) := bo.cell 3
  have t3 : W.cell? ⟨w.heap.size + 1, 3, none⟩ = some (.slice none 0 0) := br.cell 3
  have k3 : W.frozen? ⟨w.heap.size + 1, 3, none⟩ = false := br.frozen 3
  have e4 : W.cell? ⟨w.heap.size + 1 + 1, 4, none⟩ = some (.slice B3 x.fin.length d3) := bo.cell 4
  have t4 : W.cell? ⟨w.heap.size + 1, 4, none⟩ = some (.slice none 0 0) := br.cell 4
  have k4 : W.frozen? ⟨w.heap.size + 1, 4, none⟩ = false := br.frozen 4
  go_wp2
  refine bodyPost_ret (v := .agg #[.int .i64 x.n, .int .i64 x.bits, .slice B1 x.ops.length d1, .slice B2 x.st.length d2, .slice B3 x.fin.length d3]) (by simp [results, Tryd.results6, go_sem, t0, t1, t2, t3, t4]) rfl ⟨_, w1.heap.size, w2.heap.size, w3.heap.size, rfl, ⟨B1, B2, B3, d1, d2, d3, rfl, ?_⟩, ?_, ?_⟩
  · exact ⟨own_base (own_set (own_set (own_set (own_set (own_set (ho1) (p := ⟨w.heap.size + 1, 0, none⟩) (by first | omega | (simp; done) | (simp; omega)) _) (p := ⟨w.heap.size + 1, 1, none⟩) (by first | omega | (simp; done) | (simp; omega)) _) (p := ⟨w.heap.size + 1, 2, none⟩) (by first | omega | (simp; done) | (simp; omega)) _) (p := ⟨w.heap.size + 1, 3, none⟩) (by first | omega | (simp; done) | (simp; omega)) _) (p := ⟨w.heap.size + 1, 4, none⟩) (by first | omega | (simp; done) | (simp; omega)) _) (by omega), HL1.out, own_base (own_set (own_set (own_set (own_set (own_set (ho2) (p := ⟨w.heap.size + 1, 0, none⟩) (by first | omega | (simp; done) | (simp; omega)) _) (p := ⟨w.heap.size + 1, 1, none⟩) (by first | omega | (simp; done) | (simp; omega)) _) (p := ⟨w.heap.size + 1, 2, none⟩) (by first | omega | (simp; done) | (simp; omega)) _) (p := ⟨w.heap.size + 1, 3, none⟩) (by first | omega | (simp; done) | (simp; omega)) _) (p := ⟨w.heap.size + 1, 4, none⟩) (by first | omega | (simp; done) | (simp; omega)) _) (by omega), HL2.out, own_base (own_set (own_set (own_set (own_set (own_set (ho3) (p := ⟨w.heap.size + 1, 0, none⟩) (by first | omega | (simp; done) | (simp; omega)) _) (p := ⟨w.heap.size + 1, 1, none⟩) (by first | omega | (simp; done) | (simp; omega)) _) (p := ⟨w.heap.size + 1, 2, none⟩) (by first | omega | (simp; done) | (simp; omega)) _) (p := ⟨w.heap.size + 1, 3, none⟩) (by first | omega | (simp; done) | (simp; omega)) _) (p := ⟨w.heap.size + 1, 4, none⟩) (by first | omega | (simp; done) | (simp; omega)) _) (by omega), HL3.out⟩
  · simp [World.setCell]; omega
  · exact (((((hy).setCell (p := ⟨w.heap.size + 1, 0, none⟩) (by first | omega | (simp; done) | (simp; omega)) _).setCell (p := ⟨w.heap.size + 1, 1, none⟩) (by first | omega | (simp; done) | (simp; omega)) _).setCell (p := ⟨w.heap.size + 1, 2, none⟩) (by first | omega | (simp; done) | (simp; omega)) _).setCell (p := ⟨w.heap.size + 1, 3, none⟩) (by first | omega | (simp; done) | (simp; omega)) _).setCell (p := ⟨w.heap.size + 1, 4, none⟩) (by first | omega | (simp; done) | (simp; omega)) _
def eqCm (x y : Cm) : Bool := (x.n == y.n) && (x.bits == y.bits) && (eqL eqO x.ops y.ops) && (eqL eqI x.st y.st) && (eqL eqI x.fin y.fin)
theorem eqCm_self (x : Cm) : eqCm x x = true := by
  unfold eqCm
  simp [eqL_self eqI eqI_self, eqL_self eqO eqO_self]
set_option maxRecDepth 100000 in
set_option maxHeartbeats 4000000 in
theorem eqCompiled_any (v u : Value) (x y : Cm) (w : World) (h : CmAt w w.heap.size v x) (h' : CmAt w w.heap.size u y) (hs : x.ops.length ≤ 100000000 ∧ y.ops.length ≤ 100000000 ∧ x.st.length ≤ 100000000 ∧ y.st.length ≤ 100000000 ∧ x.fin.length ≤ 100000000 ∧ y.fin.length ≤ 100000000) :
    Calls Tryd.prog 8 #[v, u] w fun e w' => e = .returned (.bool (eqCm x y)) ∧ Ext w w' := by
  obtain ⟨A1, A2, A3, c1, c2, c3, rfl, h1, h2, h3⟩ := h
  obtain ⟨B1, B2, B3, d1, d2, d3, rfl, r1, r2, r3⟩ := h'
  obtain ⟨s1, t1, s2, t2, s3, t3⟩ := hs
  go_enter Tryd.func8, Tryd.ntmps8
  cases i0 : (x.n == y.n)
  · have HE : Hid (eqCm x y = false) := by unfold Hid eqCm; rw [i0] <;> simp
    have j0 : (x.n != y.n) = true := by simp [bne, i0]
    go_wp2
    go_ret
    exact ⟨ret_bool HE.out.symm, (by repeat (first | exact Ext.refl _ | assumption | refine Ext.alloc ?_ _ | refine Ext.drewN ?_ _ | refine Ext.drew ?_))⟩
  have j0 : (x.n != y.n) = false := by simp [bne, i0]
  cases i1 : (x.bits == y.bits)
  · have HE : Hid (eqCm x y = false) := by unfold Hid eqCm; rw [i0, i1] <;> simp
    have j1 : (x.bits != y.bits) = true := by simp [bne, i1]
    go_wp2
    go_ret
    exact ⟨ret_bool HE.out.symm, (by repeat (first | exact Ext.refl _ | assumption | refine Ext.alloc ?_ _ | refine Ext.drewN ?_ _ | refine Ext.drew ?_))⟩
  have j1 : (x.bits != y.bits) = false := by simp [bne, i1]
  go_wp2_with fail
  refine (eqOpS_any A1 B1 _ _ c1 d1 x.ops y.ops _ (h1.ext (by repeat (first | exact Ext.refl _ | assumption | refine Ext.alloc ?_ _ | refine Ext.drewN ?_ _ | refine Ext.drew ?_))) (r1.ext (by repeat (first | exact Ext.refl _ | assumption | refine Ext.alloc ?_ _ | refine Ext.drewN ?_ _ | refine Ext.drew ?_))) s1 t1).mono ?_
  rintro e w1 ⟨rfl, hx1⟩
  have bx : Blk w1 w.heap.size 30 #[.int .i64 x.n, .int .i64 x.bits, .slice A1 x.ops.length c1, .slice A2 x.st.length c2, .slice A3 x.fin.length c3] := ((Blk.new w _ _).alloc _).ext hx1
  have by_ : Blk w1 (w.heap.size + 1) 30 #[.int .i64 y.n, .int .i64 y.bits, .slice B1 y.ops.length d1, .slice B2 y.st.length d2, .slice B3 y.fin.length d3] := (Blk.newAt (b := w.heap.size + 1) (by first | omega | (simp; done) | (simp; omega))).ext hx1
  have hy : Ext w w1 := Ext.trans (by repeat (first | exact Ext.refl _ | assumption | refine Ext.alloc ?_ _ | refine Ext.drewN ?_ _ | refine Ext.drew ?_)) hx1
  have p1_3 : w1.cell? ⟨w.heap.size, 3, none⟩ = some (.slice A2 x.st.length c2) := bx.cell 3
  have q1_3 : w1.cell? ⟨w.heap.size + 1, 3, none⟩ = some (.slice B2 y.st.length d2) := by_.cell 3
  have p1_4 : w1.cell? ⟨w.heap.size, 4, none⟩ = some (.slice A3 x.fin.length c3) := bx.cell 4
  have q1_4 : w1.cell? ⟨w.heap.size + 1, 4, none⟩ = some (.slice B3 y.fin.length d3) := by_.cell 4
  cases i2 : eqL eqO x.ops y.ops
  · have HE : Hid (eqCm x y = false) := by unfold Hid eqCm; rw [i0, i1, i2] <;> simp
    go_wp2
    go_ret
    exact ⟨ret_bool HE.out.symm, hy⟩
  go_wp2_with fail
  refine (eqIntS_any A2 B2 _ _ c2 d2 x.st y.st _ (h2.ext hy) (r2.ext hy) s2 t2).mono ?_
  rintro e w2 ⟨rfl, hx2⟩
  replace bx := bx.ext hx2
  replace by_ := by_.ext hx2
  replace hy := hy.trans hx2
  have p2_4 : w2.cell? ⟨w.heap.size, 4, none⟩ = some (.slice A3 x.fin.length c3) := bx.cell 4
  have q2_4 : w2.cell? ⟨w.heap.size + 1, 4, none⟩ = some (.slice B3 y.fin.length d3) := by_.cell 4
  cases i3 : eqL eqI x.st y.st
  · have HE : Hid (eqCm x y = false) := by unfold Hid eqCm; rw [i0, i1, i2, i3] <;> simp
    go_wp2
    go_ret
    exact ⟨ret_bool HE.out.symm, hy⟩
  go_wp2_with fail
  refine (eqIntS_any A3 B3 _ _ c3 d3 x.fin y.fin _ (h3.ext hy) (r3.ext hy) s3 t3).mono ?_
  rintro e w3 ⟨rfl, hx3⟩
  replace bx := bx.ext hx3
  replace by_ := by_.ext hx3
  replace hy := hy.trans hx3
  cases i4 : eqL eqI x.fin y.fin
  · have HE : Hid (eqCm x y = false) := by unfold Hid eqCm; rw [i0, i1, i2, i3, i4] <;> simp
    go_wp2
    go_ret
    exact ⟨ret_bool HE.out.symm, hy⟩
  have HE : Hid (eqCm x y = true) := by unfold Hid eqCm; rw [i0, i1, i2, i3, i4] <;> simp
  go_wp2
  go_ret
  exact ⟨ret_bool HE.out.symm, hy⟩
theorem Tryd.cellsLCompiled : Tryd.prog.cellsOf 25 = 5 := by kernel_rfl
theorem Tryd.cellsCompiledSlInt : Tryd.prog.cellsOf 23 = 1 := by kernel_rfl
theorem Tryd.cellsCompiledSlOp : Tryd.prog.cellsOf 22 = 1 := by kernel_rfl
def Cm.ok (x : Cm) : Prop := I64 x.n ∧ I64 x.bits ∧ x.ops.length ≤ maxLen ∧ (∀ g ∈ x.ops, g.ok) ∧ x.st.length ≤ maxLen ∧ (∀ g ∈ x.st, I64 g) ∧ x.fin.length ≤ maxLen ∧ (∀ g ∈ x.fin, I64 g)
set_option maxRecDepth 100000 in
/-- An argument of type laws.Compiled. -/
theorem open_lcompiled {H : Type} {enc : TypeId × Value → H} {w : World} {spare : Nat → Bool} {held : Bool} {base : Nat} {v : Value} {d : DataW H} {p : List MemPlace} (hv : Value.okWide Tryd.prog w .any base 25 v)
    (h : DataW.Trod enc Tryd.prog w 0 spare held 25 v d p) : ∃ x : Cm, CmAt w w.heap.size v x ∧ x.ok := by
  obtain ⟨cs, rfl, hsz⟩ := okWide_struct Tryd.underlying25 hv
  obtain ⟨n, hn⟩ := h
  obtain ⟨ys, n', _, _, hl, hyl, hf⟩ := DataW.trod_struct Tryd.underlying25 hn
  rw [Tryd.cellsLCompiled] at hl
  obtain ⟨l⟩ := cs
  replace hl : l.length = 5 := hl
  obtain ⟨k0, k1, k2, k3, k4, rfl⟩ := len5 hl
  obtain ⟨_, f0⟩ := field_at hf hyl 0 _ rfl 3 0 1 rfl rfl Tryd.cellsInt
  obtain ⟨_, f1⟩ := field_at hf hyl 1 _ rfl 3 1 1 rfl rfl Tryd.cellsInt
  obtain ⟨_, f2⟩ := field_at hf hyl 2 _ rfl 22 2 1 rfl rfl Tryd.cellsCompiledSlOp
  obtain ⟨_, f3⟩ := field_at hf hyl 3 _ rfl 23 3 1 rfl rfl Tryd.cellsCompiledSlInt
  obtain ⟨_, f4⟩ := field_at hf hyl 4 _ rfl 23 4 1 rfl rfl Tryd.cellsCompiledSlInt
  obtain ⟨x0, e0, o0⟩ := open_cell_int Tryd.underlying3 f0
  replace e0 : [k0] = _ := e0
  injection e0 with e0
  subst e0
  obtain ⟨x1, e1, o1⟩ := open_cell_int Tryd.underlying3 f1
  replace e1 : [k1] = _ := e1
  injection e1 with e1
  subst e1
  obtain ⟨A2, n2, c2, x2, e2, nc2, m2, r2, o2⟩ := open_lopsT f2
  replace e2 : [k2] = _ := e2
  injection e2 with e2
  subst e2
  obtain rfl := r2.len Oq.cells_len (by omega)
  obtain ⟨A3, n3, c3, x3, e3, nc3, m3, r3, o3⟩ := open_lintsT f3
  replace e3 : [k3] = _ := e3
  injection e3 with e3
  subst e3
  obtain rfl := r3.len icell_len (by omega)
  obtain ⟨A4, n4, c4, x4, e4, nc4, m4, r4, o4⟩ := open_lintsT f4
  replace e4 : [k4] = _ := e4
  injection e4 with e4
  subst e4
  obtain rfl := r4.len icell_len (by omega)
  exact ⟨⟨x0, x1, x2, x3, x4⟩, ⟨A2, A3, A4, c2, c3, c4, rfl, r2, r3, r4⟩, o0, o1, Nat.le_trans nc2 m2, o2, Nat.le_trans nc3 m3, o3, Nat.le_trans nc4 m4, o4⟩

set_option maxRecDepth 100000 in
set_option maxHeartbeats 1000000 in
theorem szCompiled_any (v : Value) (x : Cm) (l : Int) (w : World) (h : CmAt w w.heap.size v x) (hl : 0 ≤ l) (hl2 : l ≤ 1048576) (hn : x.ok) :
    Calls Tryd.prog 4 #[v, .int .i64 l] w fun e w' => e = .returned (.int .i64 (szF l (x.ops.length + x.st.length + x.fin.length))) ∧ Ext w w' := by
  obtain ⟨A1, A2, A3, c1, c2, c3, rfl, h1, h2, h3⟩ := h
  obtain ⟨_, _, n1, _, n2, _, n3, _⟩ := hn
  go_enter Tryd.func4, Tryd.ntmps4
  go_wp2_with fail
  refine (szOpS_any A1 _ c1 l _ hl hl2 n1).mono ?_
  rintro e w1 ⟨rfl, rfl⟩
  by_cases g1 : l < x.ops.length
  · have HF := Lib.hid (show szF l (x.ops.length + x.st.length + x.fin.length) = -1 from szF_lt (by omega))
    rw [szF_lt g1]
    go_wp2
    go_ret
    exact ⟨ret_int HF.out.symm, (by repeat (first | exact Ext.refl _ | assumption | refine Ext.alloc ?_ _ | refine Ext.drewN ?_ _ | refine Ext.drew ?_))⟩
  rw [szF_ge g1]
  go_wp2_with fail
  refine (szIntS_any A2 _ c2 _ _ (by omega) (by omega) n2).mono ?_
  rintro e w1 ⟨rfl, rfl⟩
  by_cases g2 : l - x.ops.length < x.st.length
  · have HF := Lib.hid (show szF l (x.ops.length + x.st.length + x.fin.length) = -1 from szF_lt (by omega))
    rw [szF_lt g2]
    go_wp2
    go_ret
    exact ⟨ret_int HF.out.symm, (by repeat (first | exact Ext.refl _ | assumption | refine Ext.alloc ?_ _ | refine Ext.drewN ?_ _ | refine Ext.drew ?_))⟩
  rw [szF_ge g2]
  go_wp2_with fail
  refine (szIntS_any A3 _ c3 _ _ (by omega) (by omega) n3).mono ?_
  rintro e w1 ⟨rfl, rfl⟩
  by_cases g3 : l - x.ops.length - x.st.length < x.fin.length
  · have HF := Lib.hid (show szF l (x.ops.length + x.st.length + x.fin.length) = -1 from szF_lt (by omega))
    rw [szF_lt g3]
    go_wp2
    go_ret
    exact ⟨ret_int HF.out.symm, (by repeat (first | exact Ext.refl _ | assumption | refine Ext.alloc ?_ _ | refine Ext.drewN ?_ _ | refine Ext.drew ?_))⟩
  have HF : Hid (szF l (x.ops.length + x.st.length + x.fin.length) = l - x.ops.length - x.st.length - x.fin.length) := by unfold Hid; rw [szF_ge (by omega)]; omega
  rw [szF_ge g3]
  go_wp2
  go_ret
  exact ⟨ret_int HF.out.symm, (by repeat (first | exact Ext.refl _ | assumption | refine Ext.alloc ?_ _ | refine Ext.drewN ?_ _ | refine Ext.drew ?_))⟩
end Go.Proofs.YtaiaaomjphnbfaaDoor
