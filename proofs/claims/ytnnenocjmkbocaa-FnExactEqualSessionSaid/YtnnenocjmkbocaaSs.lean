/-
  Helper text (no claim of its own): sessions, as records, and the laws' own helpers on them.
-/
import Derived.Test.YtnnenocjmkbocaaEqc
import Derived.Test.YtnnenocjmkbocaaGr
import Derived.Test.YtnnenocjmkbocaaCmq
namespace Go.Proofs.Ytnnenocjmkbocaa
open Go.ChangeShapes Go.WideShapes Go.ChangeAt Go.RowKit Go.Deep
structure Ss where
  g : Gr
  t : ByteArray
  c : Cm
  h : Bool
/-- The struct value v reads as the record x; its slices lie below block B. -/
def SsAt (w : World) (B : Nat) (v : Value) (x : Ss) : Prop :=
  ∃ (A0 A1 A2 A3 : Option Addr) (c0 c1 c2 c3 : Nat), v = .agg #[.int .i64 x.g.n, .slice A0 x.g.es.length c0, .string x.t, .int .i64 x.c.n, .int .i64 x.c.bits, .slice A1 x.c.ops.length c1, .slice A2 x.c.st.length c2, .slice A3 x.c.fin.length c3, .bool x.h] ∧
    Rd w B 2 A0 x.g.es.length (ecells x.g.es) ∧ Rd w B 8 A1 x.c.ops.length (ocells x.c.ops) ∧ Rd w B 1 A2 x.c.st.length (icells x.c.st) ∧ Rd w B 1 A3 x.c.fin.length (icells x.c.fin)
theorem SsAt.up {w w' : World} {B : Nat} {v : Value} {x : Ss} (h : SsAt w B v x) (hx : Ext w w') (hB : B ≤ w.heap.size) : SsAt w' B v x := by
  obtain ⟨A0, A1, A2, A3, c0, c1, c2, c3, hv, h0, h1, h2, h3⟩ := h
  exact ⟨A0, A1, A2, A3, c0, c1, c2, c3, hv, h0.up hx hB, h1.up hx hB, h2.up hx hB, h3.up hx hB⟩
theorem SsAt.more {w : World} {B B' : Nat} {v : Value} {x : Ss} (h : SsAt w B v x) (hB : B ≤ B') : SsAt w B' v x := by
  obtain ⟨A0, A1, A2, A3, c0, c1, c2, c3, hv, h0, h1, h2, h3⟩ := h
  exact ⟨A0, A1, A2, A3, c0, c1, c2, c3, hv, h0.more hB, h1.more hB, h2.more hB, h3.more hB⟩
theorem SsAt.ext {w w' : World} {v : Value} {x : Ss} (h : SsAt w w.heap.size v x) (hx : Ext w w') : SsAt w' w'.heap.size v x := (h.up hx (Nat.le_refl _)).more hx.size
def Ss.tot (x : Ss) : Nat := x.g.es.length + x.t.size + (x.c.ops.length + x.c.st.length + x.c.fin.length)
def Ss.ok (x : Ss) : Prop := x.g.ok ∧ x.t.size ≤ maxLen ∧ x.c.ok
def eqSs (x y : Ss) : Bool := eqGr x.g y.g && (x.t.toList == y.t.toList) && eqCm x.c y.c && (x.h == y.h)
theorem eqSs_self (x : Ss) : eqSs x x = true := by
  unfold eqSs
  rw [eqGr_self, eqCm_self]
  simp
theorem Try.cellsLSession : Try.prog.cellsOf 38 = 9 := by kernel_rfl
theorem Try.cellsStr : Try.prog.cellsOf 9 = 1 := by kernel_rfl
theorem Try.cellsBool : Try.prog.cellsOf 4 = 1 := by kernel_rfl
theorem len9 {α : Type} {l : List α} (h : l.length = 9) : ∃ a b c d e f g i j, l = [a, b, c, d, e, f, g, i, j] := by
  obtain ⟨a, t, rfl, ha⟩ := lenS h
  obtain ⟨b, c, d, e, f, g, i, j, rfl⟩ := len8 ha
  exact ⟨a, b, c, d, e, f, g, i, j, rfl⟩
set_option maxRecDepth 100000 in
theorem open_lgraphT {H : Type} {enc : TypeId × Value → H} {w : World} {spare : Nat → Bool} {held : Bool} {n : Nat} {cs : List Value} {y : DataW H × List MemPlace} (hn : DataW.trod enc Try.prog w 0 spare held n 32 cs = some y) :
    ∃ (x : Gr) (A1 : Option Addr) (c1 : Nat), cs = [.int .i64 x.n, .slice A1 x.es.length c1] ∧ Rd w w.heap.size 2 A1 x.es.length (ecells x.es) ∧ x.ok := by
  obtain ⟨ys, n', _, _, hl, hyl, hf⟩ := DataW.trod_struct Try.underlying32 hn
  rw [Try.cellsLGraph] at hl
  obtain ⟨k0, k1, rfl⟩ := len2 hl
  obtain ⟨_, f0⟩ := field_at hf hyl 0 _ rfl 3 0 1 rfl rfl Try.cellsInt
  obtain ⟨_, f1⟩ := field_at hf hyl 1 _ rfl 30 1 1 rfl rfl Try.cellsGraphSlEdge
  obtain ⟨x0, e0, o0⟩ := open_cell_int Try.underlying3 f0
  replace e0 : [k0] = _ := e0
  injection e0 with e0
  subst e0
  obtain ⟨A1, n1, c1, x1, e1, nc1, m1, r1, o1⟩ := open_ledgesT f1
  replace e1 : [k1] = _ := e1
  injection e1 with e1
  subst e1
  obtain rfl := r1.len Ed.cells_len (by omega)
  exact ⟨⟨x0, x1⟩, A1, c1, rfl, r1, o0, Nat.le_trans nc1 m1, o1⟩
set_option maxRecDepth 100000 in
theorem open_lcompiledT {H : Type} {enc : TypeId × Value → H} {w : World} {spare : Nat → Bool} {held : Bool} {n : Nat} {cs : List Value} {y : DataW H × List MemPlace} (hn : DataW.trod enc Try.prog w 0 spare held n 36 cs = some y) :
    ∃ (x : Cm) (A1 A2 A3 : Option Addr) (c1 c2 c3 : Nat), cs = [.int .i64 x.n, .int .i64 x.bits, .slice A1 x.ops.length c1, .slice A2 x.st.length c2, .slice A3 x.fin.length c3] ∧ Rd w w.heap.size 8 A1 x.ops.length (ocells x.ops) ∧ Rd w w.heap.size 1 A2 x.st.length (icells x.st) ∧ Rd w w.heap.size 1 A3 x.fin.length (icells x.fin) ∧ x.ok := by
  obtain ⟨ys, n', _, _, hl, hyl, hf⟩ := DataW.trod_struct Try.underlying36 hn
  rw [Try.cellsLCompiled] at hl
  obtain ⟨k0, k1, k2, k3, k4, rfl⟩ := len5 hl
  obtain ⟨_, f0⟩ := field_at hf hyl 0 _ rfl 3 0 1 rfl rfl Try.cellsInt
  obtain ⟨_, f1⟩ := field_at hf hyl 1 _ rfl 3 1 1 rfl rfl Try.cellsInt
  obtain ⟨_, f2⟩ := field_at hf hyl 2 _ rfl 33 2 1 rfl rfl Try.cellsCompiledSlOp
  obtain ⟨_, f3⟩ := field_at hf hyl 3 _ rfl 34 3 1 rfl rfl Try.cellsCompiledSlInt
  obtain ⟨_, f4⟩ := field_at hf hyl 4 _ rfl 34 4 1 rfl rfl Try.cellsCompiledSlInt
  obtain ⟨x0, e0, o0⟩ := open_cell_int Try.underlying3 f0
  replace e0 : [k0] = _ := e0
  injection e0 with e0
  subst e0
  obtain ⟨x1, e1, o1⟩ := open_cell_int Try.underlying3 f1
  replace e1 : [k1] = _ := e1
  injection e1 with e1
  subst e1
  obtain ⟨A2, n2, c2, x2, e2, nc2, m2, r2, o2⟩ := open_lopsT f2
  replace e2 : [k2] = _ := e2
  injection e2 with e2
  subst e2
  obtain rfl := r2.len Oq.cells_len (by omega)
  obtain ⟨A3, n3, c3, x3, e3, nc3, m3, r3, o3⟩ := open_lintsT f3
  replace e3 : [k3] = _ := e3
  injection e3 with e3
  subst e3
  obtain rfl := r3.len icell_len (by omega)
  obtain ⟨A4, n4, c4, x4, e4, nc4, m4, r4, o4⟩ := open_lintsT f4
  replace e4 : [k4] = _ := e4
  injection e4 with e4
  subst e4
  obtain rfl := r4.len icell_len (by omega)
  exact ⟨⟨x0, x1, x2, x3, x4⟩, A2, A3, A4, c2, c3, c4, rfl, r2, r3, r4, o0, o1, Nat.le_trans nc2 m2, o2, Nat.le_trans nc3 m3, o3, Nat.le_trans nc4 m4, o4⟩
set_option maxRecDepth 100000 in
/-- An argument of type laws.Session. -/
theorem open_lsession {H : Type} {enc : TypeId × Value → H} {w : World} {spare : Nat → Bool} {held : Bool} {base : Nat} {v : Value} {d : DataW H} {p : List MemPlace} (hv : Value.okWide Try.prog w .any base 38 v)
    (h : DataW.Trod enc Try.prog w 0 spare held 38 v d p) : ∃ x : Ss, SsAt w w.heap.size v x ∧ x.ok := by
  obtain ⟨cs, rfl, hsz⟩ := okWide_struct Try.underlying38 hv
  obtain ⟨n, hn⟩ := h
  obtain ⟨ys, n', _, _, hl, hyl, hf⟩ := DataW.trod_struct Try.underlying38 hn
  rw [Try.cellsLSession] at hl
  obtain ⟨l⟩ := cs
  replace hl : l.length = 9 := hl
  obtain ⟨k0, k1, k2, k3, k4, k5, k6, k7, k8, rfl⟩ := len9 hl
  obtain ⟨_, f0⟩ := field_at hf hyl 0 _ rfl 32 0 2 rfl rfl Try.cellsLGraph
  obtain ⟨_, f1⟩ := field_at hf hyl 1 _ rfl 9 2 1 rfl rfl Try.cellsStr
  obtain ⟨_, f2⟩ := field_at hf hyl 2 _ rfl 36 3 5 rfl rfl Try.cellsLCompiled
  obtain ⟨_, f3⟩ := field_at hf hyl 3 _ rfl 4 8 1 rfl rfl Try.cellsBool
  obtain ⟨g, A0, c0, e0, r0, o0⟩ := open_lgraphT f0
  obtain ⟨t, e1, _, o1⟩ := DataW.trod_string Try.underlying9 f1
  obtain ⟨c, A1, A2, A3, c1, c2, c3, e2, r1, r2, r3, o2⟩ := open_lcompiledT f2
  obtain ⟨b, e3, _⟩ := DataW.trod_bool Try.underlying4 f3
  replace e0 : [k0, k1] = _ := e0
  replace e1 : [k2] = _ := e1
  replace e2 : [k3, k4, k5, k6, k7] = _ := e2
  replace e3 : [k8] = _ := e3
  injection e0 with e00 e0
  injection e0 with e01
  injection e1 with e1
  injection e2 with e20 e2
  injection e2 with e21 e2
  injection e2 with e22 e2
  injection e2 with e23 e2
  injection e2 with e24
  injection e3 with e3
  subst e00 e01 e1 e20 e21 e22 e23 e24 e3
  exact ⟨⟨g, t, c, b⟩, ⟨A0, A1, A2, A3, c0, c1, c2, c3, rfl, r0, r1, r2, r3⟩, o0, o1, o2⟩
set_option maxRecDepth 100000 in
set_option maxHeartbeats 1000000 in
theorem szSession_any (v : Value) (x : Ss) (l : Int) (w : World) (h : SsAt w w.heap.size v x) (hl : 0 ≤ l) (hl2 : l ≤ 1048576) (hn : x.ok) :
    Calls Try.prog 19 #[v, .int .i64 l] w fun e w' => e = .returned (.int .i64 (szF l x.tot)) ∧ Ext w w' := by
  obtain ⟨A0, A1, A2, A3, c0, c1, c2, c3, rfl, h0, h1, h2, h3⟩ := h
  obtain ⟨hg, ht, hc⟩ := hn
  have hT : x.tot = x.g.es.length + x.t.size + (x.c.ops.length + x.c.st.length + x.c.fin.length) := rfl
  have HT := Lib.hid hT
  clear hT
  unfold maxLen at ht
  go_enter Try.func19, Try.ntmps19
  go_wp2_with fail
  refine (szGraph_any _ x.g l _ ⟨A0, c0, rfl, h0.ext (by repeat (first | exact Ext.refl _ | assumption | refine Ext.alloc ?_ _ | refine Ext.drewN ?_ _ | refine Ext.drew ?_))⟩ hl hl2 hg.2.1).mono ?_
  rintro e w1 ⟨rfl, hy1⟩
  have bx : Blk w1 w.heap.size 38 #[.int .i64 x.g.n, .slice A0 x.g.es.length c0, .string x.t, .int .i64 x.c.n, .int .i64 x.c.bits, .slice A1 x.c.ops.length c1, .slice A2 x.c.st.length c2, .slice A3 x.c.fin.length c3, .bool x.h] := (Blk.new w _ _).ext hy1
  have hx1 : Ext w w1 := Ext.trans (by repeat (first | exact Ext.refl _ | assumption | refine Ext.alloc ?_ _ | refine Ext.drewN ?_ _ | refine Ext.drew ?_)) hy1
  by_cases g1 : l < x.g.es.length
  · have HF := Lib.hid (show szF l x.tot = -1 from szF_lt (by rw [HT.out]; omega))
    rw [szF_lt g1]
    go_wp2
    go_ret
    exact ⟨ret_int HF.out.symm, hx1⟩
  rw [szF_ge g1]
  have k2 : w1.cell? ⟨w.heap.size, 2, none⟩ = some (.string x.t) := bx.cell 2
  have k3 : w1.cell? ⟨w.heap.size, 3, none⟩ = some (.int .i64 x.c.n) := bx.cell 3
  have k4 : w1.cell? ⟨w.heap.size, 4, none⟩ = some (.int .i64 x.c.bits) := bx.cell 4
  have k5 : w1.cell? ⟨w.heap.size, 5, none⟩ = some (.slice A1 x.c.ops.length c1) := bx.cell 5
  have k6 : w1.cell? ⟨w.heap.size, 6, none⟩ = some (.slice A2 x.c.st.length c2) := bx.cell 6
  have k7 : w1.cell? ⟨w.heap.size, 7, none⟩ = some (.slice A3 x.c.fin.length c3) := bx.cell 7
  by_cases g2 : l - x.g.es.length < x.t.size
  · have HF := Lib.hid (show szF l x.tot = -1 from szF_lt (by rw [HT.out]; omega))
    go_wp2
    go_ret
    exact ⟨ret_int HF.out.symm, hx1⟩
  go_wp2_with fail
  refine (szCompiled_any _ x.c (l - x.g.es.length - x.t.size) _ ⟨A1, A2, A3, c1, c2, c3, rfl, h1.ext hx1, h2.ext hx1, h3.ext hx1⟩ (by omega) (by omega) hc).mono ?_
  rintro e w2 ⟨rfl, hy2⟩
  by_cases g3 : l - x.g.es.length - x.t.size < (x.c.ops.length + x.c.st.length + x.c.fin.length : Nat)
  · have HF := Lib.hid (show szF l x.tot = -1 from szF_lt (by rw [HT.out]; omega))
    rw [szF_lt g3]
    go_wp2
    go_ret
    exact ⟨ret_int HF.out.symm, hx1.trans hy2⟩
  have HF : Hid (szF l x.tot = l - x.g.es.length - x.t.size - (x.c.ops.length + x.c.st.length + x.c.fin.length : Nat)) := by unfold Hid; rw [szF_ge (by rw [HT.out]; omega), HT.out]; omega
  rw [szF_ge g3]
  go_wp2
  go_ret
  exact ⟨ret_int HF.out.symm, hx1.trans hy2⟩
theorem Try.sizeSess : (Try.prog.info? 48).map (·.size) = some 9 := by kernel_rfl
theorem Blk.set9 {w : World} {q t : Nat} {z0 z1 z2 z3 z4 z5 z6 z7 z8 : Value} (h : Blk w q t #[z0, z1, z2, z3, z4, z5, z6, z7, z8]) (u0 u1 u2 u3 u4 u5 u6 u7 u8 : Value) : Blk (((((((((w.setCell ⟨q, 0, none⟩ u0).setCell ⟨q, 1, none⟩ u1).setCell ⟨q, 2, none⟩ u2).setCell ⟨q, 3, none⟩ u3).setCell ⟨q, 4, none⟩ u4).setCell ⟨q, 5, none⟩ u5).setCell ⟨q, 6, none⟩ u6).setCell ⟨q, 7, none⟩ u7).setCell ⟨q, 8, none⟩ u8) q t #[u0, u1, u2, u3, u4, u5, u6, u7, u8] := by
  have h0 : Blk _ q t #[u0, z1, z2, z3, z4, z5, z6, z7, z8] := h.set_ 0 u0
  have h1 : Blk _ q t #[u0, u1, z2, z3, z4, z5, z6, z7, z8] := h0.set_ 1 u1
  have h2 : Blk _ q t #[u0, u1, u2, z3, z4, z5, z6, z7, z8] := h1.set_ 2 u2
  have h3 : Blk _ q t #[u0, u1, u2, u3, z4, z5, z6, z7, z8] := h2.set_ 3 u3
  have h4 : Blk _ q t #[u0, u1, u2, u3, u4, z5, z6, z7, z8] := h3.set_ 4 u4
  have h5 : Blk _ q t #[u0, u1, u2, u3, u4, u5, z6, z7, z8] := h4.set_ 5 u5
  have h6 : Blk _ q t #[u0, u1, u2, u3, u4, u5, u6, z7, z8] := h5.set_ 6 u6
  have h7 : Blk _ q t #[u0, u1, u2, u3, u4, u5, u6, u7, z8] := h6.set_ 7 u7
  have h8 : Blk _ q t #[u0, u1, u2, u3, u4, u5, u6, u7, u8] := h7.set_ 8 u8
  exact h8
theorem ret9 {fn : Func} {p : Tmp} (hf : fn.results = #[.cell p 48]) {w : World} {q : Nat} {z0 z1 z2 z3 z4 z5 z6 z7 z8 : Value} (hB : Blk w q 48 #[z0, z1, z2, z3, z4, z5, z6, z7, z8]) (u0 u1 u2 u3 u4 u5 u6 u7 u8 : Value) (tmps : Array Value) (hp : tmps.getD p undef = .pointer (some ⟨q, 0, none⟩)) : (results fn tmps).run Try.prog (((((((((w.setCell ⟨q, 0, none⟩ u0).setCell ⟨q, 1, none⟩ u1).setCell ⟨q, 2, none⟩ u2).setCell ⟨q, 3, none⟩ u3).setCell ⟨q, 4, none⟩ u4).setCell ⟨q, 5, none⟩ u5).setCell ⟨q, 6, none⟩ u6).setCell ⟨q, 7, none⟩ u7).setCell ⟨q, 8, none⟩ u8) = .ok (.agg #[u0, u1, u2, u3, u4, u5, u6, u7, u8]) (((((((((w.setCell ⟨q, 0, none⟩ u0).setCell ⟨q, 1, none⟩ u1).setCell ⟨q, 2, none⟩ u2).setCell ⟨q, 3, none⟩ u3).setCell ⟨q, 4, none⟩ u4).setCell ⟨q, 5, none⟩ u5).setCell ⟨q, 6, none⟩ u6).setCell ⟨q, 7, none⟩ u7).setCell ⟨q, 8, none⟩ u8) :=
  results_cell_row hf tmps _ q 48 _ (0, 0) _ hp (hB.set9 u0 u1 u2 u3 u4 u5 u6 u7 u8) Try.underlying48 rfl Try.sizeSess
def Ss.small (x : Ss) : Prop := x.g.small ∧ x.c.small
set_option maxRecDepth 100000 in
set_option maxHeartbeats 4000000 in
theorem toSession_any (v : Value) (x : Ss) (w : World) (h : SsAt w w.heap.size v x) (hs : x.small) :
    Calls Try.prog 21 #[v] w fun e w' => ∃ v', e = .returned v' ∧ SsAt w' w'.heap.size v' x ∧ Ext w w' := by
  obtain ⟨A0, A1, A2, A3, c0, c1, c2, c3, rfl, h0, h1, h2, h3⟩ := h
  obtain ⟨s0, s1⟩ := hs
  go_enter Try.func21, Try.ntmps21
  go_wp2_with fail
  refine (toGraph_own _ x.g _ ⟨A0, c0, rfl, h0.ext (by repeat (first | exact Ext.refl _ | assumption | refine Ext.alloc ?_ _ | refine Ext.drewN ?_ _ | refine Ext.drew ?_))⟩ s0).mono ?_
  rintro e w1 ⟨v1, b1, rfl, ⟨B0, d0, rfl, ho0, _⟩, _, hx⟩
  have bx : Blk w1 w.heap.size 38 #[.int .i64 x.g.n, .slice A0 x.g.es.length c0, .string x.t, .int .i64 x.c.n, .int .i64 x.c.bits, .slice A1 x.c.ops.length c1, .slice A2 x.c.st.length c2, .slice A3 x.c.fin.length c3, .bool x.h] := (((Blk.new w _ _).alloc _).alloc _).ext hx
  have br : Blk w1 (w.heap.size + 1) 48 _ := ((Blk.newAt (b := w.heap.size + 1) (by first | omega | (simp; done) | (simp; omega))).alloc _).ext hx
  have bo : Blk w1 (w.heap.size + 1 + 1) 48 _ := (Blk.newAt (b := w.heap.size + 1 + 1) (by first | omega | (simp; done) | (simp; omega))).ext hx
  have hy : Ext w w1 := Ext.trans (by repeat (first | exact Ext.refl _ | assumption | refine Ext.alloc ?_ _ | refine Ext.drewN ?_ _ | refine Ext.drew ?_)) hx
  replace ho0 := own_base (base' := w.heap.size + 3) ho0 (by first | omega | (simp; done) | (simp; omega))
  have hz1 := hx.size
  simp at hz1
  clear hx
  have p2 : w1.cell? ⟨w.heap.size, 2, none⟩ = some (.string x.t) := bx.cell 2
  have p3 : w1.cell? ⟨w.heap.size, 3, none⟩ = some (.int .i64 x.c.n) := bx.cell 3
  have p4 : w1.cell? ⟨w.heap.size, 4, none⟩ = some (.int .i64 x.c.bits) := bx.cell 4
  have p5 : w1.cell? ⟨w.heap.size, 5, none⟩ = some (.slice A1 x.c.ops.length c1) := bx.cell 5
  have p6 : w1.cell? ⟨w.heap.size, 6, none⟩ = some (.slice A2 x.c.st.length c2) := bx.cell 6
  have p7 : w1.cell? ⟨w.heap.size, 7, none⟩ = some (.slice A3 x.c.fin.length c3) := bx.cell 7
  obtain ⟨y0, q0⟩ : ∃ z, w1.cell? ⟨w.heap.size + 1 + 1, 0, none⟩ = some z := ⟨_, bo.cell 0⟩
  have f0 : w1.frozen? ⟨w.heap.size + 1 + 1, 0, none⟩ = false := bo.frozen 0
  obtain ⟨y1, q1⟩ : ∃ z, w1.cell? ⟨w.heap.size + 1 + 1, 1, none⟩ = some z := ⟨_, bo.cell 1⟩
  have f1 : w1.frozen? ⟨w.heap.size + 1 + 1, 1, none⟩ = false := bo.frozen 1
  obtain ⟨y2, q2⟩ : ∃ z, w1.cell? ⟨w.heap.size + 1 + 1, 2, none⟩ = some z := ⟨_, bo.cell 2⟩
  have f2 : w1.frozen? ⟨w.heap.size + 1 + 1, 2, none⟩ = false := bo.frozen 2
  go_wp2_with fail
  replace hy := hy.setCell (p := ⟨w.heap.size + 1 + 1, 0, none⟩) (by first | omega | (simp; done) | (simp; omega)) (.int .i64 x.g.n)
  replace hy := hy.setCell (p := ⟨w.heap.size + 1 + 1, 1, none⟩) (by first | omega | (simp; done) | (simp; omega)) (.slice B0 x.g.es.length d0)
  replace hy := hy.setCell (p := ⟨w.heap.size + 1 + 1, 2, none⟩) (by first | omega | (simp; done) | (simp; omega)) (.string x.t)
  replace bx := bx.far (p := ⟨w.heap.size + 1 + 1, 0, none⟩) (by first | omega | (simp; done) | (simp; omega)) (.int .i64 x.g.n)
  replace bx := bx.far (p := ⟨w.heap.size + 1 + 1, 1, none⟩) (by first | omega | (simp; done) | (simp; omega)) (.slice B0 x.g.es.length d0)
  replace bx := bx.far (p := ⟨w.heap.size + 1 + 1, 2, none⟩) (by first | omega | (simp; done) | (simp; omega)) (.string x.t)
  replace br := br.far (p := ⟨w.heap.size + 1 + 1, 0, none⟩) (by first | omega | (simp; done) | (simp; omega)) (.int .i64 x.g.n)
  replace br := br.far (p := ⟨w.heap.size + 1 + 1, 1, none⟩) (by first | omega | (simp; done) | (simp; omega)) (.slice B0 x.g.es.length d0)
  replace br := br.far (p := ⟨w.heap.size + 1 + 1, 2, none⟩) (by first | omega | (simp; done) | (simp; omega)) (.string x.t)
  replace bo := bo.set_ 0 (.int .i64 x.g.n)
  replace bo := bo.set_ 1 (.slice B0 x.g.es.length d0)
  replace bo := bo.set_ 2 (.string x.t)
  replace ho0 := own_set ho0 (p := ⟨w.heap.size + 1 + 1, 0, none⟩) (by first | omega | (simp; done) | (simp; omega)) (.int .i64 x.g.n)
  replace ho0 := own_set ho0 (p := ⟨w.heap.size + 1 + 1, 1, none⟩) (by first | omega | (simp; done) | (simp; omega)) (.slice B0 x.g.es.length d0)
  replace ho0 := own_set ho0 (p := ⟨w.heap.size + 1 + 1, 2, none⟩) (by first | omega | (simp; done) | (simp; omega)) (.string x.t)
  have hsz : (((w1.setCell ⟨w.heap.size + 1 + 1, 0, none⟩ (.int .i64 x.g.n)).setCell ⟨w.heap.size + 1 + 1, 1, none⟩ (.slice B0 x.g.es.length d0)).setCell ⟨w.heap.size + 1 + 1, 2, none⟩ (.string x.t)).heap.size = w1.heap.size := by simp [World.setCell]
  clear p2 p3 p4 p5 p6 p7 q0 q1 q2 f0 f1 f2
  generalize (((w1.setCell ⟨w.heap.size + 1 + 1, 0, none⟩ (.int .i64 x.g.n)).setCell ⟨w.heap.size + 1 + 1, 1, none⟩ (.slice B0 x.g.es.length d0)).setCell ⟨w.heap.size + 1 + 1, 2, none⟩ (.string x.t)) = W2 at *
  refine (toCompiled_own _ x.c _ ⟨A1, A2, A3, c1, c2, c3, rfl, h1.ext hy, h2.ext hy, h3.ext hy⟩ s1).mono ?_
  rintro e w3 ⟨v3, b3, b4, b5, rfl, ⟨B1, B2, B3, d1, d2, d3, rfl, ho1, _, ho2, _, ho3, _⟩, hbb, hx⟩
  replace bx := bx.ext hx
  replace br := br.ext hx
  replace bo := bo.ext hx
  replace hy := hy.trans hx
  replace ho0 := own_ext ho0 hx
  rw [hsz] at ho1 hbb
  have hz3 := hx.size
  rw [hsz] at hz3
  replace ho1 := own_base (base' := w.heap.size + 3) ho1 (by omega)
  replace ho2 := own_base (base' := w.heap.size + 3) ho2 (by omega)
  replace ho3 := own_base (base' := w.heap.size + 3) ho3 (by omega)
  clear hx hsz
  have p8 : w3.cell? ⟨w.heap.size, 8, none⟩ = some (.bool x.h) := bx.cell 8
  obtain ⟨y3, q3⟩ : ∃ z, w3.cell? ⟨w.heap.size + 1 + 1, 3, none⟩ = some z := ⟨_, bo.cell 3⟩
  have f3 : w3.frozen? ⟨w.heap.size + 1 + 1, 3, none⟩ = false := bo.frozen 3
  obtain ⟨y4, q4⟩ : ∃ z, w3.cell? ⟨w.heap.size + 1 + 1, 4, none⟩ = some z := ⟨_, bo.cell 4⟩
  have f4 : w3.frozen? ⟨w.heap.size + 1 + 1, 4, none⟩ = false := bo.frozen 4
  obtain ⟨y5, q5⟩ : ∃ z, w3.cell? ⟨w.heap.size + 1 + 1, 5, none⟩ = some z := ⟨_, bo.cell 5⟩
  have f5 : w3.frozen? ⟨w.heap.size + 1 + 1, 5, none⟩ = false := bo.frozen 5
  obtain ⟨y6, q6⟩ : ∃ z, w3.cell? ⟨w.heap.size + 1 + 1, 6, none⟩ = some z := ⟨_, bo.cell 6⟩
  have f6 : w3.frozen? ⟨w.heap.size + 1 + 1, 6, none⟩ = false := bo.frozen 6
  obtain ⟨y7, q7⟩ : ∃ z, w3.cell? ⟨w.heap.size + 1 + 1, 7, none⟩ = some z := ⟨_, bo.cell 7⟩
  have f7 : w3.frozen? ⟨w.heap.size + 1 + 1, 7, none⟩ = false := bo.frozen 7
  obtain ⟨y8, q8⟩ : ∃ z, w3.cell? ⟨w.heap.size + 1 + 1, 8, none⟩ = some z := ⟨_, bo.cell 8⟩
  have f8 : w3.frozen? ⟨w.heap.size + 1 + 1, 8, none⟩ = false := bo.frozen 8
  go_upto_region 6 with (fail)
  replace hy := hy.setCell (p := ⟨w.heap.size + 1 + 1, 3, none⟩) (by first | omega | (simp; done) | (simp; omega)) (.int .i64 x.c.n)
  replace hy := hy.setCell (p := ⟨w.heap.size + 1 + 1, 4, none⟩) (by first | omega | (simp; done) | (simp; omega)) (.int .i64 x.c.bits)
  replace hy := hy.setCell (p := ⟨w.heap.size + 1 + 1, 5, none⟩) (by first | omega | (simp; done) | (simp; omega)) (.slice B1 x.c.ops.length d1)
  replace hy := hy.setCell (p := ⟨w.heap.size + 1 + 1, 6, none⟩) (by first | omega | (simp; done) | (simp; omega)) (.slice B2 x.c.st.length d2)
  replace hy := hy.setCell (p := ⟨w.heap.size + 1 + 1, 7, none⟩) (by first | omega | (simp; done) | (simp; omega)) (.slice B3 x.c.fin.length d3)
  replace hy := hy.setCell (p := ⟨w.heap.size + 1 + 1, 8, none⟩) (by first | omega | (simp; done) | (simp; omega)) (.bool x.h)
  replace br := br.far (p := ⟨w.heap.size + 1 + 1, 3, none⟩) (by first | omega | (simp; done) | (simp; omega)) (.int .i64 x.c.n)
  replace br := br.far (p := ⟨w.heap.size + 1 + 1, 4, none⟩) (by first | omega | (simp; done) | (simp; omega)) (.int .i64 x.c.bits)
  replace br := br.far (p := ⟨w.heap.size + 1 + 1, 5, none⟩) (by first | omega | (simp; done) | (simp; omega)) (.slice B1 x.c.ops.length d1)
  replace br := br.far (p := ⟨w.heap.size + 1 + 1, 6, none⟩) (by first | omega | (simp; done) | (simp; omega)) (.slice B2 x.c.st.length d2)
  replace br := br.far (p := ⟨w.heap.size + 1 + 1, 7, none⟩) (by first | omega | (simp; done) | (simp; omega)) (.slice B3 x.c.fin.length d3)
  replace br := br.far (p := ⟨w.heap.size + 1 + 1, 8, none⟩) (by first | omega | (simp; done) | (simp; omega)) (.bool x.h)
  replace bo := bo.set_ 3 (.int .i64 x.c.n)
  replace bo := bo.set_ 4 (.int .i64 x.c.bits)
  replace bo := bo.set_ 5 (.slice B1 x.c.ops.length d1)
  replace bo := bo.set_ 6 (.slice B2 x.c.st.length d2)
  replace bo := bo.set_ 7 (.slice B3 x.c.fin.length d3)
  replace bo := bo.set_ 8 (.bool x.h)
  replace ho0 := own_set ho0 (p := ⟨w.heap.size + 1 + 1, 3, none⟩) (by first | omega | (simp; done) | (simp; omega)) (.int .i64 x.c.n)
  replace ho0 := own_set ho0 (p := ⟨w.heap.size + 1 + 1, 4, none⟩) (by first | omega | (simp; done) | (simp; omega)) (.int .i64 x.c.bits)
  replace ho0 := own_set ho0 (p := ⟨w.heap.size + 1 + 1, 5, none⟩) (by first | omega | (simp; done) | (simp; omega)) (.slice B1 x.c.ops.length d1)
  replace ho0 := own_set ho0 (p := ⟨w.heap.size + 1 + 1, 6, none⟩) (by first | omega | (simp; done) | (simp; omega)) (.slice B2 x.c.st.length d2)
  replace ho0 := own_set ho0 (p := ⟨w.heap.size + 1 + 1, 7, none⟩) (by first | omega | (simp; done) | (simp; omega)) (.slice B3 x.c.fin.length d3)
  replace ho0 := own_set ho0 (p := ⟨w.heap.size + 1 + 1, 8, none⟩) (by first | omega | (simp; done) | (simp; omega)) (.bool x.h)
  replace ho1 := own_set ho1 (p := ⟨w.heap.size + 1 + 1, 3, none⟩) (by first | omega | (simp; done) | (simp; omega)) (.int .i64 x.c.n)
  replace ho1 := own_set ho1 (p := ⟨w.heap.size + 1 + 1, 4, none⟩) (by first | omega | (simp; done) | (simp; omega)) (.int .i64 x.c.bits)
  replace ho1 := own_set ho1 (p := ⟨w.heap.size + 1 + 1, 5, none⟩) (by first | omega | (simp; done) | (simp; omega)) (.slice B1 x.c.ops.length d1)
  replace ho1 := own_set ho1 (p := ⟨w.heap.size + 1 + 1, 6, none⟩) (by first | omega | (simp; done) | (simp; omega)) (.slice B2 x.c.st.length d2)
  replace ho1 := own_set ho1 (p := ⟨w.heap.size + 1 + 1, 7, none⟩) (by first | omega | (simp; done) | (simp; omega)) (.slice B3 x.c.fin.length d3)
  replace ho1 := own_set ho1 (p := ⟨w.heap.size + 1 + 1, 8, none⟩) (by first | omega | (simp; done) | (simp; omega)) (.bool x.h)
  replace ho2 := own_set ho2 (p := ⟨w.heap.size + 1 + 1, 3, none⟩) (by first | omega | (simp; done) | (simp; omega)) (.int .i64 x.c.n)
  replace ho2 := own_set ho2 (p := ⟨w.heap.size + 1 + 1, 4, none⟩) (by first | omega | (simp; done) | (simp; omega)) (.int .i64 x.c.bits)
  replace ho2 := own_set ho2 (p := ⟨w.heap.size + 1 + 1, 5, none⟩) (by first | omega | (simp; done) | (simp; omega)) (.slice B1 x.c.ops.length d1)
  replace ho2 := own_set ho2 (p := ⟨w.heap.size + 1 + 1, 6, none⟩) (by first | omega | (simp; done) | (simp; omega)) (.slice B2 x.c.st.length d2)
  replace ho2 := own_set ho2 (p := ⟨w.heap.size + 1 + 1, 7, none⟩) (by first | omega | (simp; done) | (simp; omega)) (.slice B3 x.c.fin.length d3)
  replace ho2 := own_set ho2 (p := ⟨w.heap.size + 1 + 1, 8, none⟩) (by first | omega | (simp; done) | (simp; omega)) (.bool x.h)
  replace ho3 := own_set ho3 (p := ⟨w.heap.size + 1 + 1, 3, none⟩) (by first | omega | (simp; done) | (simp; omega)) (.int .i64 x.c.n)
  replace ho3 := own_set ho3 (p := ⟨w.heap.size + 1 + 1, 4, none⟩) (by first | omega | (simp; done) | (simp; omega)) (.int .i64 x.c.bits)
  replace ho3 := own_set ho3 (p := ⟨w.heap.size + 1 + 1, 5, none⟩) (by first | omega | (simp; done) | (simp; omega)) (.slice B1 x.c.ops.length d1)
  replace ho3 := own_set ho3 (p := ⟨w.heap.size + 1 + 1, 6, none⟩) (by first | omega | (simp; done) | (simp; omega)) (.slice B2 x.c.st.length d2)
  replace ho3 := own_set ho3 (p := ⟨w.heap.size + 1 + 1, 7, none⟩) (by first | omega | (simp; done) | (simp; omega)) (.slice B3 x.c.fin.length d3)
  replace ho3 := own_set ho3 (p := ⟨w.heap.size + 1 + 1, 8, none⟩) (by first | omega | (simp; done) | (simp; omega)) (.bool x.h)
  have hsz : ((((((w3.setCell ⟨w.heap.size + 1 + 1, 3, none⟩ (.int .i64 x.c.n)).setCell ⟨w.heap.size + 1 + 1, 4, none⟩ (.int .i64 x.c.bits)).setCell ⟨w.heap.size + 1 + 1, 5, none⟩ (.slice B1 x.c.ops.length d1)).setCell ⟨w.heap.size + 1 + 1, 6, none⟩ (.slice B2 x.c.st.length d2)).setCell ⟨w.heap.size + 1 + 1, 7, none⟩ (.slice B3 x.c.fin.length d3)).setCell ⟨w.heap.size + 1 + 1, 8, none⟩ (.bool x.h)).heap.size = w3.heap.size := by simp [World.setCell]
  clear p8 q3 f3 q4 f4 q5 f5 q6 f6 q7 f7 q8 f8
  generalize ((((((w3.setCell ⟨w.heap.size + 1 + 1, 3, none⟩ (.int .i64 x.c.n)).setCell ⟨w.heap.size + 1 + 1, 4, none⟩ (.int .i64 x.c.bits)).setCell ⟨w.heap.size + 1 + 1, 5, none⟩ (.slice B1 x.c.ops.length d1)).setCell ⟨w.heap.size + 1 + 1, 6, none⟩ (.slice B2 x.c.st.length d2)).setCell ⟨w.heap.size + 1 + 1, 7, none⟩ (.slice B3 x.c.fin.length d3)).setCell ⟨w.heap.size + 1 + 1, 8, none⟩ (.bool x.h)) = W at *
  replace bo : Blk W (w.heap.size + 1 + 1) 48 #[.int .i64 x.g.n, .slice B0 x.g.es.length d0, .string x.t, .int .i64 x.c.n, .int .i64 x.c.bits, .slice B1 x.c.ops.length d1, .slice B2 x.c.st.length d2, .slice B3 x.c.fin.length d3, .bool x.h] := bo
  have e0 : W.cell? ⟨w.heap.size + 1 + 1, 0, none⟩ = some (.int .i64 x.g.n) := bo.cell 0
  obtain ⟨z0, t0⟩ : ∃ z, W.cell? ⟨w.heap.size + 1, 0, none⟩ = some z := ⟨_, br.cell 0⟩
  have k0 : W.frozen? ⟨w.heap.size + 1, 0, none⟩ = false := br.frozen 0
  have e1 : W.cell? ⟨w.heap.size + 1 + 1, 1, none⟩ = some (.slice B0 x.g.es.length d0) := bo.cell 1
  obtain ⟨z1, t1⟩ : ∃ z, W.cell? ⟨w.heap.size + 1, 1, none⟩ = some z := ⟨_, br.cell 1⟩
  have k1 : W.frozen? ⟨w.heap.size + 1, 1, none⟩ = false := br.frozen 1
  have e2 : W.cell? ⟨w.heap.size + 1 + 1, 2, none⟩ = some (.string x.t) := bo.cell 2
  obtain ⟨z2, t2⟩ : ∃ z, W.cell? ⟨w.heap.size + 1, 2, none⟩ = some z := ⟨_, br.cell 2⟩
  have k2 : W.frozen? ⟨w.heap.size + 1, 2, none⟩ = false := br.frozen 2
  have e3 : W.cell? ⟨w.heap.size + 1 + 1, 3, none⟩ = some (.int .i64 x.c.n) := bo.cell 3
  obtain ⟨z3, t3⟩ : ∃ z, W.cell? ⟨w.heap.size + 1, 3, none⟩ = some z := ⟨_, br.cell 3⟩
  have k3 : W.frozen? ⟨w.heap.size + 1, 3, none⟩ = false := br.frozen 3
  have e4 : W.cell? ⟨w.heap.size + 1 + 1, 4, none⟩ = some (.int .i64 x.c.bits) := bo.cell 4
  obtain ⟨z4, t4⟩ : ∃ z, W.cell? ⟨w.heap.size + 1, 4, none⟩ = some z := ⟨_, br.cell 4⟩
  have k4 : W.frozen? ⟨w.heap.size + 1, 4, none⟩ = false := br.frozen 4
  have e5 : W.cell? ⟨w.heap.size + 1 + 1, 5, none⟩ = some (.slice B1 x.c.ops.length d1) := bo.cell 5
  obtain ⟨z5, t5⟩ : ∃ z, W.cell? ⟨w.heap.size + 1, 5, none⟩ = some z := ⟨_, br.cell 5⟩
  have k5 : W.frozen? ⟨w.heap.size + 1, 5, none⟩ = false := br.frozen 5
  have e6 : W.cell? ⟨w.heap.size + 1 + 1, 6, none⟩ = some (.slice B2 x.c.st.length d2) := bo.cell 6
  obtain ⟨z6, t6⟩ : ∃ z, W.cell? ⟨w.heap.size + 1, 6, none⟩ = some z := ⟨_, br.cell 6⟩
  have k6 : W.frozen? ⟨w.heap.size + 1, 6, none⟩ = false := br.frozen 6
  have e7 : W.cell? ⟨w.heap.size + 1 + 1, 7, none⟩ = some (.slice B3 x.c.fin.length d3) := bo.cell 7
  obtain ⟨z7, t7⟩ : ∃ z, W.cell? ⟨w.heap.size + 1, 7, none⟩ = some z := ⟨_, br.cell 7⟩
  have k7 : W.frozen? ⟨w.heap.size + 1, 7, none⟩ = false := br.frozen 7
  have e8 : W.cell? ⟨w.heap.size + 1 + 1, 8, none⟩ = some (.bool x.h) := bo.cell 8
  obtain ⟨z8, t8⟩ : ∃ z, W.cell? ⟨w.heap.size + 1, 8, none⟩ = some z := ⟨_, br.cell 8⟩
  have k8 : W.frozen? ⟨w.heap.size + 1, 8, none⟩ = false := br.frozen 8
  go_wp2
  exact bodyPost_ret (v := .agg #[.int .i64 x.g.n, .slice B0 x.g.es.length d0, .string x.t, .int .i64 x.c.n, .int .i64 x.c.bits, .slice B1 x.c.ops.length d1, .slice B2 x.c.st.length d2, .slice B3 x.c.fin.length d3, .bool x.h]) (ret9 rfl br (.int .i64 x.g.n) (.slice B0 x.g.es.length d0) (.string x.t) (.int .i64 x.c.n) (.int .i64 x.c.bits) (.slice B1 x.c.ops.length d1) (.slice B2 x.c.st.length d2) (.slice B3 x.c.fin.length d3) (.bool x.h) _ rfl) rfl ⟨_, rfl, ⟨B0, B1, B2, B3, d0, d1, d2, d3, rfl, Rd.own (own_set (own_set (own_set (own_set (own_set (own_set (own_set (own_set (own_set ho0 (p := ⟨w.heap.size + 1, 0, none⟩) (by first | omega | (simp; done) | (simp; omega)) _) (p := ⟨w.heap.size + 1, 1, none⟩) (by first | omega | (simp; done) | (simp; omega)) _) (p := ⟨w.heap.size + 1, 2, none⟩) (by first | omega | (simp; done) | (simp; omega)) _) (p := ⟨w.heap.size + 1, 3, none⟩) (by first | omega | (simp; done) | (simp; omega)) _) (p := ⟨w.heap.size + 1, 4, none⟩) (by first | omega | (simp; done) | (simp; omega)) _) (p := ⟨w.heap.size + 1, 5, none⟩) (by first | omega | (simp; done) | (simp; omega)) _) (p := ⟨w.heap.size + 1, 6, none⟩) (by first | omega | (simp; done) | (simp; omega)) _) (p := ⟨w.heap.size + 1, 7, none⟩) (by first | omega | (simp; done) | (simp; omega)) _) (p := ⟨w.heap.size + 1, 8, none⟩) (by first | omega | (simp; done) | (simp; omega)) _), Rd.own (own_set (own_set (own_set (own_set (own_set (own_set (own_set (own_set (own_set ho1 (p := ⟨w.heap.size + 1, 0, none⟩) (by first | omega | (simp; done) | (simp; omega)) _) (p := ⟨w.heap.size + 1, 1, none⟩) (by first | omega | (simp; done) | (simp; omega)) _) (p := ⟨w.heap.size + 1, 2, none⟩) (by first | omega | (simp; done) | (simp; omega)) _) (p := ⟨w.heap.size + 1, 3, none⟩) (by first | omega | (simp; done) | (simp; omega)) _) (p := ⟨w.heap.size + 1, 4, none⟩) (by first | omega | (simp; done) | (simp; omega)) _) (p := ⟨w.heap.size + 1, 5, none⟩) (by first | omega | (simp; done) | (simp; omega)) _) (p := ⟨w.heap.size + 1, 6, none⟩) (by first | omega | (simp; done) | (simp; omega)) _) (p := ⟨w.heap.size + 1, 7, none⟩) (by first | omega | (simp; done) | (simp; omega)) _) (p := ⟨w.heap.size + 1, 8, none⟩) (by first | omega | (simp; done) | (simp; omega)) _), Rd.own (own_set (own_set (own_set (own_set (own_set (own_set (own_set (own_set (own_set ho2 (p := ⟨w.heap.size + 1, 0, none⟩) (by first | omega | (simp; done) | (simp; omega)) _) (p := ⟨w.heap.size + 1, 1, none⟩) (by first | omega | (simp; done) | (simp; omega)) _) (p := ⟨w.heap.size + 1, 2, none⟩) (by first | omega | (simp; done) | (simp; omega)) _) (p := ⟨w.heap.size + 1, 3, none⟩) (by first | omega | (simp; done) | (simp; omega)) _) (p := ⟨w.heap.size + 1, 4, none⟩) (by first | omega | (simp; done) | (simp; omega)) _) (p := ⟨w.heap.size + 1, 5, none⟩) (by first | omega | (simp; done) | (simp; omega)) _) (p := ⟨w.heap.size + 1, 6, none⟩) (by first | omega | (simp; done) | (simp; omega)) _) (p := ⟨w.heap.size + 1, 7, none⟩) (by first | omega | (simp; done) | (simp; omega)) _) (p := ⟨w.heap.size + 1, 8, none⟩) (by first | omega | (simp; done) | (simp; omega)) _), Rd.own (own_set (own_set (own_set (own_set (own_set (own_set (own_set (own_set (own_set ho3 (p := ⟨w.heap.size + 1, 0, none⟩) (by first | omega | (simp; done) | (simp; omega)) _) (p := ⟨w.heap.size + 1, 1, none⟩) (by first | omega | (simp; done) | (simp; omega)) _) (p := ⟨w.heap.size + 1, 2, none⟩) (by first | omega | (simp; done) | (simp; omega)) _) (p := ⟨w.heap.size + 1, 3, none⟩) (by first | omega | (simp; done) | (simp; omega)) _) (p := ⟨w.heap.size + 1, 4, none⟩) (by first | omega | (simp; done) | (simp; omega)) _) (p := ⟨w.heap.size + 1, 5, none⟩) (by first | omega | (simp; done) | (simp; omega)) _) (p := ⟨w.heap.size + 1, 6, none⟩) (by first | omega | (simp; done) | (simp; omega)) _) (p := ⟨w.heap.size + 1, 7, none⟩) (by first | omega | (simp; done) | (simp; omega)) _) (p := ⟨w.heap.size + 1, 8, none⟩) (by first | omega | (simp; done) | (simp; omega)) _)⟩, (((((((((hy.setCell (p := ⟨w.heap.size + 1, 0, none⟩) (by first | omega | (simp; done) | (simp; omega)) _).setCell (p := ⟨w.heap.size + 1, 1, none⟩) (by first | omega | (simp; done) | (simp; omega)) _).setCell (p := ⟨w.heap.size + 1, 2, none⟩) (by first | omega | (simp; done) | (simp; omega)) _).setCell (p := ⟨w.heap.size + 1, 3, none⟩) (by first | omega | (simp; done) | (simp; omega)) _).setCell (p := ⟨w.heap.size + 1, 4, none⟩) (by first | omega | (simp; done) | (simp; omega)) _).setCell (p := ⟨w.heap.size + 1, 5, none⟩) (by first | omega | (simp; done) | (simp; omega)) _).setCell (p := ⟨w.heap.size + 1, 6, none⟩) (by first | omega | (simp; done) | (simp; omega)) _).setCell (p := ⟨w.heap.size + 1, 7, none⟩) (by first | omega | (simp; done) | (simp; omega)) _).setCell (p := ⟨w.heap.size + 1, 8, none⟩) (by first | omega | (simp; done) | (simp; omega)) _)⟩
end Go.Proofs.Ytnnenocjmkbocaa
