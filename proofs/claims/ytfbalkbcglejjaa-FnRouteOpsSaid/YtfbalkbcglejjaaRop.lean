/-
  Helper text (no claim of its own): the routing of one gate in a mode, by the program and by the reference. Printed by gen_rop.py.
-/
import Derived.Test.YtfbalkbcglejjaaBr
namespace Go.Proofs.Ytfbalkbcglejjaa
open Go.ChangeShapes Go.WideShapes Go.ChangeAt Go.RowKit Go.Deep
set_option linter.unusedVariables false
/-- The gates in place of g, and the layout behind them. -/
def rop (x : Gr) (mode : Int) (g : Gt) (p : List Int) : List Gt × List Int := if (mode == 1) = true then (brG x p g, p) else routG x g p
theorem rop_1 {x : Gr} {mode : Int} {g : Gt} {p : List Int} (h : (mode == 1) = true) : rop x mode g p = (brG x p g, p) := if_pos h
theorem rop_0 {x : Gr} {mode : Int} {g : Gt} {p : List Int} (h : (mode == 1) = false) : rop x mode g p = routG x g p := if_neg (by simp [h])
theorem rop_len (x : Gr) (mode : Int) (g : Gt) (p : List Int) : (rop x mode g p).1.length ≤ 10 := by
  cases h : (mode == 1)
  · rw [rop_0 h]; have := routG_len x g p; omega
  · rw [rop_1 h]; exact brG_len x p g
theorem rop_way {x : Gr} {mode : Int} {g : Gt} {p : List Int} (hp : perm p = true) : perm (rop x mode g p).2 = true ∧ (rop x mode g p).2.length = p.length := by
  cases h : (mode == 1)
  · rw [rop_0 h]; exact routG_way hp
  · rw [rop_1 h]; exact ⟨hp, rfl⟩
theorem may_lay {g : Gt} {x : Gr} {p : List Int} (h : may g x p = true) : lay x p = true := by
  unfold may at h
  simp only [Bool.and_eq_true] at h
  exact h.1.1
theorem brOk_one {g : Gt} {x : Gr} {p : List Int} (h : may g x p = true) : brOk x p [g] = true ∧ brR x p [g] = brG x p g := by
  have h1 : brOk x p [g] = true := brOk_y (may_lay h) (by simp [mayR, h])
  exact ⟨h1, by rw [brR_yes h1]; simp⟩
/-- What the routing of one gate hands back. -/
def RopE (w : World) (x : Gr) (g : Gt) (p : List Int) (mode : Int) (vp : Value) (e : Ending) (w' : World) : Prop :=
  ∃ v vq, e = .returned (.tuple #[v, vq, .bool (may g x p)]) ∧ Ext w w' ∧ (may g x p = true → ∃ A n c, vq = .slice A n c ∧ n = (rop x mode g p).2.length ∧ n ≤ c ∧ w'.ownsRow w.heap.size 43 4 v (rop x mode g p).1.length (gcells (rop x mode g p).1) ∧ (w'.ownsRow w.heap.size 3 1 (.slice A n c) n (icells (rop x mode g p).2) ∨ (.slice A n c = vp ∧ (rop x mode g p).2 = p)))
theorem RopE.no {w w' : World} {x : Gr} {g : Gt} {p : List Int} {mode : Int} {v vq vp : Value} (h : may g x p = false) (hx : Ext w w') : RopE w x g p mode vp (.returned (.tuple #[v, vq, .bool false])) w' :=
  ⟨v, vq, by rw [h], hx, fun h' => by rw [h] at h'; cases h'⟩
theorem RopE.yes {w w' : World} {x : Gr} {g : Gt} {p : List Int} {mode : Int} {v vp : Value} {A : Option Addr} {n c : Nat} {r : List Gt × List Int} (h : may g x p = true) (hr : rop x mode g p = r) (hx : Ext w w') (hn : n = r.2.length) (hc : n ≤ c) (ho : w'.ownsRow w.heap.size 43 4 v r.1.length (gcells r.1)) (hd : w'.ownsRow w.heap.size 3 1 (.slice A n c) n (icells r.2) ∨ (.slice A n c = vp ∧ r.2 = p)) : RopE w x g p mode vp (.returned (.tuple #[v, .slice A n c, .bool true])) w' :=
  ⟨v, _, by rw [h], hx, fun _ => ⟨A, n, c, rfl, by rw [hr]; exact hn, hc, by rw [hr]; exact ho, by rw [hr]; exact hd⟩⟩

set_option maxRecDepth 100000 in
set_option maxHeartbeats 8000000 in
theorem impl_rop_any (g : Gt) (v : Value) (x : Gr) (A : Option Addr) (n c : Nat) (p : List Int) (mode : Int) (w : World) (hv : GrAt w w.heap.size v x) (hl : x.es.length ≤ 100000000) (hok : ∀ e ∈ x.es, e.ok) (hp : Rd w w.heap.size 1 A n (icells p)) (hn : n ≤ 100000000) (hc : n ≤ c) :
    Calls Try.prog 37 #[g.val, v, .slice A n c, .int .i64 mode] w (RopE w x g p mode (.slice A n c)) := by
  have hlen := Lib.hid (hp.len icell_len (by omega))
  obtain ⟨A1, c1, rfl, h1⟩ := hv
  have HG : Hid (∀ w', Ext w w' → GrAt w' w'.heap.size (.agg #[.int .i64 x.n, .slice A1 x.es.length c1]) x) := fun w' hx => ⟨A1, c1, rfl, h1.ext hx⟩
  have HOK := Lib.hid hok
  clear hok
  clear h1
  have hG0 : Blk ((w.alloc (.cells #[.int .i64 g.k, .int .i64 g.a, .int .i64 g.b, .int .i64 g.c] 43)).alloc (.cells #[.int .i64 x.n, .slice A1 x.es.length c1] 27)) w.heap.size 43 #[.int .i64 g.k, .int .i64 g.a, .int .i64 g.b, .int .i64 g.c] := (Blk.new _ _ _).alloc _
  have hB0 : Blk ((w.alloc (.cells #[.int .i64 g.k, .int .i64 g.a, .int .i64 g.b, .int .i64 g.c] 43)).alloc (.cells #[.int .i64 x.n, .slice A1 x.es.length c1] 27)) (w.heap.size + 1) 27 #[.int .i64 x.n, .slice A1 x.es.length c1] := Blk.newAt (by simp)
  have hX0 : Ext w ((w.alloc (.cells #[.int .i64 g.k, .int .i64 g.a, .int .i64 g.b, .int .i64 g.c] 43)).alloc (.cells #[.int .i64 x.n, .slice A1 x.es.length c1] 27)) := by repeat (first | exact Ext.refl _ | assumption | refine Ext.alloc ?_ _ | refine Ext.drewN ?_ _ | refine Ext.drew ?_)
  have HG0 := Lib.hid hG0
  have HB0 := Lib.hid hB0
  have HX0 := Lib.hid hX0
  clear hB0 hX0 hG0
  go_enter Try.func37, Try.ntmps37
  go_wp2_with fail
  have hG0 := HG0.out
  have hB0 := HB0.out
  have hX0 := HX0.out
  clear HB0 HX0 HG0
  generalize ((w.alloc (.cells #[.int .i64 g.k, .int .i64 g.a, .int .i64 g.b, .int .i64 g.c] 43)).alloc (.cells #[.int .i64 x.n, .slice A1 x.es.length c1] 27)) = Wb at *
  refine (impl_mayRoute_any g _ x A n c p _ (HG.out _ hX0) hl HOK.out (hp.ext hX0) hn).mono ?_
  rintro e w1 ⟨rfl, hx1⟩
  have hG1 := hG0.ext hx1
  have hB1 := hB0.ext hx1
  have hX1 := hX0.trans hx1
  cases hm : may g x p
  · have HM := Lib.hid hm
    clear hm
    go_wp2
    go_ret3
    exact RopE.no HM.out hX1
  have HM := Lib.hid hm
  have HBO := Lib.hid (brOk_one hm)
  clear hm
  have b0 : w1.cell? ⟨w.heap.size, 0, none⟩ = some (.int .i64 g.k) := hG1.cell 0
  have b1 : w1.cell? ⟨w.heap.size, 1, none⟩ = some (.int .i64 g.a) := hG1.cell 1
  have b2 : w1.cell? ⟨w.heap.size, 2, none⟩ = some (.int .i64 g.b) := hG1.cell 2
  have b3 : w1.cell? ⟨w.heap.size, 3, none⟩ = some (.int .i64 g.c) := hG1.cell 3
  have d0 : w1.cell? ⟨w.heap.size + 1, 0, none⟩ = some (.int .i64 x.n) := hB1.cell 0
  have d1 : w1.cell? ⟨w.heap.size + 1, 1, none⟩ = some (.slice A1 x.es.length c1) := hB1.cell 1
  have hzb := hB1.lt
  cases h1 : (mode == 1)
  · have HR := Lib.hid (rop_0 (x := x) (g := g) (p := p) h1)
    go_wp2_with fail
    refine (impl_RouteGate_any g _ x A n c p _ (HG.out _ hX1) hl HOK.out (hp.ext hX1) hn hc).mono ?_
    rintro e w2 ⟨v2, A2, n2, c2, rfl, hn2, hc2, ho2, hq2, hx2⟩
    have HN2 := Lib.hid hn2
    clear hn2
    go_wp2
    go_ret3
    exact RopE.yes HM.out HR.out (hX1.trans hx2) HN2.out hc2 (own_base ho2 hX1.size) (.inl (own_base hq2 hX1.size))
  · have HR := Lib.hid (rop_1 (x := x) (g := g) (p := p) h1)
    have hrow := rd_newN w1 #[.int .i64 g.k, .int .i64 g.a, .int .i64 g.b, .int .i64 g.c] w1.heap.size 43 1 4 (gcells [g]) rfl rfl rfl
    have hX2 := hX1.alloc (.cells #[.int .i64 g.k, .int .i64 g.a, .int .i64 g.b, .int .i64 g.c] 43)
    go_wp2_with fail
    refine (impl_BridgeRoute_any _ 1 1 [g] _ x A n c p _ hrow (by omega) (HG.out _ hX2) hl HOK.out (hp.ext hX2) hn hc).mono ?_
    rintro e w2 ⟨v2, rfl, ho2, hx2⟩
    rw [HBO.out.1]
    rw [HBO.out.2] at ho2
    go_wp2
    go_ret3
    exact RopE.yes HM.out HR.out (hX2.trans hx2) hlen.out.symm hc (own_base ho2 hX2.size) (.inr ⟨rfl, rfl⟩)

set_option maxRecDepth 100000 in
set_option maxHeartbeats 8000000 in
theorem spec_rop_any (g : Gt) (v : Value) (x : Gr) (A : Option Addr) (n c : Nat) (p : List Int) (mode : Int) (w : World) (hv : GrAt w w.heap.size v x) (hl : x.es.length ≤ 100000000) (hp : Rd w w.heap.size 1 A n (icells p)) (hn : n ≤ 100000000) (hc : n ≤ c) :
    Calls Try.prog 43 #[g.val, v, .slice A n c, .int .i64 mode] w (RopE w x g p mode (.slice A n c)) := by
  have hlen := Lib.hid (hp.len icell_len (by omega))
  obtain ⟨A1, c1, rfl, h1⟩ := hv
  have HG : Hid (∀ w', Ext w w' → GrAt w' w'.heap.size (.agg #[.int .i64 x.n, .slice A1 x.es.length c1]) x) := fun w' hx => ⟨A1, c1, rfl, h1.ext hx⟩
  clear h1
  have hG0 : Blk ((w.alloc (.cells #[.int .i64 g.k, .int .i64 g.a, .int .i64 g.b, .int .i64 g.c] 43)).alloc (.cells #[.int .i64 x.n, .slice A1 x.es.length c1] 27)) w.heap.size 43 #[.int .i64 g.k, .int .i64 g.a, .int .i64 g.b, .int .i64 g.c] := (Blk.new _ _ _).alloc _
  have hB0 : Blk ((w.alloc (.cells #[.int .i64 g.k, .int .i64 g.a, .int .i64 g.b, .int .i64 g.c] 43)).alloc (.cells #[.int .i64 x.n, .slice A1 x.es.length c1] 27)) (w.heap.size + 1) 27 #[.int .i64 x.n, .slice A1 x.es.length c1] := Blk.newAt (by simp)
  have hX0 : Ext w ((w.alloc (.cells #[.int .i64 g.k, .int .i64 g.a, .int .i64 g.b, .int .i64 g.c] 43)).alloc (.cells #[.int .i64 x.n, .slice A1 x.es.length c1] 27)) := by repeat (first | exact Ext.refl _ | assumption | refine Ext.alloc ?_ _ | refine Ext.drewN ?_ _ | refine Ext.drew ?_)
  have HG0 := Lib.hid hG0
  have HB0 := Lib.hid hB0
  have HX0 := Lib.hid hX0
  clear hB0 hX0 hG0
  go_enter Try.func43, Try.ntmps43
  go_wp2_with fail
  have hG0 := HG0.out
  have hB0 := HB0.out
  have hX0 := HX0.out
  clear HB0 HX0 HG0
  generalize ((w.alloc (.cells #[.int .i64 g.k, .int .i64 g.a, .int .i64 g.b, .int .i64 g.c] 43)).alloc (.cells #[.int .i64 x.n, .slice A1 x.es.length c1] 27)) = Wb at *
  refine (spec_l38Right_any g _ x A n c p _ (HG.out _ hX0) hl (hp.ext hX0) hn hc).mono ?_
  rintro e w1 ⟨rfl, hx1⟩
  have hG1 := hG0.ext hx1
  have hB1 := hB0.ext hx1
  have hX1 := hX0.trans hx1
  cases hm : may g x p
  · have HM := Lib.hid hm
    clear hm
    go_wp2
    go_ret3
    exact RopE.no HM.out (hX1.alloc _)
  have HM := Lib.hid hm
  have HBO := Lib.hid (brOk_one hm)
  clear hm
  have b0 : w1.cell? ⟨w.heap.size, 0, none⟩ = some (.int .i64 g.k) := hG1.cell 0
  have b1 : w1.cell? ⟨w.heap.size, 1, none⟩ = some (.int .i64 g.a) := hG1.cell 1
  have b2 : w1.cell? ⟨w.heap.size, 2, none⟩ = some (.int .i64 g.b) := hG1.cell 2
  have b3 : w1.cell? ⟨w.heap.size, 3, none⟩ = some (.int .i64 g.c) := hG1.cell 3
  have d0 : w1.cell? ⟨w.heap.size + 1, 0, none⟩ = some (.int .i64 x.n) := hB1.cell 0
  have d1 : w1.cell? ⟨w.heap.size + 1, 1, none⟩ = some (.slice A1 x.es.length c1) := hB1.cell 1
  have hzb := hB1.lt
  cases h1 : (mode == 1)
  · have HR := Lib.hid (rop_0 (x := x) (g := g) (p := p) h1)
    go_wp2_with fail
    refine (spec_RouteGate_any g _ x A n c p _ (HG.out _ hX1) hl (hp.ext hX1) hn hc).mono ?_
    rintro e w2 ⟨v2, A2, n2, c2, rfl, hn2, hc2, ho2, hq2, hx2⟩
    have HN2 := Lib.hid hn2
    clear hn2
    go_wp2
    go_ret3
    exact RopE.yes HM.out HR.out (hX1.trans hx2) HN2.out hc2 (own_base ho2 hX1.size) (.inl (own_base hq2 hX1.size))
  · have HR := Lib.hid (rop_1 (x := x) (g := g) (p := p) h1)
    have hrow := rd_newN w1 #[.int .i64 g.k, .int .i64 g.a, .int .i64 g.b, .int .i64 g.c] w1.heap.size 43 1 4 (gcells [g]) rfl rfl rfl
    have hX2 := hX1.alloc (.cells #[.int .i64 g.k, .int .i64 g.a, .int .i64 g.b, .int .i64 g.c] 43)
    go_wp2_with fail
    refine (spec_BridgeRoute_any _ 1 1 [g] _ x A n c p _ hrow (by omega) (HG.out _ hX2) hl (hp.ext hX2) hn hc).mono ?_
    rintro e w2 ⟨v2, rfl, ho2, hx2⟩
    rw [HBO.out.1]
    rw [HBO.out.2] at ho2
    go_wp2
    go_ret3
    exact RopE.yes HM.out HR.out (hX2.trans hx2) hlen.out.symm hc (own_base ho2 hX2.size) (.inr ⟨rfl, rfl⟩)
end Go.Proofs.Ytfbalkbcglejjaa
