/-
  Helper text (no claim of its own): basic gates, layouts, and whether a gate can be routed, by the program and by the reference.
-/
import Derived.Test.YtfbalkbcglejjaaVgr
import Derived.Test.YtfbalkbcglejjaaPerm
namespace Go.Proofs.Ytfbalkbcglejjaa
open Go.ChangeShapes Go.WideShapes Go.ChangeAt Go.RowKit Go.Deep
/-- A basic gate: on one qubit, or a CX. -/
def bas (g : Gt) : Bool := ar g.k == 1 || g.k == 9
set_option maxRecDepth 100000 in
set_option maxHeartbeats 1000000 in
theorem impl_IsBasicGate_any (g : Gt) (w : World) : Calls Try.prog 75 #[g.val] w fun e w' => e = .returned (.bool (bas g)) ∧ Ext w w' := by
  go_enter Try.func75, Try.ntmps75
  go_wp2_with fail
  refine (impl_Arity_any _ _).mono ?_
  rintro e w1 ⟨rfl, rfl⟩
  cases h : (ar g.k == 1)
  · have HF : Hid (bas g = (g.k == 9)) := by unfold Hid bas; rw [h, Bool.false_or]
    go_wp2
    go_ret
    exact ⟨ret_bool HF.out.symm, (by repeat (first | exact Ext.refl _ | assumption | refine Ext.alloc ?_ _ | refine Ext.drewN ?_ _ | refine Ext.drew ?_))⟩
  · have HF : Hid (bas g = true) := by unfold Hid bas; rw [h, Bool.true_or]
    go_wp2
    go_ret
    exact ⟨ret_bool HF.out.symm, (by repeat (first | exact Ext.refl _ | assumption | refine Ext.alloc ?_ _ | refine Ext.drewN ?_ _ | refine Ext.drew ?_))⟩
set_option maxRecDepth 100000 in
set_option maxHeartbeats 1000000 in
theorem spec_IsBasicGate_any (g : Gt) (w : World) : Calls Try.prog 81 #[g.val] w fun e w' => e = .returned (.bool (bas g)) ∧ Ext w w' := by
  go_enter Try.func81, Try.ntmps81
  go_wp2_with fail
  refine (spec_Arity_any _ _).mono ?_
  rintro e w1 ⟨rfl, rfl⟩
  cases h : (ar g.k == 1)
  · have HF : Hid (bas g = (g.k == 9)) := by unfold Hid bas; rw [h, Bool.false_or]
    go_wp2
    go_ret
    exact ⟨ret_bool HF.out.symm, (by repeat (first | exact Ext.refl _ | assumption | refine Ext.alloc ?_ _ | refine Ext.drewN ?_ _ | refine Ext.drew ?_))⟩
  · have HF : Hid (bas g = true) := by unfold Hid bas; rw [h, Bool.true_or]
    go_wp2
    go_ret
    exact ⟨ret_bool HF.out.symm, (by repeat (first | exact Ext.refl _ | assumption | refine Ext.alloc ?_ _ | refine Ext.drewN ?_ _ | refine Ext.drew ?_))⟩
/-- Is p a layout for the graph x? -/
def lay (x : Gr) (p : List Int) : Bool := vgraph x && perm p && ((p.length : Int) == x.n)
/-- Can gate g be routed on graph x with layout p? -/
def may (g : Gt) (x : Gr) (p : List Int) : Bool := lay x p && bas g && vg g x.n
theorem lay_v {x : Gr} {p : List Int} (h : vgraph x = false) : lay x p = false := by unfold lay; rw [h]; rfl
theorem lay_p {x : Gr} {p : List Int} (h : perm p = false) : lay x p = false := by unfold lay; rw [h]; simp
theorem lay_e {x : Gr} {p : List Int} (h : vgraph x = true) (h' : perm p = true) : lay x p = ((p.length : Int) == x.n) := by unfold lay; rw [h, h']; rfl
theorem may_l {g : Gt} {x : Gr} {p : List Int} (h : lay x p = false) : may g x p = false := by unfold may; rw [h]; rfl
theorem may_b {g : Gt} {x : Gr} {p : List Int} (h : bas g = false) : may g x p = false := by unfold may; rw [h]; simp
theorem may_v {g : Gt} {x : Gr} {p : List Int} (h : vg g x.n = false) : may g x p = false := by unfold may; rw [h]; simp
theorem may_e {g : Gt} {x : Gr} {p : List Int} (h : lay x p = true) (h' : bas g = true) : may g x p = vg g x.n := by unfold may; rw [h, h']; rfl
theorem may_e2 {g : Gt} {x : Gr} {p : List Int} (h : vg g x.n = true) (h' : bas g = true) : may g x p = lay x p := by unfold may; rw [h, h']; simp
set_option maxRecDepth 100000 in
set_option maxHeartbeats 2000000 in
theorem impl_isLayout_any (v : Value) (x : Gr) (A : Option Addr) (n c : Nat) (p : List Int) (w : World) (h : GrAt w w.heap.size v x) (hl : x.es.length ≤ 100000000) (hok : ∀ e ∈ x.es, e.ok) (hp : Rd w w.heap.size 1 A n (icells p)) (hn : n ≤ 100000000) :
    Calls Try.prog 36 #[v, .slice A n c] w fun e w' => e = .returned (.bool (lay x p)) ∧ Ext w w' := by
  have hlen := Lib.hid (hp.len icell_len (by omega))
  obtain ⟨A1, c1, rfl, h1⟩ := h
  have HG : Hid (∀ w', Ext w w' → GrAt w' w'.heap.size (.agg #[.int .i64 x.n, .slice A1 x.es.length c1]) x) := fun w' hx => ⟨A1, c1, rfl, h1.ext hx⟩
  have HOK := Lib.hid hok
  clear hok h1
  have hB0 : Blk (w.alloc (.cells #[.int .i64 x.n, .slice A1 x.es.length c1] 27)) w.heap.size 27 #[.int .i64 x.n, .slice A1 x.es.length c1] := Blk.new _ _ _
  have hX0 : Ext w (w.alloc (.cells #[.int .i64 x.n, .slice A1 x.es.length c1] 27)) := by repeat (first | exact Ext.refl _ | assumption | refine Ext.alloc ?_ _ | refine Ext.drewN ?_ _ | refine Ext.drew ?_)
  have HB0 := Lib.hid hB0
  have HX0 := Lib.hid hX0
  clear hB0 hX0
  go_enter Try.func36, Try.ntmps36
  go_wp2_with fail
  have hB0 := HB0.out
  have hX0 := HX0.out
  clear HB0 HX0
  generalize (w.alloc (.cells #[.int .i64 x.n, .slice A1 x.es.length c1] 27)) = W at *
  refine (impl_IsValidGraph_any _ x _ (HG.out _ hX0) hl HOK.out).mono ?_
  rintro e w1 ⟨rfl, hx1⟩
  have hx := hX0.trans hx1
  have hB := hB0.ext hx1
  clear hB0 hX0 hx1
  have d0 : w1.cell? ⟨w.heap.size, 0, none⟩ = some (.int .i64 x.n) := hB.cell 0
  cases hv : vgraph x
  · have HF := Lib.hid (lay_v (p := p) hv)
    go_wp2
    go_ret
    exact ⟨ret_bool HF.out.symm, hx⟩
  have HV := Lib.hid hv
  clear hv
  go_wp2_with fail
  refine (impl_IsPermutation_any A n c p _ (hp.ext hx) hn).mono ?_
  rintro e w2 ⟨rfl, hx2⟩
  have hB2 := hB.ext hx2
  clear d0
  have d0 : w2.cell? ⟨w.heap.size, 0, none⟩ = some (.int .i64 x.n) := hB2.cell 0
  cases hpp : perm p
  · have HF := Lib.hid (lay_p (x := x) hpp)
    go_wp2
    go_ret
    exact ⟨ret_bool HF.out.symm, hx.trans hx2⟩
  have HF := Lib.hid (lay_e HV.out hpp)
  clear hpp
  go_wp2
  go_ret
  exact ⟨ret_bool (by rw [HF.out, hlen.out]), hx.trans hx2⟩
set_option maxRecDepth 100000 in
set_option maxHeartbeats 4000000 in
theorem impl_mayRoute_any (g : Gt) (v : Value) (x : Gr) (A : Option Addr) (n c : Nat) (p : List Int) (w : World) (h : GrAt w w.heap.size v x) (hl : x.es.length ≤ 100000000) (hok : ∀ e ∈ x.es, e.ok) (hp : Rd w w.heap.size 1 A n (icells p)) (hn : n ≤ 100000000) :
    Calls Try.prog 60 #[g.val, v, .slice A n c] w fun e w' => e = .returned (.bool (may g x p)) ∧ Ext w w' := by
  obtain ⟨A1, c1, rfl, h1⟩ := h
  have HG : Hid (∀ w', Ext w w' → GrAt w' w'.heap.size (.agg #[.int .i64 x.n, .slice A1 x.es.length c1]) x) := fun w' hx => ⟨A1, c1, rfl, h1.ext hx⟩
  have HOK := Lib.hid hok
  clear hok h1
  have hG0 : Blk ((w.alloc (.cells #[.int .i64 g.k, .int .i64 g.a, .int .i64 g.b, .int .i64 g.c] 43)).alloc (.cells #[.int .i64 x.n, .slice A1 x.es.length c1] 27)) w.heap.size 43 #[.int .i64 g.k, .int .i64 g.a, .int .i64 g.b, .int .i64 g.c] := (Blk.new _ _ _).alloc _
  have hB0 : Blk ((w.alloc (.cells #[.int .i64 g.k, .int .i64 g.a, .int .i64 g.b, .int .i64 g.c] 43)).alloc (.cells #[.int .i64 x.n, .slice A1 x.es.length c1] 27)) (w.heap.size + 1) 27 #[.int .i64 x.n, .slice A1 x.es.length c1] := Blk.newAt (by simp)
  have hX0 : Ext w ((w.alloc (.cells #[.int .i64 g.k, .int .i64 g.a, .int .i64 g.b, .int .i64 g.c] 43)).alloc (.cells #[.int .i64 x.n, .slice A1 x.es.length c1] 27)) := by repeat (first | exact Ext.refl _ | assumption | refine Ext.alloc ?_ _ | refine Ext.drewN ?_ _ | refine Ext.drew ?_)
  have HG0 := Lib.hid hG0
  have HB0 := Lib.hid hB0
  have HX0 := Lib.hid hX0
  clear hB0 hX0 hG0
  go_enter Try.func60, Try.ntmps60
  go_wp2_with fail
  have hG0 := HG0.out
  have hB0 := HB0.out
  have hX0 := HX0.out
  clear HB0 HX0 HG0
  generalize ((w.alloc (.cells #[.int .i64 g.k, .int .i64 g.a, .int .i64 g.b, .int .i64 g.c] 43)).alloc (.cells #[.int .i64 x.n, .slice A1 x.es.length c1] 27)) = W at *
  refine (impl_isLayout_any _ x A n c p _ (HG.out _ hX0) hl HOK.out (hp.ext hX0) hn).mono ?_
  rintro e w1 ⟨rfl, hx1⟩
  have hx := hX0.trans hx1
  have hG := hG0.ext hx1
  have hB := hB0.ext hx1
  clear hB0 hX0 hx1 hG0
  have b0 : w1.cell? ⟨w.heap.size, 0, none⟩ = some (.int .i64 g.k) := hG.cell 0
  have b1 : w1.cell? ⟨w.heap.size, 1, none⟩ = some (.int .i64 g.a) := hG.cell 1
  have b2 : w1.cell? ⟨w.heap.size, 2, none⟩ = some (.int .i64 g.b) := hG.cell 2
  have b3 : w1.cell? ⟨w.heap.size, 3, none⟩ = some (.int .i64 g.c) := hG.cell 3
  cases hv : lay x p
  · have HF := Lib.hid (may_l (g := g) hv)
    go_wp2
    go_ret
    exact ⟨ret_bool HF.out.symm, hx⟩
  have HV := Lib.hid hv
  clear hv
  go_wp2_with fail
  refine (impl_IsBasicGate_any g _).mono ?_
  rintro e w2 ⟨rfl, hx2⟩
  replace hx := hx.trans hx2
  replace hG := hG.ext hx2
  replace hB := hB.ext hx2
  clear b0 b1 b2 b3 hx2
  have b0 : w2.cell? ⟨w.heap.size, 0, none⟩ = some (.int .i64 g.k) := hG.cell 0
  have b1 : w2.cell? ⟨w.heap.size, 1, none⟩ = some (.int .i64 g.a) := hG.cell 1
  have b2 : w2.cell? ⟨w.heap.size, 2, none⟩ = some (.int .i64 g.b) := hG.cell 2
  have b3 : w2.cell? ⟨w.heap.size, 3, none⟩ = some (.int .i64 g.c) := hG.cell 3
  have d0 : w2.cell? ⟨w.heap.size + 1, 0, none⟩ = some (.int .i64 x.n) := hB.cell 0
  cases hb : bas g
  · have HF := Lib.hid (may_b (x := x) (p := p) hb)
    go_wp2
    go_ret
    exact ⟨ret_bool HF.out.symm, hx⟩
  have HF := Lib.hid (may_e HV.out hb)
  clear hb
  go_wp2_with fail
  refine (impl_IsValidGate_any g x.n _).mono ?_
  rintro e w3 ⟨rfl, hx3⟩
  go_wp2
  go_ret
  exact ⟨ret_bool HF.out.symm, hx.trans hx3⟩
set_option maxRecDepth 100000 in
set_option maxHeartbeats 4000000 in
theorem spec_l38Right_any (g : Gt) (v : Value) (x : Gr) (A : Option Addr) (n c : Nat) (p : List Int) (w : World) (h : GrAt w w.heap.size v x) (hl : x.es.length ≤ 100000000) (hp : Rd w w.heap.size 1 A n (icells p)) (hn : n ≤ 100000000) (hc : n ≤ c) :
    Calls Try.prog 64 #[g.val, v, .slice A n c] w fun e w' => e = .returned (.bool (may g x p)) ∧ Ext w w' := by
  have hlen := Lib.hid (hp.len icell_len (by omega))
  obtain ⟨A1, c1, rfl, h1⟩ := h
  have HG : Hid (∀ w', Ext w w' → GrAt w' w'.heap.size (.agg #[.int .i64 x.n, .slice A1 x.es.length c1]) x) := fun w' hx => ⟨A1, c1, rfl, h1.ext hx⟩
  clear h1
  have hG0 : Blk ((w.alloc (.cells #[.int .i64 g.k, .int .i64 g.a, .int .i64 g.b, .int .i64 g.c] 43)).alloc (.cells #[.int .i64 x.n, .slice A1 x.es.length c1] 27)) w.heap.size 43 #[.int .i64 g.k, .int .i64 g.a, .int .i64 g.b, .int .i64 g.c] := (Blk.new _ _ _).alloc _
  have hB0 : Blk ((w.alloc (.cells #[.int .i64 g.k, .int .i64 g.a, .int .i64 g.b, .int .i64 g.c] 43)).alloc (.cells #[.int .i64 x.n, .slice A1 x.es.length c1] 27)) (w.heap.size + 1) 27 #[.int .i64 x.n, .slice A1 x.es.length c1] := Blk.newAt (by simp)
  have hX0 : Ext w ((w.alloc (.cells #[.int .i64 g.k, .int .i64 g.a, .int .i64 g.b, .int .i64 g.c] 43)).alloc (.cells #[.int .i64 x.n, .slice A1 x.es.length c1] 27)) := by repeat (first | exact Ext.refl _ | assumption | refine Ext.alloc ?_ _ | refine Ext.drewN ?_ _ | refine Ext.drew ?_)
  have HG0 := Lib.hid hG0
  have HB0 := Lib.hid hB0
  have HX0 := Lib.hid hX0
  clear hB0 hX0 hG0
  go_enter Try.func64, Try.ntmps64
  go_wp2_with fail
  have hG0 := HG0.out
  have hB0 := HB0.out
  have hX0 := HX0.out
  clear HB0 HX0 HG0
  generalize ((w.alloc (.cells #[.int .i64 g.k, .int .i64 g.a, .int .i64 g.b, .int .i64 g.c] 43)).alloc (.cells #[.int .i64 x.n, .slice A1 x.es.length c1] 27)) = W at *
  refine (spec_IsBasicGate_any g _).mono ?_
  rintro e w1 ⟨rfl, hx1⟩
  have hx := hX0.trans hx1
  have hG := hG0.ext hx1
  have hB := hB0.ext hx1
  clear hB0 hX0 hx1 hG0
  have b0 : w1.cell? ⟨w.heap.size, 0, none⟩ = some (.int .i64 g.k) := hG.cell 0
  have b1 : w1.cell? ⟨w.heap.size, 1, none⟩ = some (.int .i64 g.a) := hG.cell 1
  have b2 : w1.cell? ⟨w.heap.size, 2, none⟩ = some (.int .i64 g.b) := hG.cell 2
  have b3 : w1.cell? ⟨w.heap.size, 3, none⟩ = some (.int .i64 g.c) := hG.cell 3
  have d0 : w1.cell? ⟨w.heap.size + 1, 0, none⟩ = some (.int .i64 x.n) := hB.cell 0
  cases hb : bas g
  · have HF := Lib.hid (may_b (x := x) (p := p) hb)
    go_wp2
    go_ret
    exact ⟨ret_bool HF.out.symm, hx⟩
  have HBS := Lib.hid hb
  clear hb
  go_wp2_with fail
  refine (spec_IsValidGate_any g x.n _).mono ?_
  rintro e w2 ⟨rfl, hx2⟩
  replace hx := hx.trans hx2
  replace hB := hB.ext hx2
  clear b0 b1 b2 b3 hx2 d0 hG
  have d0 : w2.cell? ⟨w.heap.size + 1, 0, none⟩ = some (.int .i64 x.n) := hB.cell 0
  have d1 : w2.cell? ⟨w.heap.size + 1, 1, none⟩ = some (.slice A1 x.es.length c1) := hB.cell 1
  cases hv : vg g x.n
  · have HF := Lib.hid (may_v (p := p) hv)
    go_wp2
    go_ret
    exact ⟨ret_bool HF.out.symm, hx⟩
  have HM := Lib.hid (may_e2 (p := p) hv HBS.out)
  clear hv
  go_wp2_with fail
  refine (spec_IsValidGraph_any _ x _ (HG.out _ hx) hl).mono ?_
  rintro e w3 ⟨rfl, hx3⟩
  replace hx := hx.trans hx3
  replace hB := hB.ext hx3
  clear d0 d1 hx3
  have d0 : w3.cell? ⟨w.heap.size + 1, 0, none⟩ = some (.int .i64 x.n) := hB.cell 0
  cases hv : vgraph x
  · have HF := Lib.hid (HM.out.trans (lay_v (p := p) hv))
    go_wp2
    go_ret
    exact ⟨ret_bool HF.out.symm, hx⟩
  have HV := Lib.hid hv
  clear hv
  go_wp2_with fail
  refine (spec_IsPermutation_any A n c p _ (hp.ext hx) hn hc).mono ?_
  rintro e w4 ⟨rfl, hx4⟩
  replace hx := hx.trans hx4
  replace hB := hB.ext hx4
  clear d0 hx4
  have d0 : w4.cell? ⟨w.heap.size + 1, 0, none⟩ = some (.int .i64 x.n) := hB.cell 0
  cases hpp : perm p
  · have HF := Lib.hid (HM.out.trans (lay_p (x := x) hpp))
    go_wp2
    go_ret
    exact ⟨ret_bool HF.out.symm, hx⟩
  have HF := Lib.hid (HM.out.trans (lay_e HV.out hpp))
  clear hpp
  go_wp2
  go_ret
  exact ⟨ret_bool (by rw [HF.out, hlen.out]), hx⟩
end Go.Proofs.Ytfbalkbcglejjaa
