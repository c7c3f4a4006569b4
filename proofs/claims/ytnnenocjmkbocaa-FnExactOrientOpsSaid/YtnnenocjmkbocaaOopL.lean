/-
  For every input, the law FnExactOrientOps returns true: the program's OrientOps and the reference's return the same, no result shares memory with an argument or a second result, and the arguments are left alone. No condition.
-/
import Derived.Test.YtnnenocjmkbocaaOop
import Derived.Test.YtnnenocjmkbocaaGrM
import Derived.Test.YtnnenocjmkbocaaOpM
namespace Go.Proofs.Ytnnenocjmkbocaa
open Go.ChangeShapes Go.WideShapes Go.ChangeAt Go.RowKit Go.Deep
set_option linter.unusedVariables false
namespace fnExactOrientOps
set_option maxRecDepth 100000 in
set_option maxHeartbeats 2000000 in
theorem walk (Ags : Option Addr) (ngs cgs : Nat) (gs : List Oq) (vgr : Value) (gr : Gr) (w : World) (hgs : Rd w w.heap.size 8 Ags ngs (ocells gs)) (hmgs : ngs ≤ maxLen) (hokgs : ∀ x ∈ gs, x.ok) (hgr : GrAt w w.heap.size vgr gr) (hokgr : gr.ok) :
    Calls Try.prog 10 #[.slice Ags ngs cgs, vgr] w fun e w' => e = .returned (.bool true) ∧ Ext w w' := by
  obtain ⟨Agr1, cgr1, rfl, hh0⟩ := hgr
  have hgr : GrAt w w.heap.size (.agg #[.int .i64 gr.n, .slice Agr1 gr.es.length cgr1]) gr := ⟨Agr1, cgr1, rfl, hh0⟩
  clear hh0
  go_enter Try.func10, Try.ntmps10
  have hx0 : Ext w w := Ext.refl w
  go_wp2_with fail
  have hy1 : Ext w (w.alloc (.cells #[.int .i64 gr.n, .slice Agr1 gr.es.length cgr1] 32)) := by repeat (first | exact Ext.refl _ | assumption | refine Ext.alloc ?_ _ | refine Ext.drewN ?_ _ | refine Ext.drew ?_)
  have bx0_1 : Blk (w.alloc (.cells #[.int .i64 gr.n, .slice Agr1 gr.es.length cgr1] 32)) (w.heap.size) 32 #[.int .i64 gr.n, .slice Agr1 gr.es.length cgr1] := Blk.newAt (b := w.heap.size) (by simp)
  generalize (w.alloc (.cells #[.int .i64 gr.n, .slice Agr1 gr.es.length cgr1] 32)) = w1 at *
  have lb0 := bx0_1.lt
  have hz1 := hy1.size
  have hx1' := hx0.trans hy1
  have z1_0_0 : w1.cell? ⟨w.heap.size, 0, none⟩ = some (.int .i64 gr.n) := bx0_1.cell 0
  have z1_0_1 : w1.cell? ⟨w.heap.size, 1, none⟩ = some (.slice Agr1 gr.es.length cgr1) := bx0_1.cell 1
  have hgs_1 := hgs.up hy1 (by omega)
  have hgr_1 := hgr.up hy1 (by omega)
  refine (szOpS_any Ags ngs cgs _ _ (by omega) (by omega) hmgs).mono ?_
  rintro e v ⟨rfl, rfl⟩
  by_cases hngs : (1048576 : Int) < ngs
  · rw [szF_lt (by omega)]
    go_wp2
    go_ret
    exact ⟨rfl, hx1'⟩
  rw [szF_ge (by omega)]
  go_wp2_with fail
  refine (szGraph_any (.agg #[.int .i64 gr.n, .slice Agr1 gr.es.length cgr1]) gr _ _ (hgr_1.more (by omega)) (by omega) (by omega) hokgr.2.1).mono ?_
  rintro e w2 ⟨rfl, hy2⟩
  have hz2 := hy2.size
  have hx2' := hx1'.trans hy2
  have bx0_2 := bx0_1.ext hy2
  clear z1_0_0 z1_0_1
  have z2_0_0 : w2.cell? ⟨w.heap.size, 0, none⟩ = some (.int .i64 gr.n) := bx0_2.cell 0
  have z2_0_1 : w2.cell? ⟨w.heap.size, 1, none⟩ = some (.slice Agr1 gr.es.length cgr1) := bx0_2.cell 1
  have hgs_2 := hgs_1.up hy2 (by omega)
  have hgr_2 := hgr_1.up hy2 (by omega)
  by_cases hngr : (1048576 - ngs : Int) < (gr.es.length : Nat)
  · rw [szF_lt (by omega)]
    go_wp2
    go_ret
    exact ⟨rfl, hx2'⟩
  rw [szF_ge (by omega)]
  have hsmgr : gr.small := by unfold Gr.small; omega
  have hE : gr.es.length ≤ 1048576 := hsmgr
  have hL : (ooAll gr gs).length ≤ 78643200 := by
    have h1 := ooAll_len gr gs
    rw [hgs.len Oq.cells_len (by omega)] at h1
    omega
  go_wp2_with fail
  have HK1 : Hid (∀ w', Blk w' (w.heap.size) 32 #[.int .i64 gr.n, .slice Agr1 gr.es.length cgr1] → w'.cell? ⟨w.heap.size, 0, none⟩ = some (.int .i64 gr.n) ∧ w'.cell? ⟨w.heap.size, 1, none⟩ = some (.slice Agr1 gr.es.length cgr1)) := fun w' g0 => ⟨g0.cell 0, g0.cell 1⟩
  have tok0 : True := trivial
  have tok1 : True := trivial
  have tok2 : True := trivial
  go_region_held3 (fun w' => w'.cell? ⟨w.heap.size, 0, none⟩ = some (.int .i64 gr.n) ∧ w'.cell? ⟨w.heap.size, 1, none⟩ = some (.slice Agr1 gr.es.length cgr1))
    (first | go_keep | exact HK1.out _ (by assumption))
    (first
            | (go_at_call 56; have _t := tok0; clear tok0 _t; refine (toOpS_any Ags ngs cgs gs _ ((hgs_2.up (Ext.refl w2).drew (by omega)).more (show _ ≤ w2.heap.size by omega)) (by omega)).mono ?_; rintro e w3 ⟨v3, rfl, ho3, hy3⟩; obtain ⟨A3, c3, rfl, hr3⟩ := own_slice ho3; have hlt3 : ∀ g, (Value.slice A3 (ngs) c3).ownBlock = some g → w2.heap.size ≤ g ∧ g < w3.heap.size := fun g hg => ho3.lt g hg; replace hy3 : Ext w2 w3 := Ext.trans (Ext.refl w2).drew hy3; have hz3 := hy3.size; have hx3' := hx2'.trans hy3; have bx0_3 := bx0_2.ext hy3; clear z2_0_0 z2_0_1; have z3_0_0 : w3.cell? ⟨w.heap.size, 0, none⟩ = some (.int .i64 gr.n) := bx0_3.cell 0; have z3_0_1 : w3.cell? ⟨w.heap.size, 1, none⟩ = some (.slice Agr1 gr.es.length cgr1) := bx0_3.cell 1; have hgs_3 := hgs_2.up hy3 (by omega); have hgr_3 := hgr_2.up hy3 (by omega))
            | (go_at_call 32; have _t := tok1; clear tok1 _t; refine (toGraph_own (.agg #[.int .i64 gr.n, .slice Agr1 gr.es.length cgr1]) gr _ (hgr_3.more (by omega)) hsmgr).mono ?_; rintro e w4 ⟨v4, b4_1, rfl, ho4, hb4, hy4⟩; obtain ⟨hb4_0, hb4_1⟩ := hb4; have hr4 := ho4.at_; have hz4 := hy4.size; have hx4' := hx3'.trans hy4; have bx0_4 := bx0_3.ext hy4; clear z3_0_0 z3_0_1; have z4_0_0 : w4.cell? ⟨w.heap.size, 0, none⟩ = some (.int .i64 gr.n) := bx0_4.cell 0; have z4_0_1 : w4.cell? ⟨w.heap.size, 1, none⟩ = some (.slice Agr1 gr.es.length cgr1) := bx0_4.cell 1; have hgs_4 := hgs_3.up hy4 (by omega); have hgr_4 := hgr_3.up hy4 (by omega); have hr3_4 := hr3.up hy4 (by omega); have ho3_4 := own_ext ho3 hy4)
            | (go_at_call 55; have _t := tok2; clear tok2 _t; refine (spec_OrientOps_any A3 ngs c3 gs v4 gr _ (hr3_4.more (by omega)) (hr4.more (by omega)) (by omega) (by omega)).mono ?_; rintro e w5 ⟨v5, rfl, ho5, hy5⟩; obtain ⟨A5, c5, rfl, hr5⟩ := own_slice ho5; have hlt5 : ∀ g, (Value.slice A5 ((ooAll gr gs).length) c5).ownBlock = some g → w4.heap.size ≤ g ∧ g < w5.heap.size := fun g hg => ho5.lt g hg; have hz5 := hy5.size; have hx5' := hx4'.trans hy5; have bx0_5 := bx0_4.ext hy5; clear z4_0_0 z4_0_1; have z5_0_0 : w5.cell? ⟨w.heap.size, 0, none⟩ = some (.int .i64 gr.n) := bx0_5.cell 0; have z5_0_1 : w5.cell? ⟨w.heap.size, 1, none⟩ = some (.slice Agr1 gr.es.length cgr1) := bx0_5.cell 1; have hgs_5 := hgs_4.up hy5 (by omega); have hgr_5 := hgr_4.up hy5 (by omega); have hr3_5 := hr3_4.up hy5 (by omega); have ho3_5 := own_ext ho3_4 hy5; have hr4_5 := hr4.up hy5 (by omega)))
  go_wp2_with fail
  refine (toOpS_any Ags ngs cgs gs _ (hgs_5.more (by omega)) (by omega)).mono ?_
  rintro e w6 ⟨v6, rfl, ho6, hy6⟩
  obtain ⟨A6, c6, rfl, hr6⟩ := own_slice ho6
  have hlt6 : ∀ g, (Value.slice A6 (ngs) c6).ownBlock = some g → w5.heap.size ≤ g ∧ g < w6.heap.size := fun g hg => ho6.lt g hg
  have hz6 := hy6.size
  have hx6' := hx5'.trans hy6
  have bx0_6 := bx0_5.ext hy6
  clear z5_0_0 z5_0_1
  have z6_0_0 : w6.cell? ⟨w.heap.size, 0, none⟩ = some (.int .i64 gr.n) := bx0_6.cell 0
  have z6_0_1 : w6.cell? ⟨w.heap.size, 1, none⟩ = some (.slice Agr1 gr.es.length cgr1) := bx0_6.cell 1
  have hgs_6 := hgs_5.up hy6 (by omega)
  have hgr_6 := hgr_5.up hy6 (by omega)
  have hr5_6 := hr5.up hy6 (by omega)
  have ho5_6 := own_ext ho5 hy6
  go_wp2_with fail
  refine (toGraph_own (.agg #[.int .i64 gr.n, .slice Agr1 gr.es.length cgr1]) gr _ (hgr_6.more (by omega)) hsmgr).mono ?_
  rintro e w7 ⟨v7, b7_1, rfl, ho7, hb7, hy7⟩
  obtain ⟨hb7_0, hb7_1⟩ := hb7
  have hr7 := ho7.at_
  have hz7 := hy7.size
  have hx7' := hx6'.trans hy7
  have bx0_7 := bx0_6.ext hy7
  clear z6_0_0 z6_0_1
  have z7_0_0 : w7.cell? ⟨w.heap.size, 0, none⟩ = some (.int .i64 gr.n) := bx0_7.cell 0
  have z7_0_1 : w7.cell? ⟨w.heap.size, 1, none⟩ = some (.slice Agr1 gr.es.length cgr1) := bx0_7.cell 1
  have hgs_7 := hgs_6.up hy7 (by omega)
  have hgr_7 := hgr_6.up hy7 (by omega)
  have hr5_7 := hr5_6.up hy7 (by omega)
  have ho5_7 := own_ext ho5_6 hy7
  have hr6_7 := hr6.up hy7 (by omega)
  have ho6_7 := own_ext ho6 hy7
  obtain ⟨B7_1, d7_1, rfl, hown7⟩ := ho7
  obtain ⟨own7_1, lt7_1⟩ := hown7
  have lb0_7 := bx0_7.lt
  go_wp2_with fail
  have hy8 : Ext w7 (w7.alloc (.cells #[.int .i64 gr.n, .slice B7_1 gr.es.length d7_1] 43)) := (Ext.refl _).alloc _
  have bx1_8 : Blk (w7.alloc (.cells #[.int .i64 gr.n, .slice B7_1 gr.es.length d7_1] 43)) (w7.heap.size) 43 #[.int .i64 gr.n, .slice B7_1 gr.es.length d7_1] := Blk.new _ _ _
  generalize (w7.alloc (.cells #[.int .i64 gr.n, .slice B7_1 gr.es.length d7_1] 43)) = w8 at *
  have lb1 := bx1_8.lt
  have hs71 := Rd.bdl (Rd.own own7_1) (fun g hg => lt7_1 g hg)
  have hrw71 : ∀ g, (Value.slice B7_1 (gr.es.length) d7_1).ownBlock = some g → w6.heap.size ≤ g ∧ g < b7_1 := fun g hg => ⟨(own7_1.lt g hg).1, lt7_1 g hg⟩
  have own71 := own7_1
  have hz8 := hy8.size
  have hx8' := hx7'.trans hy8
  have bx0_8 := bx0_7.ext hy8
  clear z7_0_0 z7_0_1
  have z8_0_0 : w8.cell? ⟨w.heap.size, 0, none⟩ = some (.int .i64 gr.n) := bx0_8.cell 0
  have z8_0_1 : w8.cell? ⟨w.heap.size, 1, none⟩ = some (.slice Agr1 gr.es.length cgr1) := bx0_8.cell 1
  have z8_1_0 : w8.cell? ⟨w7.heap.size, 0, none⟩ = some (.int .i64 gr.n) := bx1_8.cell 0
  have z8_1_1 : w8.cell? ⟨w7.heap.size, 1, none⟩ = some (.slice B7_1 gr.es.length d7_1) := bx1_8.cell 1
  have hgs_8 := hgs_7.up hy8 (by omega)
  have hgr_8 := hgr_7.up hy8 (by omega)
  have hr5_8 := hr5_7.up hy8 (by omega)
  have ho5_8 := own_ext ho5_7 hy8
  have hr6_8 := hr6_7.up hy8 (by omega)
  have ho6_8 := own_ext ho6_7 hy8
  have hr7_8 := hr7.up hy8 (by omega)
  have hs71_8 := hs71.up hy8 (by omega)
  have own71_8 := own_ext own71 hy8
  refine (impl_OrientOps_any A6 ngs c6 gs (.agg #[.int .i64 gr.n, .slice B7_1 gr.es.length d7_1]) gr _ (hr6_8.more (by omega)) (hr7_8.more (by omega)) (by omega) (by omega)).mono ?_
  rintro e w9 ⟨v9, rfl, ho9, hy9⟩
  obtain ⟨A9, c9, rfl, hr9⟩ := own_slice ho9
  have hlt9 : ∀ g, (Value.slice A9 ((ooAll gr gs).length) c9).ownBlock = some g → w8.heap.size ≤ g ∧ g < w9.heap.size := fun g hg => ho9.lt g hg
  have hz9 := hy9.size
  have hx9' := hx8'.trans hy9
  have bx0_9 := bx0_8.ext hy9
  have bx1_9 := bx1_8.ext hy9
  clear z8_0_0 z8_0_1 z8_1_0 z8_1_1
  have z9_0_0 : w9.cell? ⟨w.heap.size, 0, none⟩ = some (.int .i64 gr.n) := bx0_9.cell 0
  have z9_0_1 : w9.cell? ⟨w.heap.size, 1, none⟩ = some (.slice Agr1 gr.es.length cgr1) := bx0_9.cell 1
  have z9_1_0 : w9.cell? ⟨w7.heap.size, 0, none⟩ = some (.int .i64 gr.n) := bx1_9.cell 0
  have z9_1_1 : w9.cell? ⟨w7.heap.size, 1, none⟩ = some (.slice B7_1 gr.es.length d7_1) := bx1_9.cell 1
  have hgs_9 := hgs_8.up hy9 (by omega)
  have hgr_9 := hgr_8.up hy9 (by omega)
  have hr5_9 := hr5_8.up hy9 (by omega)
  have ho5_9 := own_ext ho5_8 hy9
  have hr6_9 := hr6_8.up hy9 (by omega)
  have ho6_9 := own_ext ho6_8 hy9
  have hr7_9 := hr7_8.up hy9 (by omega)
  have hs71_9 := hs71_8.up hy9 (by omega)
  have own71_9 := own_ext own71_8 hy9
  go_wp2_with fail
  refine (eqOpS_any A9 A5 ((ooAll gr gs).length) ((ooAll gr gs).length) c9 c5 ((ooAll gr gs)) ((ooAll gr gs)) _ (hr9.more (by omega)) (hr5_9.more (by omega)) (by omega) (by omega)).mono ?_
  rintro e w10 ⟨rfl, hy10⟩
  rw [eqL_self eqO eqO_self]
  have hz10 := hy10.size
  have hx10' := hx9'.trans hy10
  have bx0_10 := bx0_9.ext hy10
  have bx1_10 := bx1_9.ext hy10
  clear z9_0_0 z9_0_1 z9_1_0 z9_1_1
  have z10_0_0 : w10.cell? ⟨w.heap.size, 0, none⟩ = some (.int .i64 gr.n) := bx0_10.cell 0
  have z10_0_1 : w10.cell? ⟨w.heap.size, 1, none⟩ = some (.slice Agr1 gr.es.length cgr1) := bx0_10.cell 1
  have z10_1_0 : w10.cell? ⟨w7.heap.size, 0, none⟩ = some (.int .i64 gr.n) := bx1_10.cell 0
  have z10_1_1 : w10.cell? ⟨w7.heap.size, 1, none⟩ = some (.slice B7_1 gr.es.length d7_1) := bx1_10.cell 1
  have hgs_10 := hgs_9.up hy10 (by omega)
  have hgr_10 := hgr_9.up hy10 (by omega)
  have hr5_10 := hr5_9.up hy10 (by omega)
  have ho5_10 := own_ext ho5_9 hy10
  have hr6_10 := hr6_9.up hy10 (by omega)
  have ho6_10 := own_ext ho6_9 hy10
  have hr7_10 := hr7_9.up hy10 (by omega)
  have hs71_10 := hs71_9.up hy10 (by omega)
  have own71_10 := own_ext own71_9 hy10
  have hr9_10 := hr9.up hy10 (by omega)
  have ho9_10 := own_ext ho9 hy10
  go_wp2_with fail
  refine (toOpS_any Ags ngs cgs gs _ (hgs_10.more (by omega)) (by omega)).mono ?_
  rintro e w11 ⟨v11, rfl, ho11, hy11⟩
  obtain ⟨A11, c11, rfl, hr11⟩ := own_slice ho11
  have hlt11 : ∀ g, (Value.slice A11 (ngs) c11).ownBlock = some g → w10.heap.size ≤ g ∧ g < w11.heap.size := fun g hg => ho11.lt g hg
  have hz11 := hy11.size
  have hx11' := hx10'.trans hy11
  have bx0_11 := bx0_10.ext hy11
  have bx1_11 := bx1_10.ext hy11
  clear z10_0_0 z10_0_1 z10_1_0 z10_1_1
  have z11_0_0 : w11.cell? ⟨w.heap.size, 0, none⟩ = some (.int .i64 gr.n) := bx0_11.cell 0
  have z11_0_1 : w11.cell? ⟨w.heap.size, 1, none⟩ = some (.slice Agr1 gr.es.length cgr1) := bx0_11.cell 1
  have z11_1_0 : w11.cell? ⟨w7.heap.size, 0, none⟩ = some (.int .i64 gr.n) := bx1_11.cell 0
  have z11_1_1 : w11.cell? ⟨w7.heap.size, 1, none⟩ = some (.slice B7_1 gr.es.length d7_1) := bx1_11.cell 1
  have hgs_11 := hgs_10.up hy11 (by omega)
  have hgr_11 := hgr_10.up hy11 (by omega)
  have hr5_11 := hr5_10.up hy11 (by omega)
  have ho5_11 := own_ext ho5_10 hy11
  have hr6_11 := hr6_10.up hy11 (by omega)
  have ho6_11 := own_ext ho6_10 hy11
  have hr7_11 := hr7_10.up hy11 (by omega)
  have hs71_11 := hs71_10.up hy11 (by omega)
  have own71_11 := own_ext own71_10 hy11
  have hr9_11 := hr9_10.up hy11 (by omega)
  have ho9_11 := own_ext ho9_10 hy11
  go_wp2_with fail
  refine (eqOpS_any A6 A11 (ngs) (ngs) c6 c11 (gs) (gs) _ (hr6_11.more (by omega)) (hr11.more (by omega)) (by omega) (by omega)).mono ?_
  rintro e w12 ⟨rfl, hy12⟩
  rw [eqL_self eqO eqO_self]
  have hz12 := hy12.size
  have hx12' := hx11'.trans hy12
  have bx0_12 := bx0_11.ext hy12
  have bx1_12 := bx1_11.ext hy12
  clear z11_0_0 z11_0_1 z11_1_0 z11_1_1
  have z12_0_0 : w12.cell? ⟨w.heap.size, 0, none⟩ = some (.int .i64 gr.n) := bx0_12.cell 0
  have z12_0_1 : w12.cell? ⟨w.heap.size, 1, none⟩ = some (.slice Agr1 gr.es.length cgr1) := bx0_12.cell 1
  have z12_1_0 : w12.cell? ⟨w7.heap.size, 0, none⟩ = some (.int .i64 gr.n) := bx1_12.cell 0
  have z12_1_1 : w12.cell? ⟨w7.heap.size, 1, none⟩ = some (.slice B7_1 gr.es.length d7_1) := bx1_12.cell 1
  have hgs_12 := hgs_11.up hy12 (by omega)
  have hgr_12 := hgr_11.up hy12 (by omega)
  have hr5_12 := hr5_11.up hy12 (by omega)
  have ho5_12 := own_ext ho5_11 hy12
  have hr6_12 := hr6_11.up hy12 (by omega)
  have ho6_12 := own_ext ho6_11 hy12
  have hr7_12 := hr7_11.up hy12 (by omega)
  have hs71_12 := hs71_11.up hy12 (by omega)
  have own71_12 := own_ext own71_11 hy12
  have hr9_12 := hr9_11.up hy12 (by omega)
  have ho9_12 := own_ext ho9_11 hy12
  have hr11_12 := hr11.up hy12 (by omega)
  have ho11_12 := own_ext ho11 hy12
  go_wp2_with fail
  have HK2 : Hid (∀ w', Blk w' (w.heap.size) 32 #[.int .i64 gr.n, .slice Agr1 gr.es.length cgr1] → Blk w' (w7.heap.size) 43 #[.int .i64 gr.n, .slice B7_1 gr.es.length d7_1] → w'.cell? ⟨w.heap.size, 0, none⟩ = some (.int .i64 gr.n) ∧ w'.cell? ⟨w.heap.size, 1, none⟩ = some (.slice Agr1 gr.es.length cgr1) ∧ w'.cell? ⟨w7.heap.size, 0, none⟩ = some (.int .i64 gr.n) ∧ w'.cell? ⟨w7.heap.size, 1, none⟩ = some (.slice B7_1 gr.es.length d7_1)) := fun w' g0 g1 => ⟨g0.cell 0, g0.cell 1, g1.cell 0, g1.cell 1⟩
  have tok0 : True := trivial
  have tok1 : True := trivial
  go_region_held3 (fun w' => w'.cell? ⟨w.heap.size, 0, none⟩ = some (.int .i64 gr.n) ∧ w'.cell? ⟨w.heap.size, 1, none⟩ = some (.slice Agr1 gr.es.length cgr1) ∧ w'.cell? ⟨w7.heap.size, 0, none⟩ = some (.int .i64 gr.n) ∧ w'.cell? ⟨w7.heap.size, 1, none⟩ = some (.slice B7_1 gr.es.length d7_1))
    (first | go_keep | exact HK2.out _ (by assumption) (by assumption))
    (first
            | (go_at_call 32; have _t := tok0; clear tok0 _t; refine (toGraph_own (.agg #[.int .i64 gr.n, .slice Agr1 gr.es.length cgr1]) gr _ ((hgr_12.up (Ext.refl w12).drew (by omega)).more (show _ ≤ w12.heap.size by omega)) hsmgr).mono ?_; rintro e w13 ⟨v13, b13_1, rfl, ho13, hb13, hy13⟩; obtain ⟨hb13_0, hb13_1⟩ := hb13; have hr13 := ho13.at_; replace hy13 : Ext w12 w13 := Ext.trans (Ext.refl w12).drew hy13; have hz13 := hy13.size; have hx13' := hx12'.trans hy13; have bx0_13 := bx0_12.ext hy13; have bx1_13 := bx1_12.ext hy13; clear z12_0_0 z12_0_1 z12_1_0 z12_1_1; have z13_0_0 : w13.cell? ⟨w.heap.size, 0, none⟩ = some (.int .i64 gr.n) := bx0_13.cell 0; have z13_0_1 : w13.cell? ⟨w.heap.size, 1, none⟩ = some (.slice Agr1 gr.es.length cgr1) := bx0_13.cell 1; have z13_1_0 : w13.cell? ⟨w7.heap.size, 0, none⟩ = some (.int .i64 gr.n) := bx1_13.cell 0; have z13_1_1 : w13.cell? ⟨w7.heap.size, 1, none⟩ = some (.slice B7_1 gr.es.length d7_1) := bx1_13.cell 1; have hgs_13 := hgs_12.up hy13 (by omega); have hgr_13 := hgr_12.up hy13 (by omega); have hr5_13 := hr5_12.up hy13 (by omega); have ho5_13 := own_ext ho5_12 hy13; have hr6_13 := hr6_12.up hy13 (by omega); have ho6_13 := own_ext ho6_12 hy13; have hr7_13 := hr7_12.up hy13 (by omega); have hs71_13 := hs71_12.up hy13 (by omega); have own71_13 := own_ext own71_12 hy13; have hr9_13 := hr9_12.up hy13 (by omega); have ho9_13 := own_ext ho9_12 hy13)
            | (go_at_call 34; have _t := tok1; clear tok1 _t; refine (eqGraph_any (.agg #[.int .i64 gr.n, .slice B7_1 gr.es.length d7_1]) v13 gr gr _ (hr7_13.more (by omega)) (hr13.more (by omega)) (by have := hsmgr; unfold Gr.small at this; omega)).mono ?_; rintro e w14 ⟨rfl, hy14⟩; rw [eqGr_self]; have hz14 := hy14.size; have hx14' := hx13'.trans hy14; have bx0_14 := bx0_13.ext hy14; have bx1_14 := bx1_13.ext hy14; clear z13_0_0 z13_0_1 z13_1_0 z13_1_1; have z14_0_0 : w14.cell? ⟨w.heap.size, 0, none⟩ = some (.int .i64 gr.n) := bx0_14.cell 0; have z14_0_1 : w14.cell? ⟨w.heap.size, 1, none⟩ = some (.slice Agr1 gr.es.length cgr1) := bx0_14.cell 1; have z14_1_0 : w14.cell? ⟨w7.heap.size, 0, none⟩ = some (.int .i64 gr.n) := bx1_14.cell 0; have z14_1_1 : w14.cell? ⟨w7.heap.size, 1, none⟩ = some (.slice B7_1 gr.es.length d7_1) := bx1_14.cell 1; have hgs_14 := hgs_13.up hy14 (by omega); have hgr_14 := hgr_13.up hy14 (by omega); have hr5_14 := hr5_13.up hy14 (by omega); have ho5_14 := own_ext ho5_13 hy14; have hr6_14 := hr6_13.up hy14 (by omega); have ho6_14 := own_ext ho6_13 hy14; have hr7_14 := hr7_13.up hy14 (by omega); have hs71_14 := hs71_13.up hy14 (by omega); have own71_14 := own_ext own71_13 hy14; have hr9_14 := hr9_13.up hy14 (by omega); have ho9_14 := own_ext ho9_13 hy14; have hr13_14 := hr13.up hy14 (by omega)))
  go_wp2_with fail
  refine (markOpS_any A6 (ngs) c6 _ (1) _ _ ho6_14 (by omega) (by omega)).mono ?_
  rintro e w15 ⟨rfl, hk15, hg15⟩
  have hz15 := hg15.size
  have hrow15 : ∀ g, (Value.slice A6 ngs c6).ownBlock = some g → w5.heap.size ≤ g ∧ g < w6.heap.size := hlt6
  have hx15' := hx14'.grown hg15 (fun g hg => by have := hrow15 g hg; omega)
  have bx0_15 := bx0_14.grown hg15 (fun g hg => by have := hrow15 g hg; omega)
  have bx1_15 := bx1_14.grown hg15 (fun g hg => by have := hrow15 g hg; omega)
  clear z14_0_0 z14_0_1 z14_1_0 z14_1_1
  have z15_0_0 : w15.cell? ⟨w.heap.size, 0, none⟩ = some (.int .i64 gr.n) := bx0_15.cell 0
  have z15_0_1 : w15.cell? ⟨w.heap.size, 1, none⟩ = some (.slice Agr1 gr.es.length cgr1) := bx0_15.cell 1
  have z15_1_0 : w15.cell? ⟨w7.heap.size, 0, none⟩ = some (.int .i64 gr.n) := bx1_15.cell 0
  have z15_1_1 : w15.cell? ⟨w7.heap.size, 1, none⟩ = some (.slice B7_1 gr.es.length d7_1) := bx1_15.cell 1
  have hgs_15 := hgs_14.grown hg15 (by omega) (fun g hg => by have := hrow15 g hg; omega)
  have hgr_15 := hgr_14.grown hg15 (by omega) (fun g hg => by have := hrow15 g hg; omega)
  have hr5_15 := hr5_14.grown hg15 (by omega) (fun g hg => by have := hrow15 g hg; omega)
  have own71_15 := own_kept own71_14 hg15 (fun g hg => by have := hrow15 g hg; omega)
  have hs71_15 := Rd.bd (Rd.own own71_15) hs71_14 trivial
  have ho9_15 := own_kept ho9_14 hg15 (fun g hg => by have := hrow15 g hg; omega)
  have hr9_15 := Rd.bd (Rd.own ho9_15) hr9_14 trivial
  have hm15_15 := Rd.bd (Rd.own hk15) hr6_14 trivial
  go_wp2_with fail
  rw [show (1 : Int) + (ngs : Int) * 8 = ((1 + ngs * 8 : Nat) : Int) from by omega]
  refine (markGraph_any _ B7_1 (gr.es.length) d7_1 _ (1 + ngs * 8) _ _ own71_15 (by omega) (by omega)).mono ?_
  rintro e w16 ⟨rfl, hk16, hg16⟩
  have hz16 := hg16.size
  have hrow16 : ∀ g, (Value.slice B7_1 gr.es.length d7_1).ownBlock = some g → w6.heap.size ≤ g ∧ g < b7_1 := hrw71
  have hx16' := hx15'.grown hg16 (fun g hg => by have := hrow16 g hg; omega)
  have bx0_16 := bx0_15.grown hg16 (fun g hg => by have := hrow16 g hg; omega)
  have bx1_16 := bx1_15.grown hg16 (fun g hg => by have := hrow16 g hg; omega)
  clear z15_0_0 z15_0_1 z15_1_0 z15_1_1
  have z16_0_0 : w16.cell? ⟨w.heap.size, 0, none⟩ = some (.int .i64 gr.n) := bx0_16.cell 0
  have z16_0_1 : w16.cell? ⟨w.heap.size, 1, none⟩ = some (.slice Agr1 gr.es.length cgr1) := bx0_16.cell 1
  have z16_1_0 : w16.cell? ⟨w7.heap.size, 0, none⟩ = some (.int .i64 gr.n) := bx1_16.cell 0
  have z16_1_1 : w16.cell? ⟨w7.heap.size, 1, none⟩ = some (.slice B7_1 gr.es.length d7_1) := bx1_16.cell 1
  have hgs_16 := hgs_15.grown hg16 (by omega) (fun g hg => by have := hrow16 g hg; omega)
  have hgr_16 := hgr_15.grown hg16 (by omega) (fun g hg => by have := hrow16 g hg; omega)
  have hr5_16 := hr5_15.grown hg16 (by omega) (fun g hg => by have := hrow16 g hg; omega)
  have ho9_16 := own_kept ho9_15 hg16 (fun g hg => by have := hrow16 g hg; omega)
  have hr9_16 := Rd.bd (Rd.own ho9_16) hr9_15 trivial
  go_wp2_with fail
  refine (eqOpS_any A9 A5 ((ooAll gr gs).length) ((ooAll gr gs).length) c9 c5 ((ooAll gr gs)) ((ooAll gr gs)) _ (hr9_16.more (by omega)) (hr5_16.more (by omega)) (by omega) (by omega)).mono ?_
  rintro e w17 ⟨rfl, hy17⟩
  rw [eqL_self eqO eqO_self]
  have hz17 := hy17.size
  have hx17' := hx16'.trans hy17
  have bx0_17 := bx0_16.ext hy17
  have bx1_17 := bx1_16.ext hy17
  clear z16_0_0 z16_0_1 z16_1_0 z16_1_1
  have z17_0_0 : w17.cell? ⟨w.heap.size, 0, none⟩ = some (.int .i64 gr.n) := bx0_17.cell 0
  have z17_0_1 : w17.cell? ⟨w.heap.size, 1, none⟩ = some (.slice Agr1 gr.es.length cgr1) := bx0_17.cell 1
  have z17_1_0 : w17.cell? ⟨w7.heap.size, 0, none⟩ = some (.int .i64 gr.n) := bx1_17.cell 0
  have z17_1_1 : w17.cell? ⟨w7.heap.size, 1, none⟩ = some (.slice B7_1 gr.es.length d7_1) := bx1_17.cell 1
  have hgs_17 := hgs_16.up hy17 (by omega)
  have hgr_17 := hgr_16.up hy17 (by omega)
  have hr5_17 := hr5_16.up hy17 (by omega)
  have hr9_17 := hr9_16.up hy17 (by omega)
  have ho9_17 := own_ext ho9_16 hy17
  go_wp2_with fail
  refine (markOpS_any A9 ((ooAll gr gs).length) c9 _ (1) _ _ ho9_17 (by omega) (by omega)).mono ?_
  rintro e w18 ⟨rfl, hk18, hg18⟩
  have hz18 := hg18.size
  have hrow18 : ∀ g, (Value.slice A9 (ooAll gr gs).length c9).ownBlock = some g → w8.heap.size ≤ g ∧ g < w9.heap.size := hlt9
  have hx18' := hx17'.grown hg18 (fun g hg => by have := hrow18 g hg; omega)
  have bx0_18 := bx0_17.grown hg18 (fun g hg => by have := hrow18 g hg; omega)
  have bx1_18 := bx1_17.grown hg18 (fun g hg => by have := hrow18 g hg; omega)
  clear z17_0_0 z17_0_1 z17_1_0 z17_1_1
  have z18_0_0 : w18.cell? ⟨w.heap.size, 0, none⟩ = some (.int .i64 gr.n) := bx0_18.cell 0
  have z18_0_1 : w18.cell? ⟨w.heap.size, 1, none⟩ = some (.slice Agr1 gr.es.length cgr1) := bx0_18.cell 1
  have z18_1_0 : w18.cell? ⟨w7.heap.size, 0, none⟩ = some (.int .i64 gr.n) := bx1_18.cell 0
  have z18_1_1 : w18.cell? ⟨w7.heap.size, 1, none⟩ = some (.slice B7_1 gr.es.length d7_1) := bx1_18.cell 1
  have hgs_18 := hgs_17.grown hg18 (by omega) (fun g hg => by have := hrow18 g hg; omega)
  have hgr_18 := hgr_17.grown hg18 (by omega) (fun g hg => by have := hrow18 g hg; omega)
  have hr5_18 := hr5_17.grown hg18 (by omega) (fun g hg => by have := hrow18 g hg; omega)
  have hm18_18 := Rd.bd (Rd.own hk18) hr9_17 trivial
  go_wp2_with fail
  refine (heldOpS_any A9 ((ooAll gr gs).length) c9 (1) _ (hm18_18.more (by omega)) (by omega) (by omega)).mono ?_
  rintro e v ⟨rfl, rfl⟩
  go_wp2_with fail
  have HK3 : Hid (∀ w', Blk w' (w.heap.size) 32 #[.int .i64 gr.n, .slice Agr1 gr.es.length cgr1] → Blk w' (w7.heap.size) 43 #[.int .i64 gr.n, .slice B7_1 gr.es.length d7_1] → w'.cell? ⟨w.heap.size, 0, none⟩ = some (.int .i64 gr.n) ∧ w'.cell? ⟨w.heap.size, 1, none⟩ = some (.slice Agr1 gr.es.length cgr1) ∧ w'.cell? ⟨w7.heap.size, 0, none⟩ = some (.int .i64 gr.n) ∧ w'.cell? ⟨w7.heap.size, 1, none⟩ = some (.slice B7_1 gr.es.length d7_1)) := fun w' g0 g1 => ⟨g0.cell 0, g0.cell 1, g1.cell 0, g1.cell 1⟩
  have tok0 : True := trivial
  have tok1 : True := trivial
  have tok2 : True := trivial
  go_region_held3 (fun w' => w'.cell? ⟨w.heap.size, 0, none⟩ = some (.int .i64 gr.n) ∧ w'.cell? ⟨w.heap.size, 1, none⟩ = some (.slice Agr1 gr.es.length cgr1) ∧ w'.cell? ⟨w7.heap.size, 0, none⟩ = some (.int .i64 gr.n) ∧ w'.cell? ⟨w7.heap.size, 1, none⟩ = some (.slice B7_1 gr.es.length d7_1))
    (first | go_keep | exact HK3.out _ (by assumption) (by assumption))
    (first
            | (go_at_call 56; have _t := tok0; clear tok0 _t; refine (toOpS_any Ags ngs cgs gs _ ((hgs_18.up (Ext.refl w18).drew (by omega)).more (show _ ≤ w18.heap.size by omega)) (by omega)).mono ?_; rintro e w19 ⟨v19, rfl, ho19, hy19⟩; obtain ⟨A19, c19, rfl, hr19⟩ := own_slice ho19; have hlt19 : ∀ g, (Value.slice A19 (ngs) c19).ownBlock = some g → w18.heap.size ≤ g ∧ g < w19.heap.size := fun g hg => ho19.lt g hg; replace hy19 : Ext w18 w19 := Ext.trans (Ext.refl w18).drew hy19; have hz19 := hy19.size; have hx19' := hx18'.trans hy19; have bx0_19 := bx0_18.ext hy19; have bx1_19 := bx1_18.ext hy19; clear z18_0_0 z18_0_1 z18_1_0 z18_1_1; have z19_0_0 : w19.cell? ⟨w.heap.size, 0, none⟩ = some (.int .i64 gr.n) := bx0_19.cell 0; have z19_0_1 : w19.cell? ⟨w.heap.size, 1, none⟩ = some (.slice Agr1 gr.es.length cgr1) := bx0_19.cell 1; have z19_1_0 : w19.cell? ⟨w7.heap.size, 0, none⟩ = some (.int .i64 gr.n) := bx1_19.cell 0; have z19_1_1 : w19.cell? ⟨w7.heap.size, 1, none⟩ = some (.slice B7_1 gr.es.length d7_1) := bx1_19.cell 1; have hgs_19 := hgs_18.up hy19 (by omega); have hgr_19 := hgr_18.up hy19 (by omega); have hr5_19 := hr5_18.up hy19 (by omega); have hm18_19 := hm18_18.up hy19 (by omega); have hk18_19 := own_ext hk18 hy19)
            | (go_at_call 32; have _t := tok1; clear tok1 _t; refine (toGraph_own (.agg #[.int .i64 gr.n, .slice Agr1 gr.es.length cgr1]) gr _ (hgr_19.more (by omega)) hsmgr).mono ?_; rintro e w20 ⟨v20, b20_1, rfl, ho20, hb20, hy20⟩; obtain ⟨hb20_0, hb20_1⟩ := hb20; have hr20 := ho20.at_; have hz20 := hy20.size; have hx20' := hx19'.trans hy20; have bx0_20 := bx0_19.ext hy20; have bx1_20 := bx1_19.ext hy20; clear z19_0_0 z19_0_1 z19_1_0 z19_1_1; have z20_0_0 : w20.cell? ⟨w.heap.size, 0, none⟩ = some (.int .i64 gr.n) := bx0_20.cell 0; have z20_0_1 : w20.cell? ⟨w.heap.size, 1, none⟩ = some (.slice Agr1 gr.es.length cgr1) := bx0_20.cell 1; have z20_1_0 : w20.cell? ⟨w7.heap.size, 0, none⟩ = some (.int .i64 gr.n) := bx1_20.cell 0; have z20_1_1 : w20.cell? ⟨w7.heap.size, 1, none⟩ = some (.slice B7_1 gr.es.length d7_1) := bx1_20.cell 1; have hgs_20 := hgs_19.up hy20 (by omega); have hgr_20 := hgr_19.up hy20 (by omega); have hr5_20 := hr5_19.up hy20 (by omega); have hm18_20 := hm18_19.up hy20 (by omega); have hk18_20 := own_ext hk18_19 hy20; have hr19_20 := hr19.up hy20 (by omega); have ho19_20 := own_ext ho19 hy20)
            | (go_at_call 57; have _t := tok2; clear tok2 _t; refine (impl_OrientOps_any A19 ngs c19 gs v20 gr _ (hr19_20.more (by omega)) (hr20.more (by omega)) (by omega) (by omega)).mono ?_; rintro e w21 ⟨v21, rfl, ho21, hy21⟩; obtain ⟨A21, c21, rfl, hr21⟩ := own_slice ho21; have hlt21 : ∀ g, (Value.slice A21 ((ooAll gr gs).length) c21).ownBlock = some g → w20.heap.size ≤ g ∧ g < w21.heap.size := fun g hg => ho21.lt g hg; have hz21 := hy21.size; have hx21' := hx20'.trans hy21; have bx0_21 := bx0_20.ext hy21; have bx1_21 := bx1_20.ext hy21; clear z20_0_0 z20_0_1 z20_1_0 z20_1_1; have z21_0_0 : w21.cell? ⟨w.heap.size, 0, none⟩ = some (.int .i64 gr.n) := bx0_21.cell 0; have z21_0_1 : w21.cell? ⟨w.heap.size, 1, none⟩ = some (.slice Agr1 gr.es.length cgr1) := bx0_21.cell 1; have z21_1_0 : w21.cell? ⟨w7.heap.size, 0, none⟩ = some (.int .i64 gr.n) := bx1_21.cell 0; have z21_1_1 : w21.cell? ⟨w7.heap.size, 1, none⟩ = some (.slice B7_1 gr.es.length d7_1) := bx1_21.cell 1; have hgs_21 := hgs_20.up hy21 (by omega); have hgr_21 := hgr_20.up hy21 (by omega); have hr5_21 := hr5_20.up hy21 (by omega); have hm18_21 := hm18_20.up hy21 (by omega); have hk18_21 := own_ext hk18_20 hy21; have hr19_21 := hr19_20.up hy21 (by omega); have ho19_21 := own_ext ho19_20 hy21; have hr20_21 := hr20.up hy21 (by omega)))
  go_wp2_with fail
  refine (eqOpS_any A21 A5 ((ooAll gr gs).length) ((ooAll gr gs).length) c21 c5 ((ooAll gr gs)) ((ooAll gr gs)) _ (hr21.more (by omega)) (hr5_21.more (by omega)) (by omega) (by omega)).mono ?_
  rintro e w22 ⟨rfl, hy22⟩
  rw [eqL_self eqO eqO_self]
  have hz22 := hy22.size
  have hx22' := hx21'.trans hy22
  have bx0_22 := bx0_21.ext hy22
  have bx1_22 := bx1_21.ext hy22
  clear z21_0_0 z21_0_1 z21_1_0 z21_1_1
  have z22_0_0 : w22.cell? ⟨w.heap.size, 0, none⟩ = some (.int .i64 gr.n) := bx0_22.cell 0
  have z22_0_1 : w22.cell? ⟨w.heap.size, 1, none⟩ = some (.slice Agr1 gr.es.length cgr1) := bx0_22.cell 1
  have z22_1_0 : w22.cell? ⟨w7.heap.size, 0, none⟩ = some (.int .i64 gr.n) := bx1_22.cell 0
  have z22_1_1 : w22.cell? ⟨w7.heap.size, 1, none⟩ = some (.slice B7_1 gr.es.length d7_1) := bx1_22.cell 1
  have hgs_22 := hgs_21.up hy22 (by omega)
  have hgr_22 := hgr_21.up hy22 (by omega)
  have hr5_22 := hr5_21.up hy22 (by omega)
  have hm18_22 := hm18_21.up hy22 (by omega)
  have hk18_22 := own_ext hk18_21 hy22
  have hr19_22 := hr19_21.up hy22 (by omega)
  have ho19_22 := own_ext ho19_21 hy22
  have hr20_22 := hr20_21.up hy22 (by omega)
  have hr21_22 := hr21.up hy22 (by omega)
  have ho21_22 := own_ext ho21 hy22
  go_wp2_with fail
  refine (heldOpS_any A9 ((ooAll gr gs).length) c9 (1) _ (hm18_22.more (by omega)) (by omega) (by omega)).mono ?_
  rintro e v ⟨rfl, rfl⟩
  go_wp2
  go_ret
  exact ⟨rfl, hx22'⟩
set_option maxRecDepth 100000 in
theorem lifted (os : Os) (started : os.Started) (H : Type) (enc : TypeId × Value → H) :
    ReturnsInHanded {} Try.checked os 10 .any (Rows.fnExactOrientOpsSpec.pre6 enc Try.prog Try.f10 Rows.fnExactOrientOpsRow.domain false) (Rows.fnExactOrientOpsSpec.post enc Try.prog Try.f10 false true false false) := by
  refine returnsInHanded_of_change (C := Try.checked) own started (by kernel_rfl) Try.func10
    (ChangeSpec.witness6 (enc := enc) (C := Try.checked) false ⟨#[], #[.slice none 0 0, .agg #[.int .i64 0, .slice none 0 0]], []⟩ 8 (by kernel_rfl) (by kernel_rfl) (by kernel_rfl) (by kernel_rfl)) ?_
  intro W base args ds gs before hval0 hW hcnd _
  have hval : ∀ (j : Nat) t v, Try.f10.params[j]? = some t → args[j]? = some v → Value.okWide Try.prog W .any base t v := hval0
  have hW' := hW
  obtain ⟨p, q, hA0, hV, rfl, hfz, hnd⟩ := hW
  have hA : DataW.TrodAll enc Try.prog W 0 (fun _ => true) true Try.f10.params.toList args.toList ds p := hA0
  rw [Try.params10] at hA hval
  obtain ⟨v0, vs0, d0, ds0, p0, q0, hargs, rfl, rfl, h0, r0⟩ := trodAll_cons hA
  obtain ⟨v1, vs1, d1, ds1, p1, q1, rfl, rfl, rfl, h1, r1⟩ := trodAll_cons r0
  obtain ⟨rfl, rfl, rfl⟩ := trodAll_nil r1
  obtain rfl : args = #[v0, v1] := by cases args; simp_all
  clear hA0 hval0 hfz hnd hV hcnd
  obtain ⟨Ags, ngs, cgs, gs, rfl, hnc0, hcm0, hr0, hok0⟩ := open_lops (hval 0 _ v0 rfl rfl) h0
  obtain ⟨gr, hr1, hok1⟩ := open_lgraph (hval 1 _ v1 rfl rfl) h1
  refine (walk Ags ngs cgs gs v1 gr W hr0 (by omega) hok0 hr1 hok1).mono fun e W' ⟨he, hx⟩ => ?_
  subst he
  exact ⟨_, rfl, law_post rfl (by rw [Try.params10]; decide +kernel) rfl hW' rfl rfl rfl hx⟩

theorem over : Rows.fnExactOrientOpsRow.holds Try.pinned (OpenSpec.ofChange Rows.fnExactOrientOpsSpec) :=
  OpenClaim.holds_of_wide 10 Try.f10 rfl rfl rfl rfl rfl rfl rfl ⟨rfl, rfl, rfl, rfl, rfl⟩ rfl rfl rfl rfl rfl (by kernel_rfl) Try.func10 (by kernel_rfl)
    (of_decide_eq_true (by kernel_rfl)) (by unfold Func.isWrapper; first | (rw [if_pos (by decide +kernel)]; kernel_rfl) | (rw [if_neg (by decide +kernel)]; exact ⟨rfl, rfl⟩))
    (fun os started H enc _ => lifted os started H enc)

/-- The statement. -/
theorem proved : Rows.FnExactOrientOpsSaid := over
#print axioms proved

end fnExactOrientOps
end Go.Proofs.Ytnnenocjmkbocaa
