/-
  For every input, the law FnExactIsExecutable returns true: the program's IsExecutable and the reference's return the same, and the arguments are left alone. No condition.
-/
import Derived.Test.YthnbenlglnmehaaExe
namespace Go.Proofs.Ythnbenlglnmehaa
open Go.ChangeShapes Go.WideShapes Go.ChangeAt Go.RowKit Go.Deep
set_option linter.unusedVariables false
namespace fnExactIsExecutable
set_option maxRecDepth 100000 in
set_option maxHeartbeats 2000000 in
theorem walk (Ags : Option Addr) (ngs cgs : Nat) (gs : List Gt) (vgr : Value) (gr : Gr) (w : World) (hgs : Rd w w.heap.size 4 Ags ngs (gcells gs)) (hmgs : ngs ≤ maxLen) (hokgs : ∀ x ∈ gs, x.ok) (hgr : GrAt w w.heap.size vgr gr) (hokgr : gr.ok) :
    Calls Try.prog 13 #[.slice Ags ngs cgs, vgr] w fun e w' => e = .returned (.bool true) ∧ Ext w w' := by
  obtain ⟨Agr1, cgr1, rfl, hh0⟩ := hgr
  have hgr : GrAt w w.heap.size (.agg #[.int .i64 gr.n, .slice Agr1 gr.es.length cgr1]) gr := ⟨Agr1, cgr1, rfl, hh0⟩
  clear hh0
  go_enter Try.func13, Try.ntmps13
  have hx0 : Ext w w := Ext.refl w
  go_wp2_with fail
  have hy1 : Ext w (w.alloc (.cells #[.int .i64 gr.n, .slice Agr1 gr.es.length cgr1] 70)) := by repeat (first | exact Ext.refl _ | assumption | refine Ext.alloc ?_ _ | refine Ext.drewN ?_ _ | refine Ext.drew ?_)
  have bx0_1 : Blk (w.alloc (.cells #[.int .i64 gr.n, .slice Agr1 gr.es.length cgr1] 70)) (w.heap.size) 70 #[.int .i64 gr.n, .slice Agr1 gr.es.length cgr1] := Blk.newAt (b := w.heap.size) (by simp)
  generalize (w.alloc (.cells #[.int .i64 gr.n, .slice Agr1 gr.es.length cgr1] 70)) = w1 at *
  have lb0 := bx0_1.lt
  have hz1 := hy1.size
  have hx1' := hx0.trans hy1
  have z1_0_0 : w1.cell? ⟨w.heap.size, 0, none⟩ = some (.int .i64 gr.n) := bx0_1.cell 0
  have z1_0_1 : w1.cell? ⟨w.heap.size, 1, none⟩ = some (.slice Agr1 gr.es.length cgr1) := bx0_1.cell 1
  have hgs_1 := hgs.up hy1 (by omega)
  have hgr_1 := hgr.up hy1 (by omega)
  refine (szGateS_any Ags ngs cgs _ _ (by omega) (by omega) hmgs).mono ?_
  rintro e v ⟨rfl, rfl⟩
  by_cases hngs : (1048576 : Int) < ngs
  · rw [szF_lt (by omega)]
    go_wp2
    go_ret
    exact ⟨rfl, hx1'⟩
  rw [szF_ge (by omega)]
  go_wp2_with fail
  refine (szGraph_any (.agg #[.int .i64 gr.n, .slice Agr1 gr.es.length cgr1]) gr _ _ (hgr_1.more (by omega)) (by omega) (by omega) hokgr.2.1).mono ?_
  rintro e w2 ⟨rfl, hy2⟩
  have hz2 := hy2.size
  have hx2' := hx1'.trans hy2
  have bx0_2 := bx0_1.ext hy2
  clear z1_0_0 z1_0_1
  have z2_0_0 : w2.cell? ⟨w.heap.size, 0, none⟩ = some (.int .i64 gr.n) := bx0_2.cell 0
  have z2_0_1 : w2.cell? ⟨w.heap.size, 1, none⟩ = some (.slice Agr1 gr.es.length cgr1) := bx0_2.cell 1
  have hgs_2 := hgs_1.up hy2 (by omega)
  have hgr_2 := hgr_1.up hy2 (by omega)
  by_cases hngr : (1048576 - ngs : Int) < (gr.es.length : Nat)
  · rw [szF_lt (by omega)]
    go_wp2
    go_ret
    exact ⟨rfl, hx2'⟩
  rw [szF_ge (by omega)]
  have hsmgr : gr.small := by unfold Gr.small; omega
  go_wp2_with fail
  have HK1 : Hid (∀ w', Blk w' (w.heap.size) 70 #[.int .i64 gr.n, .slice Agr1 gr.es.length cgr1] → w'.cell? ⟨w.heap.size, 0, none⟩ = some (.int .i64 gr.n) ∧ w'.cell? ⟨w.heap.size, 1, none⟩ = some (.slice Agr1 gr.es.length cgr1)) := fun w' g0 => ⟨g0.cell 0, g0.cell 1⟩
  have tok0 : True := trivial
  have tok1 : True := trivial
  have tok2 : True := trivial
  go_region_held3 (fun w' => w'.cell? ⟨w.heap.size, 0, none⟩ = some (.int .i64 gr.n) ∧ w'.cell? ⟨w.heap.size, 1, none⟩ = some (.slice Agr1 gr.es.length cgr1))
    (first | go_keep | exact HK1.out _ (by assumption))
    (first
            | (go_at_call 18; have _t := tok0; clear tok0 _t; refine (toGateS_any Ags ngs cgs gs _ ((hgs_2.up (Ext.refl w2).drew (by omega)).more (show _ ≤ w2.heap.size by omega)) (by omega)).mono ?_; rintro e w3 ⟨v3, rfl, ho3, hy3⟩; obtain ⟨A3, c3, rfl, hr3⟩ := own_slice ho3; have hlt3 : ∀ g, (Value.slice A3 (ngs) c3).ownBlock = some g → w2.heap.size ≤ g ∧ g < w3.heap.size := fun g hg => ho3.lt g hg; replace hy3 : Ext w2 w3 := Ext.trans (Ext.refl w2).drew hy3; have hz3 := hy3.size; have hx3' := hx2'.trans hy3; have bx0_3 := bx0_2.ext hy3; clear z2_0_0 z2_0_1; have z3_0_0 : w3.cell? ⟨w.heap.size, 0, none⟩ = some (.int .i64 gr.n) := bx0_3.cell 0; have z3_0_1 : w3.cell? ⟨w.heap.size, 1, none⟩ = some (.slice Agr1 gr.es.length cgr1) := bx0_3.cell 1; have hgs_3 := hgs_2.up hy3 (by omega); have hgr_3 := hgr_2.up hy3 (by omega))
            | (go_at_call 53; have _t := tok1; clear tok1 _t; refine (toGraph_own (.agg #[.int .i64 gr.n, .slice Agr1 gr.es.length cgr1]) gr _ (hgr_3.more (by omega)) hsmgr).mono ?_; rintro e w4 ⟨v4, b4_1, rfl, ho4, hb4, hy4⟩; obtain ⟨hb4_0, hb4_1⟩ := hb4; have hr4 := ho4.at_; have hz4 := hy4.size; have hx4' := hx3'.trans hy4; have bx0_4 := bx0_3.ext hy4; clear z3_0_0 z3_0_1; have z4_0_0 : w4.cell? ⟨w.heap.size, 0, none⟩ = some (.int .i64 gr.n) := bx0_4.cell 0; have z4_0_1 : w4.cell? ⟨w.heap.size, 1, none⟩ = some (.slice Agr1 gr.es.length cgr1) := bx0_4.cell 1; have hgs_4 := hgs_3.up hy4 (by omega); have hgr_4 := hgr_3.up hy4 (by omega); have hr3_4 := hr3.up hy4 (by omega); have ho3_4 := own_ext ho3 hy4)
            | (go_at_call 52; have _t := tok2; clear tok2 _t; refine (spec_IsExecutable_any A3 ngs c3 gs v4 gr _ (hr3_4.more (by omega)) (hr4.more (by omega)) (by omega) (by have := hsmgr; unfold Gr.small at this; omega)).mono ?_; rintro e w5 ⟨rfl, hy5⟩; have hz5 := hy5.size; have hx5' := hx4'.trans hy5; have bx0_5 := bx0_4.ext hy5; clear z4_0_0 z4_0_1; have z5_0_0 : w5.cell? ⟨w.heap.size, 0, none⟩ = some (.int .i64 gr.n) := bx0_5.cell 0; have z5_0_1 : w5.cell? ⟨w.heap.size, 1, none⟩ = some (.slice Agr1 gr.es.length cgr1) := bx0_5.cell 1; have hgs_5 := hgs_4.up hy5 (by omega); have hgr_5 := hgr_4.up hy5 (by omega); have hr3_5 := hr3_4.up hy5 (by omega); have ho3_5 := own_ext ho3_4 hy5; have hr4_5 := hr4.up hy5 (by omega)))
  go_wp2_with fail
  refine (toGateS_any Ags ngs cgs gs _ (hgs_5.more (by omega)) (by omega)).mono ?_
  rintro e w6 ⟨v6, rfl, ho6, hy6⟩
  obtain ⟨A6, c6, rfl, hr6⟩ := own_slice ho6
  have hlt6 : ∀ g, (Value.slice A6 (ngs) c6).ownBlock = some g → w5.heap.size ≤ g ∧ g < w6.heap.size := fun g hg => ho6.lt g hg
  have hz6 := hy6.size
  have hx6' := hx5'.trans hy6
  have bx0_6 := bx0_5.ext hy6
  clear z5_0_0 z5_0_1
  have z6_0_0 : w6.cell? ⟨w.heap.size, 0, none⟩ = some (.int .i64 gr.n) := bx0_6.cell 0
  have z6_0_1 : w6.cell? ⟨w.heap.size, 1, none⟩ = some (.slice Agr1 gr.es.length cgr1) := bx0_6.cell 1
  have hgs_6 := hgs_5.up hy6 (by omega)
  have hgr_6 := hgr_5.up hy6 (by omega)
  go_wp2_with fail
  refine (toGraph_own (.agg #[.int .i64 gr.n, .slice Agr1 gr.es.length cgr1]) gr _ (hgr_6.more (by omega)) hsmgr).mono ?_
  rintro e w7 ⟨v7, b7_1, rfl, ho7, hb7, hy7⟩
  obtain ⟨hb7_0, hb7_1⟩ := hb7
  have hr7 := ho7.at_
  have hz7 := hy7.size
  have hx7' := hx6'.trans hy7
  have bx0_7 := bx0_6.ext hy7
  clear z6_0_0 z6_0_1
  have z7_0_0 : w7.cell? ⟨w.heap.size, 0, none⟩ = some (.int .i64 gr.n) := bx0_7.cell 0
  have z7_0_1 : w7.cell? ⟨w.heap.size, 1, none⟩ = some (.slice Agr1 gr.es.length cgr1) := bx0_7.cell 1
  have hgs_7 := hgs_6.up hy7 (by omega)
  have hgr_7 := hgr_6.up hy7 (by omega)
  have hr6_7 := hr6.up hy7 (by omega)
  have ho6_7 := own_ext ho6 hy7
  obtain ⟨B7_1, d7_1, rfl, hown7⟩ := ho7
  obtain ⟨own7_1, lt7_1⟩ := hown7
  have lb0_7 := bx0_7.lt
  go_wp2_with fail
  have hy8 : Ext w7 (w7.alloc (.cells #[.int .i64 gr.n, .slice B7_1 gr.es.length d7_1] 75)) := (Ext.refl _).alloc _
  have bx1_8 : Blk (w7.alloc (.cells #[.int .i64 gr.n, .slice B7_1 gr.es.length d7_1] 75)) (w7.heap.size) 75 #[.int .i64 gr.n, .slice B7_1 gr.es.length d7_1] := Blk.new _ _ _
  generalize (w7.alloc (.cells #[.int .i64 gr.n, .slice B7_1 gr.es.length d7_1] 75)) = w8 at *
  have lb1 := bx1_8.lt
  have hz8 := hy8.size
  have hx8' := hx7'.trans hy8
  have bx0_8 := bx0_7.ext hy8
  clear z7_0_0 z7_0_1
  have z8_0_0 : w8.cell? ⟨w.heap.size, 0, none⟩ = some (.int .i64 gr.n) := bx0_8.cell 0
  have z8_0_1 : w8.cell? ⟨w.heap.size, 1, none⟩ = some (.slice Agr1 gr.es.length cgr1) := bx0_8.cell 1
  have z8_1_0 : w8.cell? ⟨w7.heap.size, 0, none⟩ = some (.int .i64 gr.n) := bx1_8.cell 0
  have z8_1_1 : w8.cell? ⟨w7.heap.size, 1, none⟩ = some (.slice B7_1 gr.es.length d7_1) := bx1_8.cell 1
  have hgs_8 := hgs_7.up hy8 (by omega)
  have hgr_8 := hgr_7.up hy8 (by omega)
  have hr6_8 := hr6_7.up hy8 (by omega)
  have ho6_8 := own_ext ho6_7 hy8
  have hr7_8 := hr7.up hy8 (by omega)
  refine (impl_IsExecutable_any A6 ngs c6 gs (.agg #[.int .i64 gr.n, .slice B7_1 gr.es.length d7_1]) gr _ (hr6_8.more (by omega)) (hr7_8.more (by omega)) (by omega) (by have := hsmgr; unfold Gr.small at this; omega)).mono ?_
  rintro e w9 ⟨rfl, hy9⟩
  have hz9 := hy9.size
  have hx9' := hx8'.trans hy9
  have bx0_9 := bx0_8.ext hy9
  have bx1_9 := bx1_8.ext hy9
  clear z8_0_0 z8_0_1 z8_1_0 z8_1_1
  have z9_0_0 : w9.cell? ⟨w.heap.size, 0, none⟩ = some (.int .i64 gr.n) := bx0_9.cell 0
  have z9_0_1 : w9.cell? ⟨w.heap.size, 1, none⟩ = some (.slice Agr1 gr.es.length cgr1) := bx0_9.cell 1
  have z9_1_0 : w9.cell? ⟨w7.heap.size, 0, none⟩ = some (.int .i64 gr.n) := bx1_9.cell 0
  have z9_1_1 : w9.cell? ⟨w7.heap.size, 1, none⟩ = some (.slice B7_1 gr.es.length d7_1) := bx1_9.cell 1
  have hgs_9 := hgs_8.up hy9 (by omega)
  have hgr_9 := hgr_8.up hy9 (by omega)
  have hr6_9 := hr6_8.up hy9 (by omega)
  have ho6_9 := own_ext ho6_8 hy9
  have hr7_9 := hr7_8.up hy9 (by omega)
  go_wp2_with fail
  refine (toGateS_any Ags ngs cgs gs _ (hgs_9.more (by omega)) (by omega)).mono ?_
  rintro e w10 ⟨v10, rfl, ho10, hy10⟩
  obtain ⟨A10, c10, rfl, hr10⟩ := own_slice ho10
  have hlt10 : ∀ g, (Value.slice A10 (ngs) c10).ownBlock = some g → w9.heap.size ≤ g ∧ g < w10.heap.size := fun g hg => ho10.lt g hg
  have hz10 := hy10.size
  have hx10' := hx9'.trans hy10
  have bx0_10 := bx0_9.ext hy10
  have bx1_10 := bx1_9.ext hy10
  clear z9_0_0 z9_0_1 z9_1_0 z9_1_1
  have z10_0_0 : w10.cell? ⟨w.heap.size, 0, none⟩ = some (.int .i64 gr.n) := bx0_10.cell 0
  have z10_0_1 : w10.cell? ⟨w.heap.size, 1, none⟩ = some (.slice Agr1 gr.es.length cgr1) := bx0_10.cell 1
  have z10_1_0 : w10.cell? ⟨w7.heap.size, 0, none⟩ = some (.int .i64 gr.n) := bx1_10.cell 0
  have z10_1_1 : w10.cell? ⟨w7.heap.size, 1, none⟩ = some (.slice B7_1 gr.es.length d7_1) := bx1_10.cell 1
  have hgs_10 := hgs_9.up hy10 (by omega)
  have hgr_10 := hgr_9.up hy10 (by omega)
  have hr6_10 := hr6_9.up hy10 (by omega)
  have ho6_10 := own_ext ho6_9 hy10
  have hr7_10 := hr7_9.up hy10 (by omega)
  go_wp2_with fail
  refine (eqGateS_any A6 A10 (ngs) (ngs) c6 c10 (gs) (gs) _ (hr6_10.more (by omega)) (hr10.more (by omega)) (by omega) (by omega)).mono ?_
  rintro e w11 ⟨rfl, hy11⟩
  rw [eqL_self eqG eqG_self]
  have hz11 := hy11.size
  have hx11' := hx10'.trans hy11
  have bx0_11 := bx0_10.ext hy11
  have bx1_11 := bx1_10.ext hy11
  clear z10_0_0 z10_0_1 z10_1_0 z10_1_1
  have z11_0_0 : w11.cell? ⟨w.heap.size, 0, none⟩ = some (.int .i64 gr.n) := bx0_11.cell 0
  have z11_0_1 : w11.cell? ⟨w.heap.size, 1, none⟩ = some (.slice Agr1 gr.es.length cgr1) := bx0_11.cell 1
  have z11_1_0 : w11.cell? ⟨w7.heap.size, 0, none⟩ = some (.int .i64 gr.n) := bx1_11.cell 0
  have z11_1_1 : w11.cell? ⟨w7.heap.size, 1, none⟩ = some (.slice B7_1 gr.es.length d7_1) := bx1_11.cell 1
  have hgs_11 := hgs_10.up hy11 (by omega)
  have hgr_11 := hgr_10.up hy11 (by omega)
  have hr6_11 := hr6_10.up hy11 (by omega)
  have ho6_11 := own_ext ho6_10 hy11
  have hr7_11 := hr7_10.up hy11 (by omega)
  have hr10_11 := hr10.up hy11 (by omega)
  have ho10_11 := own_ext ho10 hy11
  go_wp2_with fail
  have HK2 : Hid (∀ w', Blk w' (w.heap.size) 70 #[.int .i64 gr.n, .slice Agr1 gr.es.length cgr1] → Blk w' (w7.heap.size) 75 #[.int .i64 gr.n, .slice B7_1 gr.es.length d7_1] → w'.cell? ⟨w.heap.size, 0, none⟩ = some (.int .i64 gr.n) ∧ w'.cell? ⟨w.heap.size, 1, none⟩ = some (.slice Agr1 gr.es.length cgr1) ∧ w'.cell? ⟨w7.heap.size, 0, none⟩ = some (.int .i64 gr.n) ∧ w'.cell? ⟨w7.heap.size, 1, none⟩ = some (.slice B7_1 gr.es.length d7_1)) := fun w' g0 g1 => ⟨g0.cell 0, g0.cell 1, g1.cell 0, g1.cell 1⟩
  have tok0 : True := trivial
  have tok1 : True := trivial
  go_region_held3 (fun w' => w'.cell? ⟨w.heap.size, 0, none⟩ = some (.int .i64 gr.n) ∧ w'.cell? ⟨w.heap.size, 1, none⟩ = some (.slice Agr1 gr.es.length cgr1) ∧ w'.cell? ⟨w7.heap.size, 0, none⟩ = some (.int .i64 gr.n) ∧ w'.cell? ⟨w7.heap.size, 1, none⟩ = some (.slice B7_1 gr.es.length d7_1))
    (first | go_keep | exact HK2.out _ (by assumption) (by assumption))
    (first
            | (go_at_call 53; have _t := tok0; clear tok0 _t; refine (toGraph_own (.agg #[.int .i64 gr.n, .slice Agr1 gr.es.length cgr1]) gr _ ((hgr_11.up (Ext.refl w11).drew (by omega)).more (show _ ≤ w11.heap.size by omega)) hsmgr).mono ?_; rintro e w12 ⟨v12, b12_1, rfl, ho12, hb12, hy12⟩; obtain ⟨hb12_0, hb12_1⟩ := hb12; have hr12 := ho12.at_; replace hy12 : Ext w11 w12 := Ext.trans (Ext.refl w11).drew hy12; have hz12 := hy12.size; have hx12' := hx11'.trans hy12; have bx0_12 := bx0_11.ext hy12; have bx1_12 := bx1_11.ext hy12; clear z11_0_0 z11_0_1 z11_1_0 z11_1_1; have z12_0_0 : w12.cell? ⟨w.heap.size, 0, none⟩ = some (.int .i64 gr.n) := bx0_12.cell 0; have z12_0_1 : w12.cell? ⟨w.heap.size, 1, none⟩ = some (.slice Agr1 gr.es.length cgr1) := bx0_12.cell 1; have z12_1_0 : w12.cell? ⟨w7.heap.size, 0, none⟩ = some (.int .i64 gr.n) := bx1_12.cell 0; have z12_1_1 : w12.cell? ⟨w7.heap.size, 1, none⟩ = some (.slice B7_1 gr.es.length d7_1) := bx1_12.cell 1; have hgs_12 := hgs_11.up hy12 (by omega); have hgr_12 := hgr_11.up hy12 (by omega); have hr6_12 := hr6_11.up hy12 (by omega); have ho6_12 := own_ext ho6_11 hy12; have hr7_12 := hr7_11.up hy12 (by omega))
            | (go_at_call 55; have _t := tok1; clear tok1 _t; refine (eqGraph_any (.agg #[.int .i64 gr.n, .slice B7_1 gr.es.length d7_1]) v12 gr gr _ (hr7_12.more (by omega)) (hr12.more (by omega)) (by have := hsmgr; unfold Gr.small at this; omega)).mono ?_; rintro e w13 ⟨rfl, hy13⟩; rw [eqGr_self]; have hz13 := hy13.size; have hx13' := hx12'.trans hy13; have bx0_13 := bx0_12.ext hy13; have bx1_13 := bx1_12.ext hy13; clear z12_0_0 z12_0_1 z12_1_0 z12_1_1; have z13_0_0 : w13.cell? ⟨w.heap.size, 0, none⟩ = some (.int .i64 gr.n) := bx0_13.cell 0; have z13_0_1 : w13.cell? ⟨w.heap.size, 1, none⟩ = some (.slice Agr1 gr.es.length cgr1) := bx0_13.cell 1; have z13_1_0 : w13.cell? ⟨w7.heap.size, 0, none⟩ = some (.int .i64 gr.n) := bx1_13.cell 0; have z13_1_1 : w13.cell? ⟨w7.heap.size, 1, none⟩ = some (.slice B7_1 gr.es.length d7_1) := bx1_13.cell 1; have hgs_13 := hgs_12.up hy13 (by omega); have hgr_13 := hgr_12.up hy13 (by omega); have hr6_13 := hr6_12.up hy13 (by omega); have ho6_13 := own_ext ho6_12 hy13; have hr7_13 := hr7_12.up hy13 (by omega); have hr12_13 := hr12.up hy13 (by omega)))
  go_wp2
  go_ret
  exact ⟨rfl, hx13'⟩
set_option maxRecDepth 100000 in
theorem lifted (os : Os) (started : os.Started) (H : Type) (enc : TypeId × Value → H) :
    ReturnsInHanded {} Try.checked os 13 .any (Rows.fnExactIsExecutableSpec.pre6 enc Try.prog Try.f13 Rows.fnExactIsExecutableRow.domain false) (Rows.fnExactIsExecutableSpec.post enc Try.prog Try.f13 false true false false) := by
  refine returnsInHanded_of_change (C := Try.checked) own started (by kernel_rfl) Try.func13
    (ChangeSpec.witness6 (enc := enc) (C := Try.checked) false ⟨#[], #[.slice none 0 0, .agg #[.int .i64 0, .slice none 0 0]], []⟩ 8 (by kernel_rfl) (by kernel_rfl) (by kernel_rfl) (by kernel_rfl)) ?_
  intro W base args ds gs before hval0 hW hcnd _
  have hval : ∀ (j : Nat) t v, Try.f13.params[j]? = some t → args[j]? = some v → Value.okWide Try.prog W .any base t v := hval0
  have hW' := hW
  obtain ⟨p, q, hA0, hV, rfl, hfz, hnd⟩ := hW
  have hA : DataW.TrodAll enc Try.prog W 0 (fun _ => true) true Try.f13.params.toList args.toList ds p := hA0
  rw [Try.params13] at hA hval
  obtain ⟨v0, vs0, d0, ds0, p0, q0, hargs, rfl, rfl, h0, r0⟩ := trodAll_cons hA
  obtain ⟨v1, vs1, d1, ds1, p1, q1, rfl, rfl, rfl, h1, r1⟩ := trodAll_cons r0
  obtain ⟨rfl, rfl, rfl⟩ := trodAll_nil r1
  obtain rfl : args = #[v0, v1] := by cases args; simp_all
  clear hA0 hval0 hfz hnd hV hcnd
  obtain ⟨Ags, ngs, cgs, gs, rfl, hnc0, hcm0, hr0, hok0⟩ := open_lgates (hval 0 _ v0 rfl rfl) h0
  obtain ⟨gr, hr1, hok1⟩ := open_lgraph (hval 1 _ v1 rfl rfl) h1
  refine (walk Ags ngs cgs gs v1 gr W hr0 (by omega) hok0 hr1 hok1).mono fun e W' ⟨he, hx⟩ => ?_
  subst he
  exact ⟨_, rfl, law_post rfl (by rw [Try.params13]; decide +kernel) rfl hW' rfl rfl rfl hx⟩

theorem over : Rows.fnExactIsExecutableRow.holds Try.pinned (OpenSpec.ofChange Rows.fnExactIsExecutableSpec) :=
  OpenClaim.holds_of_wide 13 Try.f13 rfl rfl rfl rfl rfl rfl rfl ⟨rfl, rfl, rfl, rfl, rfl⟩ rfl rfl rfl rfl rfl (by kernel_rfl) Try.func13 (by kernel_rfl)
    (of_decide_eq_true (by kernel_rfl)) (by unfold Func.isWrapper; first | (rw [if_pos (by decide +kernel)]; kernel_rfl) | (rw [if_neg (by decide +kernel)]; exact ⟨rfl, rfl⟩))
    (fun os started H enc _ => lifted os started H enc)

/-- The statement. -/
theorem proved : Rows.FnExactIsExecutableSaid := over
#print axioms proved

end fnExactIsExecutable
end Go.Proofs.Ythnbenlglnmehaa
