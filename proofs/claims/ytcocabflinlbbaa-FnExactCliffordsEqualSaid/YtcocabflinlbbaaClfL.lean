/-
  For every input, the law FnExactCliffordsEqual returns true: the program's CliffordsEqual and the reference's return the same, and the arguments are left alone. No condition.
-/
import Derived.Test.YtcocabflinlbbaaTbo
import Derived.Test.YtcocabflinlbbaaTbq
namespace Go.Proofs.Ytcocabflinlbbaa
open Go.ChangeShapes Go.WideShapes Go.ChangeAt Go.RowKit Go.Deep
set_option linter.unusedVariables false
namespace fnExactCliffordsEqual
set_option maxRecDepth 100000 in
set_option maxHeartbeats 2000000 in
theorem walk (vca : Value) (ca : Ci) (vcb : Value) (cb : Ci) (w : World) (hca : CiAt w w.heap.size vca ca) (hokca : ca.ok) (hcb : CiAt w w.heap.size vcb cb) (hokcb : cb.ok) :
    Calls Try.prog 3 #[vca, vcb] w fun e w' => e = .returned (.bool true) ∧ Ext w w' := by
  obtain ⟨Aca1, cca1, rfl, hh0⟩ := hca
  have hca : CiAt w w.heap.size (.agg #[.int .i64 ca.n, .slice Aca1 ca.gs.length cca1]) ca := ⟨Aca1, cca1, rfl, hh0⟩
  clear hh0
  obtain ⟨Acb1, ccb1, rfl, hh0⟩ := hcb
  have hcb : CiAt w w.heap.size (.agg #[.int .i64 cb.n, .slice Acb1 cb.gs.length ccb1]) cb := ⟨Acb1, ccb1, rfl, hh0⟩
  clear hh0
  go_enter Try.func3, Try.ntmps3
  have hx0 : Ext w w := Ext.refl w
  go_wp2_with fail
  have hy1 : Ext w ((w.alloc (.cells #[.int .i64 ca.n, .slice Aca1 ca.gs.length cca1] 24)).alloc (.cells #[.int .i64 cb.n, .slice Acb1 cb.gs.length ccb1] 24)) := by repeat (first | exact Ext.refl _ | assumption | refine Ext.alloc ?_ _ | refine Ext.drewN ?_ _ | refine Ext.drew ?_)
  have bx0_1 : Blk ((w.alloc (.cells #[.int .i64 ca.n, .slice Aca1 ca.gs.length cca1] 24)).alloc (.cells #[.int .i64 cb.n, .slice Acb1 cb.gs.length ccb1] 24)) (w.heap.size) 24 #[.int .i64 ca.n, .slice Aca1 ca.gs.length cca1] := (Blk.newAt (b := w.heap.size) (by simp)).alloc _
  have bx1_1 : Blk ((w.alloc (.cells #[.int .i64 ca.n, .slice Aca1 ca.gs.length cca1] 24)).alloc (.cells #[.int .i64 cb.n, .slice Acb1 cb.gs.length ccb1] 24)) (w.heap.size + 1) 24 #[.int .i64 cb.n, .slice Acb1 cb.gs.length ccb1] := Blk.newAt (b := w.heap.size + 1) (by simp)
  generalize ((w.alloc (.cells #[.int .i64 ca.n, .slice Aca1 ca.gs.length cca1] 24)).alloc (.cells #[.int .i64 cb.n, .slice Acb1 cb.gs.length ccb1] 24)) = w1 at *
  have lb0 := bx0_1.lt
  have lb1 := bx1_1.lt
  have hz1 := hy1.size
  have hx1' := hx0.trans hy1
  have z1_0_0 : w1.cell? ⟨w.heap.size, 0, none⟩ = some (.int .i64 ca.n) := bx0_1.cell 0
  have z1_0_1 : w1.cell? ⟨w.heap.size, 1, none⟩ = some (.slice Aca1 ca.gs.length cca1) := bx0_1.cell 1
  have z1_1_0 : w1.cell? ⟨w.heap.size + 1, 0, none⟩ = some (.int .i64 cb.n) := bx1_1.cell 0
  have z1_1_1 : w1.cell? ⟨w.heap.size + 1, 1, none⟩ = some (.slice Acb1 cb.gs.length ccb1) := bx1_1.cell 1
  have hca_1 := hca.up hy1 (by omega)
  have hcb_1 := hcb.up hy1 (by omega)
  refine (szCircuit_any (.agg #[.int .i64 ca.n, .slice Aca1 ca.gs.length cca1]) ca _ _ (hca_1.more (by omega)) (by omega) (by omega) hokca.2.1).mono ?_
  rintro e w2 ⟨rfl, hy2⟩
  have hz2 := hy2.size
  have hx2' := hx1'.trans hy2
  have bx0_2 := bx0_1.ext hy2
  have bx1_2 := bx1_1.ext hy2
  clear z1_0_0 z1_0_1 z1_1_0 z1_1_1
  have z2_0_0 : w2.cell? ⟨w.heap.size, 0, none⟩ = some (.int .i64 ca.n) := bx0_2.cell 0
  have z2_0_1 : w2.cell? ⟨w.heap.size, 1, none⟩ = some (.slice Aca1 ca.gs.length cca1) := bx0_2.cell 1
  have z2_1_0 : w2.cell? ⟨w.heap.size + 1, 0, none⟩ = some (.int .i64 cb.n) := bx1_2.cell 0
  have z2_1_1 : w2.cell? ⟨w.heap.size + 1, 1, none⟩ = some (.slice Acb1 cb.gs.length ccb1) := bx1_2.cell 1
  have hca_2 := hca_1.up hy2 (by omega)
  have hcb_2 := hcb_1.up hy2 (by omega)
  by_cases hnca : (1048576 : Int) < (ca.gs.length : Nat)
  · rw [szF_lt (by omega)]
    go_wp2
    go_ret
    exact ⟨rfl, hx2'⟩
  rw [szF_ge (by omega)]
  have hsmca : ca.small := by unfold Ci.small; omega
  go_wp2_with fail
  refine (szCircuit_any (.agg #[.int .i64 cb.n, .slice Acb1 cb.gs.length ccb1]) cb _ _ (hcb_2.more (by omega)) (by omega) (by omega) hokcb.2.1).mono ?_
  rintro e w3 ⟨rfl, hy3⟩
  have hz3 := hy3.size
  have hx3' := hx2'.trans hy3
  have bx0_3 := bx0_2.ext hy3
  have bx1_3 := bx1_2.ext hy3
  clear z2_0_0 z2_0_1 z2_1_0 z2_1_1
  have z3_0_0 : w3.cell? ⟨w.heap.size, 0, none⟩ = some (.int .i64 ca.n) := bx0_3.cell 0
  have z3_0_1 : w3.cell? ⟨w.heap.size, 1, none⟩ = some (.slice Aca1 ca.gs.length cca1) := bx0_3.cell 1
  have z3_1_0 : w3.cell? ⟨w.heap.size + 1, 0, none⟩ = some (.int .i64 cb.n) := bx1_3.cell 0
  have z3_1_1 : w3.cell? ⟨w.heap.size + 1, 1, none⟩ = some (.slice Acb1 cb.gs.length ccb1) := bx1_3.cell 1
  have hca_3 := hca_2.up hy3 (by omega)
  have hcb_3 := hcb_2.up hy3 (by omega)
  by_cases hncb : (1048576 - (ca.gs.length : Nat) : Int) < (cb.gs.length : Nat)
  · rw [szF_lt (by omega)]
    go_wp2
    go_ret
    exact ⟨rfl, hx3'⟩
  rw [szF_ge (by omega)]
  have hsmcb : cb.small := by unfold Ci.small; omega
  go_wp2_with fail
  have HK1 : Hid (∀ w', Blk w' (w.heap.size) 24 #[.int .i64 ca.n, .slice Aca1 ca.gs.length cca1] → Blk w' (w.heap.size + 1) 24 #[.int .i64 cb.n, .slice Acb1 cb.gs.length ccb1] → w'.cell? ⟨w.heap.size, 0, none⟩ = some (.int .i64 ca.n) ∧ w'.cell? ⟨w.heap.size, 1, none⟩ = some (.slice Aca1 ca.gs.length cca1) ∧ w'.cell? ⟨w.heap.size + 1, 0, none⟩ = some (.int .i64 cb.n) ∧ w'.cell? ⟨w.heap.size + 1, 1, none⟩ = some (.slice Acb1 cb.gs.length ccb1)) := fun w' g0 g1 => ⟨g0.cell 0, g0.cell 1, g1.cell 0, g1.cell 1⟩
  have tok0 : True := trivial
  have tok1 : True := trivial
  have tok2 : True := trivial
  go_region_held3 (fun w' => w'.cell? ⟨w.heap.size, 0, none⟩ = some (.int .i64 ca.n) ∧ w'.cell? ⟨w.heap.size, 1, none⟩ = some (.slice Aca1 ca.gs.length cca1) ∧ w'.cell? ⟨w.heap.size + 1, 0, none⟩ = some (.int .i64 cb.n) ∧ w'.cell? ⟨w.heap.size + 1, 1, none⟩ = some (.slice Acb1 cb.gs.length ccb1))
    (first | go_keep | exact HK1.out _ (by assumption) (by assumption))
    (first
            | (go_at_call 6; have _t := tok0; clear tok0 _t; refine (toCircuit_own (.agg #[.int .i64 ca.n, .slice Aca1 ca.gs.length cca1]) ca _ ((hca_3.up (Ext.refl w3).drew (by omega)).more (show _ ≤ w3.heap.size by omega)) hsmca).mono ?_; rintro e w4 ⟨v4, b4_1, rfl, ho4, hb4, hy4⟩; obtain ⟨hb4_0, hb4_1⟩ := hb4; have hr4 := ho4.at_; replace hy4 : Ext w3 w4 := Ext.trans (Ext.refl w3).drew hy4; have hz4 := hy4.size; have hx4' := hx3'.trans hy4; have bx0_4 := bx0_3.ext hy4; have bx1_4 := bx1_3.ext hy4; clear z3_0_0 z3_0_1 z3_1_0 z3_1_1; have z4_0_0 : w4.cell? ⟨w.heap.size, 0, none⟩ = some (.int .i64 ca.n) := bx0_4.cell 0; have z4_0_1 : w4.cell? ⟨w.heap.size, 1, none⟩ = some (.slice Aca1 ca.gs.length cca1) := bx0_4.cell 1; have z4_1_0 : w4.cell? ⟨w.heap.size + 1, 0, none⟩ = some (.int .i64 cb.n) := bx1_4.cell 0; have z4_1_1 : w4.cell? ⟨w.heap.size + 1, 1, none⟩ = some (.slice Acb1 cb.gs.length ccb1) := bx1_4.cell 1; have hca_4 := hca_3.up hy4 (by omega); have hcb_4 := hcb_3.up hy4 (by omega))
            | (go_at_call 6; have _t := tok1; clear tok1 _t; refine (toCircuit_own (.agg #[.int .i64 cb.n, .slice Acb1 cb.gs.length ccb1]) cb _ (hcb_4.more (by omega)) hsmcb).mono ?_; rintro e w5 ⟨v5, b5_1, rfl, ho5, hb5, hy5⟩; obtain ⟨hb5_0, hb5_1⟩ := hb5; have hr5 := ho5.at_; have hz5 := hy5.size; have hx5' := hx4'.trans hy5; have bx0_5 := bx0_4.ext hy5; have bx1_5 := bx1_4.ext hy5; clear z4_0_0 z4_0_1 z4_1_0 z4_1_1; have z5_0_0 : w5.cell? ⟨w.heap.size, 0, none⟩ = some (.int .i64 ca.n) := bx0_5.cell 0; have z5_0_1 : w5.cell? ⟨w.heap.size, 1, none⟩ = some (.slice Aca1 ca.gs.length cca1) := bx0_5.cell 1; have z5_1_0 : w5.cell? ⟨w.heap.size + 1, 0, none⟩ = some (.int .i64 cb.n) := bx1_5.cell 0; have z5_1_1 : w5.cell? ⟨w.heap.size + 1, 1, none⟩ = some (.slice Acb1 cb.gs.length ccb1) := bx1_5.cell 1; have hca_5 := hca_4.up hy5 (by omega); have hcb_5 := hcb_4.up hy5 (by omega); have hr4_5 := hr4.up hy5 (by omega))
            | (go_at_call 5; have _t := tok2; clear tok2 _t; refine (spec_CliffordsEqual_any v4 v5 ca cb _ (hr4_5.more (by omega)) (hr5.more (by omega)) (by have := hsmca; have := hsmcb; unfold Ci.small at *; omega)).mono ?_; rintro e w6 ⟨rfl, hy6⟩; have hz6 := hy6.size; have hx6' := hx5'.trans hy6; have bx0_6 := bx0_5.ext hy6; have bx1_6 := bx1_5.ext hy6; clear z5_0_0 z5_0_1 z5_1_0 z5_1_1; have z6_0_0 : w6.cell? ⟨w.heap.size, 0, none⟩ = some (.int .i64 ca.n) := bx0_6.cell 0; have z6_0_1 : w6.cell? ⟨w.heap.size, 1, none⟩ = some (.slice Aca1 ca.gs.length cca1) := bx0_6.cell 1; have z6_1_0 : w6.cell? ⟨w.heap.size + 1, 0, none⟩ = some (.int .i64 cb.n) := bx1_6.cell 0; have z6_1_1 : w6.cell? ⟨w.heap.size + 1, 1, none⟩ = some (.slice Acb1 cb.gs.length ccb1) := bx1_6.cell 1; have hca_6 := hca_5.up hy6 (by omega); have hcb_6 := hcb_5.up hy6 (by omega); have hr4_6 := hr4_5.up hy6 (by omega); have hr5_6 := hr5.up hy6 (by omega)))
  go_wp2_with fail
  refine (toCircuit_own (.agg #[.int .i64 ca.n, .slice Aca1 ca.gs.length cca1]) ca _ (hca_6.more (by omega)) hsmca).mono ?_
  rintro e w7 ⟨v7, b7_1, rfl, ho7, hb7, hy7⟩
  obtain ⟨hb7_0, hb7_1⟩ := hb7
  have hr7 := ho7.at_
  have hz7 := hy7.size
  have hx7' := hx6'.trans hy7
  have bx0_7 := bx0_6.ext hy7
  have bx1_7 := bx1_6.ext hy7
  clear z6_0_0 z6_0_1 z6_1_0 z6_1_1
  have z7_0_0 : w7.cell? ⟨w.heap.size, 0, none⟩ = some (.int .i64 ca.n) := bx0_7.cell 0
  have z7_0_1 : w7.cell? ⟨w.heap.size, 1, none⟩ = some (.slice Aca1 ca.gs.length cca1) := bx0_7.cell 1
  have z7_1_0 : w7.cell? ⟨w.heap.size + 1, 0, none⟩ = some (.int .i64 cb.n) := bx1_7.cell 0
  have z7_1_1 : w7.cell? ⟨w.heap.size + 1, 1, none⟩ = some (.slice Acb1 cb.gs.length ccb1) := bx1_7.cell 1
  have hca_7 := hca_6.up hy7 (by omega)
  have hcb_7 := hcb_6.up hy7 (by omega)
  obtain ⟨B7_1, d7_1, rfl, hown7⟩ := ho7
  obtain ⟨own7_1, lt7_1⟩ := hown7
  have lb0_7 := bx0_7.lt
  have lb1_7 := bx1_7.lt
  go_wp2_with fail
  have hy8 : Ext w7 (w7.alloc (.cells #[.int .i64 ca.n, .slice B7_1 ca.gs.length d7_1] 29)) := (Ext.refl _).alloc _
  have bx2_8 : Blk (w7.alloc (.cells #[.int .i64 ca.n, .slice B7_1 ca.gs.length d7_1] 29)) (w7.heap.size) 29 #[.int .i64 ca.n, .slice B7_1 ca.gs.length d7_1] := Blk.new _ _ _
  generalize (w7.alloc (.cells #[.int .i64 ca.n, .slice B7_1 ca.gs.length d7_1] 29)) = w8 at *
  have lb2 := bx2_8.lt
  have hs71 := Rd.bdl (Rd.own own7_1) (fun g hg => lt7_1 g hg)
  have hrw71 : ∀ g, (Value.slice B7_1 (ca.gs.length) d7_1).ownBlock = some g → w6.heap.size ≤ g ∧ g < b7_1 := fun g hg => ⟨(own7_1.lt g hg).1, lt7_1 g hg⟩
  have own71 := own7_1
  have hz8 := hy8.size
  have hx8' := hx7'.trans hy8
  have bx0_8 := bx0_7.ext hy8
  have bx1_8 := bx1_7.ext hy8
  clear z7_0_0 z7_0_1 z7_1_0 z7_1_1
  have z8_0_0 : w8.cell? ⟨w.heap.size, 0, none⟩ = some (.int .i64 ca.n) := bx0_8.cell 0
  have z8_0_1 : w8.cell? ⟨w.heap.size, 1, none⟩ = some (.slice Aca1 ca.gs.length cca1) := bx0_8.cell 1
  have z8_1_0 : w8.cell? ⟨w.heap.size + 1, 0, none⟩ = some (.int .i64 cb.n) := bx1_8.cell 0
  have z8_1_1 : w8.cell? ⟨w.heap.size + 1, 1, none⟩ = some (.slice Acb1 cb.gs.length ccb1) := bx1_8.cell 1
  have z8_2_0 : w8.cell? ⟨w7.heap.size, 0, none⟩ = some (.int .i64 ca.n) := bx2_8.cell 0
  have z8_2_1 : w8.cell? ⟨w7.heap.size, 1, none⟩ = some (.slice B7_1 ca.gs.length d7_1) := bx2_8.cell 1
  have hca_8 := hca_7.up hy8 (by omega)
  have hcb_8 := hcb_7.up hy8 (by omega)
  have hr7_8 := hr7.up hy8 (by omega)
  have hs71_8 := hs71.up hy8 (by omega)
  have own71_8 := own_ext own71 hy8
  refine (toCircuit_own (.agg #[.int .i64 cb.n, .slice Acb1 cb.gs.length ccb1]) cb _ (hcb_8.more (by omega)) hsmcb).mono ?_
  rintro e w9 ⟨v9, b9_1, rfl, ho9, hb9, hy9⟩
  obtain ⟨hb9_0, hb9_1⟩ := hb9
  have hr9 := ho9.at_
  have hz9 := hy9.size
  have hx9' := hx8'.trans hy9
  have bx0_9 := bx0_8.ext hy9
  have bx1_9 := bx1_8.ext hy9
  have bx2_9 := bx2_8.ext hy9
  clear z8_0_0 z8_0_1 z8_1_0 z8_1_1 z8_2_0 z8_2_1
  have z9_0_0 : w9.cell? ⟨w.heap.size, 0, none⟩ = some (.int .i64 ca.n) := bx0_9.cell 0
  have z9_0_1 : w9.cell? ⟨w.heap.size, 1, none⟩ = some (.slice Aca1 ca.gs.length cca1) := bx0_9.cell 1
  have z9_1_0 : w9.cell? ⟨w.heap.size + 1, 0, none⟩ = some (.int .i64 cb.n) := bx1_9.cell 0
  have z9_1_1 : w9.cell? ⟨w.heap.size + 1, 1, none⟩ = some (.slice Acb1 cb.gs.length ccb1) := bx1_9.cell 1
  have z9_2_0 : w9.cell? ⟨w7.heap.size, 0, none⟩ = some (.int .i64 ca.n) := bx2_9.cell 0
  have z9_2_1 : w9.cell? ⟨w7.heap.size, 1, none⟩ = some (.slice B7_1 ca.gs.length d7_1) := bx2_9.cell 1
  have hca_9 := hca_8.up hy9 (by omega)
  have hcb_9 := hcb_8.up hy9 (by omega)
  have hr7_9 := hr7_8.up hy9 (by omega)
  have hs71_9 := hs71_8.up hy9 (by omega)
  have own71_9 := own_ext own71_8 hy9
  obtain ⟨B9_1, d9_1, rfl, hown9⟩ := ho9
  obtain ⟨own9_1, lt9_1⟩ := hown9
  have lb0_9 := bx0_9.lt
  have lb1_9 := bx1_9.lt
  have lb2_9 := bx2_9.lt
  go_wp2_with fail
  have hy10 : Ext w9 (w9.alloc (.cells #[.int .i64 cb.n, .slice B9_1 cb.gs.length d9_1] 29)) := (Ext.refl _).alloc _
  have bx3_10 : Blk (w9.alloc (.cells #[.int .i64 cb.n, .slice B9_1 cb.gs.length d9_1] 29)) (w9.heap.size) 29 #[.int .i64 cb.n, .slice B9_1 cb.gs.length d9_1] := Blk.new _ _ _
  generalize (w9.alloc (.cells #[.int .i64 cb.n, .slice B9_1 cb.gs.length d9_1] 29)) = w10 at *
  have lb3 := bx3_10.lt
  have hs91 := Rd.bdl (Rd.own own9_1) (fun g hg => lt9_1 g hg)
  have hrw91 : ∀ g, (Value.slice B9_1 (cb.gs.length) d9_1).ownBlock = some g → w8.heap.size ≤ g ∧ g < b9_1 := fun g hg => ⟨(own9_1.lt g hg).1, lt9_1 g hg⟩
  have own91 := own9_1
  have hz10 := hy10.size
  have hx10' := hx9'.trans hy10
  have bx0_10 := bx0_9.ext hy10
  have bx1_10 := bx1_9.ext hy10
  have bx2_10 := bx2_9.ext hy10
  clear z9_0_0 z9_0_1 z9_1_0 z9_1_1 z9_2_0 z9_2_1
  have z10_0_0 : w10.cell? ⟨w.heap.size, 0, none⟩ = some (.int .i64 ca.n) := bx0_10.cell 0
  have z10_0_1 : w10.cell? ⟨w.heap.size, 1, none⟩ = some (.slice Aca1 ca.gs.length cca1) := bx0_10.cell 1
  have z10_1_0 : w10.cell? ⟨w.heap.size + 1, 0, none⟩ = some (.int .i64 cb.n) := bx1_10.cell 0
  have z10_1_1 : w10.cell? ⟨w.heap.size + 1, 1, none⟩ = some (.slice Acb1 cb.gs.length ccb1) := bx1_10.cell 1
  have z10_2_0 : w10.cell? ⟨w7.heap.size, 0, none⟩ = some (.int .i64 ca.n) := bx2_10.cell 0
  have z10_2_1 : w10.cell? ⟨w7.heap.size, 1, none⟩ = some (.slice B7_1 ca.gs.length d7_1) := bx2_10.cell 1
  have z10_3_0 : w10.cell? ⟨w9.heap.size, 0, none⟩ = some (.int .i64 cb.n) := bx3_10.cell 0
  have z10_3_1 : w10.cell? ⟨w9.heap.size, 1, none⟩ = some (.slice B9_1 cb.gs.length d9_1) := bx3_10.cell 1
  have hca_10 := hca_9.up hy10 (by omega)
  have hcb_10 := hcb_9.up hy10 (by omega)
  have hr7_10 := hr7_9.up hy10 (by omega)
  have hs71_10 := hs71_9.up hy10 (by omega)
  have own71_10 := own_ext own71_9 hy10
  have hr9_10 := hr9.up hy10 (by omega)
  have hs91_10 := hs91.up hy10 (by omega)
  have own91_10 := own_ext own91 hy10
  refine (impl_CliffordsEqual_any (.agg #[.int .i64 ca.n, .slice B7_1 ca.gs.length d7_1]) (.agg #[.int .i64 cb.n, .slice B9_1 cb.gs.length d9_1]) ca cb _ (hr7_10.more (by omega)) (hr9_10.more (by omega)) (by have := hsmca; have := hsmcb; unfold Ci.small at *; omega)).mono ?_
  rintro e w11 ⟨rfl, hy11⟩
  have hz11 := hy11.size
  have hx11' := hx10'.trans hy11
  have bx0_11 := bx0_10.ext hy11
  have bx1_11 := bx1_10.ext hy11
  have bx2_11 := bx2_10.ext hy11
  have bx3_11 := bx3_10.ext hy11
  clear z10_0_0 z10_0_1 z10_1_0 z10_1_1 z10_2_0 z10_2_1 z10_3_0 z10_3_1
  have z11_0_0 : w11.cell? ⟨w.heap.size, 0, none⟩ = some (.int .i64 ca.n) := bx0_11.cell 0
  have z11_0_1 : w11.cell? ⟨w.heap.size, 1, none⟩ = some (.slice Aca1 ca.gs.length cca1) := bx0_11.cell 1
  have z11_1_0 : w11.cell? ⟨w.heap.size + 1, 0, none⟩ = some (.int .i64 cb.n) := bx1_11.cell 0
  have z11_1_1 : w11.cell? ⟨w.heap.size + 1, 1, none⟩ = some (.slice Acb1 cb.gs.length ccb1) := bx1_11.cell 1
  have z11_2_0 : w11.cell? ⟨w7.heap.size, 0, none⟩ = some (.int .i64 ca.n) := bx2_11.cell 0
  have z11_2_1 : w11.cell? ⟨w7.heap.size, 1, none⟩ = some (.slice B7_1 ca.gs.length d7_1) := bx2_11.cell 1
  have z11_3_0 : w11.cell? ⟨w9.heap.size, 0, none⟩ = some (.int .i64 cb.n) := bx3_11.cell 0
  have z11_3_1 : w11.cell? ⟨w9.heap.size, 1, none⟩ = some (.slice B9_1 cb.gs.length d9_1) := bx3_11.cell 1
  have hca_11 := hca_10.up hy11 (by omega)
  have hcb_11 := hcb_10.up hy11 (by omega)
  have hr7_11 := hr7_10.up hy11 (by omega)
  have hs71_11 := hs71_10.up hy11 (by omega)
  have own71_11 := own_ext own71_10 hy11
  have hr9_11 := hr9_10.up hy11 (by omega)
  have hs91_11 := hs91_10.up hy11 (by omega)
  have own91_11 := own_ext own91_10 hy11
  go_wp2_with fail
  have HK2 : Hid (∀ w', Blk w' (w.heap.size) 24 #[.int .i64 ca.n, .slice Aca1 ca.gs.length cca1] → Blk w' (w.heap.size + 1) 24 #[.int .i64 cb.n, .slice Acb1 cb.gs.length ccb1] → Blk w' (w7.heap.size) 29 #[.int .i64 ca.n, .slice B7_1 ca.gs.length d7_1] → Blk w' (w9.heap.size) 29 #[.int .i64 cb.n, .slice B9_1 cb.gs.length d9_1] → w'.cell? ⟨w.heap.size, 0, none⟩ = some (.int .i64 ca.n) ∧ w'.cell? ⟨w.heap.size, 1, none⟩ = some (.slice Aca1 ca.gs.length cca1) ∧ w'.cell? ⟨w.heap.size + 1, 0, none⟩ = some (.int .i64 cb.n) ∧ w'.cell? ⟨w.heap.size + 1, 1, none⟩ = some (.slice Acb1 cb.gs.length ccb1) ∧ w'.cell? ⟨w7.heap.size, 0, none⟩ = some (.int .i64 ca.n) ∧ w'.cell? ⟨w7.heap.size, 1, none⟩ = some (.slice B7_1 ca.gs.length d7_1) ∧ w'.cell? ⟨w9.heap.size, 0, none⟩ = some (.int .i64 cb.n) ∧ w'.cell? ⟨w9.heap.size, 1, none⟩ = some (.slice B9_1 cb.gs.length d9_1)) := fun w' g0 g1 g2 g3 => ⟨g0.cell 0, g0.cell 1, g1.cell 0, g1.cell 1, g2.cell 0, g2.cell 1, g3.cell 0, g3.cell 1⟩
  have tok0 : True := trivial
  have tok1 : True := trivial
  go_region_held3 (fun w' => w'.cell? ⟨w.heap.size, 0, none⟩ = some (.int .i64 ca.n) ∧ w'.cell? ⟨w.heap.size, 1, none⟩ = some (.slice Aca1 ca.gs.length cca1) ∧ w'.cell? ⟨w.heap.size + 1, 0, none⟩ = some (.int .i64 cb.n) ∧ w'.cell? ⟨w.heap.size + 1, 1, none⟩ = some (.slice Acb1 cb.gs.length ccb1) ∧ w'.cell? ⟨w7.heap.size, 0, none⟩ = some (.int .i64 ca.n) ∧ w'.cell? ⟨w7.heap.size, 1, none⟩ = some (.slice B7_1 ca.gs.length d7_1) ∧ w'.cell? ⟨w9.heap.size, 0, none⟩ = some (.int .i64 cb.n) ∧ w'.cell? ⟨w9.heap.size, 1, none⟩ = some (.slice B9_1 cb.gs.length d9_1))
    (first | go_keep | exact HK2.out _ (by assumption) (by assumption) (by assumption) (by assumption))
    (first
            | (go_at_call 6; have _t := tok0; clear tok0 _t; refine (toCircuit_own (.agg #[.int .i64 ca.n, .slice Aca1 ca.gs.length cca1]) ca _ ((hca_11.up (Ext.refl w11).drew (by omega)).more (show _ ≤ w11.heap.size by omega)) hsmca).mono ?_; rintro e w12 ⟨v12, b12_1, rfl, ho12, hb12, hy12⟩; obtain ⟨hb12_0, hb12_1⟩ := hb12; have hr12 := ho12.at_; replace hy12 : Ext w11 w12 := Ext.trans (Ext.refl w11).drew hy12; have hz12 := hy12.size; have hx12' := hx11'.trans hy12; have bx0_12 := bx0_11.ext hy12; have bx1_12 := bx1_11.ext hy12; have bx2_12 := bx2_11.ext hy12; have bx3_12 := bx3_11.ext hy12; clear z11_0_0 z11_0_1 z11_1_0 z11_1_1 z11_2_0 z11_2_1 z11_3_0 z11_3_1; have z12_0_0 : w12.cell? ⟨w.heap.size, 0, none⟩ = some (.int .i64 ca.n) := bx0_12.cell 0; have z12_0_1 : w12.cell? ⟨w.heap.size, 1, none⟩ = some (.slice Aca1 ca.gs.length cca1) := bx0_12.cell 1; have z12_1_0 : w12.cell? ⟨w.heap.size + 1, 0, none⟩ = some (.int .i64 cb.n) := bx1_12.cell 0; have z12_1_1 : w12.cell? ⟨w.heap.size + 1, 1, none⟩ = some (.slice Acb1 cb.gs.length ccb1) := bx1_12.cell 1; have z12_2_0 : w12.cell? ⟨w7.heap.size, 0, none⟩ = some (.int .i64 ca.n) := bx2_12.cell 0; have z12_2_1 : w12.cell? ⟨w7.heap.size, 1, none⟩ = some (.slice B7_1 ca.gs.length d7_1) := bx2_12.cell 1; have z12_3_0 : w12.cell? ⟨w9.heap.size, 0, none⟩ = some (.int .i64 cb.n) := bx3_12.cell 0; have z12_3_1 : w12.cell? ⟨w9.heap.size, 1, none⟩ = some (.slice B9_1 cb.gs.length d9_1) := bx3_12.cell 1; have hca_12 := hca_11.up hy12 (by omega); have hcb_12 := hcb_11.up hy12 (by omega); have hr7_12 := hr7_11.up hy12 (by omega); have hs71_12 := hs71_11.up hy12 (by omega); have own71_12 := own_ext own71_11 hy12; have hr9_12 := hr9_11.up hy12 (by omega); have hs91_12 := hs91_11.up hy12 (by omega); have own91_12 := own_ext own91_11 hy12)
            | (go_at_call 8; have _t := tok1; clear tok1 _t; refine (eqCircuit_any (.agg #[.int .i64 ca.n, .slice B7_1 ca.gs.length d7_1]) v12 ca ca _ (hr7_12.more (by omega)) (hr12.more (by omega)) (by have := hsmca; unfold Ci.small at this; omega)).mono ?_; rintro e w13 ⟨rfl, hy13⟩; rw [eqCi_self]; have hz13 := hy13.size; have hx13' := hx12'.trans hy13; have bx0_13 := bx0_12.ext hy13; have bx1_13 := bx1_12.ext hy13; have bx2_13 := bx2_12.ext hy13; have bx3_13 := bx3_12.ext hy13; clear z12_0_0 z12_0_1 z12_1_0 z12_1_1 z12_2_0 z12_2_1 z12_3_0 z12_3_1; have z13_0_0 : w13.cell? ⟨w.heap.size, 0, none⟩ = some (.int .i64 ca.n) := bx0_13.cell 0; have z13_0_1 : w13.cell? ⟨w.heap.size, 1, none⟩ = some (.slice Aca1 ca.gs.length cca1) := bx0_13.cell 1; have z13_1_0 : w13.cell? ⟨w.heap.size + 1, 0, none⟩ = some (.int .i64 cb.n) := bx1_13.cell 0; have z13_1_1 : w13.cell? ⟨w.heap.size + 1, 1, none⟩ = some (.slice Acb1 cb.gs.length ccb1) := bx1_13.cell 1; have z13_2_0 : w13.cell? ⟨w7.heap.size, 0, none⟩ = some (.int .i64 ca.n) := bx2_13.cell 0; have z13_2_1 : w13.cell? ⟨w7.heap.size, 1, none⟩ = some (.slice B7_1 ca.gs.length d7_1) := bx2_13.cell 1; have z13_3_0 : w13.cell? ⟨w9.heap.size, 0, none⟩ = some (.int .i64 cb.n) := bx3_13.cell 0; have z13_3_1 : w13.cell? ⟨w9.heap.size, 1, none⟩ = some (.slice B9_1 cb.gs.length d9_1) := bx3_13.cell 1; have hca_13 := hca_12.up hy13 (by omega); have hcb_13 := hcb_12.up hy13 (by omega); have hr7_13 := hr7_12.up hy13 (by omega); have hs71_13 := hs71_12.up hy13 (by omega); have own71_13 := own_ext own71_12 hy13; have hr9_13 := hr9_12.up hy13 (by omega); have hs91_13 := hs91_12.up hy13 (by omega); have own91_13 := own_ext own91_12 hy13; have hr12_13 := hr12.up hy13 (by omega)))
  go_wp2_with fail
  have HK3 : Hid (∀ w', Blk w' (w.heap.size) 24 #[.int .i64 ca.n, .slice Aca1 ca.gs.length cca1] → Blk w' (w.heap.size + 1) 24 #[.int .i64 cb.n, .slice Acb1 cb.gs.length ccb1] → Blk w' (w7.heap.size) 29 #[.int .i64 ca.n, .slice B7_1 ca.gs.length d7_1] → Blk w' (w9.heap.size) 29 #[.int .i64 cb.n, .slice B9_1 cb.gs.length d9_1] → w'.cell? ⟨w.heap.size, 0, none⟩ = some (.int .i64 ca.n) ∧ w'.cell? ⟨w.heap.size, 1, none⟩ = some (.slice Aca1 ca.gs.length cca1) ∧ w'.cell? ⟨w.heap.size + 1, 0, none⟩ = some (.int .i64 cb.n) ∧ w'.cell? ⟨w.heap.size + 1, 1, none⟩ = some (.slice Acb1 cb.gs.length ccb1) ∧ w'.cell? ⟨w7.heap.size, 0, none⟩ = some (.int .i64 ca.n) ∧ w'.cell? ⟨w7.heap.size, 1, none⟩ = some (.slice B7_1 ca.gs.length d7_1) ∧ w'.cell? ⟨w9.heap.size, 0, none⟩ = some (.int .i64 cb.n) ∧ w'.cell? ⟨w9.heap.size, 1, none⟩ = some (.slice B9_1 cb.gs.length d9_1)) := fun w' g0 g1 g2 g3 => ⟨g0.cell 0, g0.cell 1, g1.cell 0, g1.cell 1, g2.cell 0, g2.cell 1, g3.cell 0, g3.cell 1⟩
  have tok0 : True := trivial
  have tok1 : True := trivial
  go_region_held3 (fun w' => w'.cell? ⟨w.heap.size, 0, none⟩ = some (.int .i64 ca.n) ∧ w'.cell? ⟨w.heap.size, 1, none⟩ = some (.slice Aca1 ca.gs.length cca1) ∧ w'.cell? ⟨w.heap.size + 1, 0, none⟩ = some (.int .i64 cb.n) ∧ w'.cell? ⟨w.heap.size + 1, 1, none⟩ = some (.slice Acb1 cb.gs.length ccb1) ∧ w'.cell? ⟨w7.heap.size, 0, none⟩ = some (.int .i64 ca.n) ∧ w'.cell? ⟨w7.heap.size, 1, none⟩ = some (.slice B7_1 ca.gs.length d7_1) ∧ w'.cell? ⟨w9.heap.size, 0, none⟩ = some (.int .i64 cb.n) ∧ w'.cell? ⟨w9.heap.size, 1, none⟩ = some (.slice B9_1 cb.gs.length d9_1))
    (first | go_keep | exact HK3.out _ (by assumption) (by assumption) (by assumption) (by assumption))
    (first
            | (go_at_call 6; have _t := tok0; clear tok0 _t; refine (toCircuit_own (.agg #[.int .i64 cb.n, .slice Acb1 cb.gs.length ccb1]) cb _ ((hcb_13.up (Ext.refl w13).drew (by omega)).more (show _ ≤ w13.heap.size by omega)) hsmcb).mono ?_; rintro e w14 ⟨v14, b14_1, rfl, ho14, hb14, hy14⟩; obtain ⟨hb14_0, hb14_1⟩ := hb14; have hr14 := ho14.at_; replace hy14 : Ext w13 w14 := Ext.trans (Ext.refl w13).drew hy14; have hz14 := hy14.size; have hx14' := hx13'.trans hy14; have bx0_14 := bx0_13.ext hy14; have bx1_14 := bx1_13.ext hy14; have bx2_14 := bx2_13.ext hy14; have bx3_14 := bx3_13.ext hy14; clear z13_0_0 z13_0_1 z13_1_0 z13_1_1 z13_2_0 z13_2_1 z13_3_0 z13_3_1; have z14_0_0 : w14.cell? ⟨w.heap.size, 0, none⟩ = some (.int .i64 ca.n) := bx0_14.cell 0; have z14_0_1 : w14.cell? ⟨w.heap.size, 1, none⟩ = some (.slice Aca1 ca.gs.length cca1) := bx0_14.cell 1; have z14_1_0 : w14.cell? ⟨w.heap.size + 1, 0, none⟩ = some (.int .i64 cb.n) := bx1_14.cell 0; have z14_1_1 : w14.cell? ⟨w.heap.size + 1, 1, none⟩ = some (.slice Acb1 cb.gs.length ccb1) := bx1_14.cell 1; have z14_2_0 : w14.cell? ⟨w7.heap.size, 0, none⟩ = some (.int .i64 ca.n) := bx2_14.cell 0; have z14_2_1 : w14.cell? ⟨w7.heap.size, 1, none⟩ = some (.slice B7_1 ca.gs.length d7_1) := bx2_14.cell 1; have z14_3_0 : w14.cell? ⟨w9.heap.size, 0, none⟩ = some (.int .i64 cb.n) := bx3_14.cell 0; have z14_3_1 : w14.cell? ⟨w9.heap.size, 1, none⟩ = some (.slice B9_1 cb.gs.length d9_1) := bx3_14.cell 1; have hca_14 := hca_13.up hy14 (by omega); have hcb_14 := hcb_13.up hy14 (by omega); have hr7_14 := hr7_13.up hy14 (by omega); have hs71_14 := hs71_13.up hy14 (by omega); have own71_14 := own_ext own71_13 hy14; have hr9_14 := hr9_13.up hy14 (by omega); have hs91_14 := hs91_13.up hy14 (by omega); have own91_14 := own_ext own91_13 hy14)
            | (go_at_call 8; have _t := tok1; clear tok1 _t; refine (eqCircuit_any (.agg #[.int .i64 cb.n, .slice B9_1 cb.gs.length d9_1]) v14 cb cb _ (hr9_14.more (by omega)) (hr14.more (by omega)) (by have := hsmcb; unfold Ci.small at this; omega)).mono ?_; rintro e w15 ⟨rfl, hy15⟩; rw [eqCi_self]; have hz15 := hy15.size; have hx15' := hx14'.trans hy15; have bx0_15 := bx0_14.ext hy15; have bx1_15 := bx1_14.ext hy15; have bx2_15 := bx2_14.ext hy15; have bx3_15 := bx3_14.ext hy15; clear z14_0_0 z14_0_1 z14_1_0 z14_1_1 z14_2_0 z14_2_1 z14_3_0 z14_3_1; have z15_0_0 : w15.cell? ⟨w.heap.size, 0, none⟩ = some (.int .i64 ca.n) := bx0_15.cell 0; have z15_0_1 : w15.cell? ⟨w.heap.size, 1, none⟩ = some (.slice Aca1 ca.gs.length cca1) := bx0_15.cell 1; have z15_1_0 : w15.cell? ⟨w.heap.size + 1, 0, none⟩ = some (.int .i64 cb.n) := bx1_15.cell 0; have z15_1_1 : w15.cell? ⟨w.heap.size + 1, 1, none⟩ = some (.slice Acb1 cb.gs.length ccb1) := bx1_15.cell 1; have z15_2_0 : w15.cell? ⟨w7.heap.size, 0, none⟩ = some (.int .i64 ca.n) := bx2_15.cell 0; have z15_2_1 : w15.cell? ⟨w7.heap.size, 1, none⟩ = some (.slice B7_1 ca.gs.length d7_1) := bx2_15.cell 1; have z15_3_0 : w15.cell? ⟨w9.heap.size, 0, none⟩ = some (.int .i64 cb.n) := bx3_15.cell 0; have z15_3_1 : w15.cell? ⟨w9.heap.size, 1, none⟩ = some (.slice B9_1 cb.gs.length d9_1) := bx3_15.cell 1; have hca_15 := hca_14.up hy15 (by omega); have hcb_15 := hcb_14.up hy15 (by omega); have hr7_15 := hr7_14.up hy15 (by omega); have hs71_15 := hs71_14.up hy15 (by omega); have own71_15 := own_ext own71_14 hy15; have hr9_15 := hr9_14.up hy15 (by omega); have hs91_15 := hs91_14.up hy15 (by omega); have own91_15 := own_ext own91_14 hy15; have hr14_15 := hr14.up hy15 (by omega)))
  go_wp2
  go_ret
  exact ⟨rfl, hx15'⟩
set_option maxRecDepth 100000 in
theorem lifted (os : Os) (started : os.Started) (H : Type) (enc : TypeId × Value → H) :
    ReturnsInHanded {} Try.checked os 3 .any (Rows.fnExactCliffordsEqualSpec.pre6 enc Try.prog Try.f3 Rows.fnExactCliffordsEqualRow.domain false) (Rows.fnExactCliffordsEqualSpec.post enc Try.prog Try.f3 false true false false) := by
  refine returnsInHanded_of_change (C := Try.checked) own started (by kernel_rfl) Try.func3
    (ChangeSpec.witness6 (enc := enc) (C := Try.checked) false ⟨#[], #[.agg #[.int .i64 0, .slice none 0 0], .agg #[.int .i64 0, .slice none 0 0]], []⟩ 8 (by kernel_rfl) (by kernel_rfl) (by kernel_rfl) (by kernel_rfl)) ?_
  intro W base args ds gs before hval0 hW hcnd _
  have hval : ∀ (j : Nat) t v, Try.f3.params[j]? = some t → args[j]? = some v → Value.okWide Try.prog W .any base t v := hval0
  have hW' := hW
  obtain ⟨p, q, hA0, hV, rfl, hfz, hnd⟩ := hW
  have hA : DataW.TrodAll enc Try.prog W 0 (fun _ => true) true Try.f3.params.toList args.toList ds p := hA0
  rw [Try.params3] at hA hval
  obtain ⟨v0, vs0, d0, ds0, p0, q0, hargs, rfl, rfl, h0, r0⟩ := trodAll_cons hA
  obtain ⟨v1, vs1, d1, ds1, p1, q1, rfl, rfl, rfl, h1, r1⟩ := trodAll_cons r0
  obtain ⟨rfl, rfl, rfl⟩ := trodAll_nil r1
  obtain rfl : args = #[v0, v1] := by cases args; simp_all
  clear hA0 hval0 hfz hnd hV hcnd
  obtain ⟨ca, hr0, hok0⟩ := open_lcircuit (hval 0 _ v0 rfl rfl) h0
  obtain ⟨cb, hr1, hok1⟩ := open_lcircuit (hval 1 _ v1 rfl rfl) h1
  refine (walk v0 ca v1 cb W hr0 hok0 hr1 hok1).mono fun e W' ⟨he, hx⟩ => ?_
  subst he
  exact ⟨_, rfl, law_post rfl (by rw [Try.params3]; decide +kernel) rfl hW' rfl rfl rfl hx⟩

theorem over : Rows.fnExactCliffordsEqualRow.holds Try.pinned (OpenSpec.ofChange Rows.fnExactCliffordsEqualSpec) :=
  OpenClaim.holds_of_wide 3 Try.f3 rfl rfl rfl rfl rfl rfl rfl ⟨rfl, rfl, rfl, rfl, rfl⟩ rfl rfl rfl rfl rfl (by kernel_rfl) Try.func3 (by kernel_rfl)
    (of_decide_eq_true (by kernel_rfl)) (by unfold Func.isWrapper; first | (rw [if_pos (by decide +kernel)]; kernel_rfl) | (rw [if_neg (by decide +kernel)]; exact ⟨rfl, rfl⟩))
    (fun os started H enc _ => lifted os started H enc)

/-- The statement. -/
theorem proved : Rows.FnExactCliffordsEqualSaid := over
#print axioms proved

end fnExactCliffordsEqual
end Go.Proofs.Ytcocabflinlbbaa
