/-
  For every input, the law FnExactEqualCompiled returns true: the program's EqualCompiled and the reference's return the same, and the arguments are left alone. No condition.
-/
import Derived.Test.YthnbenlglnmehaaEqc
namespace Go.Proofs.Ythnbenlglnmehaa
open Go.ChangeShapes Go.WideShapes Go.ChangeAt Go.RowKit Go.Deep
set_option linter.unusedVariables false
namespace fnExactEqualCompiled
set_option maxRecDepth 100000 in
set_option maxHeartbeats 2000000 in
theorem walk (vca : Value) (ca : Cm) (vcb : Value) (cb : Cm) (w : World) (hca : CmAt w w.heap.size vca ca) (hokca : ca.ok) (hcb : CmAt w w.heap.size vcb cb) (hokcb : cb.ok) :
    Calls Try.prog 11 #[vca, vcb] w fun e w' => e = .returned (.bool true) ∧ Ext w w' := by
  obtain ⟨Aca1, Aca2, Aca3, cca1, cca2, cca3, rfl, hh0, hh1, hh2⟩ := hca
  have hca : CmAt w w.heap.size (.agg #[.int .i64 ca.n, .int .i64 ca.bits, .slice Aca1 ca.ops.length cca1, .slice Aca2 ca.st.length cca2, .slice Aca3 ca.fin.length cca3]) ca := ⟨Aca1, Aca2, Aca3, cca1, cca2, cca3, rfl, hh0, hh1, hh2⟩
  clear hh0 hh1 hh2
  obtain ⟨Acb1, Acb2, Acb3, ccb1, ccb2, ccb3, rfl, hh0, hh1, hh2⟩ := hcb
  have hcb : CmAt w w.heap.size (.agg #[.int .i64 cb.n, .int .i64 cb.bits, .slice Acb1 cb.ops.length ccb1, .slice Acb2 cb.st.length ccb2, .slice Acb3 cb.fin.length ccb3]) cb := ⟨Acb1, Acb2, Acb3, ccb1, ccb2, ccb3, rfl, hh0, hh1, hh2⟩
  clear hh0 hh1 hh2
  go_enter Try.func11, Try.ntmps11
  have hx0 : Ext w w := Ext.refl w
  go_wp2_with fail
  have hy1 : Ext w ((w.alloc (.cells #[.int .i64 ca.n, .int .i64 ca.bits, .slice Aca1 ca.ops.length cca1, .slice Aca2 ca.st.length cca2, .slice Aca3 ca.fin.length cca3] 60)).alloc (.cells #[.int .i64 cb.n, .int .i64 cb.bits, .slice Acb1 cb.ops.length ccb1, .slice Acb2 cb.st.length ccb2, .slice Acb3 cb.fin.length ccb3] 60)) := by repeat (first | exact Ext.refl _ | assumption | refine Ext.alloc ?_ _ | refine Ext.drewN ?_ _ | refine Ext.drew ?_)
  have bx0_1 : Blk ((w.alloc (.cells #[.int .i64 ca.n, .int .i64 ca.bits, .slice Aca1 ca.ops.length cca1, .slice Aca2 ca.st.length cca2, .slice Aca3 ca.fin.length cca3] 60)).alloc (.cells #[.int .i64 cb.n, .int .i64 cb.bits, .slice Acb1 cb.ops.length ccb1, .slice Acb2 cb.st.length ccb2, .slice Acb3 cb.fin.length ccb3] 60)) (w.heap.size) 60 #[.int .i64 ca.n, .int .i64 ca.bits, .slice Aca1 ca.ops.length cca1, .slice Aca2 ca.st.length cca2, .slice Aca3 ca.fin.length cca3] := (Blk.newAt (b := w.heap.size) (by simp)).alloc _
  have bx1_1 : Blk ((w.alloc (.cells #[.int .i64 ca.n, .int .i64 ca.bits, .slice Aca1 ca.ops.length cca1, .slice Aca2 ca.st.length cca2, .slice Aca3 ca.fin.length cca3] 60)).alloc (.cells #[.int .i64 cb.n, .int .i64 cb.bits, .slice Acb1 cb.ops.length ccb1, .slice Acb2 cb.st.length ccb2, .slice Acb3 cb.fin.length ccb3] 60)) (w.heap.size + 1) 60 #[.int .i64 cb.n, .int .i64 cb.bits, .slice Acb1 cb.ops.length ccb1, .slice Acb2 cb.st.length ccb2, .slice Acb3 cb.fin.length ccb3] := Blk.newAt (b := w.heap.size + 1) (by simp)
  generalize ((w.alloc (.cells #[.int .i64 ca.n, .int .i64 ca.bits, .slice Aca1 ca.ops.length cca1, .slice Aca2 ca.st.length cca2, .slice Aca3 ca.fin.length cca3] 60)).alloc (.cells #[.int .i64 cb.n, .int .i64 cb.bits, .slice Acb1 cb.ops.length ccb1, .slice Acb2 cb.st.length ccb2, .slice Acb3 cb.fin.length ccb3] 60)) = w1 at *
  have lb0 := bx0_1.lt
  have lb1 := bx1_1.lt
  have hz1 := hy1.size
  have hx1' := hx0.trans hy1
  have z1_0_0 : w1.cell? ⟨w.heap.size, 0, none⟩ = some (.int .i64 ca.n) := bx0_1.cell 0
  have z1_0_1 : w1.cell? ⟨w.heap.size, 1, none⟩ = some (.int .i64 ca.bits) := bx0_1.cell 1
  have z1_0_2 : w1.cell? ⟨w.heap.size, 2, none⟩ = some (.slice Aca1 ca.ops.length cca1) := bx0_1.cell 2
  have z1_0_3 : w1.cell? ⟨w.heap.size, 3, none⟩ = some (.slice Aca2 ca.st.length cca2) := bx0_1.cell 3
  have z1_0_4 : w1.cell? ⟨w.heap.size, 4, none⟩ = some (.slice Aca3 ca.fin.length cca3) := bx0_1.cell 4
  have z1_1_0 : w1.cell? ⟨w.heap.size + 1, 0, none⟩ = some (.int .i64 cb.n) := bx1_1.cell 0
  have z1_1_1 : w1.cell? ⟨w.heap.size + 1, 1, none⟩ = some (.int .i64 cb.bits) := bx1_1.cell 1
  have z1_1_2 : w1.cell? ⟨w.heap.size + 1, 2, none⟩ = some (.slice Acb1 cb.ops.length ccb1) := bx1_1.cell 2
  have z1_1_3 : w1.cell? ⟨w.heap.size + 1, 3, none⟩ = some (.slice Acb2 cb.st.length ccb2) := bx1_1.cell 3
  have z1_1_4 : w1.cell? ⟨w.heap.size + 1, 4, none⟩ = some (.slice Acb3 cb.fin.length ccb3) := bx1_1.cell 4
  have hca_1 := hca.up hy1 (by omega)
  have hcb_1 := hcb.up hy1 (by omega)
  refine (szCompiled_any (.agg #[.int .i64 ca.n, .int .i64 ca.bits, .slice Aca1 ca.ops.length cca1, .slice Aca2 ca.st.length cca2, .slice Aca3 ca.fin.length cca3]) ca _ _ (hca_1.more (by omega)) (by omega) (by omega) hokca).mono ?_
  rintro e w2 ⟨rfl, hy2⟩
  have hz2 := hy2.size
  have hx2' := hx1'.trans hy2
  have bx0_2 := bx0_1.ext hy2
  have bx1_2 := bx1_1.ext hy2
  clear z1_0_0 z1_0_1 z1_0_2 z1_0_3 z1_0_4 z1_1_0 z1_1_1 z1_1_2 z1_1_3 z1_1_4
  have z2_0_0 : w2.cell? ⟨w.heap.size, 0, none⟩ = some (.int .i64 ca.n) := bx0_2.cell 0
  have z2_0_1 : w2.cell? ⟨w.heap.size, 1, none⟩ = some (.int .i64 ca.bits) := bx0_2.cell 1
  have z2_0_2 : w2.cell? ⟨w.heap.size, 2, none⟩ = some (.slice Aca1 ca.ops.length cca1) := bx0_2.cell 2
  have z2_0_3 : w2.cell? ⟨w.heap.size, 3, none⟩ = some (.slice Aca2 ca.st.length cca2) := bx0_2.cell 3
  have z2_0_4 : w2.cell? ⟨w.heap.size, 4, none⟩ = some (.slice Aca3 ca.fin.length cca3) := bx0_2.cell 4
  have z2_1_0 : w2.cell? ⟨w.heap.size + 1, 0, none⟩ = some (.int .i64 cb.n) := bx1_2.cell 0
  have z2_1_1 : w2.cell? ⟨w.heap.size + 1, 1, none⟩ = some (.int .i64 cb.bits) := bx1_2.cell 1
  have z2_1_2 : w2.cell? ⟨w.heap.size + 1, 2, none⟩ = some (.slice Acb1 cb.ops.length ccb1) := bx1_2.cell 2
  have z2_1_3 : w2.cell? ⟨w.heap.size + 1, 3, none⟩ = some (.slice Acb2 cb.st.length ccb2) := bx1_2.cell 3
  have z2_1_4 : w2.cell? ⟨w.heap.size + 1, 4, none⟩ = some (.slice Acb3 cb.fin.length ccb3) := bx1_2.cell 4
  have hca_2 := hca_1.up hy2 (by omega)
  have hcb_2 := hcb_1.up hy2 (by omega)
  by_cases hnca : (1048576 : Int) < (ca.ops.length + ca.st.length + ca.fin.length : Nat)
  · rw [szF_lt (by omega)]
    go_wp2
    go_ret
    exact ⟨rfl, hx2'⟩
  rw [szF_ge (by omega)]
  have hsmca : ca.small := by unfold Cm.small; omega
  go_wp2_with fail
  refine (szCompiled_any (.agg #[.int .i64 cb.n, .int .i64 cb.bits, .slice Acb1 cb.ops.length ccb1, .slice Acb2 cb.st.length ccb2, .slice Acb3 cb.fin.length ccb3]) cb _ _ (hcb_2.more (by omega)) (by omega) (by omega) hokcb).mono ?_
  rintro e w3 ⟨rfl, hy3⟩
  have hz3 := hy3.size
  have hx3' := hx2'.trans hy3
  have bx0_3 := bx0_2.ext hy3
  have bx1_3 := bx1_2.ext hy3
  clear z2_0_0 z2_0_1 z2_0_2 z2_0_3 z2_0_4 z2_1_0 z2_1_1 z2_1_2 z2_1_3 z2_1_4
  have z3_0_0 : w3.cell? ⟨w.heap.size, 0, none⟩ = some (.int .i64 ca.n) := bx0_3.cell 0
  have z3_0_1 : w3.cell? ⟨w.heap.size, 1, none⟩ = some (.int .i64 ca.bits) := bx0_3.cell 1
  have z3_0_2 : w3.cell? ⟨w.heap.size, 2, none⟩ = some (.slice Aca1 ca.ops.length cca1) := bx0_3.cell 2
  have z3_0_3 : w3.cell? ⟨w.heap.size, 3, none⟩ = some (.slice Aca2 ca.st.length cca2) := bx0_3.cell 3
  have z3_0_4 : w3.cell? ⟨w.heap.size, 4, none⟩ = some (.slice Aca3 ca.fin.length cca3) := bx0_3.cell 4
  have z3_1_0 : w3.cell? ⟨w.heap.size + 1, 0, none⟩ = some (.int .i64 cb.n) := bx1_3.cell 0
  have z3_1_1 : w3.cell? ⟨w.heap.size + 1, 1, none⟩ = some (.int .i64 cb.bits) := bx1_3.cell 1
  have z3_1_2 : w3.cell? ⟨w.heap.size + 1, 2, none⟩ = some (.slice Acb1 cb.ops.length ccb1) := bx1_3.cell 2
  have z3_1_3 : w3.cell? ⟨w.heap.size + 1, 3, none⟩ = some (.slice Acb2 cb.st.length ccb2) := bx1_3.cell 3
  have z3_1_4 : w3.cell? ⟨w.heap.size + 1, 4, none⟩ = some (.slice Acb3 cb.fin.length ccb3) := bx1_3.cell 4
  have hca_3 := hca_2.up hy3 (by omega)
  have hcb_3 := hcb_2.up hy3 (by omega)
  by_cases hncb : (1048576 - (ca.ops.length + ca.st.length + ca.fin.length : Nat) : Int) < (cb.ops.length + cb.st.length + cb.fin.length : Nat)
  · rw [szF_lt (by omega)]
    go_wp2
    go_ret
    exact ⟨rfl, hx3'⟩
  rw [szF_ge (by omega)]
  have hsmcb : cb.small := by unfold Cm.small; omega
  go_wp2_with fail
  have HK1 : Hid (∀ w', Blk w' (w.heap.size) 60 #[.int .i64 ca.n, .int .i64 ca.bits, .slice Aca1 ca.ops.length cca1, .slice Aca2 ca.st.length cca2, .slice Aca3 ca.fin.length cca3] → Blk w' (w.heap.size + 1) 60 #[.int .i64 cb.n, .int .i64 cb.bits, .slice Acb1 cb.ops.length ccb1, .slice Acb2 cb.st.length ccb2, .slice Acb3 cb.fin.length ccb3] → w'.cell? ⟨w.heap.size, 0, none⟩ = some (.int .i64 ca.n) ∧ w'.cell? ⟨w.heap.size, 1, none⟩ = some (.int .i64 ca.bits) ∧ w'.cell? ⟨w.heap.size, 2, none⟩ = some (.slice Aca1 ca.ops.length cca1) ∧ w'.cell? ⟨w.heap.size, 3, none⟩ = some (.slice Aca2 ca.st.length cca2) ∧ w'.cell? ⟨w.heap.size, 4, none⟩ = some (.slice Aca3 ca.fin.length cca3) ∧ w'.cell? ⟨w.heap.size + 1, 0, none⟩ = some (.int .i64 cb.n) ∧ w'.cell? ⟨w.heap.size + 1, 1, none⟩ = some (.int .i64 cb.bits) ∧ w'.cell? ⟨w.heap.size + 1, 2, none⟩ = some (.slice Acb1 cb.ops.length ccb1) ∧ w'.cell? ⟨w.heap.size + 1, 3, none⟩ = some (.slice Acb2 cb.st.length ccb2) ∧ w'.cell? ⟨w.heap.size + 1, 4, none⟩ = some (.slice Acb3 cb.fin.length ccb3)) := fun w' g0 g1 => ⟨g0.cell 0, g0.cell 1, g0.cell 2, g0.cell 3, g0.cell 4, g1.cell 0, g1.cell 1, g1.cell 2, g1.cell 3, g1.cell 4⟩
  have tok0 : True := trivial
  have tok1 : True := trivial
  have tok2 : True := trivial
  go_region_held3 (fun w' => w'.cell? ⟨w.heap.size, 0, none⟩ = some (.int .i64 ca.n) ∧ w'.cell? ⟨w.heap.size, 1, none⟩ = some (.int .i64 ca.bits) ∧ w'.cell? ⟨w.heap.size, 2, none⟩ = some (.slice Aca1 ca.ops.length cca1) ∧ w'.cell? ⟨w.heap.size, 3, none⟩ = some (.slice Aca2 ca.st.length cca2) ∧ w'.cell? ⟨w.heap.size, 4, none⟩ = some (.slice Aca3 ca.fin.length cca3) ∧ w'.cell? ⟨w.heap.size + 1, 0, none⟩ = some (.int .i64 cb.n) ∧ w'.cell? ⟨w.heap.size + 1, 1, none⟩ = some (.int .i64 cb.bits) ∧ w'.cell? ⟨w.heap.size + 1, 2, none⟩ = some (.slice Acb1 cb.ops.length ccb1) ∧ w'.cell? ⟨w.heap.size + 1, 3, none⟩ = some (.slice Acb2 cb.st.length ccb2) ∧ w'.cell? ⟨w.heap.size + 1, 4, none⟩ = some (.slice Acb3 cb.fin.length ccb3))
    (first | go_keep | exact HK1.out _ (by assumption) (by assumption))
    (first
            | (go_at_call 45; have _t := tok0; clear tok0 _t; refine (toCompiled_own (.agg #[.int .i64 ca.n, .int .i64 ca.bits, .slice Aca1 ca.ops.length cca1, .slice Aca2 ca.st.length cca2, .slice Aca3 ca.fin.length cca3]) ca _ ((hca_3.up (Ext.refl w3).drew (by omega)).more (show _ ≤ w3.heap.size by omega)) hsmca).mono ?_; rintro e w4 ⟨v4, b4_1, b4_2, b4_3, rfl, ho4, hb4, hy4⟩; obtain ⟨hb4_0, hb4_1, hb4_2, hb4_3⟩ := hb4; have hr4 := ho4.at_; replace hy4 : Ext w3 w4 := Ext.trans (Ext.refl w3).drew hy4; have hz4 := hy4.size; have hx4' := hx3'.trans hy4; have bx0_4 := bx0_3.ext hy4; have bx1_4 := bx1_3.ext hy4; clear z3_0_0 z3_0_1 z3_0_2 z3_0_3 z3_0_4 z3_1_0 z3_1_1 z3_1_2 z3_1_3 z3_1_4; have z4_0_0 : w4.cell? ⟨w.heap.size, 0, none⟩ = some (.int .i64 ca.n) := bx0_4.cell 0; have z4_0_1 : w4.cell? ⟨w.heap.size, 1, none⟩ = some (.int .i64 ca.bits) := bx0_4.cell 1; have z4_0_2 : w4.cell? ⟨w.heap.size, 2, none⟩ = some (.slice Aca1 ca.ops.length cca1) := bx0_4.cell 2; have z4_0_3 : w4.cell? ⟨w.heap.size, 3, none⟩ = some (.slice Aca2 ca.st.length cca2) := bx0_4.cell 3; have z4_0_4 : w4.cell? ⟨w.heap.size, 4, none⟩ = some (.slice Aca3 ca.fin.length cca3) := bx0_4.cell 4; have z4_1_0 : w4.cell? ⟨w.heap.size + 1, 0, none⟩ = some (.int .i64 cb.n) := bx1_4.cell 0; have z4_1_1 : w4.cell? ⟨w.heap.size + 1, 1, none⟩ = some (.int .i64 cb.bits) := bx1_4.cell 1; have z4_1_2 : w4.cell? ⟨w.heap.size + 1, 2, none⟩ = some (.slice Acb1 cb.ops.length ccb1) := bx1_4.cell 2; have z4_1_3 : w4.cell? ⟨w.heap.size + 1, 3, none⟩ = some (.slice Acb2 cb.st.length ccb2) := bx1_4.cell 3; have z4_1_4 : w4.cell? ⟨w.heap.size + 1, 4, none⟩ = some (.slice Acb3 cb.fin.length ccb3) := bx1_4.cell 4; have hca_4 := hca_3.up hy4 (by omega); have hcb_4 := hcb_3.up hy4 (by omega))
            | (go_at_call 45; have _t := tok1; clear tok1 _t; refine (toCompiled_own (.agg #[.int .i64 cb.n, .int .i64 cb.bits, .slice Acb1 cb.ops.length ccb1, .slice Acb2 cb.st.length ccb2, .slice Acb3 cb.fin.length ccb3]) cb _ (hcb_4.more (by omega)) hsmcb).mono ?_; rintro e w5 ⟨v5, b5_1, b5_2, b5_3, rfl, ho5, hb5, hy5⟩; obtain ⟨hb5_0, hb5_1, hb5_2, hb5_3⟩ := hb5; have hr5 := ho5.at_; have hz5 := hy5.size; have hx5' := hx4'.trans hy5; have bx0_5 := bx0_4.ext hy5; have bx1_5 := bx1_4.ext hy5; clear z4_0_0 z4_0_1 z4_0_2 z4_0_3 z4_0_4 z4_1_0 z4_1_1 z4_1_2 z4_1_3 z4_1_4; have z5_0_0 : w5.cell? ⟨w.heap.size, 0, none⟩ = some (.int .i64 ca.n) := bx0_5.cell 0; have z5_0_1 : w5.cell? ⟨w.heap.size, 1, none⟩ = some (.int .i64 ca.bits) := bx0_5.cell 1; have z5_0_2 : w5.cell? ⟨w.heap.size, 2, none⟩ = some (.slice Aca1 ca.ops.length cca1) := bx0_5.cell 2; have z5_0_3 : w5.cell? ⟨w.heap.size, 3, none⟩ = some (.slice Aca2 ca.st.length cca2) := bx0_5.cell 3; have z5_0_4 : w5.cell? ⟨w.heap.size, 4, none⟩ = some (.slice Aca3 ca.fin.length cca3) := bx0_5.cell 4; have z5_1_0 : w5.cell? ⟨w.heap.size + 1, 0, none⟩ = some (.int .i64 cb.n) := bx1_5.cell 0; have z5_1_1 : w5.cell? ⟨w.heap.size + 1, 1, none⟩ = some (.int .i64 cb.bits) := bx1_5.cell 1; have z5_1_2 : w5.cell? ⟨w.heap.size + 1, 2, none⟩ = some (.slice Acb1 cb.ops.length ccb1) := bx1_5.cell 2; have z5_1_3 : w5.cell? ⟨w.heap.size + 1, 3, none⟩ = some (.slice Acb2 cb.st.length ccb2) := bx1_5.cell 3; have z5_1_4 : w5.cell? ⟨w.heap.size + 1, 4, none⟩ = some (.slice Acb3 cb.fin.length ccb3) := bx1_5.cell 4; have hca_5 := hca_4.up hy5 (by omega); have hcb_5 := hcb_4.up hy5 (by omega); have hr4_5 := hr4.up hy5 (by omega))
            | (go_at_call 44; have _t := tok2; clear tok2 _t; refine (spec_EqualCompiled_any v4 v5 ca cb _ (hr4_5.more (by omega)) (hr5.more (by omega)) (by have := hsmca; have := hsmcb; unfold Cm.small at *; omega)).mono ?_; rintro e w6 ⟨rfl, hy6⟩; have hz6 := hy6.size; have hx6' := hx5'.trans hy6; have bx0_6 := bx0_5.ext hy6; have bx1_6 := bx1_5.ext hy6; clear z5_0_0 z5_0_1 z5_0_2 z5_0_3 z5_0_4 z5_1_0 z5_1_1 z5_1_2 z5_1_3 z5_1_4; have z6_0_0 : w6.cell? ⟨w.heap.size, 0, none⟩ = some (.int .i64 ca.n) := bx0_6.cell 0; have z6_0_1 : w6.cell? ⟨w.heap.size, 1, none⟩ = some (.int .i64 ca.bits) := bx0_6.cell 1; have z6_0_2 : w6.cell? ⟨w.heap.size, 2, none⟩ = some (.slice Aca1 ca.ops.length cca1) := bx0_6.cell 2; have z6_0_3 : w6.cell? ⟨w.heap.size, 3, none⟩ = some (.slice Aca2 ca.st.length cca2) := bx0_6.cell 3; have z6_0_4 : w6.cell? ⟨w.heap.size, 4, none⟩ = some (.slice Aca3 ca.fin.length cca3) := bx0_6.cell 4; have z6_1_0 : w6.cell? ⟨w.heap.size + 1, 0, none⟩ = some (.int .i64 cb.n) := bx1_6.cell 0; have z6_1_1 : w6.cell? ⟨w.heap.size + 1, 1, none⟩ = some (.int .i64 cb.bits) := bx1_6.cell 1; have z6_1_2 : w6.cell? ⟨w.heap.size + 1, 2, none⟩ = some (.slice Acb1 cb.ops.length ccb1) := bx1_6.cell 2; have z6_1_3 : w6.cell? ⟨w.heap.size + 1, 3, none⟩ = some (.slice Acb2 cb.st.length ccb2) := bx1_6.cell 3; have z6_1_4 : w6.cell? ⟨w.heap.size + 1, 4, none⟩ = some (.slice Acb3 cb.fin.length ccb3) := bx1_6.cell 4; have hca_6 := hca_5.up hy6 (by omega); have hcb_6 := hcb_5.up hy6 (by omega); have hr4_6 := hr4_5.up hy6 (by omega); have hr5_6 := hr5.up hy6 (by omega)))
  go_wp2_with fail
  refine (toCompiled_own (.agg #[.int .i64 ca.n, .int .i64 ca.bits, .slice Aca1 ca.ops.length cca1, .slice Aca2 ca.st.length cca2, .slice Aca3 ca.fin.length cca3]) ca _ (hca_6.more (by omega)) hsmca).mono ?_
  rintro e w7 ⟨v7, b7_1, b7_2, b7_3, rfl, ho7, hb7, hy7⟩
  obtain ⟨hb7_0, hb7_1, hb7_2, hb7_3⟩ := hb7
  have hr7 := ho7.at_
  have hz7 := hy7.size
  have hx7' := hx6'.trans hy7
  have bx0_7 := bx0_6.ext hy7
  have bx1_7 := bx1_6.ext hy7
  clear z6_0_0 z6_0_1 z6_0_2 z6_0_3 z6_0_4 z6_1_0 z6_1_1 z6_1_2 z6_1_3 z6_1_4
  have z7_0_0 : w7.cell? ⟨w.heap.size, 0, none⟩ = some (.int .i64 ca.n) := bx0_7.cell 0
  have z7_0_1 : w7.cell? ⟨w.heap.size, 1, none⟩ = some (.int .i64 ca.bits) := bx0_7.cell 1
  have z7_0_2 : w7.cell? ⟨w.heap.size, 2, none⟩ = some (.slice Aca1 ca.ops.length cca1) := bx0_7.cell 2
  have z7_0_3 : w7.cell? ⟨w.heap.size, 3, none⟩ = some (.slice Aca2 ca.st.length cca2) := bx0_7.cell 3
  have z7_0_4 : w7.cell? ⟨w.heap.size, 4, none⟩ = some (.slice Aca3 ca.fin.length cca3) := bx0_7.cell 4
  have z7_1_0 : w7.cell? ⟨w.heap.size + 1, 0, none⟩ = some (.int .i64 cb.n) := bx1_7.cell 0
  have z7_1_1 : w7.cell? ⟨w.heap.size + 1, 1, none⟩ = some (.int .i64 cb.bits) := bx1_7.cell 1
  have z7_1_2 : w7.cell? ⟨w.heap.size + 1, 2, none⟩ = some (.slice Acb1 cb.ops.length ccb1) := bx1_7.cell 2
  have z7_1_3 : w7.cell? ⟨w.heap.size + 1, 3, none⟩ = some (.slice Acb2 cb.st.length ccb2) := bx1_7.cell 3
  have z7_1_4 : w7.cell? ⟨w.heap.size + 1, 4, none⟩ = some (.slice Acb3 cb.fin.length ccb3) := bx1_7.cell 4
  have hca_7 := hca_6.up hy7 (by omega)
  have hcb_7 := hcb_6.up hy7 (by omega)
  obtain ⟨B7_1, B7_2, B7_3, d7_1, d7_2, d7_3, rfl, hown7⟩ := ho7
  obtain ⟨own7_1, lt7_1, own7_2, lt7_2, own7_3, lt7_3⟩ := hown7
  have lb0_7 := bx0_7.lt
  have lb1_7 := bx1_7.lt
  go_wp2_with fail
  have hy8 : Ext w7 (w7.alloc (.cells #[.int .i64 ca.n, .int .i64 ca.bits, .slice B7_1 ca.ops.length d7_1, .slice B7_2 ca.st.length d7_2, .slice B7_3 ca.fin.length d7_3] 64)) := (Ext.refl _).alloc _
  have bx2_8 : Blk (w7.alloc (.cells #[.int .i64 ca.n, .int .i64 ca.bits, .slice B7_1 ca.ops.length d7_1, .slice B7_2 ca.st.length d7_2, .slice B7_3 ca.fin.length d7_3] 64)) (w7.heap.size) 64 #[.int .i64 ca.n, .int .i64 ca.bits, .slice B7_1 ca.ops.length d7_1, .slice B7_2 ca.st.length d7_2, .slice B7_3 ca.fin.length d7_3] := Blk.new _ _ _
  generalize (w7.alloc (.cells #[.int .i64 ca.n, .int .i64 ca.bits, .slice B7_1 ca.ops.length d7_1, .slice B7_2 ca.st.length d7_2, .slice B7_3 ca.fin.length d7_3] 64)) = w8 at *
  have lb2 := bx2_8.lt
  have hz8 := hy8.size
  have hx8' := hx7'.trans hy8
  have bx0_8 := bx0_7.ext hy8
  have bx1_8 := bx1_7.ext hy8
  clear z7_0_0 z7_0_1 z7_0_2 z7_0_3 z7_0_4 z7_1_0 z7_1_1 z7_1_2 z7_1_3 z7_1_4
  have z8_0_0 : w8.cell? ⟨w.heap.size, 0, none⟩ = some (.int .i64 ca.n) := bx0_8.cell 0
  have z8_0_1 : w8.cell? ⟨w.heap.size, 1, none⟩ = some (.int .i64 ca.bits) := bx0_8.cell 1
  have z8_0_2 : w8.cell? ⟨w.heap.size, 2, none⟩ = some (.slice Aca1 ca.ops.length cca1) := bx0_8.cell 2
  have z8_0_3 : w8.cell? ⟨w.heap.size, 3, none⟩ = some (.slice Aca2 ca.st.length cca2) := bx0_8.cell 3
  have z8_0_4 : w8.cell? ⟨w.heap.size, 4, none⟩ = some (.slice Aca3 ca.fin.length cca3) := bx0_8.cell 4
  have z8_1_0 : w8.cell? ⟨w.heap.size + 1, 0, none⟩ = some (.int .i64 cb.n) := bx1_8.cell 0
  have z8_1_1 : w8.cell? ⟨w.heap.size + 1, 1, none⟩ = some (.int .i64 cb.bits) := bx1_8.cell 1
  have z8_1_2 : w8.cell? ⟨w.heap.size + 1, 2, none⟩ = some (.slice Acb1 cb.ops.length ccb1) := bx1_8.cell 2
  have z8_1_3 : w8.cell? ⟨w.heap.size + 1, 3, none⟩ = some (.slice Acb2 cb.st.length ccb2) := bx1_8.cell 3
  have z8_1_4 : w8.cell? ⟨w.heap.size + 1, 4, none⟩ = some (.slice Acb3 cb.fin.length ccb3) := bx1_8.cell 4
  have z8_2_0 : w8.cell? ⟨w7.heap.size, 0, none⟩ = some (.int .i64 ca.n) := bx2_8.cell 0
  have z8_2_1 : w8.cell? ⟨w7.heap.size, 1, none⟩ = some (.int .i64 ca.bits) := bx2_8.cell 1
  have z8_2_2 : w8.cell? ⟨w7.heap.size, 2, none⟩ = some (.slice B7_1 ca.ops.length d7_1) := bx2_8.cell 2
  have z8_2_3 : w8.cell? ⟨w7.heap.size, 3, none⟩ = some (.slice B7_2 ca.st.length d7_2) := bx2_8.cell 3
  have z8_2_4 : w8.cell? ⟨w7.heap.size, 4, none⟩ = some (.slice B7_3 ca.fin.length d7_3) := bx2_8.cell 4
  have hca_8 := hca_7.up hy8 (by omega)
  have hcb_8 := hcb_7.up hy8 (by omega)
  have hr7_8 := hr7.up hy8 (by omega)
  refine (toCompiled_own (.agg #[.int .i64 cb.n, .int .i64 cb.bits, .slice Acb1 cb.ops.length ccb1, .slice Acb2 cb.st.length ccb2, .slice Acb3 cb.fin.length ccb3]) cb _ (hcb_8.more (by omega)) hsmcb).mono ?_
  rintro e w9 ⟨v9, b9_1, b9_2, b9_3, rfl, ho9, hb9, hy9⟩
  obtain ⟨hb9_0, hb9_1, hb9_2, hb9_3⟩ := hb9
  have hr9 := ho9.at_
  have hz9 := hy9.size
  have hx9' := hx8'.trans hy9
  have bx0_9 := bx0_8.ext hy9
  have bx1_9 := bx1_8.ext hy9
  have bx2_9 := bx2_8.ext hy9
  clear z8_0_0 z8_0_1 z8_0_2 z8_0_3 z8_0_4 z8_1_0 z8_1_1 z8_1_2 z8_1_3 z8_1_4 z8_2_0 z8_2_1 z8_2_2 z8_2_3 z8_2_4
  have z9_0_0 : w9.cell? ⟨w.heap.size, 0, none⟩ = some (.int .i64 ca.n) := bx0_9.cell 0
  have z9_0_1 : w9.cell? ⟨w.heap.size, 1, none⟩ = some (.int .i64 ca.bits) := bx0_9.cell 1
  have z9_0_2 : w9.cell? ⟨w.heap.size, 2, none⟩ = some (.slice Aca1 ca.ops.length cca1) := bx0_9.cell 2
  have z9_0_3 : w9.cell? ⟨w.heap.size, 3, none⟩ = some (.slice Aca2 ca.st.length cca2) := bx0_9.cell 3
  have z9_0_4 : w9.cell? ⟨w.heap.size, 4, none⟩ = some (.slice Aca3 ca.fin.length cca3) := bx0_9.cell 4
  have z9_1_0 : w9.cell? ⟨w.heap.size + 1, 0, none⟩ = some (.int .i64 cb.n) := bx1_9.cell 0
  have z9_1_1 : w9.cell? ⟨w.heap.size + 1, 1, none⟩ = some (.int .i64 cb.bits) := bx1_9.cell 1
  have z9_1_2 : w9.cell? ⟨w.heap.size + 1, 2, none⟩ = some (.slice Acb1 cb.ops.length ccb1) := bx1_9.cell 2
  have z9_1_3 : w9.cell? ⟨w.heap.size + 1, 3, none⟩ = some (.slice Acb2 cb.st.length ccb2) := bx1_9.cell 3
  have z9_1_4 : w9.cell? ⟨w.heap.size + 1, 4, none⟩ = some (.slice Acb3 cb.fin.length ccb3) := bx1_9.cell 4
  have z9_2_0 : w9.cell? ⟨w7.heap.size, 0, none⟩ = some (.int .i64 ca.n) := bx2_9.cell 0
  have z9_2_1 : w9.cell? ⟨w7.heap.size, 1, none⟩ = some (.int .i64 ca.bits) := bx2_9.cell 1
  have z9_2_2 : w9.cell? ⟨w7.heap.size, 2, none⟩ = some (.slice B7_1 ca.ops.length d7_1) := bx2_9.cell 2
  have z9_2_3 : w9.cell? ⟨w7.heap.size, 3, none⟩ = some (.slice B7_2 ca.st.length d7_2) := bx2_9.cell 3
  have z9_2_4 : w9.cell? ⟨w7.heap.size, 4, none⟩ = some (.slice B7_3 ca.fin.length d7_3) := bx2_9.cell 4
  have hca_9 := hca_8.up hy9 (by omega)
  have hcb_9 := hcb_8.up hy9 (by omega)
  have hr7_9 := hr7_8.up hy9 (by omega)
  obtain ⟨B9_1, B9_2, B9_3, d9_1, d9_2, d9_3, rfl, hown9⟩ := ho9
  obtain ⟨own9_1, lt9_1, own9_2, lt9_2, own9_3, lt9_3⟩ := hown9
  have lb0_9 := bx0_9.lt
  have lb1_9 := bx1_9.lt
  have lb2_9 := bx2_9.lt
  go_wp2_with fail
  have hy10 : Ext w9 (w9.alloc (.cells #[.int .i64 cb.n, .int .i64 cb.bits, .slice B9_1 cb.ops.length d9_1, .slice B9_2 cb.st.length d9_2, .slice B9_3 cb.fin.length d9_3] 64)) := (Ext.refl _).alloc _
  have bx3_10 : Blk (w9.alloc (.cells #[.int .i64 cb.n, .int .i64 cb.bits, .slice B9_1 cb.ops.length d9_1, .slice B9_2 cb.st.length d9_2, .slice B9_3 cb.fin.length d9_3] 64)) (w9.heap.size) 64 #[.int .i64 cb.n, .int .i64 cb.bits, .slice B9_1 cb.ops.length d9_1, .slice B9_2 cb.st.length d9_2, .slice B9_3 cb.fin.length d9_3] := Blk.new _ _ _
  generalize (w9.alloc (.cells #[.int .i64 cb.n, .int .i64 cb.bits, .slice B9_1 cb.ops.length d9_1, .slice B9_2 cb.st.length d9_2, .slice B9_3 cb.fin.length d9_3] 64)) = w10 at *
  have lb3 := bx3_10.lt
  have hz10 := hy10.size
  have hx10' := hx9'.trans hy10
  have bx0_10 := bx0_9.ext hy10
  have bx1_10 := bx1_9.ext hy10
  have bx2_10 := bx2_9.ext hy10
  clear z9_0_0 z9_0_1 z9_0_2 z9_0_3 z9_0_4 z9_1_0 z9_1_1 z9_1_2 z9_1_3 z9_1_4 z9_2_0 z9_2_1 z9_2_2 z9_2_3 z9_2_4
  have z10_0_0 : w10.cell? ⟨w.heap.size, 0, none⟩ = some (.int .i64 ca.n) := bx0_10.cell 0
  have z10_0_1 : w10.cell? ⟨w.heap.size, 1, none⟩ = some (.int .i64 ca.bits) := bx0_10.cell 1
  have z10_0_2 : w10.cell? ⟨w.heap.size, 2, none⟩ = some (.slice Aca1 ca.ops.length cca1) := bx0_10.cell 2
  have z10_0_3 : w10.cell? ⟨w.heap.size, 3, none⟩ = some (.slice Aca2 ca.st.length cca2) := bx0_10.cell 3
  have z10_0_4 : w10.cell? ⟨w.heap.size, 4, none⟩ = some (.slice Aca3 ca.fin.length cca3) := bx0_10.cell 4
  have z10_1_0 : w10.cell? ⟨w.heap.size + 1, 0, none⟩ = some (.int .i64 cb.n) := bx1_10.cell 0
  have z10_1_1 : w10.cell? ⟨w.heap.size + 1, 1, none⟩ = some (.int .i64 cb.bits) := bx1_10.cell 1
  have z10_1_2 : w10.cell? ⟨w.heap.size + 1, 2, none⟩ = some (.slice Acb1 cb.ops.length ccb1) := bx1_10.cell 2
  have z10_1_3 : w10.cell? ⟨w.heap.size + 1, 3, none⟩ = some (.slice Acb2 cb.st.length ccb2) := bx1_10.cell 3
  have z10_1_4 : w10.cell? ⟨w.heap.size + 1, 4, none⟩ = some (.slice Acb3 cb.fin.length ccb3) := bx1_10.cell 4
  have z10_2_0 : w10.cell? ⟨w7.heap.size, 0, none⟩ = some (.int .i64 ca.n) := bx2_10.cell 0
  have z10_2_1 : w10.cell? ⟨w7.heap.size, 1, none⟩ = some (.int .i64 ca.bits) := bx2_10.cell 1
  have z10_2_2 : w10.cell? ⟨w7.heap.size, 2, none⟩ = some (.slice B7_1 ca.ops.length d7_1) := bx2_10.cell 2
  have z10_2_3 : w10.cell? ⟨w7.heap.size, 3, none⟩ = some (.slice B7_2 ca.st.length d7_2) := bx2_10.cell 3
  have z10_2_4 : w10.cell? ⟨w7.heap.size, 4, none⟩ = some (.slice B7_3 ca.fin.length d7_3) := bx2_10.cell 4
  have z10_3_0 : w10.cell? ⟨w9.heap.size, 0, none⟩ = some (.int .i64 cb.n) := bx3_10.cell 0
  have z10_3_1 : w10.cell? ⟨w9.heap.size, 1, none⟩ = some (.int .i64 cb.bits) := bx3_10.cell 1
  have z10_3_2 : w10.cell? ⟨w9.heap.size, 2, none⟩ = some (.slice B9_1 cb.ops.length d9_1) := bx3_10.cell 2
  have z10_3_3 : w10.cell? ⟨w9.heap.size, 3, none⟩ = some (.slice B9_2 cb.st.length d9_2) := bx3_10.cell 3
  have z10_3_4 : w10.cell? ⟨w9.heap.size, 4, none⟩ = some (.slice B9_3 cb.fin.length d9_3) := bx3_10.cell 4
  have hca_10 := hca_9.up hy10 (by omega)
  have hcb_10 := hcb_9.up hy10 (by omega)
  have hr7_10 := hr7_9.up hy10 (by omega)
  have hr9_10 := hr9.up hy10 (by omega)
  refine (impl_EqualCompiled_any (.agg #[.int .i64 ca.n, .int .i64 ca.bits, .slice B7_1 ca.ops.length d7_1, .slice B7_2 ca.st.length d7_2, .slice B7_3 ca.fin.length d7_3]) (.agg #[.int .i64 cb.n, .int .i64 cb.bits, .slice B9_1 cb.ops.length d9_1, .slice B9_2 cb.st.length d9_2, .slice B9_3 cb.fin.length d9_3]) ca cb _ (hr7_10.more (by omega)) (hr9_10.more (by omega)) (by have := hsmca; have := hsmcb; unfold Cm.small at *; omega)).mono ?_
  rintro e w11 ⟨rfl, hy11⟩
  have hz11 := hy11.size
  have hx11' := hx10'.trans hy11
  have bx0_11 := bx0_10.ext hy11
  have bx1_11 := bx1_10.ext hy11
  have bx2_11 := bx2_10.ext hy11
  have bx3_11 := bx3_10.ext hy11
  clear z10_0_0 z10_0_1 z10_0_2 z10_0_3 z10_0_4 z10_1_0 z10_1_1 z10_1_2 z10_1_3 z10_1_4 z10_2_0 z10_2_1 z10_2_2 z10_2_3 z10_2_4 z10_3_0 z10_3_1 z10_3_2 z10_3_3 z10_3_4
  have z11_0_0 : w11.cell? ⟨w.heap.size, 0, none⟩ = some (.int .i64 ca.n) := bx0_11.cell 0
  have z11_0_1 : w11.cell? ⟨w.heap.size, 1, none⟩ = some (.int .i64 ca.bits) := bx0_11.cell 1
  have z11_0_2 : w11.cell? ⟨w.heap.size, 2, none⟩ = some (.slice Aca1 ca.ops.length cca1) := bx0_11.cell 2
  have z11_0_3 : w11.cell? ⟨w.heap.size, 3, none⟩ = some (.slice Aca2 ca.st.length cca2) := bx0_11.cell 3
  have z11_0_4 : w11.cell? ⟨w.heap.size, 4, none⟩ = some (.slice Aca3 ca.fin.length cca3) := bx0_11.cell 4
  have z11_1_0 : w11.cell? ⟨w.heap.size + 1, 0, none⟩ = some (.int .i64 cb.n) := bx1_11.cell 0
  have z11_1_1 : w11.cell? ⟨w.heap.size + 1, 1, none⟩ = some (.int .i64 cb.bits) := bx1_11.cell 1
  have z11_1_2 : w11.cell? ⟨w.heap.size + 1, 2, none⟩ = some (.slice Acb1 cb.ops.length ccb1) := bx1_11.cell 2
  have z11_1_3 : w11.cell? ⟨w.heap.size + 1, 3, none⟩ = some (.slice Acb2 cb.st.length ccb2) := bx1_11.cell 3
  have z11_1_4 : w11.cell? ⟨w.heap.size + 1, 4, none⟩ = some (.slice Acb3 cb.fin.length ccb3) := bx1_11.cell 4
  have z11_2_0 : w11.cell? ⟨w7.heap.size, 0, none⟩ = some (.int .i64 ca.n) := bx2_11.cell 0
  have z11_2_1 : w11.cell? ⟨w7.heap.size, 1, none⟩ = some (.int .i64 ca.bits) := bx2_11.cell 1
  have z11_2_2 : w11.cell? ⟨w7.heap.size, 2, none⟩ = some (.slice B7_1 ca.ops.length d7_1) := bx2_11.cell 2
  have z11_2_3 : w11.cell? ⟨w7.heap.size, 3, none⟩ = some (.slice B7_2 ca.st.length d7_2) := bx2_11.cell 3
  have z11_2_4 : w11.cell? ⟨w7.heap.size, 4, none⟩ = some (.slice B7_3 ca.fin.length d7_3) := bx2_11.cell 4
  have z11_3_0 : w11.cell? ⟨w9.heap.size, 0, none⟩ = some (.int .i64 cb.n) := bx3_11.cell 0
  have z11_3_1 : w11.cell? ⟨w9.heap.size, 1, none⟩ = some (.int .i64 cb.bits) := bx3_11.cell 1
  have z11_3_2 : w11.cell? ⟨w9.heap.size, 2, none⟩ = some (.slice B9_1 cb.ops.length d9_1) := bx3_11.cell 2
  have z11_3_3 : w11.cell? ⟨w9.heap.size, 3, none⟩ = some (.slice B9_2 cb.st.length d9_2) := bx3_11.cell 3
  have z11_3_4 : w11.cell? ⟨w9.heap.size, 4, none⟩ = some (.slice B9_3 cb.fin.length d9_3) := bx3_11.cell 4
  have hca_11 := hca_10.up hy11 (by omega)
  have hcb_11 := hcb_10.up hy11 (by omega)
  have hr7_11 := hr7_10.up hy11 (by omega)
  have hr9_11 := hr9_10.up hy11 (by omega)
  go_wp2_with fail
  have HK2 : Hid (∀ w', Blk w' (w.heap.size) 60 #[.int .i64 ca.n, .int .i64 ca.bits, .slice Aca1 ca.ops.length cca1, .slice Aca2 ca.st.length cca2, .slice Aca3 ca.fin.length cca3] → Blk w' (w.heap.size + 1) 60 #[.int .i64 cb.n, .int .i64 cb.bits, .slice Acb1 cb.ops.length ccb1, .slice Acb2 cb.st.length ccb2, .slice Acb3 cb.fin.length ccb3] → Blk w' (w7.heap.size) 64 #[.int .i64 ca.n, .int .i64 ca.bits, .slice B7_1 ca.ops.length d7_1, .slice B7_2 ca.st.length d7_2, .slice B7_3 ca.fin.length d7_3] → Blk w' (w9.heap.size) 64 #[.int .i64 cb.n, .int .i64 cb.bits, .slice B9_1 cb.ops.length d9_1, .slice B9_2 cb.st.length d9_2, .slice B9_3 cb.fin.length d9_3] → w'.cell? ⟨w.heap.size, 0, none⟩ = some (.int .i64 ca.n) ∧ w'.cell? ⟨w.heap.size, 1, none⟩ = some (.int .i64 ca.bits) ∧ w'.cell? ⟨w.heap.size, 2, none⟩ = some (.slice Aca1 ca.ops.length cca1) ∧ w'.cell? ⟨w.heap.size, 3, none⟩ = some (.slice Aca2 ca.st.length cca2) ∧ w'.cell? ⟨w.heap.size, 4, none⟩ = some (.slice Aca3 ca.fin.length cca3) ∧ w'.cell? ⟨w.heap.size + 1, 0, none⟩ = some (.int .i64 cb.n) ∧ w'.cell? ⟨w.heap.size + 1, 1, none⟩ = some (.int .i64 cb.bits) ∧ w'.cell? ⟨w.heap.size + 1, 2, none⟩ = some (.slice Acb1 cb.ops.length ccb1) ∧ w'.cell? ⟨w.heap.size + 1, 3, none⟩ = some (.slice Acb2 cb.st.length ccb2) ∧ w'.cell? ⟨w.heap.size + 1, 4, none⟩ = some (.slice Acb3 cb.fin.length ccb3) ∧ w'.cell? ⟨w7.heap.size, 0, none⟩ = some (.int .i64 ca.n) ∧ w'.cell? ⟨w7.heap.size, 1, none⟩ = some (.int .i64 ca.bits) ∧ w'.cell? ⟨w7.heap.size, 2, none⟩ = some (.slice B7_1 ca.ops.length d7_1) ∧ w'.cell? ⟨w7.heap.size, 3, none⟩ = some (.slice B7_2 ca.st.length d7_2) ∧ w'.cell? ⟨w7.heap.size, 4, none⟩ = some (.slice B7_3 ca.fin.length d7_3) ∧ w'.cell? ⟨w9.heap.size, 0, none⟩ = some (.int .i64 cb.n) ∧ w'.cell? ⟨w9.heap.size, 1, none⟩ = some (.int .i64 cb.bits) ∧ w'.cell? ⟨w9.heap.size, 2, none⟩ = some (.slice B9_1 cb.ops.length d9_1) ∧ w'.cell? ⟨w9.heap.size, 3, none⟩ = some (.slice B9_2 cb.st.length d9_2) ∧ w'.cell? ⟨w9.heap.size, 4, none⟩ = some (.slice B9_3 cb.fin.length d9_3)) := fun w' g0 g1 g2 g3 => ⟨g0.cell 0, g0.cell 1, g0.cell 2, g0.cell 3, g0.cell 4, g1.cell 0, g1.cell 1, g1.cell 2, g1.cell 3, g1.cell 4, g2.cell 0, g2.cell 1, g2.cell 2, g2.cell 3, g2.cell 4, g3.cell 0, g3.cell 1, g3.cell 2, g3.cell 3, g3.cell 4⟩
  have tok0 : True := trivial
  have tok1 : True := trivial
  go_region_held3 (fun w' => w'.cell? ⟨w.heap.size, 0, none⟩ = some (.int .i64 ca.n) ∧ w'.cell? ⟨w.heap.size, 1, none⟩ = some (.int .i64 ca.bits) ∧ w'.cell? ⟨w.heap.size, 2, none⟩ = some (.slice Aca1 ca.ops.length cca1) ∧ w'.cell? ⟨w.heap.size, 3, none⟩ = some (.slice Aca2 ca.st.length cca2) ∧ w'.cell? ⟨w.heap.size, 4, none⟩ = some (.slice Aca3 ca.fin.length cca3) ∧ w'.cell? ⟨w.heap.size + 1, 0, none⟩ = some (.int .i64 cb.n) ∧ w'.cell? ⟨w.heap.size + 1, 1, none⟩ = some (.int .i64 cb.bits) ∧ w'.cell? ⟨w.heap.size + 1, 2, none⟩ = some (.slice Acb1 cb.ops.length ccb1) ∧ w'.cell? ⟨w.heap.size + 1, 3, none⟩ = some (.slice Acb2 cb.st.length ccb2) ∧ w'.cell? ⟨w.heap.size + 1, 4, none⟩ = some (.slice Acb3 cb.fin.length ccb3) ∧ w'.cell? ⟨w7.heap.size, 0, none⟩ = some (.int .i64 ca.n) ∧ w'.cell? ⟨w7.heap.size, 1, none⟩ = some (.int .i64 ca.bits) ∧ w'.cell? ⟨w7.heap.size, 2, none⟩ = some (.slice B7_1 ca.ops.length d7_1) ∧ w'.cell? ⟨w7.heap.size, 3, none⟩ = some (.slice B7_2 ca.st.length d7_2) ∧ w'.cell? ⟨w7.heap.size, 4, none⟩ = some (.slice B7_3 ca.fin.length d7_3) ∧ w'.cell? ⟨w9.heap.size, 0, none⟩ = some (.int .i64 cb.n) ∧ w'.cell? ⟨w9.heap.size, 1, none⟩ = some (.int .i64 cb.bits) ∧ w'.cell? ⟨w9.heap.size, 2, none⟩ = some (.slice B9_1 cb.ops.length d9_1) ∧ w'.cell? ⟨w9.heap.size, 3, none⟩ = some (.slice B9_2 cb.st.length d9_2) ∧ w'.cell? ⟨w9.heap.size, 4, none⟩ = some (.slice B9_3 cb.fin.length d9_3))
    (first | go_keep | exact HK2.out _ (by assumption) (by assumption) (by assumption) (by assumption))
    (first
            | (go_at_call 45; have _t := tok0; clear tok0 _t; refine (toCompiled_own (.agg #[.int .i64 ca.n, .int .i64 ca.bits, .slice Aca1 ca.ops.length cca1, .slice Aca2 ca.st.length cca2, .slice Aca3 ca.fin.length cca3]) ca _ ((hca_11.up (Ext.refl w11).drew (by omega)).more (show _ ≤ w11.heap.size by omega)) hsmca).mono ?_; rintro e w12 ⟨v12, b12_1, b12_2, b12_3, rfl, ho12, hb12, hy12⟩; obtain ⟨hb12_0, hb12_1, hb12_2, hb12_3⟩ := hb12; have hr12 := ho12.at_; replace hy12 : Ext w11 w12 := Ext.trans (Ext.refl w11).drew hy12; have hz12 := hy12.size; have hx12' := hx11'.trans hy12; have bx0_12 := bx0_11.ext hy12; have bx1_12 := bx1_11.ext hy12; have bx2_12 := bx2_11.ext hy12; have bx3_12 := bx3_11.ext hy12; clear z11_0_0 z11_0_1 z11_0_2 z11_0_3 z11_0_4 z11_1_0 z11_1_1 z11_1_2 z11_1_3 z11_1_4 z11_2_0 z11_2_1 z11_2_2 z11_2_3 z11_2_4 z11_3_0 z11_3_1 z11_3_2 z11_3_3 z11_3_4; have z12_0_0 : w12.cell? ⟨w.heap.size, 0, none⟩ = some (.int .i64 ca.n) := bx0_12.cell 0; have z12_0_1 : w12.cell? ⟨w.heap.size, 1, none⟩ = some (.int .i64 ca.bits) := bx0_12.cell 1; have z12_0_2 : w12.cell? ⟨w.heap.size, 2, none⟩ = some (.slice Aca1 ca.ops.length cca1) := bx0_12.cell 2; have z12_0_3 : w12.cell? ⟨w.heap.size, 3, none⟩ = some (.slice Aca2 ca.st.length cca2) := bx0_12.cell 3; have z12_0_4 : w12.cell? ⟨w.heap.size, 4, none⟩ = some (.slice Aca3 ca.fin.length cca3) := bx0_12.cell 4; have z12_1_0 : w12.cell? ⟨w.heap.size + 1, 0, none⟩ = some (.int .i64 cb.n) := bx1_12.cell 0; have z12_1_1 : w12.cell? ⟨w.heap.size + 1, 1, none⟩ = some (.int .i64 cb.bits) := bx1_12.cell 1; have z12_1_2 : w12.cell? ⟨w.heap.size + 1, 2, none⟩ = some (.slice Acb1 cb.ops.length ccb1) := bx1_12.cell 2; have z12_1_3 : w12.cell? ⟨w.heap.size + 1, 3, none⟩ = some (.slice Acb2 cb.st.length ccb2) := bx1_12.cell 3; have z12_1_4 : w12.cell? ⟨w.heap.size + 1, 4, none⟩ = some (.slice Acb3 cb.fin.length ccb3) := bx1_12.cell 4; have z12_2_0 : w12.cell? ⟨w7.heap.size, 0, none⟩ = some (.int .i64 ca.n) := bx2_12.cell 0; have z12_2_1 : w12.cell? ⟨w7.heap.size, 1, none⟩ = some (.int .i64 ca.bits) := bx2_12.cell 1; have z12_2_2 : w12.cell? ⟨w7.heap.size, 2, none⟩ = some (.slice B7_1 ca.ops.length d7_1) := bx2_12.cell 2; have z12_2_3 : w12.cell? ⟨w7.heap.size, 3, none⟩ = some (.slice B7_2 ca.st.length d7_2) := bx2_12.cell 3; have z12_2_4 : w12.cell? ⟨w7.heap.size, 4, none⟩ = some (.slice B7_3 ca.fin.length d7_3) := bx2_12.cell 4; have z12_3_0 : w12.cell? ⟨w9.heap.size, 0, none⟩ = some (.int .i64 cb.n) := bx3_12.cell 0; have z12_3_1 : w12.cell? ⟨w9.heap.size, 1, none⟩ = some (.int .i64 cb.bits) := bx3_12.cell 1; have z12_3_2 : w12.cell? ⟨w9.heap.size, 2, none⟩ = some (.slice B9_1 cb.ops.length d9_1) := bx3_12.cell 2; have z12_3_3 : w12.cell? ⟨w9.heap.size, 3, none⟩ = some (.slice B9_2 cb.st.length d9_2) := bx3_12.cell 3; have z12_3_4 : w12.cell? ⟨w9.heap.size, 4, none⟩ = some (.slice B9_3 cb.fin.length d9_3) := bx3_12.cell 4; have hca_12 := hca_11.up hy12 (by omega); have hcb_12 := hcb_11.up hy12 (by omega); have hr7_12 := hr7_11.up hy12 (by omega); have hr9_12 := hr9_11.up hy12 (by omega))
            | (go_at_call 47; have _t := tok1; clear tok1 _t; refine (eqCompiled_any (.agg #[.int .i64 ca.n, .int .i64 ca.bits, .slice B7_1 ca.ops.length d7_1, .slice B7_2 ca.st.length d7_2, .slice B7_3 ca.fin.length d7_3]) v12 ca ca _ (hr7_12.more (by omega)) (hr12.more (by omega)) (by have := hsmca; unfold Cm.small at this; omega)).mono ?_; rintro e w13 ⟨rfl, hy13⟩; rw [eqCm_self]; have hz13 := hy13.size; have hx13' := hx12'.trans hy13; have bx0_13 := bx0_12.ext hy13; have bx1_13 := bx1_12.ext hy13; have bx2_13 := bx2_12.ext hy13; have bx3_13 := bx3_12.ext hy13; clear z12_0_0 z12_0_1 z12_0_2 z12_0_3 z12_0_4 z12_1_0 z12_1_1 z12_1_2 z12_1_3 z12_1_4 z12_2_0 z12_2_1 z12_2_2 z12_2_3 z12_2_4 z12_3_0 z12_3_1 z12_3_2 z12_3_3 z12_3_4; have z13_0_0 : w13.cell? ⟨w.heap.size, 0, none⟩ = some (.int .i64 ca.n) := bx0_13.cell 0; have z13_0_1 : w13.cell? ⟨w.heap.size, 1, none⟩ = some (.int .i64 ca.bits) := bx0_13.cell 1; have z13_0_2 : w13.cell? ⟨w.heap.size, 2, none⟩ = some (.slice Aca1 ca.ops.length cca1) := bx0_13.cell 2; have z13_0_3 : w13.cell? ⟨w.heap.size, 3, none⟩ = some (.slice Aca2 ca.st.length cca2) := bx0_13.cell 3; have z13_0_4 : w13.cell? ⟨w.heap.size, 4, none⟩ = some (.slice Aca3 ca.fin.length cca3) := bx0_13.cell 4; have z13_1_0 : w13.cell? ⟨w.heap.size + 1, 0, none⟩ = some (.int .i64 cb.n) := bx1_13.cell 0; have z13_1_1 : w13.cell? ⟨w.heap.size + 1, 1, none⟩ = some (.int .i64 cb.bits) := bx1_13.cell 1; have z13_1_2 : w13.cell? ⟨w.heap.size + 1, 2, none⟩ = some (.slice Acb1 cb.ops.length ccb1) := bx1_13.cell 2; have z13_1_3 : w13.cell? ⟨w.heap.size + 1, 3, none⟩ = some (.slice Acb2 cb.st.length ccb2) := bx1_13.cell 3; have z13_1_4 : w13.cell? ⟨w.heap.size + 1, 4, none⟩ = some (.slice Acb3 cb.fin.length ccb3) := bx1_13.cell 4; have z13_2_0 : w13.cell? ⟨w7.heap.size, 0, none⟩ = some (.int .i64 ca.n) := bx2_13.cell 0; have z13_2_1 : w13.cell? ⟨w7.heap.size, 1, none⟩ = some (.int .i64 ca.bits) := bx2_13.cell 1; have z13_2_2 : w13.cell? ⟨w7.heap.size, 2, none⟩ = some (.slice B7_1 ca.ops.length d7_1) := bx2_13.cell 2; have z13_2_3 : w13.cell? ⟨w7.heap.size, 3, none⟩ = some (.slice B7_2 ca.st.length d7_2) := bx2_13.cell 3; have z13_2_4 : w13.cell? ⟨w7.heap.size, 4, none⟩ = some (.slice B7_3 ca.fin.length d7_3) := bx2_13.cell 4; have z13_3_0 : w13.cell? ⟨w9.heap.size, 0, none⟩ = some (.int .i64 cb.n) := bx3_13.cell 0; have z13_3_1 : w13.cell? ⟨w9.heap.size, 1, none⟩ = some (.int .i64 cb.bits) := bx3_13.cell 1; have z13_3_2 : w13.cell? ⟨w9.heap.size, 2, none⟩ = some (.slice B9_1 cb.ops.length d9_1) := bx3_13.cell 2; have z13_3_3 : w13.cell? ⟨w9.heap.size, 3, none⟩ = some (.slice B9_2 cb.st.length d9_2) := bx3_13.cell 3; have z13_3_4 : w13.cell? ⟨w9.heap.size, 4, none⟩ = some (.slice B9_3 cb.fin.length d9_3) := bx3_13.cell 4; have hca_13 := hca_12.up hy13 (by omega); have hcb_13 := hcb_12.up hy13 (by omega); have hr7_13 := hr7_12.up hy13 (by omega); have hr9_13 := hr9_12.up hy13 (by omega); have hr12_13 := hr12.up hy13 (by omega)))
  go_wp2_with fail
  have HK3 : Hid (∀ w', Blk w' (w.heap.size) 60 #[.int .i64 ca.n, .int .i64 ca.bits, .slice Aca1 ca.ops.length cca1, .slice Aca2 ca.st.length cca2, .slice Aca3 ca.fin.length cca3] → Blk w' (w.heap.size + 1) 60 #[.int .i64 cb.n, .int .i64 cb.bits, .slice Acb1 cb.ops.length ccb1, .slice Acb2 cb.st.length ccb2, .slice Acb3 cb.fin.length ccb3] → Blk w' (w7.heap.size) 64 #[.int .i64 ca.n, .int .i64 ca.bits, .slice B7_1 ca.ops.length d7_1, .slice B7_2 ca.st.length d7_2, .slice B7_3 ca.fin.length d7_3] → Blk w' (w9.heap.size) 64 #[.int .i64 cb.n, .int .i64 cb.bits, .slice B9_1 cb.ops.length d9_1, .slice B9_2 cb.st.length d9_2, .slice B9_3 cb.fin.length d9_3] → w'.cell? ⟨w.heap.size, 0, none⟩ = some (.int .i64 ca.n) ∧ w'.cell? ⟨w.heap.size, 1, none⟩ = some (.int .i64 ca.bits) ∧ w'.cell? ⟨w.heap.size, 2, none⟩ = some (.slice Aca1 ca.ops.length cca1) ∧ w'.cell? ⟨w.heap.size, 3, none⟩ = some (.slice Aca2 ca.st.length cca2) ∧ w'.cell? ⟨w.heap.size, 4, none⟩ = some (.slice Aca3 ca.fin.length cca3) ∧ w'.cell? ⟨w.heap.size + 1, 0, none⟩ = some (.int .i64 cb.n) ∧ w'.cell? ⟨w.heap.size + 1, 1, none⟩ = some (.int .i64 cb.bits) ∧ w'.cell? ⟨w.heap.size + 1, 2, none⟩ = some (.slice Acb1 cb.ops.length ccb1) ∧ w'.cell? ⟨w.heap.size + 1, 3, none⟩ = some (.slice Acb2 cb.st.length ccb2) ∧ w'.cell? ⟨w.heap.size + 1, 4, none⟩ = some (.slice Acb3 cb.fin.length ccb3) ∧ w'.cell? ⟨w7.heap.size, 0, none⟩ = some (.int .i64 ca.n) ∧ w'.cell? ⟨w7.heap.size, 1, none⟩ = some (.int .i64 ca.bits) ∧ w'.cell? ⟨w7.heap.size, 2, none⟩ = some (.slice B7_1 ca.ops.length d7_1) ∧ w'.cell? ⟨w7.heap.size, 3, none⟩ = some (.slice B7_2 ca.st.length d7_2) ∧ w'.cell? ⟨w7.heap.size, 4, none⟩ = some (.slice B7_3 ca.fin.length d7_3) ∧ w'.cell? ⟨w9.heap.size, 0, none⟩ = some (.int .i64 cb.n) ∧ w'.cell? ⟨w9.heap.size, 1, none⟩ = some (.int .i64 cb.bits) ∧ w'.cell? ⟨w9.heap.size, 2, none⟩ = some (.slice B9_1 cb.ops.length d9_1) ∧ w'.cell? ⟨w9.heap.size, 3, none⟩ = some (.slice B9_2 cb.st.length d9_2) ∧ w'.cell? ⟨w9.heap.size, 4, none⟩ = some (.slice B9_3 cb.fin.length d9_3)) := fun w' g0 g1 g2 g3 => ⟨g0.cell 0, g0.cell 1, g0.cell 2, g0.cell 3, g0.cell 4, g1.cell 0, g1.cell 1, g1.cell 2, g1.cell 3, g1.cell 4, g2.cell 0, g2.cell 1, g2.cell 2, g2.cell 3, g2.cell 4, g3.cell 0, g3.cell 1, g3.cell 2, g3.cell 3, g3.cell 4⟩
  have tok0 : True := trivial
  have tok1 : True := trivial
  go_region_held3 (fun w' => w'.cell? ⟨w.heap.size, 0, none⟩ = some (.int .i64 ca.n) ∧ w'.cell? ⟨w.heap.size, 1, none⟩ = some (.int .i64 ca.bits) ∧ w'.cell? ⟨w.heap.size, 2, none⟩ = some (.slice Aca1 ca.ops.length cca1) ∧ w'.cell? ⟨w.heap.size, 3, none⟩ = some (.slice Aca2 ca.st.length cca2) ∧ w'.cell? ⟨w.heap.size, 4, none⟩ = some (.slice Aca3 ca.fin.length cca3) ∧ w'.cell? ⟨w.heap.size + 1, 0, none⟩ = some (.int .i64 cb.n) ∧ w'.cell? ⟨w.heap.size + 1, 1, none⟩ = some (.int .i64 cb.bits) ∧ w'.cell? ⟨w.heap.size + 1, 2, none⟩ = some (.slice Acb1 cb.ops.length ccb1) ∧ w'.cell? ⟨w.heap.size + 1, 3, none⟩ = some (.slice Acb2 cb.st.length ccb2) ∧ w'.cell? ⟨w.heap.size + 1, 4, none⟩ = some (.slice Acb3 cb.fin.length ccb3) ∧ w'.cell? ⟨w7.heap.size, 0, none⟩ = some (.int .i64 ca.n) ∧ w'.cell? ⟨w7.heap.size, 1, none⟩ = some (.int .i64 ca.bits) ∧ w'.cell? ⟨w7.heap.size, 2, none⟩ = some (.slice B7_1 ca.ops.length d7_1) ∧ w'.cell? ⟨w7.heap.size, 3, none⟩ = some (.slice B7_2 ca.st.length d7_2) ∧ w'.cell? ⟨w7.heap.size, 4, none⟩ = some (.slice B7_3 ca.fin.length d7_3) ∧ w'.cell? ⟨w9.heap.size, 0, none⟩ = some (.int .i64 cb.n) ∧ w'.cell? ⟨w9.heap.size, 1, none⟩ = some (.int .i64 cb.bits) ∧ w'.cell? ⟨w9.heap.size, 2, none⟩ = some (.slice B9_1 cb.ops.length d9_1) ∧ w'.cell? ⟨w9.heap.size, 3, none⟩ = some (.slice B9_2 cb.st.length d9_2) ∧ w'.cell? ⟨w9.heap.size, 4, none⟩ = some (.slice B9_3 cb.fin.length d9_3))
    (first | go_keep | exact HK3.out _ (by assumption) (by assumption) (by assumption) (by assumption))
    (first
            | (go_at_call 45; have _t := tok0; clear tok0 _t; refine (toCompiled_own (.agg #[.int .i64 cb.n, .int .i64 cb.bits, .slice Acb1 cb.ops.length ccb1, .slice Acb2 cb.st.length ccb2, .slice Acb3 cb.fin.length ccb3]) cb _ ((hcb_13.up (Ext.refl w13).drew (by omega)).more (show _ ≤ w13.heap.size by omega)) hsmcb).mono ?_; rintro e w14 ⟨v14, b14_1, b14_2, b14_3, rfl, ho14, hb14, hy14⟩; obtain ⟨hb14_0, hb14_1, hb14_2, hb14_3⟩ := hb14; have hr14 := ho14.at_; replace hy14 : Ext w13 w14 := Ext.trans (Ext.refl w13).drew hy14; have hz14 := hy14.size; have hx14' := hx13'.trans hy14; have bx0_14 := bx0_13.ext hy14; have bx1_14 := bx1_13.ext hy14; have bx2_14 := bx2_13.ext hy14; have bx3_14 := bx3_13.ext hy14; clear z13_0_0 z13_0_1 z13_0_2 z13_0_3 z13_0_4 z13_1_0 z13_1_1 z13_1_2 z13_1_3 z13_1_4 z13_2_0 z13_2_1 z13_2_2 z13_2_3 z13_2_4 z13_3_0 z13_3_1 z13_3_2 z13_3_3 z13_3_4; have z14_0_0 : w14.cell? ⟨w.heap.size, 0, none⟩ = some (.int .i64 ca.n) := bx0_14.cell 0; have z14_0_1 : w14.cell? ⟨w.heap.size, 1, none⟩ = some (.int .i64 ca.bits) := bx0_14.cell 1; have z14_0_2 : w14.cell? ⟨w.heap.size, 2, none⟩ = some (.slice Aca1 ca.ops.length cca1) := bx0_14.cell 2; have z14_0_3 : w14.cell? ⟨w.heap.size, 3, none⟩ = some (.slice Aca2 ca.st.length cca2) := bx0_14.cell 3; have z14_0_4 : w14.cell? ⟨w.heap.size, 4, none⟩ = some (.slice Aca3 ca.fin.length cca3) := bx0_14.cell 4; have z14_1_0 : w14.cell? ⟨w.heap.size + 1, 0, none⟩ = some (.int .i64 cb.n) := bx1_14.cell 0; have z14_1_1 : w14.cell? ⟨w.heap.size + 1, 1, none⟩ = some (.int .i64 cb.bits) := bx1_14.cell 1; have z14_1_2 : w14.cell? ⟨w.heap.size + 1, 2, none⟩ = some (.slice Acb1 cb.ops.length ccb1) := bx1_14.cell 2; have z14_1_3 : w14.cell? ⟨w.heap.size + 1, 3, none⟩ = some (.slice Acb2 cb.st.length ccb2) := bx1_14.cell 3; have z14_1_4 : w14.cell? ⟨w.heap.size + 1, 4, none⟩ = some (.slice Acb3 cb.fin.length ccb3) := bx1_14.cell 4; have z14_2_0 : w14.cell? ⟨w7.heap.size, 0, none⟩ = some (.int .i64 ca.n) := bx2_14.cell 0; have z14_2_1 : w14.cell? ⟨w7.heap.size, 1, none⟩ = some (.int .i64 ca.bits) := bx2_14.cell 1; have z14_2_2 : w14.cell? ⟨w7.heap.size, 2, none⟩ = some (.slice B7_1 ca.ops.length d7_1) := bx2_14.cell 2; have z14_2_3 : w14.cell? ⟨w7.heap.size, 3, none⟩ = some (.slice B7_2 ca.st.length d7_2) := bx2_14.cell 3; have z14_2_4 : w14.cell? ⟨w7.heap.size, 4, none⟩ = some (.slice B7_3 ca.fin.length d7_3) := bx2_14.cell 4; have z14_3_0 : w14.cell? ⟨w9.heap.size, 0, none⟩ = some (.int .i64 cb.n) := bx3_14.cell 0; have z14_3_1 : w14.cell? ⟨w9.heap.size, 1, none⟩ = some (.int .i64 cb.bits) := bx3_14.cell 1; have z14_3_2 : w14.cell? ⟨w9.heap.size, 2, none⟩ = some (.slice B9_1 cb.ops.length d9_1) := bx3_14.cell 2; have z14_3_3 : w14.cell? ⟨w9.heap.size, 3, none⟩ = some (.slice B9_2 cb.st.length d9_2) := bx3_14.cell 3; have z14_3_4 : w14.cell? ⟨w9.heap.size, 4, none⟩ = some (.slice B9_3 cb.fin.length d9_3) := bx3_14.cell 4; have hca_14 := hca_13.up hy14 (by omega); have hcb_14 := hcb_13.up hy14 (by omega); have hr7_14 := hr7_13.up hy14 (by omega); have hr9_14 := hr9_13.up hy14 (by omega))
            | (go_at_call 47; have _t := tok1; clear tok1 _t; refine (eqCompiled_any (.agg #[.int .i64 cb.n, .int .i64 cb.bits, .slice B9_1 cb.ops.length d9_1, .slice B9_2 cb.st.length d9_2, .slice B9_3 cb.fin.length d9_3]) v14 cb cb _ (hr9_14.more (by omega)) (hr14.more (by omega)) (by have := hsmcb; unfold Cm.small at this; omega)).mono ?_; rintro e w15 ⟨rfl, hy15⟩; rw [eqCm_self]; have hz15 := hy15.size; have hx15' := hx14'.trans hy15; have bx0_15 := bx0_14.ext hy15; have bx1_15 := bx1_14.ext hy15; have bx2_15 := bx2_14.ext hy15; have bx3_15 := bx3_14.ext hy15; clear z14_0_0 z14_0_1 z14_0_2 z14_0_3 z14_0_4 z14_1_0 z14_1_1 z14_1_2 z14_1_3 z14_1_4 z14_2_0 z14_2_1 z14_2_2 z14_2_3 z14_2_4 z14_3_0 z14_3_1 z14_3_2 z14_3_3 z14_3_4; have z15_0_0 : w15.cell? ⟨w.heap.size, 0, none⟩ = some (.int .i64 ca.n) := bx0_15.cell 0; have z15_0_1 : w15.cell? ⟨w.heap.size, 1, none⟩ = some (.int .i64 ca.bits) := bx0_15.cell 1; have z15_0_2 : w15.cell? ⟨w.heap.size, 2, none⟩ = some (.slice Aca1 ca.ops.length cca1) := bx0_15.cell 2; have z15_0_3 : w15.cell? ⟨w.heap.size, 3, none⟩ = some (.slice Aca2 ca.st.length cca2) := bx0_15.cell 3; have z15_0_4 : w15.cell? ⟨w.heap.size, 4, none⟩ = some (.slice Aca3 ca.fin.length cca3) := bx0_15.cell 4; have z15_1_0 : w15.cell? ⟨w.heap.size + 1, 0, none⟩ = some (.int .i64 cb.n) := bx1_15.cell 0; have z15_1_1 : w15.cell? ⟨w.heap.size + 1, 1, none⟩ = some (.int .i64 cb.bits) := bx1_15.cell 1; have z15_1_2 : w15.cell? ⟨w.heap.size + 1, 2, none⟩ = some (.slice Acb1 cb.ops.length ccb1) := bx1_15.cell 2; have z15_1_3 : w15.cell? ⟨w.heap.size + 1, 3, none⟩ = some (.slice Acb2 cb.st.length ccb2) := bx1_15.cell 3; have z15_1_4 : w15.cell? ⟨w.heap.size + 1, 4, none⟩ = some (.slice Acb3 cb.fin.length ccb3) := bx1_15.cell 4; have z15_2_0 : w15.cell? ⟨w7.heap.size, 0, none⟩ = some (.int .i64 ca.n) := bx2_15.cell 0; have z15_2_1 : w15.cell? ⟨w7.heap.size, 1, none⟩ = some (.int .i64 ca.bits) := bx2_15.cell 1; have z15_2_2 : w15.cell? ⟨w7.heap.size, 2, none⟩ = some (.slice B7_1 ca.ops.length d7_1) := bx2_15.cell 2; have z15_2_3 : w15.cell? ⟨w7.heap.size, 3, none⟩ = some (.slice B7_2 ca.st.length d7_2) := bx2_15.cell 3; have z15_2_4 : w15.cell? ⟨w7.heap.size, 4, none⟩ = some (.slice B7_3 ca.fin.length d7_3) := bx2_15.cell 4; have z15_3_0 : w15.cell? ⟨w9.heap.size, 0, none⟩ = some (.int .i64 cb.n) := bx3_15.cell 0; have z15_3_1 : w15.cell? ⟨w9.heap.size, 1, none⟩ = some (.int .i64 cb.bits) := bx3_15.cell 1; have z15_3_2 : w15.cell? ⟨w9.heap.size, 2, none⟩ = some (.slice B9_1 cb.ops.length d9_1) := bx3_15.cell 2; have z15_3_3 : w15.cell? ⟨w9.heap.size, 3, none⟩ = some (.slice B9_2 cb.st.length d9_2) := bx3_15.cell 3; have z15_3_4 : w15.cell? ⟨w9.heap.size, 4, none⟩ = some (.slice B9_3 cb.fin.length d9_3) := bx3_15.cell 4; have hca_15 := hca_14.up hy15 (by omega); have hcb_15 := hcb_14.up hy15 (by omega); have hr7_15 := hr7_14.up hy15 (by omega); have hr9_15 := hr9_14.up hy15 (by omega); have hr14_15 := hr14.up hy15 (by omega)))
  go_wp2
  go_ret
  exact ⟨rfl, hx15'⟩
set_option maxRecDepth 100000 in
theorem lifted (os : Os) (started : os.Started) (H : Type) (enc : TypeId × Value → H) :
    ReturnsInHanded {} Try.checked os 11 .any (Rows.fnExactEqualCompiledSpec.pre6 enc Try.prog Try.f11 Rows.fnExactEqualCompiledRow.domain false) (Rows.fnExactEqualCompiledSpec.post enc Try.prog Try.f11 false true false false) := by
  refine returnsInHanded_of_change (C := Try.checked) own started (by kernel_rfl) Try.func11
    (ChangeSpec.witness6 (enc := enc) (C := Try.checked) false ⟨#[], #[.agg #[.int .i64 0, .int .i64 0, .slice none 0 0, .slice none 0 0, .slice none 0 0], .agg #[.int .i64 0, .int .i64 0, .slice none 0 0, .slice none 0 0, .slice none 0 0]], []⟩ 8 (by kernel_rfl) (by kernel_rfl) (by kernel_rfl) (by kernel_rfl)) ?_
  intro W base args ds gs before hval0 hW hcnd _
  have hval : ∀ (j : Nat) t v, Try.f11.params[j]? = some t → args[j]? = some v → Value.okWide Try.prog W .any base t v := hval0
  have hW' := hW
  obtain ⟨p, q, hA0, hV, rfl, hfz, hnd⟩ := hW
  have hA : DataW.TrodAll enc Try.prog W 0 (fun _ => true) true Try.f11.params.toList args.toList ds p := hA0
  rw [Try.params11] at hA hval
  obtain ⟨v0, vs0, d0, ds0, p0, q0, hargs, rfl, rfl, h0, r0⟩ := trodAll_cons hA
  obtain ⟨v1, vs1, d1, ds1, p1, q1, rfl, rfl, rfl, h1, r1⟩ := trodAll_cons r0
  obtain ⟨rfl, rfl, rfl⟩ := trodAll_nil r1
  obtain rfl : args = #[v0, v1] := by cases args; simp_all
  clear hA0 hval0 hfz hnd hV hcnd
  obtain ⟨ca, hr0, hok0⟩ := open_lcompiled (hval 0 _ v0 rfl rfl) h0
  obtain ⟨cb, hr1, hok1⟩ := open_lcompiled (hval 1 _ v1 rfl rfl) h1
  refine (walk v0 ca v1 cb W hr0 hok0 hr1 hok1).mono fun e W' ⟨he, hx⟩ => ?_
  subst he
  exact ⟨_, rfl, law_post rfl (by rw [Try.params11]; decide +kernel) rfl hW' rfl rfl rfl hx⟩

theorem over : Rows.fnExactEqualCompiledRow.holds Try.pinned (OpenSpec.ofChange Rows.fnExactEqualCompiledSpec) :=
  OpenClaim.holds_of_wide 11 Try.f11 rfl rfl rfl rfl rfl rfl rfl ⟨rfl, rfl, rfl, rfl, rfl⟩ rfl rfl rfl rfl rfl (by kernel_rfl) Try.func11 (by kernel_rfl)
    (of_decide_eq_true (by kernel_rfl)) (by unfold Func.isWrapper; first | (rw [if_pos (by decide +kernel)]; kernel_rfl) | (rw [if_neg (by decide +kernel)]; exact ⟨rfl, rfl⟩))
    (fun os started H enc _ => lifted os started H enc)

/-- The statement. -/
theorem proved : Rows.FnExactEqualCompiledSaid := over
#print axioms proved

end fnExactEqualCompiled
end Go.Proofs.Ythnbenlglnmehaa
