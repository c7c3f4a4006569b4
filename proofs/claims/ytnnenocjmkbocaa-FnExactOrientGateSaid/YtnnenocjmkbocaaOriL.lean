/-
  For every input, the law FnExactOrientGate returns true: the program's OrientGate and the reference's return the same, no result shares memory with an argument or a second result, and the arguments are left alone. No condition.
-/
import Derived.Test.YtnnenocjmkbocaaOrm
import Derived.Test.YtnnenocjmkbocaaGrM
import Derived.Test.YtnnenocjmkbocaaGateM
namespace Go.Proofs.Ytnnenocjmkbocaa
open Go.ChangeShapes Go.WideShapes Go.ChangeAt Go.RowKit Go.Deep
set_option linter.unusedVariables false
namespace fnExactOrientGate
set_option maxRecDepth 100000 in
set_option maxHeartbeats 2000000 in
theorem walk (hh : Gt) (vgr : Value) (gr : Gr) (w : World) (hhh : hh.ok) (hgr : GrAt w w.heap.size vgr gr) (hokgr : gr.ok) :
    Calls Try.prog 6 #[hh.val, vgr] w fun e w' => e = .returned (.bool true) ∧ Ext w w' := by
  obtain ⟨Agr1, cgr1, rfl, hh0⟩ := hgr
  have hgr : GrAt w w.heap.size (.agg #[.int .i64 gr.n, .slice Agr1 gr.es.length cgr1]) gr := ⟨Agr1, cgr1, rfl, hh0⟩
  clear hh0
  go_enter Try.func6, Try.ntmps6
  have hx0 : Ext w w := Ext.refl w
  go_wp2_with fail
  have hy1 : Ext w ((w.alloc (.cells #[.int .i64 hh.k, .int .i64 hh.a, .int .i64 hh.b, .int .i64 hh.c] 57)).alloc (.cells #[.int .i64 gr.n, .slice Agr1 gr.es.length cgr1] 32)) := by repeat (first | exact Ext.refl _ | assumption | refine Ext.alloc ?_ _ | refine Ext.drewN ?_ _ | refine Ext.drew ?_)
  have bx0_1 : Blk ((w.alloc (.cells #[.int .i64 hh.k, .int .i64 hh.a, .int .i64 hh.b, .int .i64 hh.c] 57)).alloc (.cells #[.int .i64 gr.n, .slice Agr1 gr.es.length cgr1] 32)) (w.heap.size) 57 #[.int .i64 hh.k, .int .i64 hh.a, .int .i64 hh.b, .int .i64 hh.c] := (Blk.newAt (b := w.heap.size) (by simp)).alloc _
  have bx1_1 : Blk ((w.alloc (.cells #[.int .i64 hh.k, .int .i64 hh.a, .int .i64 hh.b, .int .i64 hh.c] 57)).alloc (.cells #[.int .i64 gr.n, .slice Agr1 gr.es.length cgr1] 32)) (w.heap.size + 1) 32 #[.int .i64 gr.n, .slice Agr1 gr.es.length cgr1] := Blk.newAt (b := w.heap.size + 1) (by simp)
  generalize ((w.alloc (.cells #[.int .i64 hh.k, .int .i64 hh.a, .int .i64 hh.b, .int .i64 hh.c] 57)).alloc (.cells #[.int .i64 gr.n, .slice Agr1 gr.es.length cgr1] 32)) = w1 at *
  have lb0 := bx0_1.lt
  have lb1 := bx1_1.lt
  have hz1 := hy1.size
  have hx1' := hx0.trans hy1
  have z1_0_0 : w1.cell? ⟨w.heap.size, 0, none⟩ = some (.int .i64 hh.k) := bx0_1.cell 0
  have z1_0_1 : w1.cell? ⟨w.heap.size, 1, none⟩ = some (.int .i64 hh.a) := bx0_1.cell 1
  have z1_0_2 : w1.cell? ⟨w.heap.size, 2, none⟩ = some (.int .i64 hh.b) := bx0_1.cell 2
  have z1_0_3 : w1.cell? ⟨w.heap.size, 3, none⟩ = some (.int .i64 hh.c) := bx0_1.cell 3
  have z1_1_0 : w1.cell? ⟨w.heap.size + 1, 0, none⟩ = some (.int .i64 gr.n) := bx1_1.cell 0
  have z1_1_1 : w1.cell? ⟨w.heap.size + 1, 1, none⟩ = some (.slice Agr1 gr.es.length cgr1) := bx1_1.cell 1
  have hgr_1 := hgr.up hy1 (by omega)
  refine (szGraph_any (.agg #[.int .i64 gr.n, .slice Agr1 gr.es.length cgr1]) gr _ _ (hgr_1.more (by omega)) (by omega) (by omega) hokgr.2.1).mono ?_
  rintro e w2 ⟨rfl, hy2⟩
  have hz2 := hy2.size
  have hx2' := hx1'.trans hy2
  have bx0_2 := bx0_1.ext hy2
  have bx1_2 := bx1_1.ext hy2
  clear z1_0_0 z1_0_1 z1_0_2 z1_0_3 z1_1_0 z1_1_1
  have z2_0_0 : w2.cell? ⟨w.heap.size, 0, none⟩ = some (.int .i64 hh.k) := bx0_2.cell 0
  have z2_0_1 : w2.cell? ⟨w.heap.size, 1, none⟩ = some (.int .i64 hh.a) := bx0_2.cell 1
  have z2_0_2 : w2.cell? ⟨w.heap.size, 2, none⟩ = some (.int .i64 hh.b) := bx0_2.cell 2
  have z2_0_3 : w2.cell? ⟨w.heap.size, 3, none⟩ = some (.int .i64 hh.c) := bx0_2.cell 3
  have z2_1_0 : w2.cell? ⟨w.heap.size + 1, 0, none⟩ = some (.int .i64 gr.n) := bx1_2.cell 0
  have z2_1_1 : w2.cell? ⟨w.heap.size + 1, 1, none⟩ = some (.slice Agr1 gr.es.length cgr1) := bx1_2.cell 1
  have hgr_2 := hgr_1.up hy2 (by omega)
  by_cases hngr : (1048576 : Int) < (gr.es.length : Nat)
  · rw [szF_lt (by omega)]
    go_wp2
    go_ret
    exact ⟨rfl, hx2'⟩
  rw [szF_ge (by omega)]
  have hsmgr : gr.small := by unfold Gr.small; omega
  have hL := oriL_len gr hh
  have hE : gr.es.length ≤ 1048576 := hsmgr
  go_wp2_with fail
  have HK1 : Hid (∀ w', Blk w' (w.heap.size) 57 #[.int .i64 hh.k, .int .i64 hh.a, .int .i64 hh.b, .int .i64 hh.c] → Blk w' (w.heap.size + 1) 32 #[.int .i64 gr.n, .slice Agr1 gr.es.length cgr1] → w'.cell? ⟨w.heap.size, 0, none⟩ = some (.int .i64 hh.k) ∧ w'.cell? ⟨w.heap.size, 1, none⟩ = some (.int .i64 hh.a) ∧ w'.cell? ⟨w.heap.size, 2, none⟩ = some (.int .i64 hh.b) ∧ w'.cell? ⟨w.heap.size, 3, none⟩ = some (.int .i64 hh.c) ∧ w'.cell? ⟨w.heap.size + 1, 0, none⟩ = some (.int .i64 gr.n) ∧ w'.cell? ⟨w.heap.size + 1, 1, none⟩ = some (.slice Agr1 gr.es.length cgr1)) := fun w' g0 g1 => ⟨g0.cell 0, g0.cell 1, g0.cell 2, g0.cell 3, g1.cell 0, g1.cell 1⟩
  have tok0 : True := trivial
  have tok1 : True := trivial
  have tok2 : True := trivial
  go_region_held3 (fun w' => w'.cell? ⟨w.heap.size, 0, none⟩ = some (.int .i64 hh.k) ∧ w'.cell? ⟨w.heap.size, 1, none⟩ = some (.int .i64 hh.a) ∧ w'.cell? ⟨w.heap.size, 2, none⟩ = some (.int .i64 hh.b) ∧ w'.cell? ⟨w.heap.size, 3, none⟩ = some (.int .i64 hh.c) ∧ w'.cell? ⟨w.heap.size + 1, 0, none⟩ = some (.int .i64 gr.n) ∧ w'.cell? ⟨w.heap.size + 1, 1, none⟩ = some (.slice Agr1 gr.es.length cgr1))
    (first | go_keep | exact HK1.out _ (by assumption) (by assumption))
    (first
            | (go_at_call 31; have _t := tok0; clear tok0 _t; refine (toGate_any hh _).mono ?_; rintro e w3 ⟨rfl, hy3⟩; replace hy3 : Ext w2 w3 := Ext.trans (Ext.refl w2).drew hy3; have hz3 := hy3.size; have hx3' := hx2'.trans hy3; have bx0_3 := bx0_2.ext hy3; have bx1_3 := bx1_2.ext hy3; clear z2_0_0 z2_0_1 z2_0_2 z2_0_3 z2_1_0 z2_1_1; have z3_0_0 : w3.cell? ⟨w.heap.size, 0, none⟩ = some (.int .i64 hh.k) := bx0_3.cell 0; have z3_0_1 : w3.cell? ⟨w.heap.size, 1, none⟩ = some (.int .i64 hh.a) := bx0_3.cell 1; have z3_0_2 : w3.cell? ⟨w.heap.size, 2, none⟩ = some (.int .i64 hh.b) := bx0_3.cell 2; have z3_0_3 : w3.cell? ⟨w.heap.size, 3, none⟩ = some (.int .i64 hh.c) := bx0_3.cell 3; have z3_1_0 : w3.cell? ⟨w.heap.size + 1, 0, none⟩ = some (.int .i64 gr.n) := bx1_3.cell 0; have z3_1_1 : w3.cell? ⟨w.heap.size + 1, 1, none⟩ = some (.slice Agr1 gr.es.length cgr1) := bx1_3.cell 1; have hgr_3 := hgr_2.up hy3 (by omega))
            | (go_at_call 32; have _t := tok1; clear tok1 _t; refine (toGraph_own (.agg #[.int .i64 gr.n, .slice Agr1 gr.es.length cgr1]) gr _ (hgr_3.more (by omega)) hsmgr).mono ?_; rintro e w4 ⟨v4, b4_1, rfl, ho4, hb4, hy4⟩; obtain ⟨hb4_0, hb4_1⟩ := hb4; have hr4 := ho4.at_; have hz4 := hy4.size; have hx4' := hx3'.trans hy4; have bx0_4 := bx0_3.ext hy4; have bx1_4 := bx1_3.ext hy4; clear z3_0_0 z3_0_1 z3_0_2 z3_0_3 z3_1_0 z3_1_1; have z4_0_0 : w4.cell? ⟨w.heap.size, 0, none⟩ = some (.int .i64 hh.k) := bx0_4.cell 0; have z4_0_1 : w4.cell? ⟨w.heap.size, 1, none⟩ = some (.int .i64 hh.a) := bx0_4.cell 1; have z4_0_2 : w4.cell? ⟨w.heap.size, 2, none⟩ = some (.int .i64 hh.b) := bx0_4.cell 2; have z4_0_3 : w4.cell? ⟨w.heap.size, 3, none⟩ = some (.int .i64 hh.c) := bx0_4.cell 3; have z4_1_0 : w4.cell? ⟨w.heap.size + 1, 0, none⟩ = some (.int .i64 gr.n) := bx1_4.cell 0; have z4_1_1 : w4.cell? ⟨w.heap.size + 1, 1, none⟩ = some (.slice Agr1 gr.es.length cgr1) := bx1_4.cell 1; have hgr_4 := hgr_3.up hy4 (by omega))
            | (go_at_call 30; have _t := tok2; clear tok2 _t; refine (spec_OrientGate_any v4 gr hh _ (hr4.more (by omega)) (by omega)).mono ?_; rintro e w5 ⟨v5, rfl, ho5, hy5⟩; obtain ⟨A5, c5, rfl, hr5⟩ := own_slice ho5; have hlt5 : ∀ g, (Value.slice A5 ((oriL gr hh).length) c5).ownBlock = some g → w4.heap.size ≤ g ∧ g < w5.heap.size := fun g hg => ho5.lt g hg; have hz5 := hy5.size; have hx5' := hx4'.trans hy5; have bx0_5 := bx0_4.ext hy5; have bx1_5 := bx1_4.ext hy5; clear z4_0_0 z4_0_1 z4_0_2 z4_0_3 z4_1_0 z4_1_1; have z5_0_0 : w5.cell? ⟨w.heap.size, 0, none⟩ = some (.int .i64 hh.k) := bx0_5.cell 0; have z5_0_1 : w5.cell? ⟨w.heap.size, 1, none⟩ = some (.int .i64 hh.a) := bx0_5.cell 1; have z5_0_2 : w5.cell? ⟨w.heap.size, 2, none⟩ = some (.int .i64 hh.b) := bx0_5.cell 2; have z5_0_3 : w5.cell? ⟨w.heap.size, 3, none⟩ = some (.int .i64 hh.c) := bx0_5.cell 3; have z5_1_0 : w5.cell? ⟨w.heap.size + 1, 0, none⟩ = some (.int .i64 gr.n) := bx1_5.cell 0; have z5_1_1 : w5.cell? ⟨w.heap.size + 1, 1, none⟩ = some (.slice Agr1 gr.es.length cgr1) := bx1_5.cell 1; have hgr_5 := hgr_4.up hy5 (by omega); have hr4_5 := hr4.up hy5 (by omega)))
  go_wp2_with fail
  refine (toGraph_own (.agg #[.int .i64 gr.n, .slice Agr1 gr.es.length cgr1]) gr _ (hgr_5.more (by omega)) hsmgr).mono ?_
  rintro e w6 ⟨v6, b6_1, rfl, ho6, hb6, hy6⟩
  obtain ⟨hb6_0, hb6_1⟩ := hb6
  have hr6 := ho6.at_
  have hz6 := hy6.size
  have hx6' := hx5'.trans hy6
  have bx0_6 := bx0_5.ext hy6
  have bx1_6 := bx1_5.ext hy6
  clear z5_0_0 z5_0_1 z5_0_2 z5_0_3 z5_1_0 z5_1_1
  have z6_0_0 : w6.cell? ⟨w.heap.size, 0, none⟩ = some (.int .i64 hh.k) := bx0_6.cell 0
  have z6_0_1 : w6.cell? ⟨w.heap.size, 1, none⟩ = some (.int .i64 hh.a) := bx0_6.cell 1
  have z6_0_2 : w6.cell? ⟨w.heap.size, 2, none⟩ = some (.int .i64 hh.b) := bx0_6.cell 2
  have z6_0_3 : w6.cell? ⟨w.heap.size, 3, none⟩ = some (.int .i64 hh.c) := bx0_6.cell 3
  have z6_1_0 : w6.cell? ⟨w.heap.size + 1, 0, none⟩ = some (.int .i64 gr.n) := bx1_6.cell 0
  have z6_1_1 : w6.cell? ⟨w.heap.size + 1, 1, none⟩ = some (.slice Agr1 gr.es.length cgr1) := bx1_6.cell 1
  have hgr_6 := hgr_5.up hy6 (by omega)
  have hr5_6 := hr5.up hy6 (by omega)
  have ho5_6 := own_ext ho5 hy6
  obtain ⟨B6_1, d6_1, rfl, hown6⟩ := ho6
  obtain ⟨own6_1, lt6_1⟩ := hown6
  have lb0_6 := bx0_6.lt
  have lb1_6 := bx1_6.lt
  go_wp2_with fail
  have hy7 : Ext w6 (w6.alloc (.cells #[.int .i64 gr.n, .slice B6_1 gr.es.length d6_1] 43)) := (Ext.refl _).alloc _
  have bx2_7 : Blk (w6.alloc (.cells #[.int .i64 gr.n, .slice B6_1 gr.es.length d6_1] 43)) (w6.heap.size) 43 #[.int .i64 gr.n, .slice B6_1 gr.es.length d6_1] := Blk.new _ _ _
  generalize (w6.alloc (.cells #[.int .i64 gr.n, .slice B6_1 gr.es.length d6_1] 43)) = w7 at *
  have lb2 := bx2_7.lt
  have hs61 := Rd.bdl (Rd.own own6_1) (fun g hg => lt6_1 g hg)
  have hrw61 : ∀ g, (Value.slice B6_1 (gr.es.length) d6_1).ownBlock = some g → w5.heap.size ≤ g ∧ g < b6_1 := fun g hg => ⟨(own6_1.lt g hg).1, lt6_1 g hg⟩
  have own61 := own6_1
  have hz7 := hy7.size
  have hx7' := hx6'.trans hy7
  have bx0_7 := bx0_6.ext hy7
  have bx1_7 := bx1_6.ext hy7
  clear z6_0_0 z6_0_1 z6_0_2 z6_0_3 z6_1_0 z6_1_1
  have z7_0_0 : w7.cell? ⟨w.heap.size, 0, none⟩ = some (.int .i64 hh.k) := bx0_7.cell 0
  have z7_0_1 : w7.cell? ⟨w.heap.size, 1, none⟩ = some (.int .i64 hh.a) := bx0_7.cell 1
  have z7_0_2 : w7.cell? ⟨w.heap.size, 2, none⟩ = some (.int .i64 hh.b) := bx0_7.cell 2
  have z7_0_3 : w7.cell? ⟨w.heap.size, 3, none⟩ = some (.int .i64 hh.c) := bx0_7.cell 3
  have z7_1_0 : w7.cell? ⟨w.heap.size + 1, 0, none⟩ = some (.int .i64 gr.n) := bx1_7.cell 0
  have z7_1_1 : w7.cell? ⟨w.heap.size + 1, 1, none⟩ = some (.slice Agr1 gr.es.length cgr1) := bx1_7.cell 1
  have z7_2_0 : w7.cell? ⟨w6.heap.size, 0, none⟩ = some (.int .i64 gr.n) := bx2_7.cell 0
  have z7_2_1 : w7.cell? ⟨w6.heap.size, 1, none⟩ = some (.slice B6_1 gr.es.length d6_1) := bx2_7.cell 1
  have hgr_7 := hgr_6.up hy7 (by omega)
  have hr5_7 := hr5_6.up hy7 (by omega)
  have ho5_7 := own_ext ho5_6 hy7
  have hr6_7 := hr6.up hy7 (by omega)
  have hs61_7 := hs61.up hy7 (by omega)
  have own61_7 := own_ext own61 hy7
  have HK2 : Hid (∀ w', Blk w' (w.heap.size) 57 #[.int .i64 hh.k, .int .i64 hh.a, .int .i64 hh.b, .int .i64 hh.c] → Blk w' (w.heap.size + 1) 32 #[.int .i64 gr.n, .slice Agr1 gr.es.length cgr1] → Blk w' (w6.heap.size) 43 #[.int .i64 gr.n, .slice B6_1 gr.es.length d6_1] → w'.cell? ⟨w.heap.size, 0, none⟩ = some (.int .i64 hh.k) ∧ w'.cell? ⟨w.heap.size, 1, none⟩ = some (.int .i64 hh.a) ∧ w'.cell? ⟨w.heap.size, 2, none⟩ = some (.int .i64 hh.b) ∧ w'.cell? ⟨w.heap.size, 3, none⟩ = some (.int .i64 hh.c) ∧ w'.cell? ⟨w.heap.size + 1, 0, none⟩ = some (.int .i64 gr.n) ∧ w'.cell? ⟨w.heap.size + 1, 1, none⟩ = some (.slice Agr1 gr.es.length cgr1) ∧ w'.cell? ⟨w6.heap.size, 0, none⟩ = some (.int .i64 gr.n) ∧ w'.cell? ⟨w6.heap.size, 1, none⟩ = some (.slice B6_1 gr.es.length d6_1)) := fun w' g0 g1 g2 => ⟨g0.cell 0, g0.cell 1, g0.cell 2, g0.cell 3, g1.cell 0, g1.cell 1, g2.cell 0, g2.cell 1⟩
  have tok0 : True := trivial
  have tok1 : True := trivial
  go_region_held3 (fun w' => w'.cell? ⟨w.heap.size, 0, none⟩ = some (.int .i64 hh.k) ∧ w'.cell? ⟨w.heap.size, 1, none⟩ = some (.int .i64 hh.a) ∧ w'.cell? ⟨w.heap.size, 2, none⟩ = some (.int .i64 hh.b) ∧ w'.cell? ⟨w.heap.size, 3, none⟩ = some (.int .i64 hh.c) ∧ w'.cell? ⟨w.heap.size + 1, 0, none⟩ = some (.int .i64 gr.n) ∧ w'.cell? ⟨w.heap.size + 1, 1, none⟩ = some (.slice Agr1 gr.es.length cgr1) ∧ w'.cell? ⟨w6.heap.size, 0, none⟩ = some (.int .i64 gr.n) ∧ w'.cell? ⟨w6.heap.size, 1, none⟩ = some (.slice B6_1 gr.es.length d6_1))
    (first | go_keep | exact HK2.out _ (by assumption) (by assumption) (by assumption))
    (first
            | (go_at_call 31; have _t := tok0; clear tok0 _t; refine (toGate_any hh _).mono ?_; rintro e w8 ⟨rfl, hy8⟩; replace hy8 : Ext w7 w8 := Ext.trans (Ext.refl w7).drew hy8; have hz8 := hy8.size; have hx8' := hx7'.trans hy8; have bx0_8 := bx0_7.ext hy8; have bx1_8 := bx1_7.ext hy8; have bx2_8 := bx2_7.ext hy8; clear z7_0_0 z7_0_1 z7_0_2 z7_0_3 z7_1_0 z7_1_1 z7_2_0 z7_2_1; have z8_0_0 : w8.cell? ⟨w.heap.size, 0, none⟩ = some (.int .i64 hh.k) := bx0_8.cell 0; have z8_0_1 : w8.cell? ⟨w.heap.size, 1, none⟩ = some (.int .i64 hh.a) := bx0_8.cell 1; have z8_0_2 : w8.cell? ⟨w.heap.size, 2, none⟩ = some (.int .i64 hh.b) := bx0_8.cell 2; have z8_0_3 : w8.cell? ⟨w.heap.size, 3, none⟩ = some (.int .i64 hh.c) := bx0_8.cell 3; have z8_1_0 : w8.cell? ⟨w.heap.size + 1, 0, none⟩ = some (.int .i64 gr.n) := bx1_8.cell 0; have z8_1_1 : w8.cell? ⟨w.heap.size + 1, 1, none⟩ = some (.slice Agr1 gr.es.length cgr1) := bx1_8.cell 1; have z8_2_0 : w8.cell? ⟨w6.heap.size, 0, none⟩ = some (.int .i64 gr.n) := bx2_8.cell 0; have z8_2_1 : w8.cell? ⟨w6.heap.size, 1, none⟩ = some (.slice B6_1 gr.es.length d6_1) := bx2_8.cell 1; have hgr_8 := hgr_7.up hy8 (by omega); have hr5_8 := hr5_7.up hy8 (by omega); have ho5_8 := own_ext ho5_7 hy8; have hr6_8 := hr6_7.up hy8 (by omega); have hs61_8 := hs61_7.up hy8 (by omega); have own61_8 := own_ext own61_7 hy8)
            | (go_at_call 33; have _t := tok1; clear tok1 _t; refine (impl_OrientGate_any gr hh (by omega) (.agg #[.int .i64 gr.n, .slice B6_1 gr.es.length d6_1]) _ (hr6_8.more (by omega))).mono ?_; rintro e w9 ⟨v9, rfl, ho9, hy9⟩; obtain ⟨A9, c9, rfl, hr9⟩ := own_slice ho9; have hlt9 : ∀ g, (Value.slice A9 ((oriL gr hh).length) c9).ownBlock = some g → w8.heap.size ≤ g ∧ g < w9.heap.size := fun g hg => ho9.lt g hg; have hz9 := hy9.size; have hx9' := hx8'.trans hy9; have bx0_9 := bx0_8.ext hy9; have bx1_9 := bx1_8.ext hy9; have bx2_9 := bx2_8.ext hy9; clear z8_0_0 z8_0_1 z8_0_2 z8_0_3 z8_1_0 z8_1_1 z8_2_0 z8_2_1; have z9_0_0 : w9.cell? ⟨w.heap.size, 0, none⟩ = some (.int .i64 hh.k) := bx0_9.cell 0; have z9_0_1 : w9.cell? ⟨w.heap.size, 1, none⟩ = some (.int .i64 hh.a) := bx0_9.cell 1; have z9_0_2 : w9.cell? ⟨w.heap.size, 2, none⟩ = some (.int .i64 hh.b) := bx0_9.cell 2; have z9_0_3 : w9.cell? ⟨w.heap.size, 3, none⟩ = some (.int .i64 hh.c) := bx0_9.cell 3; have z9_1_0 : w9.cell? ⟨w.heap.size + 1, 0, none⟩ = some (.int .i64 gr.n) := bx1_9.cell 0; have z9_1_1 : w9.cell? ⟨w.heap.size + 1, 1, none⟩ = some (.slice Agr1 gr.es.length cgr1) := bx1_9.cell 1; have z9_2_0 : w9.cell? ⟨w6.heap.size, 0, none⟩ = some (.int .i64 gr.n) := bx2_9.cell 0; have z9_2_1 : w9.cell? ⟨w6.heap.size, 1, none⟩ = some (.slice B6_1 gr.es.length d6_1) := bx2_9.cell 1; have hgr_9 := hgr_8.up hy9 (by omega); have hr5_9 := hr5_8.up hy9 (by omega); have ho5_9 := own_ext ho5_8 hy9; have hr6_9 := hr6_8.up hy9 (by omega); have hs61_9 := hs61_8.up hy9 (by omega); have own61_9 := own_ext own61_8 hy9))
  go_wp2_with fail
  refine (eqGateS_any A9 A5 ((oriL gr hh).length) ((oriL gr hh).length) c9 c5 ((oriL gr hh)) ((oriL gr hh)) _ (hr9.more (by omega)) (hr5_9.more (by omega)) (by omega) (by omega)).mono ?_
  rintro e w10 ⟨rfl, hy10⟩
  rw [eqL_self eqG eqG_self]
  have hz10 := hy10.size
  have hx10' := hx9'.trans hy10
  have bx0_10 := bx0_9.ext hy10
  have bx1_10 := bx1_9.ext hy10
  have bx2_10 := bx2_9.ext hy10
  clear z9_0_0 z9_0_1 z9_0_2 z9_0_3 z9_1_0 z9_1_1 z9_2_0 z9_2_1
  have z10_0_0 : w10.cell? ⟨w.heap.size, 0, none⟩ = some (.int .i64 hh.k) := bx0_10.cell 0
  have z10_0_1 : w10.cell? ⟨w.heap.size, 1, none⟩ = some (.int .i64 hh.a) := bx0_10.cell 1
  have z10_0_2 : w10.cell? ⟨w.heap.size, 2, none⟩ = some (.int .i64 hh.b) := bx0_10.cell 2
  have z10_0_3 : w10.cell? ⟨w.heap.size, 3, none⟩ = some (.int .i64 hh.c) := bx0_10.cell 3
  have z10_1_0 : w10.cell? ⟨w.heap.size + 1, 0, none⟩ = some (.int .i64 gr.n) := bx1_10.cell 0
  have z10_1_1 : w10.cell? ⟨w.heap.size + 1, 1, none⟩ = some (.slice Agr1 gr.es.length cgr1) := bx1_10.cell 1
  have z10_2_0 : w10.cell? ⟨w6.heap.size, 0, none⟩ = some (.int .i64 gr.n) := bx2_10.cell 0
  have z10_2_1 : w10.cell? ⟨w6.heap.size, 1, none⟩ = some (.slice B6_1 gr.es.length d6_1) := bx2_10.cell 1
  have hgr_10 := hgr_9.up hy10 (by omega)
  have hr5_10 := hr5_9.up hy10 (by omega)
  have ho5_10 := own_ext ho5_9 hy10
  have hr6_10 := hr6_9.up hy10 (by omega)
  have hs61_10 := hs61_9.up hy10 (by omega)
  have own61_10 := own_ext own61_9 hy10
  have hr9_10 := hr9.up hy10 (by omega)
  have ho9_10 := own_ext ho9 hy10
  go_wp2_with fail
  have HK3 : Hid (∀ w', Blk w' (w.heap.size) 57 #[.int .i64 hh.k, .int .i64 hh.a, .int .i64 hh.b, .int .i64 hh.c] → Blk w' (w.heap.size + 1) 32 #[.int .i64 gr.n, .slice Agr1 gr.es.length cgr1] → Blk w' (w6.heap.size) 43 #[.int .i64 gr.n, .slice B6_1 gr.es.length d6_1] → w'.cell? ⟨w.heap.size, 0, none⟩ = some (.int .i64 hh.k) ∧ w'.cell? ⟨w.heap.size, 1, none⟩ = some (.int .i64 hh.a) ∧ w'.cell? ⟨w.heap.size, 2, none⟩ = some (.int .i64 hh.b) ∧ w'.cell? ⟨w.heap.size, 3, none⟩ = some (.int .i64 hh.c) ∧ w'.cell? ⟨w.heap.size + 1, 0, none⟩ = some (.int .i64 gr.n) ∧ w'.cell? ⟨w.heap.size + 1, 1, none⟩ = some (.slice Agr1 gr.es.length cgr1) ∧ w'.cell? ⟨w6.heap.size, 0, none⟩ = some (.int .i64 gr.n) ∧ w'.cell? ⟨w6.heap.size, 1, none⟩ = some (.slice B6_1 gr.es.length d6_1)) := fun w' g0 g1 g2 => ⟨g0.cell 0, g0.cell 1, g0.cell 2, g0.cell 3, g1.cell 0, g1.cell 1, g2.cell 0, g2.cell 1⟩
  have tok0 : True := trivial
  have tok1 : True := trivial
  go_region_held3 (fun w' => w'.cell? ⟨w.heap.size, 0, none⟩ = some (.int .i64 hh.k) ∧ w'.cell? ⟨w.heap.size, 1, none⟩ = some (.int .i64 hh.a) ∧ w'.cell? ⟨w.heap.size, 2, none⟩ = some (.int .i64 hh.b) ∧ w'.cell? ⟨w.heap.size, 3, none⟩ = some (.int .i64 hh.c) ∧ w'.cell? ⟨w.heap.size + 1, 0, none⟩ = some (.int .i64 gr.n) ∧ w'.cell? ⟨w.heap.size + 1, 1, none⟩ = some (.slice Agr1 gr.es.length cgr1) ∧ w'.cell? ⟨w6.heap.size, 0, none⟩ = some (.int .i64 gr.n) ∧ w'.cell? ⟨w6.heap.size, 1, none⟩ = some (.slice B6_1 gr.es.length d6_1))
    (first | go_keep | exact HK3.out _ (by assumption) (by assumption) (by assumption))
    (first
            | (go_at_call 32; have _t := tok0; clear tok0 _t; refine (toGraph_own (.agg #[.int .i64 gr.n, .slice Agr1 gr.es.length cgr1]) gr _ ((hgr_10.up (Ext.refl w10).drew (by omega)).more (show _ ≤ w10.heap.size by omega)) hsmgr).mono ?_; rintro e w11 ⟨v11, b11_1, rfl, ho11, hb11, hy11⟩; obtain ⟨hb11_0, hb11_1⟩ := hb11; have hr11 := ho11.at_; replace hy11 : Ext w10 w11 := Ext.trans (Ext.refl w10).drew hy11; have hz11 := hy11.size; have hx11' := hx10'.trans hy11; have bx0_11 := bx0_10.ext hy11; have bx1_11 := bx1_10.ext hy11; have bx2_11 := bx2_10.ext hy11; clear z10_0_0 z10_0_1 z10_0_2 z10_0_3 z10_1_0 z10_1_1 z10_2_0 z10_2_1; have z11_0_0 : w11.cell? ⟨w.heap.size, 0, none⟩ = some (.int .i64 hh.k) := bx0_11.cell 0; have z11_0_1 : w11.cell? ⟨w.heap.size, 1, none⟩ = some (.int .i64 hh.a) := bx0_11.cell 1; have z11_0_2 : w11.cell? ⟨w.heap.size, 2, none⟩ = some (.int .i64 hh.b) := bx0_11.cell 2; have z11_0_3 : w11.cell? ⟨w.heap.size, 3, none⟩ = some (.int .i64 hh.c) := bx0_11.cell 3; have z11_1_0 : w11.cell? ⟨w.heap.size + 1, 0, none⟩ = some (.int .i64 gr.n) := bx1_11.cell 0; have z11_1_1 : w11.cell? ⟨w.heap.size + 1, 1, none⟩ = some (.slice Agr1 gr.es.length cgr1) := bx1_11.cell 1; have z11_2_0 : w11.cell? ⟨w6.heap.size, 0, none⟩ = some (.int .i64 gr.n) := bx2_11.cell 0; have z11_2_1 : w11.cell? ⟨w6.heap.size, 1, none⟩ = some (.slice B6_1 gr.es.length d6_1) := bx2_11.cell 1; have hgr_11 := hgr_10.up hy11 (by omega); have hr5_11 := hr5_10.up hy11 (by omega); have ho5_11 := own_ext ho5_10 hy11; have hr6_11 := hr6_10.up hy11 (by omega); have hs61_11 := hs61_10.up hy11 (by omega); have own61_11 := own_ext own61_10 hy11; have hr9_11 := hr9_10.up hy11 (by omega); have ho9_11 := own_ext ho9_10 hy11)
            | (go_at_call 34; have _t := tok1; clear tok1 _t; refine (eqGraph_any (.agg #[.int .i64 gr.n, .slice B6_1 gr.es.length d6_1]) v11 gr gr _ (hr6_11.more (by omega)) (hr11.more (by omega)) (by have := hsmgr; unfold Gr.small at this; omega)).mono ?_; rintro e w12 ⟨rfl, hy12⟩; rw [eqGr_self]; have hz12 := hy12.size; have hx12' := hx11'.trans hy12; have bx0_12 := bx0_11.ext hy12; have bx1_12 := bx1_11.ext hy12; have bx2_12 := bx2_11.ext hy12; clear z11_0_0 z11_0_1 z11_0_2 z11_0_3 z11_1_0 z11_1_1 z11_2_0 z11_2_1; have z12_0_0 : w12.cell? ⟨w.heap.size, 0, none⟩ = some (.int .i64 hh.k) := bx0_12.cell 0; have z12_0_1 : w12.cell? ⟨w.heap.size, 1, none⟩ = some (.int .i64 hh.a) := bx0_12.cell 1; have z12_0_2 : w12.cell? ⟨w.heap.size, 2, none⟩ = some (.int .i64 hh.b) := bx0_12.cell 2; have z12_0_3 : w12.cell? ⟨w.heap.size, 3, none⟩ = some (.int .i64 hh.c) := bx0_12.cell 3; have z12_1_0 : w12.cell? ⟨w.heap.size + 1, 0, none⟩ = some (.int .i64 gr.n) := bx1_12.cell 0; have z12_1_1 : w12.cell? ⟨w.heap.size + 1, 1, none⟩ = some (.slice Agr1 gr.es.length cgr1) := bx1_12.cell 1; have z12_2_0 : w12.cell? ⟨w6.heap.size, 0, none⟩ = some (.int .i64 gr.n) := bx2_12.cell 0; have z12_2_1 : w12.cell? ⟨w6.heap.size, 1, none⟩ = some (.slice B6_1 gr.es.length d6_1) := bx2_12.cell 1; have hgr_12 := hgr_11.up hy12 (by omega); have hr5_12 := hr5_11.up hy12 (by omega); have ho5_12 := own_ext ho5_11 hy12; have hr6_12 := hr6_11.up hy12 (by omega); have hs61_12 := hs61_11.up hy12 (by omega); have own61_12 := own_ext own61_11 hy12; have hr9_12 := hr9_11.up hy12 (by omega); have ho9_12 := own_ext ho9_11 hy12; have hr11_12 := hr11.up hy12 (by omega)))
  go_wp2_with fail
  refine (markGraph_any _ B6_1 (gr.es.length) d6_1 _ (1) _ _ own61_12 (by omega) (by omega)).mono ?_
  rintro e w13 ⟨rfl, hk13, hg13⟩
  have hz13 := hg13.size
  have hrow13 : ∀ g, (Value.slice B6_1 gr.es.length d6_1).ownBlock = some g → w5.heap.size ≤ g ∧ g < b6_1 := hrw61
  have hx13' := hx12'.grown hg13 (fun g hg => by have := hrow13 g hg; omega)
  have bx0_13 := bx0_12.grown hg13 (fun g hg => by have := hrow13 g hg; omega)
  have bx1_13 := bx1_12.grown hg13 (fun g hg => by have := hrow13 g hg; omega)
  have bx2_13 := bx2_12.grown hg13 (fun g hg => by have := hrow13 g hg; omega)
  clear z12_0_0 z12_0_1 z12_0_2 z12_0_3 z12_1_0 z12_1_1 z12_2_0 z12_2_1
  have z13_0_0 : w13.cell? ⟨w.heap.size, 0, none⟩ = some (.int .i64 hh.k) := bx0_13.cell 0
  have z13_0_1 : w13.cell? ⟨w.heap.size, 1, none⟩ = some (.int .i64 hh.a) := bx0_13.cell 1
  have z13_0_2 : w13.cell? ⟨w.heap.size, 2, none⟩ = some (.int .i64 hh.b) := bx0_13.cell 2
  have z13_0_3 : w13.cell? ⟨w.heap.size, 3, none⟩ = some (.int .i64 hh.c) := bx0_13.cell 3
  have z13_1_0 : w13.cell? ⟨w.heap.size + 1, 0, none⟩ = some (.int .i64 gr.n) := bx1_13.cell 0
  have z13_1_1 : w13.cell? ⟨w.heap.size + 1, 1, none⟩ = some (.slice Agr1 gr.es.length cgr1) := bx1_13.cell 1
  have z13_2_0 : w13.cell? ⟨w6.heap.size, 0, none⟩ = some (.int .i64 gr.n) := bx2_13.cell 0
  have z13_2_1 : w13.cell? ⟨w6.heap.size, 1, none⟩ = some (.slice B6_1 gr.es.length d6_1) := bx2_13.cell 1
  have hgr_13 := hgr_12.grown hg13 (by omega) (fun g hg => by have := hrow13 g hg; omega)
  have hr5_13 := hr5_12.grown hg13 (by omega) (fun g hg => by have := hrow13 g hg; omega)
  have ho9_13 := own_kept ho9_12 hg13 (fun g hg => by have := hrow13 g hg; omega)
  have hr9_13 := Rd.bd (Rd.own ho9_13) hr9_12 trivial
  go_wp2_with fail
  refine (eqGateS_any A9 A5 ((oriL gr hh).length) ((oriL gr hh).length) c9 c5 ((oriL gr hh)) ((oriL gr hh)) _ (hr9_13.more (by omega)) (hr5_13.more (by omega)) (by omega) (by omega)).mono ?_
  rintro e w14 ⟨rfl, hy14⟩
  rw [eqL_self eqG eqG_self]
  have hz14 := hy14.size
  have hx14' := hx13'.trans hy14
  have bx0_14 := bx0_13.ext hy14
  have bx1_14 := bx1_13.ext hy14
  have bx2_14 := bx2_13.ext hy14
  clear z13_0_0 z13_0_1 z13_0_2 z13_0_3 z13_1_0 z13_1_1 z13_2_0 z13_2_1
  have z14_0_0 : w14.cell? ⟨w.heap.size, 0, none⟩ = some (.int .i64 hh.k) := bx0_14.cell 0
  have z14_0_1 : w14.cell? ⟨w.heap.size, 1, none⟩ = some (.int .i64 hh.a) := bx0_14.cell 1
  have z14_0_2 : w14.cell? ⟨w.heap.size, 2, none⟩ = some (.int .i64 hh.b) := bx0_14.cell 2
  have z14_0_3 : w14.cell? ⟨w.heap.size, 3, none⟩ = some (.int .i64 hh.c) := bx0_14.cell 3
  have z14_1_0 : w14.cell? ⟨w.heap.size + 1, 0, none⟩ = some (.int .i64 gr.n) := bx1_14.cell 0
  have z14_1_1 : w14.cell? ⟨w.heap.size + 1, 1, none⟩ = some (.slice Agr1 gr.es.length cgr1) := bx1_14.cell 1
  have z14_2_0 : w14.cell? ⟨w6.heap.size, 0, none⟩ = some (.int .i64 gr.n) := bx2_14.cell 0
  have z14_2_1 : w14.cell? ⟨w6.heap.size, 1, none⟩ = some (.slice B6_1 gr.es.length d6_1) := bx2_14.cell 1
  have hgr_14 := hgr_13.up hy14 (by omega)
  have hr5_14 := hr5_13.up hy14 (by omega)
  have hr9_14 := hr9_13.up hy14 (by omega)
  have ho9_14 := own_ext ho9_13 hy14
  go_wp2_with fail
  refine (markGateS_any A9 ((oriL gr hh).length) c9 _ (1) _ _ ho9_14 (by omega) (by omega)).mono ?_
  rintro e w15 ⟨rfl, hk15, hg15⟩
  have hz15 := hg15.size
  have hrow15 : ∀ g, (Value.slice A9 (oriL gr hh).length c9).ownBlock = some g → w8.heap.size ≤ g ∧ g < w9.heap.size := hlt9
  have hx15' := hx14'.grown hg15 (fun g hg => by have := hrow15 g hg; omega)
  have bx0_15 := bx0_14.grown hg15 (fun g hg => by have := hrow15 g hg; omega)
  have bx1_15 := bx1_14.grown hg15 (fun g hg => by have := hrow15 g hg; omega)
  have bx2_15 := bx2_14.grown hg15 (fun g hg => by have := hrow15 g hg; omega)
  clear z14_0_0 z14_0_1 z14_0_2 z14_0_3 z14_1_0 z14_1_1 z14_2_0 z14_2_1
  have z15_0_0 : w15.cell? ⟨w.heap.size, 0, none⟩ = some (.int .i64 hh.k) := bx0_15.cell 0
  have z15_0_1 : w15.cell? ⟨w.heap.size, 1, none⟩ = some (.int .i64 hh.a) := bx0_15.cell 1
  have z15_0_2 : w15.cell? ⟨w.heap.size, 2, none⟩ = some (.int .i64 hh.b) := bx0_15.cell 2
  have z15_0_3 : w15.cell? ⟨w.heap.size, 3, none⟩ = some (.int .i64 hh.c) := bx0_15.cell 3
  have z15_1_0 : w15.cell? ⟨w.heap.size + 1, 0, none⟩ = some (.int .i64 gr.n) := bx1_15.cell 0
  have z15_1_1 : w15.cell? ⟨w.heap.size + 1, 1, none⟩ = some (.slice Agr1 gr.es.length cgr1) := bx1_15.cell 1
  have z15_2_0 : w15.cell? ⟨w6.heap.size, 0, none⟩ = some (.int .i64 gr.n) := bx2_15.cell 0
  have z15_2_1 : w15.cell? ⟨w6.heap.size, 1, none⟩ = some (.slice B6_1 gr.es.length d6_1) := bx2_15.cell 1
  have hgr_15 := hgr_14.grown hg15 (by omega) (fun g hg => by have := hrow15 g hg; omega)
  have hr5_15 := hr5_14.grown hg15 (by omega) (fun g hg => by have := hrow15 g hg; omega)
  have hm15_15 := Rd.bd (Rd.own hk15) hr9_14 trivial
  go_wp2_with fail
  refine (heldGateS_any A9 ((oriL gr hh).length) c9 (1) _ (hm15_15.more (by omega)) (by omega) (by omega)).mono ?_
  rintro e v ⟨rfl, rfl⟩
  go_wp2_with fail
  have HK4 : Hid (∀ w', Blk w' (w.heap.size) 57 #[.int .i64 hh.k, .int .i64 hh.a, .int .i64 hh.b, .int .i64 hh.c] → Blk w' (w.heap.size + 1) 32 #[.int .i64 gr.n, .slice Agr1 gr.es.length cgr1] → Blk w' (w6.heap.size) 43 #[.int .i64 gr.n, .slice B6_1 gr.es.length d6_1] → w'.cell? ⟨w.heap.size, 0, none⟩ = some (.int .i64 hh.k) ∧ w'.cell? ⟨w.heap.size, 1, none⟩ = some (.int .i64 hh.a) ∧ w'.cell? ⟨w.heap.size, 2, none⟩ = some (.int .i64 hh.b) ∧ w'.cell? ⟨w.heap.size, 3, none⟩ = some (.int .i64 hh.c) ∧ w'.cell? ⟨w.heap.size + 1, 0, none⟩ = some (.int .i64 gr.n) ∧ w'.cell? ⟨w.heap.size + 1, 1, none⟩ = some (.slice Agr1 gr.es.length cgr1) ∧ w'.cell? ⟨w6.heap.size, 0, none⟩ = some (.int .i64 gr.n) ∧ w'.cell? ⟨w6.heap.size, 1, none⟩ = some (.slice B6_1 gr.es.length d6_1)) := fun w' g0 g1 g2 => ⟨g0.cell 0, g0.cell 1, g0.cell 2, g0.cell 3, g1.cell 0, g1.cell 1, g2.cell 0, g2.cell 1⟩
  have tok0 : True := trivial
  have tok1 : True := trivial
  have tok2 : True := trivial
  go_region_held3 (fun w' => w'.cell? ⟨w.heap.size, 0, none⟩ = some (.int .i64 hh.k) ∧ w'.cell? ⟨w.heap.size, 1, none⟩ = some (.int .i64 hh.a) ∧ w'.cell? ⟨w.heap.size, 2, none⟩ = some (.int .i64 hh.b) ∧ w'.cell? ⟨w.heap.size, 3, none⟩ = some (.int .i64 hh.c) ∧ w'.cell? ⟨w.heap.size + 1, 0, none⟩ = some (.int .i64 gr.n) ∧ w'.cell? ⟨w.heap.size + 1, 1, none⟩ = some (.slice Agr1 gr.es.length cgr1) ∧ w'.cell? ⟨w6.heap.size, 0, none⟩ = some (.int .i64 gr.n) ∧ w'.cell? ⟨w6.heap.size, 1, none⟩ = some (.slice B6_1 gr.es.length d6_1))
    (first | go_keep | exact HK4.out _ (by assumption) (by assumption) (by assumption))
    (first
            | (go_at_call 31; have _t := tok0; clear tok0 _t; refine (toGate_any hh _).mono ?_; rintro e w16 ⟨rfl, hy16⟩; replace hy16 : Ext w15 w16 := Ext.trans (Ext.refl w15).drew hy16; have hz16 := hy16.size; have hx16' := hx15'.trans hy16; have bx0_16 := bx0_15.ext hy16; have bx1_16 := bx1_15.ext hy16; have bx2_16 := bx2_15.ext hy16; clear z15_0_0 z15_0_1 z15_0_2 z15_0_3 z15_1_0 z15_1_1 z15_2_0 z15_2_1; have z16_0_0 : w16.cell? ⟨w.heap.size, 0, none⟩ = some (.int .i64 hh.k) := bx0_16.cell 0; have z16_0_1 : w16.cell? ⟨w.heap.size, 1, none⟩ = some (.int .i64 hh.a) := bx0_16.cell 1; have z16_0_2 : w16.cell? ⟨w.heap.size, 2, none⟩ = some (.int .i64 hh.b) := bx0_16.cell 2; have z16_0_3 : w16.cell? ⟨w.heap.size, 3, none⟩ = some (.int .i64 hh.c) := bx0_16.cell 3; have z16_1_0 : w16.cell? ⟨w.heap.size + 1, 0, none⟩ = some (.int .i64 gr.n) := bx1_16.cell 0; have z16_1_1 : w16.cell? ⟨w.heap.size + 1, 1, none⟩ = some (.slice Agr1 gr.es.length cgr1) := bx1_16.cell 1; have z16_2_0 : w16.cell? ⟨w6.heap.size, 0, none⟩ = some (.int .i64 gr.n) := bx2_16.cell 0; have z16_2_1 : w16.cell? ⟨w6.heap.size, 1, none⟩ = some (.slice B6_1 gr.es.length d6_1) := bx2_16.cell 1; have hgr_16 := hgr_15.up hy16 (by omega); have hr5_16 := hr5_15.up hy16 (by omega); have hm15_16 := hm15_15.up hy16 (by omega); have hk15_16 := own_ext hk15 hy16)
            | (go_at_call 32; have _t := tok1; clear tok1 _t; refine (toGraph_own (.agg #[.int .i64 gr.n, .slice Agr1 gr.es.length cgr1]) gr _ (hgr_16.more (by omega)) hsmgr).mono ?_; rintro e w17 ⟨v17, b17_1, rfl, ho17, hb17, hy17⟩; obtain ⟨hb17_0, hb17_1⟩ := hb17; have hr17 := ho17.at_; have hz17 := hy17.size; have hx17' := hx16'.trans hy17; have bx0_17 := bx0_16.ext hy17; have bx1_17 := bx1_16.ext hy17; have bx2_17 := bx2_16.ext hy17; clear z16_0_0 z16_0_1 z16_0_2 z16_0_3 z16_1_0 z16_1_1 z16_2_0 z16_2_1; have z17_0_0 : w17.cell? ⟨w.heap.size, 0, none⟩ = some (.int .i64 hh.k) := bx0_17.cell 0; have z17_0_1 : w17.cell? ⟨w.heap.size, 1, none⟩ = some (.int .i64 hh.a) := bx0_17.cell 1; have z17_0_2 : w17.cell? ⟨w.heap.size, 2, none⟩ = some (.int .i64 hh.b) := bx0_17.cell 2; have z17_0_3 : w17.cell? ⟨w.heap.size, 3, none⟩ = some (.int .i64 hh.c) := bx0_17.cell 3; have z17_1_0 : w17.cell? ⟨w.heap.size + 1, 0, none⟩ = some (.int .i64 gr.n) := bx1_17.cell 0; have z17_1_1 : w17.cell? ⟨w.heap.size + 1, 1, none⟩ = some (.slice Agr1 gr.es.length cgr1) := bx1_17.cell 1; have z17_2_0 : w17.cell? ⟨w6.heap.size, 0, none⟩ = some (.int .i64 gr.n) := bx2_17.cell 0; have z17_2_1 : w17.cell? ⟨w6.heap.size, 1, none⟩ = some (.slice B6_1 gr.es.length d6_1) := bx2_17.cell 1; have hgr_17 := hgr_16.up hy17 (by omega); have hr5_17 := hr5_16.up hy17 (by omega); have hm15_17 := hm15_16.up hy17 (by omega); have hk15_17 := own_ext hk15_16 hy17)
            | (go_at_call 33; have _t := tok2; clear tok2 _t; refine (impl_OrientGate_any gr hh (by omega) v17 _ (hr17.more (by omega))).mono ?_; rintro e w18 ⟨v18, rfl, ho18, hy18⟩; obtain ⟨A18, c18, rfl, hr18⟩ := own_slice ho18; have hlt18 : ∀ g, (Value.slice A18 ((oriL gr hh).length) c18).ownBlock = some g → w17.heap.size ≤ g ∧ g < w18.heap.size := fun g hg => ho18.lt g hg; have hz18 := hy18.size; have hx18' := hx17'.trans hy18; have bx0_18 := bx0_17.ext hy18; have bx1_18 := bx1_17.ext hy18; have bx2_18 := bx2_17.ext hy18; clear z17_0_0 z17_0_1 z17_0_2 z17_0_3 z17_1_0 z17_1_1 z17_2_0 z17_2_1; have z18_0_0 : w18.cell? ⟨w.heap.size, 0, none⟩ = some (.int .i64 hh.k) := bx0_18.cell 0; have z18_0_1 : w18.cell? ⟨w.heap.size, 1, none⟩ = some (.int .i64 hh.a) := bx0_18.cell 1; have z18_0_2 : w18.cell? ⟨w.heap.size, 2, none⟩ = some (.int .i64 hh.b) := bx0_18.cell 2; have z18_0_3 : w18.cell? ⟨w.heap.size, 3, none⟩ = some (.int .i64 hh.c) := bx0_18.cell 3; have z18_1_0 : w18.cell? ⟨w.heap.size + 1, 0, none⟩ = some (.int .i64 gr.n) := bx1_18.cell 0; have z18_1_1 : w18.cell? ⟨w.heap.size + 1, 1, none⟩ = some (.slice Agr1 gr.es.length cgr1) := bx1_18.cell 1; have z18_2_0 : w18.cell? ⟨w6.heap.size, 0, none⟩ = some (.int .i64 gr.n) := bx2_18.cell 0; have z18_2_1 : w18.cell? ⟨w6.heap.size, 1, none⟩ = some (.slice B6_1 gr.es.length d6_1) := bx2_18.cell 1; have hgr_18 := hgr_17.up hy18 (by omega); have hr5_18 := hr5_17.up hy18 (by omega); have hm15_18 := hm15_17.up hy18 (by omega); have hk15_18 := own_ext hk15_17 hy18; have hr17_18 := hr17.up hy18 (by omega)))
  go_wp2_with fail
  refine (eqGateS_any A18 A5 ((oriL gr hh).length) ((oriL gr hh).length) c18 c5 ((oriL gr hh)) ((oriL gr hh)) _ (hr18.more (by omega)) (hr5_18.more (by omega)) (by omega) (by omega)).mono ?_
  rintro e w19 ⟨rfl, hy19⟩
  rw [eqL_self eqG eqG_self]
  have hz19 := hy19.size
  have hx19' := hx18'.trans hy19
  have bx0_19 := bx0_18.ext hy19
  have bx1_19 := bx1_18.ext hy19
  have bx2_19 := bx2_18.ext hy19
  clear z18_0_0 z18_0_1 z18_0_2 z18_0_3 z18_1_0 z18_1_1 z18_2_0 z18_2_1
  have z19_0_0 : w19.cell? ⟨w.heap.size, 0, none⟩ = some (.int .i64 hh.k) := bx0_19.cell 0
  have z19_0_1 : w19.cell? ⟨w.heap.size, 1, none⟩ = some (.int .i64 hh.a) := bx0_19.cell 1
  have z19_0_2 : w19.cell? ⟨w.heap.size, 2, none⟩ = some (.int .i64 hh.b) := bx0_19.cell 2
  have z19_0_3 : w19.cell? ⟨w.heap.size, 3, none⟩ = some (.int .i64 hh.c) := bx0_19.cell 3
  have z19_1_0 : w19.cell? ⟨w.heap.size + 1, 0, none⟩ = some (.int .i64 gr.n) := bx1_19.cell 0
  have z19_1_1 : w19.cell? ⟨w.heap.size + 1, 1, none⟩ = some (.slice Agr1 gr.es.length cgr1) := bx1_19.cell 1
  have z19_2_0 : w19.cell? ⟨w6.heap.size, 0, none⟩ = some (.int .i64 gr.n) := bx2_19.cell 0
  have z19_2_1 : w19.cell? ⟨w6.heap.size, 1, none⟩ = some (.slice B6_1 gr.es.length d6_1) := bx2_19.cell 1
  have hgr_19 := hgr_18.up hy19 (by omega)
  have hr5_19 := hr5_18.up hy19 (by omega)
  have hm15_19 := hm15_18.up hy19 (by omega)
  have hk15_19 := own_ext hk15_18 hy19
  have hr17_19 := hr17_18.up hy19 (by omega)
  have hr18_19 := hr18.up hy19 (by omega)
  have ho18_19 := own_ext ho18 hy19
  go_wp2_with fail
  refine (heldGateS_any A9 ((oriL gr hh).length) c9 (1) _ (hm15_19.more (by omega)) (by omega) (by omega)).mono ?_
  rintro e v ⟨rfl, rfl⟩
  go_wp2
  go_ret
  exact ⟨rfl, hx19'⟩
set_option maxRecDepth 100000 in
theorem lifted (os : Os) (started : os.Started) (H : Type) (enc : TypeId × Value → H) :
    ReturnsInHanded {} Try.checked os 6 .any (Rows.fnExactOrientGateSpec.pre6 enc Try.prog Try.f6 Rows.fnExactOrientGateRow.domain false) (Rows.fnExactOrientGateSpec.post enc Try.prog Try.f6 false true false false) := by
  refine returnsInHanded_of_change (C := Try.checked) own started (by kernel_rfl) Try.func6
    (ChangeSpec.witness6 (enc := enc) (C := Try.checked) false ⟨#[], #[.agg #[.int .i64 0, .int .i64 0, .int .i64 0, .int .i64 0], .agg #[.int .i64 0, .slice none 0 0]], []⟩ 8 (by kernel_rfl) (by kernel_rfl) (by kernel_rfl) (by kernel_rfl)) ?_
  intro W base args ds gs before hval0 hW hcnd _
  have hval : ∀ (j : Nat) t v, Try.f6.params[j]? = some t → args[j]? = some v → Value.okWide Try.prog W .any base t v := hval0
  have hW' := hW
  obtain ⟨p, q, hA0, hV, rfl, hfz, hnd⟩ := hW
  have hA : DataW.TrodAll enc Try.prog W 0 (fun _ => true) true Try.f6.params.toList args.toList ds p := hA0
  rw [Try.params6] at hA hval
  obtain ⟨v0, vs0, d0, ds0, p0, q0, hargs, rfl, rfl, h0, r0⟩ := trodAll_cons hA
  obtain ⟨v1, vs1, d1, ds1, p1, q1, rfl, rfl, rfl, h1, r1⟩ := trodAll_cons r0
  obtain ⟨rfl, rfl, rfl⟩ := trodAll_nil r1
  obtain rfl : args = #[v0, v1] := by cases args; simp_all
  clear hA0 hval0 hfz hnd hV hcnd
  obtain ⟨hh, rfl, hok0⟩ := open_lgateV (hval 0 _ v0 rfl rfl) h0
  obtain ⟨gr, hr1, hok1⟩ := open_lgraph (hval 1 _ v1 rfl rfl) h1
  refine (walk hh v1 gr W hok0 hr1 hok1).mono fun e W' ⟨he, hx⟩ => ?_
  subst he
  exact ⟨_, rfl, law_post rfl (by rw [Try.params6]; decide +kernel) rfl hW' rfl rfl rfl hx⟩

theorem over : Rows.fnExactOrientGateRow.holds Try.pinned (OpenSpec.ofChange Rows.fnExactOrientGateSpec) :=
  OpenClaim.holds_of_wide 6 Try.f6 rfl rfl rfl rfl rfl rfl rfl ⟨rfl, rfl, rfl, rfl, rfl⟩ rfl rfl rfl rfl rfl (by kernel_rfl) Try.func6 (by kernel_rfl)
    (of_decide_eq_true (by kernel_rfl)) (by unfold Func.isWrapper; first | (rw [if_pos (by decide +kernel)]; kernel_rfl) | (rw [if_neg (by decide +kernel)]; exact ⟨rfl, rfl⟩))
    (fun os started H enc _ => lifted os started H enc)

/-- The statement. -/
theorem proved : Rows.FnExactOrientGateSaid := over
#print axioms proved

end fnExactOrientGate
end Go.Proofs.Ytnnenocjmkbocaa
