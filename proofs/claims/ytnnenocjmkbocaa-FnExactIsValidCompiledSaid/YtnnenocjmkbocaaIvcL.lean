/-
  For every input, the law FnExactIsValidCompiled returns true: the program's IsValidCompiled and the reference's return the same, and the arguments are left alone. No condition.
-/
import Derived.Test.YtnnenocjmkbocaaIvc
namespace Go.Proofs.Ytnnenocjmkbocaa
open Go.ChangeShapes Go.WideShapes Go.ChangeAt Go.RowKit Go.Deep
set_option linter.unusedVariables false
namespace fnExactIsValidCompiled
set_option maxRecDepth 100000 in
set_option maxHeartbeats 2000000 in
theorem walk (vca : Value) (ca : Cm) (w : World) (hca : CmAt w w.heap.size vca ca) (hokca : ca.ok) :
    Calls Try.prog 5 #[vca] w fun e w' => e = .returned (.bool true) ∧ Ext w w' := by
  obtain ⟨Aca1, Aca2, Aca3, cca1, cca2, cca3, rfl, hh0, hh1, hh2⟩ := hca
  have hca : CmAt w w.heap.size (.agg #[.int .i64 ca.n, .int .i64 ca.bits, .slice Aca1 ca.ops.length cca1, .slice Aca2 ca.st.length cca2, .slice Aca3 ca.fin.length cca3]) ca := ⟨Aca1, Aca2, Aca3, cca1, cca2, cca3, rfl, hh0, hh1, hh2⟩
  clear hh0 hh1 hh2
  go_enter Try.func5, Try.ntmps5
  have hx0 : Ext w w := Ext.refl w
  go_wp2_with fail
  have hy1 : Ext w (w.alloc (.cells #[.int .i64 ca.n, .int .i64 ca.bits, .slice Aca1 ca.ops.length cca1, .slice Aca2 ca.st.length cca2, .slice Aca3 ca.fin.length cca3] 36)) := by repeat (first | exact Ext.refl _ | assumption | refine Ext.alloc ?_ _ | refine Ext.drewN ?_ _ | refine Ext.drew ?_)
  have bx0_1 : Blk (w.alloc (.cells #[.int .i64 ca.n, .int .i64 ca.bits, .slice Aca1 ca.ops.length cca1, .slice Aca2 ca.st.length cca2, .slice Aca3 ca.fin.length cca3] 36)) (w.heap.size) 36 #[.int .i64 ca.n, .int .i64 ca.bits, .slice Aca1 ca.ops.length cca1, .slice Aca2 ca.st.length cca2, .slice Aca3 ca.fin.length cca3] := Blk.newAt (b := w.heap.size) (by simp)
  generalize (w.alloc (.cells #[.int .i64 ca.n, .int .i64 ca.bits, .slice Aca1 ca.ops.length cca1, .slice Aca2 ca.st.length cca2, .slice Aca3 ca.fin.length cca3] 36)) = w1 at *
  have lb0 := bx0_1.lt
  have hz1 := hy1.size
  have hx1' := hx0.trans hy1
  have z1_0_0 : w1.cell? ⟨w.heap.size, 0, none⟩ = some (.int .i64 ca.n) := bx0_1.cell 0
  have z1_0_1 : w1.cell? ⟨w.heap.size, 1, none⟩ = some (.int .i64 ca.bits) := bx0_1.cell 1
  have z1_0_2 : w1.cell? ⟨w.heap.size, 2, none⟩ = some (.slice Aca1 ca.ops.length cca1) := bx0_1.cell 2
  have z1_0_3 : w1.cell? ⟨w.heap.size, 3, none⟩ = some (.slice Aca2 ca.st.length cca2) := bx0_1.cell 3
  have z1_0_4 : w1.cell? ⟨w.heap.size, 4, none⟩ = some (.slice Aca3 ca.fin.length cca3) := bx0_1.cell 4
  have hca_1 := hca.up hy1 (by omega)
  refine (szCompiled_any (.agg #[.int .i64 ca.n, .int .i64 ca.bits, .slice Aca1 ca.ops.length cca1, .slice Aca2 ca.st.length cca2, .slice Aca3 ca.fin.length cca3]) ca _ _ (hca_1.more (by omega)) (by omega) (by omega) hokca).mono ?_
  rintro e w2 ⟨rfl, hy2⟩
  have hz2 := hy2.size
  have hx2' := hx1'.trans hy2
  have bx0_2 := bx0_1.ext hy2
  clear z1_0_0 z1_0_1 z1_0_2 z1_0_3 z1_0_4
  have z2_0_0 : w2.cell? ⟨w.heap.size, 0, none⟩ = some (.int .i64 ca.n) := bx0_2.cell 0
  have z2_0_1 : w2.cell? ⟨w.heap.size, 1, none⟩ = some (.int .i64 ca.bits) := bx0_2.cell 1
  have z2_0_2 : w2.cell? ⟨w.heap.size, 2, none⟩ = some (.slice Aca1 ca.ops.length cca1) := bx0_2.cell 2
  have z2_0_3 : w2.cell? ⟨w.heap.size, 3, none⟩ = some (.slice Aca2 ca.st.length cca2) := bx0_2.cell 3
  have z2_0_4 : w2.cell? ⟨w.heap.size, 4, none⟩ = some (.slice Aca3 ca.fin.length cca3) := bx0_2.cell 4
  have hca_2 := hca_1.up hy2 (by omega)
  by_cases hnca : (1048576 : Int) < (ca.ops.length + ca.st.length + ca.fin.length : Nat)
  · rw [szF_lt (by omega)]
    go_wp2
    go_ret
    exact ⟨rfl, hx2'⟩
  rw [szF_ge (by omega)]
  have hsmca : ca.small := by unfold Cm.small; omega
  go_wp2_with fail
  refine (toCompiled_own (.agg #[.int .i64 ca.n, .int .i64 ca.bits, .slice Aca1 ca.ops.length cca1, .slice Aca2 ca.st.length cca2, .slice Aca3 ca.fin.length cca3]) ca _ (hca_2.more (by omega)) hsmca).mono ?_
  rintro e w3 ⟨v3, b3_1, b3_2, b3_3, rfl, ho3, hb3, hy3⟩
  obtain ⟨hb3_0, hb3_1, hb3_2, hb3_3⟩ := hb3
  have hr3 := ho3.at_
  have hz3 := hy3.size
  have hx3' := hx2'.trans hy3
  have bx0_3 := bx0_2.ext hy3
  clear z2_0_0 z2_0_1 z2_0_2 z2_0_3 z2_0_4
  have z3_0_0 : w3.cell? ⟨w.heap.size, 0, none⟩ = some (.int .i64 ca.n) := bx0_3.cell 0
  have z3_0_1 : w3.cell? ⟨w.heap.size, 1, none⟩ = some (.int .i64 ca.bits) := bx0_3.cell 1
  have z3_0_2 : w3.cell? ⟨w.heap.size, 2, none⟩ = some (.slice Aca1 ca.ops.length cca1) := bx0_3.cell 2
  have z3_0_3 : w3.cell? ⟨w.heap.size, 3, none⟩ = some (.slice Aca2 ca.st.length cca2) := bx0_3.cell 3
  have z3_0_4 : w3.cell? ⟨w.heap.size, 4, none⟩ = some (.slice Aca3 ca.fin.length cca3) := bx0_3.cell 4
  have hca_3 := hca_2.up hy3 (by omega)
  go_wp2_with fail
  refine (spec_IsValidCompiled_own v3 ca _ ho3 hsmca).mono ?_
  rintro e w4 ⟨rfl, hy4⟩
  have hz4 := hy4.size
  have hx4' := hx3'.trans hy4
  have bx0_4 := bx0_3.ext hy4
  clear z3_0_0 z3_0_1 z3_0_2 z3_0_3 z3_0_4
  have z4_0_0 : w4.cell? ⟨w.heap.size, 0, none⟩ = some (.int .i64 ca.n) := bx0_4.cell 0
  have z4_0_1 : w4.cell? ⟨w.heap.size, 1, none⟩ = some (.int .i64 ca.bits) := bx0_4.cell 1
  have z4_0_2 : w4.cell? ⟨w.heap.size, 2, none⟩ = some (.slice Aca1 ca.ops.length cca1) := bx0_4.cell 2
  have z4_0_3 : w4.cell? ⟨w.heap.size, 3, none⟩ = some (.slice Aca2 ca.st.length cca2) := bx0_4.cell 3
  have z4_0_4 : w4.cell? ⟨w.heap.size, 4, none⟩ = some (.slice Aca3 ca.fin.length cca3) := bx0_4.cell 4
  have hca_4 := hca_3.up hy4 (by omega)
  have hr3_4 := hr3.up hy4 (by omega)
  go_wp2_with fail
  refine (toCompiled_own (.agg #[.int .i64 ca.n, .int .i64 ca.bits, .slice Aca1 ca.ops.length cca1, .slice Aca2 ca.st.length cca2, .slice Aca3 ca.fin.length cca3]) ca _ (hca_4.more (by omega)) hsmca).mono ?_
  rintro e w5 ⟨v5, b5_1, b5_2, b5_3, rfl, ho5, hb5, hy5⟩
  obtain ⟨hb5_0, hb5_1, hb5_2, hb5_3⟩ := hb5
  have hr5 := ho5.at_
  have hz5 := hy5.size
  have hx5' := hx4'.trans hy5
  have bx0_5 := bx0_4.ext hy5
  clear z4_0_0 z4_0_1 z4_0_2 z4_0_3 z4_0_4
  have z5_0_0 : w5.cell? ⟨w.heap.size, 0, none⟩ = some (.int .i64 ca.n) := bx0_5.cell 0
  have z5_0_1 : w5.cell? ⟨w.heap.size, 1, none⟩ = some (.int .i64 ca.bits) := bx0_5.cell 1
  have z5_0_2 : w5.cell? ⟨w.heap.size, 2, none⟩ = some (.slice Aca1 ca.ops.length cca1) := bx0_5.cell 2
  have z5_0_3 : w5.cell? ⟨w.heap.size, 3, none⟩ = some (.slice Aca2 ca.st.length cca2) := bx0_5.cell 3
  have z5_0_4 : w5.cell? ⟨w.heap.size, 4, none⟩ = some (.slice Aca3 ca.fin.length cca3) := bx0_5.cell 4
  have hca_5 := hca_4.up hy5 (by omega)
  obtain ⟨B5_1, B5_2, B5_3, d5_1, d5_2, d5_3, rfl, hown5⟩ := ho5
  obtain ⟨own5_1, lt5_1, own5_2, lt5_2, own5_3, lt5_3⟩ := hown5
  have lb0_5 := bx0_5.lt
  go_wp2_with fail
  have hy6 : Ext w5 (w5.alloc (.cells #[.int .i64 ca.n, .int .i64 ca.bits, .slice B5_1 ca.ops.length d5_1, .slice B5_2 ca.st.length d5_2, .slice B5_3 ca.fin.length d5_3] 46)) := (Ext.refl _).alloc _
  have bx1_6 : Blk (w5.alloc (.cells #[.int .i64 ca.n, .int .i64 ca.bits, .slice B5_1 ca.ops.length d5_1, .slice B5_2 ca.st.length d5_2, .slice B5_3 ca.fin.length d5_3] 46)) (w5.heap.size) 46 #[.int .i64 ca.n, .int .i64 ca.bits, .slice B5_1 ca.ops.length d5_1, .slice B5_2 ca.st.length d5_2, .slice B5_3 ca.fin.length d5_3] := Blk.new _ _ _
  generalize (w5.alloc (.cells #[.int .i64 ca.n, .int .i64 ca.bits, .slice B5_1 ca.ops.length d5_1, .slice B5_2 ca.st.length d5_2, .slice B5_3 ca.fin.length d5_3] 46)) = w6 at *
  have lb1 := bx1_6.lt
  have hs51 := Rd.bdl (Rd.own own5_1) (fun g hg => lt5_1 g hg)
  have hrw51 : ∀ g, (Value.slice B5_1 (ca.ops.length) d5_1).ownBlock = some g → w4.heap.size ≤ g ∧ g < b5_1 := fun g hg => ⟨(own5_1.lt g hg).1, lt5_1 g hg⟩
  have own51 := own5_1
  have hs52 := Rd.bdl (Rd.own own5_2) (fun g hg => lt5_2 g hg)
  have hrw52 : ∀ g, (Value.slice B5_2 (ca.st.length) d5_2).ownBlock = some g → b5_1 ≤ g ∧ g < b5_2 := fun g hg => ⟨(own5_2.lt g hg).1, lt5_2 g hg⟩
  have own52 := own5_2
  have hs53 := Rd.bdl (Rd.own own5_3) (fun g hg => lt5_3 g hg)
  have hrw53 : ∀ g, (Value.slice B5_3 (ca.fin.length) d5_3).ownBlock = some g → b5_2 ≤ g ∧ g < b5_3 := fun g hg => ⟨(own5_3.lt g hg).1, lt5_3 g hg⟩
  have own53 := own5_3
  have hz6 := hy6.size
  have hx6' := hx5'.trans hy6
  have bx0_6 := bx0_5.ext hy6
  clear z5_0_0 z5_0_1 z5_0_2 z5_0_3 z5_0_4
  have z6_0_0 : w6.cell? ⟨w.heap.size, 0, none⟩ = some (.int .i64 ca.n) := bx0_6.cell 0
  have z6_0_1 : w6.cell? ⟨w.heap.size, 1, none⟩ = some (.int .i64 ca.bits) := bx0_6.cell 1
  have z6_0_2 : w6.cell? ⟨w.heap.size, 2, none⟩ = some (.slice Aca1 ca.ops.length cca1) := bx0_6.cell 2
  have z6_0_3 : w6.cell? ⟨w.heap.size, 3, none⟩ = some (.slice Aca2 ca.st.length cca2) := bx0_6.cell 3
  have z6_0_4 : w6.cell? ⟨w.heap.size, 4, none⟩ = some (.slice Aca3 ca.fin.length cca3) := bx0_6.cell 4
  have z6_1_0 : w6.cell? ⟨w5.heap.size, 0, none⟩ = some (.int .i64 ca.n) := bx1_6.cell 0
  have z6_1_1 : w6.cell? ⟨w5.heap.size, 1, none⟩ = some (.int .i64 ca.bits) := bx1_6.cell 1
  have z6_1_2 : w6.cell? ⟨w5.heap.size, 2, none⟩ = some (.slice B5_1 ca.ops.length d5_1) := bx1_6.cell 2
  have z6_1_3 : w6.cell? ⟨w5.heap.size, 3, none⟩ = some (.slice B5_2 ca.st.length d5_2) := bx1_6.cell 3
  have z6_1_4 : w6.cell? ⟨w5.heap.size, 4, none⟩ = some (.slice B5_3 ca.fin.length d5_3) := bx1_6.cell 4
  have hca_6 := hca_5.up hy6 (by omega)
  have hr5_6 := hr5.up hy6 (by omega)
  have hs51_6 := hs51.up hy6 (by omega)
  have own51_6 := own_ext own51 hy6
  have hs52_6 := hs52.up hy6 (by omega)
  have own52_6 := own_ext own52 hy6
  have hs53_6 := hs53.up hy6 (by omega)
  have own53_6 := own_ext own53 hy6
  refine (impl_IsValidCompiled_at (.agg #[.int .i64 ca.n, .int .i64 ca.bits, .slice B5_1 ca.ops.length d5_1, .slice B5_2 ca.st.length d5_2, .slice B5_3 ca.fin.length d5_3]) ca _ (hr5_6.more (by omega)) hsmca).mono ?_
  rintro e w7 ⟨rfl, hy7⟩
  have hz7 := hy7.size
  have hx7' := hx6'.trans hy7
  have bx0_7 := bx0_6.ext hy7
  have bx1_7 := bx1_6.ext hy7
  clear z6_0_0 z6_0_1 z6_0_2 z6_0_3 z6_0_4 z6_1_0 z6_1_1 z6_1_2 z6_1_3 z6_1_4
  have z7_0_0 : w7.cell? ⟨w.heap.size, 0, none⟩ = some (.int .i64 ca.n) := bx0_7.cell 0
  have z7_0_1 : w7.cell? ⟨w.heap.size, 1, none⟩ = some (.int .i64 ca.bits) := bx0_7.cell 1
  have z7_0_2 : w7.cell? ⟨w.heap.size, 2, none⟩ = some (.slice Aca1 ca.ops.length cca1) := bx0_7.cell 2
  have z7_0_3 : w7.cell? ⟨w.heap.size, 3, none⟩ = some (.slice Aca2 ca.st.length cca2) := bx0_7.cell 3
  have z7_0_4 : w7.cell? ⟨w.heap.size, 4, none⟩ = some (.slice Aca3 ca.fin.length cca3) := bx0_7.cell 4
  have z7_1_0 : w7.cell? ⟨w5.heap.size, 0, none⟩ = some (.int .i64 ca.n) := bx1_7.cell 0
  have z7_1_1 : w7.cell? ⟨w5.heap.size, 1, none⟩ = some (.int .i64 ca.bits) := bx1_7.cell 1
  have z7_1_2 : w7.cell? ⟨w5.heap.size, 2, none⟩ = some (.slice B5_1 ca.ops.length d5_1) := bx1_7.cell 2
  have z7_1_3 : w7.cell? ⟨w5.heap.size, 3, none⟩ = some (.slice B5_2 ca.st.length d5_2) := bx1_7.cell 3
  have z7_1_4 : w7.cell? ⟨w5.heap.size, 4, none⟩ = some (.slice B5_3 ca.fin.length d5_3) := bx1_7.cell 4
  have hca_7 := hca_6.up hy7 (by omega)
  have hr5_7 := hr5_6.up hy7 (by omega)
  have hs51_7 := hs51_6.up hy7 (by omega)
  have own51_7 := own_ext own51_6 hy7
  have hs52_7 := hs52_6.up hy7 (by omega)
  have own52_7 := own_ext own52_6 hy7
  have hs53_7 := hs53_6.up hy7 (by omega)
  have own53_7 := own_ext own53_6 hy7
  go_wp2_with fail
  have HK1 : Hid (∀ w', Blk w' (w.heap.size) 36 #[.int .i64 ca.n, .int .i64 ca.bits, .slice Aca1 ca.ops.length cca1, .slice Aca2 ca.st.length cca2, .slice Aca3 ca.fin.length cca3] → Blk w' (w5.heap.size) 46 #[.int .i64 ca.n, .int .i64 ca.bits, .slice B5_1 ca.ops.length d5_1, .slice B5_2 ca.st.length d5_2, .slice B5_3 ca.fin.length d5_3] → w'.cell? ⟨w.heap.size, 0, none⟩ = some (.int .i64 ca.n) ∧ w'.cell? ⟨w.heap.size, 1, none⟩ = some (.int .i64 ca.bits) ∧ w'.cell? ⟨w.heap.size, 2, none⟩ = some (.slice Aca1 ca.ops.length cca1) ∧ w'.cell? ⟨w.heap.size, 3, none⟩ = some (.slice Aca2 ca.st.length cca2) ∧ w'.cell? ⟨w.heap.size, 4, none⟩ = some (.slice Aca3 ca.fin.length cca3) ∧ w'.cell? ⟨w5.heap.size, 0, none⟩ = some (.int .i64 ca.n) ∧ w'.cell? ⟨w5.heap.size, 1, none⟩ = some (.int .i64 ca.bits) ∧ w'.cell? ⟨w5.heap.size, 2, none⟩ = some (.slice B5_1 ca.ops.length d5_1) ∧ w'.cell? ⟨w5.heap.size, 3, none⟩ = some (.slice B5_2 ca.st.length d5_2) ∧ w'.cell? ⟨w5.heap.size, 4, none⟩ = some (.slice B5_3 ca.fin.length d5_3)) := fun w' g0 g1 => ⟨g0.cell 0, g0.cell 1, g0.cell 2, g0.cell 3, g0.cell 4, g1.cell 0, g1.cell 1, g1.cell 2, g1.cell 3, g1.cell 4⟩
  have tok0 : True := trivial
  have tok1 : True := trivial
  go_region_held3 (fun w' => w'.cell? ⟨w.heap.size, 0, none⟩ = some (.int .i64 ca.n) ∧ w'.cell? ⟨w.heap.size, 1, none⟩ = some (.int .i64 ca.bits) ∧ w'.cell? ⟨w.heap.size, 2, none⟩ = some (.slice Aca1 ca.ops.length cca1) ∧ w'.cell? ⟨w.heap.size, 3, none⟩ = some (.slice Aca2 ca.st.length cca2) ∧ w'.cell? ⟨w.heap.size, 4, none⟩ = some (.slice Aca3 ca.fin.length cca3) ∧ w'.cell? ⟨w5.heap.size, 0, none⟩ = some (.int .i64 ca.n) ∧ w'.cell? ⟨w5.heap.size, 1, none⟩ = some (.int .i64 ca.bits) ∧ w'.cell? ⟨w5.heap.size, 2, none⟩ = some (.slice B5_1 ca.ops.length d5_1) ∧ w'.cell? ⟨w5.heap.size, 3, none⟩ = some (.slice B5_2 ca.st.length d5_2) ∧ w'.cell? ⟨w5.heap.size, 4, none⟩ = some (.slice B5_3 ca.fin.length d5_3))
    (first | go_keep | exact HK1.out _ (by assumption) (by assumption))
    (first
            | (go_at_call 26; have _t := tok0; clear tok0 _t; refine (toCompiled_own (.agg #[.int .i64 ca.n, .int .i64 ca.bits, .slice Aca1 ca.ops.length cca1, .slice Aca2 ca.st.length cca2, .slice Aca3 ca.fin.length cca3]) ca _ ((hca_7.up (Ext.refl w7).drew (by omega)).more (show _ ≤ w7.heap.size by omega)) hsmca).mono ?_; rintro e w8 ⟨v8, b8_1, b8_2, b8_3, rfl, ho8, hb8, hy8⟩; obtain ⟨hb8_0, hb8_1, hb8_2, hb8_3⟩ := hb8; have hr8 := ho8.at_; replace hy8 : Ext w7 w8 := Ext.trans (Ext.refl w7).drew hy8; have hz8 := hy8.size; have hx8' := hx7'.trans hy8; have bx0_8 := bx0_7.ext hy8; have bx1_8 := bx1_7.ext hy8; clear z7_0_0 z7_0_1 z7_0_2 z7_0_3 z7_0_4 z7_1_0 z7_1_1 z7_1_2 z7_1_3 z7_1_4; have z8_0_0 : w8.cell? ⟨w.heap.size, 0, none⟩ = some (.int .i64 ca.n) := bx0_8.cell 0; have z8_0_1 : w8.cell? ⟨w.heap.size, 1, none⟩ = some (.int .i64 ca.bits) := bx0_8.cell 1; have z8_0_2 : w8.cell? ⟨w.heap.size, 2, none⟩ = some (.slice Aca1 ca.ops.length cca1) := bx0_8.cell 2; have z8_0_3 : w8.cell? ⟨w.heap.size, 3, none⟩ = some (.slice Aca2 ca.st.length cca2) := bx0_8.cell 3; have z8_0_4 : w8.cell? ⟨w.heap.size, 4, none⟩ = some (.slice Aca3 ca.fin.length cca3) := bx0_8.cell 4; have z8_1_0 : w8.cell? ⟨w5.heap.size, 0, none⟩ = some (.int .i64 ca.n) := bx1_8.cell 0; have z8_1_1 : w8.cell? ⟨w5.heap.size, 1, none⟩ = some (.int .i64 ca.bits) := bx1_8.cell 1; have z8_1_2 : w8.cell? ⟨w5.heap.size, 2, none⟩ = some (.slice B5_1 ca.ops.length d5_1) := bx1_8.cell 2; have z8_1_3 : w8.cell? ⟨w5.heap.size, 3, none⟩ = some (.slice B5_2 ca.st.length d5_2) := bx1_8.cell 3; have z8_1_4 : w8.cell? ⟨w5.heap.size, 4, none⟩ = some (.slice B5_3 ca.fin.length d5_3) := bx1_8.cell 4; have hca_8 := hca_7.up hy8 (by omega); have hr5_8 := hr5_7.up hy8 (by omega); have hs51_8 := hs51_7.up hy8 (by omega); have own51_8 := own_ext own51_7 hy8; have hs52_8 := hs52_7.up hy8 (by omega); have own52_8 := own_ext own52_7 hy8; have hs53_8 := hs53_7.up hy8 (by omega); have own53_8 := own_ext own53_7 hy8)
            | (go_at_call 28; have _t := tok1; clear tok1 _t; refine (eqCompiled_any (.agg #[.int .i64 ca.n, .int .i64 ca.bits, .slice B5_1 ca.ops.length d5_1, .slice B5_2 ca.st.length d5_2, .slice B5_3 ca.fin.length d5_3]) v8 ca ca _ (hr5_8.more (by omega)) (hr8.more (by omega)) (by have := hsmca; unfold Cm.small at this; omega)).mono ?_; rintro e w9 ⟨rfl, hy9⟩; rw [eqCm_self]; have hz9 := hy9.size; have hx9' := hx8'.trans hy9; have bx0_9 := bx0_8.ext hy9; have bx1_9 := bx1_8.ext hy9; clear z8_0_0 z8_0_1 z8_0_2 z8_0_3 z8_0_4 z8_1_0 z8_1_1 z8_1_2 z8_1_3 z8_1_4; have z9_0_0 : w9.cell? ⟨w.heap.size, 0, none⟩ = some (.int .i64 ca.n) := bx0_9.cell 0; have z9_0_1 : w9.cell? ⟨w.heap.size, 1, none⟩ = some (.int .i64 ca.bits) := bx0_9.cell 1; have z9_0_2 : w9.cell? ⟨w.heap.size, 2, none⟩ = some (.slice Aca1 ca.ops.length cca1) := bx0_9.cell 2; have z9_0_3 : w9.cell? ⟨w.heap.size, 3, none⟩ = some (.slice Aca2 ca.st.length cca2) := bx0_9.cell 3; have z9_0_4 : w9.cell? ⟨w.heap.size, 4, none⟩ = some (.slice Aca3 ca.fin.length cca3) := bx0_9.cell 4; have z9_1_0 : w9.cell? ⟨w5.heap.size, 0, none⟩ = some (.int .i64 ca.n) := bx1_9.cell 0; have z9_1_1 : w9.cell? ⟨w5.heap.size, 1, none⟩ = some (.int .i64 ca.bits) := bx1_9.cell 1; have z9_1_2 : w9.cell? ⟨w5.heap.size, 2, none⟩ = some (.slice B5_1 ca.ops.length d5_1) := bx1_9.cell 2; have z9_1_3 : w9.cell? ⟨w5.heap.size, 3, none⟩ = some (.slice B5_2 ca.st.length d5_2) := bx1_9.cell 3; have z9_1_4 : w9.cell? ⟨w5.heap.size, 4, none⟩ = some (.slice B5_3 ca.fin.length d5_3) := bx1_9.cell 4; have hca_9 := hca_8.up hy9 (by omega); have hr5_9 := hr5_8.up hy9 (by omega); have hs51_9 := hs51_8.up hy9 (by omega); have own51_9 := own_ext own51_8 hy9; have hs52_9 := hs52_8.up hy9 (by omega); have own52_9 := own_ext own52_8 hy9; have hs53_9 := hs53_8.up hy9 (by omega); have own53_9 := own_ext own53_8 hy9; have hr8_9 := hr8.up hy9 (by omega)))
  go_wp2
  go_ret
  exact ⟨rfl, hx9'⟩
set_option maxRecDepth 100000 in
theorem lifted (os : Os) (started : os.Started) (H : Type) (enc : TypeId × Value → H) :
    ReturnsInHanded {} Try.checked os 5 .any (Rows.fnExactIsValidCompiledSpec.pre6 enc Try.prog Try.f5 Rows.fnExactIsValidCompiledRow.domain false) (Rows.fnExactIsValidCompiledSpec.post enc Try.prog Try.f5 false true false false) := by
  refine returnsInHanded_of_change (C := Try.checked) own started (by kernel_rfl) Try.func5
    (ChangeSpec.witness6 (enc := enc) (C := Try.checked) false ⟨#[], #[.agg #[.int .i64 0, .int .i64 0, .slice none 0 0, .slice none 0 0, .slice none 0 0]], []⟩ 8 (by kernel_rfl) (by kernel_rfl) (by kernel_rfl) (by kernel_rfl)) ?_
  intro W base args ds gs before hval0 hW hcnd _
  have hval : ∀ (j : Nat) t v, Try.f5.params[j]? = some t → args[j]? = some v → Value.okWide Try.prog W .any base t v := hval0
  have hW' := hW
  obtain ⟨p, q, hA0, hV, rfl, hfz, hnd⟩ := hW
  have hA : DataW.TrodAll enc Try.prog W 0 (fun _ => true) true Try.f5.params.toList args.toList ds p := hA0
  rw [Try.params5] at hA hval
  obtain ⟨v0, vs0, d0, ds0, p0, q0, hargs, rfl, rfl, h0, r0⟩ := trodAll_cons hA
  obtain ⟨rfl, rfl, rfl⟩ := trodAll_nil r0
  obtain rfl : args = #[v0] := by cases args; simp_all
  clear hA0 hval0 hfz hnd hV hcnd
  obtain ⟨ca, hr0, hok0⟩ := open_lcompiled (hval 0 _ v0 rfl rfl) h0
  refine (walk v0 ca W hr0 hok0).mono fun e W' ⟨he, hx⟩ => ?_
  subst he
  exact ⟨_, rfl, law_post rfl (by rw [Try.params5]; decide +kernel) rfl hW' rfl rfl rfl hx⟩

theorem over : Rows.fnExactIsValidCompiledRow.holds Try.pinned (OpenSpec.ofChange Rows.fnExactIsValidCompiledSpec) :=
  OpenClaim.holds_of_wide 5 Try.f5 rfl rfl rfl rfl rfl rfl rfl ⟨rfl, rfl, rfl, rfl, rfl⟩ rfl rfl rfl rfl rfl (by kernel_rfl) Try.func5 (by kernel_rfl)
    (of_decide_eq_true (by kernel_rfl)) (by unfold Func.isWrapper; first | (rw [if_pos (by decide +kernel)]; kernel_rfl) | (rw [if_neg (by decide +kernel)]; exact ⟨rfl, rfl⟩))
    (fun os started H enc _ => lifted os started H enc)

/-- The statement. -/
theorem proved : Rows.FnExactIsValidCompiledSaid := over
#print axioms proved

end fnExactIsValidCompiled
end Go.Proofs.Ytnnenocjmkbocaa
