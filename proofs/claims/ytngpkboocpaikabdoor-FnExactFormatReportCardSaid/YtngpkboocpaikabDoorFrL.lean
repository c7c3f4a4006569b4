/-
  For every input, the law FnExactFormatReport returns true. The tied card: the table of powers of ten that strconv reads is taken from the row's list. Printed by gen_frl.py.
-/
import Derived.Test.YtngpkboocpaikabDoorSpr
import Derived.Test.YtngpkboocpaikabDoorCards
import Derived.Test.YtngpkboocpaikabDoorTie
import Derived.LaidMore
import Derived.Lib.LaidTab
import Derived.MakeChecks
import Derived.Stop.LaidErr
import Derived.Stop.Joined
import Derived.SevenTiedAt
namespace Go.Proofs.YtngpkboocpaikabDoor
open Go.ChangeShapes Go.WideShapes Go.ChangeAt Go.RowKit Go.Deep
set_option linter.unusedVariables false
namespace fnExactFormatReport
set_option maxRecDepth 100000 in
set_option maxHeartbeats 4000000 in
theorem walk (v u : Value) (x : Rt) (y : Cm) (w : World) (h : RtAt w w.heap.size v x) (h' : CmAt w w.heap.size u y) (hok : x.ok) (hok' : y.ok) (hp : Pow w) (g : Nat) (hg : Tryd.prog.globalNamed "internal/strconv.uint64pow10" = some g) :
    Calls Tryd.prog 3 #[v, u] w fun e w' => e = .returned (.bool true) ∧ Ext w w' := by
  obtain ⟨A1, c1, rfl, h1⟩ := h
  obtain ⟨B1, B2, B3, d1, d2, d3, rfl, k1, k2, k3⟩ := h'
  have HG : Hid (∀ w', Ext w w' → RtAt w' w'.heap.size (.agg #[.int .i64 x.n, .int .i64 x.inn, .int .i64 x.bits, .slice A1 x.ops.length c1]) x) := fun w' hx => ⟨A1, c1, rfl, h1.ext hx⟩
  have HH : Hid (∀ w', Ext w w' → CmAt w' w'.heap.size (.agg #[.int .i64 y.n, .int .i64 y.bits, .slice B1 y.ops.length d1, .slice B2 y.st.length d2, .slice B3 y.fin.length d3]) y) := fun w' hx => ⟨B1, B2, B3, d1, d2, d3, rfl, k1.ext hx, k2.ext hx, k3.ext hx⟩
  clear h1 k1 k2 k3
  have HOK := Lib.hid hok
  have HOK' := Lib.hid hok'
  have HP := Lib.hid hp
  have HQ := Lib.hid hg
  clear hok hok' hp hg
  go_enter Tryd.func3, Tryd.ntmps3
  go_upto_region 1 with (fail)
  have hB0 : Blk (w.alloc (.cells #[.int .i64 x.n, .int .i64 x.inn, .int .i64 x.bits, .slice A1 x.ops.length c1] 24)) w.heap.size 24 #[.int .i64 x.n, .int .i64 x.inn, .int .i64 x.bits, .slice A1 x.ops.length c1] := Blk.new _ _ _
  have hs : (w.alloc (.cells #[.int .i64 x.n, .int .i64 x.inn, .int .i64 x.bits, .slice A1 x.ops.length c1] 24)).heap.size = w.heap.size + 1 := Array.size_push _
  have hX0 : Ext w (w.alloc (.cells #[.int .i64 x.n, .int .i64 x.inn, .int .i64 x.bits, .slice A1 x.ops.length c1] 24)) := (Ext.refl w).alloc _
  generalize (w.alloc (.cells #[.int .i64 x.n, .int .i64 x.inn, .int .i64 x.bits, .slice A1 x.ops.length c1] 24)) = W1 at *
  have hB1 : Blk (W1.alloc (.cells #[.int .i64 y.n, .int .i64 y.bits, .slice B1 y.ops.length d1, .slice B2 y.st.length d2, .slice B3 y.fin.length d3] 27)) W1.heap.size 27 #[.int .i64 y.n, .int .i64 y.bits, .slice B1 y.ops.length d1, .slice B2 y.st.length d2, .slice B3 y.fin.length d3] := Blk.new _ _ _
  rw [hs] at hB1
  replace hB0 := hB0.ext ((Ext.refl W1).alloc (.cells #[.int .i64 y.n, .int .i64 y.bits, .slice B1 y.ops.length d1, .slice B2 y.st.length d2, .slice B3 y.fin.length d3] 27))
  replace hX0 := hX0.alloc (.cells #[.int .i64 y.n, .int .i64 y.bits, .slice B1 y.ops.length d1, .slice B2 y.st.length d2, .slice B3 y.fin.length d3] 27)
  clear hs
  generalize (W1.alloc (.cells #[.int .i64 y.n, .int .i64 y.bits, .slice B1 y.ops.length d1, .slice B2 y.st.length d2, .slice B3 y.fin.length d3] 27)) = Wb at *
  have HB0 := Lib.hid hB0
  have HB1 := Lib.hid hB1
  have d00 : Wb.cell? ⟨w.heap.size, 0, none⟩ = some (.int .i64 x.n) := hB0.cell 0
  have d01 : Wb.cell? ⟨w.heap.size, 1, none⟩ = some (.int .i64 x.inn) := hB0.cell 1
  have d02 : Wb.cell? ⟨w.heap.size, 2, none⟩ = some (.int .i64 x.bits) := hB0.cell 2
  have d03 : Wb.cell? ⟨w.heap.size, 3, none⟩ = some (.slice A1 x.ops.length c1) := hB0.cell 3
  clear hB0 hB1
  go_wp2_with fail
  refine (szRoutine_any _ x _ _ (HG.out _ hX0) (by omega) (by omega) HOK.out.2.2.2.1).mono ?_
  rintro e w2 ⟨rfl, hy2⟩
  clear d00 d01 d02 d03
  by_cases hbig : (1048576 : Int) < x.ops.length
  · rw [szF_lt hbig]
    go_wp2
    go_ret
    exact ⟨rfl, hX0.trans hy2⟩
  rw [szF_ge hbig]
  have hge : ¬ ((1048576 : Int) - x.ops.length < 0) := by omega
  have d10 : w2.cell? ⟨w.heap.size + 1, 0, none⟩ = some (.int .i64 y.n) := (HB1.out.ext hy2).cell 0
  have d11 : w2.cell? ⟨w.heap.size + 1, 1, none⟩ = some (.int .i64 y.bits) := (HB1.out.ext hy2).cell 1
  have d12 : w2.cell? ⟨w.heap.size + 1, 2, none⟩ = some (.slice B1 y.ops.length d1) := (HB1.out.ext hy2).cell 2
  have d13 : w2.cell? ⟨w.heap.size + 1, 3, none⟩ = some (.slice B2 y.st.length d2) := (HB1.out.ext hy2).cell 3
  have d14 : w2.cell? ⟨w.heap.size + 1, 4, none⟩ = some (.slice B3 y.fin.length d3) := (HB1.out.ext hy2).cell 4
  go_wp2_with fail
  refine (szCompiled_any _ y _ _ (HH.out _ (hX0.trans hy2)) (by omega) (by omega) HOK'.out).mono ?_
  rintro e w3 ⟨rfl, hy3⟩
  replace hy3 := hy2.trans hy3
  clear d10 d11 d12 d13 d14
  by_cases hbig2 : (1048576 : Int) - x.ops.length < ((y.ops.length + y.st.length + y.fin.length : Nat) : Int)
  · rw [szF_lt hbig2]
    go_wp2
    go_ret
    exact ⟨rfl, hX0.trans hy3⟩
  rw [szF_ge hbig2]
  have hge2 : ¬ ((1048576 : Int) - x.ops.length - ((y.ops.length + y.st.length + y.fin.length : Nat) : Int) < 0) := by omega
  have HSX : Hid x.small := by unfold Hid Rt.small; omega
  have HSY : Hid y.small := by unfold Hid Cm.small; omega
  have hlx : x.ops.length ≤ 1048576 := by omega
  have hly : y.ops.length ≤ 1048576 := by omega
  have hly2 : y.st.length ≤ 1048576 := by omega
  have hly3 : y.fin.length ≤ 1048576 := by omega
  have HLX := Lib.hid hlx
  have HLY := Lib.hid hly
  have HLY2 := Lib.hid hly2
  have HLY3 := Lib.hid hly3
  have hX3 := hX0.trans hy3
  clear hlx hly hly2 hly3 hbig hbig2 hy2
  have hB0 := HB0.out.ext hy3
  have hB1 := HB1.out.ext hy3
  clear HB0 HB1 hX0 hy3 
  have d00 : w3.cell? ⟨w.heap.size, 0, none⟩ = some (.int .i64 x.n) := hB0.cell 0
  have d01 : w3.cell? ⟨w.heap.size, 1, none⟩ = some (.int .i64 x.inn) := hB0.cell 1
  have d02 : w3.cell? ⟨w.heap.size, 2, none⟩ = some (.int .i64 x.bits) := hB0.cell 2
  have d03 : w3.cell? ⟨w.heap.size, 3, none⟩ = some (.slice A1 x.ops.length c1) := hB0.cell 3
  have d10 : w3.cell? ⟨w.heap.size + 1, 0, none⟩ = some (.int .i64 y.n) := hB1.cell 0
  have d11 : w3.cell? ⟨w.heap.size + 1, 1, none⟩ = some (.int .i64 y.bits) := hB1.cell 1
  have d12 : w3.cell? ⟨w.heap.size + 1, 2, none⟩ = some (.slice B1 y.ops.length d1) := hB1.cell 2
  have d13 : w3.cell? ⟨w.heap.size + 1, 3, none⟩ = some (.slice B2 y.st.length d2) := hB1.cell 3
  have d14 : w3.cell? ⟨w.heap.size + 1, 4, none⟩ = some (.slice B3 y.fin.length d3) := hB1.cell 4
  have HK : Hid (∀ w', Ext w3 w' → w'.cell? ⟨w.heap.size, 0, none⟩ = some (.int .i64 x.n) ∧ w'.cell? ⟨w.heap.size, 1, none⟩ = some (.int .i64 x.inn) ∧ w'.cell? ⟨w.heap.size, 2, none⟩ = some (.int .i64 x.bits) ∧ w'.cell? ⟨w.heap.size, 3, none⟩ = some (.slice A1 x.ops.length c1) ∧ w'.cell? ⟨w.heap.size + 1, 0, none⟩ = some (.int .i64 y.n) ∧ w'.cell? ⟨w.heap.size + 1, 1, none⟩ = some (.int .i64 y.bits) ∧ w'.cell? ⟨w.heap.size + 1, 2, none⟩ = some (.slice B1 y.ops.length d1) ∧ w'.cell? ⟨w.heap.size + 1, 3, none⟩ = some (.slice B2 y.st.length d2) ∧ w'.cell? ⟨w.heap.size + 1, 4, none⟩ = some (.slice B3 y.fin.length d3)) := fun w' q => ⟨(hB0.ext q).cell 0, (hB0.ext q).cell 1, (hB0.ext q).cell 2, (hB0.ext q).cell 3, (hB1.ext q).cell 0, (hB1.ext q).cell 1, (hB1.ext q).cell 2, (hB1.ext q).cell 3, (hB1.ext q).cell 4⟩
  go_wp2
  go_region_held3 (fun w' => w'.cell? ⟨w.heap.size, 0, none⟩ = some (.int .i64 x.n) ∧ w'.cell? ⟨w.heap.size, 1, none⟩ = some (.int .i64 x.inn) ∧ w'.cell? ⟨w.heap.size, 2, none⟩ = some (.int .i64 x.bits) ∧ w'.cell? ⟨w.heap.size, 3, none⟩ = some (.slice A1 x.ops.length c1) ∧ w'.cell? ⟨w.heap.size + 1, 0, none⟩ = some (.int .i64 y.n) ∧ w'.cell? ⟨w.heap.size + 1, 1, none⟩ = some (.int .i64 y.bits) ∧ w'.cell? ⟨w.heap.size + 1, 2, none⟩ = some (.slice B1 y.ops.length d1) ∧ w'.cell? ⟨w.heap.size + 1, 3, none⟩ = some (.slice B2 y.st.length d2) ∧ w'.cell? ⟨w.heap.size + 1, 4, none⟩ = some (.slice B3 y.fin.length d3))
    (first | go_keep | exact HK.out _ (by assumption))
    (first
      | (go_at_call 7; (with_reducible refine (toRoutine_own _ x _ (HG.out _ (hX3.trans (Ext.refl w3).drew)) HSX.out).mono ?_); rintro e w8 ⟨v8, b8, rfl, ho8, hb8, hy5⟩; replace hy5 : Ext w3 w8 := Ext.trans (Ext.refl w3).drew hy5)
      | (go_at_call 8; (with_reducible refine (toCompiled_own _ y _ (HH.out _ (hX3.trans hy5)) HSY.out).mono ?_); rintro e w9 ⟨v9, b91, b92, b93, rfl, ho9, hb9, hy6⟩; replace ho8 := ho8.ext hy6; replace hy5 : Ext w3 w9 := Ext.trans hy5 hy6; clear hy6)
      | (go_at_call 6; (with_reducible refine (spec_FormatReport_any v8 v9 x y _ ho8.at_ ho9.at_ HLX.out HLY.out).mono ?_); rintro e wa ⟨rfl, hy6⟩; replace hy5 : Ext w3 wa := Ext.trans hy5 hy6; clear hy6))
  clear hge hge2 HK ho8 ho9 hb8 hb9
  clear d00 d01 d02 d03 d10 d11 d12 d13 d14
  have d00 : wa.cell? ⟨w.heap.size, 0, none⟩ = some (.int .i64 x.n) := (hB0.ext hy5).cell 0
  have d01 : wa.cell? ⟨w.heap.size, 1, none⟩ = some (.int .i64 x.inn) := (hB0.ext hy5).cell 1
  have d02 : wa.cell? ⟨w.heap.size, 2, none⟩ = some (.int .i64 x.bits) := (hB0.ext hy5).cell 2
  have d03 : wa.cell? ⟨w.heap.size, 3, none⟩ = some (.slice A1 x.ops.length c1) := (hB0.ext hy5).cell 3
  go_wp2_with fail
  refine (toRoutine_own _ x _ (HG.out _ (hX3.trans hy5)) HSX.out).mono ?_
  rintro e wc ⟨vc, bc, rfl, hoc, hbc, hyc⟩
  replace hyc := hy5.trans hyc
  clear d00 d01 d02 d03
  obtain ⟨A5, c5, rfl, _⟩ := id hoc
  have hB6 : Blk (wc.alloc (.cells #[.int .i64 x.n, .int .i64 x.inn, .int .i64 x.bits, .slice A5 x.ops.length c5] 33)) wc.heap.size 33 #[.int .i64 x.n, .int .i64 x.inn, .int .i64 x.bits, .slice A5 x.ops.length c5] := Blk.new _ _ _
  have hG6 := hoc.ext ((Ext.refl wc).alloc (.cells #[.int .i64 x.n, .int .i64 x.inn, .int .i64 x.bits, .slice A5 x.ops.length c5] 33))
  have hy6 : Ext w3 (wc.alloc (.cells #[.int .i64 x.n, .int .i64 x.inn, .int .i64 x.bits, .slice A5 x.ops.length c5] 33)) := hyc.alloc _
  go_upto_region 10 with (fail)
  generalize (wc.alloc (.cells #[.int .i64 x.n, .int .i64 x.inn, .int .i64 x.bits, .slice A5 x.ops.length c5] 33)) = wd at *
  generalize wc.heap.size = u7 at *
  clear hoc hbc hyc hy5
  have d10 : wd.cell? ⟨w.heap.size + 1, 0, none⟩ = some (.int .i64 y.n) := (hB1.ext hy6).cell 0
  have d11 : wd.cell? ⟨w.heap.size + 1, 1, none⟩ = some (.int .i64 y.bits) := (hB1.ext hy6).cell 1
  have d12 : wd.cell? ⟨w.heap.size + 1, 2, none⟩ = some (.slice B1 y.ops.length d1) := (hB1.ext hy6).cell 2
  have d13 : wd.cell? ⟨w.heap.size + 1, 3, none⟩ = some (.slice B2 y.st.length d2) := (hB1.ext hy6).cell 3
  have d14 : wd.cell? ⟨w.heap.size + 1, 4, none⟩ = some (.slice B3 y.fin.length d3) := (hB1.ext hy6).cell 4
  go_wp2_with fail
  refine (toCompiled_own _ y _ (HH.out _ (hX3.trans hy6)) HSY.out).mono ?_
  rintro e we ⟨ve, be1, be2, be3, rfl, hoe, hbe, hye⟩
  replace hB6 := hB6.ext hye
  replace hG6 := hG6.ext hye
  replace hye := hy6.trans hye
  clear d10 d11 d12 d13 d14
  obtain ⟨E1, E2, E3, e1, e2, e3, rfl, _⟩ := id hoe
  have hB7 : Blk (we.alloc (.cells #[.int .i64 y.n, .int .i64 y.bits, .slice E1 y.ops.length e1, .slice E2 y.st.length e2, .slice E3 y.fin.length e3] 36)) we.heap.size 36 #[.int .i64 y.n, .int .i64 y.bits, .slice E1 y.ops.length e1, .slice E2 y.st.length e2, .slice E3 y.fin.length e3] := Blk.new _ _ _
  have hH7 := hoe.ext ((Ext.refl we).alloc (.cells #[.int .i64 y.n, .int .i64 y.bits, .slice E1 y.ops.length e1, .slice E2 y.st.length e2, .slice E3 y.fin.length e3] 36))
  have hy7 : Ext w3 (we.alloc (.cells #[.int .i64 y.n, .int .i64 y.bits, .slice E1 y.ops.length e1, .slice E2 y.st.length e2, .slice E3 y.fin.length e3] 36)) := hye.alloc _
  replace hB6 := hB6.alloc (.cells #[.int .i64 y.n, .int .i64 y.bits, .slice E1 y.ops.length e1, .slice E2 y.st.length e2, .slice E3 y.fin.length e3] 36)
  replace hG6 := hG6.ext ((Ext.refl we).alloc (.cells #[.int .i64 y.n, .int .i64 y.bits, .slice E1 y.ops.length e1, .slice E2 y.st.length e2, .slice E3 y.fin.length e3] 36))
  go_upto_region 11 with (fail)
  generalize (we.alloc (.cells #[.int .i64 y.n, .int .i64 y.bits, .slice E1 y.ops.length e1, .slice E2 y.st.length e2, .slice E3 y.fin.length e3] 36)) = wf at *
  generalize we.heap.size = u8 at *
  clear hoe hbe hye hy6
  have p0 : wf.cell? ⟨u7, 0, none⟩ = some (.int .i64 x.n) := hB6.cell 0
  have p1 : wf.cell? ⟨u7, 1, none⟩ = some (.int .i64 x.inn) := hB6.cell 1
  have p2 : wf.cell? ⟨u7, 2, none⟩ = some (.int .i64 x.bits) := hB6.cell 2
  have p3 : wf.cell? ⟨u7, 3, none⟩ = some (.slice A5 x.ops.length c5) := hB6.cell 3
  have q0 : wf.cell? ⟨u8, 0, none⟩ = some (.int .i64 y.n) := hB7.cell 0
  have q1 : wf.cell? ⟨u8, 1, none⟩ = some (.int .i64 y.bits) := hB7.cell 1
  have q2 : wf.cell? ⟨u8, 2, none⟩ = some (.slice E1 y.ops.length e1) := hB7.cell 2
  have q3 : wf.cell? ⟨u8, 3, none⟩ = some (.slice E2 y.st.length e2) := hB7.cell 3
  have q4 : wf.cell? ⟨u8, 4, none⟩ = some (.slice E3 y.fin.length e3) := hB7.cell 4
  go_wp2_with fail
  refine (impl_FormatReport_any _ _ x y _ hG6.at_ hH7.at_ HLX.out HLY.out (HP.out.ext (hX3.trans hy7) g HQ.out) g HQ.out).mono ?_
  rintro e wg ⟨rfl, hyg⟩
  replace hB6 := hB6.ext hyg
  replace hB7 := hB7.ext hyg
  replace hG6 := hG6.ext hyg
  replace hH7 := hH7.ext hyg
  replace hyg := hy7.trans hyg
  clear hy7 p0 p1 p2 p3 q0 q1 q2 q3 q4
  have p0 : wg.cell? ⟨u7, 0, none⟩ = some (.int .i64 x.n) := hB6.cell 0
  have p1 : wg.cell? ⟨u7, 1, none⟩ = some (.int .i64 x.inn) := hB6.cell 1
  have p2 : wg.cell? ⟨u7, 2, none⟩ = some (.int .i64 x.bits) := hB6.cell 2
  have p3 : wg.cell? ⟨u7, 3, none⟩ = some (.slice A5 x.ops.length c5) := hB6.cell 3
  have q0 : wg.cell? ⟨w.heap.size, 0, none⟩ = some (.int .i64 x.n) := (hB0.ext hyg).cell 0
  have q1 : wg.cell? ⟨w.heap.size, 1, none⟩ = some (.int .i64 x.inn) := (hB0.ext hyg).cell 1
  have q2 : wg.cell? ⟨w.heap.size, 2, none⟩ = some (.int .i64 x.bits) := (hB0.ext hyg).cell 2
  have q3 : wg.cell? ⟨w.heap.size, 3, none⟩ = some (.slice A1 x.ops.length c1) := (hB0.ext hyg).cell 3
  have HK : Hid (∀ w', Ext wg w' → w'.cell? ⟨u7, 0, none⟩ = some (.int .i64 x.n) ∧ w'.cell? ⟨u7, 1, none⟩ = some (.int .i64 x.inn) ∧ w'.cell? ⟨u7, 2, none⟩ = some (.int .i64 x.bits) ∧ w'.cell? ⟨u7, 3, none⟩ = some (.slice A5 x.ops.length c5) ∧ w'.cell? ⟨w.heap.size, 0, none⟩ = some (.int .i64 x.n) ∧ w'.cell? ⟨w.heap.size, 1, none⟩ = some (.int .i64 x.inn) ∧ w'.cell? ⟨w.heap.size, 2, none⟩ = some (.int .i64 x.bits) ∧ w'.cell? ⟨w.heap.size, 3, none⟩ = some (.slice A1 x.ops.length c1)) := fun w' q => ⟨(hB6.ext q).cell 0, (hB6.ext q).cell 1, (hB6.ext q).cell 2, (hB6.ext q).cell 3, ((hB0.ext hyg).ext q).cell 0, ((hB0.ext hyg).ext q).cell 1, ((hB0.ext hyg).ext q).cell 2, ((hB0.ext hyg).ext q).cell 3⟩
  have hG8 := Lib.hid hG6
  have hH8 := Lib.hid hH7
  clear hG6 hH7
  go_wp2
  go_region_held3 (fun w' => w'.cell? ⟨u7, 0, none⟩ = some (.int .i64 x.n) ∧ w'.cell? ⟨u7, 1, none⟩ = some (.int .i64 x.inn) ∧ w'.cell? ⟨u7, 2, none⟩ = some (.int .i64 x.bits) ∧ w'.cell? ⟨u7, 3, none⟩ = some (.slice A5 x.ops.length c5) ∧ w'.cell? ⟨w.heap.size, 0, none⟩ = some (.int .i64 x.n) ∧ w'.cell? ⟨w.heap.size, 1, none⟩ = some (.int .i64 x.inn) ∧ w'.cell? ⟨w.heap.size, 2, none⟩ = some (.int .i64 x.bits) ∧ w'.cell? ⟨w.heap.size, 3, none⟩ = some (.slice A1 x.ops.length c1))
    (first | go_keep | exact HK.out _ (by assumption))
    (first
      | (go_at_call 7; (with_reducible refine (toRoutine_own _ x _ (HG.out _ (hX3.trans (hyg.trans (Ext.refl wg).drew))) HSX.out).mono ?_); rintro e wh ⟨vh, bh, rfl, hoh, hbh, hyh⟩; replace hyh : Ext wg wh := Ext.trans (Ext.refl wg).drew hyh)
      | (go_at_call 10; (with_reducible refine (eqRoutine_any _ vh x x _ (hG8.out.ext hyh).at_ hoh.at_ ⟨Nat.le_trans HLX.out (by decide), Nat.le_trans HLX.out (by decide)⟩).mono ?_); rintro e wi ⟨rfl, hyi⟩; replace hyh : Ext wg wi := hyh.trans hyi; rw [eqRt_self]))
  replace hB7 := hB7.ext hyh
  have hH9 := Lib.hid (hH8.out.ext hyh)
  replace hyh := hyg.trans hyh
  clear hB6 HK hH8 hG8 hoh hbh hyi hyg p0 p1 p2 p3 q0 q1 q2 q3
  have p0 : wi.cell? ⟨u8, 0, none⟩ = some (.int .i64 y.n) := hB7.cell 0
  have p1 : wi.cell? ⟨u8, 1, none⟩ = some (.int .i64 y.bits) := hB7.cell 1
  have p2 : wi.cell? ⟨u8, 2, none⟩ = some (.slice E1 y.ops.length e1) := hB7.cell 2
  have p3 : wi.cell? ⟨u8, 3, none⟩ = some (.slice E2 y.st.length e2) := hB7.cell 3
  have p4 : wi.cell? ⟨u8, 4, none⟩ = some (.slice E3 y.fin.length e3) := hB7.cell 4
  have q0 : wi.cell? ⟨w.heap.size + 1, 0, none⟩ = some (.int .i64 y.n) := (hB1.ext hyh).cell 0
  have q1 : wi.cell? ⟨w.heap.size + 1, 1, none⟩ = some (.int .i64 y.bits) := (hB1.ext hyh).cell 1
  have q2 : wi.cell? ⟨w.heap.size + 1, 2, none⟩ = some (.slice B1 y.ops.length d1) := (hB1.ext hyh).cell 2
  have q3 : wi.cell? ⟨w.heap.size + 1, 3, none⟩ = some (.slice B2 y.st.length d2) := (hB1.ext hyh).cell 3
  have q4 : wi.cell? ⟨w.heap.size + 1, 4, none⟩ = some (.slice B3 y.fin.length d3) := (hB1.ext hyh).cell 4
  have HK : Hid (∀ w', Ext wi w' → w'.cell? ⟨u8, 0, none⟩ = some (.int .i64 y.n) ∧ w'.cell? ⟨u8, 1, none⟩ = some (.int .i64 y.bits) ∧ w'.cell? ⟨u8, 2, none⟩ = some (.slice E1 y.ops.length e1) ∧ w'.cell? ⟨u8, 3, none⟩ = some (.slice E2 y.st.length e2) ∧ w'.cell? ⟨u8, 4, none⟩ = some (.slice E3 y.fin.length e3) ∧ w'.cell? ⟨w.heap.size + 1, 0, none⟩ = some (.int .i64 y.n) ∧ w'.cell? ⟨w.heap.size + 1, 1, none⟩ = some (.int .i64 y.bits) ∧ w'.cell? ⟨w.heap.size + 1, 2, none⟩ = some (.slice B1 y.ops.length d1) ∧ w'.cell? ⟨w.heap.size + 1, 3, none⟩ = some (.slice B2 y.st.length d2) ∧ w'.cell? ⟨w.heap.size + 1, 4, none⟩ = some (.slice B3 y.fin.length d3)) := fun w' q => ⟨(hB7.ext q).cell 0, (hB7.ext q).cell 1, (hB7.ext q).cell 2, (hB7.ext q).cell 3, (hB7.ext q).cell 4, ((hB1.ext hyh).ext q).cell 0, ((hB1.ext hyh).ext q).cell 1, ((hB1.ext hyh).ext q).cell 2, ((hB1.ext hyh).ext q).cell 3, ((hB1.ext hyh).ext q).cell 4⟩
  go_wp2
  go_region_held3 (fun w' => w'.cell? ⟨u8, 0, none⟩ = some (.int .i64 y.n) ∧ w'.cell? ⟨u8, 1, none⟩ = some (.int .i64 y.bits) ∧ w'.cell? ⟨u8, 2, none⟩ = some (.slice E1 y.ops.length e1) ∧ w'.cell? ⟨u8, 3, none⟩ = some (.slice E2 y.st.length e2) ∧ w'.cell? ⟨u8, 4, none⟩ = some (.slice E3 y.fin.length e3) ∧ w'.cell? ⟨w.heap.size + 1, 0, none⟩ = some (.int .i64 y.n) ∧ w'.cell? ⟨w.heap.size + 1, 1, none⟩ = some (.int .i64 y.bits) ∧ w'.cell? ⟨w.heap.size + 1, 2, none⟩ = some (.slice B1 y.ops.length d1) ∧ w'.cell? ⟨w.heap.size + 1, 3, none⟩ = some (.slice B2 y.st.length d2) ∧ w'.cell? ⟨w.heap.size + 1, 4, none⟩ = some (.slice B3 y.fin.length d3))
    (first | go_keep | exact HK.out _ (by assumption))
    (first
      | (go_at_call 8; (with_reducible refine (toCompiled_own _ y _ (HH.out _ (hX3.trans (hyh.trans (Ext.refl wi).drew))) HSY.out).mono ?_); rintro e wj ⟨vj, bj1, bj2, bj3, rfl, hoj, hbj, hyj⟩; replace hyj : Ext wi wj := Ext.trans (Ext.refl wi).drew hyj)
      | (go_at_call 11; (with_reducible refine (eqCompiled_any _ vj y y _ (hH9.out.ext hyj).at_ hoj.at_ ⟨Nat.le_trans HLY.out (by decide), Nat.le_trans HLY.out (by decide), Nat.le_trans HLY2.out (by decide), Nat.le_trans HLY2.out (by decide), Nat.le_trans HLY3.out (by decide), Nat.le_trans HLY3.out (by decide)⟩).mono ?_); rintro e wk ⟨rfl, hyk⟩; replace hyj : Ext wi wk := hyj.trans hyk; rw [eqCm_self]))
  go_wp2
  go_ret
  exact ⟨rfl, hX3.trans (hyh.trans hyj)⟩
theorem gT : Tryd.prog.globalNamed "internal/strconv.uint64pow10" = some 0 := by kernel_rfl
theorem gTType : (Tryd.prog.globals[0]?).map (·.type) = some 84 := by kernel_rfl
theorem powOf (W : World) (h : laidMetH Tryd.prog Rows.fnExactFormatReportRow.laid W) : Pow W := by
  rw [MakeChecks.laidMetH_plain _ _ _ (by kernel_rfl)] at h
  exact Lib.tabIs_of_head gT gTType Tryd.underlying84 Tryd.underlying78 (by kernel_rfl) (by kernel_rfl) (laidMet.tail (laidMet.tail h))
set_option maxRecDepth 100000 in
theorem met (os : Os) (args : Array Value) : laidMetH Tryd.prog Rows.fnExactFormatReportRow.laid ((World.doorLaid Tryd.prog 400 os).forCall (fun _ _ => 0) ⟨#[], args, []⟩).memory :=
  laidMetH_of_parts3 (fuel := 8) (laidMet_of_run' 8 (by kernel_rfl) (by kernel_rfl)) (by kernel_rfl) (by kernel_rfl)
set_option maxRecDepth 100000 in
theorem lifted (os : Os) (started : os.Started) (H : Type) (enc : TypeId × Value → H) :
    ReturnsInHanded {} Tryd.checked os 3 .any (fun w args => (Rows.fnExactFormatReportSpec.pre enc Tryd.prog Tryd.f3 [] false w args ∧ laidMetH Tryd.prog Rows.fnExactFormatReportRow.laid w) ∧ sizedMet enc Tryd.prog Tryd.f3 (OpenSpec.ofChange Rows.fnExactFormatReportSpec) false w args)
      (Rows.fnExactFormatReportSpec.post enc Tryd.prog Tryd.f3 false true false false) := by
  refine returnsInHanded_of_change_and (C := Tryd.checked) (X := fun w _ => laidMetH Tryd.prog Rows.fnExactFormatReportRow.laid w) (fun _ _ _ hh h => h.of_heap hh) own started (by kernel_rfl) Tryd.func3
    (ChangeSpec.witness_shaped (enc := enc) (C := Tryd.checked) (os := os) (X := fun w _ => laidMetH Tryd.prog Rows.fnExactFormatReportRow.laid w) false (World.doorLaid Tryd.prog 400 os) #[.agg #[.int .i64 0, .int .i64 0, .int .i64 0, .slice none 0 0], .agg #[.int .i64 0, .int .i64 0, .slice none 0 0, .slice none 0 0, .slice none 0 0]] 8 rfl (World.shaped_of_RefB (by kernel_rfl) (by kernel_rfl)) (by kernel_rfl) (by kernel_rfl) (by kernel_rfl) (met os _)) ?_
  intro W base args ds gs before hval0 hW hcnd _ hL _
  have hval : ∀ (j : Nat) t v, Tryd.f3.params[j]? = some t → args[j]? = some v → Value.okWide Tryd.prog W .any base t v := hval0
  have hW' := hW
  obtain ⟨p, q, hA0, hV, rfl, hfz, hnd⟩ := hW
  have hA : DataW.TrodAll enc Tryd.prog W 0 (fun _ => true) true Tryd.f3.params.toList args.toList ds p := hA0
  rw [Tryd.params3] at hA hval
  obtain ⟨v0, vs0, d0, ds0, p0, q0, hargs, rfl, rfl, h0, r0⟩ := trodAll_cons hA
  obtain ⟨v1, vs1, d1, ds1, p1, q1, rfl, rfl, rfl, h1, r1⟩ := trodAll_cons r0
  obtain ⟨rfl, rfl, rfl⟩ := trodAll_nil r1
  obtain rfl : args = #[v0, v1] := by cases args; simp_all
  clear hA0 hval0 hfz hnd hV hcnd
  have hPW := powOf W hL
  clear hL
  obtain ⟨rt, hr0, hok0⟩ := open_lroutine (hval 0 _ v0 rfl rfl) h0
  obtain ⟨cm, hr1, hok1⟩ := open_lcompiled (hval 1 _ v1 rfl rfl) h1
  refine (walk v0 v1 rt cm W hr0 hr1 hok0 hok1 hPW _ gT).mono fun e W' ⟨he, hx⟩ => ?_
  subst he
  exact ⟨_, rfl, law_post rfl (by rw [Tryd.params3]; decide +kernel) rfl hW' rfl rfl rfl hx⟩

theorem over : Rows.FnExactFormatReportSaid :=
  OpenClaim.holds_of_wide 3 Tryd.f3 rfl rfl rfl rfl rfl rfl rfl ⟨rfl, rfl, rfl, rfl, rfl⟩ rfl rfl rfl rfl rfl (by kernel_rfl) Tryd.func3 (by kernel_rfl)
    (of_decide_eq_true (by kernel_rfl)) (by unfold Func.isWrapper; first | (rw [if_pos (by decide +kernel)]; kernel_rfl) | (rw [if_neg (by decide +kernel)]; exact ⟨rfl, rfl⟩))
    (fun os started H enc _ => lifted os started H enc)

/-- The statement: the tied card. -/
theorem proved : Rows.FnExactFormatReportCardSaid :=
  Claim7.holds_tied_plain_at .later [] [.data, .data, .data] true (true, "e208a8753cecf910d6aea6f172fc92a22a0f478734a18d83a9d7af0a1e4ca8f6") false
    over (fun _ h => by cases h) (by kernel_rfl) (fun _ h => by cases h) fnExactFormatReport_row_tie rfl ⟨rfl, rfl⟩ (by kernel_rfl) rfl
    (fun f fn hf hfn => by
      obtain rfl : f = 3 := Option.some.inj ((show Tryd.prog.funcNamed "loop.example/g00506/laws.FnExactFormatReport" = some 3 by kernel_rfl).symm.trans hf) |>.symm
      obtain rfl : fn = Tryd.f3 := (Option.some.inj (Tryd.func3.symm.trans hfn)).symm
      exact ⟨by kernel_rfl, fun j t ht => by
        rw [Tryd.params3] at ht
        have hm : t ∈ [24, 27] := by simpa using Array.mem_of_getElem? ht
        have hall : ([24, 27].all fun u => !Tryd.prog.wantsStandIn u) = true := by kernel_rfl
        exact (show Tryd.prog.wantsStandIn t = false by simpa using List.all_eq_true.1 hall t hm)⟩)
    (by kernel_rfl)
#print axioms proved

end fnExactFormatReport
end Go.Proofs.YtngpkboocpaikabDoor
