/-
  For every input, the law FnExactFormatCompiled returns true. The tied card: of the row's list the gates' names are read. Printed by gen_fcl.py.
-/
import Derived.Test.YtaiaaomjphnbfaaDoorFc
import Derived.Test.YtaiaaomjphnbfaaDoorLawV
import Derived.Test.YtaiaaomjphnbfaaDoorCards
import Derived.Test.YtaiaaomjphnbfaaDoorTie
import Derived.LaidMore
import Derived.MakeChecks
import Derived.Stop.Joined
import Derived.SevenTiedAt
namespace Go.Proofs.YtaiaaomjphnbfaaDoor
open Go.ChangeShapes Go.WideShapes Go.ChangeAt Go.RowKit Go.Deep
set_option linter.unusedVariables false
namespace fnExactFormatCompiled
set_option maxRecDepth 100000 in
set_option maxHeartbeats 4000000 in
theorem walk (u : Value) (y : Cm) (w : World) (h' : CmAt w w.heap.size u y) (hok' : y.ok) (hg : GN w) :
    Calls Tryd.prog 3 #[u] w fun e w' => e = .returned (.bool true) ∧ Ext w w' := by
  obtain ⟨B1, B2, B3, d1, d2, d3, rfl, k1, k2, k3⟩ := h'
  have HH : Hid (∀ w', Ext w w' → CmAt w' w'.heap.size (.agg #[.int .i64 y.n, .int .i64 y.bits, .slice B1 y.ops.length d1, .slice B2 y.st.length d2, .slice B3 y.fin.length d3]) y) := fun w' hx => ⟨B1, B2, B3, d1, d2, d3, rfl, k1.ext hx, k2.ext hx, k3.ext hx⟩
  clear k1 k2 k3
  have HOK' := Lib.hid hok'
  have HGN := Lib.hid hg
  clear hok' hg
  go_enter Tryd.func3, Tryd.ntmps3
  go_upto_region 1 with (fail)
  have hB1 : Blk (w.alloc (.cells #[.int .i64 y.n, .int .i64 y.bits, .slice B1 y.ops.length d1, .slice B2 y.st.length d2, .slice B3 y.fin.length d3] 25)) w.heap.size 25 #[.int .i64 y.n, .int .i64 y.bits, .slice B1 y.ops.length d1, .slice B2 y.st.length d2, .slice B3 y.fin.length d3] := Blk.new _ _ _
  have hX0 : Ext w (w.alloc (.cells #[.int .i64 y.n, .int .i64 y.bits, .slice B1 y.ops.length d1, .slice B2 y.st.length d2, .slice B3 y.fin.length d3] 25)) := (Ext.refl w).alloc _
  generalize (w.alloc (.cells #[.int .i64 y.n, .int .i64 y.bits, .slice B1 y.ops.length d1, .slice B2 y.st.length d2, .slice B3 y.fin.length d3] 25)) = Wb at *
  have HB1 := Lib.hid hB1
  have d10 : Wb.cell? ⟨w.heap.size, 0, none⟩ = some (.int .i64 y.n) := hB1.cell 0
  have d11 : Wb.cell? ⟨w.heap.size, 1, none⟩ = some (.int .i64 y.bits) := hB1.cell 1
  have d12 : Wb.cell? ⟨w.heap.size, 2, none⟩ = some (.slice B1 y.ops.length d1) := hB1.cell 2
  have d13 : Wb.cell? ⟨w.heap.size, 3, none⟩ = some (.slice B2 y.st.length d2) := hB1.cell 3
  have d14 : Wb.cell? ⟨w.heap.size, 4, none⟩ = some (.slice B3 y.fin.length d3) := hB1.cell 4
  clear hB1
  go_wp2_with fail
  refine (szCompiled_any _ y _ _ (HH.out _ hX0) (by omega) (by omega) HOK'.out).mono ?_
  rintro e w3 ⟨rfl, hy3⟩
  clear d10 d11 d12 d13 d14
  by_cases hbig2 : (1048576 : Int) < ((y.ops.length + y.st.length + y.fin.length : Nat) : Int)
  · rw [szF_lt hbig2]
    go_wp2
    go_ret
    exact ⟨rfl, hX0.trans hy3⟩
  rw [szF_ge hbig2]
  have hge2 : ¬ ((1048576 : Int) - ((y.ops.length + y.st.length + y.fin.length : Nat) : Int) < 0) := by omega
  have HSY : Hid y.small := by unfold Hid Cm.small; omega
  have hX3 := hX0.trans hy3
  clear hbig2
  have hB1 := HB1.out.ext hy3
  clear HB1 hX0 hy3
  have d10 : w3.cell? ⟨w.heap.size, 0, none⟩ = some (.int .i64 y.n) := hB1.cell 0
  have d11 : w3.cell? ⟨w.heap.size, 1, none⟩ = some (.int .i64 y.bits) := hB1.cell 1
  have d12 : w3.cell? ⟨w.heap.size, 2, none⟩ = some (.slice B1 y.ops.length d1) := hB1.cell 2
  have d13 : w3.cell? ⟨w.heap.size, 3, none⟩ = some (.slice B2 y.st.length d2) := hB1.cell 3
  have d14 : w3.cell? ⟨w.heap.size, 4, none⟩ = some (.slice B3 y.fin.length d3) := hB1.cell 4
  go_wp2_with fail
  refine (toCompiled_own _ y _ (HH.out _ hX3) HSY.out).mono ?_
  rintro e w9 ⟨v9, b91, b92, b93, rfl, ho9, hb9, hy5⟩
  clear d10 d11 d12 d13 d14
  clear hge2
  go_wp2_with fail
  refine (spec_FormatCompiled_own v9 y _ ho9 HSY.out).mono ?_
  rintro e wd ⟨rfl, hy6⟩
  replace hy6 : Ext w3 wd := hy5.trans hy6
  clear hy5 ho9 hb9
  have d10 : wd.cell? ⟨w.heap.size, 0, none⟩ = some (.int .i64 y.n) := (hB1.ext hy6).cell 0
  have d11 : wd.cell? ⟨w.heap.size, 1, none⟩ = some (.int .i64 y.bits) := (hB1.ext hy6).cell 1
  have d12 : wd.cell? ⟨w.heap.size, 2, none⟩ = some (.slice B1 y.ops.length d1) := (hB1.ext hy6).cell 2
  have d13 : wd.cell? ⟨w.heap.size, 3, none⟩ = some (.slice B2 y.st.length d2) := (hB1.ext hy6).cell 3
  have d14 : wd.cell? ⟨w.heap.size, 4, none⟩ = some (.slice B3 y.fin.length d3) := (hB1.ext hy6).cell 4
  go_wp2_with fail
  refine (toCompiled_own _ y _ (HH.out _ (hX3.trans hy6)) HSY.out).mono ?_
  rintro e we ⟨ve, be1, be2, be3, rfl, hoe, hbe, hye⟩
  replace hye := hy6.trans hye
  clear d10 d11 d12 d13 d14
  obtain ⟨E1, E2, E3, e1, e2, e3, rfl, _⟩ := id hoe
  have hB7 : Blk (we.alloc (.cells #[.int .i64 y.n, .int .i64 y.bits, .slice E1 y.ops.length e1, .slice E2 y.st.length e2, .slice E3 y.fin.length e3] 30)) we.heap.size 30 #[.int .i64 y.n, .int .i64 y.bits, .slice E1 y.ops.length e1, .slice E2 y.st.length e2, .slice E3 y.fin.length e3] := Blk.new _ _ _
  have hH7 := hoe.ext ((Ext.refl we).alloc (.cells #[.int .i64 y.n, .int .i64 y.bits, .slice E1 y.ops.length e1, .slice E2 y.st.length e2, .slice E3 y.fin.length e3] 30))
  have hy7 : Ext w3 (we.alloc (.cells #[.int .i64 y.n, .int .i64 y.bits, .slice E1 y.ops.length e1, .slice E2 y.st.length e2, .slice E3 y.fin.length e3] 30)) := hye.alloc _
  go_upto_region 7 with (fail)
  generalize (we.alloc (.cells #[.int .i64 y.n, .int .i64 y.bits, .slice E1 y.ops.length e1, .slice E2 y.st.length e2, .slice E3 y.fin.length e3] 30)) = wf at *
  generalize we.heap.size = u8 at *
  clear hoe hbe hye hy6
  have q0 : wf.cell? ⟨u8, 0, none⟩ = some (.int .i64 y.n) := hB7.cell 0
  have q1 : wf.cell? ⟨u8, 1, none⟩ = some (.int .i64 y.bits) := hB7.cell 1
  have q2 : wf.cell? ⟨u8, 2, none⟩ = some (.slice E1 y.ops.length e1) := hB7.cell 2
  have q3 : wf.cell? ⟨u8, 3, none⟩ = some (.slice E2 y.st.length e2) := hB7.cell 3
  have q4 : wf.cell? ⟨u8, 4, none⟩ = some (.slice E3 y.fin.length e3) := hB7.cell 4
  go_wp2_with fail
  refine (impl_FormatCompiled_at _ y _ hH7.at_ HSY.out (HGN.out.ext (hX3.trans hy7))).mono ?_
  rintro e wi ⟨rfl, hyg⟩
  replace hB7 := hB7.ext hyg
  have hH9 := Lib.hid (hH7.ext hyg)
  replace hyh := hy7.trans hyg
  clear hy7 hyg hH7 q0 q1 q2 q3 q4
  have p0 : wi.cell? ⟨u8, 0, none⟩ = some (.int .i64 y.n) := hB7.cell 0
  have p1 : wi.cell? ⟨u8, 1, none⟩ = some (.int .i64 y.bits) := hB7.cell 1
  have p2 : wi.cell? ⟨u8, 2, none⟩ = some (.slice E1 y.ops.length e1) := hB7.cell 2
  have p3 : wi.cell? ⟨u8, 3, none⟩ = some (.slice E2 y.st.length e2) := hB7.cell 3
  have p4 : wi.cell? ⟨u8, 4, none⟩ = some (.slice E3 y.fin.length e3) := hB7.cell 4
  have q0 : wi.cell? ⟨w.heap.size, 0, none⟩ = some (.int .i64 y.n) := (hB1.ext hyh).cell 0
  have q1 : wi.cell? ⟨w.heap.size, 1, none⟩ = some (.int .i64 y.bits) := (hB1.ext hyh).cell 1
  have q2 : wi.cell? ⟨w.heap.size, 2, none⟩ = some (.slice B1 y.ops.length d1) := (hB1.ext hyh).cell 2
  have q3 : wi.cell? ⟨w.heap.size, 3, none⟩ = some (.slice B2 y.st.length d2) := (hB1.ext hyh).cell 3
  have q4 : wi.cell? ⟨w.heap.size, 4, none⟩ = some (.slice B3 y.fin.length d3) := (hB1.ext hyh).cell 4
  have HK : Hid (∀ w', Ext wi w' → w'.cell? ⟨u8, 0, none⟩ = some (.int .i64 y.n) ∧ w'.cell? ⟨u8, 1, none⟩ = some (.int .i64 y.bits) ∧ w'.cell? ⟨u8, 2, none⟩ = some (.slice E1 y.ops.length e1) ∧ w'.cell? ⟨u8, 3, none⟩ = some (.slice E2 y.st.length e2) ∧ w'.cell? ⟨u8, 4, none⟩ = some (.slice E3 y.fin.length e3) ∧ w'.cell? ⟨w.heap.size, 0, none⟩ = some (.int .i64 y.n) ∧ w'.cell? ⟨w.heap.size, 1, none⟩ = some (.int .i64 y.bits) ∧ w'.cell? ⟨w.heap.size, 2, none⟩ = some (.slice B1 y.ops.length d1) ∧ w'.cell? ⟨w.heap.size, 3, none⟩ = some (.slice B2 y.st.length d2) ∧ w'.cell? ⟨w.heap.size, 4, none⟩ = some (.slice B3 y.fin.length d3)) := fun w' q => ⟨(hB7.ext q).cell 0, (hB7.ext q).cell 1, (hB7.ext q).cell 2, (hB7.ext q).cell 3, (hB7.ext q).cell 4, ((hB1.ext hyh).ext q).cell 0, ((hB1.ext hyh).ext q).cell 1, ((hB1.ext hyh).ext q).cell 2, ((hB1.ext hyh).ext q).cell 3, ((hB1.ext hyh).ext q).cell 4⟩
  have HL8 : Hid (y.ops.length ≤ 100000000 ∧ y.st.length ≤ 100000000 ∧ y.fin.length ≤ 100000000) := by
    obtain ⟨s1, s2, s3⟩ := HSY.out
    exact ⟨by omega, by omega, by omega⟩
  go_wp2
  go_region_held3 (fun w' => w'.cell? ⟨u8, 0, none⟩ = some (.int .i64 y.n) ∧ w'.cell? ⟨u8, 1, none⟩ = some (.int .i64 y.bits) ∧ w'.cell? ⟨u8, 2, none⟩ = some (.slice E1 y.ops.length e1) ∧ w'.cell? ⟨u8, 3, none⟩ = some (.slice E2 y.st.length e2) ∧ w'.cell? ⟨u8, 4, none⟩ = some (.slice E3 y.fin.length e3) ∧ w'.cell? ⟨w.heap.size, 0, none⟩ = some (.int .i64 y.n) ∧ w'.cell? ⟨w.heap.size, 1, none⟩ = some (.int .i64 y.bits) ∧ w'.cell? ⟨w.heap.size, 2, none⟩ = some (.slice B1 y.ops.length d1) ∧ w'.cell? ⟨w.heap.size, 3, none⟩ = some (.slice B2 y.st.length d2) ∧ w'.cell? ⟨w.heap.size, 4, none⟩ = some (.slice B3 y.fin.length d3))
    (first | go_keep | exact HK.out _ (by assumption))
    (first
      | (go_at_call 6; (with_reducible refine (toCompiled_own _ y _ (HH.out _ (hX3.trans (hyh.trans (Ext.refl wi).drew))) HSY.out).mono ?_); rintro e wj ⟨vj, bj1, bj2, bj3, rfl, hoj, hbj, hyj⟩; replace hyj : Ext wi wj := Ext.trans (Ext.refl wi).drew hyj)
      | (go_at_call 8; (with_reducible refine (eqCompiled_any _ vj y y _ (hH9.out.ext hyj).at_ hoj.at_ ⟨HL8.out.1, HL8.out.1, HL8.out.2.1, HL8.out.2.1, HL8.out.2.2, HL8.out.2.2⟩).mono ?_); rintro e wk ⟨rfl, hyk⟩; replace hyj : Ext wi wk := hyj.trans hyk; rw [eqCm_self]))
  go_wp2
  go_ret
  exact ⟨rfl, hX3.trans (hyh.trans hyj)⟩
theorem namesOf (W : World) (h : laidMetH Tryd.prog Rows.fnExactFormatCompiledRow.laid W) : GN W := by
  rw [MakeChecks.laidMetH_plain _ _ _ (by kernel_rfl)] at h
  exact gn_of_reads (Lib.laidMet.reads h (List.mem_cons_of_mem _ (List.mem_cons_of_mem _ (List.mem_cons_of_mem _ List.mem_cons_self))))
set_option maxRecDepth 100000 in
theorem met (os : Os) (args : Array Value) : laidMetH Tryd.prog Rows.fnExactFormatCompiledRow.laid ((World.doorLaid Tryd.prog 400 os).forCall (fun _ _ => 0) ⟨#[], args, []⟩).memory :=
  laidMetH_of_parts3 (fuel := 8) (laidMet_of_run' 8 (by kernel_rfl) (by kernel_rfl)) (by kernel_rfl) (by kernel_rfl)
set_option maxRecDepth 100000 in
theorem lifted (os : Os) (started : os.Started) (H : Type) (enc : TypeId × Value → H) :
    ReturnsInHanded {} Tryd.checked os 3 .any (fun w args => (Rows.fnExactFormatCompiledSpec.pre enc Tryd.prog Tryd.f3 [] false w args ∧ laidMetH Tryd.prog Rows.fnExactFormatCompiledRow.laid w) ∧ sizedMet enc Tryd.prog Tryd.f3 (OpenSpec.ofChange Rows.fnExactFormatCompiledSpec) false w args)
      (Rows.fnExactFormatCompiledSpec.post enc Tryd.prog Tryd.f3 false true false false) := by
  refine returnsInHanded_of_change_and (C := Tryd.checked) (X := fun w _ => laidMetH Tryd.prog Rows.fnExactFormatCompiledRow.laid w) (fun _ _ _ hh h => h.of_heap hh) own started (by kernel_rfl) Tryd.func3
    (ChangeSpec.witness_shaped (enc := enc) (C := Tryd.checked) (os := os) (X := fun w _ => laidMetH Tryd.prog Rows.fnExactFormatCompiledRow.laid w) false (World.doorLaid Tryd.prog 400 os) #[.agg #[.int .i64 0, .int .i64 0, .slice none 0 0, .slice none 0 0, .slice none 0 0]] 8 rfl (World.shaped_of_RefB (by kernel_rfl) (by kernel_rfl)) (by kernel_rfl) (by kernel_rfl) (by kernel_rfl) (met os _)) ?_
  intro W base args ds gs before hval0 hW hcnd _ hL _
  have hval : ∀ (j : Nat) t v, Tryd.f3.params[j]? = some t → args[j]? = some v → Value.okWide Tryd.prog W .any base t v := hval0
  have hW' := hW
  obtain ⟨p, q, hA0, hV, rfl, hfz, hnd⟩ := hW
  have hA : DataW.TrodAll enc Tryd.prog W 0 (fun _ => true) true Tryd.f3.params.toList args.toList ds p := hA0
  rw [Tryd.params3] at hA hval
  obtain ⟨v0, vs0, d0, ds0, p0, q0, hargs, rfl, rfl, h0, r0⟩ := trodAll_cons hA
  obtain ⟨rfl, rfl, rfl⟩ := trodAll_nil r0
  obtain rfl : args = #[v0] := by cases args; simp_all
  obtain ⟨_, _, _, _, gd, _, rfl, _⟩ := trodVars_one hV
  clear hV
  clear hA0 hval0 hfz hnd hcnd
  have hGN := namesOf W hL
  clear hL
  obtain ⟨cm, hr1, hok1⟩ := open_lcompiled (hval 0 _ v0 rfl rfl) h0
  refine (walk v0 cm W hr1 hok1 hGN).mono fun e W' ⟨he, hx⟩ => ?_
  subst he
  exact ⟨_, rfl, law_postV (by kernel_rfl) (by rw [Tryd.params3]; decide +kernel) rfl hW' rfl rfl rfl hx⟩

theorem over : Rows.FnExactFormatCompiledSaid :=
  OpenClaim.holds_of_wide 3 Tryd.f3 rfl rfl rfl rfl rfl rfl rfl ⟨rfl, rfl, rfl, rfl, rfl⟩ rfl rfl rfl rfl rfl (by kernel_rfl) Tryd.func3 (by kernel_rfl)
    (of_decide_eq_true (by kernel_rfl)) (by unfold Func.isWrapper; first | (rw [if_pos (by decide +kernel)]; kernel_rfl) | (rw [if_neg (by decide +kernel)]; exact ⟨rfl, rfl⟩))
    (fun os started H enc _ => lifted os started H enc)

/-- The statement: the tied card. -/
theorem proved : Rows.FnExactFormatCompiledCardSaid :=
  Claim7.holds_tied_plain_at .later [] [.data, .data, .data, .data] true (true, "602b7905d4926290b094a8ffffc2dede4bc32577a0bc7b610b8d1415591b52eb") false
    over (fun _ h => by cases h) (by kernel_rfl) (fun _ h => by cases h) fnExactFormatCompiled_row_tie rfl ⟨rfl, rfl⟩ (by kernel_rfl) rfl
    (fun f fn hf hfn => by
      obtain rfl : f = 3 := Option.some.inj ((show Tryd.prog.funcNamed "loop.example/g00506/laws.FnExactFormatCompiled" = some 3 by kernel_rfl).symm.trans hf) |>.symm
      obtain rfl : fn = Tryd.f3 := (Option.some.inj (Tryd.func3.symm.trans hfn)).symm
      exact ⟨by kernel_rfl, fun j t ht => by
        rw [Tryd.params3] at ht
        have hm : t ∈ [25] := by simpa using Array.mem_of_getElem? ht
        have hall : ([25].all fun u => !Tryd.prog.wantsStandIn u) = true := by kernel_rfl
        exact (show Tryd.prog.wantsStandIn t = false by simpa using List.all_eq_true.1 hall t hm)⟩)
    (by kernel_rfl)
#print axioms proved

end fnExactFormatCompiled
end Go.Proofs.YtaiaaomjphnbfaaDoor
