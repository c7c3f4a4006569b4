/-
  For every gate and all integers, the law FnExactPathSumStep returns true: the program's PathSumStep and the reference's return the same two numbers. No condition.
-/
import Derived.Test.YthnbenlglnmehaaPst
namespace Go.Proofs.Ythnbenlglnmehaa
open Go.ChangeShapes Go.WideShapes Go.ChangeAt Go.RowKit Go.Deep
set_option linter.unusedVariables false
namespace fnExactPathSumStep
set_option maxRecDepth 100000 in
set_option maxHeartbeats 2000000 in
theorem walk (g : Gt) (i k bit : Int) (w : World) (hok : g.ok) (hI : I64 i) (hK : I64 k) (hb : I64 bit) :
    Calls Try.prog 10 #[g.val, .int .i64 i, .int .i64 k, .int .i64 bit] w fun e w' => e = .returned (.bool true) ∧ Ext w w' := by
  have HI := Lib.hid hI
  have HK := Lib.hid hK
  clear hI hK hb hok
  go_enter Try.func10, Try.ntmps10
  go_wp2_with fail
  refine (toGate_any g _).mono ?_
  rintro e w1 ⟨rfl, hx1⟩
  have hB : Blk w1 w.heap.size 53 #[.int .i64 g.k, .int .i64 g.a, .int .i64 g.b, .int .i64 g.c] := (Blk.new w _ _).ext hx1
  have hx : Ext w w1 := Ext.trans (by repeat (first | exact Ext.refl _ | assumption | refine Ext.alloc ?_ _ | refine Ext.drewN ?_ _ | refine Ext.drew ?_)) hx1
  clear hx1
  go_wp2_with fail
  refine (spec_PathSumStep_any g i k bit _ HI.out HK.out).mono ?_
  rintro e w2 ⟨rfl, hx2⟩
  replace hB := hB.ext hx2
  replace hx := hx.trans hx2
  clear hx2
  have b0 : w2.cell? ⟨w.heap.size, 0, none⟩ = some (.int .i64 g.k) := hB.cell 0
  have b1 : w2.cell? ⟨w.heap.size, 1, none⟩ = some (.int .i64 g.a) := hB.cell 1
  have b2 : w2.cell? ⟨w.heap.size, 2, none⟩ = some (.int .i64 g.b) := hB.cell 2
  have b3 : w2.cell? ⟨w.heap.size, 3, none⟩ = some (.int .i64 g.c) := hB.cell 3
  go_wp2_with fail
  refine (toGate_any g _).mono ?_
  rintro e w3 ⟨rfl, hx3⟩
  go_wp2_with fail
  refine (impl_PathSumStep_any g i k bit _ HI.out HK.out).mono ?_
  rintro e w4 ⟨rfl, hx4⟩
  go_wp2
  go_ret
  exact ⟨rfl, (hx.trans hx3).trans hx4⟩
set_option maxRecDepth 100000 in
theorem lifted (os : Os) (started : os.Started) (H : Type) (enc : TypeId × Value → H) :
    ReturnsInHanded {} Try.checked os 10 .any (Rows.fnExactPathSumStepSpec.pre6 enc Try.prog Try.f10 Rows.fnExactPathSumStepRow.domain false) (Rows.fnExactPathSumStepSpec.post enc Try.prog Try.f10 false true false false) := by
  refine returnsInHanded_of_change (C := Try.checked) own started (by kernel_rfl) Try.func10
    (ChangeSpec.witness6 (enc := enc) (C := Try.checked) false ⟨#[], #[.agg #[.int .i64 0, .int .i64 0, .int .i64 0, .int .i64 0], .int .i64 0, .int .i64 0, .int .i64 0], []⟩ 8 (by kernel_rfl) (by kernel_rfl) (by kernel_rfl) (by kernel_rfl)) ?_
  intro W base args ds gs before hval0 hW hcnd _
  have hval : ∀ (j : Nat) t v, Try.f10.params[j]? = some t → args[j]? = some v → Value.okWide Try.prog W .any base t v := hval0
  have hW' := hW
  obtain ⟨p, q, hA0, hV, rfl, hfz, hnd⟩ := hW
  have hA : DataW.TrodAll enc Try.prog W 0 (fun _ => true) true Try.f10.params.toList args.toList ds p := hA0
  rw [Try.params10] at hA hval
  obtain ⟨v0, vs0, d0, ds0, p0, q0, hargs, rfl, rfl, h0, r0⟩ := trodAll_cons hA
  obtain ⟨v1, vs1, d1, ds1, p1, q1, rfl, rfl, rfl, h1, r1⟩ := trodAll_cons r0
  obtain ⟨v2, vs2, d2, ds2, p2, q2, rfl, rfl, rfl, h2, r2⟩ := trodAll_cons r1
  obtain ⟨v3, vs3, d3, ds3, p3, q3, rfl, rfl, rfl, h3, r3⟩ := trodAll_cons r2
  obtain ⟨rfl, rfl, rfl⟩ := trodAll_nil r3
  obtain rfl : args = #[v0, v1, v2, v3] := by cases args; simp_all
  clear hA0 hval0 hfz hnd hV hcnd
  obtain ⟨g, rfl, hok0⟩ := open_lgateV (hval 0 _ v0 rfl rfl) h0
  obtain ⟨i, rfl, rfl, rfl, wf1⟩ := open_int Try.underlying3 (hval 1 _ v1 rfl rfl) h1
  obtain ⟨k, rfl, rfl, rfl, wf2⟩ := open_int Try.underlying3 (hval 2 _ v2 rfl rfl) h2
  obtain ⟨bit, rfl, rfl, rfl, wf3⟩ := open_int Try.underlying3 (hval 3 _ v3 rfl rfl) h3
  refine (walk g i k bit W hok0 (wf_i64 wf1) (wf_i64 wf2) (wf_i64 wf3)).mono fun e W' ⟨he, hx⟩ => ?_
  subst he
  exact ⟨_, rfl, law_post rfl (by rw [Try.params10]; decide +kernel) rfl hW' rfl rfl rfl hx⟩

theorem over : Rows.fnExactPathSumStepRow.holds Try.pinned (OpenSpec.ofChange Rows.fnExactPathSumStepSpec) :=
  OpenClaim.holds_of_wide 10 Try.f10 rfl rfl rfl rfl rfl rfl rfl ⟨rfl, rfl, rfl, rfl, rfl⟩ rfl rfl rfl rfl rfl (by kernel_rfl) Try.func10 (by kernel_rfl)
    (of_decide_eq_true (by kernel_rfl)) (by unfold Func.isWrapper; first | (rw [if_pos (by decide +kernel)]; kernel_rfl) | (rw [if_neg (by decide +kernel)]; exact ⟨rfl, rfl⟩))
    (fun os started H enc _ => lifted os started H enc)

/-- The statement. -/
theorem proved : Rows.FnExactPathSumStepSaid := over
#print axioms proved

end fnExactPathSumStep
end Go.Proofs.Ythnbenlglnmehaa
