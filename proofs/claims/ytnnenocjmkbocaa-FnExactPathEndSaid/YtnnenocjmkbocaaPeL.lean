/-
  For every input, the law FnExactPathEnd returns true: the program's PathEnd and the reference's return the same, and the arguments are left alone. No condition.
-/
import Derived.Test.YtnnenocjmkbocaaPe
namespace Go.Proofs.Ytnnenocjmkbocaa
open Go.ChangeShapes Go.WideShapes Go.ChangeAt Go.RowKit Go.Deep
set_option linter.unusedVariables false
namespace fnExactPathEnd
set_option maxRecDepth 100000 in
set_option maxHeartbeats 2000000 in
theorem walk (Ags : Option Addr) (ngs cgs : Nat) (gs : List Gt) (m : Int) (ii : Int) (ch : Int) (w : World) (hgs : Rd w w.heap.size 4 Ags ngs (gcells gs)) (hmgs : ngs ≤ maxLen) (hokgs : ∀ x ∈ gs, x.ok) (hm : I64 m) (hii : I64 ii) (hch : I64 ch) :
    Calls Try.prog 3 #[.slice Ags ngs cgs, .int .i64 m, .int .i64 ii, .int .i64 ch] w fun e w' => e = .returned (.bool true) ∧ Ext w w' := by
  go_enter Try.func3, Try.ntmps3
  have hx0 : Ext w w := Ext.refl w
  go_wp2_with fail
  refine (szGateS_any Ags ngs cgs _ _ (by omega) (by omega) hmgs).mono ?_
  rintro e v ⟨rfl, rfl⟩
  by_cases hngs : (1048576 : Int) < ngs
  · rw [szF_lt (by omega)]
    go_wp2
    go_ret
    exact ⟨rfl, hx0⟩
  rw [szF_ge (by omega)]
  go_wp2_with fail
  refine (toGateS_any Ags ngs cgs gs _ (hgs.more (by omega)) (by omega)).mono ?_
  rintro e w1 ⟨v1, rfl, ho1, hy1⟩
  obtain ⟨A1, c1, rfl, hr1⟩ := own_slice ho1
  have hlt1 : ∀ g, (Value.slice A1 (ngs) c1).ownBlock = some g → w.heap.size ≤ g ∧ g < w1.heap.size := fun g hg => ho1.lt g hg
  have hz1 := hy1.size
  have hx1' := hx0.trans hy1
  have hgs_1 := hgs.up hy1 (by omega)
  go_wp2_with fail
  refine (spec_PathEnd_any A1 ngs c1 gs m ii ch _ (hr1.more (by omega)) (by omega) hii hch).mono ?_
  rintro e w2 ⟨rfl, hy2⟩
  have hz2 := hy2.size
  have hx2' := hx1'.trans hy2
  have hgs_2 := hgs_1.up hy2 (by omega)
  have hr1_2 := hr1.up hy2 (by omega)
  have ho1_2 := own_ext ho1 hy2
  go_wp2_with fail
  refine (toGateS_any Ags ngs cgs gs _ (hgs_2.more (by omega)) (by omega)).mono ?_
  rintro e w3 ⟨v3, rfl, ho3, hy3⟩
  obtain ⟨A3, c3, rfl, hr3⟩ := own_slice ho3
  have hlt3 : ∀ g, (Value.slice A3 (ngs) c3).ownBlock = some g → w2.heap.size ≤ g ∧ g < w3.heap.size := fun g hg => ho3.lt g hg
  have hz3 := hy3.size
  have hx3' := hx2'.trans hy3
  have hgs_3 := hgs_2.up hy3 (by omega)
  go_wp2_with fail
  refine (impl_PathEnd_any A3 ngs c3 gs m ii ch _ (hr3.more (by omega)) (by omega) hii hch).mono ?_
  rintro e w4 ⟨rfl, hy4⟩
  have hz4 := hy4.size
  have hx4' := hx3'.trans hy4
  have hgs_4 := hgs_3.up hy4 (by omega)
  have hr3_4 := hr3.up hy4 (by omega)
  have ho3_4 := own_ext ho3 hy4
  go_wp2_with fail
  refine (toGateS_any Ags ngs cgs gs _ (hgs_4.more (by omega)) (by omega)).mono ?_
  rintro e w5 ⟨v5, rfl, ho5, hy5⟩
  obtain ⟨A5, c5, rfl, hr5⟩ := own_slice ho5
  have hlt5 : ∀ g, (Value.slice A5 (ngs) c5).ownBlock = some g → w4.heap.size ≤ g ∧ g < w5.heap.size := fun g hg => ho5.lt g hg
  have hz5 := hy5.size
  have hx5' := hx4'.trans hy5
  have hgs_5 := hgs_4.up hy5 (by omega)
  have hr3_5 := hr3_4.up hy5 (by omega)
  have ho3_5 := own_ext ho3_4 hy5
  go_wp2_with fail
  refine (eqGateS_any A3 A5 (ngs) (ngs) c3 c5 (gs) (gs) _ (hr3_5.more (by omega)) (hr5.more (by omega)) (by omega) (by omega)).mono ?_
  rintro e w6 ⟨rfl, hy6⟩
  rw [eqL_self eqG eqG_self]
  have hz6 := hy6.size
  have hx6' := hx5'.trans hy6
  have hgs_6 := hgs_5.up hy6 (by omega)
  have hr3_6 := hr3_5.up hy6 (by omega)
  have ho3_6 := own_ext ho3_5 hy6
  have hr5_6 := hr5.up hy6 (by omega)
  have ho5_6 := own_ext ho5 hy6
  go_wp2
  go_ret
  exact ⟨rfl, hx6'⟩
set_option maxRecDepth 100000 in
theorem lifted (os : Os) (started : os.Started) (H : Type) (enc : TypeId × Value → H) :
    ReturnsInHanded {} Try.checked os 3 .any (Rows.fnExactPathEndSpec.pre6 enc Try.prog Try.f3 Rows.fnExactPathEndRow.domain false) (Rows.fnExactPathEndSpec.post enc Try.prog Try.f3 false true false false) := by
  refine returnsInHanded_of_change (C := Try.checked) own started (by kernel_rfl) Try.func3
    (ChangeSpec.witness6 (enc := enc) (C := Try.checked) false ⟨#[], #[.slice none 0 0, .int .i64 0, .int .i64 0, .int .i64 0], []⟩ 8 (by kernel_rfl) (by kernel_rfl) (by kernel_rfl) (by kernel_rfl)) ?_
  intro W base args ds gs before hval0 hW hcnd _
  have hval : ∀ (j : Nat) t v, Try.f3.params[j]? = some t → args[j]? = some v → Value.okWide Try.prog W .any base t v := hval0
  have hW' := hW
  obtain ⟨p, q, hA0, hV, rfl, hfz, hnd⟩ := hW
  have hA : DataW.TrodAll enc Try.prog W 0 (fun _ => true) true Try.f3.params.toList args.toList ds p := hA0
  rw [Try.params3] at hA hval
  obtain ⟨v0, vs0, d0, ds0, p0, q0, hargs, rfl, rfl, h0, r0⟩ := trodAll_cons hA
  obtain ⟨v1, vs1, d1, ds1, p1, q1, rfl, rfl, rfl, h1, r1⟩ := trodAll_cons r0
  obtain ⟨v2, vs2, d2, ds2, p2, q2, rfl, rfl, rfl, h2, r2⟩ := trodAll_cons r1
  obtain ⟨v3, vs3, d3, ds3, p3, q3, rfl, rfl, rfl, h3, r3⟩ := trodAll_cons r2
  obtain ⟨rfl, rfl, rfl⟩ := trodAll_nil r3
  obtain rfl : args = #[v0, v1, v2, v3] := by cases args; simp_all
  clear hA0 hval0 hfz hnd hV hcnd
  obtain ⟨Ags, ngs, cgs, gs, rfl, hnc0, hcm0, hr0, hok0⟩ := open_lgates (hval 0 _ v0 rfl rfl) h0
  obtain ⟨m, rfl, rfl, rfl, wf1⟩ := open_int Try.underlying3 (hval 1 _ v1 rfl rfl) h1
  obtain ⟨ii, rfl, rfl, rfl, wf2⟩ := open_int Try.underlying3 (hval 2 _ v2 rfl rfl) h2
  obtain ⟨ch, rfl, rfl, rfl, wf3⟩ := open_int Try.underlying3 (hval 3 _ v3 rfl rfl) h3
  refine (walk Ags ngs cgs gs m ii ch W hr0 (by omega) hok0 (wf_i64 wf1) (wf_i64 wf2) (wf_i64 wf3)).mono fun e W' ⟨he, hx⟩ => ?_
  subst he
  exact ⟨_, rfl, law_post rfl (by rw [Try.params3]; decide +kernel) rfl hW' rfl rfl rfl hx⟩

theorem over : Rows.fnExactPathEndRow.holds Try.pinned (OpenSpec.ofChange Rows.fnExactPathEndSpec) :=
  OpenClaim.holds_of_wide 3 Try.f3 rfl rfl rfl rfl rfl rfl rfl ⟨rfl, rfl, rfl, rfl, rfl⟩ rfl rfl rfl rfl rfl (by kernel_rfl) Try.func3 (by kernel_rfl)
    (of_decide_eq_true (by kernel_rfl)) (by unfold Func.isWrapper; first | (rw [if_pos (by decide +kernel)]; kernel_rfl) | (rw [if_neg (by decide +kernel)]; exact ⟨rfl, rfl⟩))
    (fun os started H enc _ => lifted os started H enc)

/-- The statement. -/
theorem proved : Rows.FnExactPathEndSaid := over
#print axioms proved

end fnExactPathEnd
end Go.Proofs.Ytnnenocjmkbocaa
