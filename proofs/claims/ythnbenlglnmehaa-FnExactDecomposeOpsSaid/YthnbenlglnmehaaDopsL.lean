/-
  For every input, the law FnExactDecomposeOps returns true: the program's DecomposeOps and the reference's return the same, no result shares memory with an argument or a second result, and the arguments are left alone. No condition.
-/
import Derived.Test.YthnbenlglnmehaaDops
import Derived.Test.YthnbenlglnmehaaOpM
namespace Go.Proofs.Ythnbenlglnmehaa
open Go.ChangeShapes Go.WideShapes Go.ChangeAt Go.RowKit Go.Deep
set_option linter.unusedVariables false
namespace fnExactDecomposeOps
set_option maxRecDepth 100000 in
set_option maxHeartbeats 2000000 in
theorem walk (Ags : Option Addr) (ngs cgs : Nat) (gs : List Oq) (w : World) (hgs : Rd w w.heap.size 8 Ags ngs (ocells gs)) (hmgs : ngs ≤ maxLen) (hokgs : ∀ x ∈ gs, x.ok) :
    Calls Try.prog 12 #[.slice Ags ngs cgs] w fun e w' => e = .returned (.bool true) ∧ Ext w w' := by
  go_enter Try.func12, Try.ntmps12
  have hx0 : Ext w w := Ext.refl w
  go_wp2_with fail
  refine (szOpS_any Ags ngs cgs _ _ (by omega) (by omega) hmgs).mono ?_
  rintro e v ⟨rfl, rfl⟩
  by_cases hngs : (1048576 : Int) < ngs
  · rw [szF_lt hngs]
    go_wp2
    go_ret
    exact ⟨rfl, hx0⟩
  rw [szF_ge hngs]
  have hL : (decOps gs).length ≤ 15728640 := by
    have h1 := decOps_len gs
    rw [hgs.len Oq.cells_len (by omega)] at h1
    omega
  go_wp2_with fail
  refine (toOpS_any Ags ngs cgs gs _ (hgs.more (by omega)) (by omega)).mono ?_
  rintro e w1 ⟨v1, rfl, ho1, hy1⟩
  obtain ⟨A1, c1, rfl, hr1⟩ := own_slice ho1
  have hlt1 : ∀ g, (Value.slice A1 (ngs) c1).ownBlock = some g → w.heap.size ≤ g ∧ g < w1.heap.size := fun g hg => ho1.lt g hg
  have hz1 := hy1.size
  have hx1' := hx0.trans hy1
  have hgs_1 := hgs.up hy1 (by omega)
  go_wp2_with fail
  refine (spec_DecomposeOps_any A1 ngs c1 gs _ (hr1.more (by omega)) (by omega)).mono ?_
  rintro e w2 ⟨v2, rfl, ho2, hy2⟩
  obtain ⟨A2, c2, rfl, hr2⟩ := own_slice ho2
  have hlt2 : ∀ g, (Value.slice A2 ((decOps gs).length) c2).ownBlock = some g → w1.heap.size ≤ g ∧ g < w2.heap.size := fun g hg => ho2.lt g hg
  have hz2 := hy2.size
  have hx2' := hx1'.trans hy2
  have hgs_2 := hgs_1.up hy2 (by omega)
  go_wp2_with fail
  refine (toOpS_any Ags ngs cgs gs _ (hgs_2.more (by omega)) (by omega)).mono ?_
  rintro e w3 ⟨v3, rfl, ho3, hy3⟩
  obtain ⟨A3, c3, rfl, hr3⟩ := own_slice ho3
  have hlt3 : ∀ g, (Value.slice A3 (ngs) c3).ownBlock = some g → w2.heap.size ≤ g ∧ g < w3.heap.size := fun g hg => ho3.lt g hg
  have hz3 := hy3.size
  have hx3' := hx2'.trans hy3
  have hgs_3 := hgs_2.up hy3 (by omega)
  have hr2_3 := hr2.up hy3 (by omega)
  go_wp2_with fail
  refine (impl_DecomposeOps_any A3 ngs c3 gs _ (hr3.more (by omega)) (by omega)).mono ?_
  rintro e w4 ⟨v4, rfl, ho4, hy4⟩
  obtain ⟨A4, c4, rfl, hr4⟩ := own_slice ho4
  have hlt4 : ∀ g, (Value.slice A4 ((decOps gs).length) c4).ownBlock = some g → w3.heap.size ≤ g ∧ g < w4.heap.size := fun g hg => ho4.lt g hg
  have hz4 := hy4.size
  have hx4' := hx3'.trans hy4
  have hgs_4 := hgs_3.up hy4 (by omega)
  have hr2_4 := hr2_3.up hy4 (by omega)
  have hr3_4 := hr3.up hy4 (by omega)
  have ho3_4 := own_ext ho3 hy4
  go_wp2_with fail
  refine (eqOpS_any A4 A2 ((decOps gs).length) ((decOps gs).length) c4 c2 ((decOps gs)) ((decOps gs)) _ (hr4.more (by omega)) (hr2_4.more (by omega)) (by omega) (by omega)).mono ?_
  rintro e w5 ⟨rfl, hy5⟩
  rw [eqL_self eqO eqO_self]
  have hz5 := hy5.size
  have hx5' := hx4'.trans hy5
  have hgs_5 := hgs_4.up hy5 (by omega)
  have hr2_5 := hr2_4.up hy5 (by omega)
  have hr3_5 := hr3_4.up hy5 (by omega)
  have ho3_5 := own_ext ho3_4 hy5
  have hr4_5 := hr4.up hy5 (by omega)
  have ho4_5 := own_ext ho4 hy5
  go_wp2_with fail
  refine (toOpS_any Ags ngs cgs gs _ (hgs_5.more (by omega)) (by omega)).mono ?_
  rintro e w6 ⟨v6, rfl, ho6, hy6⟩
  obtain ⟨A6, c6, rfl, hr6⟩ := own_slice ho6
  have hlt6 : ∀ g, (Value.slice A6 (ngs) c6).ownBlock = some g → w5.heap.size ≤ g ∧ g < w6.heap.size := fun g hg => ho6.lt g hg
  have hz6 := hy6.size
  have hx6' := hx5'.trans hy6
  have hgs_6 := hgs_5.up hy6 (by omega)
  have hr2_6 := hr2_5.up hy6 (by omega)
  have hr3_6 := hr3_5.up hy6 (by omega)
  have ho3_6 := own_ext ho3_5 hy6
  have hr4_6 := hr4_5.up hy6 (by omega)
  have ho4_6 := own_ext ho4_5 hy6
  go_wp2_with fail
  refine (eqOpS_any A3 A6 (ngs) (ngs) c3 c6 (gs) (gs) _ (hr3_6.more (by omega)) (hr6.more (by omega)) (by omega) (by omega)).mono ?_
  rintro e w7 ⟨rfl, hy7⟩
  rw [eqL_self eqO eqO_self]
  have hz7 := hy7.size
  have hx7' := hx6'.trans hy7
  have hgs_7 := hgs_6.up hy7 (by omega)
  have hr2_7 := hr2_6.up hy7 (by omega)
  have hr3_7 := hr3_6.up hy7 (by omega)
  have ho3_7 := own_ext ho3_6 hy7
  have hr4_7 := hr4_6.up hy7 (by omega)
  have ho4_7 := own_ext ho4_6 hy7
  have hr6_7 := hr6.up hy7 (by omega)
  have ho6_7 := own_ext ho6 hy7
  go_wp2_with fail
  refine (markOpS_any A3 (ngs) c3 _ (1) _ _ ho3_7 (by omega) (by omega)).mono ?_
  rintro e w8 ⟨rfl, hk8, hg8⟩
  have hz8 := hg8.size
  have hrow8 : ∀ g, (Value.slice A3 ngs c3).ownBlock = some g → w2.heap.size ≤ g ∧ g < w3.heap.size := hlt3
  have hx8' := hx7'.grown hg8 (fun g hg => by have := hrow8 g hg; omega)
  have hgs_8 := hgs_7.grown hg8 (by omega) (fun g hg => by have := hrow8 g hg; omega)
  have hr2_8 := hr2_7.grown hg8 (by omega) (fun g hg => by have := hrow8 g hg; omega)
  have ho4_8 := own_kept ho4_7 hg8 (fun g hg => by have := hrow8 g hg; omega)
  have hr4_8 := Rd.bd (Rd.own ho4_8) hr4_7 trivial
  have hm8_8 := Rd.bd (Rd.own hk8) hr3_7 trivial
  go_wp2_with fail
  refine (eqOpS_any A4 A2 ((decOps gs).length) ((decOps gs).length) c4 c2 ((decOps gs)) ((decOps gs)) _ (hr4_8.more (by omega)) (hr2_8.more (by omega)) (by omega) (by omega)).mono ?_
  rintro e w9 ⟨rfl, hy9⟩
  rw [eqL_self eqO eqO_self]
  have hz9 := hy9.size
  have hx9' := hx8'.trans hy9
  have hgs_9 := hgs_8.up hy9 (by omega)
  have hr2_9 := hr2_8.up hy9 (by omega)
  have hm8_9 := hm8_8.up hy9 (by omega)
  have hk8_9 := own_ext hk8 hy9
  have hr4_9 := hr4_8.up hy9 (by omega)
  have ho4_9 := own_ext ho4_8 hy9
  go_wp2_with fail
  refine (markOpS_any A4 ((decOps gs).length) c4 _ (1) _ _ ho4_9 (by omega) (by omega)).mono ?_
  rintro e w10 ⟨rfl, hk10, hg10⟩
  have hz10 := hg10.size
  have hrow10 : ∀ g, (Value.slice A4 (decOps gs).length c4).ownBlock = some g → w3.heap.size ≤ g ∧ g < w4.heap.size := hlt4
  have hx10' := hx9'.grown hg10 (fun g hg => by have := hrow10 g hg; omega)
  have hgs_10 := hgs_9.grown hg10 (by omega) (fun g hg => by have := hrow10 g hg; omega)
  have hr2_10 := hr2_9.grown hg10 (by omega) (fun g hg => by have := hrow10 g hg; omega)
  have hm8_10 := hm8_9.grown hg10 (by omega) (fun g hg => by have := hrow10 g hg; omega)
  have hm10_10 := Rd.bd (Rd.own hk10) hr4_9 trivial
  go_wp2_with fail
  refine (heldOpS_any A4 ((decOps gs).length) c4 (1) _ (hm10_10.more (by omega)) (by omega) (by omega)).mono ?_
  rintro e v ⟨rfl, rfl⟩
  go_wp2_with fail
  refine (toOpS_any Ags ngs cgs gs _ (hgs_10.more (by omega)) (by omega)).mono ?_
  rintro e w11 ⟨v11, rfl, ho11, hy11⟩
  obtain ⟨A11, c11, rfl, hr11⟩ := own_slice ho11
  have hlt11 : ∀ g, (Value.slice A11 (ngs) c11).ownBlock = some g → w10.heap.size ≤ g ∧ g < w11.heap.size := fun g hg => ho11.lt g hg
  have hz11 := hy11.size
  have hx11' := hx10'.trans hy11
  have hgs_11 := hgs_10.up hy11 (by omega)
  have hr2_11 := hr2_10.up hy11 (by omega)
  have hm8_11 := hm8_10.up hy11 (by omega)
  have hm10_11 := hm10_10.up hy11 (by omega)
  have hk10_11 := own_ext hk10 hy11
  go_wp2_with fail
  refine (impl_DecomposeOps_any A11 ngs c11 gs _ (hr11.more (by omega)) (by omega)).mono ?_
  rintro e w12 ⟨v12, rfl, ho12, hy12⟩
  obtain ⟨A12, c12, rfl, hr12⟩ := own_slice ho12
  have hlt12 : ∀ g, (Value.slice A12 ((decOps gs).length) c12).ownBlock = some g → w11.heap.size ≤ g ∧ g < w12.heap.size := fun g hg => ho12.lt g hg
  have hz12 := hy12.size
  have hx12' := hx11'.trans hy12
  have hgs_12 := hgs_11.up hy12 (by omega)
  have hr2_12 := hr2_11.up hy12 (by omega)
  have hm10_12 := hm10_11.up hy12 (by omega)
  have hk10_12 := own_ext hk10_11 hy12
  go_wp2_with fail
  refine (eqOpS_any A12 A2 ((decOps gs).length) ((decOps gs).length) c12 c2 ((decOps gs)) ((decOps gs)) _ (hr12.more (by omega)) (hr2_12.more (by omega)) (by omega) (by omega)).mono ?_
  rintro e w13 ⟨rfl, hy13⟩
  rw [eqL_self eqO eqO_self]
  have hz13 := hy13.size
  have hx13' := hx12'.trans hy13
  have hgs_13 := hgs_12.up hy13 (by omega)
  have hr2_13 := hr2_12.up hy13 (by omega)
  have hm10_13 := hm10_12.up hy13 (by omega)
  have hk10_13 := own_ext hk10_12 hy13
  have hr12_13 := hr12.up hy13 (by omega)
  have ho12_13 := own_ext ho12 hy13
  go_wp2_with fail
  refine (heldOpS_any A4 ((decOps gs).length) c4 (1) _ (hm10_13.more (by omega)) (by omega) (by omega)).mono ?_
  rintro e v ⟨rfl, rfl⟩
  go_wp2
  go_ret
  exact ⟨rfl, hx13'⟩
set_option maxRecDepth 100000 in
theorem lifted (os : Os) (started : os.Started) (H : Type) (enc : TypeId × Value → H) :
    ReturnsInHanded {} Try.checked os 12 .any (Rows.fnExactDecomposeOpsSpec.pre6 enc Try.prog Try.f12 Rows.fnExactDecomposeOpsRow.domain false) (Rows.fnExactDecomposeOpsSpec.post enc Try.prog Try.f12 false true false false) := by
  refine returnsInHanded_of_change (C := Try.checked) own started (by kernel_rfl) Try.func12
    (ChangeSpec.witness6 (enc := enc) (C := Try.checked) false ⟨#[], #[.slice none 0 0], []⟩ 8 (by kernel_rfl) (by kernel_rfl) (by kernel_rfl) (by kernel_rfl)) ?_
  intro W base args ds gs before hval0 hW hcnd _
  have hval : ∀ (j : Nat) t v, Try.f12.params[j]? = some t → args[j]? = some v → Value.okWide Try.prog W .any base t v := hval0
  have hW' := hW
  obtain ⟨p, q, hA0, hV, rfl, hfz, hnd⟩ := hW
  have hA : DataW.TrodAll enc Try.prog W 0 (fun _ => true) true Try.f12.params.toList args.toList ds p := hA0
  rw [Try.params12] at hA hval
  obtain ⟨v0, vs0, d0, ds0, p0, q0, hargs, rfl, rfl, h0, r0⟩ := trodAll_cons hA
  obtain ⟨rfl, rfl, rfl⟩ := trodAll_nil r0
  obtain rfl : args = #[v0] := by cases args; simp_all
  clear hA0 hval0 hfz hnd hV hcnd
  obtain ⟨Ags, ngs, cgs, gs, rfl, hnc0, hcm0, hr0, hok0⟩ := open_lops (hval 0 _ v0 rfl rfl) h0
  refine (walk Ags ngs cgs gs W hr0 (by omega) hok0).mono fun e W' ⟨he, hx⟩ => ?_
  subst he
  exact ⟨_, rfl, law_post rfl (by rw [Try.params12]; decide +kernel) rfl hW' rfl rfl rfl hx⟩

theorem over : Rows.fnExactDecomposeOpsRow.holds Try.pinned (OpenSpec.ofChange Rows.fnExactDecomposeOpsSpec) :=
  OpenClaim.holds_of_wide 12 Try.f12 rfl rfl rfl rfl rfl rfl rfl ⟨rfl, rfl, rfl, rfl, rfl⟩ rfl rfl rfl rfl rfl (by kernel_rfl) Try.func12 (by kernel_rfl)
    (of_decide_eq_true (by kernel_rfl)) (by unfold Func.isWrapper; first | (rw [if_pos (by decide +kernel)]; kernel_rfl) | (rw [if_neg (by decide +kernel)]; exact ⟨rfl, rfl⟩))
    (fun os started H enc _ => lifted os started H enc)

/-- The statement. -/
theorem proved : Rows.FnExactDecomposeOpsSaid := over
#print axioms proved

end fnExactDecomposeOps
end Go.Proofs.Ythnbenlglnmehaa
