/-
  For every code, the law FnAllowed returns true: executable gates respect the graph and are not changed by orientation. No condition.
-/
import Derived.Test.YtfbalkbcglejjaaAlw
import Derived.Test.YtfbalkbcglejjaaDrawY
import Derived.Test.YtfbalkbcglejjaaDrawP
import Derived.Test.YtfbalkbcglejjaaCmq
namespace Go.Proofs.Ytfbalkbcglejjaa
open Go.ChangeShapes Go.WideShapes Go.ChangeAt Go.RowKit Go.Deep
set_option linter.unusedVariables false
namespace fnAllowed
set_option maxRecDepth 100000 in
set_option maxHeartbeats 4000000 in
theorem walk (A : Option Addr) (n c : Nat) (bs : List Int) (w : World) (h : Rd w w.heap.size 1 A n (u8cs bs)) (hm : n ≤ maxLen) :
    Calls Try.prog 3 #[.slice A n c] w fun e w' => e = .returned (.bool true) ∧ Ext w w' := by
  go_enter Try.func3, Try.ntmps3
  go_wp2_with fail
  refine (big_any A n c _ hm).mono ?_
  rintro e w0 ⟨rfl, rfl⟩
  by_cases hbig : 1048576 < n
  · have hd : decide (1048576 < n) = true := by simpa using hbig
    go_wp2
    go_ret
    exact ⟨rfl, Ext.refl _⟩
  have hd : decide (1048576 < n) = false := by simpa using hbig
  go_wp2_with fail
  refine (DrawIsExecutable_any A n c bs _ h (by omega)).mono ?_
  rintro e w1 ⟨L, len, cap, gs, N, Ae, l, cc, es, rfl, hN, hlen, hll, hog, hoe, hok, hx1⟩
  clear hd hok
  have hle := (Rd.own hoe).len (f := Ed.cells) (fun _ => by simp [Ed.cells]) (by omega)
  subst hle
  have hX3 : Ext w (w1.alloc (.cells #[.int .i64 N, .slice Ae es.length cc] 27)) := hx1.alloc _
  have hB3 : Blk (w1.alloc (.cells #[.int .i64 N, .slice Ae es.length cc] 27)) w1.heap.size 27 #[.int .i64 N, .slice Ae es.length cc] := Blk.new _ _ _
  have hL3 := (Rd.own hog).ext ((Ext.refl w1).alloc (.cells #[.int .i64 N, .slice Ae es.length cc] 27))
  have hE3 := (Rd.own hoe).ext ((Ext.refl w1).alloc (.cells #[.int .i64 N, .slice Ae es.length cc] 27))
  clear hog hoe hx1
  go_upto_region 4 with (fail)
  generalize (w1.alloc (.cells #[.int .i64 N, .slice Ae es.length cc] 27)) = w3 at *
  generalize w1.heap.size = q at *
  have HX3 := Lib.hid hX3
  have HL : Hid (∀ w', Ext w3 w' → Rd w' w'.heap.size 4 L len (gcells gs)) := fun w' hx => hL3.ext hx
  have HG : Hid (∀ w', Ext w3 w' → GrAt w' w'.heap.size (.agg #[.int .i64 N, .slice Ae es.length cc]) ⟨N, es⟩) := fun w' hx => ⟨Ae, cc, rfl, hE3.ext hx⟩
  have HB := Lib.hid hB3
  clear hX3 hL3 hE3 hB3
  have x3 : Ext w3 w3 := Ext.refl _
  have d0 : w3.cell? ⟨q, 0, none⟩ = some (.int .i64 N) := HB.out.cell 0
  have d1 : w3.cell? ⟨q, 1, none⟩ = some (.slice Ae es.length cc) := HB.out.cell 1
  go_wp2_with fail
  refine (impl_IsExecutable_any L len cap gs _ ⟨N, es⟩ _ (HL.out _ x3) (HG.out _ x3) (by omega) (by simp; omega)).mono ?_
  rintro e w4 ⟨rfl, y4⟩
  replace y4 := x3.trans y4
  clear d0 d1 x3
  have d0 : w4.cell? ⟨q, 0, none⟩ = some (.int .i64 N) := (HB.out.ext y4).cell 0
  have d1 : w4.cell? ⟨q, 1, none⟩ = some (.slice Ae es.length cc) := (HB.out.ext y4).cell 1
  go_wp2_with fail
  refine (spec_IsExecutable_any L len cap gs _ ⟨N, es⟩ _ (HL.out _ y4) (HG.out _ y4) (by omega) (by simp; omega)).mono ?_
  rintro e w5 ⟨rfl, y5⟩
  replace y5 := y4.trans y5
  clear d0 d1 y4
  have d0 : w5.cell? ⟨q, 0, none⟩ = some (.int .i64 N) := (HB.out.ext y5).cell 0
  have d1 : w5.cell? ⟨q, 1, none⟩ = some (.slice Ae es.length cc) := (HB.out.ext y5).cell 1
  obtain ⟨ok, hk⟩ : ∃ ok, ok = exeN ⟨N, es⟩ gs := ⟨_, rfl⟩
  rw [← hk]
  have HK := Lib.hid hk
  clear hk
  cases ok
  · go_wp2_with fail
    refine (spec_IsExecutable_any L len cap gs _ ⟨N, es⟩ _ (HL.out _ y5) (HG.out _ y5) (by omega) (by simp; omega)).mono ?_
    rintro e w6 ⟨rfl, y6⟩
    rw [← HK.out]
    go_wp2
    go_ret
    exact ⟨rfl, HX3.out.trans (y5.trans y6)⟩
  · have HO := Lib.hid (exe_ori HK.out.symm)
    have HR := Lib.hid (exe_resp HK.out.symm)
    go_wp2_with fail
    refine (impl_OrientGates_of L len cap gs _ ⟨N, es⟩ _ (HL.out _ y5) (HG.out _ y5) (by omega) (fun g _ => impl_OrientGate_any ⟨N, es⟩ g (by simp; omega))).mono ?_
    rintro e w6 ⟨v6, rfl, ho6, y6⟩
    replace y6 := y5.trans y6
    rw [HO.out.1]
    rw [HO.out.2] at ho6
    obtain ⟨L6, c6, rfl, hr6⟩ := own_slice ho6
    clear d0 d1 y5 ho6
    have d0 : w6.cell? ⟨q, 0, none⟩ = some (.int .i64 N) := (HB.out.ext y6).cell 0
    have d1 : w6.cell? ⟨q, 1, none⟩ = some (.slice Ae es.length cc) := (HB.out.ext y6).cell 1
    have HR6 := Lib.hid hr6
    clear hr6
    have hgl : gs.length ≤ 34125 := by have := (HL.out _ y6).len Gt.cells_len (by omega); omega
    go_wp2_with fail
    refine (impl_RespectsGraph_any L len cap gs _ ⟨N, es⟩ _ (HL.out _ y6) (HG.out _ y6) (by omega) (by simp; omega)).mono ?_
    rintro e w7 ⟨rfl, y7⟩
    rw [HR.out]
    have z7 := y6.trans y7
    go_wp2_with fail
    refine (sameGates_any L6 L _ len c6 cap gs gs _ (HR6.out.ext y7) (HL.out _ z7) (by omega) (by omega)).mono ?_
    rintro e w8 ⟨rfl, y8⟩
    rw [eqL_self eqG eqG_self]
    go_wp2
    go_ret
    exact ⟨rfl, HX3.out.trans (z7.trans y8)⟩
set_option maxRecDepth 100000 in
theorem lifted (os : Os) (started : os.Started) (H : Type) (enc : TypeId × Value → H) :
    ReturnsInHanded {} Try.checked os 3 .any (Rows.fnAllowedSpec.pre6 enc Try.prog Try.f3 Rows.fnAllowedRow.domain false) (Rows.fnAllowedSpec.post enc Try.prog Try.f3 false true false false) := by
  refine returnsInHanded_of_change (C := Try.checked) own started (by kernel_rfl) Try.func3
    (ChangeSpec.witness6 (enc := enc) (C := Try.checked) false ⟨#[], #[.slice none 0 0], []⟩ 8 (by kernel_rfl) (by kernel_rfl) (by kernel_rfl) (by kernel_rfl)) ?_
  intro W base args ds gs before hval0 hW hcnd _
  have hval : ∀ (j : Nat) t v, Try.f3.params[j]? = some t → args[j]? = some v → Value.okWide Try.prog W .any base t v := hval0
  have hW' := hW
  obtain ⟨p, q, hA0, hV, rfl, hfz, hnd⟩ := hW
  have hA : DataW.TrodAll enc Try.prog W 0 (fun _ => true) true Try.f3.params.toList args.toList ds p := hA0
  rw [Try.params3] at hA hval
  obtain ⟨v0, vs0, d0, ds0, p0, q0, hargs, rfl, rfl, h0, r0⟩ := trodAll_cons hA
  obtain ⟨rfl, rfl, rfl⟩ := trodAll_nil r0
  obtain rfl : args = #[v0] := by cases args; simp_all
  clear hA0 hval0 hfz hnd hV hcnd
  obtain ⟨A, n, c, bs, rfl, hnc0, hcm0, hr0, hok0⟩ := open_lbytes (hval 0 _ v0 rfl rfl) h0
  refine (walk A n c bs W hr0 (by omega)).mono fun e W' ⟨he, hx⟩ => ?_
  subst he
  exact ⟨_, rfl, law_post rfl (by rw [Try.params3]; decide +kernel) rfl hW' rfl rfl rfl hx⟩

theorem over : Rows.fnAllowedRow.holds Try.pinned (OpenSpec.ofChange Rows.fnAllowedSpec) :=
  OpenClaim.holds_of_wide 3 Try.f3 rfl rfl rfl rfl rfl rfl rfl ⟨rfl, rfl, rfl, rfl, rfl⟩ rfl rfl rfl rfl rfl (by kernel_rfl) Try.func3 (by kernel_rfl)
    (of_decide_eq_true (by kernel_rfl)) (by unfold Func.isWrapper; first | (rw [if_pos (by decide +kernel)]; kernel_rfl) | (rw [if_neg (by decide +kernel)]; exact ⟨rfl, rfl⟩))
    (fun os started H enc _ => lifted os started H enc)

/-- The statement. -/
theorem proved : Rows.FnAllowedSaid := over
#print axioms proved

end fnAllowed
end Go.Proofs.Ytfbalkbcglejjaa
