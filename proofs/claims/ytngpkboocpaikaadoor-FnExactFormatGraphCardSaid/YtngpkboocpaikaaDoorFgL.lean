/-
  For every input, the law FnExactFormatGraph returns true: the program's FormatGraph and the reference's return the same, and the argument is left alone. The tied card: the tables of strconv and math/bits that the row lists are not read where a graph is valid. No condition.
-/
import Derived.Test.YtngpkboocpaikaaDoorFg
import Derived.Test.YtngpkboocpaikaaDoorCards
import Derived.Test.YtngpkboocpaikaaDoorTie
import Derived.LaidMore
import Derived.Stop.Joined
import Derived.SevenTiedAt
namespace Go.Proofs.YtngpkboocpaikaaDoor
open Go.ChangeShapes Go.WideShapes Go.ChangeAt Go.RowKit Go.Deep
set_option linter.unusedVariables false
namespace fnExactFormatGraph
set_option maxRecDepth 100000 in
set_option maxHeartbeats 4000000 in
theorem walk (v : Value) (x : Gr) (w : World) (h : GrAt w w.heap.size v x) (hok : x.ok) :
    Calls Tryd.prog 3 #[v] w fun e w' => e = .returned (.bool true) ∧ Ext w w' := by
  obtain ⟨A1, c1, rfl, h1⟩ := h
  have HG : Hid (∀ w', Ext w w' → GrAt w' w'.heap.size (.agg #[.int .i64 x.n, .slice A1 x.es.length c1]) x) := fun w' hx => ⟨A1, c1, rfl, h1.ext hx⟩
  clear h1
  have HOK := Lib.hid hok
  clear hok
  obtain ⟨len, hlen⟩ : ∃ len, len = x.es.length := ⟨_, rfl⟩
  rw [← hlen] at HG ⊢
  have HL := Lib.hid hlen
  clear hlen
  have HB0 : Hid (Blk (w.alloc (.cells #[.int .i64 x.n, .slice A1 len c1] 24)) w.heap.size 24 #[.int .i64 x.n, .slice A1 len c1]) := Blk.new _ _ _
  have HX0 : Hid (Ext w (w.alloc (.cells #[.int .i64 x.n, .slice A1 len c1] 24))) := (Ext.refl w).alloc _
  go_enter Tryd.func3, Tryd.ntmps3
  go_upto_region 1 with (fail)
  have hB0 := HB0.out
  have hX0 := HX0.out
  clear HB0 HX0
  generalize (w.alloc (.cells #[.int .i64 x.n, .slice A1 len c1] 24)) = Wb at *
  have d0 : Wb.cell? ⟨w.heap.size, 0, none⟩ = some (.int .i64 x.n) := hB0.cell 0
  have d1 : Wb.cell? ⟨w.heap.size, 1, none⟩ = some (.slice A1 len c1) := hB0.cell 1
  go_wp2_with fail
  refine (szGraph_any _ x _ _ (HG.out _ hX0) (by omega) (by omega) HOK.out.2.1).mono ?_
  rintro e w2 ⟨rfl, hy2⟩
  rw [← HL.out]
  clear d0 d1
  by_cases hbig : (1048576 : Int) < len
  · rw [szF_lt hbig]
    go_wp2
    go_ret
    exact ⟨rfl, hX0.trans hy2⟩
  rw [szF_ge hbig]
  have hge : ¬ ((1048576 : Int) - len < 0) := by omega
  have HSM : Hid x.small := by unfold Hid Gr.small; rw [← HL.out]; omega
  have d0 : w2.cell? ⟨w.heap.size, 0, none⟩ = some (.int .i64 x.n) := (hB0.ext hy2).cell 0
  have d1 : w2.cell? ⟨w.heap.size, 1, none⟩ = some (.slice A1 len c1) := (hB0.ext hy2).cell 1
  go_wp2_with fail
  refine (toGraph_own _ x _ (HG.out _ (hX0.trans hy2)) HSM.out).mono ?_
  rintro e w3 ⟨v3, b3, rfl, ho3, hb3, hy3⟩
  replace hy3 := hy2.trans hy3
  clear d0 d1
  have hl8 : x.es.length ≤ 100000000 := by have := HL.out; omega
  have HL8 := Lib.hid hl8
  clear hl8
  go_wp2_with fail
  refine (spec_FormatGraph_any v3 x _ ho3.at_ HL8.out).mono ?_
  rintro e w4 ⟨rfl, hy4⟩
  replace hy4 := hy3.trans hy4
  have d0 : w4.cell? ⟨w.heap.size, 0, none⟩ = some (.int .i64 x.n) := (hB0.ext hy4).cell 0
  have d1 : w4.cell? ⟨w.heap.size, 1, none⟩ = some (.slice A1 len c1) := (hB0.ext hy4).cell 1
  go_wp2_with fail
  refine (toGraph_own _ x _ (HG.out _ (hX0.trans hy4)) HSM.out).mono ?_
  rintro e w5 ⟨v5, b5, rfl, ho5, hb5, hy5⟩
  replace hy5 := hy4.trans hy5
  clear d0 d1 ho3 hb3 hy2 hy3 hy4
  obtain ⟨A5, c5, rfl, _⟩ := id ho5
  rw [← HL.out] at ho5 ⊢
  have hB6 : Blk (w5.alloc (.cells #[.int .i64 x.n, .slice A5 len c5] 29)) w5.heap.size 29 #[.int .i64 x.n, .slice A5 len c5] := Blk.new _ _ _
  have hG6 := ho5.ext ((Ext.refl w5).alloc (.cells #[.int .i64 x.n, .slice A5 len c5] 29))
  have hy6 : Ext Wb (w5.alloc (.cells #[.int .i64 x.n, .slice A5 len c5] 29)) := hy5.alloc _
  go_upto_region 7 with (fail)
  generalize (w5.alloc (.cells #[.int .i64 x.n, .slice A5 len c5] 29)) = w6 at *
  generalize w5.heap.size = u at *
  have q0 : w6.cell? ⟨u, 0, none⟩ = some (.int .i64 x.n) := hB6.cell 0
  have q1 : w6.cell? ⟨u, 1, none⟩ = some (.slice A5 len c5) := hB6.cell 1
  go_wp2_with fail
  refine (impl_FormatGraph_any _ x _ hG6.at_ HL8.out HOK.out.2.2).mono ?_
  rintro e w7 ⟨rfl, hy7⟩
  have hx7 := hy6.trans hy7
  have hB7 := hB6.ext hy7
  have hG7 := hG6.ext hy7
  clear q0 q1 hG6 hB6 hy5 hy6 hy7 ho5 hb5
  have q0 : w7.cell? ⟨u, 0, none⟩ = some (.int .i64 x.n) := hB7.cell 0
  have q1 : w7.cell? ⟨u, 1, none⟩ = some (.slice A5 len c5) := hB7.cell 1
  have d0 : w7.cell? ⟨w.heap.size, 0, none⟩ = some (.int .i64 x.n) := (hB0.ext hx7).cell 0
  have d1 : w7.cell? ⟨w.heap.size, 1, none⟩ = some (.slice A1 len c1) := (hB0.ext hx7).cell 1
  have HK : Hid (∀ w', Ext w7 w' → w'.cell? ⟨u, 0, none⟩ = some (.int .i64 x.n) ∧ w'.cell? ⟨u, 1, none⟩ = some (.slice A5 len c5) ∧ w'.cell? ⟨w.heap.size, 0, none⟩ = some (.int .i64 x.n) ∧ w'.cell? ⟨w.heap.size, 1, none⟩ = some (.slice A1 len c1)) := fun w' q => ⟨(hB7.ext q).cell 0, (hB7.ext q).cell 1, ((hB0.ext hx7).ext q).cell 0, ((hB0.ext hx7).ext q).cell 1⟩
  go_wp2
  go_region_held3 (fun w' => w'.cell? ⟨u, 0, none⟩ = some (.int .i64 x.n) ∧ w'.cell? ⟨u, 1, none⟩ = some (.slice A5 len c5) ∧ w'.cell? ⟨w.heap.size, 0, none⟩ = some (.int .i64 x.n) ∧ w'.cell? ⟨w.heap.size, 1, none⟩ = some (.slice A1 len c1))
    (first | go_keep | exact HK.out _ (by assumption))
    (first
      | (go_at_call 6; refine (toGraph_own _ x _ (HG.out _ (hX0.trans (hx7.trans (Ext.refl w7).drew))) HSM.out).mono ?_; rintro e w8 ⟨v8, b8, rfl, ho8, hb8, hy8⟩; replace hy8 : Ext w7 w8 := Ext.trans (Ext.refl w7).drew hy8)
      | (go_at_call 8; refine (eqGraph_any _ v8 x x _ (hG7.ext hy8).at_ ho8.at_ ⟨HL8.out, HL8.out⟩).mono ?_; rintro e w9 ⟨rfl, hy9⟩; replace hy9 : Ext w7 w9 := hy8.trans hy9; rw [eqGr_self]))
  go_wp2
  go_ret
  exact ⟨rfl, hX0.trans (hx7.trans hy9)⟩
set_option maxRecDepth 100000 in
theorem met (os : Os) (args : Array Value) : laidMetH Tryd.prog Rows.fnExactFormatGraphRow.laid ((World.doorLaid Tryd.prog 400 os).forCall (fun _ _ => 0) ⟨#[], args, []⟩).memory :=
  laidMetH_of_parts3 (fuel := 8) (laidMet_of_run' 8 (by kernel_rfl) (by kernel_rfl)) (by kernel_rfl) (by kernel_rfl)
set_option maxRecDepth 100000 in
theorem lifted (os : Os) (started : os.Started) (H : Type) (enc : TypeId × Value → H) :
    ReturnsInHanded {} Tryd.checked os 3 .any (fun w args => (Rows.fnExactFormatGraphSpec.pre enc Tryd.prog Tryd.f3 [] false w args ∧ laidMetH Tryd.prog Rows.fnExactFormatGraphRow.laid w) ∧ sizedMet enc Tryd.prog Tryd.f3 (OpenSpec.ofChange Rows.fnExactFormatGraphSpec) false w args)
      (Rows.fnExactFormatGraphSpec.post enc Tryd.prog Tryd.f3 false true false false) := by
  refine returnsInHanded_of_change_and (C := Tryd.checked) (X := fun w _ => laidMetH Tryd.prog Rows.fnExactFormatGraphRow.laid w) (fun _ _ _ hh h => h.of_heap hh) own started (by kernel_rfl) Tryd.func3
    (ChangeSpec.witness_shaped (enc := enc) (C := Tryd.checked) (os := os) (X := fun w _ => laidMetH Tryd.prog Rows.fnExactFormatGraphRow.laid w) false (World.doorLaid Tryd.prog 400 os) #[.agg #[.int .i64 0, .slice none 0 0]] 8 rfl (World.shaped_of_RefB (by kernel_rfl) (by kernel_rfl)) (by kernel_rfl) (by kernel_rfl) (by kernel_rfl) (met os _)) ?_
  intro W base args ds gs before hval0 hW hcnd _ hL _
  have hval : ∀ (j : Nat) t v, Tryd.f3.params[j]? = some t → args[j]? = some v → Value.okWide Tryd.prog W .any base t v := hval0
  have hW' := hW
  obtain ⟨p, q, hA0, hV, rfl, hfz, hnd⟩ := hW
  have hA : DataW.TrodAll enc Tryd.prog W 0 (fun _ => true) true Tryd.f3.params.toList args.toList ds p := hA0
  rw [Tryd.params3] at hA hval
  obtain ⟨v0, vs0, d0, ds0, p0, q0, hargs, rfl, rfl, h0, r0⟩ := trodAll_cons hA
  obtain ⟨rfl, rfl, rfl⟩ := trodAll_nil r0
  obtain rfl : args = #[v0] := by cases args; simp_all
  clear hA0 hval0 hfz hnd hV hcnd hL
  obtain ⟨gr, hr0, hok0⟩ := open_lgraph (hval 0 _ v0 rfl rfl) h0
  refine (walk v0 gr W hr0 hok0).mono fun e W' ⟨he, hx⟩ => ?_
  subst he
  exact ⟨_, rfl, law_post rfl (by rw [Tryd.params3]; decide +kernel) rfl hW' rfl rfl rfl hx⟩

theorem over : Rows.FnExactFormatGraphSaid :=
  OpenClaim.holds_of_wide 3 Tryd.f3 rfl rfl rfl rfl rfl rfl rfl ⟨rfl, rfl, rfl, rfl, rfl⟩ rfl rfl rfl rfl rfl (by kernel_rfl) Tryd.func3 (by kernel_rfl)
    (of_decide_eq_true (by kernel_rfl)) (by unfold Func.isWrapper; first | (rw [if_pos (by decide +kernel)]; kernel_rfl) | (rw [if_neg (by decide +kernel)]; exact ⟨rfl, rfl⟩))
    (fun os started H enc _ => lifted os started H enc)

/-- The statement: the tied card. -/
theorem proved : Rows.FnExactFormatGraphCardSaid :=
  Claim7.holds_tied_plain_at .later [] [.data, .data, .data] true (true, "12cd468816a528a117bd97a85ad764f7b93e25938c55a0bb769509a515a6c999") false
    over (fun _ h => by cases h) (by kernel_rfl) (fun _ h => by cases h) fnExactFormatGraph_row_tie rfl ⟨rfl, rfl⟩ (by kernel_rfl) rfl
    (fun f fn hf hfn => by
      obtain rfl : f = 3 := Option.some.inj ((show Tryd.prog.funcNamed "loop.example/g00506/laws.FnExactFormatGraph" = some 3 by kernel_rfl).symm.trans hf) |>.symm
      obtain rfl : fn = Tryd.f3 := (Option.some.inj (Tryd.func3.symm.trans hfn)).symm
      exact ⟨by kernel_rfl, fun j t ht => by
        rw [Tryd.params3] at ht
        have hm : t ∈ [24] := by simpa using Array.mem_of_getElem? ht
        have hall : ([24].all fun u => !Tryd.prog.wantsStandIn u) = true := by kernel_rfl
        exact (show Tryd.prog.wantsStandIn t = false by simpa using List.all_eq_true.1 hall t hm)⟩)
    (by kernel_rfl)
#print axioms proved

end fnExactFormatGraph
end Go.Proofs.YtngpkboocpaikaaDoor
