/-
  For every input, the law FnExactRouteOps returns true: the program's RouteOps and the reference's return the same, no result shares memory with an argument or a second result, and the arguments are left alone. No condition.
-/
import Derived.Test.YtnemoemdanidbaaRos
import Derived.Test.YtnemoemdanidbaaGrM
import Derived.Test.YtnemoemdanidbaaOpM
import Derived.Test.YtnemoemdanidbaaIntM
namespace Go.Proofs.Ytnemoemdanidbaa
open Go.ChangeShapes Go.WideShapes Go.ChangeAt Go.RowKit Go.Deep
set_option linter.unusedVariables false
namespace fnExactRouteOps
theorem ropS_len (x : Gr) (mode : Int) : ∀ (xs : List Oq) (now : List Int), perm now = true → ∀ t, ropS x mode xs now = some t → t.1.length ≤ 10 * xs.length ∧ t.2.length = now.length
  | [], now, _, t, h => by
    simp [ropS] at h
    subst h
    simp
  | o :: r, now, hp, t, h => by
    rw [ropS] at h
    split at h
    · split at h
      · rw [Option.map_eq_some_iff] at h
        obtain ⟨u, hu, rfl⟩ := h
        have hw := rop_way (x := x) (mode := mode) (g := o.g) hp
        have h1 := ropS_len x mode r _ hw.1 u hu
        have h2 := rop_len x mode o.g now
        simp
        omega
      · cases h
    · split at h
      · split at h
        · rw [Option.map_eq_some_iff] at h
          obtain ⟨u, hu, rfl⟩ := h
          have h1 := ropS_len x mode r _ hp u hu
          simp
          omega
        · cases h
      · have h1 := ropS_len x mode r _ hp t h
        simp
        omega
theorem rosR_len (x : Gr) (xs : List Oq) (p : List Int) (mode : Int) : ((rosR x xs p mode).getD ([], [])).1.length ≤ 10 * xs.length ∧ ((rosR x xs p mode).getD ([], [])).2.length ≤ p.length := by
  cases h : rosR x xs p mode with
  | none => simp
  | some t =>
    unfold rosR at h
    split at h
    · rename_i hc
      simp only [Bool.and_eq_true] at hc
      have := ropS_len x mode xs p (lay_n hc.1).2.2 t h
      simp
      omega
    · cases h
set_option maxRecDepth 100000 in
set_option maxHeartbeats 2000000 in
theorem walk (Ags : Option Addr) (ngs cgs : Nat) (gs : List Oq) (vgr : Value) (gr : Gr) (App : Option Addr) (npp cpp : Nat) (pp : List Int) (mode : Int) (w : World) (hgs : Rd w w.heap.size 8 Ags ngs (ocells gs)) (hmgs : ngs ≤ maxLen) (hokgs : ∀ x ∈ gs, x.ok) (hgr : GrAt w w.heap.size vgr gr) (hokgr : gr.ok) (hpp : Rd w w.heap.size 1 App npp (icells pp)) (hmpp : npp ≤ maxLen) (hokpp : ∀ x ∈ pp, I64 x) (hmode : I64 mode) :
    Calls Try.prog 7 #[.slice Ags ngs cgs, vgr, .slice App npp cpp, .int .i64 mode] w fun e w' => e = .returned (.bool true) ∧ Ext w w' := by
  by_cases hnp : 1048576 < npp
  · obtain ⟨Ag, cg, rfl, _⟩ := hgr
    have hnp' : (1048576 : Int) < (npp : Int) := by omega
    go_enter Try.func7, Try.ntmps7
    go_wp2
    go_ret
    exact ⟨rfl, (by repeat (first | exact Ext.refl _ | assumption | refine Ext.alloc ?_ _ | refine Ext.drewN ?_ _ | refine Ext.drew ?_))⟩
  have hnp1 : npp ≤ 1048576 := by omega
  have hnp2 : ¬ (1048576 : Int) < (npp : Int) := by omega
  obtain ⟨Agr1, cgr1, rfl, hh0⟩ := hgr
  have hgr : GrAt w w.heap.size (.agg #[.int .i64 gr.n, .slice Agr1 gr.es.length cgr1]) gr := ⟨Agr1, cgr1, rfl, hh0⟩
  clear hh0
  go_enter Try.func7, Try.ntmps7
  have hx0 : Ext w w := Ext.refl w
  go_wp2_with fail
  have hy1 : Ext w (w.alloc (.cells #[.int .i64 gr.n, .slice Agr1 gr.es.length cgr1] 57)) := by repeat (first | exact Ext.refl _ | assumption | refine Ext.alloc ?_ _ | refine Ext.drewN ?_ _ | refine Ext.drew ?_)
  have bx0_1 : Blk (w.alloc (.cells #[.int .i64 gr.n, .slice Agr1 gr.es.length cgr1] 57)) (w.heap.size) 57 #[.int .i64 gr.n, .slice Agr1 gr.es.length cgr1] := Blk.newAt (b := w.heap.size) (by simp)
  generalize (w.alloc (.cells #[.int .i64 gr.n, .slice Agr1 gr.es.length cgr1] 57)) = w1 at *
  have lb0 := bx0_1.lt
  have hz1 := hy1.size
  have hx1' := hx0.trans hy1
  have z1_0_0 : w1.cell? ⟨w.heap.size, 0, none⟩ = some (.int .i64 gr.n) := bx0_1.cell 0
  have z1_0_1 : w1.cell? ⟨w.heap.size, 1, none⟩ = some (.slice Agr1 gr.es.length cgr1) := bx0_1.cell 1
  have hgs_1 := hgs.up hy1 (by omega)
  have hgr_1 := hgr.up hy1 (by omega)
  have hpp_1 := hpp.up hy1 (by omega)
  refine (szOpS_any Ags ngs cgs _ _ (by omega) (by omega) hmgs).mono ?_
  rintro e v ⟨rfl, rfl⟩
  by_cases hngs : (1048576 : Int) < ngs
  · rw [szF_lt (by omega)]
    go_wp2
    go_ret
    exact ⟨rfl, hx1'⟩
  rw [szF_ge (by omega)]
  go_wp2_with fail
  refine (szGraph_any (.agg #[.int .i64 gr.n, .slice Agr1 gr.es.length cgr1]) gr _ _ (hgr_1.more (by omega)) (by omega) (by omega) hokgr.2.1).mono ?_
  rintro e w2 ⟨rfl, hy2⟩
  have hz2 := hy2.size
  have hx2' := hx1'.trans hy2
  have bx0_2 := bx0_1.ext hy2
  clear z1_0_0 z1_0_1
  have z2_0_0 : w2.cell? ⟨w.heap.size, 0, none⟩ = some (.int .i64 gr.n) := bx0_2.cell 0
  have z2_0_1 : w2.cell? ⟨w.heap.size, 1, none⟩ = some (.slice Agr1 gr.es.length cgr1) := bx0_2.cell 1
  have hgs_2 := hgs_1.up hy2 (by omega)
  have hgr_2 := hgr_1.up hy2 (by omega)
  have hpp_2 := hpp_1.up hy2 (by omega)
  by_cases hngr : (1048576 - ngs : Int) < (gr.es.length : Nat)
  · rw [szF_lt (by omega)]
    go_wp2
    go_ret
    exact ⟨rfl, hx2'⟩
  rw [szF_ge (by omega)]
  have hsmgr : gr.small := by unfold Gr.small; omega
  have hE : gr.es.length ≤ 1048576 := hsmgr
  obtain ⟨hL, hM⟩ : ((rosR gr gs pp mode).getD ([], [])).1.length ≤ 10485760 ∧ ((rosR gr gs pp mode).getD ([], [])).2.length ≤ 1048576 := by
    have h1 := rosR_len gr gs pp mode
    rw [hgs.len Oq.cells_len (by omega), hpp.len icell_len (by omega)] at h1
    omega
  have hbb : ((rosR gr gs pp mode).isSome != (rosR gr gs pp mode).isSome) = false := by simp
  go_wp2_with fail
  have HK1 : Hid (∀ w', Blk w' (w.heap.size) 57 #[.int .i64 gr.n, .slice Agr1 gr.es.length cgr1] → w'.cell? ⟨w.heap.size, 0, none⟩ = some (.int .i64 gr.n) ∧ w'.cell? ⟨w.heap.size, 1, none⟩ = some (.slice Agr1 gr.es.length cgr1)) := fun w' g0 => ⟨g0.cell 0, g0.cell 1⟩
  have tok0 : True := trivial
  have tok1 : True := trivial
  have tok2 : True := trivial
  have tok3 : True := trivial
  go_region_held3 (fun w' => w'.cell? ⟨w.heap.size, 0, none⟩ = some (.int .i64 gr.n) ∧ w'.cell? ⟨w.heap.size, 1, none⟩ = some (.slice Agr1 gr.es.length cgr1))
    (first | go_keep | exact HK1.out _ (by assumption))
    (first
            | (go_at_call 33; have _t := tok0; clear tok0 _t; refine (toOpS_any Ags ngs cgs gs _ ((hgs_2.up (Ext.refl w2).drew (by omega)).more (show _ ≤ w2.heap.size by omega)) (by omega)).mono ?_; rintro e w3 ⟨v3, rfl, ho3, hy3⟩; obtain ⟨A3, c3, rfl, hr3⟩ := own_slice ho3; have hlt3 : ∀ g, (Value.slice A3 (ngs) c3).ownBlock = some g → w2.heap.size ≤ g ∧ g < w3.heap.size := fun g hg => ho3.lt g hg; replace hy3 : Ext w2 w3 := Ext.trans (Ext.refl w2).drew hy3; have hz3 := hy3.size; have hx3' := hx2'.trans hy3; have bx0_3 := bx0_2.ext hy3; clear z2_0_0 z2_0_1; have z3_0_0 : w3.cell? ⟨w.heap.size, 0, none⟩ = some (.int .i64 gr.n) := bx0_3.cell 0; have z3_0_1 : w3.cell? ⟨w.heap.size, 1, none⟩ = some (.slice Agr1 gr.es.length cgr1) := bx0_3.cell 1; have hgs_3 := hgs_2.up hy3 (by omega); have hgr_3 := hgr_2.up hy3 (by omega); have hpp_3 := hpp_2.up hy3 (by omega))
            | (go_at_call 34; have _t := tok1; clear tok1 _t; refine (toGraph_own (.agg #[.int .i64 gr.n, .slice Agr1 gr.es.length cgr1]) gr _ (hgr_3.more (by omega)) hsmgr).mono ?_; rintro e w4 ⟨v4, b4_1, rfl, ho4, hb4, hy4⟩; obtain ⟨hb4_0, hb4_1⟩ := hb4; have hr4 := ho4.at_; have hz4 := hy4.size; have hx4' := hx3'.trans hy4; have bx0_4 := bx0_3.ext hy4; clear z3_0_0 z3_0_1; have z4_0_0 : w4.cell? ⟨w.heap.size, 0, none⟩ = some (.int .i64 gr.n) := bx0_4.cell 0; have z4_0_1 : w4.cell? ⟨w.heap.size, 1, none⟩ = some (.slice Agr1 gr.es.length cgr1) := bx0_4.cell 1; have hgs_4 := hgs_3.up hy4 (by omega); have hgr_4 := hgr_3.up hy4 (by omega); have hpp_4 := hpp_3.up hy4 (by omega); have hr3_4 := hr3.up hy4 (by omega); have ho3_4 := own_ext ho3 hy4)
            | (go_at_call 35; have _t := tok2; clear tok2 _t; refine (toIntS_any App npp cpp pp _ (hpp_4.more (by omega)) (by omega)).mono ?_; rintro e w5 ⟨v5, rfl, ho5, hy5⟩; obtain ⟨A5, c5, rfl, hr5⟩ := own_slice ho5; have hlt5 : ∀ g, (Value.slice A5 (npp) c5).ownBlock = some g → w4.heap.size ≤ g ∧ g < w5.heap.size := fun g hg => ho5.lt g hg; have hz5 := hy5.size; have hx5' := hx4'.trans hy5; have bx0_5 := bx0_4.ext hy5; clear z4_0_0 z4_0_1; have z5_0_0 : w5.cell? ⟨w.heap.size, 0, none⟩ = some (.int .i64 gr.n) := bx0_5.cell 0; have z5_0_1 : w5.cell? ⟨w.heap.size, 1, none⟩ = some (.slice Agr1 gr.es.length cgr1) := bx0_5.cell 1; have hgs_5 := hgs_4.up hy5 (by omega); have hgr_5 := hgr_4.up hy5 (by omega); have hpp_5 := hpp_4.up hy5 (by omega); have hr3_5 := hr3_4.up hy5 (by omega); have ho3_5 := own_ext ho3_4 hy5; have hr4_5 := hr4.up hy5 (by omega))
            | (go_at_call 32; have _t := tok3; clear tok3 _t; refine (spec_RouteOps_any A3 ngs c3 gs v4 gr A5 npp c5 pp mode _ (hr3_5.more (by omega)) (by omega) (hr4_5.more (by omega)) (by omega) (hr5.more (by omega)) (by omega) (own_le ho5)).mono ?_; rintro e w6 ⟨u6, v6, bb6, rfl, ho6, hbb6, hwb6, hp6, hy6⟩; obtain ⟨hwb6_1, hwb6_2⟩ := hwb6; obtain ⟨A6, c6, rfl, _⟩ := own_slice ho6; obtain ⟨D6, d6, rfl, hq6⟩ := own_slice hp6; have hr6 := Rd.bdl (Rd.own ho6) hbb6; have hlt6 : ∀ g, (Value.slice A6 (((rosR gr gs pp mode).getD ([], [])).1.length) c6).ownBlock = some g → w5.heap.size ≤ g ∧ g < bb6 := fun g hg => ⟨(ho6.lt g hg).1, hbb6 g hg⟩; have hlu6 : ∀ g, (Value.slice D6 (((rosR gr gs pp mode).getD ([], [])).2.length) d6).ownBlock = some g → bb6 ≤ g ∧ g < w6.heap.size := fun g hg => hp6.lt g hg; have hz6 := hy6.size; have hx6' := hx5'.trans hy6; have bx0_6 := bx0_5.ext hy6; clear z5_0_0 z5_0_1; have z6_0_0 : w6.cell? ⟨w.heap.size, 0, none⟩ = some (.int .i64 gr.n) := bx0_6.cell 0; have z6_0_1 : w6.cell? ⟨w.heap.size, 1, none⟩ = some (.slice Agr1 gr.es.length cgr1) := bx0_6.cell 1; have hgs_6 := hgs_5.up hy6 (by omega); have hgr_6 := hgr_5.up hy6 (by omega); have hpp_6 := hpp_5.up hy6 (by omega); have hr3_6 := hr3_5.up hy6 (by omega); have ho3_6 := own_ext ho3_5 hy6; have hr4_6 := hr4_5.up hy6 (by omega); have hr5_6 := hr5.up hy6 (by omega); have ho5_6 := own_ext ho5 hy6))
  go_wp2_with fail
  refine (toOpS_any Ags ngs cgs gs _ (hgs_6.more (by omega)) (by omega)).mono ?_
  rintro e w7 ⟨v7, rfl, ho7, hy7⟩
  obtain ⟨A7, c7, rfl, hr7⟩ := own_slice ho7
  have hlt7 : ∀ g, (Value.slice A7 (ngs) c7).ownBlock = some g → w6.heap.size ≤ g ∧ g < w7.heap.size := fun g hg => ho7.lt g hg
  have hz7 := hy7.size
  have hx7' := hx6'.trans hy7
  have bx0_7 := bx0_6.ext hy7
  clear z6_0_0 z6_0_1
  have z7_0_0 : w7.cell? ⟨w.heap.size, 0, none⟩ = some (.int .i64 gr.n) := bx0_7.cell 0
  have z7_0_1 : w7.cell? ⟨w.heap.size, 1, none⟩ = some (.slice Agr1 gr.es.length cgr1) := bx0_7.cell 1
  have hgs_7 := hgs_6.up hy7 (by omega)
  have hgr_7 := hgr_6.up hy7 (by omega)
  have hpp_7 := hpp_6.up hy7 (by omega)
  have hr6_7 := hr6.up hy7 (by omega)
  have ho6_7 := own_ext ho6 hy7
  have hq6_7 := hq6.up hy7 (by omega)
  have hp6_7 := own_ext hp6 hy7
  go_wp2_with fail
  refine (toGraph_own (.agg #[.int .i64 gr.n, .slice Agr1 gr.es.length cgr1]) gr _ (hgr_7.more (by omega)) hsmgr).mono ?_
  rintro e w8 ⟨v8, b8_1, rfl, ho8, hb8, hy8⟩
  obtain ⟨hb8_0, hb8_1⟩ := hb8
  have hr8 := ho8.at_
  have hz8 := hy8.size
  have hx8' := hx7'.trans hy8
  have bx0_8 := bx0_7.ext hy8
  clear z7_0_0 z7_0_1
  have z8_0_0 : w8.cell? ⟨w.heap.size, 0, none⟩ = some (.int .i64 gr.n) := bx0_8.cell 0
  have z8_0_1 : w8.cell? ⟨w.heap.size, 1, none⟩ = some (.slice Agr1 gr.es.length cgr1) := bx0_8.cell 1
  have hgs_8 := hgs_7.up hy8 (by omega)
  have hgr_8 := hgr_7.up hy8 (by omega)
  have hpp_8 := hpp_7.up hy8 (by omega)
  have hr6_8 := hr6_7.up hy8 (by omega)
  have ho6_8 := own_ext ho6_7 hy8
  have hq6_8 := hq6_7.up hy8 (by omega)
  have hp6_8 := own_ext hp6_7 hy8
  have hr7_8 := hr7.up hy8 (by omega)
  have ho7_8 := own_ext ho7 hy8
  obtain ⟨B8_1, d8_1, rfl, hown8⟩ := ho8
  obtain ⟨own8_1, lt8_1⟩ := hown8
  have lb0_8 := bx0_8.lt
  go_wp2_with fail
  have hy9 : Ext w8 (w8.alloc (.cells #[.int .i64 gr.n, .slice B8_1 gr.es.length d8_1] 49)) := (Ext.refl _).alloc _
  have bx1_9 : Blk (w8.alloc (.cells #[.int .i64 gr.n, .slice B8_1 gr.es.length d8_1] 49)) (w8.heap.size) 49 #[.int .i64 gr.n, .slice B8_1 gr.es.length d8_1] := Blk.new _ _ _
  generalize (w8.alloc (.cells #[.int .i64 gr.n, .slice B8_1 gr.es.length d8_1] 49)) = w9 at *
  have lb1 := bx1_9.lt
  have hs81 := Rd.bdl (Rd.own own8_1) (fun g hg => lt8_1 g hg)
  have hrw81 : ∀ g, (Value.slice B8_1 (gr.es.length) d8_1).ownBlock = some g → w7.heap.size ≤ g ∧ g < b8_1 := fun g hg => ⟨(own8_1.lt g hg).1, lt8_1 g hg⟩
  have own81 := own8_1
  have hz9 := hy9.size
  have hx9' := hx8'.trans hy9
  have bx0_9 := bx0_8.ext hy9
  clear z8_0_0 z8_0_1
  have z9_0_0 : w9.cell? ⟨w.heap.size, 0, none⟩ = some (.int .i64 gr.n) := bx0_9.cell 0
  have z9_0_1 : w9.cell? ⟨w.heap.size, 1, none⟩ = some (.slice Agr1 gr.es.length cgr1) := bx0_9.cell 1
  have z9_1_0 : w9.cell? ⟨w8.heap.size, 0, none⟩ = some (.int .i64 gr.n) := bx1_9.cell 0
  have z9_1_1 : w9.cell? ⟨w8.heap.size, 1, none⟩ = some (.slice B8_1 gr.es.length d8_1) := bx1_9.cell 1
  have hgs_9 := hgs_8.up hy9 (by omega)
  have hgr_9 := hgr_8.up hy9 (by omega)
  have hpp_9 := hpp_8.up hy9 (by omega)
  have hr6_9 := hr6_8.up hy9 (by omega)
  have ho6_9 := own_ext ho6_8 hy9
  have hq6_9 := hq6_8.up hy9 (by omega)
  have hp6_9 := own_ext hp6_8 hy9
  have hr7_9 := hr7_8.up hy9 (by omega)
  have ho7_9 := own_ext ho7_8 hy9
  have hr8_9 := hr8.up hy9 (by omega)
  have hs81_9 := hs81.up hy9 (by omega)
  have own81_9 := own_ext own81 hy9
  refine (toIntS_any App npp cpp pp _ (hpp_9.more (by omega)) (by omega)).mono ?_
  rintro e w10 ⟨v10, rfl, ho10, hy10⟩
  obtain ⟨A10, c10, rfl, hr10⟩ := own_slice ho10
  have hlt10 : ∀ g, (Value.slice A10 (npp) c10).ownBlock = some g → w9.heap.size ≤ g ∧ g < w10.heap.size := fun g hg => ho10.lt g hg
  have hz10 := hy10.size
  have hx10' := hx9'.trans hy10
  have bx0_10 := bx0_9.ext hy10
  have bx1_10 := bx1_9.ext hy10
  clear z9_0_0 z9_0_1 z9_1_0 z9_1_1
  have z10_0_0 : w10.cell? ⟨w.heap.size, 0, none⟩ = some (.int .i64 gr.n) := bx0_10.cell 0
  have z10_0_1 : w10.cell? ⟨w.heap.size, 1, none⟩ = some (.slice Agr1 gr.es.length cgr1) := bx0_10.cell 1
  have z10_1_0 : w10.cell? ⟨w8.heap.size, 0, none⟩ = some (.int .i64 gr.n) := bx1_10.cell 0
  have z10_1_1 : w10.cell? ⟨w8.heap.size, 1, none⟩ = some (.slice B8_1 gr.es.length d8_1) := bx1_10.cell 1
  have hgs_10 := hgs_9.up hy10 (by omega)
  have hgr_10 := hgr_9.up hy10 (by omega)
  have hpp_10 := hpp_9.up hy10 (by omega)
  have hr6_10 := hr6_9.up hy10 (by omega)
  have ho6_10 := own_ext ho6_9 hy10
  have hq6_10 := hq6_9.up hy10 (by omega)
  have hp6_10 := own_ext hp6_9 hy10
  have hr7_10 := hr7_9.up hy10 (by omega)
  have ho7_10 := own_ext ho7_9 hy10
  have hr8_10 := hr8_9.up hy10 (by omega)
  have hs81_10 := hs81_9.up hy10 (by omega)
  have own81_10 := own_ext own81_9 hy10
  go_wp2_with fail
  refine (impl_RouteOps_any A7 ngs c7 gs (.agg #[.int .i64 gr.n, .slice B8_1 gr.es.length d8_1]) gr A10 npp c10 pp mode _ (hr7_10.more (by omega)) (by omega) (hr8_10.more (by omega)) (by omega) hokgr.2.2 (hr10.more (by omega)) (by omega) (own_le ho10)).mono ?_
  rintro e w11 ⟨u11, v11, bb11, rfl, ho11, hbb11, hwb11, hp11, hy11⟩
  obtain ⟨hwb11_1, hwb11_2⟩ := hwb11
  obtain ⟨A11, c11, rfl, _⟩ := own_slice ho11
  obtain ⟨D11, d11, rfl, hq11⟩ := own_slice hp11
  have hr11 := Rd.bdl (Rd.own ho11) hbb11
  have hlt11 : ∀ g, (Value.slice A11 (((rosR gr gs pp mode).getD ([], [])).1.length) c11).ownBlock = some g → w10.heap.size ≤ g ∧ g < bb11 := fun g hg => ⟨(ho11.lt g hg).1, hbb11 g hg⟩
  have hlu11 : ∀ g, (Value.slice D11 (((rosR gr gs pp mode).getD ([], [])).2.length) d11).ownBlock = some g → bb11 ≤ g ∧ g < w11.heap.size := fun g hg => hp11.lt g hg
  have hz11 := hy11.size
  have hx11' := hx10'.trans hy11
  have bx0_11 := bx0_10.ext hy11
  have bx1_11 := bx1_10.ext hy11
  clear z10_0_0 z10_0_1 z10_1_0 z10_1_1
  have z11_0_0 : w11.cell? ⟨w.heap.size, 0, none⟩ = some (.int .i64 gr.n) := bx0_11.cell 0
  have z11_0_1 : w11.cell? ⟨w.heap.size, 1, none⟩ = some (.slice Agr1 gr.es.length cgr1) := bx0_11.cell 1
  have z11_1_0 : w11.cell? ⟨w8.heap.size, 0, none⟩ = some (.int .i64 gr.n) := bx1_11.cell 0
  have z11_1_1 : w11.cell? ⟨w8.heap.size, 1, none⟩ = some (.slice B8_1 gr.es.length d8_1) := bx1_11.cell 1
  have hgs_11 := hgs_10.up hy11 (by omega)
  have hgr_11 := hgr_10.up hy11 (by omega)
  have hpp_11 := hpp_10.up hy11 (by omega)
  have hr6_11 := hr6_10.up hy11 (by omega)
  have ho6_11 := own_ext ho6_10 hy11
  have hq6_11 := hq6_10.up hy11 (by omega)
  have hp6_11 := own_ext hp6_10 hy11
  have hr7_11 := hr7_10.up hy11 (by omega)
  have ho7_11 := own_ext ho7_10 hy11
  have hr8_11 := hr8_10.up hy11 (by omega)
  have hs81_11 := hs81_10.up hy11 (by omega)
  have own81_11 := own_ext own81_10 hy11
  have hr10_11 := hr10.up hy11 (by omega)
  have ho10_11 := own_ext ho10 hy11
  go_wp2_with fail
  refine (eqOpS_any A11 A6 (((rosR gr gs pp mode).getD ([], [])).1.length) (((rosR gr gs pp mode).getD ([], [])).1.length) c11 c6 (((rosR gr gs pp mode).getD ([], [])).1) (((rosR gr gs pp mode).getD ([], [])).1) _ (hr11.more (by omega)) (hr6_11.more (by omega)) (by omega) (by omega)).mono ?_
  rintro e w12 ⟨rfl, hy12⟩
  rw [eqL_self eqO eqO_self]
  have hz12 := hy12.size
  have hx12' := hx11'.trans hy12
  have bx0_12 := bx0_11.ext hy12
  have bx1_12 := bx1_11.ext hy12
  clear z11_0_0 z11_0_1 z11_1_0 z11_1_1
  have z12_0_0 : w12.cell? ⟨w.heap.size, 0, none⟩ = some (.int .i64 gr.n) := bx0_12.cell 0
  have z12_0_1 : w12.cell? ⟨w.heap.size, 1, none⟩ = some (.slice Agr1 gr.es.length cgr1) := bx0_12.cell 1
  have z12_1_0 : w12.cell? ⟨w8.heap.size, 0, none⟩ = some (.int .i64 gr.n) := bx1_12.cell 0
  have z12_1_1 : w12.cell? ⟨w8.heap.size, 1, none⟩ = some (.slice B8_1 gr.es.length d8_1) := bx1_12.cell 1
  have hgs_12 := hgs_11.up hy12 (by omega)
  have hgr_12 := hgr_11.up hy12 (by omega)
  have hpp_12 := hpp_11.up hy12 (by omega)
  have hr6_12 := hr6_11.up hy12 (by omega)
  have ho6_12 := own_ext ho6_11 hy12
  have hq6_12 := hq6_11.up hy12 (by omega)
  have hp6_12 := own_ext hp6_11 hy12
  have hr7_12 := hr7_11.up hy12 (by omega)
  have ho7_12 := own_ext ho7_11 hy12
  have hr8_12 := hr8_11.up hy12 (by omega)
  have hs81_12 := hs81_11.up hy12 (by omega)
  have own81_12 := own_ext own81_11 hy12
  have hr10_12 := hr10_11.up hy12 (by omega)
  have ho10_12 := own_ext ho10_11 hy12
  have hr11_12 := hr11.up hy12 (by omega)
  have ho11_12 := own_ext ho11 hy12
  have hq11_12 := hq11.up hy12 (by omega)
  have hp11_12 := own_ext hp11 hy12
  go_wp2_with fail
  refine (eqIntS_any D11 D6 (((rosR gr gs pp mode).getD ([], [])).2.length) (((rosR gr gs pp mode).getD ([], [])).2.length) d11 d6 (((rosR gr gs pp mode).getD ([], [])).2) (((rosR gr gs pp mode).getD ([], [])).2) _ (hq11_12.more (by omega)) (hq6_12.more (by omega)) (by omega) (by omega)).mono ?_
  rintro e w13 ⟨rfl, hy13⟩
  rw [eqL_self eqI eqI_self]
  have hz13 := hy13.size
  have hx13' := hx12'.trans hy13
  have bx0_13 := bx0_12.ext hy13
  have bx1_13 := bx1_12.ext hy13
  clear z12_0_0 z12_0_1 z12_1_0 z12_1_1
  have z13_0_0 : w13.cell? ⟨w.heap.size, 0, none⟩ = some (.int .i64 gr.n) := bx0_13.cell 0
  have z13_0_1 : w13.cell? ⟨w.heap.size, 1, none⟩ = some (.slice Agr1 gr.es.length cgr1) := bx0_13.cell 1
  have z13_1_0 : w13.cell? ⟨w8.heap.size, 0, none⟩ = some (.int .i64 gr.n) := bx1_13.cell 0
  have z13_1_1 : w13.cell? ⟨w8.heap.size, 1, none⟩ = some (.slice B8_1 gr.es.length d8_1) := bx1_13.cell 1
  have hgs_13 := hgs_12.up hy13 (by omega)
  have hgr_13 := hgr_12.up hy13 (by omega)
  have hpp_13 := hpp_12.up hy13 (by omega)
  have hr6_13 := hr6_12.up hy13 (by omega)
  have ho6_13 := own_ext ho6_12 hy13
  have hq6_13 := hq6_12.up hy13 (by omega)
  have hp6_13 := own_ext hp6_12 hy13
  have hr7_13 := hr7_12.up hy13 (by omega)
  have ho7_13 := own_ext ho7_12 hy13
  have hr8_13 := hr8_12.up hy13 (by omega)
  have hs81_13 := hs81_12.up hy13 (by omega)
  have own81_13 := own_ext own81_12 hy13
  have hr10_13 := hr10_12.up hy13 (by omega)
  have ho10_13 := own_ext ho10_12 hy13
  have hr11_13 := hr11_12.up hy13 (by omega)
  have ho11_13 := own_ext ho11_12 hy13
  have hq11_13 := hq11_12.up hy13 (by omega)
  have hp11_13 := own_ext hp11_12 hy13
  go_wp2_with fail
  refine (toOpS_any Ags ngs cgs gs _ (hgs_13.more (by omega)) (by omega)).mono ?_
  rintro e w14 ⟨v14, rfl, ho14, hy14⟩
  obtain ⟨A14, c14, rfl, hr14⟩ := own_slice ho14
  have hlt14 : ∀ g, (Value.slice A14 (ngs) c14).ownBlock = some g → w13.heap.size ≤ g ∧ g < w14.heap.size := fun g hg => ho14.lt g hg
  have hz14 := hy14.size
  have hx14' := hx13'.trans hy14
  have bx0_14 := bx0_13.ext hy14
  have bx1_14 := bx1_13.ext hy14
  clear z13_0_0 z13_0_1 z13_1_0 z13_1_1
  have z14_0_0 : w14.cell? ⟨w.heap.size, 0, none⟩ = some (.int .i64 gr.n) := bx0_14.cell 0
  have z14_0_1 : w14.cell? ⟨w.heap.size, 1, none⟩ = some (.slice Agr1 gr.es.length cgr1) := bx0_14.cell 1
  have z14_1_0 : w14.cell? ⟨w8.heap.size, 0, none⟩ = some (.int .i64 gr.n) := bx1_14.cell 0
  have z14_1_1 : w14.cell? ⟨w8.heap.size, 1, none⟩ = some (.slice B8_1 gr.es.length d8_1) := bx1_14.cell 1
  have hgs_14 := hgs_13.up hy14 (by omega)
  have hgr_14 := hgr_13.up hy14 (by omega)
  have hpp_14 := hpp_13.up hy14 (by omega)
  have hr6_14 := hr6_13.up hy14 (by omega)
  have ho6_14 := own_ext ho6_13 hy14
  have hq6_14 := hq6_13.up hy14 (by omega)
  have hp6_14 := own_ext hp6_13 hy14
  have hr7_14 := hr7_13.up hy14 (by omega)
  have ho7_14 := own_ext ho7_13 hy14
  have hr8_14 := hr8_13.up hy14 (by omega)
  have hs81_14 := hs81_13.up hy14 (by omega)
  have own81_14 := own_ext own81_13 hy14
  have hr10_14 := hr10_13.up hy14 (by omega)
  have ho10_14 := own_ext ho10_13 hy14
  have hr11_14 := hr11_13.up hy14 (by omega)
  have ho11_14 := own_ext ho11_13 hy14
  have hq11_14 := hq11_13.up hy14 (by omega)
  have hp11_14 := own_ext hp11_13 hy14
  go_wp2_with fail
  refine (eqOpS_any A7 A14 (ngs) (ngs) c7 c14 (gs) (gs) _ (hr7_14.more (by omega)) (hr14.more (by omega)) (by omega) (by omega)).mono ?_
  rintro e w15 ⟨rfl, hy15⟩
  rw [eqL_self eqO eqO_self]
  have hz15 := hy15.size
  have hx15' := hx14'.trans hy15
  have bx0_15 := bx0_14.ext hy15
  have bx1_15 := bx1_14.ext hy15
  clear z14_0_0 z14_0_1 z14_1_0 z14_1_1
  have z15_0_0 : w15.cell? ⟨w.heap.size, 0, none⟩ = some (.int .i64 gr.n) := bx0_15.cell 0
  have z15_0_1 : w15.cell? ⟨w.heap.size, 1, none⟩ = some (.slice Agr1 gr.es.length cgr1) := bx0_15.cell 1
  have z15_1_0 : w15.cell? ⟨w8.heap.size, 0, none⟩ = some (.int .i64 gr.n) := bx1_15.cell 0
  have z15_1_1 : w15.cell? ⟨w8.heap.size, 1, none⟩ = some (.slice B8_1 gr.es.length d8_1) := bx1_15.cell 1
  have hgs_15 := hgs_14.up hy15 (by omega)
  have hgr_15 := hgr_14.up hy15 (by omega)
  have hpp_15 := hpp_14.up hy15 (by omega)
  have hr6_15 := hr6_14.up hy15 (by omega)
  have ho6_15 := own_ext ho6_14 hy15
  have hq6_15 := hq6_14.up hy15 (by omega)
  have hp6_15 := own_ext hp6_14 hy15
  have hr7_15 := hr7_14.up hy15 (by omega)
  have ho7_15 := own_ext ho7_14 hy15
  have hr8_15 := hr8_14.up hy15 (by omega)
  have hs81_15 := hs81_14.up hy15 (by omega)
  have own81_15 := own_ext own81_14 hy15
  have hr10_15 := hr10_14.up hy15 (by omega)
  have ho10_15 := own_ext ho10_14 hy15
  have hr11_15 := hr11_14.up hy15 (by omega)
  have ho11_15 := own_ext ho11_14 hy15
  have hq11_15 := hq11_14.up hy15 (by omega)
  have hp11_15 := own_ext hp11_14 hy15
  have hr14_15 := hr14.up hy15 (by omega)
  have ho14_15 := own_ext ho14 hy15
  go_wp2_with fail
  have HK2 : Hid (∀ w', Blk w' (w.heap.size) 57 #[.int .i64 gr.n, .slice Agr1 gr.es.length cgr1] → Blk w' (w8.heap.size) 49 #[.int .i64 gr.n, .slice B8_1 gr.es.length d8_1] → w'.cell? ⟨w.heap.size, 0, none⟩ = some (.int .i64 gr.n) ∧ w'.cell? ⟨w.heap.size, 1, none⟩ = some (.slice Agr1 gr.es.length cgr1) ∧ w'.cell? ⟨w8.heap.size, 0, none⟩ = some (.int .i64 gr.n) ∧ w'.cell? ⟨w8.heap.size, 1, none⟩ = some (.slice B8_1 gr.es.length d8_1)) := fun w' g0 g1 => ⟨g0.cell 0, g0.cell 1, g1.cell 0, g1.cell 1⟩
  have tok0 : True := trivial
  have tok1 : True := trivial
  go_region_held3 (fun w' => w'.cell? ⟨w.heap.size, 0, none⟩ = some (.int .i64 gr.n) ∧ w'.cell? ⟨w.heap.size, 1, none⟩ = some (.slice Agr1 gr.es.length cgr1) ∧ w'.cell? ⟨w8.heap.size, 0, none⟩ = some (.int .i64 gr.n) ∧ w'.cell? ⟨w8.heap.size, 1, none⟩ = some (.slice B8_1 gr.es.length d8_1))
    (first | go_keep | exact HK2.out _ (by assumption) (by assumption))
    (first
            | (go_at_call 34; have _t := tok0; clear tok0 _t; refine (toGraph_own (.agg #[.int .i64 gr.n, .slice Agr1 gr.es.length cgr1]) gr _ ((hgr_15.up (Ext.refl w15).drew (by omega)).more (show _ ≤ w15.heap.size by omega)) hsmgr).mono ?_; rintro e w16 ⟨v16, b16_1, rfl, ho16, hb16, hy16⟩; obtain ⟨hb16_0, hb16_1⟩ := hb16; have hr16 := ho16.at_; replace hy16 : Ext w15 w16 := Ext.trans (Ext.refl w15).drew hy16; have hz16 := hy16.size; have hx16' := hx15'.trans hy16; have bx0_16 := bx0_15.ext hy16; have bx1_16 := bx1_15.ext hy16; clear z15_0_0 z15_0_1 z15_1_0 z15_1_1; have z16_0_0 : w16.cell? ⟨w.heap.size, 0, none⟩ = some (.int .i64 gr.n) := bx0_16.cell 0; have z16_0_1 : w16.cell? ⟨w.heap.size, 1, none⟩ = some (.slice Agr1 gr.es.length cgr1) := bx0_16.cell 1; have z16_1_0 : w16.cell? ⟨w8.heap.size, 0, none⟩ = some (.int .i64 gr.n) := bx1_16.cell 0; have z16_1_1 : w16.cell? ⟨w8.heap.size, 1, none⟩ = some (.slice B8_1 gr.es.length d8_1) := bx1_16.cell 1; have hgs_16 := hgs_15.up hy16 (by omega); have hgr_16 := hgr_15.up hy16 (by omega); have hpp_16 := hpp_15.up hy16 (by omega); have hr6_16 := hr6_15.up hy16 (by omega); have ho6_16 := own_ext ho6_15 hy16; have hq6_16 := hq6_15.up hy16 (by omega); have hp6_16 := own_ext hp6_15 hy16; have hr7_16 := hr7_15.up hy16 (by omega); have ho7_16 := own_ext ho7_15 hy16; have hr8_16 := hr8_15.up hy16 (by omega); have hs81_16 := hs81_15.up hy16 (by omega); have own81_16 := own_ext own81_15 hy16; have hr10_16 := hr10_15.up hy16 (by omega); have ho10_16 := own_ext ho10_15 hy16; have hr11_16 := hr11_15.up hy16 (by omega); have ho11_16 := own_ext ho11_15 hy16; have hq11_16 := hq11_15.up hy16 (by omega); have hp11_16 := own_ext hp11_15 hy16)
            | (go_at_call 39; have _t := tok1; clear tok1 _t; refine (eqGraph_any (.agg #[.int .i64 gr.n, .slice B8_1 gr.es.length d8_1]) v16 gr gr _ (hr8_16.more (by omega)) (hr16.more (by omega)) (by have := hsmgr; unfold Gr.small at this; omega)).mono ?_; rintro e w17 ⟨rfl, hy17⟩; rw [eqGr_self]; have hz17 := hy17.size; have hx17' := hx16'.trans hy17; have bx0_17 := bx0_16.ext hy17; have bx1_17 := bx1_16.ext hy17; clear z16_0_0 z16_0_1 z16_1_0 z16_1_1; have z17_0_0 : w17.cell? ⟨w.heap.size, 0, none⟩ = some (.int .i64 gr.n) := bx0_17.cell 0; have z17_0_1 : w17.cell? ⟨w.heap.size, 1, none⟩ = some (.slice Agr1 gr.es.length cgr1) := bx0_17.cell 1; have z17_1_0 : w17.cell? ⟨w8.heap.size, 0, none⟩ = some (.int .i64 gr.n) := bx1_17.cell 0; have z17_1_1 : w17.cell? ⟨w8.heap.size, 1, none⟩ = some (.slice B8_1 gr.es.length d8_1) := bx1_17.cell 1; have hgs_17 := hgs_16.up hy17 (by omega); have hgr_17 := hgr_16.up hy17 (by omega); have hpp_17 := hpp_16.up hy17 (by omega); have hr6_17 := hr6_16.up hy17 (by omega); have ho6_17 := own_ext ho6_16 hy17; have hq6_17 := hq6_16.up hy17 (by omega); have hp6_17 := own_ext hp6_16 hy17; have hr7_17 := hr7_16.up hy17 (by omega); have ho7_17 := own_ext ho7_16 hy17; have hr8_17 := hr8_16.up hy17 (by omega); have hs81_17 := hs81_16.up hy17 (by omega); have own81_17 := own_ext own81_16 hy17; have hr10_17 := hr10_16.up hy17 (by omega); have ho10_17 := own_ext ho10_16 hy17; have hr11_17 := hr11_16.up hy17 (by omega); have ho11_17 := own_ext ho11_16 hy17; have hq11_17 := hq11_16.up hy17 (by omega); have hp11_17 := own_ext hp11_16 hy17; have hr16_17 := hr16.up hy17 (by omega)))
  go_wp2_with fail
  refine (toIntS_any App npp cpp pp _ (hpp_17.more (by omega)) (by omega)).mono ?_
  rintro e w18 ⟨v18, rfl, ho18, hy18⟩
  obtain ⟨A18, c18, rfl, hr18⟩ := own_slice ho18
  have hlt18 : ∀ g, (Value.slice A18 (npp) c18).ownBlock = some g → w17.heap.size ≤ g ∧ g < w18.heap.size := fun g hg => ho18.lt g hg
  have hz18 := hy18.size
  have hx18' := hx17'.trans hy18
  have bx0_18 := bx0_17.ext hy18
  have bx1_18 := bx1_17.ext hy18
  clear z17_0_0 z17_0_1 z17_1_0 z17_1_1
  have z18_0_0 : w18.cell? ⟨w.heap.size, 0, none⟩ = some (.int .i64 gr.n) := bx0_18.cell 0
  have z18_0_1 : w18.cell? ⟨w.heap.size, 1, none⟩ = some (.slice Agr1 gr.es.length cgr1) := bx0_18.cell 1
  have z18_1_0 : w18.cell? ⟨w8.heap.size, 0, none⟩ = some (.int .i64 gr.n) := bx1_18.cell 0
  have z18_1_1 : w18.cell? ⟨w8.heap.size, 1, none⟩ = some (.slice B8_1 gr.es.length d8_1) := bx1_18.cell 1
  have hgs_18 := hgs_17.up hy18 (by omega)
  have hgr_18 := hgr_17.up hy18 (by omega)
  have hpp_18 := hpp_17.up hy18 (by omega)
  have hr6_18 := hr6_17.up hy18 (by omega)
  have ho6_18 := own_ext ho6_17 hy18
  have hq6_18 := hq6_17.up hy18 (by omega)
  have hp6_18 := own_ext hp6_17 hy18
  have hr7_18 := hr7_17.up hy18 (by omega)
  have ho7_18 := own_ext ho7_17 hy18
  have hs81_18 := hs81_17.up hy18 (by omega)
  have own81_18 := own_ext own81_17 hy18
  have hr10_18 := hr10_17.up hy18 (by omega)
  have ho10_18 := own_ext ho10_17 hy18
  have hr11_18 := hr11_17.up hy18 (by omega)
  have ho11_18 := own_ext ho11_17 hy18
  have hq11_18 := hq11_17.up hy18 (by omega)
  have hp11_18 := own_ext hp11_17 hy18
  go_wp2_with fail
  refine (eqIntS_any A10 A18 (npp) (npp) c10 c18 (pp) (pp) _ (hr10_18.more (by omega)) (hr18.more (by omega)) (by omega) (by omega)).mono ?_
  rintro e w19 ⟨rfl, hy19⟩
  rw [eqL_self eqI eqI_self]
  have hz19 := hy19.size
  have hx19' := hx18'.trans hy19
  have bx0_19 := bx0_18.ext hy19
  have bx1_19 := bx1_18.ext hy19
  clear z18_0_0 z18_0_1 z18_1_0 z18_1_1
  have z19_0_0 : w19.cell? ⟨w.heap.size, 0, none⟩ = some (.int .i64 gr.n) := bx0_19.cell 0
  have z19_0_1 : w19.cell? ⟨w.heap.size, 1, none⟩ = some (.slice Agr1 gr.es.length cgr1) := bx0_19.cell 1
  have z19_1_0 : w19.cell? ⟨w8.heap.size, 0, none⟩ = some (.int .i64 gr.n) := bx1_19.cell 0
  have z19_1_1 : w19.cell? ⟨w8.heap.size, 1, none⟩ = some (.slice B8_1 gr.es.length d8_1) := bx1_19.cell 1
  have hgs_19 := hgs_18.up hy19 (by omega)
  have hgr_19 := hgr_18.up hy19 (by omega)
  have hpp_19 := hpp_18.up hy19 (by omega)
  have hr6_19 := hr6_18.up hy19 (by omega)
  have ho6_19 := own_ext ho6_18 hy19
  have hq6_19 := hq6_18.up hy19 (by omega)
  have hp6_19 := own_ext hp6_18 hy19
  have hr7_19 := hr7_18.up hy19 (by omega)
  have ho7_19 := own_ext ho7_18 hy19
  have hs81_19 := hs81_18.up hy19 (by omega)
  have own81_19 := own_ext own81_18 hy19
  have hr10_19 := hr10_18.up hy19 (by omega)
  have ho10_19 := own_ext ho10_18 hy19
  have hr11_19 := hr11_18.up hy19 (by omega)
  have ho11_19 := own_ext ho11_18 hy19
  have hq11_19 := hq11_18.up hy19 (by omega)
  have hp11_19 := own_ext hp11_18 hy19
  have hr18_19 := hr18.up hy19 (by omega)
  have ho18_19 := own_ext ho18 hy19
  go_wp2_with fail
  refine (markOpS_any A7 (ngs) c7 _ (1) _ _ ho7_19 (by omega) (by omega)).mono ?_
  rintro e w20 ⟨rfl, hk20, hg20⟩
  have hz20 := hg20.size
  have hrow20 : ∀ g, (Value.slice A7 ngs c7).ownBlock = some g → w6.heap.size ≤ g ∧ g < w7.heap.size := hlt7
  have hx20' := hx19'.grown hg20 (fun g hg => by have := hrow20 g hg; omega)
  have bx0_20 := bx0_19.grown hg20 (fun g hg => by have := hrow20 g hg; omega)
  have bx1_20 := bx1_19.grown hg20 (fun g hg => by have := hrow20 g hg; omega)
  clear z19_0_0 z19_0_1 z19_1_0 z19_1_1
  have z20_0_0 : w20.cell? ⟨w.heap.size, 0, none⟩ = some (.int .i64 gr.n) := bx0_20.cell 0
  have z20_0_1 : w20.cell? ⟨w.heap.size, 1, none⟩ = some (.slice Agr1 gr.es.length cgr1) := bx0_20.cell 1
  have z20_1_0 : w20.cell? ⟨w8.heap.size, 0, none⟩ = some (.int .i64 gr.n) := bx1_20.cell 0
  have z20_1_1 : w20.cell? ⟨w8.heap.size, 1, none⟩ = some (.slice B8_1 gr.es.length d8_1) := bx1_20.cell 1
  have hgs_20 := hgs_19.grown hg20 (by omega) (fun g hg => by have := hrow20 g hg; omega)
  have hgr_20 := hgr_19.grown hg20 (by omega) (fun g hg => by have := hrow20 g hg; omega)
  have hpp_20 := hpp_19.grown hg20 (by omega) (fun g hg => by have := hrow20 g hg; omega)
  have hr6_20 := hr6_19.grown hg20 (by omega) (fun g hg => by have := hrow20 g hg; omega)
  have hq6_20 := hq6_19.grown hg20 (by omega) (fun g hg => by have := hrow20 g hg; omega)
  have own81_20 := own_kept own81_19 hg20 (fun g hg => by have := hrow20 g hg; omega)
  have hs81_20 := Rd.bd (Rd.own own81_20) hs81_19 trivial
  have ho10_20 := own_kept ho10_19 hg20 (fun g hg => by have := hrow20 g hg; omega)
  have hr10_20 := Rd.bd (Rd.own ho10_20) hr10_19 trivial
  have ho11_20 := own_kept ho11_19 hg20 (fun g hg => by have := hrow20 g hg; omega)
  have hr11_20 := Rd.bd (Rd.own ho11_20) hr11_19 trivial
  have hp11_20 := own_kept hp11_19 hg20 (fun g hg => by have := hrow20 g hg; omega)
  have hq11_20 := Rd.bd (Rd.own hp11_20) hq11_19 trivial
  have hm20_20 := Rd.bd (Rd.own hk20) hr7_19 trivial
  go_wp2_with fail
  rw [show (1 : Int) + (ngs : Int) * 8 = ((1 + ngs * 8 : Nat) : Int) from by omega]
  refine (markGraph_any _ B8_1 (gr.es.length) d8_1 _ (1 + ngs * 8) _ _ own81_20 (by omega) (by omega)).mono ?_
  rintro e w21 ⟨rfl, hk21, hg21⟩
  have hz21 := hg21.size
  have hrow21 : ∀ g, (Value.slice B8_1 gr.es.length d8_1).ownBlock = some g → w7.heap.size ≤ g ∧ g < b8_1 := hrw81
  have hx21' := hx20'.grown hg21 (fun g hg => by have := hrow21 g hg; omega)
  have bx0_21 := bx0_20.grown hg21 (fun g hg => by have := hrow21 g hg; omega)
  have bx1_21 := bx1_20.grown hg21 (fun g hg => by have := hrow21 g hg; omega)
  clear z20_0_0 z20_0_1 z20_1_0 z20_1_1
  have z21_0_0 : w21.cell? ⟨w.heap.size, 0, none⟩ = some (.int .i64 gr.n) := bx0_21.cell 0
  have z21_0_1 : w21.cell? ⟨w.heap.size, 1, none⟩ = some (.slice Agr1 gr.es.length cgr1) := bx0_21.cell 1
  have z21_1_0 : w21.cell? ⟨w8.heap.size, 0, none⟩ = some (.int .i64 gr.n) := bx1_21.cell 0
  have z21_1_1 : w21.cell? ⟨w8.heap.size, 1, none⟩ = some (.slice B8_1 gr.es.length d8_1) := bx1_21.cell 1
  have hgs_21 := hgs_20.grown hg21 (by omega) (fun g hg => by have := hrow21 g hg; omega)
  have hgr_21 := hgr_20.grown hg21 (by omega) (fun g hg => by have := hrow21 g hg; omega)
  have hpp_21 := hpp_20.grown hg21 (by omega) (fun g hg => by have := hrow21 g hg; omega)
  have hr6_21 := hr6_20.grown hg21 (by omega) (fun g hg => by have := hrow21 g hg; omega)
  have hq6_21 := hq6_20.grown hg21 (by omega) (fun g hg => by have := hrow21 g hg; omega)
  have ho10_21 := own_kept ho10_20 hg21 (fun g hg => by have := hrow21 g hg; omega)
  have hr10_21 := Rd.bd (Rd.own ho10_21) hr10_20 trivial
  have ho11_21 := own_kept ho11_20 hg21 (fun g hg => by have := hrow21 g hg; omega)
  have hr11_21 := Rd.bd (Rd.own ho11_21) hr11_20 trivial
  have hp11_21 := own_kept hp11_20 hg21 (fun g hg => by have := hrow21 g hg; omega)
  have hq11_21 := Rd.bd (Rd.own hp11_21) hq11_20 trivial
  go_wp2_with fail
  rw [show (1 : Int) + (ngs : Int) * 8 + (gr.es.length : Int) * 2 = ((1 + ngs * 8 + gr.es.length * 2 : Nat) : Int) from by omega]
  refine (markIntS_any A10 (npp) c10 _ (1 + ngs * 8 + gr.es.length * 2) _ _ ho10_21 (by omega) (by omega)).mono ?_
  rintro e w22 ⟨rfl, hk22, hg22⟩
  have hz22 := hg22.size
  have hrow22 : ∀ g, (Value.slice A10 npp c10).ownBlock = some g → w9.heap.size ≤ g ∧ g < w10.heap.size := hlt10
  have hx22' := hx21'.grown hg22 (fun g hg => by have := hrow22 g hg; omega)
  have bx0_22 := bx0_21.grown hg22 (fun g hg => by have := hrow22 g hg; omega)
  have bx1_22 := bx1_21.grown hg22 (fun g hg => by have := hrow22 g hg; omega)
  clear z21_0_0 z21_0_1 z21_1_0 z21_1_1
  have z22_0_0 : w22.cell? ⟨w.heap.size, 0, none⟩ = some (.int .i64 gr.n) := bx0_22.cell 0
  have z22_0_1 : w22.cell? ⟨w.heap.size, 1, none⟩ = some (.slice Agr1 gr.es.length cgr1) := bx0_22.cell 1
  have z22_1_0 : w22.cell? ⟨w8.heap.size, 0, none⟩ = some (.int .i64 gr.n) := bx1_22.cell 0
  have z22_1_1 : w22.cell? ⟨w8.heap.size, 1, none⟩ = some (.slice B8_1 gr.es.length d8_1) := bx1_22.cell 1
  have hgs_22 := hgs_21.grown hg22 (by omega) (fun g hg => by have := hrow22 g hg; omega)
  have hgr_22 := hgr_21.grown hg22 (by omega) (fun g hg => by have := hrow22 g hg; omega)
  have hpp_22 := hpp_21.grown hg22 (by omega) (fun g hg => by have := hrow22 g hg; omega)
  have hr6_22 := hr6_21.grown hg22 (by omega) (fun g hg => by have := hrow22 g hg; omega)
  have hq6_22 := hq6_21.grown hg22 (by omega) (fun g hg => by have := hrow22 g hg; omega)
  have ho11_22 := own_kept ho11_21 hg22 (fun g hg => by have := hrow22 g hg; omega)
  have hr11_22 := Rd.bd (Rd.own ho11_22) hr11_21 trivial
  have hp11_22 := own_kept hp11_21 hg22 (fun g hg => by have := hrow22 g hg; omega)
  have hq11_22 := Rd.bd (Rd.own hp11_22) hq11_21 trivial
  have hm22_22 := Rd.bd (Rd.own hk22) hr10_21 trivial
  go_wp2_with fail
  refine (eqOpS_any A11 A6 (((rosR gr gs pp mode).getD ([], [])).1.length) (((rosR gr gs pp mode).getD ([], [])).1.length) c11 c6 (((rosR gr gs pp mode).getD ([], [])).1) (((rosR gr gs pp mode).getD ([], [])).1) _ (hr11_22.more (by omega)) (hr6_22.more (by omega)) (by omega) (by omega)).mono ?_
  rintro e w23 ⟨rfl, hy23⟩
  rw [eqL_self eqO eqO_self]
  have hz23 := hy23.size
  have hx23' := hx22'.trans hy23
  have bx0_23 := bx0_22.ext hy23
  have bx1_23 := bx1_22.ext hy23
  clear z22_0_0 z22_0_1 z22_1_0 z22_1_1
  have z23_0_0 : w23.cell? ⟨w.heap.size, 0, none⟩ = some (.int .i64 gr.n) := bx0_23.cell 0
  have z23_0_1 : w23.cell? ⟨w.heap.size, 1, none⟩ = some (.slice Agr1 gr.es.length cgr1) := bx0_23.cell 1
  have z23_1_0 : w23.cell? ⟨w8.heap.size, 0, none⟩ = some (.int .i64 gr.n) := bx1_23.cell 0
  have z23_1_1 : w23.cell? ⟨w8.heap.size, 1, none⟩ = some (.slice B8_1 gr.es.length d8_1) := bx1_23.cell 1
  have hgs_23 := hgs_22.up hy23 (by omega)
  have hgr_23 := hgr_22.up hy23 (by omega)
  have hpp_23 := hpp_22.up hy23 (by omega)
  have hr6_23 := hr6_22.up hy23 (by omega)
  have hq6_23 := hq6_22.up hy23 (by omega)
  have hr11_23 := hr11_22.up hy23 (by omega)
  have ho11_23 := own_ext ho11_22 hy23
  have hq11_23 := hq11_22.up hy23 (by omega)
  have hp11_23 := own_ext hp11_22 hy23
  go_wp2_with fail
  refine (eqIntS_any D11 D6 (((rosR gr gs pp mode).getD ([], [])).2.length) (((rosR gr gs pp mode).getD ([], [])).2.length) d11 d6 (((rosR gr gs pp mode).getD ([], [])).2) (((rosR gr gs pp mode).getD ([], [])).2) _ (hq11_23.more (by omega)) (hq6_23.more (by omega)) (by omega) (by omega)).mono ?_
  rintro e w24 ⟨rfl, hy24⟩
  rw [eqL_self eqI eqI_self]
  have hz24 := hy24.size
  have hx24' := hx23'.trans hy24
  have bx0_24 := bx0_23.ext hy24
  have bx1_24 := bx1_23.ext hy24
  clear z23_0_0 z23_0_1 z23_1_0 z23_1_1
  have z24_0_0 : w24.cell? ⟨w.heap.size, 0, none⟩ = some (.int .i64 gr.n) := bx0_24.cell 0
  have z24_0_1 : w24.cell? ⟨w.heap.size, 1, none⟩ = some (.slice Agr1 gr.es.length cgr1) := bx0_24.cell 1
  have z24_1_0 : w24.cell? ⟨w8.heap.size, 0, none⟩ = some (.int .i64 gr.n) := bx1_24.cell 0
  have z24_1_1 : w24.cell? ⟨w8.heap.size, 1, none⟩ = some (.slice B8_1 gr.es.length d8_1) := bx1_24.cell 1
  have hgs_24 := hgs_23.up hy24 (by omega)
  have hgr_24 := hgr_23.up hy24 (by omega)
  have hpp_24 := hpp_23.up hy24 (by omega)
  have hr6_24 := hr6_23.up hy24 (by omega)
  have hq6_24 := hq6_23.up hy24 (by omega)
  have hr11_24 := hr11_23.up hy24 (by omega)
  have ho11_24 := own_ext ho11_23 hy24
  have hq11_24 := hq11_23.up hy24 (by omega)
  have hp11_24 := own_ext hp11_23 hy24
  go_wp2_with fail
  refine (markOpS_any A11 (((rosR gr gs pp mode).getD ([], [])).1.length) c11 _ (1) _ _ ho11_24 (by omega) (by omega)).mono ?_
  rintro e w25 ⟨rfl, hk25, hg25⟩
  have hz25 := hg25.size
  have hrow25 : ∀ g, (Value.slice A11 ((rosR gr gs pp mode).getD ([], [])).1.length c11).ownBlock = some g → w10.heap.size ≤ g ∧ g < bb11 := hlt11
  have hx25' := hx24'.grown hg25 (fun g hg => by have := hrow25 g hg; omega)
  have bx0_25 := bx0_24.grown hg25 (fun g hg => by have := hrow25 g hg; omega)
  have bx1_25 := bx1_24.grown hg25 (fun g hg => by have := hrow25 g hg; omega)
  clear z24_0_0 z24_0_1 z24_1_0 z24_1_1
  have z25_0_0 : w25.cell? ⟨w.heap.size, 0, none⟩ = some (.int .i64 gr.n) := bx0_25.cell 0
  have z25_0_1 : w25.cell? ⟨w.heap.size, 1, none⟩ = some (.slice Agr1 gr.es.length cgr1) := bx0_25.cell 1
  have z25_1_0 : w25.cell? ⟨w8.heap.size, 0, none⟩ = some (.int .i64 gr.n) := bx1_25.cell 0
  have z25_1_1 : w25.cell? ⟨w8.heap.size, 1, none⟩ = some (.slice B8_1 gr.es.length d8_1) := bx1_25.cell 1
  have hgs_25 := hgs_24.grown hg25 (by omega) (fun g hg => by have := hrow25 g hg; omega)
  have hgr_25 := hgr_24.grown hg25 (by omega) (fun g hg => by have := hrow25 g hg; omega)
  have hpp_25 := hpp_24.grown hg25 (by omega) (fun g hg => by have := hrow25 g hg; omega)
  have hr6_25 := hr6_24.grown hg25 (by omega) (fun g hg => by have := hrow25 g hg; omega)
  have hq6_25 := hq6_24.grown hg25 (by omega) (fun g hg => by have := hrow25 g hg; omega)
  have hp11_25 := own_kept hp11_24 hg25 (fun g hg => by have := hrow25 g hg; omega)
  have hq11_25 := Rd.bd (Rd.own hp11_25) hq11_24 trivial
  have hm25_25 := Rd.bd (Rd.own hk25) hr11_24 trivial
  go_wp2_with fail
  rw [show (1 : Int) + (((rosR gr gs pp mode).getD ([], [])).1.length : Int) * 8 = ((1 + ((rosR gr gs pp mode).getD ([], [])).1.length * 8 : Nat) : Int) from by omega]
  refine (markIntS_any D11 (((rosR gr gs pp mode).getD ([], [])).2.length) d11 _ (1 + ((rosR gr gs pp mode).getD ([], [])).1.length * 8) _ _ hp11_25 (by omega) (by omega)).mono ?_
  rintro e w26 ⟨rfl, hk26, hg26⟩
  have hz26 := hg26.size
  have hrow26 : ∀ g, (Value.slice D11 ((rosR gr gs pp mode).getD ([], [])).2.length d11).ownBlock = some g → bb11 ≤ g ∧ g < w11.heap.size := hlu11
  have hx26' := hx25'.grown hg26 (fun g hg => by have := hrow26 g hg; omega)
  have bx0_26 := bx0_25.grown hg26 (fun g hg => by have := hrow26 g hg; omega)
  have bx1_26 := bx1_25.grown hg26 (fun g hg => by have := hrow26 g hg; omega)
  clear z25_0_0 z25_0_1 z25_1_0 z25_1_1
  have z26_0_0 : w26.cell? ⟨w.heap.size, 0, none⟩ = some (.int .i64 gr.n) := bx0_26.cell 0
  have z26_0_1 : w26.cell? ⟨w.heap.size, 1, none⟩ = some (.slice Agr1 gr.es.length cgr1) := bx0_26.cell 1
  have z26_1_0 : w26.cell? ⟨w8.heap.size, 0, none⟩ = some (.int .i64 gr.n) := bx1_26.cell 0
  have z26_1_1 : w26.cell? ⟨w8.heap.size, 1, none⟩ = some (.slice B8_1 gr.es.length d8_1) := bx1_26.cell 1
  have hgs_26 := hgs_25.grown hg26 (by omega) (fun g hg => by have := hrow26 g hg; omega)
  have hgr_26 := hgr_25.grown hg26 (by omega) (fun g hg => by have := hrow26 g hg; omega)
  have hpp_26 := hpp_25.grown hg26 (by omega) (fun g hg => by have := hrow26 g hg; omega)
  have hr6_26 := hr6_25.grown hg26 (by omega) (fun g hg => by have := hrow26 g hg; omega)
  have hq6_26 := hq6_25.grown hg26 (by omega) (fun g hg => by have := hrow26 g hg; omega)
  have hm25_26 := hm25_25.grown hg26 (by omega) (fun g hg => by have := hrow26 g hg; omega)
  have hm26_26 := Rd.bd (Rd.own hk26) hq11_25 trivial
  go_wp2_with fail
  refine (heldOpS_any A11 (((rosR gr gs pp mode).getD ([], [])).1.length) c11 (1) _ (hm25_26.more (by omega)) (by omega) (by omega)).mono ?_
  rintro e v ⟨rfl, rfl⟩
  go_wp2_with fail
  refine (heldIntS_at D11 (((rosR gr gs pp mode).getD ([], [])).2.length) d11 _ (1 + ((rosR gr gs pp mode).getD ([], [])).1.length * 8) _ (by omega) (hm26_26.more (by omega)) (by omega) (by omega)).mono ?_
  rintro e v ⟨rfl, rfl⟩
  go_wp2_with fail
  have HK3 : Hid (∀ w', Blk w' (w.heap.size) 57 #[.int .i64 gr.n, .slice Agr1 gr.es.length cgr1] → Blk w' (w8.heap.size) 49 #[.int .i64 gr.n, .slice B8_1 gr.es.length d8_1] → w'.cell? ⟨w.heap.size, 0, none⟩ = some (.int .i64 gr.n) ∧ w'.cell? ⟨w.heap.size, 1, none⟩ = some (.slice Agr1 gr.es.length cgr1) ∧ w'.cell? ⟨w8.heap.size, 0, none⟩ = some (.int .i64 gr.n) ∧ w'.cell? ⟨w8.heap.size, 1, none⟩ = some (.slice B8_1 gr.es.length d8_1)) := fun w' g0 g1 => ⟨g0.cell 0, g0.cell 1, g1.cell 0, g1.cell 1⟩
  have tok0 : True := trivial
  have tok1 : True := trivial
  have tok2 : True := trivial
  have tok3 : True := trivial
  go_region_held3 (fun w' => w'.cell? ⟨w.heap.size, 0, none⟩ = some (.int .i64 gr.n) ∧ w'.cell? ⟨w.heap.size, 1, none⟩ = some (.slice Agr1 gr.es.length cgr1) ∧ w'.cell? ⟨w8.heap.size, 0, none⟩ = some (.int .i64 gr.n) ∧ w'.cell? ⟨w8.heap.size, 1, none⟩ = some (.slice B8_1 gr.es.length d8_1))
    (first | go_keep | exact HK3.out _ (by assumption) (by assumption))
    (first
            | (go_at_call 33; have _t := tok0; clear tok0 _t; refine (toOpS_any Ags ngs cgs gs _ ((hgs_26.up (Ext.refl w26).drew (by omega)).more (show _ ≤ w26.heap.size by omega)) (by omega)).mono ?_; rintro e w27 ⟨v27, rfl, ho27, hy27⟩; obtain ⟨A27, c27, rfl, hr27⟩ := own_slice ho27; have hlt27 : ∀ g, (Value.slice A27 (ngs) c27).ownBlock = some g → w26.heap.size ≤ g ∧ g < w27.heap.size := fun g hg => ho27.lt g hg; replace hy27 : Ext w26 w27 := Ext.trans (Ext.refl w26).drew hy27; have hz27 := hy27.size; have hx27' := hx26'.trans hy27; have bx0_27 := bx0_26.ext hy27; have bx1_27 := bx1_26.ext hy27; clear z26_0_0 z26_0_1 z26_1_0 z26_1_1; have z27_0_0 : w27.cell? ⟨w.heap.size, 0, none⟩ = some (.int .i64 gr.n) := bx0_27.cell 0; have z27_0_1 : w27.cell? ⟨w.heap.size, 1, none⟩ = some (.slice Agr1 gr.es.length cgr1) := bx0_27.cell 1; have z27_1_0 : w27.cell? ⟨w8.heap.size, 0, none⟩ = some (.int .i64 gr.n) := bx1_27.cell 0; have z27_1_1 : w27.cell? ⟨w8.heap.size, 1, none⟩ = some (.slice B8_1 gr.es.length d8_1) := bx1_27.cell 1; have hgs_27 := hgs_26.up hy27 (by omega); have hgr_27 := hgr_26.up hy27 (by omega); have hpp_27 := hpp_26.up hy27 (by omega); have hr6_27 := hr6_26.up hy27 (by omega); have hq6_27 := hq6_26.up hy27 (by omega); have hm25_27 := hm25_26.up hy27 (by omega); have hm26_27 := hm26_26.up hy27 (by omega); have hk26_27 := own_ext hk26 hy27)
            | (go_at_call 34; have _t := tok1; clear tok1 _t; refine (toGraph_own (.agg #[.int .i64 gr.n, .slice Agr1 gr.es.length cgr1]) gr _ (hgr_27.more (by omega)) hsmgr).mono ?_; rintro e w28 ⟨v28, b28_1, rfl, ho28, hb28, hy28⟩; obtain ⟨hb28_0, hb28_1⟩ := hb28; have hr28 := ho28.at_; have hz28 := hy28.size; have hx28' := hx27'.trans hy28; have bx0_28 := bx0_27.ext hy28; have bx1_28 := bx1_27.ext hy28; clear z27_0_0 z27_0_1 z27_1_0 z27_1_1; have z28_0_0 : w28.cell? ⟨w.heap.size, 0, none⟩ = some (.int .i64 gr.n) := bx0_28.cell 0; have z28_0_1 : w28.cell? ⟨w.heap.size, 1, none⟩ = some (.slice Agr1 gr.es.length cgr1) := bx0_28.cell 1; have z28_1_0 : w28.cell? ⟨w8.heap.size, 0, none⟩ = some (.int .i64 gr.n) := bx1_28.cell 0; have z28_1_1 : w28.cell? ⟨w8.heap.size, 1, none⟩ = some (.slice B8_1 gr.es.length d8_1) := bx1_28.cell 1; have hgs_28 := hgs_27.up hy28 (by omega); have hgr_28 := hgr_27.up hy28 (by omega); have hpp_28 := hpp_27.up hy28 (by omega); have hr6_28 := hr6_27.up hy28 (by omega); have hq6_28 := hq6_27.up hy28 (by omega); have hm25_28 := hm25_27.up hy28 (by omega); have hm26_28 := hm26_27.up hy28 (by omega); have hk26_28 := own_ext hk26_27 hy28; have hr27_28 := hr27.up hy28 (by omega); have ho27_28 := own_ext ho27 hy28)
            | (go_at_call 35; have _t := tok2; clear tok2 _t; refine (toIntS_any App npp cpp pp _ (hpp_28.more (by omega)) (by omega)).mono ?_; rintro e w29 ⟨v29, rfl, ho29, hy29⟩; obtain ⟨A29, c29, rfl, hr29⟩ := own_slice ho29; have hlt29 : ∀ g, (Value.slice A29 (npp) c29).ownBlock = some g → w28.heap.size ≤ g ∧ g < w29.heap.size := fun g hg => ho29.lt g hg; have hz29 := hy29.size; have hx29' := hx28'.trans hy29; have bx0_29 := bx0_28.ext hy29; have bx1_29 := bx1_28.ext hy29; clear z28_0_0 z28_0_1 z28_1_0 z28_1_1; have z29_0_0 : w29.cell? ⟨w.heap.size, 0, none⟩ = some (.int .i64 gr.n) := bx0_29.cell 0; have z29_0_1 : w29.cell? ⟨w.heap.size, 1, none⟩ = some (.slice Agr1 gr.es.length cgr1) := bx0_29.cell 1; have z29_1_0 : w29.cell? ⟨w8.heap.size, 0, none⟩ = some (.int .i64 gr.n) := bx1_29.cell 0; have z29_1_1 : w29.cell? ⟨w8.heap.size, 1, none⟩ = some (.slice B8_1 gr.es.length d8_1) := bx1_29.cell 1; have hgs_29 := hgs_28.up hy29 (by omega); have hgr_29 := hgr_28.up hy29 (by omega); have hpp_29 := hpp_28.up hy29 (by omega); have hr6_29 := hr6_28.up hy29 (by omega); have hq6_29 := hq6_28.up hy29 (by omega); have hm25_29 := hm25_28.up hy29 (by omega); have hm26_29 := hm26_28.up hy29 (by omega); have hk26_29 := own_ext hk26_28 hy29; have hr27_29 := hr27_28.up hy29 (by omega); have ho27_29 := own_ext ho27_28 hy29; have hr28_29 := hr28.up hy29 (by omega))
            | (go_at_call 36; have _t := tok3; clear tok3 _t; refine (impl_RouteOps_any A27 ngs c27 gs v28 gr A29 npp c29 pp mode _ (hr27_29.more (by omega)) (by omega) (hr28_29.more (by omega)) (by omega) hokgr.2.2 (hr29.more (by omega)) (by omega) (own_le ho29)).mono ?_; rintro e w30 ⟨u30, v30, bb30, rfl, ho30, hbb30, hwb30, hp30, hy30⟩; obtain ⟨hwb30_1, hwb30_2⟩ := hwb30; obtain ⟨A30, c30, rfl, _⟩ := own_slice ho30; obtain ⟨D30, d30, rfl, hq30⟩ := own_slice hp30; have hr30 := Rd.bdl (Rd.own ho30) hbb30; have hlt30 : ∀ g, (Value.slice A30 (((rosR gr gs pp mode).getD ([], [])).1.length) c30).ownBlock = some g → w29.heap.size ≤ g ∧ g < bb30 := fun g hg => ⟨(ho30.lt g hg).1, hbb30 g hg⟩; have hlu30 : ∀ g, (Value.slice D30 (((rosR gr gs pp mode).getD ([], [])).2.length) d30).ownBlock = some g → bb30 ≤ g ∧ g < w30.heap.size := fun g hg => hp30.lt g hg; have hz30 := hy30.size; have hx30' := hx29'.trans hy30; have bx0_30 := bx0_29.ext hy30; have bx1_30 := bx1_29.ext hy30; clear z29_0_0 z29_0_1 z29_1_0 z29_1_1; have z30_0_0 : w30.cell? ⟨w.heap.size, 0, none⟩ = some (.int .i64 gr.n) := bx0_30.cell 0; have z30_0_1 : w30.cell? ⟨w.heap.size, 1, none⟩ = some (.slice Agr1 gr.es.length cgr1) := bx0_30.cell 1; have z30_1_0 : w30.cell? ⟨w8.heap.size, 0, none⟩ = some (.int .i64 gr.n) := bx1_30.cell 0; have z30_1_1 : w30.cell? ⟨w8.heap.size, 1, none⟩ = some (.slice B8_1 gr.es.length d8_1) := bx1_30.cell 1; have hgs_30 := hgs_29.up hy30 (by omega); have hgr_30 := hgr_29.up hy30 (by omega); have hpp_30 := hpp_29.up hy30 (by omega); have hr6_30 := hr6_29.up hy30 (by omega); have hq6_30 := hq6_29.up hy30 (by omega); have hm25_30 := hm25_29.up hy30 (by omega); have hm26_30 := hm26_29.up hy30 (by omega); have hk26_30 := own_ext hk26_29 hy30; have hr27_30 := hr27_29.up hy30 (by omega); have ho27_30 := own_ext ho27_29 hy30; have hr28_30 := hr28_29.up hy30 (by omega); have hr29_30 := hr29.up hy30 (by omega); have ho29_30 := own_ext ho29 hy30))
  go_wp2_with fail
  refine (eqOpS_any A30 A6 (((rosR gr gs pp mode).getD ([], [])).1.length) (((rosR gr gs pp mode).getD ([], [])).1.length) c30 c6 (((rosR gr gs pp mode).getD ([], [])).1) (((rosR gr gs pp mode).getD ([], [])).1) _ (hr30.more (by omega)) (hr6_30.more (by omega)) (by omega) (by omega)).mono ?_
  rintro e w31 ⟨rfl, hy31⟩
  rw [eqL_self eqO eqO_self]
  have hz31 := hy31.size
  have hx31' := hx30'.trans hy31
  have bx0_31 := bx0_30.ext hy31
  have bx1_31 := bx1_30.ext hy31
  clear z30_0_0 z30_0_1 z30_1_0 z30_1_1
  have z31_0_0 : w31.cell? ⟨w.heap.size, 0, none⟩ = some (.int .i64 gr.n) := bx0_31.cell 0
  have z31_0_1 : w31.cell? ⟨w.heap.size, 1, none⟩ = some (.slice Agr1 gr.es.length cgr1) := bx0_31.cell 1
  have z31_1_0 : w31.cell? ⟨w8.heap.size, 0, none⟩ = some (.int .i64 gr.n) := bx1_31.cell 0
  have z31_1_1 : w31.cell? ⟨w8.heap.size, 1, none⟩ = some (.slice B8_1 gr.es.length d8_1) := bx1_31.cell 1
  have hgs_31 := hgs_30.up hy31 (by omega)
  have hgr_31 := hgr_30.up hy31 (by omega)
  have hpp_31 := hpp_30.up hy31 (by omega)
  have hr6_31 := hr6_30.up hy31 (by omega)
  have hq6_31 := hq6_30.up hy31 (by omega)
  have hm25_31 := hm25_30.up hy31 (by omega)
  have hm26_31 := hm26_30.up hy31 (by omega)
  have hk26_31 := own_ext hk26_30 hy31
  have hr27_31 := hr27_30.up hy31 (by omega)
  have ho27_31 := own_ext ho27_30 hy31
  have hr28_31 := hr28_30.up hy31 (by omega)
  have hr29_31 := hr29_30.up hy31 (by omega)
  have ho29_31 := own_ext ho29_30 hy31
  have hr30_31 := hr30.up hy31 (by omega)
  have ho30_31 := own_ext ho30 hy31
  have hq30_31 := hq30.up hy31 (by omega)
  have hp30_31 := own_ext hp30 hy31
  go_wp2_with fail
  refine (eqIntS_any D30 D6 (((rosR gr gs pp mode).getD ([], [])).2.length) (((rosR gr gs pp mode).getD ([], [])).2.length) d30 d6 (((rosR gr gs pp mode).getD ([], [])).2) (((rosR gr gs pp mode).getD ([], [])).2) _ (hq30_31.more (by omega)) (hq6_31.more (by omega)) (by omega) (by omega)).mono ?_
  rintro e w32 ⟨rfl, hy32⟩
  rw [eqL_self eqI eqI_self]
  have hz32 := hy32.size
  have hx32' := hx31'.trans hy32
  have bx0_32 := bx0_31.ext hy32
  have bx1_32 := bx1_31.ext hy32
  clear z31_0_0 z31_0_1 z31_1_0 z31_1_1
  have z32_0_0 : w32.cell? ⟨w.heap.size, 0, none⟩ = some (.int .i64 gr.n) := bx0_32.cell 0
  have z32_0_1 : w32.cell? ⟨w.heap.size, 1, none⟩ = some (.slice Agr1 gr.es.length cgr1) := bx0_32.cell 1
  have z32_1_0 : w32.cell? ⟨w8.heap.size, 0, none⟩ = some (.int .i64 gr.n) := bx1_32.cell 0
  have z32_1_1 : w32.cell? ⟨w8.heap.size, 1, none⟩ = some (.slice B8_1 gr.es.length d8_1) := bx1_32.cell 1
  have hgs_32 := hgs_31.up hy32 (by omega)
  have hgr_32 := hgr_31.up hy32 (by omega)
  have hpp_32 := hpp_31.up hy32 (by omega)
  have hr6_32 := hr6_31.up hy32 (by omega)
  have hq6_32 := hq6_31.up hy32 (by omega)
  have hm25_32 := hm25_31.up hy32 (by omega)
  have hm26_32 := hm26_31.up hy32 (by omega)
  have hk26_32 := own_ext hk26_31 hy32
  have hr27_32 := hr27_31.up hy32 (by omega)
  have ho27_32 := own_ext ho27_31 hy32
  have hr28_32 := hr28_31.up hy32 (by omega)
  have hr29_32 := hr29_31.up hy32 (by omega)
  have ho29_32 := own_ext ho29_31 hy32
  have hr30_32 := hr30_31.up hy32 (by omega)
  have ho30_32 := own_ext ho30_31 hy32
  have hq30_32 := hq30_31.up hy32 (by omega)
  have hp30_32 := own_ext hp30_31 hy32
  go_wp2_with fail
  refine (heldOpS_any A11 (((rosR gr gs pp mode).getD ([], [])).1.length) c11 (1) _ (hm25_32.more (by omega)) (by omega) (by omega)).mono ?_
  rintro e v ⟨rfl, rfl⟩
  go_wp2_with fail
  refine (heldIntS_at D11 (((rosR gr gs pp mode).getD ([], [])).2.length) d11 _ (1 + ((rosR gr gs pp mode).getD ([], [])).1.length * 8) _ (by omega) (hm26_32.more (by omega)) (by omega) (by omega)).mono ?_
  rintro e v ⟨rfl, rfl⟩
  go_wp2
  go_ret
  exact ⟨rfl, hx32'⟩
set_option maxRecDepth 100000 in
theorem lifted (os : Os) (started : os.Started) (H : Type) (enc : TypeId × Value → H) :
    ReturnsInHanded {} Try.checked os 7 .any (Rows.fnExactRouteOpsSpec.pre6 enc Try.prog Try.f7 Rows.fnExactRouteOpsRow.domain false) (Rows.fnExactRouteOpsSpec.post enc Try.prog Try.f7 false true false false) := by
  refine returnsInHanded_of_change (C := Try.checked) own started (by kernel_rfl) Try.func7
    (ChangeSpec.witness6 (enc := enc) (C := Try.checked) false ⟨#[], #[.slice none 0 0, .agg #[.int .i64 0, .slice none 0 0], .slice none 0 0, .int .i64 0], []⟩ 8 (by kernel_rfl) (by kernel_rfl) (by kernel_rfl) (by kernel_rfl)) ?_
  intro W base args ds gs before hval0 hW hcnd _
  have hval : ∀ (j : Nat) t v, Try.f7.params[j]? = some t → args[j]? = some v → Value.okWide Try.prog W .any base t v := hval0
  have hW' := hW
  obtain ⟨p, q, hA0, hV, rfl, hfz, hnd⟩ := hW
  have hA : DataW.TrodAll enc Try.prog W 0 (fun _ => true) true Try.f7.params.toList args.toList ds p := hA0
  rw [Try.params7] at hA hval
  obtain ⟨v0, vs0, d0, ds0, p0, q0, hargs, rfl, rfl, h0, r0⟩ := trodAll_cons hA
  obtain ⟨v1, vs1, d1, ds1, p1, q1, rfl, rfl, rfl, h1, r1⟩ := trodAll_cons r0
  obtain ⟨v2, vs2, d2, ds2, p2, q2, rfl, rfl, rfl, h2, r2⟩ := trodAll_cons r1
  obtain ⟨v3, vs3, d3, ds3, p3, q3, rfl, rfl, rfl, h3, r3⟩ := trodAll_cons r2
  obtain ⟨rfl, rfl, rfl⟩ := trodAll_nil r3
  obtain rfl : args = #[v0, v1, v2, v3] := by cases args; simp_all
  clear hA0 hval0 hfz hnd hV hcnd
  obtain ⟨Ags, ngs, cgs, gs, rfl, hnc0, hcm0, hr0, hok0⟩ := open_lops (hval 0 _ v0 rfl rfl) h0
  obtain ⟨gr, hr1, hok1⟩ := open_lgraph (hval 1 _ v1 rfl rfl) h1
  obtain ⟨App, npp, cpp, pp, rfl, hnc2, hcm2, hr2, hok2⟩ := open_lints (hval 2 _ v2 rfl rfl) h2
  obtain ⟨mode, rfl, rfl, rfl, wf3⟩ := open_int Try.underlying3 (hval 3 _ v3 rfl rfl) h3
  refine (walk Ags ngs cgs gs v1 gr App npp cpp pp mode W hr0 (by omega) hok0 hr1 hok1 hr2 (by omega) hok2 (wf_i64 wf3)).mono fun e W' ⟨he, hx⟩ => ?_
  subst he
  exact ⟨_, rfl, law_post rfl (by rw [Try.params7]; decide +kernel) rfl hW' rfl rfl rfl hx⟩

theorem over : Rows.fnExactRouteOpsRow.holds Try.pinned (OpenSpec.ofChange Rows.fnExactRouteOpsSpec) :=
  OpenClaim.holds_of_wide 7 Try.f7 rfl rfl rfl rfl rfl rfl rfl ⟨rfl, rfl, rfl, rfl, rfl⟩ rfl rfl rfl rfl rfl (by kernel_rfl) Try.func7 (by kernel_rfl)
    (of_decide_eq_true (by kernel_rfl)) (by unfold Func.isWrapper; first | (rw [if_pos (by decide +kernel)]; kernel_rfl) | (rw [if_neg (by decide +kernel)]; exact ⟨rfl, rfl⟩))
    (fun os started H enc _ => lifted os started H enc)

/-- The statement. -/
theorem proved : Rows.FnExactRouteOpsSaid := over
#print axioms proved

end fnExactRouteOps
end Go.Proofs.Ytnemoemdanidbaa
