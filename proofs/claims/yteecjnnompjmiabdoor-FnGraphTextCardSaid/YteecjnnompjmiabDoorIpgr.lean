/-
  Helper text (no claim of its own): a graph read out of a text, by the program. Printed by gen_ipgr.py.
-/
import Derived.Test.YteecjnnompjmiabDoorSpgr
namespace Go.Proofs.YteecjnnompjmiabDoor
open Go.ChangeShapes Go.WideShapes Go.ChangeAt Go.RowKit Go.Deep
set_option linter.unusedVariables false
set_option linter.unusedSimpArgs false
set_option maxRecDepth 100000 in
set_option maxHeartbeats 8000000 in
theorem impl_ParseGraph_any (s : ByteArray) (hs : s.size ≤ 1500000) (w : World) (hw : PW w) : Calls Tryd.prog 7 #[.string s] w fun e w' => GraphRes s w.heap.size e w' ∧ Ext w w' := by
  have HPW := Lib.hid hw
  clear hw
  go_enter Tryd.func7, Tryd.ntmps7
  go_wp2_with fail
  refine (impl_SplitByte_any s 32 32 rfl _ (HPW.out.ext (by repeat (first | exact Ext.refl _ | assumption | refine Ext.alloc ?_ _ | refine Ext.drewN ?_ _ | refine Ext.drew ?_))).max (by omega)).mono ?_
  rintro e w1 ⟨b, rfl, hr1, hx1⟩
  have hcn := cut_ne 32 s
  have hcl := cut_len 32 s
  obtain ⟨b', o', hbo, hb, hys⟩ := strs_getD hr1 hcn
  injection hbo with hbo; injection hbo with e1 e2; subst e1 e2
  have HB2 : Hid (Blk w1 w.heap.size 26 #[.int .i64 0, .slice none 0 0]) := (Blk.new w _ _).ext hx1
  have HX1 : Hid (Ext w w1) := Ext.trans ((Ext.refl w).alloc _) hx1
  have HY : Hid (∀ w', Ext w1 w' → ∀ i, i < (cut 32 s).length → w'.cell? ⟨b, i, none⟩ = some (.string ((cut 32 s).getD i ⟨#[]⟩))) := fun w' q i hi => by have := (hys i hi).2; rw [Nat.zero_add] at this; exact (q.cell (p := ⟨b, i, none⟩) hb).trans this
  have HYS : Hid (∀ i, i < (cut 32 s).length → (cut 32 s)[i]? = some ((cut 32 s).getD i ⟨#[]⟩)) := fun i hi => (hys i hi).1
  have hsz : ∀ y ∈ cut 32 s, y.size ≤ 1500000 := fun y hy => by have := cut_size hy; omega
  have HZ : Hid (∀ i, ((cut 32 s).getD i ⟨#[]⟩).size ≤ 1500000) := size_getD hsz
  obtain ⟨m, hm⟩ : ∃ m, (cut 32 s).length = m := ⟨_, rfl⟩
  rw [hm] at HY HYS hcn hcl ⊢
  have HM := Lib.hid hm
  have hm0 : (0 : Int) < (m : Int) := by omega
  have HMB : Hid (m ≤ 1500001) := by unfold Hid; omega
  have HL : Hid (w.heap.size < w1.heap.size) := HB2.out.lt
  clear hm hsz hys hr1 hx1 hb hcl
  go_upto_region 3 with (fail)
  have D0 : Hid (DP w1 (w1.alloc (.cells #[.int .i64 0, .slice none 0 0] 26)) w1.heap.size 0 none 0 0 []) := ⟨Blk.new _ _ _, own_nil_ _ _ _, (Ext.refl _).alloc _, Nat.le_refl _⟩
  have r0' : (w1.alloc (.cells #[.int .i64 0, .slice none 0 0] 26)).cell? ⟨b, 0, none⟩ = some (.string ((cut 32 s).getD 0 ⟨#[]⟩)) := HY.out _ D0.out.x 0 hcn
  clear hcn
  generalize w1.alloc (.cells #[.int .i64 0, .slice none 0 0] 26) = W at *
  obtain ⟨g, hg⟩ : ∃ g, w1.heap.size = g := ⟨_, rfl⟩
  have HGG := Lib.hid hg
  rw [hg] at D0 HL ⊢
  clear hg
  have HZ0 := Lib.hid (HZ.out 0)
  obtain ⟨y0, hy0⟩ : ∃ y0, (cut 32 s).getD 0 ⟨#[]⟩ = y0 := ⟨_, rfl⟩
  rw [hy0] at r0' HZ0
  have HY0 := Lib.hid hy0
  clear hy0
  go_wp2_with fail
  refine (impl_ParseNumber_any y0 (Nat.le_trans HZ0.out (by decide)) _ (HPW.out.ext (HX1.out.trans D0.out.x))).mono ?_
  rintro e v2 ⟨⟨N, okN, rfl, hpN⟩, hv2⟩
  have HPN := Lib.hid hpN
  have D1 : Hid (DP w1 v2 g 0 none 0 0 []) := D0.out.ext hv2
  clear hpN hv2 r0' D0
  have c0 : v2.cell? ⟨g, 0, none⟩ = some (.int .i64 0) := D1.out.b.cell 0
  have f0 : v2.frozen? ⟨g, 0, none⟩ = false := D1.out.b.frozen 0
  go_upto_region 4 with (fail)
  clear c0 f0
  have D2 : Hid (DP w1 (v2.setCell ⟨g, 0, none⟩ (.int .i64 N)) g N none 0 0 []) := D1.out.setN N
  clear D1
  generalize v2.setCell ⟨g, 0, none⟩ (.int .i64 N) = W2 at *
  by_cases h1 : m = 1
  · subst h1
    go_wp2
    go_loopw [27] (fun iv wr => ∃ (k : Nat) (A : Option Addr) (cap : Nat) (xs : List Ed), iv = .int .i64 k ∧ k = 0 ∧ Hid (DP w1 wr g N A k cap xs) ∧ Hid (RE ((cut 32 s).drop 1) xs)) (fun i _ => 1 - (intOf i).toNat)
    case atStart => exact ⟨0, none, 0, [], rfl, rfl, D2, RE.nil _⟩
    case round =>
      obtain ⟨k, A, cap, xs, rfl, rfl, DD, RR⟩ := hrel
      clear D2
      have HS : Hid (∀ y : Gr, vgraph y = true → s = fmtG y → (⟨N, xs⟩ : Gr) = y) := fun y hv he => graph_same (by rw [HY0.out]; exact HPN.out) RR.out (by left; rw [DD.out.len_, List.length_drop, HM.out]) y hv he
      have HKB : Hid (0 ≤ 2000000) := Nat.zero_le _
      have HOK := Lib.hid RR.out.ok
      have d0 : wr.cell? ⟨g, 0, none⟩ = some (.int .i64 N) := DD.out.b.cell 0
      have d1 : wr.cell? ⟨g, 1, none⟩ = some (.slice A 0 cap) := DD.out.b.cell 1
      go_wp2_with fail
      refine (impl_IsValidGraph_any _ ⟨N, xs⟩ _ DD.out.at_ (by have := DD.out.len_; have := HKB.out; show xs.length ≤ _; omega) HOK.out).mono ?_
      rintro e v7 ⟨rfl, hx7⟩
      have D7 := Lib.hid (DD.out.ext hx7)
      clear hx7 d0 d1 DD
      obtain ⟨vv, hvv⟩ : ∃ vv, vgraph ⟨N, xs⟩ = vv := ⟨_, rfl⟩
      rw [hvv]
      cases vv
      · have HN : Hid (∀ y : Gr, vgraph y = true → s ≠ fmtG y) := graph_none_bad HS.out hvv
        clear hvv
        obtain ⟨⟨a0, a1⟩, z0, z1⟩ := cells2 (HB2.out.ext D7.out.x)
        go_wp2
        exact bodyPost_ret (v := .tuple #[.agg #[.int .i64 0, .slice none 0 0], .bool false]) (ret_pair rfl _ _ _ _ _ _ _ rfl rfl ((HB2.out.ext D7.out.x).put2 (.int .i64 0) (.slice none 0 0)) Tryd.underlying26 rfl Tryd.sizeGraphR) rfl ⟨graphRes_no rfl (ext_put2 (HX1.out.trans D7.out.x) (Nat.le_refl _) _ _).size HN.out, ext_put2 (HX1.out.trans D7.out.x) (Nat.le_refl _) _ _⟩
      · have HV := Lib.hid hvv
        clear hvv
        have d0 : v7.cell? ⟨g, 0, none⟩ = some (.int .i64 N) := D7.out.b.cell 0
        have d1 : v7.cell? ⟨g, 1, none⟩ = some (.slice A 0 cap) := D7.out.b.cell 1
        go_wp2_with fail
        refine (impl_FormatGraph_any _ ⟨N, xs⟩ _ D7.out.at_ (by have := D7.out.len_; have := HKB.out; show xs.length ≤ _; omega) HOK.out).mono ?_
        rintro e v9 ⟨rfl, hy9⟩
        have D9 := Lib.hid (D7.out.ext hy9)
        clear hy9 d0 d1 D7
        obtain ⟨⟨a0, a1⟩, z0, z1⟩ := cells2 (HB2.out.ext D9.out.x)
        obtain ⟨os, hos⟩ : ∃ os, fmtG ⟨N, xs⟩ = os := ⟨_, rfl⟩
        rw [hos]
        have HOS := Lib.hid hos
        clear hos
        obtain ⟨qq, hqq⟩ : ∃ qq, (ByteArray.toList os == ByteArray.toList s) = qq := ⟨_, rfl⟩
        cases qq
        · have HN : Hid (∀ y : Gr, vgraph y = true → s ≠ fmtG y) := graph_none_other HS.out (by rw [HOS.out]; exact hqq)
          go_wp2
          exact bodyPost_ret (v := .tuple #[.agg #[.int .i64 0, .slice none 0 0], .bool false]) (ret_pair rfl _ _ _ _ _ _ _ rfl rfl ((HB2.out.ext D9.out.x).put2 (.int .i64 0) (.slice none 0 0)) Tryd.underlying26 rfl Tryd.sizeGraphR) rfl ⟨graphRes_no rfl (ext_put2 (HX1.out.trans D9.out.x) (Nat.le_refl _) _ _).size HN.out, ext_put2 (HX1.out.trans D9.out.x) (Nat.le_refl _) _ _⟩
        · have HQ := Lib.hid (str_beq.1 hqq)
          have HSZ : Hid (s ≠ ⟨#[]⟩) := fun h => graph_none_empty h _ HV.out (HOS.out.trans HQ.out).symm
          have d0 : v9.cell? ⟨g, 0, none⟩ = some (.int .i64 N) := D9.out.b.cell 0
          have d1 : v9.cell? ⟨g, 1, none⟩ = some (.slice A 0 cap) := D9.out.b.cell 1
          go_wp2
          exact bodyPost_ret (v := .tuple #[.agg #[.int .i64 N, .slice A 0 cap], .bool true]) (ret_pair rfl _ _ _ _ _ _ _ rfl rfl ((HB2.out.ext D9.out.x).put2 (.int .i64 N) (.slice A 0 cap)) Tryd.underlying26 rfl Tryd.sizeGraphR) rfl ⟨graphRes_yes D9.out HL.out _ (Nat.le_of_lt HL.out) HKB.out rfl HSZ.out (HOS.out.trans HQ.out) HS.out, ext_put2 (HX1.out.trans D9.out.x) (Nat.le_refl _) _ _⟩
  have hm2 : 2 ≤ m := by omega
  have hm1 : (1 : Int) < (m : Int) := by omega
  obtain ⟨n1, hn1⟩ : ∃ n1, m = n1 + 1 := ⟨m - 1, by omega⟩
  subst hn1
  have hn0 : ¬ (n1 = 0) := by omega
  go_wp2
  clear hm0 h1 hm2 hm1
  go_loopw [27] (fun iv wr => ∃ (k : Nat) (A : Option Addr) (cap : Nat) (xs : List Ed), iv = .int .i64 k ∧ k ≤ n1 ∧ Hid (DP w1 wr g N A k cap xs) ∧ Hid (RE ((cut 32 s).drop 1) xs)) (fun i _ => n1 - (intOf i).toNat)
  case atStart => exact ⟨0, none, 0, [], rfl, Nat.zero_le _, D2, RE.nil _⟩
  case round =>
    obtain ⟨k, A, cap, xs, rfl, hk, DD, RR⟩ := hrel
    clear D2
    by_cases hlt : k < n1
    · have hki : (k : Int) < (n1 : Int) := by omega
      have hk0 : (0 : Int) ≤ (k : Int) := by omega
      obtain ⟨t, ht⟩ : ∃ t, (cut 32 s).getD (k + 1) ⟨#[]⟩ = t := ⟨_, rfl⟩
      have HT : Hid (((cut 32 s).drop 1)[k]? = some t) := by unfold Hid; rw [List.getElem?_drop, Nat.add_comm, HYS.out (k + 1) (by omega), ht]
      have HTZ : Hid (t.size ≤ 1500000) := by unfold Hid; rw [← ht]; exact HZ.out _
      have q1 : wr.cell? ⟨b, 1 + k, none⟩ = some (.string t) := by rw [← ht, Nat.add_comm]; exact HY.out _ DD.out.x (k + 1) (by omega)
      have HLT : Hid (k < n1) := hlt
      clear ht hlt hk
      go_wp2_with fail
      refine (impl_SplitByte_any t 45 45 rfl _ (HPW.out.ext (HX1.out.trans DD.out.x)).max (Nat.le_trans HTZ.out (by decide))).mono ?_
      rintro e w3 ⟨b3, rfl, hr3, hx3⟩
      have hn3 := cut_ne 45 t
      obtain ⟨b3', o3', hbo3, hb3, hys3⟩ := strs_getD hr3 hn3
      injection hbo3 with hbo3; injection hbo3 with e1 e2; subst e1 e2
      have D3 : Hid (DP w1 w3 g N A k cap xs) := DD.out.ext hx3
      have HZ3 : Hid (∀ i, ((cut 45 t).getD i ⟨#[]⟩).size ≤ 2000000) := size_getD (fun y hy => by have := cut_size hy; have := HTZ.out; omega)
      obtain ⟨j, hj⟩ : ∃ j, (cut 45 t).length = j := ⟨_, rfl⟩
      rw [hj] at hys3 hn3 ⊢
      have HJ := Lib.hid hj
      have Y3 : Hid (∀ w', Ext w3 w' → ∀ i, i < j → w'.cell? ⟨b3, i, none⟩ = some (.string ((cut 45 t).getD i ⟨#[]⟩))) := fun w' q i hi => by have := (hys3 i hi).2; rw [Nat.zero_add] at this; exact (q.cell (p := ⟨b3, i, none⟩) hb3).trans this
      clear hj hys3 hr3 hx3 hb3 hn3 q1 DD
      by_cases hj2 : j = 2
      rotate_left
      · have hjn : ((j : Int) != 2) = true := by simp; omega
        have HN : Hid (∀ y : Gr, vgraph y = true → s ≠ fmtG y) := no_graph HT.out (fun y ya yb he => by have := HJ.out; rw [he, ew_cut ya yb] at this; simp at this; omega)
        clear hj2
        obtain ⟨⟨a0, a1⟩, z0, z1⟩ := cells2 (HB2.out.ext D3.out.x)
        go_wp2
        exact bodyPost_ret (v := .tuple #[.agg #[.int .i64 0, .slice none 0 0], .bool false]) (ret_pair rfl _ _ _ _ _ _ _ rfl rfl ((HB2.out.ext D3.out.x).put2 (.int .i64 0) (.slice none 0 0)) Tryd.underlying26 rfl Tryd.sizeGraphR) rfl ⟨graphRes_no rfl (ext_put2 (HX1.out.trans D3.out.x) (Nat.le_refl _) _ _).size HN.out, ext_put2 (HX1.out.trans D3.out.x) (Nat.le_refl _) _ _⟩
      subst hj2
      obtain ⟨h0, hh0⟩ : ∃ h0, (cut 45 t).getD 0 ⟨#[]⟩ = h0 := ⟨_, rfl⟩
      obtain ⟨h1, hh1⟩ : ∃ h1, (cut 45 t).getD 1 ⟨#[]⟩ = h1 := ⟨_, rfl⟩
      have Z0 : Hid (h0.size ≤ 2000000000000) := by unfold Hid; rw [← hh0]; exact Nat.le_trans (HZ3.out _) (by decide)
      have Z1 : Hid (h1.size ≤ 2000000000000) := by unfold Hid; rw [← hh1]; exact Nat.le_trans (HZ3.out _) (by decide)
      have HH0 := Lib.hid hh0
      have HH1 := Lib.hid hh1
      clear hh0 hh1
      have q0 : w3.cell? ⟨b3, 0, none⟩ = some (.string h0) := by rw [← HH0.out]; exact Y3.out _ (Ext.refl _) 0 (by omega)
      go_wp2_with fail
      refine (impl_ParseNumber_any h0 Z0.out _ (HPW.out.ext (HX1.out.trans D3.out.x))).mono ?_
      rintro e u1 ⟨⟨na, oka, rfl, hpa⟩, hu1⟩
      have HPA := Lib.hid hpa
      have HU1 := Lib.hid hu1
      clear hpa hu1 q0
      have D4 : Hid (DP w1 u1 g N A k cap xs) := D3.out.ext HU1.out
      have q0 : u1.cell? ⟨b3, 1, none⟩ = some (.string h1) := by rw [← HH1.out]; exact Y3.out _ HU1.out 1 (by omega)
      go_wp2_with fail
      refine (impl_ParseNumber_any h1 Z1.out _ (HPW.out.ext (HX1.out.trans D4.out.x))).mono ?_
      rintro e u3 ⟨⟨nb, okb, rfl, hpb⟩, hu3⟩
      have HPB := Lib.hid hpb
      have D5 : Hid (DP w1 u3 g N A k cap xs) := D4.out.ext hu3
      clear hpb hu3 q0 D3 D4
      cases oka
      · have HN : Hid (∀ y : Gr, vgraph y = true → s ≠ fmtG y) := no_graph HT.out (fun y ya yb he => by
          have e1 := HH0.out
          rw [he, ew_cut ya yb] at e1
          have := (HPA.out.2.2 y.a ya.1 (by omega) e1.symm).2
          cases this)
        obtain ⟨⟨a0, a1⟩, z0, z1⟩ := cells2 (HB2.out.ext D5.out.x)
        go_wp2
        exact bodyPost_ret (v := .tuple #[.agg #[.int .i64 0, .slice none 0 0], .bool false]) (ret_pair rfl _ _ _ _ _ _ _ rfl rfl ((HB2.out.ext D5.out.x).put2 (.int .i64 0) (.slice none 0 0)) Tryd.underlying26 rfl Tryd.sizeGraphR) rfl ⟨graphRes_no rfl (ext_put2 (HX1.out.trans D5.out.x) (Nat.le_refl _) _ _).size HN.out, ext_put2 (HX1.out.trans D5.out.x) (Nat.le_refl _) _ _⟩
      cases okb
      · have HN : Hid (∀ y : Gr, vgraph y = true → s ≠ fmtG y) := no_graph HT.out (fun y ya yb he => by
          have e1 := HH1.out
          rw [he, ew_cut ya yb] at e1
          have := (HPB.out.2.2 y.b yb.1 (by omega) e1.symm).2
          cases this)
        obtain ⟨⟨a0, a1⟩, z0, z1⟩ := cells2 (HB2.out.ext D5.out.x)
        go_wp2
        exact bodyPost_ret (v := .tuple #[.agg #[.int .i64 0, .slice none 0 0], .bool false]) (ret_pair rfl _ _ _ _ _ _ _ rfl rfl ((HB2.out.ext D5.out.x).put2 (.int .i64 0) (.slice none 0 0)) Tryd.underlying26 rfl Tryd.sizeGraphR) rfl ⟨graphRes_no rfl (ext_put2 (HX1.out.trans D5.out.x) (Nat.le_refl _) _ _).size HN.out, ext_put2 (HX1.out.trans D5.out.x) (Nat.le_refl _) _ _⟩
      have HER : Hid (ER t ⟨na, nb⟩) := by
        refine er_of (by rw [HH0.out]; exact HPA.out) (fun y ya yb he => ?_) ⟨HPB.out.1, HPB.out.2.1⟩
        have e3 := HH1.out
        rw [he, ew_cut ya yb] at e3
        exact (HPB.out.2.2 y.b yb.1 (by omega) e3.symm).1
      have a2 : u3.cell? ⟨g, 1, none⟩ = some (.slice A k cap) := D5.out.b.cell 1
      have hkk : (k : Int) ≤ 2000000 := by have := HMB.out; have := HLT.out; omega
      have K9 : Hid (k ≤ 90000000) := by have := HMB.out; have := HLT.out; unfold Hid; omega
      go_wp2_with (at_builtin; refine D5.out.app rfl _ _ rfl rfl ⟨na, nb⟩ _ _ rfl rfl K9.out ?_; intro A' c' w9 hb9 hD9; have c0 : w9.cell? ⟨g, 1, none⟩ = some (.slice A k cap) := hb9.cell 1; have f0 : w9.frozen? ⟨g, 1, none⟩ = false := hb9.frozen 1)
      go_roundw
      case rel => exact ⟨k + 1, A', c', xs ++ [(⟨na, nb⟩ : Ed)], by go_num, by have := HLT.out; omega, Lib.hid hD9, Lib.hid (RR.out.snoc D5.out.len_ HT.out HER.out)⟩
      case measure => simp [intOf]; have := HLT.out; omega
    · have hki : ¬ ((k : Int) < (n1 : Int)) := by omega
      have HS : Hid (∀ y : Gr, vgraph y = true → s = fmtG y → (⟨N, xs⟩ : Gr) = y) := fun y hv he => graph_same (by rw [HY0.out]; exact HPN.out) RR.out (by left; rw [DD.out.len_, List.length_drop, HM.out]; omega) y hv he
      have HKB : Hid (k ≤ 2000000) := by have := HMB.out; unfold Hid; omega
      clear hk hlt
      have HOK := Lib.hid RR.out.ok
      have d0 : wr.cell? ⟨g, 0, none⟩ = some (.int .i64 N) := DD.out.b.cell 0
      have d1 : wr.cell? ⟨g, 1, none⟩ = some (.slice A k cap) := DD.out.b.cell 1
      go_wp2_with fail
      refine (impl_IsValidGraph_any _ ⟨N, xs⟩ _ DD.out.at_ (by have := DD.out.len_; have := HKB.out; show xs.length ≤ _; omega) HOK.out).mono ?_
      rintro e v7 ⟨rfl, hx7⟩
      have D7 := Lib.hid (DD.out.ext hx7)
      clear hx7 d0 d1 DD
      obtain ⟨vv, hvv⟩ : ∃ vv, vgraph ⟨N, xs⟩ = vv := ⟨_, rfl⟩
      rw [hvv]
      cases vv
      · have HN : Hid (∀ y : Gr, vgraph y = true → s ≠ fmtG y) := graph_none_bad HS.out hvv
        clear hvv
        obtain ⟨⟨a0, a1⟩, z0, z1⟩ := cells2 (HB2.out.ext D7.out.x)
        go_wp2
        exact bodyPost_ret (v := .tuple #[.agg #[.int .i64 0, .slice none 0 0], .bool false]) (ret_pair rfl _ _ _ _ _ _ _ rfl rfl ((HB2.out.ext D7.out.x).put2 (.int .i64 0) (.slice none 0 0)) Tryd.underlying26 rfl Tryd.sizeGraphR) rfl ⟨graphRes_no rfl (ext_put2 (HX1.out.trans D7.out.x) (Nat.le_refl _) _ _).size HN.out, ext_put2 (HX1.out.trans D7.out.x) (Nat.le_refl _) _ _⟩
      · have HV := Lib.hid hvv
        clear hvv
        have d0 : v7.cell? ⟨g, 0, none⟩ = some (.int .i64 N) := D7.out.b.cell 0
        have d1 : v7.cell? ⟨g, 1, none⟩ = some (.slice A k cap) := D7.out.b.cell 1
        go_wp2_with fail
        refine (impl_FormatGraph_any _ ⟨N, xs⟩ _ D7.out.at_ (by have := D7.out.len_; have := HKB.out; show xs.length ≤ _; omega) HOK.out).mono ?_
        rintro e v9 ⟨rfl, hy9⟩
        have D9 := Lib.hid (D7.out.ext hy9)
        clear hy9 d0 d1 D7
        obtain ⟨⟨a0, a1⟩, z0, z1⟩ := cells2 (HB2.out.ext D9.out.x)
        obtain ⟨os, hos⟩ : ∃ os, fmtG ⟨N, xs⟩ = os := ⟨_, rfl⟩
        rw [hos]
        have HOS := Lib.hid hos
        clear hos
        obtain ⟨qq, hqq⟩ : ∃ qq, (ByteArray.toList os == ByteArray.toList s) = qq := ⟨_, rfl⟩
        cases qq
        · have HN : Hid (∀ y : Gr, vgraph y = true → s ≠ fmtG y) := graph_none_other HS.out (by rw [HOS.out]; exact hqq)
          go_wp2
          exact bodyPost_ret (v := .tuple #[.agg #[.int .i64 0, .slice none 0 0], .bool false]) (ret_pair rfl _ _ _ _ _ _ _ rfl rfl ((HB2.out.ext D9.out.x).put2 (.int .i64 0) (.slice none 0 0)) Tryd.underlying26 rfl Tryd.sizeGraphR) rfl ⟨graphRes_no rfl (ext_put2 (HX1.out.trans D9.out.x) (Nat.le_refl _) _ _).size HN.out, ext_put2 (HX1.out.trans D9.out.x) (Nat.le_refl _) _ _⟩
        · have HQ := Lib.hid (str_beq.1 hqq)
          have HSZ : Hid (s ≠ ⟨#[]⟩) := fun h => graph_none_empty h _ HV.out (HOS.out.trans HQ.out).symm
          have d0 : v9.cell? ⟨g, 0, none⟩ = some (.int .i64 N) := D9.out.b.cell 0
          have d1 : v9.cell? ⟨g, 1, none⟩ = some (.slice A k cap) := D9.out.b.cell 1
          go_wp2
          exact bodyPost_ret (v := .tuple #[.agg #[.int .i64 N, .slice A k cap], .bool true]) (ret_pair rfl _ _ _ _ _ _ _ rfl rfl ((HB2.out.ext D9.out.x).put2 (.int .i64 N) (.slice A k cap)) Tryd.underlying26 rfl Tryd.sizeGraphR) rfl ⟨graphRes_yes D9.out HL.out _ (Nat.le_of_lt HL.out) HKB.out rfl HSZ.out (HOS.out.trans HQ.out) HS.out, ext_put2 (HX1.out.trans D9.out.x) (Nat.le_refl _) _ _⟩
end Go.Proofs.YteecjnnompjmiabDoor
