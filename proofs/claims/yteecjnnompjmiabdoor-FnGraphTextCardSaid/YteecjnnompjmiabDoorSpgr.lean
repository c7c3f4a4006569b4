/-
  Helper text (no claim of its own): a graph read out of a text, by the reference. Printed by gen_spgr.py.
-/
import Derived.Test.YteecjnnompjmiabDoorPgp
namespace Go.Proofs.YteecjnnompjmiabDoor
open Go.ChangeShapes Go.WideShapes Go.ChangeAt Go.RowKit Go.Deep
set_option linter.unusedVariables false
set_option linter.unusedSimpArgs false
theorem strs_getD {w : World} {B n : Nat} {A : Option Addr} {xs : List ByteArray} (h : Rd w B 1 A n (scells xs)) (h0 : 0 < n) : ∃ b o, A = some ⟨b, o, none⟩ ∧ b < B ∧ ∀ i, i < n → xs[i]? = some (xs.getD i ⟨#[]⟩) ∧ w.cell? ⟨b, o + i, none⟩ = some (.string (xs.getD i ⟨#[]⟩)) := by
  obtain ⟨b, o, x, rfl, hb, _, _⟩ := str_at h h0
  refine ⟨b, o, rfl, hb, fun i hi => ?_⟩
  obtain ⟨b', o', y, e, _, hy, hc⟩ := str_at h hi
  injection e with e; injection e with e1 e2; subst e1 e2
  have : xs.getD i ⟨#[]⟩ = y := by simp [List.getD, hy]
  rw [this]
  exact ⟨hy, hc⟩
theorem size_getD {xs : List ByteArray} {m : Nat} (h : ∀ x ∈ xs, x.size ≤ m) (i : Nat) : (xs.getD i ⟨#[]⟩).size ≤ m := by
  cases e : xs[i]? with
  | none => simp [List.getD, e, ByteArray.size]
  | some x =>
    have : xs.getD i ⟨#[]⟩ = x := by simp [List.getD, e]
    rw [this]
    exact h x (List.mem_of_getElem? e)
set_option maxRecDepth 100000 in
set_option maxHeartbeats 8000000 in
theorem spec_ParseGraph_any (s : ByteArray) (hs : s.size ≤ 1500000) (w : World) : Calls Tryd.prog 9 #[.string s] w fun e w' => GraphRes s w.heap.size e w' ∧ Ext w w' := by
  go_enter Tryd.func9, Tryd.ntmps9
  go_wp2_with fail
  refine (spec_SplitByte_any s 32 32 rfl _ (by omega)).mono ?_
  rintro e w1 ⟨v1, rfl, ho1, hx1⟩
  have hcn := cut_ne 32 s
  have hcl := cut_len 32 s
  obtain ⟨A1, c1, rfl, hr1⟩ := own_slice ho1
  obtain ⟨b, o, rfl, hb, hys⟩ := strs_getD hr1 hcn
  have HB2 : Hid (Blk w1 w.heap.size 26 #[.int .i64 0, .slice none 0 0]) := (Blk.new w _ _).ext hx1
  have HX1 : Hid (Ext w w1) := Ext.trans ((Ext.refl w).alloc _) hx1
  have HY : Hid (∀ w', Ext w1 w' → ∀ i, i < (cut 32 s).length → w'.cell? ⟨b, o + i, none⟩ = some (.string ((cut 32 s).getD i ⟨#[]⟩))) := fun w' q i hi => (q.cell (p := ⟨b, o + i, none⟩) hb).trans (hys i hi).2
  have HYS : Hid (∀ i, i < (cut 32 s).length → (cut 32 s)[i]? = some ((cut 32 s).getD i ⟨#[]⟩)) := fun i hi => (hys i hi).1
  have hsz : ∀ y ∈ cut 32 s, y.size ≤ 1500000 := fun y hy => by have := cut_size hy; omega
  have HZ : Hid (∀ i, ((cut 32 s).getD i ⟨#[]⟩).size ≤ 1500000) := size_getD hsz
  obtain ⟨m, hm⟩ : ∃ m, (cut 32 s).length = m := ⟨_, rfl⟩
  rw [hm] at HY HYS hcn hcl ⊢
  have HM := Lib.hid hm
  have r0 : w1.cell? ⟨b, o, none⟩ = some (.string ((cut 32 s).getD 0 ⟨#[]⟩)) := by have := HY.out w1 (Ext.refl _) 0 hcn; rwa [Nat.add_zero] at this
  have hm0 : (0 : Int) < (m : Int) := by omega
  have HL : Hid (w.heap.size < w1.heap.size) := HB2.out.lt
  clear hm hsz hys hr1 ho1 hx1 hb
  go_upto_region 3 with (fail)
  have D0 : Hid (DP w1 (w1.alloc (.cells #[.int .i64 0, .slice none 0 0] 26)) w1.heap.size 0 none 0 0 []) := ⟨Blk.new _ _ _, own_nil_ _ _ _, (Ext.refl _).alloc _, Nat.le_refl _⟩
  have r0' : (w1.alloc (.cells #[.int .i64 0, .slice none 0 0] 26)).cell? ⟨b, o, none⟩ = some (.string ((cut 32 s).getD 0 ⟨#[]⟩)) := by have := HY.out _ D0.out.x 0 hcn; rwa [Nat.add_zero] at this
  clear r0
  generalize w1.alloc (.cells #[.int .i64 0, .slice none 0 0] 26) = W at *
  obtain ⟨g, hg⟩ : ∃ g, w1.heap.size = g := ⟨_, rfl⟩
  have HGG := Lib.hid hg
  rw [hg] at D0 HL ⊢
  clear hg
  have HZ0 := Lib.hid (HZ.out 0)
  obtain ⟨y0, hy0⟩ : ∃ y0, (cut 32 s).getD 0 ⟨#[]⟩ = y0 := ⟨_, rfl⟩
  rw [hy0] at r0' HZ0
  have HY0 := Lib.hid hy0
  clear hy0
  go_wp2_with fail
  refine (spec_ParseNumber_any y0 (Nat.le_trans HZ0.out (by decide)) _).mono ?_
  rintro e v2 ⟨⟨N, okN, rfl, hpN⟩, hv2⟩
  have HPN := Lib.hid hpN
  have D1 : Hid (DP w1 v2 g 0 none 0 0 []) := D0.out.ext hv2
  clear hpN hv2 r0' D0
  have c0 : v2.cell? ⟨g, 0, none⟩ = some (.int .i64 0) := D1.out.b.cell 0
  have f0 : v2.frozen? ⟨g, 0, none⟩ = false := D1.out.b.frozen 0
  go_upto_region 4 with (fail)
  clear c0 f0
  have D2 : Hid (DP w1 (v2.setCell ⟨g, 0, none⟩ (.int .i64 N)) g N none 0 0 []) := D1.out.setN N
  clear D1
  generalize v2.setCell ⟨g, 0, none⟩ (.int .i64 N) = W2 at *
  go_wp2
  go_loopw [6] (fun iv wr => ∃ (k : Nat) (A : Option Addr) (cap : Nat) (xs : List Ed), iv = .int .i64 ((k + 1 : Nat) : Int) ∧ k ≤ 39 ∧ k + 1 ≤ m ∧ Hid (DP w1 wr g N A k cap xs) ∧ Hid (RE ((cut 32 s).drop 1) xs)) (fun i _ => 41 - (intOf i).toNat)
  case atStart => exact ⟨0, none, 0, [], rfl, by omega, by omega, D2, RE.nil _⟩
  case round =>
    obtain ⟨k, A, cap, xs, rfl, hk39, hkm, DD, RR⟩ := hrel
    clear D2
    by_cases hc : k + 1 < m ∧ k + 1 < 40
    · obtain ⟨hc1, hc2⟩ := hc
      have hci1 : ((k + 1 : Nat) : Int) < (m : Int) := by omega
      have hci2 : ((k + 1 : Nat) : Int) < 40 := by omega
      have hk0 : (0 : Int) ≤ ((k + 1 : Nat) : Int) := by omega
      obtain ⟨t, ht⟩ : ∃ t, (cut 32 s).getD (k + 1) ⟨#[]⟩ = t := ⟨_, rfl⟩
      have HT : Hid (((cut 32 s).drop 1)[k]? = some t) := by unfold Hid; rw [List.getElem?_drop, Nat.add_comm, HYS.out (k + 1) hc1, ht]
      have HTZ : Hid (t.size ≤ 1500000) := by unfold Hid; rw [← ht]; exact HZ.out _
      have q1 : wr.cell? ⟨b, o + (k + 1), none⟩ = some (.string t) := by rw [← ht]; exact HY.out _ DD.out.x (k + 1) hc1
      clear ht
      have K39 : Hid (k + 1 < m ∧ k + 1 < 40) := ⟨hc1, hc2⟩
      obtain ⟨k1, hk1⟩ : ∃ k1, k + 1 = k1 := ⟨_, rfl⟩
      rw [hk1] at hci1 hci2 hk0 q1 ⊢
      have HK1 := Lib.hid hk1
      clear hk1 hc1 hc2 hk39 hkm
      go_wp2_with fail
      refine (spec_SplitByte_any t 45 45 rfl _ (Nat.le_trans HTZ.out (by decide))).mono ?_
      rintro e w3 ⟨v3, rfl, ho3, hx3⟩
      have hn3 := cut_ne 45 t
      have hl3 := cut_len 45 t
      obtain ⟨A3, c3, rfl, hr3⟩ := own_slice ho3
      obtain ⟨b3, o3, rfl, hb3, hys3⟩ := strs_getD hr3 hn3
      have D3 : Hid (DP w1 w3 g N A k cap xs) := DD.out.ext hx3
      have HZ3 : Hid (∀ i, ((cut 45 t).getD i ⟨#[]⟩).size ≤ 2000000) := size_getD (fun y hy => by have := cut_size hy; have := HTZ.out; omega)
      obtain ⟨j, hj⟩ : ∃ j, (cut 45 t).length = j + 1 := ⟨(cut 45 t).length - 1, by omega⟩
      rw [hj] at hys3 hl3 ⊢
      have HJ := Lib.hid hj
      have Y3 : Hid (∀ w', Ext w3 w' → w'.cell? ⟨b3, o3, none⟩ = some (.string ((cut 45 t).getD 0 ⟨#[]⟩)) ∧ w'.cell? ⟨b3, o3 + j, none⟩ = some (.string ((cut 45 t).getD j ⟨#[]⟩))) := fun w' q => ⟨(q.cell (p := ⟨b3, o3, none⟩) hb3).trans (by have := (hys3 0 (by omega)).2; rwa [Nat.add_zero] at this), (q.cell (p := ⟨b3, o3 + j, none⟩) hb3).trans (hys3 j (by omega)).2⟩
      have hjz : (j : Int) ≤ 3000000 := by have := HTZ.out; omega
      clear hj hys3 hr3 ho3 hx3 hb3 hn3 hl3 q1
      obtain ⟨h0, hh0⟩ : ∃ h0, (cut 45 t).getD 0 ⟨#[]⟩ = h0 := ⟨_, rfl⟩
      obtain ⟨h1, hh1⟩ : ∃ h1, (cut 45 t).getD j ⟨#[]⟩ = h1 := ⟨_, rfl⟩
      have Z0 : Hid (h0.size ≤ 2000000) := by unfold Hid; rw [← hh0]; exact HZ3.out _
      have Z1 : Hid (h1.size ≤ 2000000) := by unfold Hid; rw [← hh1]; exact HZ3.out _
      rw [hh0, hh1] at Y3
      have HH0 := Lib.hid hh0
      have HH1 := Lib.hid hh1
      clear hh0 hh1
      go_upto_region 9 with (fail)
      have E0 : Hid (Blk (w3.alloc (.cells #[.int .i64 0, .int .i64 0] 38)) w3.heap.size 38 #[.int .i64 0, .int .i64 0]) := Blk.new _ _ _
      have EX0 : Hid (Ext w3 (w3.alloc (.cells #[.int .i64 0, .int .i64 0] 38))) := (Ext.refl _).alloc _
      generalize w3.alloc (.cells #[.int .i64 0, .int .i64 0] 38) = U0 at *
      obtain ⟨h, hh⟩ : ∃ h, w3.heap.size = h := ⟨_, rfl⟩
      have HHE : Hid (w3.heap.size ≤ h) := Nat.le_of_eq hh
      have HHG : Hid (g < h) := by unfold Hid; rw [← hh]; exact D3.out.b.lt
      rw [hh] at E0 ⊢
      clear hh
      have q0 : U0.cell? ⟨b3, o3, none⟩ = some (.string h0) := (Y3.out _ EX0.out).1
      go_wp2_with fail
      refine (spec_ParseNumber_any h0 Z0.out _).mono ?_
      rintro e u1 ⟨⟨na, oka, rfl, hpa⟩, hu1⟩
      have HPA := Lib.hid hpa
      have E1 : Hid (Blk u1 h 38 #[.int .i64 0, .int .i64 0]) := E0.out.ext hu1
      have EX1 : Hid (Ext w3 u1) := EX0.out.trans hu1
      clear hpa hu1 q0 E0 EX0
      have c0 : u1.cell? ⟨h, 0, none⟩ = some (.int .i64 0) := E1.out.cell 0
      have f0 : u1.frozen? ⟨h, 0, none⟩ = false := E1.out.frozen 0
      go_upto_region 10 with (fail)
      clear c0 f0
      have E2 : Hid (Blk (u1.setCell ⟨h, 0, none⟩ (.int .i64 na)) h 38 #[.int .i64 na, .int .i64 0]) := E1.out.set_ 0 _
      have EX2 : Hid (Ext w3 (u1.setCell ⟨h, 0, none⟩ (.int .i64 na))) := EX1.out.setCell (p := ⟨h, 0, none⟩) HHE.out _
      clear E1 EX1
      generalize u1.setCell ⟨h, 0, none⟩ (.int .i64 na) = U2 at *
      have q0 : U2.cell? ⟨b3, o3 + j, none⟩ = some (.string h1) := (Y3.out _ EX2.out).2
      have hj0 : (0 : Int) ≤ (j : Int) := by omega
      have hwj : wrap64 (j : Int) = (j : Int) := by unfold wrap64; omega
      go_wp2_with fail
      refine (spec_ParseNumber_any h1 Z1.out _).mono ?_
      rintro e u3 ⟨⟨nb, okb, rfl, hpb⟩, hu3⟩
      have HPB := Lib.hid hpb
      have E3 : Hid (Blk u3 h 38 #[.int .i64 na, .int .i64 0]) := E2.out.ext hu3
      have EX3 : Hid (Ext w3 u3) := EX2.out.trans hu3
      clear hpb hu3 q0 E2 EX2 hwj
      have c0 : u3.cell? ⟨h, 1, none⟩ = some (.int .i64 0) := E3.out.cell 1
      have f0 : u3.frozen? ⟨h, 1, none⟩ = false := E3.out.frozen 1
      go_upto_region 11 with (fail)
      clear c0 f0
      have E4 : Hid (Blk (u3.setCell ⟨h, 1, none⟩ (.int .i64 nb)) h 38 #[.int .i64 na, .int .i64 nb]) := E3.out.set_ 1 _
      have EX4 : Hid (Ext w3 (u3.setCell ⟨h, 1, none⟩ (.int .i64 nb))) := EX3.out.setCell (p := ⟨h, 1, none⟩) HHE.out _
      clear E3 EX3
      generalize u3.setCell ⟨h, 1, none⟩ (.int .i64 nb) = U4 at *
      have D4 : Hid (DP w1 U4 g N A k cap xs) := D3.out.ext EX4.out
      clear D3 DD
      have HER : Hid (ER t ⟨na, nb⟩) := by
        refine er_of (by rw [HH0.out]; exact HPA.out) (fun y ya yb he => ?_) ⟨HPB.out.1, HPB.out.2.1⟩
        have e1 := ew_cut ya yb
        rw [← he] at e1
        have e2 : j = 1 := by have := HJ.out; rw [e1] at this; simp at this; omega
        have e3 := HH1.out
        rw [e1, e2] at e3
        exact (HPB.out.2.2 y.b yb.1 (by omega) e3.symm).1
      have a0 : U4.cell? ⟨h, 0, none⟩ = some (.int .i64 na) := E4.out.cell 0
      have a1 : U4.cell? ⟨h, 1, none⟩ = some (.int .i64 nb) := E4.out.cell 1
      have a2 : U4.cell? ⟨g, 1, none⟩ = some (.slice A k cap) := D4.out.b.cell 1
      have hk9 : k ≤ 90000000 := by have := K39.out; omega
      have K9 := Lib.hid hk9
      clear hk9
      go_wp2_with (at_builtin; refine D4.out.app rfl _ _ rfl rfl ⟨na, nb⟩ _ _ rfl rfl K9.out ?_; intro A' c' w9 hb9 hD9; have c0 : w9.cell? ⟨g, 1, none⟩ = some (.slice A k cap) := hb9.cell 1; have f0 : w9.frozen? ⟨g, 1, none⟩ = false := hb9.frozen 1)
      go_roundw
      case rel => exact ⟨k + 1, A', c', xs ++ [(⟨na, nb⟩ : Ed)], by have := HK1.out; go_num, by have := K39.out; omega, by have := K39.out; omega, Lib.hid hD9, Lib.hid (RR.out.snoc D4.out.len_ HT.out HER.out)⟩
      case measure => simp [intOf]; have := HK1.out; have := K39.out; omega
    · by_cases hc1 : k + 1 < m
      · have hci1 : ((k + 1 : Nat) : Int) < (m : Int) := by omega
        have hci2 : ¬ (((k + 1 : Nat) : Int) < 40) := by omega
        obtain ⟨k1, hk1⟩ : ∃ k1, k + 1 = k1 := ⟨_, rfl⟩
        rw [hk1] at hci1 hci2 ⊢
        have HS : Hid (∀ y : Gr, vgraph y = true → s = fmtG y → (⟨N, xs⟩ : Gr) = y) := fun y hv he => graph_same (by rw [HY0.out]; exact HPN.out) RR.out (by right; rw [DD.out.len_]; omega) y hv he
        have HKB : Hid (k ≤ 2000000) := by unfold Hid; omega
        clear hk1 hc hc1 hk39 hkm
        have d0 : wr.cell? ⟨g, 0, none⟩ = some (.int .i64 N) := DD.out.b.cell 0
        have d1 : wr.cell? ⟨g, 1, none⟩ = some (.slice A k cap) := DD.out.b.cell 1
        by_cases hz : s = ⟨#[]⟩
        · have e1 : (ByteArray.toList s).isEmpty = true := (empty_iffG s).2 hz
          have HN : Hid (∀ y : Gr, vgraph y = true → s ≠ fmtG y) := graph_none_empty hz
          clear hz
          obtain ⟨⟨a0, a1⟩, z0, z1⟩ := cells2 (HB2.out.ext DD.out.x)
          go_wp2
          exact bodyPost_ret (v := .tuple #[.agg #[.int .i64 0, .slice none 0 0], .bool false]) (ret_pair rfl _ _ _ _ _ _ _ rfl rfl ((HB2.out.ext DD.out.x).put2 (.int .i64 0) (.slice none 0 0)) Tryd.underlying26 rfl Tryd.sizeGraphR) rfl ⟨graphRes_no rfl (ext_put2 (HX1.out.trans DD.out.x) (Nat.le_refl _) _ _).size HN.out, ext_put2 (HX1.out.trans DD.out.x) (Nat.le_refl _) _ _⟩
        · have e1 : (ByteArray.toList s).isEmpty = false := by
            cases e : (ByteArray.toList s).isEmpty
            · rfl
            · exact absurd ((empty_iffG s).1 e) hz
          have HSZ := Lib.hid hz
          clear hz
          go_wp2_with fail
          refine (spec_FormatGraph_any _ ⟨N, xs⟩ _ DD.out.at_ (by have := DD.out.len_; have := HKB.out; show xs.length ≤ _; omega)).mono ?_
          rintro e v9 ⟨rfl, hy9⟩
          have D9 := Lib.hid (DD.out.ext hy9)
          clear hy9 d0 d1
          obtain ⟨⟨a0, a1⟩, z0, z1⟩ := cells2 (HB2.out.ext D9.out.x)
          obtain ⟨os, hos⟩ : ∃ os, fmtG ⟨N, xs⟩ = os := ⟨_, rfl⟩
          rw [hos]
          have HOS := Lib.hid hos
          clear hos
          obtain ⟨qq, hqq⟩ : ∃ qq, (ByteArray.toList os == ByteArray.toList s) = qq := ⟨_, rfl⟩
          cases qq
          · have HN : Hid (∀ y : Gr, vgraph y = true → s ≠ fmtG y) := graph_none_other HS.out (by rw [HOS.out]; exact hqq)
            go_wp2
            exact bodyPost_ret (v := .tuple #[.agg #[.int .i64 0, .slice none 0 0], .bool false]) (ret_pair rfl _ _ _ _ _ _ _ rfl rfl ((HB2.out.ext D9.out.x).put2 (.int .i64 0) (.slice none 0 0)) Tryd.underlying26 rfl Tryd.sizeGraphR) rfl ⟨graphRes_no rfl (ext_put2 (HX1.out.trans D9.out.x) (Nat.le_refl _) _ _).size HN.out, ext_put2 (HX1.out.trans D9.out.x) (Nat.le_refl _) _ _⟩
          · have HQ := Lib.hid (str_beq.1 hqq)
            have d0 : v9.cell? ⟨g, 0, none⟩ = some (.int .i64 N) := D9.out.b.cell 0
            have d1 : v9.cell? ⟨g, 1, none⟩ = some (.slice A k cap) := D9.out.b.cell 1
            go_wp2
            exact bodyPost_ret (v := .tuple #[.agg #[.int .i64 N, .slice A k cap], .bool true]) (ret_pair rfl _ _ _ _ _ _ _ rfl rfl ((HB2.out.ext D9.out.x).put2 (.int .i64 N) (.slice A k cap)) Tryd.underlying26 rfl Tryd.sizeGraphR) rfl ⟨graphRes_yes D9.out HL.out _ (Nat.le_of_lt HL.out) HKB.out rfl HSZ.out (HOS.out.trans HQ.out) HS.out, ext_put2 (HX1.out.trans D9.out.x) (Nat.le_refl _) _ _⟩
      · have hci1 : ¬ (((k + 1 : Nat) : Int) < (m : Int)) := by omega
        obtain ⟨k1, hk1⟩ : ∃ k1, k + 1 = k1 := ⟨_, rfl⟩
        rw [hk1] at hci1 ⊢
        have HS : Hid (∀ y : Gr, vgraph y = true → s = fmtG y → (⟨N, xs⟩ : Gr) = y) := fun y hv he => graph_same (by rw [HY0.out]; exact HPN.out) RR.out (by left; rw [DD.out.len_, List.length_drop, HM.out]; omega) y hv he
        have HKB : Hid (k ≤ 2000000) := by unfold Hid; omega
        clear hk1 hc hc1 hk39 hkm
        have d0 : wr.cell? ⟨g, 0, none⟩ = some (.int .i64 N) := DD.out.b.cell 0
        have d1 : wr.cell? ⟨g, 1, none⟩ = some (.slice A k cap) := DD.out.b.cell 1
        by_cases hz : s = ⟨#[]⟩
        · have e1 : (ByteArray.toList s).isEmpty = true := (empty_iffG s).2 hz
          have HN : Hid (∀ y : Gr, vgraph y = true → s ≠ fmtG y) := graph_none_empty hz
          clear hz
          obtain ⟨⟨a0, a1⟩, z0, z1⟩ := cells2 (HB2.out.ext DD.out.x)
          go_wp2
          exact bodyPost_ret (v := .tuple #[.agg #[.int .i64 0, .slice none 0 0], .bool false]) (ret_pair rfl _ _ _ _ _ _ _ rfl rfl ((HB2.out.ext DD.out.x).put2 (.int .i64 0) (.slice none 0 0)) Tryd.underlying26 rfl Tryd.sizeGraphR) rfl ⟨graphRes_no rfl (ext_put2 (HX1.out.trans DD.out.x) (Nat.le_refl _) _ _).size HN.out, ext_put2 (HX1.out.trans DD.out.x) (Nat.le_refl _) _ _⟩
        · have e1 : (ByteArray.toList s).isEmpty = false := by
            cases e : (ByteArray.toList s).isEmpty
            · rfl
            · exact absurd ((empty_iffG s).1 e) hz
          have HSZ := Lib.hid hz
          clear hz
          go_wp2_with fail
          refine (spec_FormatGraph_any _ ⟨N, xs⟩ _ DD.out.at_ (by have := DD.out.len_; have := HKB.out; show xs.length ≤ _; omega)).mono ?_
          rintro e v9 ⟨rfl, hy9⟩
          have D9 := Lib.hid (DD.out.ext hy9)
          clear hy9 d0 d1
          obtain ⟨⟨a0, a1⟩, z0, z1⟩ := cells2 (HB2.out.ext D9.out.x)
          obtain ⟨os, hos⟩ : ∃ os, fmtG ⟨N, xs⟩ = os := ⟨_, rfl⟩
          rw [hos]
          have HOS := Lib.hid hos
          clear hos
          obtain ⟨qq, hqq⟩ : ∃ qq, (ByteArray.toList os == ByteArray.toList s) = qq := ⟨_, rfl⟩
          cases qq
          · have HN : Hid (∀ y : Gr, vgraph y = true → s ≠ fmtG y) := graph_none_other HS.out (by rw [HOS.out]; exact hqq)
            go_wp2
            exact bodyPost_ret (v := .tuple #[.agg #[.int .i64 0, .slice none 0 0], .bool false]) (ret_pair rfl _ _ _ _ _ _ _ rfl rfl ((HB2.out.ext D9.out.x).put2 (.int .i64 0) (.slice none 0 0)) Tryd.underlying26 rfl Tryd.sizeGraphR) rfl ⟨graphRes_no rfl (ext_put2 (HX1.out.trans D9.out.x) (Nat.le_refl _) _ _).size HN.out, ext_put2 (HX1.out.trans D9.out.x) (Nat.le_refl _) _ _⟩
          · have HQ := Lib.hid (str_beq.1 hqq)
            have d0 : v9.cell? ⟨g, 0, none⟩ = some (.int .i64 N) := D9.out.b.cell 0
            have d1 : v9.cell? ⟨g, 1, none⟩ = some (.slice A k cap) := D9.out.b.cell 1
            go_wp2
            exact bodyPost_ret (v := .tuple #[.agg #[.int .i64 N, .slice A k cap], .bool true]) (ret_pair rfl _ _ _ _ _ _ _ rfl rfl ((HB2.out.ext D9.out.x).put2 (.int .i64 N) (.slice A k cap)) Tryd.underlying26 rfl Tryd.sizeGraphR) rfl ⟨graphRes_yes D9.out HL.out _ (Nat.le_of_lt HL.out) HKB.out rfl HSZ.out (HOS.out.trans HQ.out) HS.out, ext_put2 (HX1.out.trans D9.out.x) (Nat.le_refl _) _ _⟩
end Go.Proofs.YteecjnnompjmiabDoor
