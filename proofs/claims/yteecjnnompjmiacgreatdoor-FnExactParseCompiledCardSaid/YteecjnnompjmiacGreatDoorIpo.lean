/-
  Helper text (no claim of its own): an operation read out of a text, by the program. Printed by gen_ipo.py.
-/
import Derived.Test.YteecjnnompjmiacGreatDoorSpo
namespace Go.Proofs.YteecjnnompjmiacGreatDoor
open Go.ChangeShapes Go.WideShapes Go.ChangeAt Go.RowKit Go.Deep
set_option linter.unusedVariables false
set_option linter.unusedSimpArgs false
set_option maxRecDepth 100000 in
set_option maxHeartbeats 4000000 in
theorem impl_Join_cells (b o c : Nat) (xs : List ByteArray) (sep : ByteArray) (w : World) (hcells : ∀ (j : Nat) x, xs[j]? = some x → w.cell? ⟨b, o + j, none⟩ = some (.string x)) (hb : b < w.heap.size) (hn : xs.length ≤ 2000000) (hc : xs.length ≤ c) (hj : (jn sep xs).size ≤ 10000000) :
    Calls Tryz.prog 34 #[.slice (some ⟨b, o, none⟩) xs.length c, .string sep] w fun e w' => e = .returned (.string (jn sep xs)) ∧ Ext w w' := by
  have HJ := jn_join sep xs
  have hjl : (Lib.join (xs.map (·.data.toList)) sep.data.toList).length ≤ 140737488355328 := by
    have e : (Lib.join (xs.map (·.data.toList)) sep.data.toList).length = (jn sep xs).size := by rw [← HJ]; rfl
    omega
  have HC : Hid (Calls Tryz.prog 53 #[.slice (some ⟨b, o, none⟩) xs.length c, .string sep] w fun e w' => e = .returned (.string (jn sep xs)) ∧ Ext w w') := by
    refine (Tryz.strings_Join b o c xs sep w hcells hb (by omega) hc hjl).mono ?_
    rintro e w' ⟨rfl, hb⟩
    rw [HJ]
    exact ⟨rfl, hb⟩
  clear hcells hjl hj HJ hb hn hc
  go_enter Tryz.func34, Tryz.ntmps34
  go_wp2_with fail
  refine HC.out.mono ?_
  rintro e w' ⟨rfl, hx⟩
  go_wp2
  go_ret
  exact ⟨rfl, hx⟩
/-- The words behind 'if' and the number, joined again. -/
theorem jn_rest {o : Oq} (h : vOp o 4 3 = true) (hk : o.k = 1) (hc : 0 < o.cond) : jn ⟨#[32]⟩ ((ow o).drop 2) = gtx o.g := by
  rcases vop_full h with ⟨_, _, _, hvg, _⟩ | ⟨hk', _⟩ | ⟨hk', _⟩
  · unfold ow
    rw [if_neg (by omega), if_neg (by omega), if_pos hc, gtx_jn hvg]
    rfl
  · omega
  · omega
set_option maxRecDepth 100000 in
set_option maxHeartbeats 8000000 in
theorem impl_ParseOp_any (s : ByteArray) (hs : s.size ≤ 1400000) (w : World) (hw : PW w) : Calls Tryz.prog 16 #[.string s] w fun e w' => OpRes s e ∧ Ext w w' := by
  have HPW := Lib.hid hw
  clear hw
  go_enter Tryz.func16, Tryz.ntmps16
  go_wp2_with fail
  refine (impl_SplitByte_any s 32 32 rfl _ (HPW.out.ext (by repeat (first | exact Ext.refl _ | assumption | refine Ext.alloc ?_ _ | refine Ext.drewN ?_ _ | refine Ext.drew ?_))).max (by omega)).mono ?_
  rintro e w2 ⟨b, rfl, hr2, hx2⟩
  have hcn := cut_ne 32 s
  have hcl := cut_len 32 s
  have HB2 : Hid (Blk w2 w.heap.size 39 #[.int .i64 0, .int .i64 0, .int .i64 0, .int .i64 0, .int .i64 0, .int .i64 0, .int .i64 0, .int .i64 0]) := (Blk.new w _ _).ext hx2
  have HX2 : Hid (Ext w w2) := Ext.trans ((Ext.refl w).alloc _) hx2
  have hsz : ∀ y ∈ cut 32 s, y.size ≤ 2000000 := fun y hy => by have := cut_size hy; omega
  have HZ1 : Hid (((cut 32 s).getD 1 ⟨#[]⟩).size ≤ 2000000000000) := Nat.le_trans (getD_size hsz 1) (by decide)
  have HZ2 : Hid (((cut 32 s).getD 2 ⟨#[]⟩).size ≤ 2000000000000) := Nat.le_trans (getD_size hsz 2) (by decide)
  have HYG : Hid (∀ w', Ext w2 w' → ∀ i, i < (cut 32 s).length → w'.cell? ⟨b, i, none⟩ = some (.string ((cut 32 s).getD i ⟨#[]⟩))) := fun w' q i hi => by
    obtain ⟨h1, _, h3⟩ := str_getD hr2 hi
    rw [Nat.zero_add] at h3
    exact (q.cell (p := ⟨b, i, none⟩) h1).trans h3
  have HBL : Hid (b < w2.heap.size) := (str_getD hr2 hcn).1
  have HW : Hid (∀ o : Oq, vOp o 4 3 = true → s = otx o → OW ((cut 32 s).getD 0 ⟨#[]⟩) ((cut 32 s).getD 1 ⟨#[]⟩) ((cut 32 s).getD 2 ⟨#[]⟩) (cut 32 s).length o) := by
    intro o hv he
    have := ow_getD hv
    rw [← otx_cut hv, ← he] at this
    exact this
  have HJS : Hid ((jn ⟨#[32]⟩ ((cut 32 s).drop 2)).size ≤ 1500000) := by have := cut_drop_size 32 s 2; unfold Hid; omega
  have HJR : Hid (∀ o : Oq, vOp o 4 3 = true → s = otx o → o.k = 1 → 0 < o.cond → jn ⟨#[32]⟩ ((cut 32 s).drop 2) = gtx o.g) := by
    intro o hv he hk hc
    rw [he, otx_cut hv]
    exact jn_rest hv hk hc
  obtain ⟨y0, hy0⟩ : ∃ y, (cut 32 s).getD 0 ⟨#[]⟩ = y := ⟨_, rfl⟩
  obtain ⟨y1, hy1⟩ : ∃ y, (cut 32 s).getD 1 ⟨#[]⟩ = y := ⟨_, rfl⟩
  obtain ⟨y2, hy2⟩ : ∃ y, (cut 32 s).getD 2 ⟨#[]⟩ = y := ⟨_, rfl⟩
  rw [hy0, hy1, hy2] at HW
  rw [hy1] at HZ1
  rw [hy2] at HZ2
  have HJC : Hid (∀ w', Ext w2 w' → 2 < (cut 32 s).length → Calls Tryz.prog 34 #[.slice (some ⟨b, 2, none⟩) ((cut 32 s).length - 2) ((cut 32 s).length - 2), .string ⟨#[32]⟩] w' fun e w'' => e = .returned (.string (jn ⟨#[32]⟩ ((cut 32 s).drop 2))) ∧ Ext w' w'') := by
    intro w' q h3
    have := impl_Join_cells b 2 ((cut 32 s).length - 2) ((cut 32 s).drop 2) ⟨#[32]⟩ w' (fun j x hx => ?_) (Nat.lt_of_lt_of_le HBL.out q.size) (by rw [List.length_drop]; omega) (by rw [List.length_drop]; exact Nat.le_refl _) (by have := HJS.out; omega)
    · rw [List.length_drop] at this
      exact this
    · rw [List.getElem?_drop] at hx
      have hlt := (List.getElem?_eq_some_iff.1 hx).1
      have h4 := HYG.out w' q (2 + j) hlt
      have : (cut 32 s).getD (2 + j) ⟨#[]⟩ = x := by simp [List.getD, hx]
      rw [this] at h4
      exact h4
  generalize hjt : jn ⟨#[32]⟩ ((cut 32 s).drop 2) = jt at *
  clear hjt
  obtain ⟨m, hm⟩ : ∃ m, (cut 32 s).length = m := ⟨_, rfl⟩
  rw [hm] at HW HJC hcl hcn ⊢
  have HY : Hid (∀ w', Ext w2 w' → w'.cell? ⟨b, 0, none⟩ = some (.string y0) ∧ (1 < m → w'.cell? ⟨b, 1, none⟩ = some (.string y1)) ∧ (2 < m → w'.cell? ⟨b, 2, none⟩ = some (.string y2))) := fun w' q => ⟨by rw [← hy0]; exact HYG.out w' q 0 (by omega), fun h => by rw [← hy1]; exact HYG.out w' q 1 (by omega), fun h => by rw [← hy2]; exact HYG.out w' q 2 (by omega)⟩
  have hm0 : (0 : Int) < (m : Int) := by omega
  clear hm hsz hy0 hy1 hy2 hr2 hx2 HYG
  go_upto_region 4 with (fail)
  have B0 : Hid (Blk (w2.alloc (.cells #[.int .i64 1, .int .i64 0, .int .i64 0, .int .i64 0, .int .i64 0, .int .i64 0, .int .i64 0, .int .i64 0] 39)) w2.heap.size 39 #[.int .i64 1, .int .i64 0, .int .i64 0, .int .i64 0, .int .i64 0, .int .i64 0, .int .i64 0, .int .i64 0]) := Blk.new _ _ _
  have X0 : Hid (Ext w2 (w2.alloc (.cells #[.int .i64 1, .int .i64 0, .int .i64 0, .int .i64 0, .int .i64 0, .int .i64 0, .int .i64 0, .int .i64 0] 39))) := (Ext.refl w2).alloc _
  obtain ⟨g, hg⟩ : ∃ g, g = w2.heap.size := ⟨_, rfl⟩
  rw [← hg] at B0 ⊢
  have HG : Hid (w2.heap.size ≤ g) := Nat.le_of_eq hg.symm
  clear hg
  generalize w2.alloc (.cells #[.int .i64 1, .int .i64 0, .int .i64 0, .int .i64 0, .int .i64 0, .int .i64 0, .int .i64 0, .int .i64 0] 39) = W0 at *
  have q0 : W0.cell? ⟨b, 0, none⟩ = some (.string y0) := (HY.out _ X0.out).1
  have hne := words_ne
  have LN : Hid (m ≤ 1500000) := by unfold Hid; omega
  clear hcl hcn
  by_cases hi : y0 = wI
  · have HH := Lib.hid hi
    have ei : (ByteArray.toList y0 == [105, 102]) = true := beqL (l := [105, 102]) hi
    have H2 : Hid (¬ y0 = wMe) := fun h => hne.2.1 (h.symm.trans hi)
    have H3 : Hid (¬ y0 = wCl) := fun h => hne.2.2 (h.symm.trans hi)
    have em : (ByteArray.toList y0 == [109, 101, 97, 115, 117, 114, 101]) = false := bneL (l := [109, 101, 97, 115, 117, 114, 101]) H2.out
    have ec : (ByteArray.toList y0 == [99, 108, 101, 97, 110]) = false := bneL (l := [99, 108, 101, 97, 110]) H3.out
    clear hi hne
    by_cases hm : 2 < m
    · have hm' : (2 : Int) < (m : Int) := by omega
      have hm1 : (1 : Int) < (m : Int) := by omega
      have q1 : W0.cell? ⟨b, 1, none⟩ = some (.string y1) := (HY.out _ X0.out).2.1 (by omega)
      go_wp2_with fail
      refine (impl_ParseNumber_any y1 HZ1.out _ (HPW.out.ext (HX2.out.trans X0.out))).mono ?_
      rintro e v1 ⟨⟨n1, ok1, rfl, hp1⟩, hv1⟩
      have HP1 := Lib.hid hp1
      have HV1 := Lib.hid hv1
      clear hp1 hv1 q1
      clear em ec ei q0
      have hwn : wrap64 (n1 + 1) = n1 + 1 := by have := HP1.out.1; have := HP1.out.2.1; unfold wrap64; omega
      have c7 : v1.cell? ⟨g, 7, none⟩ = some (.int .i64 0) := (B0.out.ext HV1.out).cell 7
      have f7 : v1.frozen? ⟨g, 7, none⟩ = false := (B0.out.ext HV1.out).frozen 7
      go_upto_region 7 with (fail)
      clear c7 f7
      have UB1 : Hid (Blk (v1.setCell ⟨g, 7, none⟩ (.int .i64 (n1 + 1))) g 39 #[.int .i64 1, .int .i64 0, .int .i64 0, .int .i64 0, .int .i64 0, .int .i64 0, .int .i64 0, .int .i64 (n1 + 1)]) := (B0.out.ext HV1.out).set_ 7 _
      have UX1 : Hid (Ext w2 (v1.setCell ⟨g, 7, none⟩ (.int .i64 (n1 + 1)))) := (X0.out.trans HV1.out).setCell (p := ⟨g, 7, none⟩) HG.out _
      generalize v1.setCell ⟨g, 7, none⟩ (.int .i64 (n1 + 1)) = U1 at *
      clear hwn
      have HMM := Lib.hid hm
      have hm2 : ¬ (m = 2) := by omega
      go_wp2_with fail
      refine (HJC.out _ UX1.out HMM.out).mono ?_
      rintro e vj ⟨rfl, hvj⟩
      have JB : Hid (Blk vj g 39 #[.int .i64 1, .int .i64 0, .int .i64 0, .int .i64 0, .int .i64 0, .int .i64 0, .int .i64 0, .int .i64 (n1 + 1)]) := UB1.out.ext hvj
      have JX : Hid (Ext w2 vj) := UX1.out.trans hvj
      clear hm hm' hm1 hm2 hvj
      go_wp2_with fail
      refine (impl_ParseGate_any jt HJS.out _ (HPW.out.ext (HX2.out.trans JX.out))).mono ?_
      rintro e v8 ⟨⟨gt, okg, rfl, hgr⟩, hv8⟩
      have HGR := Lib.hid hgr
      have HV8 := Lib.hid hv8
      clear hgr hv8
      have c1 : v8.cell? ⟨g, 1, none⟩ = some (.int .i64 0) := (JB.out.ext HV8.out).cell 1
      have f1 : v8.frozen? ⟨g, 1, none⟩ = false := (JB.out.ext HV8.out).frozen 1
      have c2 : v8.cell? ⟨g, 2, none⟩ = some (.int .i64 0) := (JB.out.ext HV8.out).cell 2
      have f2 : v8.frozen? ⟨g, 2, none⟩ = false := (JB.out.ext HV8.out).frozen 2
      have c3 : v8.cell? ⟨g, 3, none⟩ = some (.int .i64 0) := (JB.out.ext HV8.out).cell 3
      have f3 : v8.frozen? ⟨g, 3, none⟩ = false := (JB.out.ext HV8.out).frozen 3
      have c4 : v8.cell? ⟨g, 4, none⟩ = some (.int .i64 0) := (JB.out.ext HV8.out).cell 4
      have f4 : v8.frozen? ⟨g, 4, none⟩ = false := (JB.out.ext HV8.out).frozen 4
      go_upto_region 15 with (fail)
      clear c1 c2 c3 c4 f1 f2 f3 f4
      have GB : Hid (Blk (putG v8 g (.int .i64 gt.k) (.int .i64 gt.a) (.int .i64 gt.b) (.int .i64 gt.c)) g 39 #[.int .i64 1, .int .i64 gt.k, .int .i64 gt.a, .int .i64 gt.b, .int .i64 gt.c, .int .i64 0, .int .i64 0, .int .i64 (n1 + 1)]) := (JB.out.ext HV8.out).putG _ _ _ _
      have GX : Hid (Ext w2 (putG v8 g (.int .i64 gt.k) (.int .i64 gt.a) (.int .i64 gt.b) (.int .i64 gt.c))) := ext_putG (JX.out.trans HV8.out) HG.out _ _ _ _
      unfold putG at GB GX
      generalize (((v8.setCell ⟨g, 1, none⟩ (.int .i64 gt.k)).setCell ⟨g, 2, none⟩ (.int .i64 gt.a)).setCell ⟨g, 3, none⟩ (.int .i64 gt.b)).setCell ⟨g, 4, none⟩ (.int .i64 gt.c) = GW at *
      have HGG : Hid (∀ o : Oq, vOp o 4 3 = true → s = otx o → o.k = 1 → 0 < o.cond → gt = o.g) := by
        intro o hv he hk hc
        rcases vop_full hv with ⟨_, _, _, hvg, _⟩ | ⟨hk', _⟩ | ⟨hk', _⟩
        · exact HGR.out o.g hvg (HJR.out o hv he hk hc)
        · omega
        · omega
      have HS : Hid (∀ o' : Oq, vOp o' 4 3 = true → s = otx o' → (⟨1, gt, 0, 0, n1 + 1⟩ : Oq) = o') := fun o' hv he => cand1c HH.out HP1.out HGG.out HW.out o' hv he
      have d0 : GW.cell? ⟨g, 0, none⟩ = some (.int .i64 1) := GB.out.cell 0
      have d1 : GW.cell? ⟨g, 1, none⟩ = some (.int .i64 gt.k) := GB.out.cell 1
      have d2 : GW.cell? ⟨g, 2, none⟩ = some (.int .i64 gt.a) := GB.out.cell 2
      have d3 : GW.cell? ⟨g, 3, none⟩ = some (.int .i64 gt.b) := GB.out.cell 3
      have d4 : GW.cell? ⟨g, 4, none⟩ = some (.int .i64 gt.c) := GB.out.cell 4
      have d5 : GW.cell? ⟨g, 5, none⟩ = some (.int .i64 0) := GB.out.cell 5
      have d6 : GW.cell? ⟨g, 6, none⟩ = some (.int .i64 0) := GB.out.cell 6
      have d7 : GW.cell? ⟨g, 7, none⟩ = some (.int .i64 (n1 + 1)) := GB.out.cell 7
      by_cases hz : s = ⟨#[]⟩
      · have e1 : (ByteArray.toList s).isEmpty = true := (empty_iff s).2 hz
        have HN : Hid (∀ o' : Oq, vOp o' 4 3 = true → s ≠ otx o') := none_empty hz
        clear hz
        obtain ⟨⟨a0, a1, a2, a3, a4, a5, a6, a7⟩, z0, z1, z2, z3, z4, z5, z6, z7⟩ := cells8 (HB2.out.ext GX.out)
        go_wp2
        exact bodyPost_ret (v := .tuple #[O0.val, .bool false]) (ret_pair rfl _ _ _ _ _ _ _ rfl rfl ((HB2.out.ext GX.out).put8 (.int .i64 0) (.int .i64 0) (.int .i64 0) (.int .i64 0) (.int .i64 0) (.int .i64 0) (.int .i64 0) (.int .i64 0)) Tryz.underlying39 rfl Tryz.sizeOpR) rfl ⟨opRes_no rfl HN.out, ext_put8 (HX2.out.trans GX.out) (Nat.le_refl _) _ _ _ _ _ _ _ _⟩
      · have e1 : (ByteArray.toList s).isEmpty = false := by
          cases e : (ByteArray.toList s).isEmpty
          · rfl
          · exact absurd ((empty_iff s).1 e) hz
        have HSZ := Lib.hid hz
        clear hz
        have HCG : Hid (∀ w', Ext w2 w' → Calls Tryz.prog 35 #[.agg #[.int .i64 1, .int .i64 gt.k, .int .i64 gt.a, .int .i64 gt.b, .int .i64 gt.c, .int .i64 0, .int .i64 0, .int .i64 (n1 + 1)]] w' fun e w'' => e = .returned (.string (otx ⟨1, gt, 0, 0, n1 + 1⟩)) ∧ Ext w' w'') := fun w' hx => impl_FormatOp_any ⟨1, gt, 0, 0, n1 + 1⟩ w' (HPW.out.ext (HX2.out.trans hx)).gn
        go_wp2_with fail
        refine (HCG.out _ GX.out).mono ?_
        rintro e v9 ⟨rfl, hy9⟩
        have HY9 := Lib.hid hy9
        clear hy9 d0 d1 d2 d3 d4 d5 d6 d7 HCG
        obtain ⟨⟨a0, a1, a2, a3, a4, a5, a6, a7⟩, z0, z1, z2, z3, z4, z5, z6, z7⟩ := cells8 (HB2.out.ext (GX.out.trans HY9.out))
        obtain ⟨os, hos⟩ : ∃ os, otx ⟨1, gt, 0, 0, n1 + 1⟩ = os := ⟨_, rfl⟩
        rw [hos]
        have HOS := Lib.hid hos
        clear hos
        obtain ⟨qq, hqq⟩ : ∃ qq, (ByteArray.toList os == ByteArray.toList s) = qq := ⟨_, rfl⟩
        cases qq
        · have HN : Hid (∀ o' : Oq, vOp o' 4 3 = true → s ≠ otx o') := none_other HS.out (by rw [HOS.out]; exact hqq)
          go_wp2
          exact bodyPost_ret (v := .tuple #[O0.val, .bool false]) (ret_pair rfl _ _ _ _ _ _ _ rfl rfl ((HB2.out.ext (GX.out.trans HY9.out)).put8 (.int .i64 0) (.int .i64 0) (.int .i64 0) (.int .i64 0) (.int .i64 0) (.int .i64 0) (.int .i64 0) (.int .i64 0)) Tryz.underlying39 rfl Tryz.sizeOpR) rfl ⟨opRes_no rfl HN.out, ext_put8 (HX2.out.trans (GX.out.trans HY9.out)) (Nat.le_refl _) _ _ _ _ _ _ _ _⟩
        · have HQ := Lib.hid (str_beq.1 hqq)
          have d0 : v9.cell? ⟨g, 0, none⟩ = some (.int .i64 1) := (GB.out.ext HY9.out).cell 0
          have d1 : v9.cell? ⟨g, 1, none⟩ = some (.int .i64 gt.k) := (GB.out.ext HY9.out).cell 1
          have d2 : v9.cell? ⟨g, 2, none⟩ = some (.int .i64 gt.a) := (GB.out.ext HY9.out).cell 2
          have d3 : v9.cell? ⟨g, 3, none⟩ = some (.int .i64 gt.b) := (GB.out.ext HY9.out).cell 3
          have d4 : v9.cell? ⟨g, 4, none⟩ = some (.int .i64 gt.c) := (GB.out.ext HY9.out).cell 4
          have d5 : v9.cell? ⟨g, 5, none⟩ = some (.int .i64 0) := (GB.out.ext HY9.out).cell 5
          have d6 : v9.cell? ⟨g, 6, none⟩ = some (.int .i64 0) := (GB.out.ext HY9.out).cell 6
          have d7 : v9.cell? ⟨g, 7, none⟩ = some (.int .i64 (n1 + 1)) := (GB.out.ext HY9.out).cell 7
          go_wp2
          exact bodyPost_ret (v := .tuple #[(⟨1, gt, 0, 0, n1 + 1⟩ : Oq).val, .bool true]) (ret_pair rfl _ _ _ _ _ _ _ rfl rfl ((HB2.out.ext (GX.out.trans HY9.out)).put8 (.int .i64 1) (.int .i64 gt.k) (.int .i64 gt.a) (.int .i64 gt.b) (.int .i64 gt.c) (.int .i64 0) (.int .i64 0) (.int .i64 (n1 + 1))) Tryz.underlying39 rfl Tryz.sizeOpR) rfl ⟨opRes_yes ⟨1, gt, 0, 0, n1 + 1⟩ rfl HSZ.out (HOS.out.trans HQ.out) HS.out, ext_put8 (HX2.out.trans (GX.out.trans HY9.out)) (Nat.le_refl _) _ _ _ _ _ _ _ _⟩
    · have hm' : ¬ ((2 : Int) < (m : Int)) := by omega
      have HMM := Lib.hid hm
      clear hm
      go_wp2_with fail
      refine (impl_ParseGate_any s (by have := hs; omega) _ (HPW.out.ext (HX2.out.trans X0.out))).mono ?_
      clear em ec ei q0 hm'
      rintro e v8 ⟨⟨gt, okg, rfl, hgr⟩, hv8⟩
      have HGR := Lib.hid hgr
      have HV8 := Lib.hid hv8
      clear hgr hv8
      have c1 : v8.cell? ⟨g, 1, none⟩ = some (.int .i64 0) := (B0.out.ext HV8.out).cell 1
      have f1 : v8.frozen? ⟨g, 1, none⟩ = false := (B0.out.ext HV8.out).frozen 1
      have c2 : v8.cell? ⟨g, 2, none⟩ = some (.int .i64 0) := (B0.out.ext HV8.out).cell 2
      have f2 : v8.frozen? ⟨g, 2, none⟩ = false := (B0.out.ext HV8.out).frozen 2
      have c3 : v8.cell? ⟨g, 3, none⟩ = some (.int .i64 0) := (B0.out.ext HV8.out).cell 3
      have f3 : v8.frozen? ⟨g, 3, none⟩ = false := (B0.out.ext HV8.out).frozen 3
      have c4 : v8.cell? ⟨g, 4, none⟩ = some (.int .i64 0) := (B0.out.ext HV8.out).cell 4
      have f4 : v8.frozen? ⟨g, 4, none⟩ = false := (B0.out.ext HV8.out).frozen 4
      go_upto_region 15 with (fail)
      clear c1 c2 c3 c4 f1 f2 f3 f4
      have GB : Hid (Blk (putG v8 g (.int .i64 gt.k) (.int .i64 gt.a) (.int .i64 gt.b) (.int .i64 gt.c)) g 39 #[.int .i64 1, .int .i64 gt.k, .int .i64 gt.a, .int .i64 gt.b, .int .i64 gt.c, .int .i64 0, .int .i64 0, .int .i64 0]) := (B0.out.ext HV8.out).putG _ _ _ _
      have GX : Hid (Ext w2 (putG v8 g (.int .i64 gt.k) (.int .i64 gt.a) (.int .i64 gt.b) (.int .i64 gt.c))) := ext_putG (X0.out.trans HV8.out) HG.out _ _ _ _
      unfold putG at GB GX
      generalize (((v8.setCell ⟨g, 1, none⟩ (.int .i64 gt.k)).setCell ⟨g, 2, none⟩ (.int .i64 gt.a)).setCell ⟨g, 3, none⟩ (.int .i64 gt.b)).setCell ⟨g, 4, none⟩ (.int .i64 gt.c) = GW at *
      have HS : Hid (∀ o' : Oq, vOp o' 4 3 = true → s = otx o' → (⟨1, gt, 0, 0, 0⟩ : Oq) = o') := fun o' hv he => cand1 (fun h => H2.out h.1) (fun h => H3.out h.1) (fun h => by have := HMM.out; omega) HGR.out HW.out o' hv he
      have d0 : GW.cell? ⟨g, 0, none⟩ = some (.int .i64 1) := GB.out.cell 0
      have d1 : GW.cell? ⟨g, 1, none⟩ = some (.int .i64 gt.k) := GB.out.cell 1
      have d2 : GW.cell? ⟨g, 2, none⟩ = some (.int .i64 gt.a) := GB.out.cell 2
      have d3 : GW.cell? ⟨g, 3, none⟩ = some (.int .i64 gt.b) := GB.out.cell 3
      have d4 : GW.cell? ⟨g, 4, none⟩ = some (.int .i64 gt.c) := GB.out.cell 4
      have d5 : GW.cell? ⟨g, 5, none⟩ = some (.int .i64 0) := GB.out.cell 5
      have d6 : GW.cell? ⟨g, 6, none⟩ = some (.int .i64 0) := GB.out.cell 6
      have d7 : GW.cell? ⟨g, 7, none⟩ = some (.int .i64 0) := GB.out.cell 7
      by_cases hz : s = ⟨#[]⟩
      · have e1 : (ByteArray.toList s).isEmpty = true := (empty_iff s).2 hz
        have HN : Hid (∀ o' : Oq, vOp o' 4 3 = true → s ≠ otx o') := none_empty hz
        clear hz
        obtain ⟨⟨a0, a1, a2, a3, a4, a5, a6, a7⟩, z0, z1, z2, z3, z4, z5, z6, z7⟩ := cells8 (HB2.out.ext GX.out)
        go_wp2
        exact bodyPost_ret (v := .tuple #[O0.val, .bool false]) (ret_pair rfl _ _ _ _ _ _ _ rfl rfl ((HB2.out.ext GX.out).put8 (.int .i64 0) (.int .i64 0) (.int .i64 0) (.int .i64 0) (.int .i64 0) (.int .i64 0) (.int .i64 0) (.int .i64 0)) Tryz.underlying39 rfl Tryz.sizeOpR) rfl ⟨opRes_no rfl HN.out, ext_put8 (HX2.out.trans GX.out) (Nat.le_refl _) _ _ _ _ _ _ _ _⟩
      · have e1 : (ByteArray.toList s).isEmpty = false := by
          cases e : (ByteArray.toList s).isEmpty
          · rfl
          · exact absurd ((empty_iff s).1 e) hz
        have HSZ := Lib.hid hz
        clear hz
        have HCG : Hid (∀ w', Ext w2 w' → Calls Tryz.prog 35 #[.agg #[.int .i64 1, .int .i64 gt.k, .int .i64 gt.a, .int .i64 gt.b, .int .i64 gt.c, .int .i64 0, .int .i64 0, .int .i64 0]] w' fun e w'' => e = .returned (.string (otx ⟨1, gt, 0, 0, 0⟩)) ∧ Ext w' w'') := fun w' hx => impl_FormatOp_any ⟨1, gt, 0, 0, 0⟩ w' (HPW.out.ext (HX2.out.trans hx)).gn
        go_wp2_with fail
        refine (HCG.out _ GX.out).mono ?_
        rintro e v9 ⟨rfl, hy9⟩
        have HY9 := Lib.hid hy9
        clear hy9 d0 d1 d2 d3 d4 d5 d6 d7 HCG
        obtain ⟨⟨a0, a1, a2, a3, a4, a5, a6, a7⟩, z0, z1, z2, z3, z4, z5, z6, z7⟩ := cells8 (HB2.out.ext (GX.out.trans HY9.out))
        obtain ⟨os, hos⟩ : ∃ os, otx ⟨1, gt, 0, 0, 0⟩ = os := ⟨_, rfl⟩
        rw [hos]
        have HOS := Lib.hid hos
        clear hos
        obtain ⟨qq, hqq⟩ : ∃ qq, (ByteArray.toList os == ByteArray.toList s) = qq := ⟨_, rfl⟩
        cases qq
        · have HN : Hid (∀ o' : Oq, vOp o' 4 3 = true → s ≠ otx o') := none_other HS.out (by rw [HOS.out]; exact hqq)
          go_wp2
          exact bodyPost_ret (v := .tuple #[O0.val, .bool false]) (ret_pair rfl _ _ _ _ _ _ _ rfl rfl ((HB2.out.ext (GX.out.trans HY9.out)).put8 (.int .i64 0) (.int .i64 0) (.int .i64 0) (.int .i64 0) (.int .i64 0) (.int .i64 0) (.int .i64 0) (.int .i64 0)) Tryz.underlying39 rfl Tryz.sizeOpR) rfl ⟨opRes_no rfl HN.out, ext_put8 (HX2.out.trans (GX.out.trans HY9.out)) (Nat.le_refl _) _ _ _ _ _ _ _ _⟩
        · have HQ := Lib.hid (str_beq.1 hqq)
          have d0 : v9.cell? ⟨g, 0, none⟩ = some (.int .i64 1) := (GB.out.ext HY9.out).cell 0
          have d1 : v9.cell? ⟨g, 1, none⟩ = some (.int .i64 gt.k) := (GB.out.ext HY9.out).cell 1
          have d2 : v9.cell? ⟨g, 2, none⟩ = some (.int .i64 gt.a) := (GB.out.ext HY9.out).cell 2
          have d3 : v9.cell? ⟨g, 3, none⟩ = some (.int .i64 gt.b) := (GB.out.ext HY9.out).cell 3
          have d4 : v9.cell? ⟨g, 4, none⟩ = some (.int .i64 gt.c) := (GB.out.ext HY9.out).cell 4
          have d5 : v9.cell? ⟨g, 5, none⟩ = some (.int .i64 0) := (GB.out.ext HY9.out).cell 5
          have d6 : v9.cell? ⟨g, 6, none⟩ = some (.int .i64 0) := (GB.out.ext HY9.out).cell 6
          have d7 : v9.cell? ⟨g, 7, none⟩ = some (.int .i64 0) := (GB.out.ext HY9.out).cell 7
          go_wp2
          exact bodyPost_ret (v := .tuple #[(⟨1, gt, 0, 0, 0⟩ : Oq).val, .bool true]) (ret_pair rfl _ _ _ _ _ _ _ rfl rfl ((HB2.out.ext (GX.out.trans HY9.out)).put8 (.int .i64 1) (.int .i64 gt.k) (.int .i64 gt.a) (.int .i64 gt.b) (.int .i64 gt.c) (.int .i64 0) (.int .i64 0) (.int .i64 0)) Tryz.underlying39 rfl Tryz.sizeOpR) rfl ⟨opRes_yes ⟨1, gt, 0, 0, 0⟩ rfl HSZ.out (HOS.out.trans HQ.out) HS.out, ext_put8 (HX2.out.trans (GX.out.trans HY9.out)) (Nat.le_refl _) _ _ _ _ _ _ _ _⟩
  have H1 := Lib.hid hi
  have ei : (ByteArray.toList y0 == [105, 102]) = false := bneL (l := [105, 102]) hi
  clear hi
  by_cases h2 : y0 = wMe
  · have HH := Lib.hid h2
    have em : (ByteArray.toList y0 == [109, 101, 97, 115, 117, 114, 101]) = true := beqL (l := [109, 101, 97, 115, 117, 114, 101]) h2
    have H3 : Hid (¬ y0 = wCl) := fun h => hne.1 (h2.symm.trans h)
    have ec : (ByteArray.toList y0 == [99, 108, 101, 97, 110]) = false := bneL (l := [99, 108, 101, 97, 110]) H3.out
    clear h2 hne
    by_cases hm : m = 3
    · subst hm
      have c0 : W0.cell? ⟨g, 0, none⟩ = some (.int .i64 1) := B0.out.cell 0
      have c0 : W0.cell? ⟨g, 0, none⟩ = some (.int .i64 1) := (B0.out).cell 0
      have f0 : W0.frozen? ⟨g, 0, none⟩ = false := (B0.out).frozen 0
      go_upto_region 10 with (fail)
      clear c0 f0
      have UB1 : Hid (Blk (W0.setCell ⟨g, 0, none⟩ (.int .i64 2)) g 39 #[.int .i64 2, .int .i64 0, .int .i64 0, .int .i64 0, .int .i64 0, .int .i64 0, .int .i64 0, .int .i64 0]) := (B0.out).set_ 0 _
      have UX1 : Hid (Ext w2 (W0.setCell ⟨g, 0, none⟩ (.int .i64 2))) := (X0.out).setCell (p := ⟨g, 0, none⟩) HG.out _
      generalize W0.setCell ⟨g, 0, none⟩ (.int .i64 2) = U1 at *
      clear em ec ei q0
      have q1 : U1.cell? ⟨b, 1, none⟩ = some (.string y1) := (HY.out _ UX1.out).2.1 (by omega)
      go_wp2_with fail
      refine (impl_ParseNumber_any y1 HZ1.out _ (HPW.out.ext (HX2.out.trans UX1.out))).mono ?_
      rintro e v1 ⟨⟨n1, ok1, rfl, hp1⟩, hv1⟩
      have HP1 := Lib.hid hp1
      have HV1 := Lib.hid hv1
      clear hp1 hv1 q1
      have c5 : v1.cell? ⟨g, 5, none⟩ = some (.int .i64 0) := (UB1.out.ext HV1.out).cell 5
      have f5 : v1.frozen? ⟨g, 5, none⟩ = false := (UB1.out.ext HV1.out).frozen 5
      go_upto_region 11 with (fail)
      clear c5 f5
      have UB2 : Hid (Blk (v1.setCell ⟨g, 5, none⟩ (.int .i64 n1)) g 39 #[.int .i64 2, .int .i64 0, .int .i64 0, .int .i64 0, .int .i64 0, .int .i64 n1, .int .i64 0, .int .i64 0]) := (UB1.out.ext HV1.out).set_ 5 _
      have UX2 : Hid (Ext w2 (v1.setCell ⟨g, 5, none⟩ (.int .i64 n1))) := (UX1.out.trans HV1.out).setCell (p := ⟨g, 5, none⟩) HG.out _
      generalize v1.setCell ⟨g, 5, none⟩ (.int .i64 n1) = U2 at *
      have q2 : U2.cell? ⟨b, 2, none⟩ = some (.string y2) := (HY.out _ UX2.out).2.2 (by omega)
      go_wp2_with fail
      refine (impl_ParseNumber_any y2 HZ2.out _ (HPW.out.ext (HX2.out.trans UX2.out))).mono ?_
      rintro e v2 ⟨⟨n2, ok2, rfl, hp2⟩, hv2⟩
      have HP2 := Lib.hid hp2
      have HV2 := Lib.hid hv2
      clear hp2 hv2 q2
      have c6 : v2.cell? ⟨g, 6, none⟩ = some (.int .i64 0) := (UB2.out.ext HV2.out).cell 6
      have f6 : v2.frozen? ⟨g, 6, none⟩ = false := (UB2.out.ext HV2.out).frozen 6
      go_upto_region 15 with (fail)
      clear c6 f6
      have UB3 : Hid (Blk (v2.setCell ⟨g, 6, none⟩ (.int .i64 n2)) g 39 #[.int .i64 2, .int .i64 0, .int .i64 0, .int .i64 0, .int .i64 0, .int .i64 n1, .int .i64 n2, .int .i64 0]) := (UB2.out.ext HV2.out).set_ 6 _
      have UX3 : Hid (Ext w2 (v2.setCell ⟨g, 6, none⟩ (.int .i64 n2))) := (UX2.out.trans HV2.out).setCell (p := ⟨g, 6, none⟩) HG.out _
      generalize v2.setCell ⟨g, 6, none⟩ (.int .i64 n2) = U3 at *
      have HS : Hid (∀ o' : Oq, vOp o' 4 3 = true → s = otx o' → (⟨2, G0, n1, n2, 0⟩ : Oq) = o') := fun o' hv he => cand2 HH.out HP1.out HP2.out HW.out o' hv he
      have d0 : U3.cell? ⟨g, 0, none⟩ = some (.int .i64 2) := UB3.out.cell 0
      have d1 : U3.cell? ⟨g, 1, none⟩ = some (.int .i64 0) := UB3.out.cell 1
      have d2 : U3.cell? ⟨g, 2, none⟩ = some (.int .i64 0) := UB3.out.cell 2
      have d3 : U3.cell? ⟨g, 3, none⟩ = some (.int .i64 0) := UB3.out.cell 3
      have d4 : U3.cell? ⟨g, 4, none⟩ = some (.int .i64 0) := UB3.out.cell 4
      have d5 : U3.cell? ⟨g, 5, none⟩ = some (.int .i64 n1) := UB3.out.cell 5
      have d6 : U3.cell? ⟨g, 6, none⟩ = some (.int .i64 n2) := UB3.out.cell 6
      have d7 : U3.cell? ⟨g, 7, none⟩ = some (.int .i64 0) := UB3.out.cell 7
      by_cases hz : s = ⟨#[]⟩
      · have e1 : (ByteArray.toList s).isEmpty = true := (empty_iff s).2 hz
        have HN : Hid (∀ o' : Oq, vOp o' 4 3 = true → s ≠ otx o') := none_empty hz
        clear hz
        obtain ⟨⟨a0, a1, a2, a3, a4, a5, a6, a7⟩, z0, z1, z2, z3, z4, z5, z6, z7⟩ := cells8 (HB2.out.ext UX3.out)
        go_wp2
        exact bodyPost_ret (v := .tuple #[O0.val, .bool false]) (ret_pair rfl _ _ _ _ _ _ _ rfl rfl ((HB2.out.ext UX3.out).put8 (.int .i64 0) (.int .i64 0) (.int .i64 0) (.int .i64 0) (.int .i64 0) (.int .i64 0) (.int .i64 0) (.int .i64 0)) Tryz.underlying39 rfl Tryz.sizeOpR) rfl ⟨opRes_no rfl HN.out, ext_put8 (HX2.out.trans UX3.out) (Nat.le_refl _) _ _ _ _ _ _ _ _⟩
      · have e1 : (ByteArray.toList s).isEmpty = false := by
          cases e : (ByteArray.toList s).isEmpty
          · rfl
          · exact absurd ((empty_iff s).1 e) hz
        have HSZ := Lib.hid hz
        clear hz
        have HCG : Hid (∀ w', Ext w2 w' → Calls Tryz.prog 35 #[.agg #[.int .i64 2, .int .i64 0, .int .i64 0, .int .i64 0, .int .i64 0, .int .i64 n1, .int .i64 n2, .int .i64 0]] w' fun e w'' => e = .returned (.string (otx ⟨2, G0, n1, n2, 0⟩)) ∧ Ext w' w'') := fun w' hx => impl_FormatOp_any ⟨2, G0, n1, n2, 0⟩ w' (HPW.out.ext (HX2.out.trans hx)).gn
        go_wp2_with fail
        refine (HCG.out _ UX3.out).mono ?_
        rintro e v9 ⟨rfl, hy9⟩
        have HY9 := Lib.hid hy9
        clear hy9 d0 d1 d2 d3 d4 d5 d6 d7 HCG
        obtain ⟨⟨a0, a1, a2, a3, a4, a5, a6, a7⟩, z0, z1, z2, z3, z4, z5, z6, z7⟩ := cells8 (HB2.out.ext (UX3.out.trans HY9.out))
        obtain ⟨os, hos⟩ : ∃ os, otx ⟨2, G0, n1, n2, 0⟩ = os := ⟨_, rfl⟩
        rw [hos]
        have HOS := Lib.hid hos
        clear hos
        obtain ⟨qq, hqq⟩ : ∃ qq, (ByteArray.toList os == ByteArray.toList s) = qq := ⟨_, rfl⟩
        cases qq
        · have HN : Hid (∀ o' : Oq, vOp o' 4 3 = true → s ≠ otx o') := none_other HS.out (by rw [HOS.out]; exact hqq)
          go_wp2
          exact bodyPost_ret (v := .tuple #[O0.val, .bool false]) (ret_pair rfl _ _ _ _ _ _ _ rfl rfl ((HB2.out.ext (UX3.out.trans HY9.out)).put8 (.int .i64 0) (.int .i64 0) (.int .i64 0) (.int .i64 0) (.int .i64 0) (.int .i64 0) (.int .i64 0) (.int .i64 0)) Tryz.underlying39 rfl Tryz.sizeOpR) rfl ⟨opRes_no rfl HN.out, ext_put8 (HX2.out.trans (UX3.out.trans HY9.out)) (Nat.le_refl _) _ _ _ _ _ _ _ _⟩
        · have HQ := Lib.hid (str_beq.1 hqq)
          have d0 : v9.cell? ⟨g, 0, none⟩ = some (.int .i64 2) := (UB3.out.ext HY9.out).cell 0
          have d1 : v9.cell? ⟨g, 1, none⟩ = some (.int .i64 0) := (UB3.out.ext HY9.out).cell 1
          have d2 : v9.cell? ⟨g, 2, none⟩ = some (.int .i64 0) := (UB3.out.ext HY9.out).cell 2
          have d3 : v9.cell? ⟨g, 3, none⟩ = some (.int .i64 0) := (UB3.out.ext HY9.out).cell 3
          have d4 : v9.cell? ⟨g, 4, none⟩ = some (.int .i64 0) := (UB3.out.ext HY9.out).cell 4
          have d5 : v9.cell? ⟨g, 5, none⟩ = some (.int .i64 n1) := (UB3.out.ext HY9.out).cell 5
          have d6 : v9.cell? ⟨g, 6, none⟩ = some (.int .i64 n2) := (UB3.out.ext HY9.out).cell 6
          have d7 : v9.cell? ⟨g, 7, none⟩ = some (.int .i64 0) := (UB3.out.ext HY9.out).cell 7
          go_wp2
          exact bodyPost_ret (v := .tuple #[(⟨2, G0, n1, n2, 0⟩ : Oq).val, .bool true]) (ret_pair rfl _ _ _ _ _ _ _ rfl rfl ((HB2.out.ext (UX3.out.trans HY9.out)).put8 (.int .i64 2) (.int .i64 0) (.int .i64 0) (.int .i64 0) (.int .i64 0) (.int .i64 n1) (.int .i64 n2) (.int .i64 0)) Tryz.underlying39 rfl Tryz.sizeOpR) rfl ⟨opRes_yes ⟨2, G0, n1, n2, 0⟩ rfl HSZ.out (HOS.out.trans HQ.out) HS.out, ext_put8 (HX2.out.trans (UX3.out.trans HY9.out)) (Nat.le_refl _) _ _ _ _ _ _ _ _⟩
    · have hm' : ((m : Int) == 3) = false := by simp; omega
      have HMM := Lib.hid hm
      clear hm
      go_wp2_with fail
      refine (impl_ParseGate_any s (by have := hs; omega) _ (HPW.out.ext (HX2.out.trans X0.out))).mono ?_
      clear em ec ei q0 hm'
      rintro e v8 ⟨⟨gt, okg, rfl, hgr⟩, hv8⟩
      have HGR := Lib.hid hgr
      have HV8 := Lib.hid hv8
      clear hgr hv8
      have c1 : v8.cell? ⟨g, 1, none⟩ = some (.int .i64 0) := (B0.out.ext HV8.out).cell 1
      have f1 : v8.frozen? ⟨g, 1, none⟩ = false := (B0.out.ext HV8.out).frozen 1
      have c2 : v8.cell? ⟨g, 2, none⟩ = some (.int .i64 0) := (B0.out.ext HV8.out).cell 2
      have f2 : v8.frozen? ⟨g, 2, none⟩ = false := (B0.out.ext HV8.out).frozen 2
      have c3 : v8.cell? ⟨g, 3, none⟩ = some (.int .i64 0) := (B0.out.ext HV8.out).cell 3
      have f3 : v8.frozen? ⟨g, 3, none⟩ = false := (B0.out.ext HV8.out).frozen 3
      have c4 : v8.cell? ⟨g, 4, none⟩ = some (.int .i64 0) := (B0.out.ext HV8.out).cell 4
      have f4 : v8.frozen? ⟨g, 4, none⟩ = false := (B0.out.ext HV8.out).frozen 4
      go_upto_region 15 with (fail)
      clear c1 c2 c3 c4 f1 f2 f3 f4
      have GB : Hid (Blk (putG v8 g (.int .i64 gt.k) (.int .i64 gt.a) (.int .i64 gt.b) (.int .i64 gt.c)) g 39 #[.int .i64 1, .int .i64 gt.k, .int .i64 gt.a, .int .i64 gt.b, .int .i64 gt.c, .int .i64 0, .int .i64 0, .int .i64 0]) := (B0.out.ext HV8.out).putG _ _ _ _
      have GX : Hid (Ext w2 (putG v8 g (.int .i64 gt.k) (.int .i64 gt.a) (.int .i64 gt.b) (.int .i64 gt.c))) := ext_putG (X0.out.trans HV8.out) HG.out _ _ _ _
      unfold putG at GB GX
      generalize (((v8.setCell ⟨g, 1, none⟩ (.int .i64 gt.k)).setCell ⟨g, 2, none⟩ (.int .i64 gt.a)).setCell ⟨g, 3, none⟩ (.int .i64 gt.b)).setCell ⟨g, 4, none⟩ (.int .i64 gt.c) = GW at *
      have HS : Hid (∀ o' : Oq, vOp o' 4 3 = true → s = otx o' → (⟨1, gt, 0, 0, 0⟩ : Oq) = o') := fun o' hv he => cand1 (fun h => HMM.out h.2) (fun h => H3.out h.1) (fun h => H1.out h.1) HGR.out HW.out o' hv he
      have d0 : GW.cell? ⟨g, 0, none⟩ = some (.int .i64 1) := GB.out.cell 0
      have d1 : GW.cell? ⟨g, 1, none⟩ = some (.int .i64 gt.k) := GB.out.cell 1
      have d2 : GW.cell? ⟨g, 2, none⟩ = some (.int .i64 gt.a) := GB.out.cell 2
      have d3 : GW.cell? ⟨g, 3, none⟩ = some (.int .i64 gt.b) := GB.out.cell 3
      have d4 : GW.cell? ⟨g, 4, none⟩ = some (.int .i64 gt.c) := GB.out.cell 4
      have d5 : GW.cell? ⟨g, 5, none⟩ = some (.int .i64 0) := GB.out.cell 5
      have d6 : GW.cell? ⟨g, 6, none⟩ = some (.int .i64 0) := GB.out.cell 6
      have d7 : GW.cell? ⟨g, 7, none⟩ = some (.int .i64 0) := GB.out.cell 7
      by_cases hz : s = ⟨#[]⟩
      · have e1 : (ByteArray.toList s).isEmpty = true := (empty_iff s).2 hz
        have HN : Hid (∀ o' : Oq, vOp o' 4 3 = true → s ≠ otx o') := none_empty hz
        clear hz
        obtain ⟨⟨a0, a1, a2, a3, a4, a5, a6, a7⟩, z0, z1, z2, z3, z4, z5, z6, z7⟩ := cells8 (HB2.out.ext GX.out)
        go_wp2
        exact bodyPost_ret (v := .tuple #[O0.val, .bool false]) (ret_pair rfl _ _ _ _ _ _ _ rfl rfl ((HB2.out.ext GX.out).put8 (.int .i64 0) (.int .i64 0) (.int .i64 0) (.int .i64 0) (.int .i64 0) (.int .i64 0) (.int .i64 0) (.int .i64 0)) Tryz.underlying39 rfl Tryz.sizeOpR) rfl ⟨opRes_no rfl HN.out, ext_put8 (HX2.out.trans GX.out) (Nat.le_refl _) _ _ _ _ _ _ _ _⟩
      · have e1 : (ByteArray.toList s).isEmpty = false := by
          cases e : (ByteArray.toList s).isEmpty
          · rfl
          · exact absurd ((empty_iff s).1 e) hz
        have HSZ := Lib.hid hz
        clear hz
        have HCG : Hid (∀ w', Ext w2 w' → Calls Tryz.prog 35 #[.agg #[.int .i64 1, .int .i64 gt.k, .int .i64 gt.a, .int .i64 gt.b, .int .i64 gt.c, .int .i64 0, .int .i64 0, .int .i64 0]] w' fun e w'' => e = .returned (.string (otx ⟨1, gt, 0, 0, 0⟩)) ∧ Ext w' w'') := fun w' hx => impl_FormatOp_any ⟨1, gt, 0, 0, 0⟩ w' (HPW.out.ext (HX2.out.trans hx)).gn
        go_wp2_with fail
        refine (HCG.out _ GX.out).mono ?_
        rintro e v9 ⟨rfl, hy9⟩
        have HY9 := Lib.hid hy9
        clear hy9 d0 d1 d2 d3 d4 d5 d6 d7 HCG
        obtain ⟨⟨a0, a1, a2, a3, a4, a5, a6, a7⟩, z0, z1, z2, z3, z4, z5, z6, z7⟩ := cells8 (HB2.out.ext (GX.out.trans HY9.out))
        obtain ⟨os, hos⟩ : ∃ os, otx ⟨1, gt, 0, 0, 0⟩ = os := ⟨_, rfl⟩
        rw [hos]
        have HOS := Lib.hid hos
        clear hos
        obtain ⟨qq, hqq⟩ : ∃ qq, (ByteArray.toList os == ByteArray.toList s) = qq := ⟨_, rfl⟩
        cases qq
        · have HN : Hid (∀ o' : Oq, vOp o' 4 3 = true → s ≠ otx o') := none_other HS.out (by rw [HOS.out]; exact hqq)
          go_wp2
          exact bodyPost_ret (v := .tuple #[O0.val, .bool false]) (ret_pair rfl _ _ _ _ _ _ _ rfl rfl ((HB2.out.ext (GX.out.trans HY9.out)).put8 (.int .i64 0) (.int .i64 0) (.int .i64 0) (.int .i64 0) (.int .i64 0) (.int .i64 0) (.int .i64 0) (.int .i64 0)) Tryz.underlying39 rfl Tryz.sizeOpR) rfl ⟨opRes_no rfl HN.out, ext_put8 (HX2.out.trans (GX.out.trans HY9.out)) (Nat.le_refl _) _ _ _ _ _ _ _ _⟩
        · have HQ := Lib.hid (str_beq.1 hqq)
          have d0 : v9.cell? ⟨g, 0, none⟩ = some (.int .i64 1) := (GB.out.ext HY9.out).cell 0
          have d1 : v9.cell? ⟨g, 1, none⟩ = some (.int .i64 gt.k) := (GB.out.ext HY9.out).cell 1
          have d2 : v9.cell? ⟨g, 2, none⟩ = some (.int .i64 gt.a) := (GB.out.ext HY9.out).cell 2
          have d3 : v9.cell? ⟨g, 3, none⟩ = some (.int .i64 gt.b) := (GB.out.ext HY9.out).cell 3
          have d4 : v9.cell? ⟨g, 4, none⟩ = some (.int .i64 gt.c) := (GB.out.ext HY9.out).cell 4
          have d5 : v9.cell? ⟨g, 5, none⟩ = some (.int .i64 0) := (GB.out.ext HY9.out).cell 5
          have d6 : v9.cell? ⟨g, 6, none⟩ = some (.int .i64 0) := (GB.out.ext HY9.out).cell 6
          have d7 : v9.cell? ⟨g, 7, none⟩ = some (.int .i64 0) := (GB.out.ext HY9.out).cell 7
          go_wp2
          exact bodyPost_ret (v := .tuple #[(⟨1, gt, 0, 0, 0⟩ : Oq).val, .bool true]) (ret_pair rfl _ _ _ _ _ _ _ rfl rfl ((HB2.out.ext (GX.out.trans HY9.out)).put8 (.int .i64 1) (.int .i64 gt.k) (.int .i64 gt.a) (.int .i64 gt.b) (.int .i64 gt.c) (.int .i64 0) (.int .i64 0) (.int .i64 0)) Tryz.underlying39 rfl Tryz.sizeOpR) rfl ⟨opRes_yes ⟨1, gt, 0, 0, 0⟩ rfl HSZ.out (HOS.out.trans HQ.out) HS.out, ext_put8 (HX2.out.trans (GX.out.trans HY9.out)) (Nat.le_refl _) _ _ _ _ _ _ _ _⟩
  have H2 := Lib.hid h2
  have em : (ByteArray.toList y0 == [109, 101, 97, 115, 117, 114, 101]) = false := bneL (l := [109, 101, 97, 115, 117, 114, 101]) h2
  clear h2 hne
  by_cases h3 : y0 = wCl
  · have HH := Lib.hid h3
    have ec : (ByteArray.toList y0 == [99, 108, 101, 97, 110]) = true := beqL (l := [99, 108, 101, 97, 110]) h3
    clear h3
    by_cases hm : m = 2
    · subst hm
      have c0 : W0.cell? ⟨g, 0, none⟩ = some (.int .i64 1) := (B0.out).cell 0
      have f0 : W0.frozen? ⟨g, 0, none⟩ = false := (B0.out).frozen 0
      go_upto_region 14 with (fail)
      clear c0 f0
      have UB1 : Hid (Blk (W0.setCell ⟨g, 0, none⟩ (.int .i64 3)) g 39 #[.int .i64 3, .int .i64 0, .int .i64 0, .int .i64 0, .int .i64 0, .int .i64 0, .int .i64 0, .int .i64 0]) := (B0.out).set_ 0 _
      have UX1 : Hid (Ext w2 (W0.setCell ⟨g, 0, none⟩ (.int .i64 3))) := (X0.out).setCell (p := ⟨g, 0, none⟩) HG.out _
      generalize W0.setCell ⟨g, 0, none⟩ (.int .i64 3) = U1 at *
      clear em ec ei q0
      have q1 : U1.cell? ⟨b, 1, none⟩ = some (.string y1) := (HY.out _ UX1.out).2.1 (by omega)
      go_wp2_with fail
      refine (impl_ParseNumber_any y1 HZ1.out _ (HPW.out.ext (HX2.out.trans UX1.out))).mono ?_
      rintro e v1 ⟨⟨n1, ok1, rfl, hp1⟩, hv1⟩
      have HP1 := Lib.hid hp1
      have HV1 := Lib.hid hv1
      clear hp1 hv1 q1
      have c5 : v1.cell? ⟨g, 5, none⟩ = some (.int .i64 0) := (UB1.out.ext HV1.out).cell 5
      have f5 : v1.frozen? ⟨g, 5, none⟩ = false := (UB1.out.ext HV1.out).frozen 5
      go_upto_region 15 with (fail)
      clear c5 f5
      have UB2 : Hid (Blk (v1.setCell ⟨g, 5, none⟩ (.int .i64 n1)) g 39 #[.int .i64 3, .int .i64 0, .int .i64 0, .int .i64 0, .int .i64 0, .int .i64 n1, .int .i64 0, .int .i64 0]) := (UB1.out.ext HV1.out).set_ 5 _
      have UX2 : Hid (Ext w2 (v1.setCell ⟨g, 5, none⟩ (.int .i64 n1))) := (UX1.out.trans HV1.out).setCell (p := ⟨g, 5, none⟩) HG.out _
      generalize v1.setCell ⟨g, 5, none⟩ (.int .i64 n1) = U2 at *
      have HS : Hid (∀ o' : Oq, vOp o' 4 3 = true → s = otx o' → (⟨3, G0, n1, 0, 0⟩ : Oq) = o') := fun o' hv he => cand3 HH.out HP1.out HW.out o' hv he
      have d0 : U2.cell? ⟨g, 0, none⟩ = some (.int .i64 3) := UB2.out.cell 0
      have d1 : U2.cell? ⟨g, 1, none⟩ = some (.int .i64 0) := UB2.out.cell 1
      have d2 : U2.cell? ⟨g, 2, none⟩ = some (.int .i64 0) := UB2.out.cell 2
      have d3 : U2.cell? ⟨g, 3, none⟩ = some (.int .i64 0) := UB2.out.cell 3
      have d4 : U2.cell? ⟨g, 4, none⟩ = some (.int .i64 0) := UB2.out.cell 4
      have d5 : U2.cell? ⟨g, 5, none⟩ = some (.int .i64 n1) := UB2.out.cell 5
      have d6 : U2.cell? ⟨g, 6, none⟩ = some (.int .i64 0) := UB2.out.cell 6
      have d7 : U2.cell? ⟨g, 7, none⟩ = some (.int .i64 0) := UB2.out.cell 7
      by_cases hz : s = ⟨#[]⟩
      · have e1 : (ByteArray.toList s).isEmpty = true := (empty_iff s).2 hz
        have HN : Hid (∀ o' : Oq, vOp o' 4 3 = true → s ≠ otx o') := none_empty hz
        clear hz
        obtain ⟨⟨a0, a1, a2, a3, a4, a5, a6, a7⟩, z0, z1, z2, z3, z4, z5, z6, z7⟩ := cells8 (HB2.out.ext UX2.out)
        go_wp2
        exact bodyPost_ret (v := .tuple #[O0.val, .bool false]) (ret_pair rfl _ _ _ _ _ _ _ rfl rfl ((HB2.out.ext UX2.out).put8 (.int .i64 0) (.int .i64 0) (.int .i64 0) (.int .i64 0) (.int .i64 0) (.int .i64 0) (.int .i64 0) (.int .i64 0)) Tryz.underlying39 rfl Tryz.sizeOpR) rfl ⟨opRes_no rfl HN.out, ext_put8 (HX2.out.trans UX2.out) (Nat.le_refl _) _ _ _ _ _ _ _ _⟩
      · have e1 : (ByteArray.toList s).isEmpty = false := by
          cases e : (ByteArray.toList s).isEmpty
          · rfl
          · exact absurd ((empty_iff s).1 e) hz
        have HSZ := Lib.hid hz
        clear hz
        have HCG : Hid (∀ w', Ext w2 w' → Calls Tryz.prog 35 #[.agg #[.int .i64 3, .int .i64 0, .int .i64 0, .int .i64 0, .int .i64 0, .int .i64 n1, .int .i64 0, .int .i64 0]] w' fun e w'' => e = .returned (.string (otx ⟨3, G0, n1, 0, 0⟩)) ∧ Ext w' w'') := fun w' hx => impl_FormatOp_any ⟨3, G0, n1, 0, 0⟩ w' (HPW.out.ext (HX2.out.trans hx)).gn
        go_wp2_with fail
        refine (HCG.out _ UX2.out).mono ?_
        rintro e v9 ⟨rfl, hy9⟩
        have HY9 := Lib.hid hy9
        clear hy9 d0 d1 d2 d3 d4 d5 d6 d7 HCG
        obtain ⟨⟨a0, a1, a2, a3, a4, a5, a6, a7⟩, z0, z1, z2, z3, z4, z5, z6, z7⟩ := cells8 (HB2.out.ext (UX2.out.trans HY9.out))
        obtain ⟨os, hos⟩ : ∃ os, otx ⟨3, G0, n1, 0, 0⟩ = os := ⟨_, rfl⟩
        rw [hos]
        have HOS := Lib.hid hos
        clear hos
        obtain ⟨qq, hqq⟩ : ∃ qq, (ByteArray.toList os == ByteArray.toList s) = qq := ⟨_, rfl⟩
        cases qq
        · have HN : Hid (∀ o' : Oq, vOp o' 4 3 = true → s ≠ otx o') := none_other HS.out (by rw [HOS.out]; exact hqq)
          go_wp2
          exact bodyPost_ret (v := .tuple #[O0.val, .bool false]) (ret_pair rfl _ _ _ _ _ _ _ rfl rfl ((HB2.out.ext (UX2.out.trans HY9.out)).put8 (.int .i64 0) (.int .i64 0) (.int .i64 0) (.int .i64 0) (.int .i64 0) (.int .i64 0) (.int .i64 0) (.int .i64 0)) Tryz.underlying39 rfl Tryz.sizeOpR) rfl ⟨opRes_no rfl HN.out, ext_put8 (HX2.out.trans (UX2.out.trans HY9.out)) (Nat.le_refl _) _ _ _ _ _ _ _ _⟩
        · have HQ := Lib.hid (str_beq.1 hqq)
          have d0 : v9.cell? ⟨g, 0, none⟩ = some (.int .i64 3) := (UB2.out.ext HY9.out).cell 0
          have d1 : v9.cell? ⟨g, 1, none⟩ = some (.int .i64 0) := (UB2.out.ext HY9.out).cell 1
          have d2 : v9.cell? ⟨g, 2, none⟩ = some (.int .i64 0) := (UB2.out.ext HY9.out).cell 2
          have d3 : v9.cell? ⟨g, 3, none⟩ = some (.int .i64 0) := (UB2.out.ext HY9.out).cell 3
          have d4 : v9.cell? ⟨g, 4, none⟩ = some (.int .i64 0) := (UB2.out.ext HY9.out).cell 4
          have d5 : v9.cell? ⟨g, 5, none⟩ = some (.int .i64 n1) := (UB2.out.ext HY9.out).cell 5
          have d6 : v9.cell? ⟨g, 6, none⟩ = some (.int .i64 0) := (UB2.out.ext HY9.out).cell 6
          have d7 : v9.cell? ⟨g, 7, none⟩ = some (.int .i64 0) := (UB2.out.ext HY9.out).cell 7
          go_wp2
          exact bodyPost_ret (v := .tuple #[(⟨3, G0, n1, 0, 0⟩ : Oq).val, .bool true]) (ret_pair rfl _ _ _ _ _ _ _ rfl rfl ((HB2.out.ext (UX2.out.trans HY9.out)).put8 (.int .i64 3) (.int .i64 0) (.int .i64 0) (.int .i64 0) (.int .i64 0) (.int .i64 n1) (.int .i64 0) (.int .i64 0)) Tryz.underlying39 rfl Tryz.sizeOpR) rfl ⟨opRes_yes ⟨3, G0, n1, 0, 0⟩ rfl HSZ.out (HOS.out.trans HQ.out) HS.out, ext_put8 (HX2.out.trans (UX2.out.trans HY9.out)) (Nat.le_refl _) _ _ _ _ _ _ _ _⟩
    · have hm' : ((m : Int) == 2) = false := by simp; omega
      have HMM := Lib.hid hm
      clear hm
      go_wp2_with fail
      refine (impl_ParseGate_any s (by have := hs; omega) _ (HPW.out.ext (HX2.out.trans X0.out))).mono ?_
      clear em ec ei q0 hm'
      rintro e v8 ⟨⟨gt, okg, rfl, hgr⟩, hv8⟩
      have HGR := Lib.hid hgr
      have HV8 := Lib.hid hv8
      clear hgr hv8
      have c1 : v8.cell? ⟨g, 1, none⟩ = some (.int .i64 0) := (B0.out.ext HV8.out).cell 1
      have f1 : v8.frozen? ⟨g, 1, none⟩ = false := (B0.out.ext HV8.out).frozen 1
      have c2 : v8.cell? ⟨g, 2, none⟩ = some (.int .i64 0) := (B0.out.ext HV8.out).cell 2
      have f2 : v8.frozen? ⟨g, 2, none⟩ = false := (B0.out.ext HV8.out).frozen 2
      have c3 : v8.cell? ⟨g, 3, none⟩ = some (.int .i64 0) := (B0.out.ext HV8.out).cell 3
      have f3 : v8.frozen? ⟨g, 3, none⟩ = false := (B0.out.ext HV8.out).frozen 3
      have c4 : v8.cell? ⟨g, 4, none⟩ = some (.int .i64 0) := (B0.out.ext HV8.out).cell 4
      have f4 : v8.frozen? ⟨g, 4, none⟩ = false := (B0.out.ext HV8.out).frozen 4
      go_upto_region 15 with (fail)
      clear c1 c2 c3 c4 f1 f2 f3 f4
      have GB : Hid (Blk (putG v8 g (.int .i64 gt.k) (.int .i64 gt.a) (.int .i64 gt.b) (.int .i64 gt.c)) g 39 #[.int .i64 1, .int .i64 gt.k, .int .i64 gt.a, .int .i64 gt.b, .int .i64 gt.c, .int .i64 0, .int .i64 0, .int .i64 0]) := (B0.out.ext HV8.out).putG _ _ _ _
      have GX : Hid (Ext w2 (putG v8 g (.int .i64 gt.k) (.int .i64 gt.a) (.int .i64 gt.b) (.int .i64 gt.c))) := ext_putG (X0.out.trans HV8.out) HG.out _ _ _ _
      unfold putG at GB GX
      generalize (((v8.setCell ⟨g, 1, none⟩ (.int .i64 gt.k)).setCell ⟨g, 2, none⟩ (.int .i64 gt.a)).setCell ⟨g, 3, none⟩ (.int .i64 gt.b)).setCell ⟨g, 4, none⟩ (.int .i64 gt.c) = GW at *
      have HS : Hid (∀ o' : Oq, vOp o' 4 3 = true → s = otx o' → (⟨1, gt, 0, 0, 0⟩ : Oq) = o') := fun o' hv he => cand1 (fun h => H2.out h.1) (fun h => HMM.out h.2) (fun h => H1.out h.1) HGR.out HW.out o' hv he
      have d0 : GW.cell? ⟨g, 0, none⟩ = some (.int .i64 1) := GB.out.cell 0
      have d1 : GW.cell? ⟨g, 1, none⟩ = some (.int .i64 gt.k) := GB.out.cell 1
      have d2 : GW.cell? ⟨g, 2, none⟩ = some (.int .i64 gt.a) := GB.out.cell 2
      have d3 : GW.cell? ⟨g, 3, none⟩ = some (.int .i64 gt.b) := GB.out.cell 3
      have d4 : GW.cell? ⟨g, 4, none⟩ = some (.int .i64 gt.c) := GB.out.cell 4
      have d5 : GW.cell? ⟨g, 5, none⟩ = some (.int .i64 0) := GB.out.cell 5
      have d6 : GW.cell? ⟨g, 6, none⟩ = some (.int .i64 0) := GB.out.cell 6
      have d7 : GW.cell? ⟨g, 7, none⟩ = some (.int .i64 0) := GB.out.cell 7
      by_cases hz : s = ⟨#[]⟩
      · have e1 : (ByteArray.toList s).isEmpty = true := (empty_iff s).2 hz
        have HN : Hid (∀ o' : Oq, vOp o' 4 3 = true → s ≠ otx o') := none_empty hz
        clear hz
        obtain ⟨⟨a0, a1, a2, a3, a4, a5, a6, a7⟩, z0, z1, z2, z3, z4, z5, z6, z7⟩ := cells8 (HB2.out.ext GX.out)
        go_wp2
        exact bodyPost_ret (v := .tuple #[O0.val, .bool false]) (ret_pair rfl _ _ _ _ _ _ _ rfl rfl ((HB2.out.ext GX.out).put8 (.int .i64 0) (.int .i64 0) (.int .i64 0) (.int .i64 0) (.int .i64 0) (.int .i64 0) (.int .i64 0) (.int .i64 0)) Tryz.underlying39 rfl Tryz.sizeOpR) rfl ⟨opRes_no rfl HN.out, ext_put8 (HX2.out.trans GX.out) (Nat.le_refl _) _ _ _ _ _ _ _ _⟩
      · have e1 : (ByteArray.toList s).isEmpty = false := by
          cases e : (ByteArray.toList s).isEmpty
          · rfl
          · exact absurd ((empty_iff s).1 e) hz
        have HSZ := Lib.hid hz
        clear hz
        have HCG : Hid (∀ w', Ext w2 w' → Calls Tryz.prog 35 #[.agg #[.int .i64 1, .int .i64 gt.k, .int .i64 gt.a, .int .i64 gt.b, .int .i64 gt.c, .int .i64 0, .int .i64 0, .int .i64 0]] w' fun e w'' => e = .returned (.string (otx ⟨1, gt, 0, 0, 0⟩)) ∧ Ext w' w'') := fun w' hx => impl_FormatOp_any ⟨1, gt, 0, 0, 0⟩ w' (HPW.out.ext (HX2.out.trans hx)).gn
        go_wp2_with fail
        refine (HCG.out _ GX.out).mono ?_
        rintro e v9 ⟨rfl, hy9⟩
        have HY9 := Lib.hid hy9
        clear hy9 d0 d1 d2 d3 d4 d5 d6 d7 HCG
        obtain ⟨⟨a0, a1, a2, a3, a4, a5, a6, a7⟩, z0, z1, z2, z3, z4, z5, z6, z7⟩ := cells8 (HB2.out.ext (GX.out.trans HY9.out))
        obtain ⟨os, hos⟩ : ∃ os, otx ⟨1, gt, 0, 0, 0⟩ = os := ⟨_, rfl⟩
        rw [hos]
        have HOS := Lib.hid hos
        clear hos
        obtain ⟨qq, hqq⟩ : ∃ qq, (ByteArray.toList os == ByteArray.toList s) = qq := ⟨_, rfl⟩
        cases qq
        · have HN : Hid (∀ o' : Oq, vOp o' 4 3 = true → s ≠ otx o') := none_other HS.out (by rw [HOS.out]; exact hqq)
          go_wp2
          exact bodyPost_ret (v := .tuple #[O0.val, .bool false]) (ret_pair rfl _ _ _ _ _ _ _ rfl rfl ((HB2.out.ext (GX.out.trans HY9.out)).put8 (.int .i64 0) (.int .i64 0) (.int .i64 0) (.int .i64 0) (.int .i64 0) (.int .i64 0) (.int .i64 0) (.int .i64 0)) Tryz.underlying39 rfl Tryz.sizeOpR) rfl ⟨opRes_no rfl HN.out, ext_put8 (HX2.out.trans (GX.out.trans HY9.out)) (Nat.le_refl _) _ _ _ _ _ _ _ _⟩
        · have HQ := Lib.hid (str_beq.1 hqq)
          have d0 : v9.cell? ⟨g, 0, none⟩ = some (.int .i64 1) := (GB.out.ext HY9.out).cell 0
          have d1 : v9.cell? ⟨g, 1, none⟩ = some (.int .i64 gt.k) := (GB.out.ext HY9.out).cell 1
          have d2 : v9.cell? ⟨g, 2, none⟩ = some (.int .i64 gt.a) := (GB.out.ext HY9.out).cell 2
          have d3 : v9.cell? ⟨g, 3, none⟩ = some (.int .i64 gt.b) := (GB.out.ext HY9.out).cell 3
          have d4 : v9.cell? ⟨g, 4, none⟩ = some (.int .i64 gt.c) := (GB.out.ext HY9.out).cell 4
          have d5 : v9.cell? ⟨g, 5, none⟩ = some (.int .i64 0) := (GB.out.ext HY9.out).cell 5
          have d6 : v9.cell? ⟨g, 6, none⟩ = some (.int .i64 0) := (GB.out.ext HY9.out).cell 6
          have d7 : v9.cell? ⟨g, 7, none⟩ = some (.int .i64 0) := (GB.out.ext HY9.out).cell 7
          go_wp2
          exact bodyPost_ret (v := .tuple #[(⟨1, gt, 0, 0, 0⟩ : Oq).val, .bool true]) (ret_pair rfl _ _ _ _ _ _ _ rfl rfl ((HB2.out.ext (GX.out.trans HY9.out)).put8 (.int .i64 1) (.int .i64 gt.k) (.int .i64 gt.a) (.int .i64 gt.b) (.int .i64 gt.c) (.int .i64 0) (.int .i64 0) (.int .i64 0)) Tryz.underlying39 rfl Tryz.sizeOpR) rfl ⟨opRes_yes ⟨1, gt, 0, 0, 0⟩ rfl HSZ.out (HOS.out.trans HQ.out) HS.out, ext_put8 (HX2.out.trans (GX.out.trans HY9.out)) (Nat.le_refl _) _ _ _ _ _ _ _ _⟩
  have H3 := Lib.hid h3
  have ec : (ByteArray.toList y0 == [99, 108, 101, 97, 110]) = false := bneL (l := [99, 108, 101, 97, 110]) h3
  clear h3
  go_wp2_with fail
  refine (impl_ParseGate_any s (by have := hs; omega) _ (HPW.out.ext (HX2.out.trans X0.out))).mono ?_
  clear em ec ei q0
  rintro e v8 ⟨⟨gt, okg, rfl, hgr⟩, hv8⟩
  have HGR := Lib.hid hgr
  have HV8 := Lib.hid hv8
  clear hgr hv8
  have c1 : v8.cell? ⟨g, 1, none⟩ = some (.int .i64 0) := (B0.out.ext HV8.out).cell 1
  have f1 : v8.frozen? ⟨g, 1, none⟩ = false := (B0.out.ext HV8.out).frozen 1
  have c2 : v8.cell? ⟨g, 2, none⟩ = some (.int .i64 0) := (B0.out.ext HV8.out).cell 2
  have f2 : v8.frozen? ⟨g, 2, none⟩ = false := (B0.out.ext HV8.out).frozen 2
  have c3 : v8.cell? ⟨g, 3, none⟩ = some (.int .i64 0) := (B0.out.ext HV8.out).cell 3
  have f3 : v8.frozen? ⟨g, 3, none⟩ = false := (B0.out.ext HV8.out).frozen 3
  have c4 : v8.cell? ⟨g, 4, none⟩ = some (.int .i64 0) := (B0.out.ext HV8.out).cell 4
  have f4 : v8.frozen? ⟨g, 4, none⟩ = false := (B0.out.ext HV8.out).frozen 4
  go_upto_region 15 with (fail)
  clear c1 c2 c3 c4 f1 f2 f3 f4
  have GB : Hid (Blk (putG v8 g (.int .i64 gt.k) (.int .i64 gt.a) (.int .i64 gt.b) (.int .i64 gt.c)) g 39 #[.int .i64 1, .int .i64 gt.k, .int .i64 gt.a, .int .i64 gt.b, .int .i64 gt.c, .int .i64 0, .int .i64 0, .int .i64 0]) := (B0.out.ext HV8.out).putG _ _ _ _
  have GX : Hid (Ext w2 (putG v8 g (.int .i64 gt.k) (.int .i64 gt.a) (.int .i64 gt.b) (.int .i64 gt.c))) := ext_putG (X0.out.trans HV8.out) HG.out _ _ _ _
  unfold putG at GB GX
  generalize (((v8.setCell ⟨g, 1, none⟩ (.int .i64 gt.k)).setCell ⟨g, 2, none⟩ (.int .i64 gt.a)).setCell ⟨g, 3, none⟩ (.int .i64 gt.b)).setCell ⟨g, 4, none⟩ (.int .i64 gt.c) = GW at *
  have HS : Hid (∀ o' : Oq, vOp o' 4 3 = true → s = otx o' → (⟨1, gt, 0, 0, 0⟩ : Oq) = o') := fun o' hv he => cand1 (fun h => H2.out h.1) (fun h => H3.out h.1) (fun h => H1.out h.1) HGR.out HW.out o' hv he
  have d0 : GW.cell? ⟨g, 0, none⟩ = some (.int .i64 1) := GB.out.cell 0
  have d1 : GW.cell? ⟨g, 1, none⟩ = some (.int .i64 gt.k) := GB.out.cell 1
  have d2 : GW.cell? ⟨g, 2, none⟩ = some (.int .i64 gt.a) := GB.out.cell 2
  have d3 : GW.cell? ⟨g, 3, none⟩ = some (.int .i64 gt.b) := GB.out.cell 3
  have d4 : GW.cell? ⟨g, 4, none⟩ = some (.int .i64 gt.c) := GB.out.cell 4
  have d5 : GW.cell? ⟨g, 5, none⟩ = some (.int .i64 0) := GB.out.cell 5
  have d6 : GW.cell? ⟨g, 6, none⟩ = some (.int .i64 0) := GB.out.cell 6
  have d7 : GW.cell? ⟨g, 7, none⟩ = some (.int .i64 0) := GB.out.cell 7
  by_cases hz : s = ⟨#[]⟩
  · have e1 : (ByteArray.toList s).isEmpty = true := (empty_iff s).2 hz
    have HN : Hid (∀ o' : Oq, vOp o' 4 3 = true → s ≠ otx o') := none_empty hz
    clear hz
    obtain ⟨⟨a0, a1, a2, a3, a4, a5, a6, a7⟩, z0, z1, z2, z3, z4, z5, z6, z7⟩ := cells8 (HB2.out.ext GX.out)
    go_wp2
    exact bodyPost_ret (v := .tuple #[O0.val, .bool false]) (ret_pair rfl _ _ _ _ _ _ _ rfl rfl ((HB2.out.ext GX.out).put8 (.int .i64 0) (.int .i64 0) (.int .i64 0) (.int .i64 0) (.int .i64 0) (.int .i64 0) (.int .i64 0) (.int .i64 0)) Tryz.underlying39 rfl Tryz.sizeOpR) rfl ⟨opRes_no rfl HN.out, ext_put8 (HX2.out.trans GX.out) (Nat.le_refl _) _ _ _ _ _ _ _ _⟩
  · have e1 : (ByteArray.toList s).isEmpty = false := by
      cases e : (ByteArray.toList s).isEmpty
      · rfl
      · exact absurd ((empty_iff s).1 e) hz
    have HSZ := Lib.hid hz
    clear hz
    have HCG : Hid (∀ w', Ext w2 w' → Calls Tryz.prog 35 #[.agg #[.int .i64 1, .int .i64 gt.k, .int .i64 gt.a, .int .i64 gt.b, .int .i64 gt.c, .int .i64 0, .int .i64 0, .int .i64 0]] w' fun e w'' => e = .returned (.string (otx ⟨1, gt, 0, 0, 0⟩)) ∧ Ext w' w'') := fun w' hx => impl_FormatOp_any ⟨1, gt, 0, 0, 0⟩ w' (HPW.out.ext (HX2.out.trans hx)).gn
    go_wp2_with fail
    refine (HCG.out _ GX.out).mono ?_
    rintro e v9 ⟨rfl, hy9⟩
    have HY9 := Lib.hid hy9
    clear hy9 d0 d1 d2 d3 d4 d5 d6 d7 HCG
    obtain ⟨⟨a0, a1, a2, a3, a4, a5, a6, a7⟩, z0, z1, z2, z3, z4, z5, z6, z7⟩ := cells8 (HB2.out.ext (GX.out.trans HY9.out))
    obtain ⟨os, hos⟩ : ∃ os, otx ⟨1, gt, 0, 0, 0⟩ = os := ⟨_, rfl⟩
    rw [hos]
    have HOS := Lib.hid hos
    clear hos
    obtain ⟨qq, hqq⟩ : ∃ qq, (ByteArray.toList os == ByteArray.toList s) = qq := ⟨_, rfl⟩
    cases qq
    · have HN : Hid (∀ o' : Oq, vOp o' 4 3 = true → s ≠ otx o') := none_other HS.out (by rw [HOS.out]; exact hqq)
      go_wp2
      exact bodyPost_ret (v := .tuple #[O0.val, .bool false]) (ret_pair rfl _ _ _ _ _ _ _ rfl rfl ((HB2.out.ext (GX.out.trans HY9.out)).put8 (.int .i64 0) (.int .i64 0) (.int .i64 0) (.int .i64 0) (.int .i64 0) (.int .i64 0) (.int .i64 0) (.int .i64 0)) Tryz.underlying39 rfl Tryz.sizeOpR) rfl ⟨opRes_no rfl HN.out, ext_put8 (HX2.out.trans (GX.out.trans HY9.out)) (Nat.le_refl _) _ _ _ _ _ _ _ _⟩
    · have HQ := Lib.hid (str_beq.1 hqq)
      have d0 : v9.cell? ⟨g, 0, none⟩ = some (.int .i64 1) := (GB.out.ext HY9.out).cell 0
      have d1 : v9.cell? ⟨g, 1, none⟩ = some (.int .i64 gt.k) := (GB.out.ext HY9.out).cell 1
      have d2 : v9.cell? ⟨g, 2, none⟩ = some (.int .i64 gt.a) := (GB.out.ext HY9.out).cell 2
      have d3 : v9.cell? ⟨g, 3, none⟩ = some (.int .i64 gt.b) := (GB.out.ext HY9.out).cell 3
      have d4 : v9.cell? ⟨g, 4, none⟩ = some (.int .i64 gt.c) := (GB.out.ext HY9.out).cell 4
      have d5 : v9.cell? ⟨g, 5, none⟩ = some (.int .i64 0) := (GB.out.ext HY9.out).cell 5
      have d6 : v9.cell? ⟨g, 6, none⟩ = some (.int .i64 0) := (GB.out.ext HY9.out).cell 6
      have d7 : v9.cell? ⟨g, 7, none⟩ = some (.int .i64 0) := (GB.out.ext HY9.out).cell 7
      go_wp2
      exact bodyPost_ret (v := .tuple #[(⟨1, gt, 0, 0, 0⟩ : Oq).val, .bool true]) (ret_pair rfl _ _ _ _ _ _ _ rfl rfl ((HB2.out.ext (GX.out.trans HY9.out)).put8 (.int .i64 1) (.int .i64 gt.k) (.int .i64 gt.a) (.int .i64 gt.b) (.int .i64 gt.c) (.int .i64 0) (.int .i64 0) (.int .i64 0)) Tryz.underlying39 rfl Tryz.sizeOpR) rfl ⟨opRes_yes ⟨1, gt, 0, 0, 0⟩ rfl HSZ.out (HOS.out.trans HQ.out) HS.out, ext_put8 (HX2.out.trans (GX.out.trans HY9.out)) (Nat.le_refl _) _ _ _ _ _ _ _ _⟩
end Go.Proofs.YteecjnnompjmiacGreatDoor
