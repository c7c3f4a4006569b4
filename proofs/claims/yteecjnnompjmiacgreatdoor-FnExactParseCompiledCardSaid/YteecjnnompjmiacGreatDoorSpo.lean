/-
  Helper text (no claim of its own): an operation read out of a text, by the reference. Printed by gen_spo.py.
-/
import Derived.Test.YteecjnnompjmiacGreatDoorPo
namespace Go.Proofs.YteecjnnompjmiacGreatDoor
open Go.ChangeShapes Go.WideShapes Go.ChangeAt Go.RowKit Go.Deep
set_option linter.unusedVariables false
set_option linter.unusedSimpArgs false
theorem getD_app {xs : List ByteArray} {i : Nat} {y : ByteArray} (h : (xs ++ [⟨#[]⟩, ⟨#[]⟩, ⟨#[]⟩])[i]? = some y) : xs.getD i ⟨#[]⟩ = y := by
  rcases Nat.lt_or_ge i xs.length with h1 | h1
  · rw [List.getElem?_append_left h1] at h
    simp [List.getD, h]
  · rw [List.getElem?_append_right h1] at h
    have h2 : xs.getD i ⟨#[]⟩ = ⟨#[]⟩ := by simp [List.getD, List.getElem?_eq_none h1]
    rw [h2]
    obtain ⟨j, hj⟩ : ∃ j, i - xs.length = j := ⟨_, rfl⟩
    rw [hj] at h
    match j, h with
    | 0, h => simpa using h
    | 1, h => simpa using h
    | 2, h => simpa using h
    | j + 3, h => simp at h
theorem beqL {y : ByteArray} {l : List UInt8} (h : y = ⟨l.toArray⟩) : (ByteArray.toList y == l) = true := by
  rw [h, ByteArray.toList_eq]
  simp
theorem bneL {y : ByteArray} {l : List UInt8} (h : y ≠ ⟨l.toArray⟩) : (ByteArray.toList y == l) = false := by
  cases e : (ByteArray.toList y == l)
  · rfl
  · refine absurd ?_ h
    rw [ByteArray.toList_eq] at e
    have := eq_of_beq e
    apply ByteArray.ext
    rw [← this]
set_option maxRecDepth 100000 in
set_option maxHeartbeats 8000000 in
theorem spec_ParseOp_any (s : ByteArray) (hs : s.size ≤ 1500000) (w : World) : Calls Tryz.prog 12 #[.string s] w fun e w' => OpRes s e ∧ Ext w w' := by
  go_enter Tryz.func12, Tryz.ntmps12
  go_wp2_with fail
  refine (spec_SplitByte_any s 32 32 rfl _ (by omega)).mono ?_
  rintro e w1 ⟨v1, rfl, ho1, hx1⟩
  have hcl := cut_len 32 s
  have hcn := cut_ne 32 s
  go_upto_region 2 with (at_builtin; refine appStrS rfl _ _ rfl _ _ (cut 32 s) rfl (ho1.alloc _) ((Ext.refl _).trans hx1 |>.alloc _) _ 3 3 [⟨#[]⟩, ⟨#[]⟩, ⟨#[]⟩] rfl (rd_newN w1 _ _ _ 3 1 _ rfl rfl rfl) (by omega) ?_; intro v2 w2 ho2 hx2 _ _)
  obtain ⟨A2, c2, rfl, hr2⟩ := own_slice ho2
  obtain ⟨b, o, y0, rfl, hb, hy0, r0⟩ := str_at hr2 (i := 0) (by omega)
  obtain ⟨_, _, y1, e1, _, hy1, r1⟩ := str_at hr2 (i := 1) (by omega)
  injection e1 with e1; injection e1 with e1 e1'; subst e1 e1'
  obtain ⟨_, _, y2, e1, _, hy2, r2⟩ := str_at hr2 (i := 2) (by omega)
  injection e1 with e1; injection e1 with e1 e1'; subst e1 e1'
  have HW : Hid (∀ o : Oq, vOp o 4 3 = true → s = otx o → OW y0 y1 y2 (cut 32 s).length o) := by
    intro o hv he
    have := ow_getD hv
    rw [← otx_cut hv, ← he, getD_app hy0, getD_app hy1, getD_app hy2] at this
    exact this
  have hsz : ∀ y ∈ cut 32 s ++ [⟨#[]⟩, ⟨#[]⟩, ⟨#[]⟩], y.size ≤ 2000000 := by
    intro y hy
    rcases List.mem_append.1 hy with h | h
    · have := cut_size h; omega
    · simp at h; subst h; exact Nat.zero_le _
  have HZ1 : Hid (y1.size ≤ 2000000) := hsz _ (List.mem_of_getElem? hy1)
  have HZ2 : Hid (y2.size ≤ 2000000) := hsz _ (List.mem_of_getElem? hy2)
  have HB2 : Hid (Blk w2 w.heap.size 39 #[.int .i64 0, .int .i64 0, .int .i64 0, .int .i64 0, .int .i64 0, .int .i64 0, .int .i64 0, .int .i64 0]) := (Blk.new w _ _).ext hx2
  have HX2 : Hid (Ext w w2) := Ext.trans ((Ext.refl w).alloc _) hx2
  have HY : Hid (∀ w', Ext w2 w' → w'.cell? ⟨b, o, none⟩ = some (.string y0) ∧ w'.cell? ⟨b, o + 1, none⟩ = some (.string y1) ∧ w'.cell? ⟨b, o + 2, none⟩ = some (.string y2)) := fun w' q => ⟨(q.cell (p := ⟨b, o, none⟩) hb).trans (by rw [Nat.add_zero] at r0; exact r0), (q.cell (p := ⟨b, o + 1, none⟩) hb).trans r1, (q.cell (p := ⟨b, o + 2, none⟩) hb).trans r2⟩
  obtain ⟨m, hm⟩ : ∃ m, (cut 32 s).length + 3 = m := ⟨_, rfl⟩
  rw [hm]
  have hm0 : (0 : Int) < (m : Int) := by omega
  have hm1 : (1 : Int) < (m : Int) := by omega
  have hm2 : (2 : Int) < (m : Int) := by omega
  clear hm hsz hy0 hy1 hy2 r1 r2 hr2 ho2 hx2 ho1 hx1 hcl hcn hb r0
  go_upto_region 3 with (fail)
  have B0 : Hid (Blk (w2.alloc (.cells #[.int .i64 1, .int .i64 0, .int .i64 0, .int .i64 0, .int .i64 0, .int .i64 0, .int .i64 0, .int .i64 0] 39)) w2.heap.size 39 #[.int .i64 1, .int .i64 0, .int .i64 0, .int .i64 0, .int .i64 0, .int .i64 0, .int .i64 0, .int .i64 0]) := Blk.new _ _ _
  have X0 : Hid (Ext w2 (w2.alloc (.cells #[.int .i64 1, .int .i64 0, .int .i64 0, .int .i64 0, .int .i64 0, .int .i64 0, .int .i64 0, .int .i64 0] 39))) := (Ext.refl w2).alloc _
  have HG : Hid (w2.heap.size ≤ w2.heap.size) := Nat.le_refl _
  obtain ⟨g, hg⟩ : ∃ g, g = w2.heap.size := ⟨_, rfl⟩
  have HGE := Lib.hid hg
  rw [← hg] at B0 ⊢
  replace HG : Hid (w2.heap.size ≤ g) := Nat.le_of_eq hg.symm
  clear hg
  generalize w2.alloc (.cells #[.int .i64 1, .int .i64 0, .int .i64 0, .int .i64 0, .int .i64 0, .int .i64 0, .int .i64 0, .int .i64 0] 39) = W0 at *
  have q0 : W0.cell? ⟨b, o, none⟩ = some (.string y0) := (HY.out _ X0.out).1
  go_upto_region 5 with (fail)
  clear q0
  have hne := words_ne
  by_cases h2 : y0 = wMe
  · have HH := Lib.hid h2
    have em : (ByteArray.toList y0 == [109, 101, 97, 115, 117, 114, 101]) = true := beqL (l := [109, 101, 97, 115, 117, 114, 101]) h2
    clear h2 hne
    have c0 : W0.cell? ⟨g, 0, none⟩ = some (.int .i64 1) := (B0.out).cell 0
    have f0 : W0.frozen? ⟨g, 0, none⟩ = false := (B0.out).frozen 0
    go_upto_region 7 with (fail)
    clear c0 f0
    have UB1 : Hid (Blk (W0.setCell ⟨g, 0, none⟩ (.int .i64 2)) g 39 #[.int .i64 2, .int .i64 0, .int .i64 0, .int .i64 0, .int .i64 0, .int .i64 0, .int .i64 0, .int .i64 0]) := (B0.out).set_ 0 _
    have UX1 : Hid (Ext w2 (W0.setCell ⟨g, 0, none⟩ (.int .i64 2))) := (X0.out).setCell (p := ⟨g, 0, none⟩) HG.out _
    generalize W0.setCell ⟨g, 0, none⟩ (.int .i64 2) = U1 at *
    clear em
    have q1 : U1.cell? ⟨b, o + 1, none⟩ = some (.string y1) := (HY.out _ UX1.out).2.1
    go_wp2_with fail
    refine (spec_ParseNumber_any y1 HZ1.out _).mono ?_
    rintro e v1 ⟨⟨n1, ok1, rfl, hp1⟩, hv1⟩
    have HP1 := Lib.hid hp1
    have HV1 := Lib.hid hv1
    clear hp1 hv1 q1
    have c5 : v1.cell? ⟨g, 5, none⟩ = some (.int .i64 0) := (UB1.out.ext HV1.out).cell 5
    have f5 : v1.frozen? ⟨g, 5, none⟩ = false := (UB1.out.ext HV1.out).frozen 5
    go_upto_region 8 with (fail)
    clear c5 f5
    have UB2 : Hid (Blk (v1.setCell ⟨g, 5, none⟩ (.int .i64 n1)) g 39 #[.int .i64 2, .int .i64 0, .int .i64 0, .int .i64 0, .int .i64 0, .int .i64 n1, .int .i64 0, .int .i64 0]) := (UB1.out.ext HV1.out).set_ 5 _
    have UX2 : Hid (Ext w2 (v1.setCell ⟨g, 5, none⟩ (.int .i64 n1))) := (UX1.out.trans HV1.out).setCell (p := ⟨g, 5, none⟩) HG.out _
    generalize v1.setCell ⟨g, 5, none⟩ (.int .i64 n1) = U2 at *
    have q2 : U2.cell? ⟨b, o + 2, none⟩ = some (.string y2) := (HY.out _ UX2.out).2.2
    go_wp2_with fail
    refine (spec_ParseNumber_any y2 HZ2.out _).mono ?_
    rintro e v2 ⟨⟨n2, ok2, rfl, hp2⟩, hv2⟩
    have HP2 := Lib.hid hp2
    have HV2 := Lib.hid hv2
    clear hp2 hv2 q2
    have c6 : v2.cell? ⟨g, 6, none⟩ = some (.int .i64 0) := (UB2.out.ext HV2.out).cell 6
    have f6 : v2.frozen? ⟨g, 6, none⟩ = false := (UB2.out.ext HV2.out).frozen 6
    go_upto_region 17 with (fail)
    clear c6 f6
    have UB3 : Hid (Blk (v2.setCell ⟨g, 6, none⟩ (.int .i64 n2)) g 39 #[.int .i64 2, .int .i64 0, .int .i64 0, .int .i64 0, .int .i64 0, .int .i64 n1, .int .i64 n2, .int .i64 0]) := (UB2.out.ext HV2.out).set_ 6 _
    have UX3 : Hid (Ext w2 (v2.setCell ⟨g, 6, none⟩ (.int .i64 n2))) := (UX2.out.trans HV2.out).setCell (p := ⟨g, 6, none⟩) HG.out _
    generalize v2.setCell ⟨g, 6, none⟩ (.int .i64 n2) = U3 at *
    have HS : Hid (∀ o' : Oq, vOp o' 4 3 = true → s = otx o' → (⟨2, G0, n1, n2, 0⟩ : Oq) = o') := fun o' hv he => cand2 HH.out HP1.out HP2.out HW.out o' hv he
    have d0 : U3.cell? ⟨g, 0, none⟩ = some (.int .i64 2) := UB3.out.cell 0
    have d1 : U3.cell? ⟨g, 1, none⟩ = some (.int .i64 0) := UB3.out.cell 1
    have d2 : U3.cell? ⟨g, 2, none⟩ = some (.int .i64 0) := UB3.out.cell 2
    have d3 : U3.cell? ⟨g, 3, none⟩ = some (.int .i64 0) := UB3.out.cell 3
    have d4 : U3.cell? ⟨g, 4, none⟩ = some (.int .i64 0) := UB3.out.cell 4
    have d5 : U3.cell? ⟨g, 5, none⟩ = some (.int .i64 n1) := UB3.out.cell 5
    have d6 : U3.cell? ⟨g, 6, none⟩ = some (.int .i64 n2) := UB3.out.cell 6
    have d7 : U3.cell? ⟨g, 7, none⟩ = some (.int .i64 0) := UB3.out.cell 7
    by_cases hz : s = ⟨#[]⟩
    · have e1 : (ByteArray.toList s).isEmpty = true := (empty_iff s).2 hz
      have HN : Hid (∀ o' : Oq, vOp o' 4 3 = true → s ≠ otx o') := none_empty hz
      clear hz
      obtain ⟨⟨a0, a1, a2, a3, a4, a5, a6, a7⟩, z0, z1, z2, z3, z4, z5, z6, z7⟩ := cells8 (HB2.out.ext UX3.out)
      go_wp2
      exact bodyPost_ret (v := .tuple #[O0.val, .bool false]) (ret_pair rfl _ _ _ _ _ _ _ rfl rfl ((HB2.out.ext UX3.out).put8 (.int .i64 0) (.int .i64 0) (.int .i64 0) (.int .i64 0) (.int .i64 0) (.int .i64 0) (.int .i64 0) (.int .i64 0)) Tryz.underlying39 rfl Tryz.sizeOpR) rfl ⟨opRes_no rfl HN.out, ext_put8 (HX2.out.trans UX3.out) (Nat.le_refl _) _ _ _ _ _ _ _ _⟩
    · have e1 : (ByteArray.toList s).isEmpty = false := by
        cases e : (ByteArray.toList s).isEmpty
        · rfl
        · exact absurd ((empty_iff s).1 e) hz
      have HSZ := Lib.hid hz
      clear hz
      have HCG : Hid (∀ w', Ext w2 w' → Calls Tryz.prog 26 #[.agg #[.int .i64 2, .int .i64 0, .int .i64 0, .int .i64 0, .int .i64 0, .int .i64 n1, .int .i64 n2, .int .i64 0]] w' fun e w'' => e = .returned (.string (otx ⟨2, G0, n1, n2, 0⟩)) ∧ Ext w' w'') := fun w' _ => spec_FormatOp_any ⟨2, G0, n1, n2, 0⟩ w'
      go_wp2_with fail
      refine (HCG.out _ UX3.out).mono ?_
      rintro e v9 ⟨rfl, hy9⟩
      have HY9 := Lib.hid hy9
      clear hy9 d0 d1 d2 d3 d4 d5 d6 d7 HCG
      obtain ⟨⟨a0, a1, a2, a3, a4, a5, a6, a7⟩, z0, z1, z2, z3, z4, z5, z6, z7⟩ := cells8 (HB2.out.ext (UX3.out.trans HY9.out))
      obtain ⟨os, hos⟩ : ∃ os, otx ⟨2, G0, n1, n2, 0⟩ = os := ⟨_, rfl⟩
      rw [hos]
      have HOS := Lib.hid hos
      clear hos
      obtain ⟨qq, hqq⟩ : ∃ qq, (ByteArray.toList os == ByteArray.toList s) = qq := ⟨_, rfl⟩
      cases qq
      · have HN : Hid (∀ o' : Oq, vOp o' 4 3 = true → s ≠ otx o') := none_other HS.out (by rw [HOS.out]; exact hqq)
        go_wp2
        exact bodyPost_ret (v := .tuple #[O0.val, .bool false]) (ret_pair rfl _ _ _ _ _ _ _ rfl rfl ((HB2.out.ext (UX3.out.trans HY9.out)).put8 (.int .i64 0) (.int .i64 0) (.int .i64 0) (.int .i64 0) (.int .i64 0) (.int .i64 0) (.int .i64 0) (.int .i64 0)) Tryz.underlying39 rfl Tryz.sizeOpR) rfl ⟨opRes_no rfl HN.out, ext_put8 (HX2.out.trans (UX3.out.trans HY9.out)) (Nat.le_refl _) _ _ _ _ _ _ _ _⟩
      · have HQ := Lib.hid (str_beq.1 hqq)
        have d0 : v9.cell? ⟨g, 0, none⟩ = some (.int .i64 2) := (UB3.out.ext HY9.out).cell 0
        have d1 : v9.cell? ⟨g, 1, none⟩ = some (.int .i64 0) := (UB3.out.ext HY9.out).cell 1
        have d2 : v9.cell? ⟨g, 2, none⟩ = some (.int .i64 0) := (UB3.out.ext HY9.out).cell 2
        have d3 : v9.cell? ⟨g, 3, none⟩ = some (.int .i64 0) := (UB3.out.ext HY9.out).cell 3
        have d4 : v9.cell? ⟨g, 4, none⟩ = some (.int .i64 0) := (UB3.out.ext HY9.out).cell 4
        have d5 : v9.cell? ⟨g, 5, none⟩ = some (.int .i64 n1) := (UB3.out.ext HY9.out).cell 5
        have d6 : v9.cell? ⟨g, 6, none⟩ = some (.int .i64 n2) := (UB3.out.ext HY9.out).cell 6
        have d7 : v9.cell? ⟨g, 7, none⟩ = some (.int .i64 0) := (UB3.out.ext HY9.out).cell 7
        go_wp2
        exact bodyPost_ret (v := .tuple #[(⟨2, G0, n1, n2, 0⟩ : Oq).val, .bool true]) (ret_pair rfl _ _ _ _ _ _ _ rfl rfl ((HB2.out.ext (UX3.out.trans HY9.out)).put8 (.int .i64 2) (.int .i64 0) (.int .i64 0) (.int .i64 0) (.int .i64 0) (.int .i64 n1) (.int .i64 n2) (.int .i64 0)) Tryz.underlying39 rfl Tryz.sizeOpR) rfl ⟨opRes_yes ⟨2, G0, n1, n2, 0⟩ rfl HSZ.out (HOS.out.trans HQ.out) HS.out, ext_put8 (HX2.out.trans (UX3.out.trans HY9.out)) (Nat.le_refl _) _ _ _ _ _ _ _ _⟩
  have em : (ByteArray.toList y0 == [109, 101, 97, 115, 117, 114, 101]) = false := bneL (l := [109, 101, 97, 115, 117, 114, 101]) h2
  by_cases h3 : y0 = wCl
  · have HH := Lib.hid h3
    have ec : (ByteArray.toList y0 == [99, 108, 101, 97, 110]) = true := beqL (l := [99, 108, 101, 97, 110]) h3
    clear h2 h3 hne
    have c0 : W0.cell? ⟨g, 0, none⟩ = some (.int .i64 1) := (B0.out).cell 0
    have f0 : W0.frozen? ⟨g, 0, none⟩ = false := (B0.out).frozen 0
    go_upto_region 11 with (fail)
    clear c0 f0
    have UB1 : Hid (Blk (W0.setCell ⟨g, 0, none⟩ (.int .i64 3)) g 39 #[.int .i64 3, .int .i64 0, .int .i64 0, .int .i64 0, .int .i64 0, .int .i64 0, .int .i64 0, .int .i64 0]) := (B0.out).set_ 0 _
    have UX1 : Hid (Ext w2 (W0.setCell ⟨g, 0, none⟩ (.int .i64 3))) := (X0.out).setCell (p := ⟨g, 0, none⟩) HG.out _
    generalize W0.setCell ⟨g, 0, none⟩ (.int .i64 3) = U1 at *
    clear em ec
    have q1 : U1.cell? ⟨b, o + 1, none⟩ = some (.string y1) := (HY.out _ UX1.out).2.1
    go_wp2_with fail
    refine (spec_ParseNumber_any y1 HZ1.out _).mono ?_
    rintro e v1 ⟨⟨n1, ok1, rfl, hp1⟩, hv1⟩
    have HP1 := Lib.hid hp1
    have HV1 := Lib.hid hv1
    clear hp1 hv1 q1
    have c5 : v1.cell? ⟨g, 5, none⟩ = some (.int .i64 0) := (UB1.out.ext HV1.out).cell 5
    have f5 : v1.frozen? ⟨g, 5, none⟩ = false := (UB1.out.ext HV1.out).frozen 5
    go_upto_region 17 with (fail)
    clear c5 f5
    have UB2 : Hid (Blk (v1.setCell ⟨g, 5, none⟩ (.int .i64 n1)) g 39 #[.int .i64 3, .int .i64 0, .int .i64 0, .int .i64 0, .int .i64 0, .int .i64 n1, .int .i64 0, .int .i64 0]) := (UB1.out.ext HV1.out).set_ 5 _
    have UX2 : Hid (Ext w2 (v1.setCell ⟨g, 5, none⟩ (.int .i64 n1))) := (UX1.out.trans HV1.out).setCell (p := ⟨g, 5, none⟩) HG.out _
    generalize v1.setCell ⟨g, 5, none⟩ (.int .i64 n1) = U2 at *
    have HS : Hid (∀ o' : Oq, vOp o' 4 3 = true → s = otx o' → (⟨3, G0, n1, 0, 0⟩ : Oq) = o') := fun o' hv he => cand3 HH.out HP1.out HW.out o' hv he
    have d0 : U2.cell? ⟨g, 0, none⟩ = some (.int .i64 3) := UB2.out.cell 0
    have d1 : U2.cell? ⟨g, 1, none⟩ = some (.int .i64 0) := UB2.out.cell 1
    have d2 : U2.cell? ⟨g, 2, none⟩ = some (.int .i64 0) := UB2.out.cell 2
    have d3 : U2.cell? ⟨g, 3, none⟩ = some (.int .i64 0) := UB2.out.cell 3
    have d4 : U2.cell? ⟨g, 4, none⟩ = some (.int .i64 0) := UB2.out.cell 4
    have d5 : U2.cell? ⟨g, 5, none⟩ = some (.int .i64 n1) := UB2.out.cell 5
    have d6 : U2.cell? ⟨g, 6, none⟩ = some (.int .i64 0) := UB2.out.cell 6
    have d7 : U2.cell? ⟨g, 7, none⟩ = some (.int .i64 0) := UB2.out.cell 7
    by_cases hz : s = ⟨#[]⟩
    · have e1 : (ByteArray.toList s).isEmpty = true := (empty_iff s).2 hz
      have HN : Hid (∀ o' : Oq, vOp o' 4 3 = true → s ≠ otx o') := none_empty hz
      clear hz
      obtain ⟨⟨a0, a1, a2, a3, a4, a5, a6, a7⟩, z0, z1, z2, z3, z4, z5, z6, z7⟩ := cells8 (HB2.out.ext UX2.out)
      go_wp2
      exact bodyPost_ret (v := .tuple #[O0.val, .bool false]) (ret_pair rfl _ _ _ _ _ _ _ rfl rfl ((HB2.out.ext UX2.out).put8 (.int .i64 0) (.int .i64 0) (.int .i64 0) (.int .i64 0) (.int .i64 0) (.int .i64 0) (.int .i64 0) (.int .i64 0)) Tryz.underlying39 rfl Tryz.sizeOpR) rfl ⟨opRes_no rfl HN.out, ext_put8 (HX2.out.trans UX2.out) (Nat.le_refl _) _ _ _ _ _ _ _ _⟩
    · have e1 : (ByteArray.toList s).isEmpty = false := by
        cases e : (ByteArray.toList s).isEmpty
        · rfl
        · exact absurd ((empty_iff s).1 e) hz
      have HSZ := Lib.hid hz
      clear hz
      have HCG : Hid (∀ w', Ext w2 w' → Calls Tryz.prog 26 #[.agg #[.int .i64 3, .int .i64 0, .int .i64 0, .int .i64 0, .int .i64 0, .int .i64 n1, .int .i64 0, .int .i64 0]] w' fun e w'' => e = .returned (.string (otx ⟨3, G0, n1, 0, 0⟩)) ∧ Ext w' w'') := fun w' _ => spec_FormatOp_any ⟨3, G0, n1, 0, 0⟩ w'
      go_wp2_with fail
      refine (HCG.out _ UX2.out).mono ?_
      rintro e v9 ⟨rfl, hy9⟩
      have HY9 := Lib.hid hy9
      clear hy9 d0 d1 d2 d3 d4 d5 d6 d7 HCG
      obtain ⟨⟨a0, a1, a2, a3, a4, a5, a6, a7⟩, z0, z1, z2, z3, z4, z5, z6, z7⟩ := cells8 (HB2.out.ext (UX2.out.trans HY9.out))
      obtain ⟨os, hos⟩ : ∃ os, otx ⟨3, G0, n1, 0, 0⟩ = os := ⟨_, rfl⟩
      rw [hos]
      have HOS := Lib.hid hos
      clear hos
      obtain ⟨qq, hqq⟩ : ∃ qq, (ByteArray.toList os == ByteArray.toList s) = qq := ⟨_, rfl⟩
      cases qq
      · have HN : Hid (∀ o' : Oq, vOp o' 4 3 = true → s ≠ otx o') := none_other HS.out (by rw [HOS.out]; exact hqq)
        go_wp2
        exact bodyPost_ret (v := .tuple #[O0.val, .bool false]) (ret_pair rfl _ _ _ _ _ _ _ rfl rfl ((HB2.out.ext (UX2.out.trans HY9.out)).put8 (.int .i64 0) (.int .i64 0) (.int .i64 0) (.int .i64 0) (.int .i64 0) (.int .i64 0) (.int .i64 0) (.int .i64 0)) Tryz.underlying39 rfl Tryz.sizeOpR) rfl ⟨opRes_no rfl HN.out, ext_put8 (HX2.out.trans (UX2.out.trans HY9.out)) (Nat.le_refl _) _ _ _ _ _ _ _ _⟩
      · have HQ := Lib.hid (str_beq.1 hqq)
        have d0 : v9.cell? ⟨g, 0, none⟩ = some (.int .i64 3) := (UB2.out.ext HY9.out).cell 0
        have d1 : v9.cell? ⟨g, 1, none⟩ = some (.int .i64 0) := (UB2.out.ext HY9.out).cell 1
        have d2 : v9.cell? ⟨g, 2, none⟩ = some (.int .i64 0) := (UB2.out.ext HY9.out).cell 2
        have d3 : v9.cell? ⟨g, 3, none⟩ = some (.int .i64 0) := (UB2.out.ext HY9.out).cell 3
        have d4 : v9.cell? ⟨g, 4, none⟩ = some (.int .i64 0) := (UB2.out.ext HY9.out).cell 4
        have d5 : v9.cell? ⟨g, 5, none⟩ = some (.int .i64 n1) := (UB2.out.ext HY9.out).cell 5
        have d6 : v9.cell? ⟨g, 6, none⟩ = some (.int .i64 0) := (UB2.out.ext HY9.out).cell 6
        have d7 : v9.cell? ⟨g, 7, none⟩ = some (.int .i64 0) := (UB2.out.ext HY9.out).cell 7
        go_wp2
        exact bodyPost_ret (v := .tuple #[(⟨3, G0, n1, 0, 0⟩ : Oq).val, .bool true]) (ret_pair rfl _ _ _ _ _ _ _ rfl rfl ((HB2.out.ext (UX2.out.trans HY9.out)).put8 (.int .i64 3) (.int .i64 0) (.int .i64 0) (.int .i64 0) (.int .i64 0) (.int .i64 n1) (.int .i64 0) (.int .i64 0)) Tryz.underlying39 rfl Tryz.sizeOpR) rfl ⟨opRes_yes ⟨3, G0, n1, 0, 0⟩ rfl HSZ.out (HOS.out.trans HQ.out) HS.out, ext_put8 (HX2.out.trans (UX2.out.trans HY9.out)) (Nat.le_refl _) _ _ _ _ _ _ _ _⟩
  have ec : (ByteArray.toList y0 == [99, 108, 101, 97, 110]) = false := bneL (l := [99, 108, 101, 97, 110]) h3
  by_cases hi : y0 = wI
  · have HH := Lib.hid hi
    have ei : (ByteArray.toList y0 == [105, 102]) = true := beqL (l := [105, 102]) hi
    clear h2 h3 hi hne
    have q1 : W0.cell? ⟨b, o + 1, none⟩ = some (.string y1) := (HY.out _ X0.out).2.1
    go_wp2_with fail
    refine (spec_ParseNumber_any y1 HZ1.out _).mono ?_
    rintro e v1 ⟨⟨n1, ok1, rfl, hp1⟩, hv1⟩
    have HP1 := Lib.hid hp1
    have HV1 := Lib.hid hv1
    clear hp1 hv1 q1
    clear em ec ei
    have hwn : wrap64 (n1 + 1) = n1 + 1 := by have := HP1.out.1; have := HP1.out.2.1; unfold wrap64; omega
    have c7 : v1.cell? ⟨g, 7, none⟩ = some (.int .i64 0) := (B0.out.ext HV1.out).cell 7
    have f7 : v1.frozen? ⟨g, 7, none⟩ = false := (B0.out.ext HV1.out).frozen 7
    go_upto_region 15 with (fail)
    clear c7 f7
    have UB1 : Hid (Blk (v1.setCell ⟨g, 7, none⟩ (.int .i64 (n1 + 1))) g 39 #[.int .i64 1, .int .i64 0, .int .i64 0, .int .i64 0, .int .i64 0, .int .i64 0, .int .i64 0, .int .i64 (n1 + 1)]) := (B0.out.ext HV1.out).set_ 7 _
    have UX1 : Hid (Ext w2 (v1.setCell ⟨g, 7, none⟩ (.int .i64 (n1 + 1)))) := (X0.out.trans HV1.out).setCell (p := ⟨g, 7, none⟩) HG.out _
    generalize v1.setCell ⟨g, 7, none⟩ (.int .i64 (n1 + 1)) = U1 at *
    clear hwn
    by_cases h5 : 5 < s.size
    · have h5' : (5 : Int) < (s.size : Int) := by omega
      obtain ⟨rest, hrest⟩ : ∃ r, s.extract 5 s.size = r := ⟨_, rfl⟩
      have HRE := Lib.hid hrest
      have HRS : Hid (rest.size ≤ 1500000) := by unfold Hid; rw [← hrest, ByteArray.size_extract]; omega
      clear h5
      have c0 : U1.cell? ⟨g, 0, none⟩ = some (.int .i64 1) := UB1.out.cell 0
      go_wp2_with fail
      refine (spec_ParseGate_any rest HRS.out _).mono ?_
      rintro e v8 ⟨⟨gt, okg, rfl, hgr⟩, hv8⟩
      have HGR := Lib.hid hgr
      have HV8 := Lib.hid hv8
      clear hgr hv8 c0
      have c1 : v8.cell? ⟨g, 1, none⟩ = some (.int .i64 0) := (UB1.out.ext HV8.out).cell 1
      have f1 : v8.frozen? ⟨g, 1, none⟩ = false := (UB1.out.ext HV8.out).frozen 1
      have c2 : v8.cell? ⟨g, 2, none⟩ = some (.int .i64 0) := (UB1.out.ext HV8.out).cell 2
      have f2 : v8.frozen? ⟨g, 2, none⟩ = false := (UB1.out.ext HV8.out).frozen 2
      have c3 : v8.cell? ⟨g, 3, none⟩ = some (.int .i64 0) := (UB1.out.ext HV8.out).cell 3
      have f3 : v8.frozen? ⟨g, 3, none⟩ = false := (UB1.out.ext HV8.out).frozen 3
      have c4 : v8.cell? ⟨g, 4, none⟩ = some (.int .i64 0) := (UB1.out.ext HV8.out).cell 4
      have f4 : v8.frozen? ⟨g, 4, none⟩ = false := (UB1.out.ext HV8.out).frozen 4
      go_upto_region 19 with (fail)
      clear c1 c2 c3 c4 f1 f2 f3 f4
      have GB : Hid (Blk (putG v8 g (.int .i64 gt.k) (.int .i64 gt.a) (.int .i64 gt.b) (.int .i64 gt.c)) g 39 #[.int .i64 1, .int .i64 gt.k, .int .i64 gt.a, .int .i64 gt.b, .int .i64 gt.c, .int .i64 0, .int .i64 0, .int .i64 (n1 + 1)]) := (UB1.out.ext HV8.out).putG _ _ _ _
      have GX : Hid (Ext w2 (putG v8 g (.int .i64 gt.k) (.int .i64 gt.a) (.int .i64 gt.b) (.int .i64 gt.c))) := ext_putG (UX1.out.trans HV8.out) HG.out _ _ _ _
      unfold putG at GB GX
      generalize (((v8.setCell ⟨g, 1, none⟩ (.int .i64 gt.k)).setCell ⟨g, 2, none⟩ (.int .i64 gt.a)).setCell ⟨g, 3, none⟩ (.int .i64 gt.b)).setCell ⟨g, 4, none⟩ (.int .i64 gt.c) = GW at *
      have HGG : Hid (∀ o : Oq, vOp o 4 3 = true → s = otx o → o.k = 1 → 0 < o.cond → gt = o.g) := by
        intro o hv he hk hc
        have hr := (otx_rest hv hk hc).1
        rw [← he, HRE.out] at hr
        rcases vop_full hv with ⟨_, _, _, hvg, _⟩ | ⟨hk', _⟩ | ⟨hk', _⟩
        · exact HGR.out o.g hvg hr
        · omega
        · omega
      clear h5' hrest
      have HS : Hid (∀ o' : Oq, vOp o' 4 3 = true → s = otx o' → (⟨1, gt, 0, 0, n1 + 1⟩ : Oq) = o') := fun o' hv he => cand1c HH.out HP1.out HGG.out HW.out o' hv he
      have d0 : GW.cell? ⟨g, 0, none⟩ = some (.int .i64 1) := GB.out.cell 0
      have d1 : GW.cell? ⟨g, 1, none⟩ = some (.int .i64 gt.k) := GB.out.cell 1
      have d2 : GW.cell? ⟨g, 2, none⟩ = some (.int .i64 gt.a) := GB.out.cell 2
      have d3 : GW.cell? ⟨g, 3, none⟩ = some (.int .i64 gt.b) := GB.out.cell 3
      have d4 : GW.cell? ⟨g, 4, none⟩ = some (.int .i64 gt.c) := GB.out.cell 4
      have d5 : GW.cell? ⟨g, 5, none⟩ = some (.int .i64 0) := GB.out.cell 5
      have d6 : GW.cell? ⟨g, 6, none⟩ = some (.int .i64 0) := GB.out.cell 6
      have d7 : GW.cell? ⟨g, 7, none⟩ = some (.int .i64 (n1 + 1)) := GB.out.cell 7
      by_cases hz : s = ⟨#[]⟩
      · have e1 : (ByteArray.toList s).isEmpty = true := (empty_iff s).2 hz
        have HN : Hid (∀ o' : Oq, vOp o' 4 3 = true → s ≠ otx o') := none_empty hz
        clear hz
        obtain ⟨⟨a0, a1, a2, a3, a4, a5, a6, a7⟩, z0, z1, z2, z3, z4, z5, z6, z7⟩ := cells8 (HB2.out.ext GX.out)
        go_wp2
        exact bodyPost_ret (v := .tuple #[O0.val, .bool false]) (ret_pair rfl _ _ _ _ _ _ _ rfl rfl ((HB2.out.ext GX.out).put8 (.int .i64 0) (.int .i64 0) (.int .i64 0) (.int .i64 0) (.int .i64 0) (.int .i64 0) (.int .i64 0) (.int .i64 0)) Tryz.underlying39 rfl Tryz.sizeOpR) rfl ⟨opRes_no rfl HN.out, ext_put8 (HX2.out.trans GX.out) (Nat.le_refl _) _ _ _ _ _ _ _ _⟩
      · have e1 : (ByteArray.toList s).isEmpty = false := by
          cases e : (ByteArray.toList s).isEmpty
          · rfl
          · exact absurd ((empty_iff s).1 e) hz
        have HSZ := Lib.hid hz
        clear hz
        have HCG : Hid (∀ w', Ext w2 w' → Calls Tryz.prog 26 #[.agg #[.int .i64 1, .int .i64 gt.k, .int .i64 gt.a, .int .i64 gt.b, .int .i64 gt.c, .int .i64 0, .int .i64 0, .int .i64 (n1 + 1)]] w' fun e w'' => e = .returned (.string (otx ⟨1, gt, 0, 0, n1 + 1⟩)) ∧ Ext w' w'') := fun w' _ => spec_FormatOp_any ⟨1, gt, 0, 0, n1 + 1⟩ w'
        go_wp2_with fail
        refine (HCG.out _ GX.out).mono ?_
        rintro e v9 ⟨rfl, hy9⟩
        have HY9 := Lib.hid hy9
        clear hy9 d0 d1 d2 d3 d4 d5 d6 d7 HCG
        obtain ⟨⟨a0, a1, a2, a3, a4, a5, a6, a7⟩, z0, z1, z2, z3, z4, z5, z6, z7⟩ := cells8 (HB2.out.ext (GX.out.trans HY9.out))
        obtain ⟨os, hos⟩ : ∃ os, otx ⟨1, gt, 0, 0, n1 + 1⟩ = os := ⟨_, rfl⟩
        rw [hos]
        have HOS := Lib.hid hos
        clear hos
        obtain ⟨qq, hqq⟩ : ∃ qq, (ByteArray.toList os == ByteArray.toList s) = qq := ⟨_, rfl⟩
        cases qq
        · have HN : Hid (∀ o' : Oq, vOp o' 4 3 = true → s ≠ otx o') := none_other HS.out (by rw [HOS.out]; exact hqq)
          go_wp2
          exact bodyPost_ret (v := .tuple #[O0.val, .bool false]) (ret_pair rfl _ _ _ _ _ _ _ rfl rfl ((HB2.out.ext (GX.out.trans HY9.out)).put8 (.int .i64 0) (.int .i64 0) (.int .i64 0) (.int .i64 0) (.int .i64 0) (.int .i64 0) (.int .i64 0) (.int .i64 0)) Tryz.underlying39 rfl Tryz.sizeOpR) rfl ⟨opRes_no rfl HN.out, ext_put8 (HX2.out.trans (GX.out.trans HY9.out)) (Nat.le_refl _) _ _ _ _ _ _ _ _⟩
        · have HQ := Lib.hid (str_beq.1 hqq)
          have d0 : v9.cell? ⟨g, 0, none⟩ = some (.int .i64 1) := (GB.out.ext HY9.out).cell 0
          have d1 : v9.cell? ⟨g, 1, none⟩ = some (.int .i64 gt.k) := (GB.out.ext HY9.out).cell 1
          have d2 : v9.cell? ⟨g, 2, none⟩ = some (.int .i64 gt.a) := (GB.out.ext HY9.out).cell 2
          have d3 : v9.cell? ⟨g, 3, none⟩ = some (.int .i64 gt.b) := (GB.out.ext HY9.out).cell 3
          have d4 : v9.cell? ⟨g, 4, none⟩ = some (.int .i64 gt.c) := (GB.out.ext HY9.out).cell 4
          have d5 : v9.cell? ⟨g, 5, none⟩ = some (.int .i64 0) := (GB.out.ext HY9.out).cell 5
          have d6 : v9.cell? ⟨g, 6, none⟩ = some (.int .i64 0) := (GB.out.ext HY9.out).cell 6
          have d7 : v9.cell? ⟨g, 7, none⟩ = some (.int .i64 (n1 + 1)) := (GB.out.ext HY9.out).cell 7
          go_wp2
          exact bodyPost_ret (v := .tuple #[(⟨1, gt, 0, 0, n1 + 1⟩ : Oq).val, .bool true]) (ret_pair rfl _ _ _ _ _ _ _ rfl rfl ((HB2.out.ext (GX.out.trans HY9.out)).put8 (.int .i64 1) (.int .i64 gt.k) (.int .i64 gt.a) (.int .i64 gt.b) (.int .i64 gt.c) (.int .i64 0) (.int .i64 0) (.int .i64 (n1 + 1))) Tryz.underlying39 rfl Tryz.sizeOpR) rfl ⟨opRes_yes ⟨1, gt, 0, 0, n1 + 1⟩ rfl HSZ.out (HOS.out.trans HQ.out) HS.out, ext_put8 (HX2.out.trans (GX.out.trans HY9.out)) (Nat.le_refl _) _ _ _ _ _ _ _ _⟩
    · have h5' : ¬ ((5 : Int) < (s.size : Int)) := by omega
      have c0 : U1.cell? ⟨g, 0, none⟩ = some (.int .i64 1) := UB1.out.cell 0
      go_wp2_with fail
      refine (spec_ParseGate_any s hs _).mono ?_
      rintro e v8 ⟨⟨gt, okg, rfl, hgr⟩, hv8⟩
      have HGR := Lib.hid hgr
      have HV8 := Lib.hid hv8
      clear hgr hv8 c0
      have c1 : v8.cell? ⟨g, 1, none⟩ = some (.int .i64 0) := (UB1.out.ext HV8.out).cell 1
      have f1 : v8.frozen? ⟨g, 1, none⟩ = false := (UB1.out.ext HV8.out).frozen 1
      have c2 : v8.cell? ⟨g, 2, none⟩ = some (.int .i64 0) := (UB1.out.ext HV8.out).cell 2
      have f2 : v8.frozen? ⟨g, 2, none⟩ = false := (UB1.out.ext HV8.out).frozen 2
      have c3 : v8.cell? ⟨g, 3, none⟩ = some (.int .i64 0) := (UB1.out.ext HV8.out).cell 3
      have f3 : v8.frozen? ⟨g, 3, none⟩ = false := (UB1.out.ext HV8.out).frozen 3
      have c4 : v8.cell? ⟨g, 4, none⟩ = some (.int .i64 0) := (UB1.out.ext HV8.out).cell 4
      have f4 : v8.frozen? ⟨g, 4, none⟩ = false := (UB1.out.ext HV8.out).frozen 4
      go_upto_region 19 with (fail)
      clear c1 c2 c3 c4 f1 f2 f3 f4
      have GB : Hid (Blk (putG v8 g (.int .i64 gt.k) (.int .i64 gt.a) (.int .i64 gt.b) (.int .i64 gt.c)) g 39 #[.int .i64 1, .int .i64 gt.k, .int .i64 gt.a, .int .i64 gt.b, .int .i64 gt.c, .int .i64 0, .int .i64 0, .int .i64 (n1 + 1)]) := (UB1.out.ext HV8.out).putG _ _ _ _
      have GX : Hid (Ext w2 (putG v8 g (.int .i64 gt.k) (.int .i64 gt.a) (.int .i64 gt.b) (.int .i64 gt.c))) := ext_putG (UX1.out.trans HV8.out) HG.out _ _ _ _
      unfold putG at GB GX
      generalize (((v8.setCell ⟨g, 1, none⟩ (.int .i64 gt.k)).setCell ⟨g, 2, none⟩ (.int .i64 gt.a)).setCell ⟨g, 3, none⟩ (.int .i64 gt.b)).setCell ⟨g, 4, none⟩ (.int .i64 gt.c) = GW at *
      have HGG : Hid (∀ o : Oq, vOp o 4 3 = true → s = otx o → o.k = 1 → 0 < o.cond → gt = o.g) := by
        intro o hv he hk hc
        have hr := (otx_rest hv hk hc).2
        rcases vop_full hv with ⟨_, _, _, hvg, _⟩ | ⟨hk', _⟩ | ⟨hk', _⟩
        · have := gtx_size0 hvg
          rw [he] at h5
          omega
        · omega
        · omega
      clear h5 h5'
      have HS : Hid (∀ o' : Oq, vOp o' 4 3 = true → s = otx o' → (⟨1, gt, 0, 0, n1 + 1⟩ : Oq) = o') := fun o' hv he => cand1c HH.out HP1.out HGG.out HW.out o' hv he
      have d0 : GW.cell? ⟨g, 0, none⟩ = some (.int .i64 1) := GB.out.cell 0
      have d1 : GW.cell? ⟨g, 1, none⟩ = some (.int .i64 gt.k) := GB.out.cell 1
      have d2 : GW.cell? ⟨g, 2, none⟩ = some (.int .i64 gt.a) := GB.out.cell 2
      have d3 : GW.cell? ⟨g, 3, none⟩ = some (.int .i64 gt.b) := GB.out.cell 3
      have d4 : GW.cell? ⟨g, 4, none⟩ = some (.int .i64 gt.c) := GB.out.cell 4
      have d5 : GW.cell? ⟨g, 5, none⟩ = some (.int .i64 0) := GB.out.cell 5
      have d6 : GW.cell? ⟨g, 6, none⟩ = some (.int .i64 0) := GB.out.cell 6
      have d7 : GW.cell? ⟨g, 7, none⟩ = some (.int .i64 (n1 + 1)) := GB.out.cell 7
      by_cases hz : s = ⟨#[]⟩
      · have e1 : (ByteArray.toList s).isEmpty = true := (empty_iff s).2 hz
        have HN : Hid (∀ o' : Oq, vOp o' 4 3 = true → s ≠ otx o') := none_empty hz
        clear hz
        obtain ⟨⟨a0, a1, a2, a3, a4, a5, a6, a7⟩, z0, z1, z2, z3, z4, z5, z6, z7⟩ := cells8 (HB2.out.ext GX.out)
        go_wp2
        exact bodyPost_ret (v := .tuple #[O0.val, .bool false]) (ret_pair rfl _ _ _ _ _ _ _ rfl rfl ((HB2.out.ext GX.out).put8 (.int .i64 0) (.int .i64 0) (.int .i64 0) (.int .i64 0) (.int .i64 0) (.int .i64 0) (.int .i64 0) (.int .i64 0)) Tryz.underlying39 rfl Tryz.sizeOpR) rfl ⟨opRes_no rfl HN.out, ext_put8 (HX2.out.trans GX.out) (Nat.le_refl _) _ _ _ _ _ _ _ _⟩
      · have e1 : (ByteArray.toList s).isEmpty = false := by
          cases e : (ByteArray.toList s).isEmpty
          · rfl
          · exact absurd ((empty_iff s).1 e) hz
        have HSZ := Lib.hid hz
        clear hz
        have HCG : Hid (∀ w', Ext w2 w' → Calls Tryz.prog 26 #[.agg #[.int .i64 1, .int .i64 gt.k, .int .i64 gt.a, .int .i64 gt.b, .int .i64 gt.c, .int .i64 0, .int .i64 0, .int .i64 (n1 + 1)]] w' fun e w'' => e = .returned (.string (otx ⟨1, gt, 0, 0, n1 + 1⟩)) ∧ Ext w' w'') := fun w' _ => spec_FormatOp_any ⟨1, gt, 0, 0, n1 + 1⟩ w'
        go_wp2_with fail
        refine (HCG.out _ GX.out).mono ?_
        rintro e v9 ⟨rfl, hy9⟩
        have HY9 := Lib.hid hy9
        clear hy9 d0 d1 d2 d3 d4 d5 d6 d7 HCG
        obtain ⟨⟨a0, a1, a2, a3, a4, a5, a6, a7⟩, z0, z1, z2, z3, z4, z5, z6, z7⟩ := cells8 (HB2.out.ext (GX.out.trans HY9.out))
        obtain ⟨os, hos⟩ : ∃ os, otx ⟨1, gt, 0, 0, n1 + 1⟩ = os := ⟨_, rfl⟩
        rw [hos]
        have HOS := Lib.hid hos
        clear hos
        obtain ⟨qq, hqq⟩ : ∃ qq, (ByteArray.toList os == ByteArray.toList s) = qq := ⟨_, rfl⟩
        cases qq
        · have HN : Hid (∀ o' : Oq, vOp o' 4 3 = true → s ≠ otx o') := none_other HS.out (by rw [HOS.out]; exact hqq)
          go_wp2
          exact bodyPost_ret (v := .tuple #[O0.val, .bool false]) (ret_pair rfl _ _ _ _ _ _ _ rfl rfl ((HB2.out.ext (GX.out.trans HY9.out)).put8 (.int .i64 0) (.int .i64 0) (.int .i64 0) (.int .i64 0) (.int .i64 0) (.int .i64 0) (.int .i64 0) (.int .i64 0)) Tryz.underlying39 rfl Tryz.sizeOpR) rfl ⟨opRes_no rfl HN.out, ext_put8 (HX2.out.trans (GX.out.trans HY9.out)) (Nat.le_refl _) _ _ _ _ _ _ _ _⟩
        · have HQ := Lib.hid (str_beq.1 hqq)
          have d0 : v9.cell? ⟨g, 0, none⟩ = some (.int .i64 1) := (GB.out.ext HY9.out).cell 0
          have d1 : v9.cell? ⟨g, 1, none⟩ = some (.int .i64 gt.k) := (GB.out.ext HY9.out).cell 1
          have d2 : v9.cell? ⟨g, 2, none⟩ = some (.int .i64 gt.a) := (GB.out.ext HY9.out).cell 2
          have d3 : v9.cell? ⟨g, 3, none⟩ = some (.int .i64 gt.b) := (GB.out.ext HY9.out).cell 3
          have d4 : v9.cell? ⟨g, 4, none⟩ = some (.int .i64 gt.c) := (GB.out.ext HY9.out).cell 4
          have d5 : v9.cell? ⟨g, 5, none⟩ = some (.int .i64 0) := (GB.out.ext HY9.out).cell 5
          have d6 : v9.cell? ⟨g, 6, none⟩ = some (.int .i64 0) := (GB.out.ext HY9.out).cell 6
          have d7 : v9.cell? ⟨g, 7, none⟩ = some (.int .i64 (n1 + 1)) := (GB.out.ext HY9.out).cell 7
          go_wp2
          exact bodyPost_ret (v := .tuple #[(⟨1, gt, 0, 0, n1 + 1⟩ : Oq).val, .bool true]) (ret_pair rfl _ _ _ _ _ _ _ rfl rfl ((HB2.out.ext (GX.out.trans HY9.out)).put8 (.int .i64 1) (.int .i64 gt.k) (.int .i64 gt.a) (.int .i64 gt.b) (.int .i64 gt.c) (.int .i64 0) (.int .i64 0) (.int .i64 (n1 + 1))) Tryz.underlying39 rfl Tryz.sizeOpR) rfl ⟨opRes_yes ⟨1, gt, 0, 0, n1 + 1⟩ rfl HSZ.out (HOS.out.trans HQ.out) HS.out, ext_put8 (HX2.out.trans (GX.out.trans HY9.out)) (Nat.le_refl _) _ _ _ _ _ _ _ _⟩
  have ei : (ByteArray.toList y0 == [105, 102]) = false := bneL (l := [105, 102]) hi
  have H2 := Lib.hid h2
  have H3 := Lib.hid h3
  have H1 := Lib.hid hi
  clear h2 h3 hi hne
  have c0 : W0.cell? ⟨g, 0, none⟩ = some (.int .i64 1) := B0.out.cell 0
  go_wp2_with fail
  refine (spec_ParseGate_any s hs _).mono ?_
  rintro e v8 ⟨⟨gt, okg, rfl, hgr⟩, hv8⟩
  have HGR := Lib.hid hgr
  have HV8 := Lib.hid hv8
  clear hgr hv8 c0
  have c1 : v8.cell? ⟨g, 1, none⟩ = some (.int .i64 0) := (B0.out.ext HV8.out).cell 1
  have f1 : v8.frozen? ⟨g, 1, none⟩ = false := (B0.out.ext HV8.out).frozen 1
  have c2 : v8.cell? ⟨g, 2, none⟩ = some (.int .i64 0) := (B0.out.ext HV8.out).cell 2
  have f2 : v8.frozen? ⟨g, 2, none⟩ = false := (B0.out.ext HV8.out).frozen 2
  have c3 : v8.cell? ⟨g, 3, none⟩ = some (.int .i64 0) := (B0.out.ext HV8.out).cell 3
  have f3 : v8.frozen? ⟨g, 3, none⟩ = false := (B0.out.ext HV8.out).frozen 3
  have c4 : v8.cell? ⟨g, 4, none⟩ = some (.int .i64 0) := (B0.out.ext HV8.out).cell 4
  have f4 : v8.frozen? ⟨g, 4, none⟩ = false := (B0.out.ext HV8.out).frozen 4
  go_upto_region 19 with (fail)
  clear c1 c2 c3 c4 f1 f2 f3 f4
  have GB : Hid (Blk (putG v8 g (.int .i64 gt.k) (.int .i64 gt.a) (.int .i64 gt.b) (.int .i64 gt.c)) g 39 #[.int .i64 1, .int .i64 gt.k, .int .i64 gt.a, .int .i64 gt.b, .int .i64 gt.c, .int .i64 0, .int .i64 0, .int .i64 0]) := (B0.out.ext HV8.out).putG _ _ _ _
  have GX : Hid (Ext w2 (putG v8 g (.int .i64 gt.k) (.int .i64 gt.a) (.int .i64 gt.b) (.int .i64 gt.c))) := ext_putG (X0.out.trans HV8.out) HG.out _ _ _ _
  unfold putG at GB GX
  generalize (((v8.setCell ⟨g, 1, none⟩ (.int .i64 gt.k)).setCell ⟨g, 2, none⟩ (.int .i64 gt.a)).setCell ⟨g, 3, none⟩ (.int .i64 gt.b)).setCell ⟨g, 4, none⟩ (.int .i64 gt.c) = GW at *
  clear em ec ei
  have HS : Hid (∀ o' : Oq, vOp o' 4 3 = true → s = otx o' → (⟨1, gt, 0, 0, 0⟩ : Oq) = o') := fun o' hv he => cand1 (fun h => H2.out h.1) (fun h => H3.out h.1) (fun h => H1.out h.1) HGR.out HW.out o' hv he
  have d0 : GW.cell? ⟨g, 0, none⟩ = some (.int .i64 1) := GB.out.cell 0
  have d1 : GW.cell? ⟨g, 1, none⟩ = some (.int .i64 gt.k) := GB.out.cell 1
  have d2 : GW.cell? ⟨g, 2, none⟩ = some (.int .i64 gt.a) := GB.out.cell 2
  have d3 : GW.cell? ⟨g, 3, none⟩ = some (.int .i64 gt.b) := GB.out.cell 3
  have d4 : GW.cell? ⟨g, 4, none⟩ = some (.int .i64 gt.c) := GB.out.cell 4
  have d5 : GW.cell? ⟨g, 5, none⟩ = some (.int .i64 0) := GB.out.cell 5
  have d6 : GW.cell? ⟨g, 6, none⟩ = some (.int .i64 0) := GB.out.cell 6
  have d7 : GW.cell? ⟨g, 7, none⟩ = some (.int .i64 0) := GB.out.cell 7
  by_cases hz : s = ⟨#[]⟩
  · have e1 : (ByteArray.toList s).isEmpty = true := (empty_iff s).2 hz
    have HN : Hid (∀ o' : Oq, vOp o' 4 3 = true → s ≠ otx o') := none_empty hz
    clear hz
    obtain ⟨⟨a0, a1, a2, a3, a4, a5, a6, a7⟩, z0, z1, z2, z3, z4, z5, z6, z7⟩ := cells8 (HB2.out.ext GX.out)
    go_wp2
    exact bodyPost_ret (v := .tuple #[O0.val, .bool false]) (ret_pair rfl _ _ _ _ _ _ _ rfl rfl ((HB2.out.ext GX.out).put8 (.int .i64 0) (.int .i64 0) (.int .i64 0) (.int .i64 0) (.int .i64 0) (.int .i64 0) (.int .i64 0) (.int .i64 0)) Tryz.underlying39 rfl Tryz.sizeOpR) rfl ⟨opRes_no rfl HN.out, ext_put8 (HX2.out.trans GX.out) (Nat.le_refl _) _ _ _ _ _ _ _ _⟩
  · have e1 : (ByteArray.toList s).isEmpty = false := by
      cases e : (ByteArray.toList s).isEmpty
      · rfl
      · exact absurd ((empty_iff s).1 e) hz
    have HSZ := Lib.hid hz
    clear hz
    have HCG : Hid (∀ w', Ext w2 w' → Calls Tryz.prog 26 #[.agg #[.int .i64 1, .int .i64 gt.k, .int .i64 gt.a, .int .i64 gt.b, .int .i64 gt.c, .int .i64 0, .int .i64 0, .int .i64 0]] w' fun e w'' => e = .returned (.string (otx ⟨1, gt, 0, 0, 0⟩)) ∧ Ext w' w'') := fun w' _ => spec_FormatOp_any ⟨1, gt, 0, 0, 0⟩ w'
    go_wp2_with fail
    refine (HCG.out _ GX.out).mono ?_
    rintro e v9 ⟨rfl, hy9⟩
    have HY9 := Lib.hid hy9
    clear hy9 d0 d1 d2 d3 d4 d5 d6 d7 HCG
    obtain ⟨⟨a0, a1, a2, a3, a4, a5, a6, a7⟩, z0, z1, z2, z3, z4, z5, z6, z7⟩ := cells8 (HB2.out.ext (GX.out.trans HY9.out))
    obtain ⟨os, hos⟩ : ∃ os, otx ⟨1, gt, 0, 0, 0⟩ = os := ⟨_, rfl⟩
    rw [hos]
    have HOS := Lib.hid hos
    clear hos
    obtain ⟨qq, hqq⟩ : ∃ qq, (ByteArray.toList os == ByteArray.toList s) = qq := ⟨_, rfl⟩
    cases qq
    · have HN : Hid (∀ o' : Oq, vOp o' 4 3 = true → s ≠ otx o') := none_other HS.out (by rw [HOS.out]; exact hqq)
      go_wp2
      exact bodyPost_ret (v := .tuple #[O0.val, .bool false]) (ret_pair rfl _ _ _ _ _ _ _ rfl rfl ((HB2.out.ext (GX.out.trans HY9.out)).put8 (.int .i64 0) (.int .i64 0) (.int .i64 0) (.int .i64 0) (.int .i64 0) (.int .i64 0) (.int .i64 0) (.int .i64 0)) Tryz.underlying39 rfl Tryz.sizeOpR) rfl ⟨opRes_no rfl HN.out, ext_put8 (HX2.out.trans (GX.out.trans HY9.out)) (Nat.le_refl _) _ _ _ _ _ _ _ _⟩
    · have HQ := Lib.hid (str_beq.1 hqq)
      have d0 : v9.cell? ⟨g, 0, none⟩ = some (.int .i64 1) := (GB.out.ext HY9.out).cell 0
      have d1 : v9.cell? ⟨g, 1, none⟩ = some (.int .i64 gt.k) := (GB.out.ext HY9.out).cell 1
      have d2 : v9.cell? ⟨g, 2, none⟩ = some (.int .i64 gt.a) := (GB.out.ext HY9.out).cell 2
      have d3 : v9.cell? ⟨g, 3, none⟩ = some (.int .i64 gt.b) := (GB.out.ext HY9.out).cell 3
      have d4 : v9.cell? ⟨g, 4, none⟩ = some (.int .i64 gt.c) := (GB.out.ext HY9.out).cell 4
      have d5 : v9.cell? ⟨g, 5, none⟩ = some (.int .i64 0) := (GB.out.ext HY9.out).cell 5
      have d6 : v9.cell? ⟨g, 6, none⟩ = some (.int .i64 0) := (GB.out.ext HY9.out).cell 6
      have d7 : v9.cell? ⟨g, 7, none⟩ = some (.int .i64 0) := (GB.out.ext HY9.out).cell 7
      go_wp2
      exact bodyPost_ret (v := .tuple #[(⟨1, gt, 0, 0, 0⟩ : Oq).val, .bool true]) (ret_pair rfl _ _ _ _ _ _ _ rfl rfl ((HB2.out.ext (GX.out.trans HY9.out)).put8 (.int .i64 1) (.int .i64 gt.k) (.int .i64 gt.a) (.int .i64 gt.b) (.int .i64 gt.c) (.int .i64 0) (.int .i64 0) (.int .i64 0)) Tryz.underlying39 rfl Tryz.sizeOpR) rfl ⟨opRes_yes ⟨1, gt, 0, 0, 0⟩ rfl HSZ.out (HOS.out.trans HQ.out) HS.out, ext_put8 (HX2.out.trans (GX.out.trans HY9.out)) (Nat.le_refl _) _ _ _ _ _ _ _ _⟩
end Go.Proofs.YteecjnnompjmiacGreatDoor
