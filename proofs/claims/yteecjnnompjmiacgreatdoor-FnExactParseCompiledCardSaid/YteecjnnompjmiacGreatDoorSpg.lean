/-
  Helper text (no claim of its own): a gate read out of a text, by the reference.
-/
import Derived.Test.YteecjnnompjmiacGreatDoorGk
import Derived.Test.YteecjnnompjmiacGreatDoorPnS
import Derived.Test.YteecjnnompjmiacGreatDoorSb
import Derived.Test.YteecjnnompjmiacGreatDoorRet
namespace Go.Proofs.YteecjnnompjmiacGreatDoor
open Go.ChangeShapes Go.WideShapes Go.ChangeAt Go.RowKit Go.Deep
set_option linter.unusedVariables false
set_option linter.unusedSimpArgs false
/-- What is known of a gate read: where the text is a gate's, it is that gate. -/
def GateRes (s : ByteArray) (e : Ending) : Prop := ∃ (g : Gt) (ok : Bool), e = .returned (.tuple #[g.val, .bool ok]) ∧ ∀ h : Gt, vg h 4 = true → s = gtx h → g = h
theorem gateRes {s : ByteArray} {e : Ending} (g : Gt) (ok : Bool) (he : e = .returned (.tuple #[g.val, .bool ok])) (q : ∀ h : Gt, vg h 4 = true → s = gtx h → g = h) : GateRes s e := ⟨g, ok, he, q⟩
theorem Tryz.sizeGateR : (Tryz.prog.info? 37).map (·.size) = some 4 := by kernel_rfl
/-- What the words say of a gate. -/
def GW (y0 y1 y2 y3 : ByteArray) (h : Gt) : Prop := y0 = gnm h.k ∧ (1 ≤ ar h.k → y1 = dig h.a) ∧ (2 ≤ ar h.k → y2 = dig h.b) ∧ (3 ≤ ar h.k → y3 = dig h.c)
theorem gw_at {h : Gt} {r : List ByteArray} {y0 y1 y2 y3 : ByteArray} (h0 : (gw h ++ r)[0]? = some y0) (h1 : (gw h ++ r)[1]? = some y1) (h2 : (gw h ++ r)[2]? = some y2) (h3 : (gw h ++ r)[3]? = some y3) : GW y0 y1 y2 y3 h := by
  have hr := ar_range h.k
  unfold gw qus qs at h0 h1 h2 h3
  unfold GW
  rcases (by omega : ar h.k = 0 ∨ ar h.k = 1 ∨ ar h.k = 2 ∨ ar h.k = 3) with e | e | e | e
  all_goals
    rw [e] at h0 h1 h2 h3 ⊢
    simp at h0 h1 h2 h3
    refine ⟨by simpa using h0.symm, fun q => ?_, fun q => ?_, fun q => ?_⟩
  all_goals first | omega | (first | exact h1.symm | exact h2.symm | exact h3.symm)
theorem gate_same {y0 y1 y2 y3 : ByteArray} {k a b c : Int} {h : Gt} (hv : vg h 4 = true) (hw : GW y0 y1 y2 y3 h) (hk : ∀ j, 1 ≤ j → j ≤ 12 → y0 = gnm j → k = j)
    (ha : 1 ≤ ar k → ∃ ok, PN y1 a ok) (hb : 2 ≤ ar k → ∃ ok, PN y2 b ok) (hc : 3 ≤ ar k → ∃ ok, PN y3 c ok) (za : ar k ≤ 0 → a = 0) (zb : ar k ≤ 1 → b = 0) (zc : ar k ≤ 2 → c = 0) : (⟨k, a, b, c⟩ : Gt) = h := by
  obtain ⟨w0, w1, w2, w3⟩ := hw
  have hkk := vg_k hv
  have e0 : k = h.k := hk h.k hkk.1 hkk.2 w0
  subst e0
  have hz := vg_zero hv
  have hq : ∀ (i : Nat) q, (qs h)[i]? = some q → (i : Int) < ar h.k → 0 ≤ q ∧ q ≤ 3 := by
    intro i q hi hlt
    refine qus_dig hv ?_
    unfold qus
    exact List.mem_of_getElem? (i := i) (by rw [List.getElem?_take_of_lt (by omega)]; exact hi)
  have ea : a = h.a := by
    rcases (by omega : ar h.k ≤ 0 ∨ 1 ≤ ar h.k) with e | e
    · rw [za e, hz.1 e]
    · obtain ⟨ok, hp⟩ := ha e
      have := hq 0 h.a rfl (by omega)
      exact (hp.2.2 h.a this.1 (by omega) (w1 e)).1
  have eb : b = h.b := by
    rcases (by omega : ar h.k ≤ 1 ∨ 2 ≤ ar h.k) with e | e
    · rw [zb e, hz.2.1 e]
    · obtain ⟨ok, hp⟩ := hb e
      have := hq 1 h.b rfl (by omega)
      exact (hp.2.2 h.b this.1 (by omega) (w2 e)).1
  have ec : c = h.c := by
    rcases (by omega : ar h.k ≤ 2 ∨ 3 ≤ ar h.k) with e | e
    · rw [zc e, hz.2.2 e]
    · obtain ⟨ok, hp⟩ := hc e
      have := hq 2 h.c rfl (by omega)
      exact (hp.2.2 h.c this.1 (by omega) (w3 e)).1
  subst ea eb ec
  rfl
set_option maxRecDepth 100000 in
set_option maxHeartbeats 4000000 in
theorem spec_ParseGate_any (s : ByteArray) (hs : s.size ≤ 1500000) (w : World) : Calls Tryz.prog 25 #[.string s] w fun e w' => GateRes s e ∧ Ext w w' := by
  go_enter Tryz.func25, Tryz.ntmps25
  go_wp2_with fail
  refine (spec_SplitByte_any s 32 32 rfl _ (by omega)).mono ?_
  rintro e w1 ⟨v1, rfl, ho1, hx1⟩
  have hcl := cut_len 32 s
  have hcn := cut_ne 32 s
  go_wp2_with (at_builtin; refine appStrS rfl _ _ rfl _ _ (cut 32 s) rfl (ho1.alloc _) ((Ext.refl _).trans hx1 |>.alloc _) _ 3 3 [⟨#[]⟩, ⟨#[]⟩, ⟨#[]⟩] rfl (rd_newN w1 _ _ _ 3 1 _ rfl rfl rfl) (by omega) ?_; intro v2 w2 ho2 hx2 _ _)
  obtain ⟨A2, c2, rfl, hr2⟩ := own_slice ho2
  obtain ⟨b, o, y0, rfl, hb, hy0, r0⟩ := str_at hr2 (i := 0) (by omega)
  obtain ⟨_, _, y1, e1, _, hy1, r1⟩ := str_at hr2 (i := 1) (by omega)
  injection e1 with e1; injection e1 with e1 e1'; subst e1 e1'
  obtain ⟨_, _, y2, e1, _, hy2, r2⟩ := str_at hr2 (i := 2) (by omega)
  injection e1 with e1; injection e1 with e1 e1'; subst e1 e1'
  obtain ⟨_, _, y3, e1, _, hy3, r3⟩ := str_at hr2 (i := 3) (by omega)
  injection e1 with e1; injection e1 with e1 e1'; subst e1 e1'
  have HW : Hid (∀ h : Gt, vg h 4 = true → s = gtx h → GW y0 y1 y2 y3 h) := by
    intro h hv he
    rw [he, gtx_cut hv] at hy0 hy1 hy2 hy3
    exact gw_at hy0 hy1 hy2 hy3
  have hsz : ∀ y ∈ cut 32 s ++ [⟨#[]⟩, ⟨#[]⟩, ⟨#[]⟩], y.size ≤ 2000000 := by
    intro y hy
    rcases List.mem_append.1 hy with h | h
    · have := cut_size h; omega
    · simp at h; subst h; exact Nat.zero_le _
  have HZ1 : Hid (y1.size ≤ 2000000) := hsz _ (List.mem_of_getElem? hy1)
  have HZ2 : Hid (y2.size ≤ 2000000) := hsz _ (List.mem_of_getElem? hy2)
  have HZ3 : Hid (y3.size ≤ 2000000) := hsz _ (List.mem_of_getElem? hy3)
  have HY : Hid (∀ w', Ext w2 w' → w'.cell? ⟨b, o + 1, none⟩ = some (.string y1) ∧ w'.cell? ⟨b, o + 2, none⟩ = some (.string y2) ∧ w'.cell? ⟨b, o + 3, none⟩ = some (.string y3)) := fun w' q => ⟨(q.cell (p := ⟨b, o + 1, none⟩) hb).trans r1, (q.cell (p := ⟨b, o + 2, none⟩) hb).trans r2, (q.cell (p := ⟨b, o + 3, none⟩) hb).trans r3⟩
  have HB2 : Hid (Blk w2 w.heap.size 37 #[.int .i64 0, .int .i64 0, .int .i64 0, .int .i64 0]) := (Blk.new w _ _).ext hx2
  have HX2 : Hid (Ext w w2) := Ext.trans ((Ext.refl w).alloc _) hx2
  rw [Nat.add_zero] at r0
  obtain ⟨m, hm⟩ : ∃ m, (cut 32 s).length + 3 = m := ⟨_, rfl⟩
  rw [hm]
  have hm0 : (0 : Int) < (m : Int) := by omega
  have hm1 : (1 : Int) < (m : Int) := by omega
  have hm2 : (2 : Int) < (m : Int) := by omega
  have hm3 : (3 : Int) < (m : Int) := by omega
  clear hm hsz hy0 hy1 hy2 hy3 r1 r2 r3 hr2 ho2 hx2 ho1 hx1 hcl hcn hb
  go_wp2_with fail
  refine (spec_GateKind_any y0 _).mono ?_
  rintro e w3 ⟨⟨k, rfl, hk0, hk12, hkj⟩, hx3⟩
  clear r0
  have HKJ := Lib.hid hkj
  clear hkj
  go_upto_region 3 with (fail)
  have HB5 : Hid (Blk (w3.alloc (.cells #[.int .i64 k, .int .i64 0, .int .i64 0, .int .i64 0] 37)) w3.heap.size 37 #[.int .i64 k, .int .i64 0, .int .i64 0, .int .i64 0]) := Blk.new _ _ _
  have hx4 : Ext w2 (w3.alloc (.cells #[.int .i64 k, .int .i64 0, .int .i64 0, .int .i64 0] 37)) := hx3.alloc _
  have HG : Hid (w2.heap.size ≤ w3.heap.size) := hx3.size
  -- WAYS
  clear hx3
  have HK : Hid (0 ≤ k ∧ k ≤ 12) := ⟨hk0, hk12⟩
  have HX4 := Lib.hid hx4
  clear hx4
  generalize w3.alloc (.cells #[.int .i64 k, .int .i64 0, .int .i64 0, .int .i64 0] 37) = W at *
  generalize w3.heap.size = g at *
  have HL : Hid (w.heap.size < w2.heap.size) := HB2.out.lt
  have p0 : W.cell? ⟨g, 0, none⟩ = some (.int .i64 k) := HB5.out.cell 0
  have e0 : (ByteArray.toList s).isEmpty = true ↔ s = ⟨#[]⟩ := by
    rw [List.isEmpty_iff]
    constructor
    · intro h
      exact str_beq.1 (by rw [h]; simp)
    · rintro rfl
      simp
  have HRET : ∀ (V : World), Hid (Blk V w.heap.size 37 #[.int .i64 0, .int .i64 0, .int .i64 0, .int .i64 0]) → True := fun _ _ => trivial
  clear HRET
  go_wp2_with fail
  refine (spec_Arity_any k _).mono ?_
  rintro e w4 ⟨rfl, rfl⟩
  clear p0 hk0 hk12
  rcases (by have := HK.out; omega : k < 1 ∨ (1 ≤ k ∧ k ≤ 8) ∨ (9 ≤ k ∧ k ≤ 11) ∨ k = 12) with hk | hk | hk | hk
  · have ej : ar k = 0 := ar0 (.inl hk)
    have EJ := Lib.hid ej
    rw [ej]
    clear ej hk
    have HS : Hid (∀ h : Gt, vg h 4 = true → s = gtx h → (⟨k, 0, 0, 0⟩ : Gt) = h) := by
      intro h hv he
      have hj := EJ.out
      exact gate_same hv (HW.out h hv he) HKJ.out (fun q => by omega) (fun q => by omega) (fun q => by omega)  (fun _ => rfl) (fun _ => rfl) (fun _ => rfl)
    obtain ⟨gt, hgt⟩ : ∃ gt : Gt, gt = ⟨k, 0, 0, 0⟩ := ⟨_, rfl⟩
    rw [← hgt] at HS
    have d0 : W.cell? ⟨g, 0, none⟩ = some (.int .i64 k) := HB5.out.cell 0
    have d1 : W.cell? ⟨g, 1, none⟩ = some (.int .i64 0) := HB5.out.cell 1
    have d2 : W.cell? ⟨g, 2, none⟩ = some (.int .i64 0) := HB5.out.cell 2
    have d3 : W.cell? ⟨g, 3, none⟩ = some (.int .i64 0) := HB5.out.cell 3
    have HR : Hid (Blk W w.heap.size 37 #[.int .i64 0, .int .i64 0, .int .i64 0, .int .i64 0]) := HB2.out.ext HX4.out
    by_cases hz : s = ⟨#[]⟩
    · have e1 : (ByteArray.toList s).isEmpty = true := e0.2 hz
      clear e0 hgt
      have HN : Hid (∀ h : Gt, vg h 4 = true → s = gtx h → (⟨0, 0, 0, 0⟩ : Gt) = h) := by
        intro h hv he
        have := gtx_size0 hv
        rw [← he, hz] at this
        exact absurd this (by decide)
      clear hz
      obtain ⟨⟨a0, a1, a2, a3⟩, z0, z1, z2, z3⟩ := cells4 HR.out
      go_wp2
      exact bodyPost_ret (v := .tuple #[(⟨0, 0, 0, 0⟩ : Gt).val, .bool false]) (ret_pair rfl _ _ _ _ _ _ _ rfl rfl (HR.out.put4 (.int .i64 0) (.int .i64 0) (.int .i64 0) (.int .i64 0)) Tryz.underlying37 rfl Tryz.sizeGateR) rfl ⟨gateRes _ _ rfl HN.out, ext_put4 (HX2.out.trans HX4.out) (Nat.le_refl _) _ _ _ _⟩
    · have e1 : (ByteArray.toList s).isEmpty = false := by
          cases e : (ByteArray.toList s).isEmpty
          · rfl
          · exact absurd (e0.1 e) hz
      clear e0 hz
      go_wp2_with fail
      have HCG : Hid (∀ w', Calls Tryz.prog 42 #[.agg #[.int .i64 k, .int .i64 0, .int .i64 0, .int .i64 0]] w' fun e w'' => e = .returned (.string (gtx gt)) ∧ Ext w' w'') := fun w' => by rw [hgt]; exact spec_FormatGate_any _ w'
      refine (HCG.out _).mono ?_
      rintro e w9 ⟨rfl, hy9⟩
      clear d0 d1 d2 d3
      have HY9 := Lib.hid hy9
      clear hy9
      obtain ⟨⟨a0, a1, a2, a3⟩, z0, z1, z2, z3⟩ := cells4 (HR.out.ext HY9.out)
      obtain ⟨q, hq⟩ : ∃ q, (ByteArray.toList (gtx gt) == ByteArray.toList s) = q := ⟨_, rfl⟩
      cases q
      · have HN : Hid (∀ h : Gt, vg h 4 = true → s = gtx h → (⟨0, 0, 0, 0⟩ : Gt) = h) := by
          intro h hv he
          have h1 := HS.out h hv he
          rw [h1, ← he, str_beq_self] at hq
          cases hq
        generalize gtx gt = gs at *
        clear hgt
        go_wp2
        exact bodyPost_ret (v := .tuple #[(⟨0, 0, 0, 0⟩ : Gt).val, .bool false]) (ret_pair rfl _ _ _ _ _ _ _ rfl rfl ((HR.out.ext HY9.out).put4 (.int .i64 0) (.int .i64 0) (.int .i64 0) (.int .i64 0)) Tryz.underlying37 rfl Tryz.sizeGateR) rfl ⟨gateRes _ _ rfl HN.out, ext_put4 (HX2.out.trans (HX4.out.trans HY9.out)) (Nat.le_refl _) _ _ _ _⟩
      · generalize gtx gt = gs at *
        subst hgt
        have d0 : w9.cell? ⟨g, 0, none⟩ = some (.int .i64 k) := (HB5.out.ext HY9.out).cell 0
        have d1 : w9.cell? ⟨g, 1, none⟩ = some (.int .i64 0) := (HB5.out.ext HY9.out).cell 1
        have d2 : w9.cell? ⟨g, 2, none⟩ = some (.int .i64 0) := (HB5.out.ext HY9.out).cell 2
        have d3 : w9.cell? ⟨g, 3, none⟩ = some (.int .i64 0) := (HB5.out.ext HY9.out).cell 3
        go_wp2
        exact bodyPost_ret (v := .tuple #[(⟨k, 0, 0, 0⟩ : Gt).val, .bool true]) (ret_pair rfl _ _ _ _ _ _ _ rfl rfl ((HR.out.ext HY9.out).put4 (.int .i64 k) (.int .i64 0) (.int .i64 0) (.int .i64 0)) Tryz.underlying37 rfl Tryz.sizeGateR) rfl ⟨gateRes _ _ rfl HS.out, ext_put4 (HX2.out.trans (HX4.out.trans HY9.out)) (Nat.le_refl _) _ _ _ _⟩
  · have ej : ar k = 1 := ar1 hk
    have EJ := Lib.hid ej
    rw [ej]
    clear ej hk
    have q1 : W.cell? ⟨b, o + 1, none⟩ = some (.string y1) := (HY.out _ HX4.out).1
    go_wp2_with fail
    refine (spec_ParseNumber_any y1 HZ1.out _).mono ?_
    rintro e v5 ⟨⟨n1, ok1, rfl, hp1⟩, hy1⟩
    have HP1 := Lib.hid hp1
    clear hp1 q1
    have c0 : v5.cell? ⟨g, 1, none⟩ = some (.int .i64 0) := (HB5.out.ext hy1).cell 1
    have f0 : v5.frozen? ⟨g, 1, none⟩ = false := (HB5.out.ext hy1).frozen 1
    go_upto_region 6 with (fail)
    clear c0 f0
    have B0 : Hid (Blk (v5.setCell ⟨g, 1, none⟩ (.int .i64 n1)) g 37 #[.int .i64 k, .int .i64 n1, .int .i64 0, .int .i64 0]) := (HB5.out.ext hy1).set_ 1 _
    have X0 : Hid (Ext w2 (v5.setCell ⟨g, 1, none⟩ (.int .i64 n1))) := (HX4.out.trans hy1).setCell (p := ⟨g, 1, none⟩) HG.out _
    clear hy1
    generalize v5.setCell ⟨g, 1, none⟩ (.int .i64 n1) = W0 at *
    have HS : Hid (∀ h : Gt, vg h 4 = true → s = gtx h → (⟨k, n1, 0, 0⟩ : Gt) = h) := by
      intro h hv he
      have hj := EJ.out
      exact gate_same hv (HW.out h hv he) HKJ.out (fun _ => ⟨_, HP1.out⟩) (fun q => by omega) (fun q => by omega)  (fun q => by omega) (fun _ => rfl) (fun _ => rfl)
    obtain ⟨gt, hgt⟩ : ∃ gt : Gt, gt = ⟨k, n1, 0, 0⟩ := ⟨_, rfl⟩
    rw [← hgt] at HS
    have d0 : W0.cell? ⟨g, 0, none⟩ = some (.int .i64 k) := B0.out.cell 0
    have d1 : W0.cell? ⟨g, 1, none⟩ = some (.int .i64 n1) := B0.out.cell 1
    have d2 : W0.cell? ⟨g, 2, none⟩ = some (.int .i64 0) := B0.out.cell 2
    have d3 : W0.cell? ⟨g, 3, none⟩ = some (.int .i64 0) := B0.out.cell 3
    have HR : Hid (Blk W0 w.heap.size 37 #[.int .i64 0, .int .i64 0, .int .i64 0, .int .i64 0]) := HB2.out.ext X0.out
    by_cases hz : s = ⟨#[]⟩
    · have e1 : (ByteArray.toList s).isEmpty = true := e0.2 hz
      clear e0 hgt
      have HN : Hid (∀ h : Gt, vg h 4 = true → s = gtx h → (⟨0, 0, 0, 0⟩ : Gt) = h) := by
        intro h hv he
        have := gtx_size0 hv
        rw [← he, hz] at this
        exact absurd this (by decide)
      clear hz
      obtain ⟨⟨a0, a1, a2, a3⟩, z0, z1, z2, z3⟩ := cells4 HR.out
      go_wp2
      exact bodyPost_ret (v := .tuple #[(⟨0, 0, 0, 0⟩ : Gt).val, .bool false]) (ret_pair rfl _ _ _ _ _ _ _ rfl rfl (HR.out.put4 (.int .i64 0) (.int .i64 0) (.int .i64 0) (.int .i64 0)) Tryz.underlying37 rfl Tryz.sizeGateR) rfl ⟨gateRes _ _ rfl HN.out, ext_put4 (HX2.out.trans X0.out) (Nat.le_refl _) _ _ _ _⟩
    · have e1 : (ByteArray.toList s).isEmpty = false := by
          cases e : (ByteArray.toList s).isEmpty
          · rfl
          · exact absurd (e0.1 e) hz
      clear e0 hz
      go_wp2_with fail
      have HCG : Hid (∀ w', Calls Tryz.prog 42 #[.agg #[.int .i64 k, .int .i64 n1, .int .i64 0, .int .i64 0]] w' fun e w'' => e = .returned (.string (gtx gt)) ∧ Ext w' w'') := fun w' => by rw [hgt]; exact spec_FormatGate_any _ w'
      refine (HCG.out _).mono ?_
      rintro e w9 ⟨rfl, hy9⟩
      clear d0 d1 d2 d3
      have HY9 := Lib.hid hy9
      clear hy9
      obtain ⟨⟨a0, a1, a2, a3⟩, z0, z1, z2, z3⟩ := cells4 (HR.out.ext HY9.out)
      obtain ⟨q, hq⟩ : ∃ q, (ByteArray.toList (gtx gt) == ByteArray.toList s) = q := ⟨_, rfl⟩
      cases q
      · have HN : Hid (∀ h : Gt, vg h 4 = true → s = gtx h → (⟨0, 0, 0, 0⟩ : Gt) = h) := by
          intro h hv he
          have h1 := HS.out h hv he
          rw [h1, ← he, str_beq_self] at hq
          cases hq
        generalize gtx gt = gs at *
        clear hgt
        go_wp2
        exact bodyPost_ret (v := .tuple #[(⟨0, 0, 0, 0⟩ : Gt).val, .bool false]) (ret_pair rfl _ _ _ _ _ _ _ rfl rfl ((HR.out.ext HY9.out).put4 (.int .i64 0) (.int .i64 0) (.int .i64 0) (.int .i64 0)) Tryz.underlying37 rfl Tryz.sizeGateR) rfl ⟨gateRes _ _ rfl HN.out, ext_put4 (HX2.out.trans (X0.out.trans HY9.out)) (Nat.le_refl _) _ _ _ _⟩
      · generalize gtx gt = gs at *
        subst hgt
        have d0 : w9.cell? ⟨g, 0, none⟩ = some (.int .i64 k) := (B0.out.ext HY9.out).cell 0
        have d1 : w9.cell? ⟨g, 1, none⟩ = some (.int .i64 n1) := (B0.out.ext HY9.out).cell 1
        have d2 : w9.cell? ⟨g, 2, none⟩ = some (.int .i64 0) := (B0.out.ext HY9.out).cell 2
        have d3 : w9.cell? ⟨g, 3, none⟩ = some (.int .i64 0) := (B0.out.ext HY9.out).cell 3
        go_wp2
        exact bodyPost_ret (v := .tuple #[(⟨k, n1, 0, 0⟩ : Gt).val, .bool true]) (ret_pair rfl _ _ _ _ _ _ _ rfl rfl ((HR.out.ext HY9.out).put4 (.int .i64 k) (.int .i64 n1) (.int .i64 0) (.int .i64 0)) Tryz.underlying37 rfl Tryz.sizeGateR) rfl ⟨gateRes _ _ rfl HS.out, ext_put4 (HX2.out.trans (X0.out.trans HY9.out)) (Nat.le_refl _) _ _ _ _⟩
  · have ej : ar k = 2 := ar2 hk
    have EJ := Lib.hid ej
    rw [ej]
    clear ej hk
    have q1 : W.cell? ⟨b, o + 1, none⟩ = some (.string y1) := (HY.out _ HX4.out).1
    go_wp2_with fail
    refine (spec_ParseNumber_any y1 HZ1.out _).mono ?_
    rintro e v5 ⟨⟨n1, ok1, rfl, hp1⟩, hy1⟩
    have HP1 := Lib.hid hp1
    clear hp1 q1
    have c0 : v5.cell? ⟨g, 1, none⟩ = some (.int .i64 0) := (HB5.out.ext hy1).cell 1
    have f0 : v5.frozen? ⟨g, 1, none⟩ = false := (HB5.out.ext hy1).frozen 1
    go_upto_region 6 with (fail)
    clear c0 f0
    have B0 : Hid (Blk (v5.setCell ⟨g, 1, none⟩ (.int .i64 n1)) g 37 #[.int .i64 k, .int .i64 n1, .int .i64 0, .int .i64 0]) := (HB5.out.ext hy1).set_ 1 _
    have X0 : Hid (Ext w2 (v5.setCell ⟨g, 1, none⟩ (.int .i64 n1))) := (HX4.out.trans hy1).setCell (p := ⟨g, 1, none⟩) HG.out _
    clear hy1
    generalize v5.setCell ⟨g, 1, none⟩ (.int .i64 n1) = W0 at *
    have q2 : W0.cell? ⟨b, o + 2, none⟩ = some (.string y2) := (HY.out _ X0.out).2.1
    go_wp2_with fail
    refine (spec_ParseNumber_any y2 HZ2.out _).mono ?_
    rintro e v6 ⟨⟨n2, ok2, rfl, hp2⟩, hy2⟩
    have HP2 := Lib.hid hp2
    clear hp2 q2
    have c1 : v6.cell? ⟨g, 2, none⟩ = some (.int .i64 0) := (B0.out.ext hy2).cell 2
    have f1 : v6.frozen? ⟨g, 2, none⟩ = false := (B0.out.ext hy2).frozen 2
    go_upto_region 8 with (fail)
    clear c1 f1
    have B1 : Hid (Blk (v6.setCell ⟨g, 2, none⟩ (.int .i64 n2)) g 37 #[.int .i64 k, .int .i64 n1, .int .i64 n2, .int .i64 0]) := (B0.out.ext hy2).set_ 2 _
    have X1 : Hid (Ext w2 (v6.setCell ⟨g, 2, none⟩ (.int .i64 n2))) := (X0.out.trans hy2).setCell (p := ⟨g, 2, none⟩) HG.out _
    clear hy2
    generalize v6.setCell ⟨g, 2, none⟩ (.int .i64 n2) = W1 at *
    have HS : Hid (∀ h : Gt, vg h 4 = true → s = gtx h → (⟨k, n1, n2, 0⟩ : Gt) = h) := by
      intro h hv he
      have hj := EJ.out
      exact gate_same hv (HW.out h hv he) HKJ.out (fun _ => ⟨_, HP1.out⟩) (fun _ => ⟨_, HP2.out⟩) (fun q => by omega)  (fun q => by omega) (fun q => by omega) (fun _ => rfl)
    obtain ⟨gt, hgt⟩ : ∃ gt : Gt, gt = ⟨k, n1, n2, 0⟩ := ⟨_, rfl⟩
    rw [← hgt] at HS
    have d0 : W1.cell? ⟨g, 0, none⟩ = some (.int .i64 k) := B1.out.cell 0
    have d1 : W1.cell? ⟨g, 1, none⟩ = some (.int .i64 n1) := B1.out.cell 1
    have d2 : W1.cell? ⟨g, 2, none⟩ = some (.int .i64 n2) := B1.out.cell 2
    have d3 : W1.cell? ⟨g, 3, none⟩ = some (.int .i64 0) := B1.out.cell 3
    have HR : Hid (Blk W1 w.heap.size 37 #[.int .i64 0, .int .i64 0, .int .i64 0, .int .i64 0]) := HB2.out.ext X1.out
    by_cases hz : s = ⟨#[]⟩
    · have e1 : (ByteArray.toList s).isEmpty = true := e0.2 hz
      clear e0 hgt
      have HN : Hid (∀ h : Gt, vg h 4 = true → s = gtx h → (⟨0, 0, 0, 0⟩ : Gt) = h) := by
        intro h hv he
        have := gtx_size0 hv
        rw [← he, hz] at this
        exact absurd this (by decide)
      clear hz
      obtain ⟨⟨a0, a1, a2, a3⟩, z0, z1, z2, z3⟩ := cells4 HR.out
      go_wp2
      exact bodyPost_ret (v := .tuple #[(⟨0, 0, 0, 0⟩ : Gt).val, .bool false]) (ret_pair rfl _ _ _ _ _ _ _ rfl rfl (HR.out.put4 (.int .i64 0) (.int .i64 0) (.int .i64 0) (.int .i64 0)) Tryz.underlying37 rfl Tryz.sizeGateR) rfl ⟨gateRes _ _ rfl HN.out, ext_put4 (HX2.out.trans X1.out) (Nat.le_refl _) _ _ _ _⟩
    · have e1 : (ByteArray.toList s).isEmpty = false := by
          cases e : (ByteArray.toList s).isEmpty
          · rfl
          · exact absurd (e0.1 e) hz
      clear e0 hz
      go_wp2_with fail
      have HCG : Hid (∀ w', Calls Tryz.prog 42 #[.agg #[.int .i64 k, .int .i64 n1, .int .i64 n2, .int .i64 0]] w' fun e w'' => e = .returned (.string (gtx gt)) ∧ Ext w' w'') := fun w' => by rw [hgt]; exact spec_FormatGate_any _ w'
      refine (HCG.out _).mono ?_
      rintro e w9 ⟨rfl, hy9⟩
      clear d0 d1 d2 d3
      have HY9 := Lib.hid hy9
      clear hy9
      obtain ⟨⟨a0, a1, a2, a3⟩, z0, z1, z2, z3⟩ := cells4 (HR.out.ext HY9.out)
      obtain ⟨q, hq⟩ : ∃ q, (ByteArray.toList (gtx gt) == ByteArray.toList s) = q := ⟨_, rfl⟩
      cases q
      · have HN : Hid (∀ h : Gt, vg h 4 = true → s = gtx h → (⟨0, 0, 0, 0⟩ : Gt) = h) := by
          intro h hv he
          have h1 := HS.out h hv he
          rw [h1, ← he, str_beq_self] at hq
          cases hq
        generalize gtx gt = gs at *
        clear hgt
        go_wp2
        exact bodyPost_ret (v := .tuple #[(⟨0, 0, 0, 0⟩ : Gt).val, .bool false]) (ret_pair rfl _ _ _ _ _ _ _ rfl rfl ((HR.out.ext HY9.out).put4 (.int .i64 0) (.int .i64 0) (.int .i64 0) (.int .i64 0)) Tryz.underlying37 rfl Tryz.sizeGateR) rfl ⟨gateRes _ _ rfl HN.out, ext_put4 (HX2.out.trans (X1.out.trans HY9.out)) (Nat.le_refl _) _ _ _ _⟩
      · generalize gtx gt = gs at *
        subst hgt
        have d0 : w9.cell? ⟨g, 0, none⟩ = some (.int .i64 k) := (B1.out.ext HY9.out).cell 0
        have d1 : w9.cell? ⟨g, 1, none⟩ = some (.int .i64 n1) := (B1.out.ext HY9.out).cell 1
        have d2 : w9.cell? ⟨g, 2, none⟩ = some (.int .i64 n2) := (B1.out.ext HY9.out).cell 2
        have d3 : w9.cell? ⟨g, 3, none⟩ = some (.int .i64 0) := (B1.out.ext HY9.out).cell 3
        go_wp2
        exact bodyPost_ret (v := .tuple #[(⟨k, n1, n2, 0⟩ : Gt).val, .bool true]) (ret_pair rfl _ _ _ _ _ _ _ rfl rfl ((HR.out.ext HY9.out).put4 (.int .i64 k) (.int .i64 n1) (.int .i64 n2) (.int .i64 0)) Tryz.underlying37 rfl Tryz.sizeGateR) rfl ⟨gateRes _ _ rfl HS.out, ext_put4 (HX2.out.trans (X1.out.trans HY9.out)) (Nat.le_refl _) _ _ _ _⟩
  · have ej : ar k = 3 := ar3 hk
    have EJ := Lib.hid ej
    rw [ej]
    clear ej
    have KK := Lib.hid hk
    clear hk
    have q1 : W.cell? ⟨b, o + 1, none⟩ = some (.string y1) := (HY.out _ HX4.out).1
    go_wp2_with fail
    refine (spec_ParseNumber_any y1 HZ1.out _).mono ?_
    rintro e v5 ⟨⟨n1, ok1, rfl, hp1⟩, hy1⟩
    have HP1 := Lib.hid hp1
    clear hp1 q1
    have c0 : v5.cell? ⟨g, 1, none⟩ = some (.int .i64 0) := (HB5.out.ext hy1).cell 1
    have f0 : v5.frozen? ⟨g, 1, none⟩ = false := (HB5.out.ext hy1).frozen 1
    go_upto_region 6 with (fail)
    clear c0 f0
    have B0 : Hid (Blk (v5.setCell ⟨g, 1, none⟩ (.int .i64 n1)) g 37 #[.int .i64 k, .int .i64 n1, .int .i64 0, .int .i64 0]) := (HB5.out.ext hy1).set_ 1 _
    have X0 : Hid (Ext w2 (v5.setCell ⟨g, 1, none⟩ (.int .i64 n1))) := (HX4.out.trans hy1).setCell (p := ⟨g, 1, none⟩) HG.out _
    clear hy1
    generalize v5.setCell ⟨g, 1, none⟩ (.int .i64 n1) = W0 at *
    have q2 : W0.cell? ⟨b, o + 2, none⟩ = some (.string y2) := (HY.out _ X0.out).2.1
    go_wp2_with fail
    refine (spec_ParseNumber_any y2 HZ2.out _).mono ?_
    rintro e v6 ⟨⟨n2, ok2, rfl, hp2⟩, hy2⟩
    have HP2 := Lib.hid hp2
    clear hp2 q2
    have c1 : v6.cell? ⟨g, 2, none⟩ = some (.int .i64 0) := (B0.out.ext hy2).cell 2
    have f1 : v6.frozen? ⟨g, 2, none⟩ = false := (B0.out.ext hy2).frozen 2
    go_upto_region 8 with (fail)
    clear c1 f1
    have B1 : Hid (Blk (v6.setCell ⟨g, 2, none⟩ (.int .i64 n2)) g 37 #[.int .i64 k, .int .i64 n1, .int .i64 n2, .int .i64 0]) := (B0.out.ext hy2).set_ 2 _
    have X1 : Hid (Ext w2 (v6.setCell ⟨g, 2, none⟩ (.int .i64 n2))) := (X0.out.trans hy2).setCell (p := ⟨g, 2, none⟩) HG.out _
    clear hy2
    generalize v6.setCell ⟨g, 2, none⟩ (.int .i64 n2) = W1 at *
    have q3 : W1.cell? ⟨b, o + 3, none⟩ = some (.string y3) := (HY.out _ X1.out).2.2
    go_wp2_with fail
    refine (spec_ParseNumber_any y3 HZ3.out _).mono ?_
    rintro e v7 ⟨⟨n3, ok3, rfl, hp3⟩, hy3⟩
    have HP3 := Lib.hid hp3
    clear hp3 q3
    have c2 : v7.cell? ⟨g, 3, none⟩ = some (.int .i64 0) := (B1.out.ext hy3).cell 3
    have f2 : v7.frozen? ⟨g, 3, none⟩ = false := (B1.out.ext hy3).frozen 3
    go_upto_region 10 with (fail)
    clear c2 f2
    have B2 : Hid (Blk (v7.setCell ⟨g, 3, none⟩ (.int .i64 n3)) g 37 #[.int .i64 k, .int .i64 n1, .int .i64 n2, .int .i64 n3]) := (B1.out.ext hy3).set_ 3 _
    have X2 : Hid (Ext w2 (v7.setCell ⟨g, 3, none⟩ (.int .i64 n3))) := (X1.out.trans hy3).setCell (p := ⟨g, 3, none⟩) HG.out _
    clear hy3
    generalize v7.setCell ⟨g, 3, none⟩ (.int .i64 n3) = W2 at *
    have HS : Hid (∀ h : Gt, vg h 4 = true → s = gtx h → (⟨k, n1, n2, n3⟩ : Gt) = h) := by
      intro h hv he
      have hj := EJ.out
      exact gate_same hv (HW.out h hv he) HKJ.out (fun _ => ⟨_, HP1.out⟩) (fun _ => ⟨_, HP2.out⟩) (fun _ => ⟨_, HP3.out⟩)  (fun q => by omega) (fun q => by omega) (fun q => by omega)
    obtain ⟨gt, hgt⟩ : ∃ gt : Gt, gt = ⟨k, n1, n2, n3⟩ := ⟨_, rfl⟩
    rw [← hgt] at HS
    have d0 : W2.cell? ⟨g, 0, none⟩ = some (.int .i64 k) := B2.out.cell 0
    have d1 : W2.cell? ⟨g, 1, none⟩ = some (.int .i64 n1) := B2.out.cell 1
    have d2 : W2.cell? ⟨g, 2, none⟩ = some (.int .i64 n2) := B2.out.cell 2
    have d3 : W2.cell? ⟨g, 3, none⟩ = some (.int .i64 n3) := B2.out.cell 3
    have HR : Hid (Blk W2 w.heap.size 37 #[.int .i64 0, .int .i64 0, .int .i64 0, .int .i64 0]) := HB2.out.ext X2.out
    by_cases hz : s = ⟨#[]⟩
    · have e1 : (ByteArray.toList s).isEmpty = true := e0.2 hz
      clear e0 hgt
      have HN : Hid (∀ h : Gt, vg h 4 = true → s = gtx h → (⟨0, 0, 0, 0⟩ : Gt) = h) := by
        intro h hv he
        have := gtx_size0 hv
        rw [← he, hz] at this
        exact absurd this (by decide)
      clear hz
      obtain ⟨⟨a0, a1, a2, a3⟩, z0, z1, z2, z3⟩ := cells4 HR.out
      go_wp2
      exact bodyPost_ret (v := .tuple #[(⟨0, 0, 0, 0⟩ : Gt).val, .bool false]) (ret_pair rfl _ _ _ _ _ _ _ rfl rfl (HR.out.put4 (.int .i64 0) (.int .i64 0) (.int .i64 0) (.int .i64 0)) Tryz.underlying37 rfl Tryz.sizeGateR) rfl ⟨gateRes _ _ rfl HN.out, ext_put4 (HX2.out.trans X2.out) (Nat.le_refl _) _ _ _ _⟩
    · have e1 : (ByteArray.toList s).isEmpty = false := by
          cases e : (ByteArray.toList s).isEmpty
          · rfl
          · exact absurd (e0.1 e) hz
      clear e0 hz
      go_wp2_with fail
      have HCG : Hid (∀ w', Calls Tryz.prog 42 #[.agg #[.int .i64 k, .int .i64 n1, .int .i64 n2, .int .i64 n3]] w' fun e w'' => e = .returned (.string (gtx gt)) ∧ Ext w' w'') := fun w' => by rw [hgt]; exact spec_FormatGate_any _ w'
      refine (HCG.out _).mono ?_
      rintro e w9 ⟨rfl, hy9⟩
      clear d0 d1 d2 d3
      have HY9 := Lib.hid hy9
      clear hy9
      obtain ⟨⟨a0, a1, a2, a3⟩, z0, z1, z2, z3⟩ := cells4 (HR.out.ext HY9.out)
      obtain ⟨q, hq⟩ : ∃ q, (ByteArray.toList (gtx gt) == ByteArray.toList s) = q := ⟨_, rfl⟩
      cases q
      · have HN : Hid (∀ h : Gt, vg h 4 = true → s = gtx h → (⟨0, 0, 0, 0⟩ : Gt) = h) := by
          intro h hv he
          have h1 := HS.out h hv he
          rw [h1, ← he, str_beq_self] at hq
          cases hq
        generalize gtx gt = gs at *
        clear hgt
        go_wp2
        exact bodyPost_ret (v := .tuple #[(⟨0, 0, 0, 0⟩ : Gt).val, .bool false]) (ret_pair rfl _ _ _ _ _ _ _ rfl rfl ((HR.out.ext HY9.out).put4 (.int .i64 0) (.int .i64 0) (.int .i64 0) (.int .i64 0)) Tryz.underlying37 rfl Tryz.sizeGateR) rfl ⟨gateRes _ _ rfl HN.out, ext_put4 (HX2.out.trans (X2.out.trans HY9.out)) (Nat.le_refl _) _ _ _ _⟩
      · generalize gtx gt = gs at *
        subst hgt
        have d0 : w9.cell? ⟨g, 0, none⟩ = some (.int .i64 k) := (B2.out.ext HY9.out).cell 0
        have d1 : w9.cell? ⟨g, 1, none⟩ = some (.int .i64 n1) := (B2.out.ext HY9.out).cell 1
        have d2 : w9.cell? ⟨g, 2, none⟩ = some (.int .i64 n2) := (B2.out.ext HY9.out).cell 2
        have d3 : w9.cell? ⟨g, 3, none⟩ = some (.int .i64 n3) := (B2.out.ext HY9.out).cell 3
        go_wp2
        exact bodyPost_ret (v := .tuple #[(⟨k, n1, n2, n3⟩ : Gt).val, .bool true]) (ret_pair rfl _ _ _ _ _ _ _ rfl rfl ((HR.out.ext HY9.out).put4 (.int .i64 k) (.int .i64 n1) (.int .i64 n2) (.int .i64 n3)) Tryz.underlying37 rfl Tryz.sizeGateR) rfl ⟨gateRes _ _ rfl HS.out, ext_put4 (HX2.out.trans (X2.out.trans HY9.out)) (Nat.le_refl _) _ _ _ _⟩
end Go.Proofs.YteecjnnompjmiacGreatDoor
