/-
  Helper text (no claim of its own): the tableau of a circuit, by the reference. Printed by gen_tc.py.
-/
import Derived.Test.YtcocabflinlbbaaTbk
import Derived.Test.YtcocabflinlbbaaTba
import Derived.Test.YtcocabflinlbbaaTbi
namespace Go.Proofs.Ytcocabflinlbbaa
open Go.ChangeShapes Go.WideShapes Go.ChangeAt Go.RowKit Go.Deep
set_option linter.unusedVariables false
set_option linter.unusedSimpArgs false
set_option maxRecDepth 100000 in
set_option maxHeartbeats 8000000 in
theorem spec_CircuitTableau_any (A : Option Addr) (c : Nat) (n : Int) (gs : List Gt) (w : World) (h : Rd w w.heap.size 4 A gs.length (gcells gs)) (hl : gs.length ≤ 100000000) :
    Calls Try.prog 10 #[.agg #[.int .i64 n, .slice A gs.length c]] w fun e w' => TabRes n (tabF n gs) e w' ∧ Ext w w' := by
  go_enter Try.func10, Try.ntmps10
  go_wp2_with fail
  refine (spec_IsValidCircuit_any A c n gs _ (h.ext (by repeat (first | exact Ext.refl _ | assumption | refine Ext.alloc ?_ _ | refine Ext.drewN ?_ _ | refine Ext.drew ?_))) hl).mono ?_
  rintro e w1 ⟨rfl, hx1⟩
  obtain ⟨l, hgl⟩ : ∃ l, gs.length = l := ⟨_, rfl⟩
  rw [hgl] at h hl hx1 ⊢
  have HL := Lib.hid hgl
  clear hgl
  have HC1 : Hid (∀ q, w.heap.size + 2 ≤ q → CG w w1 A l c n q) := fun q hq => ⟨((Blk.new w _ _).alloc _).ext hx1, (Blk.newAt (b := w.heap.size + 1) (by simp)).ext hx1, hq, Ext.trans (by repeat (first | exact Ext.refl _ | assumption | refine Ext.alloc ?_ _ | refine Ext.drewN ?_ _ | refine Ext.drew ?_)) hx1⟩
  have hl1 : w.heap.size + 2 ≤ w1.heap.size := by have := hx1.size; simpa using this
  clear hx1
  cases hv : vCi n gs
  · have HNO : Hid (tabF n gs = none) := tabF_no hv
    clear hv
    have HR := (HC1.out _ (Nat.le_refl _)).2.1
    have HE := Lib.hid (HC1.out _ (Nat.le_refl _)).2.2.2
    obtain ⟨⟨c0, c1⟩, z0, z1⟩ := blk2 HR
    go_wp2
    have HBB : Hid (Blk (put2 _ (w.heap.size + 1) (.int .i64 0) (.slice none 0 0)) (w.heap.size + 1) 35 #[.int .i64 0, .slice none 0 0]) := (HR).put2 _ _
    refine bodyPost_ret (v := .tuple #[.agg #[.int .i64 0, .slice none 0 0], .bool false]) ?_ rfl ?_
    rotate_left
    · exact ⟨tabRes_none HNO.out rfl, ext_put2 (g := w.heap.size + 1) (HE.out) (by omega) _ _⟩
    · exact ret_pair rfl _ _ _ _ _ _ _ rfl rfl HBB.out Try.underlying35 rfl Try.sizeTableauR
  have HV := Lib.hid hv
  have HN := Lib.hid (vCi_bd hv)
  clear hv
  have HROW : Hid (∀ i, i < l → ∃ x, gs[i]? = some x) := fun i hi => ⟨_, List.getElem?_eq_getElem (by rw [HL.out]; exact hi)⟩
  obtain ⟨⟨b0, b1⟩, -⟩ := blk2 (HC1.out _ (Nat.le_refl _)).1
  go_wp2_with fail
  refine (spec_IdentityTableau_any n _ HN.out.1 HN.out.2).mono ?_
  rintro e w2 ⟨⟨v, rfl, A0, c0, rfl, hr0, hc0⟩, hx2⟩
  obtain ⟨rs0, hrs0⟩ : ∃ rs0, idT n.toNat = rs0 := ⟨_, rfl⟩
  have hT0 : tabN n (gs.take 0) = some rs0 := by rw [← hrs0]; exact tabN_zero n gs
  have hm8 : rs0.length ≤ 8 := by rw [← hrs0, idT_len]; have := HN.out; omega
  rw [hrs0] at hr0 hc0 ⊢
  clear hrs0
  obtain ⟨m0, hm0⟩ : ∃ m0, rs0.length = m0 := ⟨_, rfl⟩
  rw [hm0] at hr0 hc0 hm8 ⊢
  clear b0 b1
  go_upto_region 4 with (fail)
  obtain ⟨q, hq⟩ : ∃ q, q = w2.heap.size := ⟨_, rfl⟩
  rw [← hq]
  have HCG : Hid (CG w (w2.alloc (.cells #[.int .i64 n, .slice A0 m0 c0] 35)) A l c n q) := (HC1.out q (by have := hx2.size; omega)).ext (hx2.alloc _)
  have HCT : Hid (CT (w2.alloc (.cells #[.int .i64 n, .slice A0 m0 c0] 35)) n q A0 m0 c0 rs0) := ⟨Blk.newAt hq, hr0.ext ((Ext.refl _).alloc _), hc0, hm8, hm0⟩
  generalize w2.alloc (.cells #[.int .i64 n, .slice A0 m0 c0] 35) = w3 at *
  have HT0 := Lib.hid hT0
  clear hq hl1 HC1 hx2 hr0 hc0 hm8 hm0 hT0
  obtain ⟨⟨t0, t1⟩, -⟩ := blk2 HCG.out.1
  go_wp2
  clear t0 t1
  go_loopw [5] (fun iv wr => ∃ (k : Nat) (rs : List Pa) (A' : Option Addr) (m c' : Nat), iv = .int .i64 k ∧ k ≤ l ∧ Hid (CG w wr A l c n q) ∧ Hid (CT wr n q A' m c' rs) ∧ Hid (tabN n (gs.take k) = some rs)) (fun i _ => l - (intOf i).toNat)
  case atStart => exact ⟨0, rs0, A0, m0, c0, rfl, Nat.zero_le _, HCG, HCT, HT0⟩
  case round =>
    obtain ⟨k, rs, A', m, c', rfl, hk, HG0, HT, HQ⟩ := hrel
    clear HCG HCT HT0
    by_cases hlt : k < l
    · have HLT := Lib.hid hlt
      obtain ⟨b, o, g, rfl, hb, hg, -⟩ := gate_at h hlt
      have HG := Lib.hid hg
      have hm8 : m ≤ 8 := HT.out.2.2.2.1
      have hk1 : IntKind.i64.wrap ((k : Int) + 1) = ((k + 1 : Nat) : Int) := by rw [IntWalk.i64_in _ (by omega)]; rfl
      have hk2 : wrap64 ((k : Int) + 1) = ((k + 1 : Nat) : Int) := by unfold wrap64; omega
      have HK : Hid (∀ w', Ext wr w' → (w'.cell? ⟨w.heap.size, 0, none⟩ = some (.int .i64 n) ∧ w'.cell? ⟨w.heap.size, 1, none⟩ = some (.slice (some ⟨b, o, none⟩) l c)) ∧ (w'.cell? ⟨b, o + k * 4, none⟩ = some (.int .i64 g.k) ∧ w'.cell? ⟨b, o + k * 4 + 1, none⟩ = some (.int .i64 g.a) ∧ w'.cell? ⟨b, o + k * 4 + 2, none⟩ = some (.int .i64 g.b) ∧ w'.cell? ⟨b, o + k * 4 + 3, none⟩ = some (.int .i64 g.c)) ∧ (w'.cell? ⟨q, 0, none⟩ = some (.int .i64 n) ∧ w'.cell? ⟨q, 1, none⟩ = some (.slice A' m c'))) := fun w' hx => by
        obtain ⟨b2, o2, g2, he, -, hg2, x0, x1, x2, x3⟩ := gate_at (h.up (HG0.out.2.2.2.trans hx) (Nat.le_refl _)) hlt
        simp only [Option.some.injEq, Addr.mk.injEq] at he
        obtain ⟨rfl, rfl, -⟩ := he
        rw [hg] at hg2
        obtain rfl := Option.some.inj hg2
        exact ⟨(blk2 (HG0.out.1.ext hx)).1, ⟨x0, x1, x2, x3⟩, (blk2 (HT.out.1.ext hx)).1⟩
      have HCALL : Hid (∀ w', Ext wr w' → Calls Try.prog 18 #[.agg #[.int .i64 n, .slice A' m c'], .agg #[.int .i64 g.k, .int .i64 g.a, .int .i64 g.b, .int .i64 g.c]] w' fun e w'' => TabRes n (tabG n rs g) e w'' ∧ Ext w' w'') := fun w' hx => by
        obtain ⟨-, h2, h3, h4, h5⟩ := HT.out.ext hx
        subst h5
        exact spec_TableauApplyGate_any A' c' n rs g w' h2 (by omega) h3
      clear hg
      cases ht : tabG n rs g with
      | none =>
        have HNO : Hid (tabF n gs = none) := by
          unfold Hid
          rw [tabF_yes HV.out]
          exact tabN_stop (k := k + 1) (by rw [tabN_step HG.out HQ.out]; exact ht)
        have HTG := Lib.hid ht
        clear ht
        obtain ⟨⟨b0, b1⟩, -⟩ := HK.out wr (Ext.refl _)
        go_upto_region 7 with (fail)
        refine wp_region_held_drew (S := fun w' => (w'.cell? ⟨w.heap.size, 0, none⟩ = some (.int .i64 n) ∧ w'.cell? ⟨w.heap.size, 1, none⟩ = some (.slice (some ⟨b, o, none⟩) l c)) ∧ (w'.cell? ⟨b, o + k * 4, none⟩ = some (.int .i64 g.k) ∧ w'.cell? ⟨b, o + k * 4 + 1, none⟩ = some (.int .i64 g.a) ∧ w'.cell? ⟨b, o + k * 4 + 2, none⟩ = some (.int .i64 g.b) ∧ w'.cell? ⟨b, o + k * 4 + 3, none⟩ = some (.int .i64 g.c)) ∧ (w'.cell? ⟨q, 0, none⟩ = some (.int .i64 n) ∧ w'.cell? ⟨q, 1, none⟩ = some (.slice A' m c'))) (by kernel_rfl) (HK.out _ (Ext.refl wr).drew) (fun hHeld => ?_)
        clear b0 b1
        (refine wpAnyH_take (i := 0) (v := ?_) rfl (by kernel_rfl) (by kernel_rfl) (by kernel_rfl) (fun _ _ _ h => h) (Or.inl ⟨by rfl, ?_⟩) (by assumption) ?_; rotate_left; · (intro w hSw; (try dsimp only at hSw); go_simp; all_goals with_reducible rfl); (try simp only [Act.put, List.getElem_toArray, List.getElem_cons_zero, List.getElem_cons_succ, List.setIfInBounds_toArray, List.set_cons_zero, List.set_cons_succ]))
        (try simp only [Act.put, List.getElem_toArray, List.getElem_cons_zero, List.getElem_cons_succ, List.setIfInBounds_toArray, List.set_cons_zero, List.set_cons_succ])
        (refine wpAnyH_take (i := 1) (v := ?_) rfl (by kernel_rfl) (by kernel_rfl) (by kernel_rfl) (fun _ _ _ h => h) (Or.inl ⟨by rfl, ?_⟩) (by assumption) ?_; rotate_left; · (intro w hSw; (try dsimp only at hSw); go_simp; all_goals with_reducible rfl); (try simp only [Act.put, List.getElem_toArray, List.getElem_cons_zero, List.getElem_cons_succ, List.setIfInBounds_toArray, List.set_cons_zero, List.set_cons_succ]))
        (try simp only [Act.put, List.getElem_toArray, List.getElem_cons_zero, List.getElem_cons_succ, List.setIfInBounds_toArray, List.set_cons_zero, List.set_cons_succ])
        (refine wpAnyH_take (i := 2) (v := ?_) rfl (by kernel_rfl) (by kernel_rfl) (by kernel_rfl) (fun _ _ _ h => h) (Or.inl ⟨by rfl, ?_⟩) (by assumption) ?_; rotate_left; · (intro w hSw; (try dsimp only at hSw); go_simp; all_goals with_reducible rfl); (try simp only [Act.put, List.getElem_toArray, List.getElem_cons_zero, List.getElem_cons_succ, List.setIfInBounds_toArray, List.set_cons_zero, List.set_cons_succ]))
        (try simp only [Act.put, List.getElem_toArray, List.getElem_cons_zero, List.getElem_cons_succ, List.setIfInBounds_toArray, List.set_cons_zero, List.set_cons_succ])
        (refine wpAnyH_take (i := 3) (v := ?_) rfl (by kernel_rfl) (by kernel_rfl) (by kernel_rfl) (fun _ _ _ h => h) (Or.inl ⟨by rfl, ?_⟩) (by assumption) ?_; rotate_left; · (intro w hSw; (try dsimp only at hSw); go_simp; all_goals with_reducible rfl); (try simp only [Act.put, List.getElem_toArray, List.getElem_cons_zero, List.getElem_cons_succ, List.setIfInBounds_toArray, List.set_cons_zero, List.set_cons_succ]))
        (try simp only [Act.put, List.getElem_toArray, List.getElem_cons_zero, List.getElem_cons_succ, List.setIfInBounds_toArray, List.set_cons_zero, List.set_cons_succ])
        (refine wpAnyH_take (i := 4) (v := ?_) rfl (by kernel_rfl) (by kernel_rfl) (by kernel_rfl) (fun _ _ _ h => h) (Or.inl ⟨by rfl, ?_⟩) (by assumption) ?_; rotate_left; · (intro w hSw; (try dsimp only at hSw); go_simp; all_goals with_reducible rfl); (try simp only [Act.put, List.getElem_toArray, List.getElem_cons_zero, List.getElem_cons_succ, List.setIfInBounds_toArray, List.set_cons_zero, List.set_cons_succ]))
        (try simp only [Act.put, List.getElem_toArray, List.getElem_cons_zero, List.getElem_cons_succ, List.setIfInBounds_toArray, List.set_cons_zero, List.set_cons_succ])
        (refine wpAnyH_take (i := 5) (v := ?_) rfl (by kernel_rfl) (by kernel_rfl) (by kernel_rfl) (fun _ _ _ h => h) (Or.inl ⟨by rfl, ?_⟩) (by assumption) ?_; rotate_left; · (intro w hSw; (try dsimp only at hSw); go_simp; all_goals with_reducible rfl); (try simp only [Act.put, List.getElem_toArray, List.getElem_cons_zero, List.getElem_cons_succ, List.setIfInBounds_toArray, List.set_cons_zero, List.set_cons_succ]))
        (try simp only [Act.put, List.getElem_toArray, List.getElem_cons_zero, List.getElem_cons_succ, List.setIfInBounds_toArray, List.set_cons_zero, List.set_cons_succ])
        refine wpAnyH_ready (rs := [6, 10]) (by kernel_rfl) (by simp) ?_
        refine AllReadyH.cons rfl (fun K hK => ?_) (AllReadyH.cons rfl (fun K hK => ?_) AllReadyH.nil)
        · go_simp
          refine (HCALL.out _ (Ext.refl wr).drew).mono ?_
          rintro e v5 ⟨hres, hy5⟩
          obtain rfl := tabRes_off HTG.out hres
          clear hres
          have HY5 : Hid (Ext wr v5) := Ext.trans (Ext.refl wr).drew hy5
          clear hy5
          refine hK.out _ _ (HK.out _ (HY5.out)) (fun hHeld => ?_)
          clear hK K
          (try simp only [Act.put, List.getElem_toArray, List.getElem_cons_zero, List.getElem_cons_succ, List.setIfInBounds_toArray, List.set_cons_zero, List.set_cons_succ])
          (refine wpAnyH_take (i := 7) (v := ?_) rfl (by kernel_rfl) (by kernel_rfl) (by kernel_rfl) (fun _ _ _ h => h) (Or.inl ⟨by rfl, ?_⟩) (by assumption) ?_; rotate_left; · (intro w hSw; (try dsimp only at hSw); go_simp; all_goals with_reducible rfl); (try simp only [Act.put, List.getElem_toArray, List.getElem_cons_zero, List.getElem_cons_succ, List.setIfInBounds_toArray, List.set_cons_zero, List.set_cons_succ]))
          (try simp only [Act.put, List.getElem_toArray, List.getElem_cons_zero, List.getElem_cons_succ, List.setIfInBounds_toArray, List.set_cons_zero, List.set_cons_succ])
          (refine wpAnyH_take (i := 8) (v := ?_) rfl (by kernel_rfl) (by kernel_rfl) (by kernel_rfl) (fun _ _ _ h => h) (Or.inl ⟨by rfl, ?_⟩) (by assumption) ?_; rotate_left; · (intro w hSw; (try dsimp only at hSw); go_simp; all_goals with_reducible rfl); (try simp only [Act.put, List.getElem_toArray, List.getElem_cons_zero, List.getElem_cons_succ, List.setIfInBounds_toArray, List.set_cons_zero, List.set_cons_succ]))
          (try simp only [Act.put, List.getElem_toArray, List.getElem_cons_zero, List.getElem_cons_succ, List.setIfInBounds_toArray, List.set_cons_zero, List.set_cons_succ])
          (refine wpAnyH_take (i := 9) (v := ?_) rfl (by kernel_rfl) (by kernel_rfl) (by kernel_rfl) (fun _ _ _ h => h) (Or.inl ⟨by rfl, ?_⟩) (by assumption) ?_; rotate_left; · (intro w hSw; (try dsimp only at hSw); go_simp; all_goals with_reducible rfl); (try simp only [Act.put, List.getElem_toArray, List.getElem_cons_zero, List.getElem_cons_succ, List.setIfInBounds_toArray, List.set_cons_zero, List.set_cons_succ]))
          (try simp only [Act.put, List.getElem_toArray, List.getElem_cons_zero, List.getElem_cons_succ, List.setIfInBounds_toArray, List.set_cons_zero, List.set_cons_succ])
          refine wpAnyH_ready (rs := [10]) (by kernel_rfl) (by simp) ?_
          refine AllReadyH.cons rfl (fun K hK => ?_) AllReadyH.nil
          go_simp
          have HX6 : Hid (Ext wr (v5.alloc (.cells #[.int .i64 0, .slice none 0 0] 35))) := HY5.out.alloc _
          have HB6 : Hid (Blk (v5.alloc (.cells #[.int .i64 0, .slice none 0 0] 35)) v5.heap.size 35 #[.int .i64 0, .slice none 0 0]) := Blk.new _ _ _
  
          have hs6 : wr.heap.size ≤ v5.heap.size := HY5.out.size
          refine hK.out _ _ (HK.out _ (HX6.out)) (fun hHeld => ?_)
          clear hK K
          (try simp only [Act.put, List.getElem_toArray, List.getElem_cons_zero, List.getElem_cons_succ, List.setIfInBounds_toArray, List.set_cons_zero, List.set_cons_succ])
  
          generalize v5.alloc (.cells #[.int .i64 0, .slice none 0 0] 35) = w6 at *
          generalize v5.heap.size = s at *
          clear HY5
          refine wpAnyH_ready (rs := [11]) (by kernel_rfl) (by simp) ?_
          refine AllReadyH.cons rfl (fun K hK => ?_) AllReadyH.nil
          obtain ⟨⟨q0, q1⟩, f0, f1⟩ := blk2 HB6.out
          go_simp
          have HX7 : Hid (Ext wr ((w6.setCell ⟨s, 0, none⟩ (.int .i64 0)).setCell ⟨s, 1, none⟩ (.slice none 0 0))) := ext_put2 (g := s) HX6.out hs6 _ _
  
          refine hK.out _ _ (HK.out _ (HX7.out)) (fun hHeld => ?_)
          clear hK K
          (try simp only [Act.put, List.getElem_toArray, List.getElem_cons_zero, List.getElem_cons_succ, List.setIfInBounds_toArray, List.set_cons_zero, List.set_cons_succ])
          (refine wpAnyH_take (i := 12) (v := ?_) rfl (by kernel_rfl) (by kernel_rfl) (by kernel_rfl) (fun _ _ _ h => h) (Or.inl ⟨by rfl, ?_⟩) (by assumption) ?_; rotate_left; · (intro w hSw; (try dsimp only at hSw); go_simp; all_goals with_reducible rfl); (try simp only [Act.put, List.getElem_toArray, List.getElem_cons_zero, List.getElem_cons_succ, List.setIfInBounds_toArray, List.set_cons_zero, List.set_cons_succ]))
          (refine wpAnyH_done (by kernel_rfl) ?_ _)
          clear q0 q1 f0 f1 hHeld
          generalize (w6.setCell ⟨s, 0, none⟩ (.int .i64 0)).setCell ⟨s, 1, none⟩ (.slice none 0 0) = w7 at *
          have HG7 := Lib.hid (HG0.out.ext HX7.out)
          have HT7 := Lib.hid (HT.out.ext HX7.out)
          clear HX6 HB6 HX7 HCALL HK hs6 HG0 HT 
          obtain ⟨⟨c0, c1⟩, z0, z1⟩ := blk2 HG7.out.2.1
          go_wp2
          have HBB : Hid (Blk (put2 _ (w.heap.size + 1) (.int .i64 0) (.slice none 0 0)) (w.heap.size + 1) 35 #[.int .i64 0, .slice none 0 0]) := (HG7.out.2.1).put2 _ _
          refine bodyPost_ret (v := .tuple #[.agg #[.int .i64 0, .slice none 0 0], .bool false]) ?_ rfl ?_
          rotate_left
          · exact ⟨tabRes_none HNO.out rfl, ext_put2 (g := w.heap.size + 1) (HG7.out.2.2.2) (by omega) _ _⟩
          · exact ret_pair rfl _ _ _ _ _ _ _ rfl rfl HBB.out Try.underlying35 rfl Try.sizeTableauR
        · go_simp
          refine hK.out _ _ (HK.out _ (((Ext.refl wr).alloc _).drew)) (fun hHeld => ?_)
          clear hK K
          (try simp only [Act.put, List.getElem_toArray, List.getElem_cons_zero, List.getElem_cons_succ, List.setIfInBounds_toArray, List.set_cons_zero, List.set_cons_succ])
          refine wpAnyH_ready (rs := [6]) (by kernel_rfl) (by simp) ?_
          refine AllReadyH.cons rfl (fun K hK => ?_) AllReadyH.nil
          go_simp
          refine (HCALL.out _ ((Ext.refl wr).alloc (.cells #[.int .i64 0, .slice none 0 0] 35)).drew).mono ?_
          rintro e w6 ⟨hres, hy5⟩
          obtain rfl := tabRes_off HTG.out hres
          clear hres
          have HX6 : Hid (Ext wr w6) := Ext.trans ((Ext.refl wr).alloc (.cells #[.int .i64 0, .slice none 0 0] 35)).drew hy5
          have HB6 : Hid (Blk w6 wr.heap.size 35 #[.int .i64 0, .slice none 0 0]) := ((Blk.new wr 35 #[.int .i64 0, .slice none 0 0]).ext ((Ext.refl _).drew)).ext hy5
  
          have hs6 : wr.heap.size ≤ wr.heap.size := Nat.le_refl _
          clear hy5
          refine hK.out _ _ (HK.out _ (HX6.out)) (fun hHeld => ?_)
          clear hK K
          (try simp only [Act.put, List.getElem_toArray, List.getElem_cons_zero, List.getElem_cons_succ, List.setIfInBounds_toArray, List.set_cons_zero, List.set_cons_succ])
          (refine wpAnyH_take (i := 7) (v := ?_) rfl (by kernel_rfl) (by kernel_rfl) (by kernel_rfl) (fun _ _ _ h => h) (Or.inl ⟨by rfl, ?_⟩) (by assumption) ?_; rotate_left; · (intro w hSw; (try dsimp only at hSw); go_simp; all_goals with_reducible rfl); (try simp only [Act.put, List.getElem_toArray, List.getElem_cons_zero, List.getElem_cons_succ, List.setIfInBounds_toArray, List.set_cons_zero, List.set_cons_succ]))
          (try simp only [Act.put, List.getElem_toArray, List.getElem_cons_zero, List.getElem_cons_succ, List.setIfInBounds_toArray, List.set_cons_zero, List.set_cons_succ])
          (refine wpAnyH_take (i := 8) (v := ?_) rfl (by kernel_rfl) (by kernel_rfl) (by kernel_rfl) (fun _ _ _ h => h) (Or.inl ⟨by rfl, ?_⟩) (by assumption) ?_; rotate_left; · (intro w hSw; (try dsimp only at hSw); go_simp; all_goals with_reducible rfl); (try simp only [Act.put, List.getElem_toArray, List.getElem_cons_zero, List.getElem_cons_succ, List.setIfInBounds_toArray, List.set_cons_zero, List.set_cons_succ]))
          (try simp only [Act.put, List.getElem_toArray, List.getElem_cons_zero, List.getElem_cons_succ, List.setIfInBounds_toArray, List.set_cons_zero, List.set_cons_succ])
          (refine wpAnyH_take (i := 9) (v := ?_) rfl (by kernel_rfl) (by kernel_rfl) (by kernel_rfl) (fun _ _ _ h => h) (Or.inl ⟨by rfl, ?_⟩) (by assumption) ?_; rotate_left; · (intro w hSw; (try dsimp only at hSw); go_simp; all_goals with_reducible rfl); (try simp only [Act.put, List.getElem_toArray, List.getElem_cons_zero, List.getElem_cons_succ, List.setIfInBounds_toArray, List.set_cons_zero, List.set_cons_succ]))
          (try simp only [Act.put, List.getElem_toArray, List.getElem_cons_zero, List.getElem_cons_succ, List.setIfInBounds_toArray, List.set_cons_zero, List.set_cons_succ])
  
          obtain ⟨s, hs⟩ : ∃ s, s = wr.heap.size := ⟨_, rfl⟩
          rw [← hs] at HB6 ⊢
          replace hs6 : wr.heap.size ≤ s := by rw [hs]; exact Nat.le_refl _
          clear hs
          refine wpAnyH_ready (rs := [11]) (by kernel_rfl) (by simp) ?_
          refine AllReadyH.cons rfl (fun K hK => ?_) AllReadyH.nil
          obtain ⟨⟨q0, q1⟩, f0, f1⟩ := blk2 HB6.out
          go_simp
          have HX7 : Hid (Ext wr ((w6.setCell ⟨s, 0, none⟩ (.int .i64 0)).setCell ⟨s, 1, none⟩ (.slice none 0 0))) := ext_put2 (g := s) HX6.out hs6 _ _
  
          refine hK.out _ _ (HK.out _ (HX7.out)) (fun hHeld => ?_)
          clear hK K
          (try simp only [Act.put, List.getElem_toArray, List.getElem_cons_zero, List.getElem_cons_succ, List.setIfInBounds_toArray, List.set_cons_zero, List.set_cons_succ])
          (refine wpAnyH_take (i := 12) (v := ?_) rfl (by kernel_rfl) (by kernel_rfl) (by kernel_rfl) (fun _ _ _ h => h) (Or.inl ⟨by rfl, ?_⟩) (by assumption) ?_; rotate_left; · (intro w hSw; (try dsimp only at hSw); go_simp; all_goals with_reducible rfl); (try simp only [Act.put, List.getElem_toArray, List.getElem_cons_zero, List.getElem_cons_succ, List.setIfInBounds_toArray, List.set_cons_zero, List.set_cons_succ]))
          (refine wpAnyH_done (by kernel_rfl) ?_ _)
          clear q0 q1 f0 f1 hHeld
          generalize (w6.setCell ⟨s, 0, none⟩ (.int .i64 0)).setCell ⟨s, 1, none⟩ (.slice none 0 0) = w7 at *
          have HG7 := Lib.hid (HG0.out.ext HX7.out)
          have HT7 := Lib.hid (HT.out.ext HX7.out)
          clear HX6 HB6 HX7 HCALL HK hs6 HG0 HT 
          obtain ⟨⟨c0, c1⟩, z0, z1⟩ := blk2 HG7.out.2.1
          go_wp2
          have HBB : Hid (Blk (put2 _ (w.heap.size + 1) (.int .i64 0) (.slice none 0 0)) (w.heap.size + 1) 35 #[.int .i64 0, .slice none 0 0]) := (HG7.out.2.1).put2 _ _
          refine bodyPost_ret (v := .tuple #[.agg #[.int .i64 0, .slice none 0 0], .bool false]) ?_ rfl ?_
          rotate_left
          · exact ⟨tabRes_none HNO.out rfl, ext_put2 (g := w.heap.size + 1) (HG7.out.2.2.2) (by omega) _ _⟩
          · exact ret_pair rfl _ _ _ _ _ _ _ rfl rfl HBB.out Try.underlying35 rfl Try.sizeTableauR
      | some rs' =>
        have HQ2 : Hid (tabN n (gs.take (k + 1)) = some rs') := by
          unfold Hid
          rw [tabN_step HG.out HQ.out]; exact ht
        have HM2 : Hid (rs'.length = m) := (tabG_len ht).trans HT.out.2.2.2.2
        have HTG := Lib.hid ht
        clear ht
        obtain ⟨⟨b0, b1⟩, -⟩ := HK.out wr (Ext.refl _)
        go_upto_region 7 with (fail)
        refine wp_region_held_drew (S := fun w' => (w'.cell? ⟨w.heap.size, 0, none⟩ = some (.int .i64 n) ∧ w'.cell? ⟨w.heap.size, 1, none⟩ = some (.slice (some ⟨b, o, none⟩) l c)) ∧ (w'.cell? ⟨b, o + k * 4, none⟩ = some (.int .i64 g.k) ∧ w'.cell? ⟨b, o + k * 4 + 1, none⟩ = some (.int .i64 g.a) ∧ w'.cell? ⟨b, o + k * 4 + 2, none⟩ = some (.int .i64 g.b) ∧ w'.cell? ⟨b, o + k * 4 + 3, none⟩ = some (.int .i64 g.c)) ∧ (w'.cell? ⟨q, 0, none⟩ = some (.int .i64 n) ∧ w'.cell? ⟨q, 1, none⟩ = some (.slice A' m c'))) (by kernel_rfl) (HK.out _ (Ext.refl wr).drew) (fun hHeld => ?_)
        clear b0 b1
        (refine wpAnyH_take (i := 0) (v := ?_) rfl (by kernel_rfl) (by kernel_rfl) (by kernel_rfl) (fun _ _ _ h => h) (Or.inl ⟨by rfl, ?_⟩) (by assumption) ?_; rotate_left; · (intro w hSw; (try dsimp only at hSw); go_simp; all_goals with_reducible rfl); (try simp only [Act.put, List.getElem_toArray, List.getElem_cons_zero, List.getElem_cons_succ, List.setIfInBounds_toArray, List.set_cons_zero, List.set_cons_succ]))
        (try simp only [Act.put, List.getElem_toArray, List.getElem_cons_zero, List.getElem_cons_succ, List.setIfInBounds_toArray, List.set_cons_zero, List.set_cons_succ])
        (refine wpAnyH_take (i := 1) (v := ?_) rfl (by kernel_rfl) (by kernel_rfl) (by kernel_rfl) (fun _ _ _ h => h) (Or.inl ⟨by rfl, ?_⟩) (by assumption) ?_; rotate_left; · (intro w hSw; (try dsimp only at hSw); go_simp; all_goals with_reducible rfl); (try simp only [Act.put, List.getElem_toArray, List.getElem_cons_zero, List.getElem_cons_succ, List.setIfInBounds_toArray, List.set_cons_zero, List.set_cons_succ]))
        (try simp only [Act.put, List.getElem_toArray, List.getElem_cons_zero, List.getElem_cons_succ, List.setIfInBounds_toArray, List.set_cons_zero, List.set_cons_succ])
        (refine wpAnyH_take (i := 2) (v := ?_) rfl (by kernel_rfl) (by kernel_rfl) (by kernel_rfl) (fun _ _ _ h => h) (Or.inl ⟨by rfl, ?_⟩) (by assumption) ?_; rotate_left; · (intro w hSw; (try dsimp only at hSw); go_simp; all_goals with_reducible rfl); (try simp only [Act.put, List.getElem_toArray, List.getElem_cons_zero, List.getElem_cons_succ, List.setIfInBounds_toArray, List.set_cons_zero, List.set_cons_succ]))
        (try simp only [Act.put, List.getElem_toArray, List.getElem_cons_zero, List.getElem_cons_succ, List.setIfInBounds_toArray, List.set_cons_zero, List.set_cons_succ])
        (refine wpAnyH_take (i := 3) (v := ?_) rfl (by kernel_rfl) (by kernel_rfl) (by kernel_rfl) (fun _ _ _ h => h) (Or.inl ⟨by rfl, ?_⟩) (by assumption) ?_; rotate_left; · (intro w hSw; (try dsimp only at hSw); go_simp; all_goals with_reducible rfl); (try simp only [Act.put, List.getElem_toArray, List.getElem_cons_zero, List.getElem_cons_succ, List.setIfInBounds_toArray, List.set_cons_zero, List.set_cons_succ]))
        (try simp only [Act.put, List.getElem_toArray, List.getElem_cons_zero, List.getElem_cons_succ, List.setIfInBounds_toArray, List.set_cons_zero, List.set_cons_succ])
        (refine wpAnyH_take (i := 4) (v := ?_) rfl (by kernel_rfl) (by kernel_rfl) (by kernel_rfl) (fun _ _ _ h => h) (Or.inl ⟨by rfl, ?_⟩) (by assumption) ?_; rotate_left; · (intro w hSw; (try dsimp only at hSw); go_simp; all_goals with_reducible rfl); (try simp only [Act.put, List.getElem_toArray, List.getElem_cons_zero, List.getElem_cons_succ, List.setIfInBounds_toArray, List.set_cons_zero, List.set_cons_succ]))
        (try simp only [Act.put, List.getElem_toArray, List.getElem_cons_zero, List.getElem_cons_succ, List.setIfInBounds_toArray, List.set_cons_zero, List.set_cons_succ])
        (refine wpAnyH_take (i := 5) (v := ?_) rfl (by kernel_rfl) (by kernel_rfl) (by kernel_rfl) (fun _ _ _ h => h) (Or.inl ⟨by rfl, ?_⟩) (by assumption) ?_; rotate_left; · (intro w hSw; (try dsimp only at hSw); go_simp; all_goals with_reducible rfl); (try simp only [Act.put, List.getElem_toArray, List.getElem_cons_zero, List.getElem_cons_succ, List.setIfInBounds_toArray, List.set_cons_zero, List.set_cons_succ]))
        (try simp only [Act.put, List.getElem_toArray, List.getElem_cons_zero, List.getElem_cons_succ, List.setIfInBounds_toArray, List.set_cons_zero, List.set_cons_succ])
        refine wpAnyH_ready (rs := [6, 10]) (by kernel_rfl) (by simp) ?_
        refine AllReadyH.cons rfl (fun K hK => ?_) (AllReadyH.cons rfl (fun K hK => ?_) AllReadyH.nil)
        · go_simp
          refine (HCALL.out _ (Ext.refl wr).drew).mono ?_
          rintro e v5 ⟨hres, hy5⟩
          obtain ⟨A2, c2, rfl, hr2, hc2⟩ := tabRes_get HTG.out HM2.out hres
          clear hres
          have HR2 : Hid (Rd v5 v5.heap.size 4 A2 m (pcells rs')) := hr2
          have HC2 : Hid (m ≤ c2) := hc2
          clear hr2 hc2
          have HY5 : Hid (Ext wr v5) := Ext.trans (Ext.refl wr).drew hy5
          clear hy5
          refine hK.out _ _ (HK.out _ (HY5.out)) (fun hHeld => ?_)
          clear hK K
          (try simp only [Act.put, List.getElem_toArray, List.getElem_cons_zero, List.getElem_cons_succ, List.setIfInBounds_toArray, List.set_cons_zero, List.set_cons_succ])
          (refine wpAnyH_take (i := 7) (v := ?_) rfl (by kernel_rfl) (by kernel_rfl) (by kernel_rfl) (fun _ _ _ h => h) (Or.inl ⟨by rfl, ?_⟩) (by assumption) ?_; rotate_left; · (intro w hSw; (try dsimp only at hSw); go_simp; all_goals with_reducible rfl); (try simp only [Act.put, List.getElem_toArray, List.getElem_cons_zero, List.getElem_cons_succ, List.setIfInBounds_toArray, List.set_cons_zero, List.set_cons_succ]))
          (try simp only [Act.put, List.getElem_toArray, List.getElem_cons_zero, List.getElem_cons_succ, List.setIfInBounds_toArray, List.set_cons_zero, List.set_cons_succ])
          (refine wpAnyH_take (i := 8) (v := ?_) rfl (by kernel_rfl) (by kernel_rfl) (by kernel_rfl) (fun _ _ _ h => h) (Or.inl ⟨by rfl, ?_⟩) (by assumption) ?_; rotate_left; · (intro w hSw; (try dsimp only at hSw); go_simp; all_goals with_reducible rfl); (try simp only [Act.put, List.getElem_toArray, List.getElem_cons_zero, List.getElem_cons_succ, List.setIfInBounds_toArray, List.set_cons_zero, List.set_cons_succ]))
          (try simp only [Act.put, List.getElem_toArray, List.getElem_cons_zero, List.getElem_cons_succ, List.setIfInBounds_toArray, List.set_cons_zero, List.set_cons_succ])
          (refine wpAnyH_take (i := 9) (v := ?_) rfl (by kernel_rfl) (by kernel_rfl) (by kernel_rfl) (fun _ _ _ h => h) (Or.inl ⟨by rfl, ?_⟩) (by assumption) ?_; rotate_left; · (intro w hSw; (try dsimp only at hSw); go_simp; all_goals with_reducible rfl); (try simp only [Act.put, List.getElem_toArray, List.getElem_cons_zero, List.getElem_cons_succ, List.setIfInBounds_toArray, List.set_cons_zero, List.set_cons_succ]))
          (try simp only [Act.put, List.getElem_toArray, List.getElem_cons_zero, List.getElem_cons_succ, List.setIfInBounds_toArray, List.set_cons_zero, List.set_cons_succ])
          refine wpAnyH_ready (rs := [10]) (by kernel_rfl) (by simp) ?_
          refine AllReadyH.cons rfl (fun K hK => ?_) AllReadyH.nil
          go_simp
          have HX6 : Hid (Ext wr (v5.alloc (.cells #[.int .i64 0, .slice none 0 0] 35))) := HY5.out.alloc _
          have HB6 : Hid (Blk (v5.alloc (.cells #[.int .i64 0, .slice none 0 0] 35)) v5.heap.size 35 #[.int .i64 0, .slice none 0 0]) := Blk.new _ _ _
          have HR6 := Lib.hid (HR2.out.ext ((Ext.refl _).alloc (.cells #[.int .i64 0, .slice none 0 0] 35)))
          have hs6 : wr.heap.size ≤ v5.heap.size := HY5.out.size
          refine hK.out _ _ (HK.out _ (HX6.out)) (fun hHeld => ?_)
          clear hK K
          (try simp only [Act.put, List.getElem_toArray, List.getElem_cons_zero, List.getElem_cons_succ, List.setIfInBounds_toArray, List.set_cons_zero, List.set_cons_succ])
          clear HR2
          generalize v5.alloc (.cells #[.int .i64 0, .slice none 0 0] 35) = w6 at *
          generalize v5.heap.size = s at *
          clear HY5
          refine wpAnyH_ready (rs := [11]) (by kernel_rfl) (by simp) ?_
          refine AllReadyH.cons rfl (fun K hK => ?_) AllReadyH.nil
          obtain ⟨⟨q0, q1⟩, f0, f1⟩ := blk2 HB6.out
          go_simp
          have HX7 : Hid (Ext wr ((w6.setCell ⟨s, 0, none⟩ (.int .i64 n)).setCell ⟨s, 1, none⟩ (.slice A2 m c2))) := ext_put2 (g := s) HX6.out hs6 _ _
          have HB7 : Hid (CT ((w6.setCell ⟨s, 0, none⟩ (.int .i64 n)).setCell ⟨s, 1, none⟩ (.slice A2 m c2)) n s A2 m c2 rs') := CT.fill HR6.out HC2.out hm8 HM2.out HB6.out
          refine hK.out _ _ (HK.out _ (HX7.out)) (fun hHeld => ?_)
          clear hK K
          (try simp only [Act.put, List.getElem_toArray, List.getElem_cons_zero, List.getElem_cons_succ, List.setIfInBounds_toArray, List.set_cons_zero, List.set_cons_succ])
          (refine wpAnyH_take (i := 12) (v := ?_) rfl (by kernel_rfl) (by kernel_rfl) (by kernel_rfl) (fun _ _ _ h => h) (Or.inl ⟨by rfl, ?_⟩) (by assumption) ?_; rotate_left; · (intro w hSw; (try dsimp only at hSw); go_simp; all_goals with_reducible rfl); (try simp only [Act.put, List.getElem_toArray, List.getElem_cons_zero, List.getElem_cons_succ, List.setIfInBounds_toArray, List.set_cons_zero, List.set_cons_succ]))
          (refine wpAnyH_done (by kernel_rfl) ?_ _)
          clear q0 q1 f0 f1 hHeld
          generalize (w6.setCell ⟨s, 0, none⟩ (.int .i64 n)).setCell ⟨s, 1, none⟩ (.slice A2 m c2) = w7 at *
          have HG7 := Lib.hid (HG0.out.ext HX7.out)
          have HT7 := Lib.hid (HT.out.ext HX7.out)
          clear HX6 HB6 HX7 HCALL HK hs6 HG0 HT HR6 HC2 HM2
          obtain ⟨⟨y0, y1⟩, -⟩ := blk2 HB7.out.1
          obtain ⟨⟨c0, c1⟩, z0, z1⟩ := blk2 HT7.out.1
          go_wp2
          have HT8 := Lib.hid (HB7.out.copy HT7.out.1)
          have HG8 := Lib.hid (HG7.out.put (.int .i64 n) (.slice A2 m c2))
          go_roundw
          case rel => exact ⟨k + 1, rs', A2, m, c2, by first | rfl | rw [hk1] | rw [hk2], by have := HLT.out; omega, HG8, HT8, HQ2⟩
          case measure => simp [intOf, hk2]; have := HLT.out; omega
        · go_simp
          refine hK.out _ _ (HK.out _ (((Ext.refl wr).alloc _).drew)) (fun hHeld => ?_)
          clear hK K
          (try simp only [Act.put, List.getElem_toArray, List.getElem_cons_zero, List.getElem_cons_succ, List.setIfInBounds_toArray, List.set_cons_zero, List.set_cons_succ])
          refine wpAnyH_ready (rs := [6]) (by kernel_rfl) (by simp) ?_
          refine AllReadyH.cons rfl (fun K hK => ?_) AllReadyH.nil
          go_simp
          refine (HCALL.out _ ((Ext.refl wr).alloc (.cells #[.int .i64 0, .slice none 0 0] 35)).drew).mono ?_
          rintro e w6 ⟨hres, hy5⟩
          obtain ⟨A2, c2, rfl, hr2, hc2⟩ := tabRes_get HTG.out HM2.out hres
          clear hres
          have HR2 : Hid (Rd w6 w6.heap.size 4 A2 m (pcells rs')) := hr2
          have HC2 : Hid (m ≤ c2) := hc2
          clear hr2 hc2
          have HX6 : Hid (Ext wr w6) := Ext.trans ((Ext.refl wr).alloc (.cells #[.int .i64 0, .slice none 0 0] 35)).drew hy5
          have HB6 : Hid (Blk w6 wr.heap.size 35 #[.int .i64 0, .slice none 0 0]) := ((Blk.new wr 35 #[.int .i64 0, .slice none 0 0]).ext ((Ext.refl _).drew)).ext hy5
          have HR6 := HR2
          have hs6 : wr.heap.size ≤ wr.heap.size := Nat.le_refl _
          clear hy5
          refine hK.out _ _ (HK.out _ (HX6.out)) (fun hHeld => ?_)
          clear hK K
          (try simp only [Act.put, List.getElem_toArray, List.getElem_cons_zero, List.getElem_cons_succ, List.setIfInBounds_toArray, List.set_cons_zero, List.set_cons_succ])
          (refine wpAnyH_take (i := 7) (v := ?_) rfl (by kernel_rfl) (by kernel_rfl) (by kernel_rfl) (fun _ _ _ h => h) (Or.inl ⟨by rfl, ?_⟩) (by assumption) ?_; rotate_left; · (intro w hSw; (try dsimp only at hSw); go_simp; all_goals with_reducible rfl); (try simp only [Act.put, List.getElem_toArray, List.getElem_cons_zero, List.getElem_cons_succ, List.setIfInBounds_toArray, List.set_cons_zero, List.set_cons_succ]))
          (try simp only [Act.put, List.getElem_toArray, List.getElem_cons_zero, List.getElem_cons_succ, List.setIfInBounds_toArray, List.set_cons_zero, List.set_cons_succ])
          (refine wpAnyH_take (i := 8) (v := ?_) rfl (by kernel_rfl) (by kernel_rfl) (by kernel_rfl) (fun _ _ _ h => h) (Or.inl ⟨by rfl, ?_⟩) (by assumption) ?_; rotate_left; · (intro w hSw; (try dsimp only at hSw); go_simp; all_goals with_reducible rfl); (try simp only [Act.put, List.getElem_toArray, List.getElem_cons_zero, List.getElem_cons_succ, List.setIfInBounds_toArray, List.set_cons_zero, List.set_cons_succ]))
          (try simp only [Act.put, List.getElem_toArray, List.getElem_cons_zero, List.getElem_cons_succ, List.setIfInBounds_toArray, List.set_cons_zero, List.set_cons_succ])
          (refine wpAnyH_take (i := 9) (v := ?_) rfl (by kernel_rfl) (by kernel_rfl) (by kernel_rfl) (fun _ _ _ h => h) (Or.inl ⟨by rfl, ?_⟩) (by assumption) ?_; rotate_left; · (intro w hSw; (try dsimp only at hSw); go_simp; all_goals with_reducible rfl); (try simp only [Act.put, List.getElem_toArray, List.getElem_cons_zero, List.getElem_cons_succ, List.setIfInBounds_toArray, List.set_cons_zero, List.set_cons_succ]))
          (try simp only [Act.put, List.getElem_toArray, List.getElem_cons_zero, List.getElem_cons_succ, List.setIfInBounds_toArray, List.set_cons_zero, List.set_cons_succ])
          clear HR2
          obtain ⟨s, hs⟩ : ∃ s, s = wr.heap.size := ⟨_, rfl⟩
          rw [← hs] at HB6 ⊢
          replace hs6 : wr.heap.size ≤ s := by rw [hs]; exact Nat.le_refl _
          clear hs
          refine wpAnyH_ready (rs := [11]) (by kernel_rfl) (by simp) ?_
          refine AllReadyH.cons rfl (fun K hK => ?_) AllReadyH.nil
          obtain ⟨⟨q0, q1⟩, f0, f1⟩ := blk2 HB6.out
          go_simp
          have HX7 : Hid (Ext wr ((w6.setCell ⟨s, 0, none⟩ (.int .i64 n)).setCell ⟨s, 1, none⟩ (.slice A2 m c2))) := ext_put2 (g := s) HX6.out hs6 _ _
          have HB7 : Hid (CT ((w6.setCell ⟨s, 0, none⟩ (.int .i64 n)).setCell ⟨s, 1, none⟩ (.slice A2 m c2)) n s A2 m c2 rs') := CT.fill HR6.out HC2.out hm8 HM2.out HB6.out
          refine hK.out _ _ (HK.out _ (HX7.out)) (fun hHeld => ?_)
          clear hK K
          (try simp only [Act.put, List.getElem_toArray, List.getElem_cons_zero, List.getElem_cons_succ, List.setIfInBounds_toArray, List.set_cons_zero, List.set_cons_succ])
          (refine wpAnyH_take (i := 12) (v := ?_) rfl (by kernel_rfl) (by kernel_rfl) (by kernel_rfl) (fun _ _ _ h => h) (Or.inl ⟨by rfl, ?_⟩) (by assumption) ?_; rotate_left; · (intro w hSw; (try dsimp only at hSw); go_simp; all_goals with_reducible rfl); (try simp only [Act.put, List.getElem_toArray, List.getElem_cons_zero, List.getElem_cons_succ, List.setIfInBounds_toArray, List.set_cons_zero, List.set_cons_succ]))
          (refine wpAnyH_done (by kernel_rfl) ?_ _)
          clear q0 q1 f0 f1 hHeld
          generalize (w6.setCell ⟨s, 0, none⟩ (.int .i64 n)).setCell ⟨s, 1, none⟩ (.slice A2 m c2) = w7 at *
          have HG7 := Lib.hid (HG0.out.ext HX7.out)
          have HT7 := Lib.hid (HT.out.ext HX7.out)
          clear HX6 HB6 HX7 HCALL HK hs6 HG0 HT HR6 HC2 HM2
          obtain ⟨⟨y0, y1⟩, -⟩ := blk2 HB7.out.1
          obtain ⟨⟨c0, c1⟩, z0, z1⟩ := blk2 HT7.out.1
          go_wp2
          have HT8 := Lib.hid (HB7.out.copy HT7.out.1)
          have HG8 := Lib.hid (HG7.out.put (.int .i64 n) (.slice A2 m c2))
          go_roundw
          case rel => exact ⟨k + 1, rs', A2, m, c2, by first | rfl | rw [hk1] | rw [hk2], by have := HLT.out; omega, HG8, HT8, HQ2⟩
          case measure => simp [intOf, hk2]; have := HLT.out; omega
    · have hkl : k = l := by omega
      have HYES : Hid (tabF n gs = some rs) := by
        unfold Hid
        rw [tabF_yes HV.out, ← HQ.out, hkl, ← HL.out, List.take_length]
      clear hkl
      obtain ⟨⟨c0, c1⟩, -⟩ := blk2 HT.out.1
      obtain ⟨⟨d0, d1⟩, f0, f1⟩ := blk2 HG0.out.2.1
      obtain ⟨⟨t0, t1⟩, -⟩ := blk2 HG0.out.1
      go_wp2
      have HBB : Hid (Blk (put2 wr (w.heap.size + 1) (.int .i64 n) (.slice A' m c')) (w.heap.size + 1) 35 #[.int .i64 n, .slice A' m c']) := HG0.out.2.1.put2 _ _
      refine bodyPost_ret (v := .tuple #[.agg #[.int .i64 n, .slice A' m c'], .bool true]) ?_ rfl ?_
      rotate_left
      · exact ⟨tabRes_some HYES.out rfl (HT.out.out HG0.out.2.1 _ _), ext_put2 (g := w.heap.size + 1) HG0.out.2.2.2 (by omega) _ _⟩
      · exact ret_pair rfl _ _ _ _ _ _ _ rfl rfl HBB.out Try.underlying35 rfl Try.sizeTableauR
end Go.Proofs.Ytcocabflinlbbaa
