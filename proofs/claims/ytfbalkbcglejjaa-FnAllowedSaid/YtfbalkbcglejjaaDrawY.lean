/-
  Helper text (no claim of its own): drawn gates and graphs of the laws on routing and orientation. Printed by gen_drawy.py.
-/
import Derived.Test.YtfbalkbcglejjaaDrawX
namespace Go.Proofs.Ytfbalkbcglejjaa
open Go.ChangeShapes Go.WideShapes Go.ChangeAt Go.RowKit Go.Deep
set_option linter.unusedVariables false
set_option linter.unusedSimpArgs false
set_option maxRecDepth 100000 in
set_option maxHeartbeats 16000000 in
theorem DrawRespectsGraph_any (Ab : Option Addr) (nb cb : Nat) (bs : List Int) (w : World) (h : Rd w w.heap.size 1 Ab nb (u8cs bs)) (hn : nb ≤ 1048576) :
    Calls Try.prog 20 #[.slice Ab nb cb] w (DrewTG w 455) := by
  go_enter Try.func20, Try.ntmps20
  go_wp2_with fail
  refine (l1New_any Ab nb cb bs _ (h.ext ((Ext.refl w).alloc _)) hn).mono ?_
  rintro e w1 ⟨rfl, hC1, hx1⟩
  have hB1 := (Blk.new w 27 #[.int .i64 0, .slice none 0 0]).ext hx1
  have hX1 : Ext w w1 := Ext.trans ((Ext.refl w).alloc _) hx1
  obtain ⟨g, hg⟩ : ∃ g, g = (w.alloc (.cells #[.int .i64 0, .slice none 0 0] 27)).heap.size := ⟨_, rfl⟩
  have hgr : g = w.heap.size + 1 := by rw [hg]; simp
  simp only [← hg] at hC1 ⊢
  have hgw : w.heap.size < g := by omega
  have HGR := Lib.hid hgr
  clear hg hgr hx1
  have hl1 := hC1.lt
  (try rw [← HGR.out])
  go_wp2_with fail
  refine (DrawLayoutCost_any Ab nb cb bs _ (h.ext hX1) hn).mono ?_
  rintro e w2 ⟨L, len, cap, gs, N, A, l, c, es, P, np, cp, p, rfl, hN, hlen, hll, hlp, hog, hoe, hop, hok, hx2⟩
  have HHOK := Lib.hid hok
  have hw12 : w.heap.size ≤ w1.heap.size := hX1.size
  have hB2 := hB1.ext hx2
  have hl2 := hB2.lt
  have hT3 : TG w (w2.alloc (.cells #[.int .i64 N, .slice A l c] 27)) w.heap.size w2.heap.size N A l c es :=
    ⟨(hX1.trans hx2).alloc _, hB2.alloc _, Blk.new _ _ _, own_ext (own_base hoe hw12) ((Ext.refl w2).alloc _), Nat.le_refl _, by omega⟩
  have hog3 := own_ext (own_base hog hw12) ((Ext.refl w2).alloc (.cells #[.int .i64 N, .slice A l c] 27))
  have HP3 := Lib.hid (own_ext (own_base hop hw12) ((Ext.refl w2).alloc (.cells #[.int .i64 N, .slice A l c] 27)))
  clear hop
  have hC3 := (hC1.ext hx2).alloc (.cells #[.int .i64 N, .slice A l c] 27)
  have hg2 : g < w2.heap.size := (hC1.ext hx2).lt
  clear hok hB1 hX1 hl1 hC1 hoe hog hB2 hx2
  go_upto_region 3 with (fail)
  generalize (w2.alloc (.cells #[.int .i64 N, .slice A l c] 27)) = w3 at *
  generalize w2.heap.size = q at *
  have HT3 := Lib.hid hT3
  have HO3 := Lib.hid hog3
  have hgl := hT3.gr.2
  have hgs := (Rd.own hog3).len Gt.cells_len (by omega)
  have hw3 : w.heap.size ≤ w3.heap.size := hT3.1.size
  obtain ⟨⟨b0, b1⟩, z0, z1⟩ := blk2 hT3.2.2.1
  clear hT3 hog3
  go_wp2_with fail
  refine (spec_RouteGates_any L len cap gs _ ⟨N, es⟩ P np cp p _ (Rd.own HO3.out) (by omega) HT3.out.gr.1 (by simp; omega) (Rd.own HP3.out) (by omega) (own_le HP3.out)).mono ?_
  rintro e w4 ⟨v1, v2, f, out, rfl, hol, ho4, hx4⟩
  obtain ⟨L4, c4, rfl, _⟩ := own_slice ho4
  clear HP3
  have HT4 := Lib.hid (HT3.out.ext hx4)
  have HO4 := Lib.hid (own_ext HO3.out hx4)
  have HQ4 := Lib.hid (own_base ho4 hw3)
  have hC4 := hC3.ext hx4
  clear HT3 HO3 hC3 hx4 ho4 b0 b1 z0 z1 hw3 hgl hgs
  obtain ⟨⟨b0, b1⟩, z0, z1⟩ := blk2 HT4.out.2.2.1
  obtain ⟨⟨a0, a1⟩, y0, y1⟩ := blk2 HT4.out.2.1
  cases f
  · go_wp2
    refine wp_region_held_drew (S := fun W => W.cell? ⟨q, 0, none⟩ = some (.int .i64 N) ∧ W.cell? ⟨q, 1, none⟩ = some (.slice A l c)) (by kernel_rfl) ⟨HT4.out.2.2.1.cell 0, HT4.out.2.2.1.cell 1⟩ (fun hHeld => ?_)
    (refine wpAnyH_take (i := 0) (v := ?_) rfl (by kernel_rfl) (by kernel_rfl) (by kernel_rfl) (fun _ _ _ h => h) (Or.inl ⟨by rfl, ?_⟩) (by assumption) ?_; rotate_left; · (intro w hSw; (try dsimp only at hSw); go_simp; all_goals with_reducible rfl); (try simp only [Act.put, List.getElem_toArray, List.getElem_cons_zero, List.getElem_cons_succ, List.setIfInBounds_toArray, List.set_cons_zero, List.set_cons_succ]))
    (try simp only [Act.put, List.getElem_toArray, List.getElem_cons_zero, List.getElem_cons_succ, List.setIfInBounds_toArray, List.set_cons_zero, List.set_cons_succ])
    (refine wpAnyH_take (i := 1) (v := ?_) rfl (by kernel_rfl) (by kernel_rfl) (by kernel_rfl) (fun _ _ _ h => h) (Or.inl ⟨by rfl, ?_⟩) (by assumption) ?_; rotate_left; · (intro w hSw; (try dsimp only at hSw); go_simp; all_goals with_reducible rfl); (try simp only [Act.put, List.getElem_toArray, List.getElem_cons_zero, List.getElem_cons_succ, List.setIfInBounds_toArray, List.set_cons_zero, List.set_cons_succ]))
    (try simp only [Act.put, List.getElem_toArray, List.getElem_cons_zero, List.getElem_cons_succ, List.setIfInBounds_toArray, List.set_cons_zero, List.set_cons_succ])
    (refine wpAnyH_take (i := 2) (v := ?_) rfl (by kernel_rfl) (by kernel_rfl) (by kernel_rfl) (fun _ _ _ h => h) (Or.inl ⟨by rfl, ?_⟩) (by assumption) ?_; rotate_left; · (intro w hSw; (try dsimp only at hSw); go_simp; all_goals with_reducible rfl); (try simp only [Act.put, List.getElem_toArray, List.getElem_cons_zero, List.getElem_cons_succ, List.setIfInBounds_toArray, List.set_cons_zero, List.set_cons_succ]))
    (try simp only [Act.put, List.getElem_toArray, List.getElem_cons_zero, List.getElem_cons_succ, List.setIfInBounds_toArray, List.set_cons_zero, List.set_cons_succ])
    refine wpAnyH_ready (rs := [3]) (by kernel_rfl) (by simp) ?_
    refine AllReadyH.cons rfl (fun K hK => ?_) AllReadyH.nil
    go_simp
    refine hK.out _ _ HT4.out.keep (fun hHeld => ?_)
    clear hK K
    (try simp only [Act.put, List.getElem_toArray, List.getElem_cons_zero, List.getElem_cons_succ, List.setIfInBounds_toArray, List.set_cons_zero, List.set_cons_succ])
    (refine wpAnyH_done (by kernel_rfl) ?_ _)
    clear hHeld a0 a1 y0 y1 b0 b1 z0 z1
    obtain ⟨⟨q0, q1⟩, e1, e2⟩ := HT4.out.fin
    have e3 := HT4.out.rows HO4.out graphgate_ne
    generalize World.drew _ = W2 at q0 q1 e1 e2 e3 ⊢
    go_wp2
    exact bodyPost_ret (v := .tuple #[.slice _ _ _, .agg #[.int .i64 N, .slice _ _ _]]) (by simp [results, Try.results20, go_sem, q0, q1]) rfl (DrewTG.mk _ _ _ _ _ _ _ _ _ hN (by omega) hll e3 e1 HHOK.out e2)
  · clear b0 b1 z0 z1 a0 a1 y0 y1
    go_wp2_with fail
    refine (l1Once_any g 3 _ hC4 (by omega)).mono ?_
    rintro e w5 ⟨f2, rfl, hC5, hG5⟩
    have HT5 := Lib.hid (HT4.out.grown hC4 hG5 (by omega) (by omega) (by omega))
    have HO5 := Lib.hid (own_cur HO4.out hC4 curgate_ne hG5)
    have HQ5 := Lib.hid (own_cur HQ4.out hC4 curgate_ne hG5)
    clear HT4 HO4 HQ4 hC4 hG5
    obtain ⟨⟨b0, b1⟩, z0, z1⟩ := blk2 HT5.out.2.2.1
    obtain ⟨⟨a0, a1⟩, y0, y1⟩ := blk2 HT5.out.2.1
    cases f2
    · go_wp2
      refine wp_region_held_drew (S := fun W => W.cell? ⟨q, 0, none⟩ = some (.int .i64 N) ∧ W.cell? ⟨q, 1, none⟩ = some (.slice A l c)) (by kernel_rfl) ⟨HT5.out.2.2.1.cell 0, HT5.out.2.2.1.cell 1⟩ (fun hHeld => ?_)
      (refine wpAnyH_take (i := 0) (v := ?_) rfl (by kernel_rfl) (by kernel_rfl) (by kernel_rfl) (fun _ _ _ h => h) (Or.inl ⟨by rfl, ?_⟩) (by assumption) ?_; rotate_left; · (intro w hSw; (try dsimp only at hSw); go_simp; all_goals with_reducible rfl); (try simp only [Act.put, List.getElem_toArray, List.getElem_cons_zero, List.getElem_cons_succ, List.setIfInBounds_toArray, List.set_cons_zero, List.set_cons_succ]))
      (try simp only [Act.put, List.getElem_toArray, List.getElem_cons_zero, List.getElem_cons_succ, List.setIfInBounds_toArray, List.set_cons_zero, List.set_cons_succ])
      (refine wpAnyH_take (i := 1) (v := ?_) rfl (by kernel_rfl) (by kernel_rfl) (by kernel_rfl) (fun _ _ _ h => h) (Or.inl ⟨by rfl, ?_⟩) (by assumption) ?_; rotate_left; · (intro w hSw; (try dsimp only at hSw); go_simp; all_goals with_reducible rfl); (try simp only [Act.put, List.getElem_toArray, List.getElem_cons_zero, List.getElem_cons_succ, List.setIfInBounds_toArray, List.set_cons_zero, List.set_cons_succ]))
      (try simp only [Act.put, List.getElem_toArray, List.getElem_cons_zero, List.getElem_cons_succ, List.setIfInBounds_toArray, List.set_cons_zero, List.set_cons_succ])
      (refine wpAnyH_take (i := 2) (v := ?_) rfl (by kernel_rfl) (by kernel_rfl) (by kernel_rfl) (fun _ _ _ h => h) (Or.inl ⟨by rfl, ?_⟩) (by assumption) ?_; rotate_left; · (intro w hSw; (try dsimp only at hSw); go_simp; all_goals with_reducible rfl); (try simp only [Act.put, List.getElem_toArray, List.getElem_cons_zero, List.getElem_cons_succ, List.setIfInBounds_toArray, List.set_cons_zero, List.set_cons_succ]))
      (try simp only [Act.put, List.getElem_toArray, List.getElem_cons_zero, List.getElem_cons_succ, List.setIfInBounds_toArray, List.set_cons_zero, List.set_cons_succ])
      refine wpAnyH_ready (rs := [3]) (by kernel_rfl) (by simp) ?_
      refine AllReadyH.cons rfl (fun K hK => ?_) AllReadyH.nil
      go_simp
      refine hK.out _ _ HT5.out.keep (fun hHeld => ?_)
      clear hK K
      (try simp only [Act.put, List.getElem_toArray, List.getElem_cons_zero, List.getElem_cons_succ, List.setIfInBounds_toArray, List.set_cons_zero, List.set_cons_succ])
      (refine wpAnyH_done (by kernel_rfl) ?_ _)
      clear hHeld a0 a1 y0 y1 b0 b1 z0 z1
      obtain ⟨⟨q0, q1⟩, e1, e2⟩ := HT5.out.fin
      have e3 := HT5.out.rows HQ5.out graphgate_ne
      generalize World.drew _ = W2 at q0 q1 e1 e2 e3 ⊢
      go_wp2
      exact bodyPost_ret (v := .tuple #[.slice _ _ _, .agg #[.int .i64 N, .slice _ _ _]]) (by simp [results, Try.results20, go_sem, q0, q1]) rfl (DrewTG.mk _ _ _ _ _ _ _ _ _ hN (by omega) hll e3 e1 HHOK.out e2)
    · go_wp2
      refine wp_region_held_drew (S := fun W => W.cell? ⟨q, 0, none⟩ = some (.int .i64 N) ∧ W.cell? ⟨q, 1, none⟩ = some (.slice A l c)) (by kernel_rfl) ⟨HT5.out.2.2.1.cell 0, HT5.out.2.2.1.cell 1⟩ (fun hHeld => ?_)
      (refine wpAnyH_take (i := 0) (v := ?_) rfl (by kernel_rfl) (by kernel_rfl) (by kernel_rfl) (fun _ _ _ h => h) (Or.inl ⟨by rfl, ?_⟩) (by assumption) ?_; rotate_left; · (intro w hSw; (try dsimp only at hSw); go_simp; all_goals with_reducible rfl); (try simp only [Act.put, List.getElem_toArray, List.getElem_cons_zero, List.getElem_cons_succ, List.setIfInBounds_toArray, List.set_cons_zero, List.set_cons_succ]))
      (try simp only [Act.put, List.getElem_toArray, List.getElem_cons_zero, List.getElem_cons_succ, List.setIfInBounds_toArray, List.set_cons_zero, List.set_cons_succ])
      (refine wpAnyH_take (i := 1) (v := ?_) rfl (by kernel_rfl) (by kernel_rfl) (by kernel_rfl) (fun _ _ _ h => h) (Or.inl ⟨by rfl, ?_⟩) (by assumption) ?_; rotate_left; · (intro w hSw; (try dsimp only at hSw); go_simp; all_goals with_reducible rfl); (try simp only [Act.put, List.getElem_toArray, List.getElem_cons_zero, List.getElem_cons_succ, List.setIfInBounds_toArray, List.set_cons_zero, List.set_cons_succ]))
      (try simp only [Act.put, List.getElem_toArray, List.getElem_cons_zero, List.getElem_cons_succ, List.setIfInBounds_toArray, List.set_cons_zero, List.set_cons_succ])
      (refine wpAnyH_take (i := 2) (v := ?_) rfl (by kernel_rfl) (by kernel_rfl) (by kernel_rfl) (fun _ _ _ h => h) (Or.inl ⟨by rfl, ?_⟩) (by assumption) ?_; rotate_left; · (intro w hSw; (try dsimp only at hSw); go_simp; all_goals with_reducible rfl); (try simp only [Act.put, List.getElem_toArray, List.getElem_cons_zero, List.getElem_cons_succ, List.setIfInBounds_toArray, List.set_cons_zero, List.set_cons_succ]))
      (try simp only [Act.put, List.getElem_toArray, List.getElem_cons_zero, List.getElem_cons_succ, List.setIfInBounds_toArray, List.set_cons_zero, List.set_cons_succ])
      refine wpAnyH_ready (rs := [3]) (by kernel_rfl) (by simp) ?_
      refine AllReadyH.cons rfl (fun K hK => ?_) AllReadyH.nil
      go_simp
      refine hK.out _ _ HT5.out.keep (fun hHeld => ?_)
      clear hK K
      (try simp only [Act.put, List.getElem_toArray, List.getElem_cons_zero, List.getElem_cons_succ, List.setIfInBounds_toArray, List.set_cons_zero, List.set_cons_succ])
      (refine wpAnyH_done (by kernel_rfl) ?_ _)
      clear hHeld a0 a1 y0 y1 b0 b1 z0 z1
      obtain ⟨⟨q0, q1⟩, e1, e2⟩ := HT5.out.fin
      have e3 := HT5.out.rows HO5.out graphgate_ne
      generalize World.drew _ = W2 at q0 q1 e1 e2 e3 ⊢
      go_wp2
      exact bodyPost_ret (v := .tuple #[.slice _ _ _, .agg #[.int .i64 N, .slice _ _ _]]) (by simp [results, Try.results20, go_sem, q0, q1]) rfl (DrewTG.mk _ _ _ _ _ _ _ _ _ hN (by omega) hll e3 e1 HHOK.out e2)
set_option maxRecDepth 100000 in
set_option maxHeartbeats 16000000 in
theorem DrawIsExecutable_any (Ab : Option Addr) (nb cb : Nat) (bs : List Int) (w : World) (h : Rd w w.heap.size 1 Ab nb (u8cs bs)) (hn : nb ≤ 1048576) :
    Calls Try.prog 6 #[.slice Ab nb cb] w (DrewTG w 34125) := by
  go_enter Try.func6, Try.ntmps6
  go_wp2_with fail
  refine (l1New_any Ab nb cb bs _ (h.ext ((Ext.refl w).alloc _)) hn).mono ?_
  rintro e w1 ⟨rfl, hC1, hx1⟩
  have hB1 := (Blk.new w 27 #[.int .i64 0, .slice none 0 0]).ext hx1
  have hX1 : Ext w w1 := Ext.trans ((Ext.refl w).alloc _) hx1
  obtain ⟨g, hg⟩ : ∃ g, g = (w.alloc (.cells #[.int .i64 0, .slice none 0 0] 27)).heap.size := ⟨_, rfl⟩
  have hgr : g = w.heap.size + 1 := by rw [hg]; simp
  simp only [← hg] at hC1 ⊢
  have hgw : w.heap.size < g := by omega
  have HGR := Lib.hid hgr
  clear hg hgr hx1
  have hl1 := hC1.lt
  (try rw [← HGR.out])
  go_wp2_with fail
  refine (DrawRespectsGraph_any Ab nb cb bs _ (h.ext hX1) hn).mono ?_
  rintro e w2 ⟨L, len, cap, gs, N, A, l, c, es, rfl, hN, hlen, hll, hog, hoe, hok, hx2⟩
  have HHOK := Lib.hid hok
  have hw12 : w.heap.size ≤ w1.heap.size := hX1.size
  have hB2 := hB1.ext hx2
  have hl2 := hB2.lt
  have hT3 : TG w (w2.alloc (.cells #[.int .i64 N, .slice A l c] 27)) w.heap.size w2.heap.size N A l c es :=
    ⟨(hX1.trans hx2).alloc _, hB2.alloc _, Blk.new _ _ _, own_ext (own_base hoe hw12) ((Ext.refl w2).alloc _), Nat.le_refl _, by omega⟩
  have hog3 := own_ext (own_base hog hw12) ((Ext.refl w2).alloc (.cells #[.int .i64 N, .slice A l c] 27))
  have hC3 := (hC1.ext hx2).alloc (.cells #[.int .i64 N, .slice A l c] 27)
  have hg2 : g < w2.heap.size := (hC1.ext hx2).lt
  clear hok hB1 hX1 hl1 hC1 hoe hog hB2 hx2
  go_upto_region 3 with (fail)
  generalize (w2.alloc (.cells #[.int .i64 N, .slice A l c] 27)) = w3 at *
  generalize w2.heap.size = q at *
  have HT3 := Lib.hid hT3
  have HO3 := Lib.hid hog3
  have hgl := hT3.gr.2
  have hgs := (Rd.own hog3).len Gt.cells_len (by omega)
  have hw3 : w.heap.size ≤ w3.heap.size := hT3.1.size
  obtain ⟨⟨b0, b1⟩, z0, z1⟩ := blk2 hT3.2.2.1
  clear hT3 hog3
  go_wp2_with fail
  refine (spec_OrientGates_any L len cap gs _ ⟨N, es⟩ _ (Rd.own HO3.out) HT3.out.gr.1 (by omega) (by simp; omega)).mono ?_
  rintro e w4 ⟨v1, rfl, ho4, hx4⟩
  have hol := oriAll_len ⟨N, es⟩ gs
  rw [hgs] at hol
  obtain ⟨L4, c4, rfl, _⟩ := own_slice ho4
  generalize oriAll ⟨N, es⟩ gs = out at *
  generalize oriAllOk ⟨N, es⟩ gs = f at *
  have HT4 := Lib.hid (HT3.out.ext hx4)
  have HO4 := Lib.hid (own_ext HO3.out hx4)
  have HQ4 := Lib.hid (own_base ho4 hw3)
  have hC4 := hC3.ext hx4
  clear HT3 HO3 hC3 hx4 ho4 b0 b1 z0 z1 hw3 hgl hgs
  obtain ⟨⟨b0, b1⟩, z0, z1⟩ := blk2 HT4.out.2.2.1
  obtain ⟨⟨a0, a1⟩, y0, y1⟩ := blk2 HT4.out.2.1
  cases f
  · go_wp2
    refine wp_region_held_drew (S := fun W => W.cell? ⟨q, 0, none⟩ = some (.int .i64 N) ∧ W.cell? ⟨q, 1, none⟩ = some (.slice A l c)) (by kernel_rfl) ⟨HT4.out.2.2.1.cell 0, HT4.out.2.2.1.cell 1⟩ (fun hHeld => ?_)
    (refine wpAnyH_take (i := 0) (v := ?_) rfl (by kernel_rfl) (by kernel_rfl) (by kernel_rfl) (fun _ _ _ h => h) (Or.inl ⟨by rfl, ?_⟩) (by assumption) ?_; rotate_left; · (intro w hSw; (try dsimp only at hSw); go_simp; all_goals with_reducible rfl); (try simp only [Act.put, List.getElem_toArray, List.getElem_cons_zero, List.getElem_cons_succ, List.setIfInBounds_toArray, List.set_cons_zero, List.set_cons_succ]))
    (try simp only [Act.put, List.getElem_toArray, List.getElem_cons_zero, List.getElem_cons_succ, List.setIfInBounds_toArray, List.set_cons_zero, List.set_cons_succ])
    (refine wpAnyH_take (i := 1) (v := ?_) rfl (by kernel_rfl) (by kernel_rfl) (by kernel_rfl) (fun _ _ _ h => h) (Or.inl ⟨by rfl, ?_⟩) (by assumption) ?_; rotate_left; · (intro w hSw; (try dsimp only at hSw); go_simp; all_goals with_reducible rfl); (try simp only [Act.put, List.getElem_toArray, List.getElem_cons_zero, List.getElem_cons_succ, List.setIfInBounds_toArray, List.set_cons_zero, List.set_cons_succ]))
    (try simp only [Act.put, List.getElem_toArray, List.getElem_cons_zero, List.getElem_cons_succ, List.setIfInBounds_toArray, List.set_cons_zero, List.set_cons_succ])
    (refine wpAnyH_take (i := 2) (v := ?_) rfl (by kernel_rfl) (by kernel_rfl) (by kernel_rfl) (fun _ _ _ h => h) (Or.inl ⟨by rfl, ?_⟩) (by assumption) ?_; rotate_left; · (intro w hSw; (try dsimp only at hSw); go_simp; all_goals with_reducible rfl); (try simp only [Act.put, List.getElem_toArray, List.getElem_cons_zero, List.getElem_cons_succ, List.setIfInBounds_toArray, List.set_cons_zero, List.set_cons_succ]))
    (try simp only [Act.put, List.getElem_toArray, List.getElem_cons_zero, List.getElem_cons_succ, List.setIfInBounds_toArray, List.set_cons_zero, List.set_cons_succ])
    refine wpAnyH_ready (rs := [3]) (by kernel_rfl) (by simp) ?_
    refine AllReadyH.cons rfl (fun K hK => ?_) AllReadyH.nil
    go_simp
    refine hK.out _ _ HT4.out.keep (fun hHeld => ?_)
    clear hK K
    (try simp only [Act.put, List.getElem_toArray, List.getElem_cons_zero, List.getElem_cons_succ, List.setIfInBounds_toArray, List.set_cons_zero, List.set_cons_succ])
    (refine wpAnyH_done (by kernel_rfl) ?_ _)
    clear hHeld a0 a1 y0 y1 b0 b1 z0 z1
    obtain ⟨⟨q0, q1⟩, e1, e2⟩ := HT4.out.fin
    have e3 := HT4.out.rows HO4.out graphgate_ne
    generalize World.drew _ = W2 at q0 q1 e1 e2 e3 ⊢
    go_wp2
    exact bodyPost_ret (v := .tuple #[.slice _ _ _, .agg #[.int .i64 N, .slice _ _ _]]) (by simp [results, Try.results6, go_sem, q0, q1]) rfl (DrewTG.mk _ _ _ _ _ _ _ _ _ hN (by omega) hll e3 e1 HHOK.out e2)
  · clear b0 b1 z0 z1 a0 a1 y0 y1
    go_wp2_with fail
    refine (l1Once_any g 3 _ hC4 (by omega)).mono ?_
    rintro e w5 ⟨f2, rfl, hC5, hG5⟩
    have HT5 := Lib.hid (HT4.out.grown hC4 hG5 (by omega) (by omega) (by omega))
    have HO5 := Lib.hid (own_cur HO4.out hC4 curgate_ne hG5)
    have HQ5 := Lib.hid (own_cur HQ4.out hC4 curgate_ne hG5)
    clear HT4 HO4 HQ4 hC4 hG5
    obtain ⟨⟨b0, b1⟩, z0, z1⟩ := blk2 HT5.out.2.2.1
    obtain ⟨⟨a0, a1⟩, y0, y1⟩ := blk2 HT5.out.2.1
    cases f2
    · go_wp2
      refine wp_region_held_drew (S := fun W => W.cell? ⟨q, 0, none⟩ = some (.int .i64 N) ∧ W.cell? ⟨q, 1, none⟩ = some (.slice A l c)) (by kernel_rfl) ⟨HT5.out.2.2.1.cell 0, HT5.out.2.2.1.cell 1⟩ (fun hHeld => ?_)
      (refine wpAnyH_take (i := 0) (v := ?_) rfl (by kernel_rfl) (by kernel_rfl) (by kernel_rfl) (fun _ _ _ h => h) (Or.inl ⟨by rfl, ?_⟩) (by assumption) ?_; rotate_left; · (intro w hSw; (try dsimp only at hSw); go_simp; all_goals with_reducible rfl); (try simp only [Act.put, List.getElem_toArray, List.getElem_cons_zero, List.getElem_cons_succ, List.setIfInBounds_toArray, List.set_cons_zero, List.set_cons_succ]))
      (try simp only [Act.put, List.getElem_toArray, List.getElem_cons_zero, List.getElem_cons_succ, List.setIfInBounds_toArray, List.set_cons_zero, List.set_cons_succ])
      (refine wpAnyH_take (i := 1) (v := ?_) rfl (by kernel_rfl) (by kernel_rfl) (by kernel_rfl) (fun _ _ _ h => h) (Or.inl ⟨by rfl, ?_⟩) (by assumption) ?_; rotate_left; · (intro w hSw; (try dsimp only at hSw); go_simp; all_goals with_reducible rfl); (try simp only [Act.put, List.getElem_toArray, List.getElem_cons_zero, List.getElem_cons_succ, List.setIfInBounds_toArray, List.set_cons_zero, List.set_cons_succ]))
      (try simp only [Act.put, List.getElem_toArray, List.getElem_cons_zero, List.getElem_cons_succ, List.setIfInBounds_toArray, List.set_cons_zero, List.set_cons_succ])
      (refine wpAnyH_take (i := 2) (v := ?_) rfl (by kernel_rfl) (by kernel_rfl) (by kernel_rfl) (fun _ _ _ h => h) (Or.inl ⟨by rfl, ?_⟩) (by assumption) ?_; rotate_left; · (intro w hSw; (try dsimp only at hSw); go_simp; all_goals with_reducible rfl); (try simp only [Act.put, List.getElem_toArray, List.getElem_cons_zero, List.getElem_cons_succ, List.setIfInBounds_toArray, List.set_cons_zero, List.set_cons_succ]))
      (try simp only [Act.put, List.getElem_toArray, List.getElem_cons_zero, List.getElem_cons_succ, List.setIfInBounds_toArray, List.set_cons_zero, List.set_cons_succ])
      refine wpAnyH_ready (rs := [3]) (by kernel_rfl) (by simp) ?_
      refine AllReadyH.cons rfl (fun K hK => ?_) AllReadyH.nil
      go_simp
      refine hK.out _ _ HT5.out.keep (fun hHeld => ?_)
      clear hK K
      (try simp only [Act.put, List.getElem_toArray, List.getElem_cons_zero, List.getElem_cons_succ, List.setIfInBounds_toArray, List.set_cons_zero, List.set_cons_succ])
      (refine wpAnyH_done (by kernel_rfl) ?_ _)
      clear hHeld a0 a1 y0 y1 b0 b1 z0 z1
      obtain ⟨⟨q0, q1⟩, e1, e2⟩ := HT5.out.fin
      have e3 := HT5.out.rows HQ5.out graphgate_ne
      generalize World.drew _ = W2 at q0 q1 e1 e2 e3 ⊢
      go_wp2
      exact bodyPost_ret (v := .tuple #[.slice _ _ _, .agg #[.int .i64 N, .slice _ _ _]]) (by simp [results, Try.results6, go_sem, q0, q1]) rfl (DrewTG.mk _ _ _ _ _ _ _ _ _ hN (by omega) hll e3 e1 HHOK.out e2)
    · go_wp2
      refine wp_region_held_drew (S := fun W => W.cell? ⟨q, 0, none⟩ = some (.int .i64 N) ∧ W.cell? ⟨q, 1, none⟩ = some (.slice A l c)) (by kernel_rfl) ⟨HT5.out.2.2.1.cell 0, HT5.out.2.2.1.cell 1⟩ (fun hHeld => ?_)
      (refine wpAnyH_take (i := 0) (v := ?_) rfl (by kernel_rfl) (by kernel_rfl) (by kernel_rfl) (fun _ _ _ h => h) (Or.inl ⟨by rfl, ?_⟩) (by assumption) ?_; rotate_left; · (intro w hSw; (try dsimp only at hSw); go_simp; all_goals with_reducible rfl); (try simp only [Act.put, List.getElem_toArray, List.getElem_cons_zero, List.getElem_cons_succ, List.setIfInBounds_toArray, List.set_cons_zero, List.set_cons_succ]))
      (try simp only [Act.put, List.getElem_toArray, List.getElem_cons_zero, List.getElem_cons_succ, List.setIfInBounds_toArray, List.set_cons_zero, List.set_cons_succ])
      (refine wpAnyH_take (i := 1) (v := ?_) rfl (by kernel_rfl) (by kernel_rfl) (by kernel_rfl) (fun _ _ _ h => h) (Or.inl ⟨by rfl, ?_⟩) (by assumption) ?_; rotate_left; · (intro w hSw; (try dsimp only at hSw); go_simp; all_goals with_reducible rfl); (try simp only [Act.put, List.getElem_toArray, List.getElem_cons_zero, List.getElem_cons_succ, List.setIfInBounds_toArray, List.set_cons_zero, List.set_cons_succ]))
      (try simp only [Act.put, List.getElem_toArray, List.getElem_cons_zero, List.getElem_cons_succ, List.setIfInBounds_toArray, List.set_cons_zero, List.set_cons_succ])
      (refine wpAnyH_take (i := 2) (v := ?_) rfl (by kernel_rfl) (by kernel_rfl) (by kernel_rfl) (fun _ _ _ h => h) (Or.inl ⟨by rfl, ?_⟩) (by assumption) ?_; rotate_left; · (intro w hSw; (try dsimp only at hSw); go_simp; all_goals with_reducible rfl); (try simp only [Act.put, List.getElem_toArray, List.getElem_cons_zero, List.getElem_cons_succ, List.setIfInBounds_toArray, List.set_cons_zero, List.set_cons_succ]))
      (try simp only [Act.put, List.getElem_toArray, List.getElem_cons_zero, List.getElem_cons_succ, List.setIfInBounds_toArray, List.set_cons_zero, List.set_cons_succ])
      refine wpAnyH_ready (rs := [3]) (by kernel_rfl) (by simp) ?_
      refine AllReadyH.cons rfl (fun K hK => ?_) AllReadyH.nil
      go_simp
      refine hK.out _ _ HT5.out.keep (fun hHeld => ?_)
      clear hK K
      (try simp only [Act.put, List.getElem_toArray, List.getElem_cons_zero, List.getElem_cons_succ, List.setIfInBounds_toArray, List.set_cons_zero, List.set_cons_succ])
      (refine wpAnyH_done (by kernel_rfl) ?_ _)
      clear hHeld a0 a1 y0 y1 b0 b1 z0 z1
      obtain ⟨⟨q0, q1⟩, e1, e2⟩ := HT5.out.fin
      have e3 := HT5.out.rows HO5.out graphgate_ne
      generalize World.drew _ = W2 at q0 q1 e1 e2 e3 ⊢
      go_wp2
      exact bodyPost_ret (v := .tuple #[.slice _ _ _, .agg #[.int .i64 N, .slice _ _ _]]) (by simp [results, Try.results6, go_sem, q0, q1]) rfl (DrewTG.mk _ _ _ _ _ _ _ _ _ hN (by omega) hll e3 e1 HHOK.out e2)
end Go.Proofs.Ytfbalkbcglejjaa
