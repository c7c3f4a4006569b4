/-
  Helper text (no claim of its own): a compiled result read out of a text, by the program. Printed by gen_ipc.py.
-/
import Derived.Test.YteecjnnompjmiacGreatDoorPcp
namespace Go.Proofs.YteecjnnompjmiacGreatDoor
open Go.ChangeShapes Go.WideShapes Go.ChangeAt Go.RowKit Go.Deep
set_option linter.unusedVariables false
set_option linter.unusedSimpArgs false
set_option maxRecDepth 100000 in
set_option maxHeartbeats 8000000 in
theorem impl_ParseCompiled_any (s : ByteArray) (hs : s.size ≤ 1048576) (w : World) (hw : PW w) : Calls Tryz.prog 5 #[.string s] w fun e w' => CompRes s w.heap.size e w' ∧ Ext w w' := by
  have HPW := Lib.hid hw
  clear hw
  go_enter Tryz.func5, Tryz.ntmps5
  go_wp2_with fail
  refine (impl_SplitByte_any s 10 10 rfl _ (HPW.out.ext (by repeat (first | exact Ext.refl _ | assumption | refine Ext.alloc ?_ _ | refine Ext.drewN ?_ _ | refine Ext.drew ?_))).max (by omega)).mono ?_
  rintro e w1 ⟨b, rfl, hr1, hx1⟩
  have hcn := cut_ne 10 s
  have hcl := cut_len 10 s
  obtain ⟨b', o', hbo, hb, hys⟩ := strs_getD hr1 hcn
  injection hbo with hbo; injection hbo with e1 e2; subst e1 e2
  have HB2 : Hid (Blk w1 w.heap.size 25 #[.int .i64 0, .int .i64 0, .slice none 0 0, .slice none 0 0, .slice none 0 0]) := (Blk.new w _ _).ext hx1
  have HX1 : Hid (Ext w w1) := Ext.trans ((Ext.refl w).alloc _) hx1
  have HL : Hid (w.heap.size < w1.heap.size) := HB2.out.lt
  have HY : Hid (∀ w', Ext w1 w' → ∀ i, i < (cut 10 s).length → w'.cell? ⟨b, i, none⟩ = some (.string ((cut 10 s).getD i ⟨#[]⟩))) := fun w' q i hi => by have := (hys i hi).2; rw [Nat.zero_add] at this; exact (q.cell (p := ⟨b, i, none⟩) hb).trans this
  have HZ : Hid (∀ i, ((cut 10 s).getD i ⟨#[]⟩).size ≤ 1048576) := fun i => getD_size (fun y hy => by have := cut_size hy; omega) i
  obtain ⟨m, hm⟩ : ∃ m, (cut 10 s).length = m := ⟨_, rfl⟩
  rw [hm] at HY hcn hcl ⊢
  have HM := Lib.hid hm
  clear hm hys hr1 hx1 hb
  by_cases hlo : m < 3
  · have hlo' : (m : Int) < 3 := by omega
    have HN : Hid (∀ y : Cm, vC y = true → s ≠ ctx y) := comp_none_len HM.out (.inl hlo)
    clear hlo
    obtain ⟨⟨a0, a1, a2, a3, a4⟩, z0, z1, z2, z3, z4⟩ := cells5 HB2.out
    go_wp2
    exact bodyPost_ret (v := .tuple #[.agg #[.int .i64 0, .int .i64 0, .slice none 0 0, .slice none 0 0, .slice none 0 0], .bool false]) (ret_pair rfl _ _ _ _ _ _ _ rfl rfl (HB2.out.put5 (.int .i64 0) (.int .i64 0) (.slice none 0 0) (.slice none 0 0) (.slice none 0 0)) Tryz.underlying25 rfl Tryz.sizeCompR) rfl ⟨compRes_no rfl HN.out, ext_put5 (HX1.out) (Nat.le_refl _) _ _ _ _ _⟩
  have hlo' : ¬ ((m : Int) < 3) := by omega
  go_wp2
  obtain ⟨z, hz⟩ : ∃ z, m = z + 1 := ⟨m - 1, by omega⟩
  subst hz
  have hz2 : 2 ≤ z := by omega
  have hz3 : z ≤ 1048576 := by omega
  have hwz : wrap64 (z : Int) = (z : Int) := by unfold wrap64; omega
  obtain ⟨y0, hy0⟩ : ∃ y, (cut 10 s).getD 0 ⟨#[]⟩ = y := ⟨_, rfl⟩
  obtain ⟨yz, hyz⟩ : ∃ y, (cut 10 s).getD z ⟨#[]⟩ = y := ⟨_, rfl⟩
  have HY0 := Lib.hid hy0
  have HYZ := Lib.hid hyz
  have Q0 : Hid (y0.size ≤ 1048576) := by unfold Hid; rw [← hy0]; exact HZ.out _
  have QZ : Hid (yz.size ≤ 1048576) := by unfold Hid; rw [← hyz]; exact HZ.out _
  have HS : Hid (∀ w', Ext w1 w' → w'.cell? ⟨b, 0, none⟩ = some (.string y0) ∧ w'.cell? ⟨b, z, none⟩ = some (.string yz)) := fun w' q => ⟨by rw [← hy0]; exact HY.out w' q 0 hcn, by rw [← hyz]; exact HY.out w' q z (by omega)⟩
  clear hlo' hlo hy0 hyz hcl hcn
  refine wp_region_held_drew (S := (fun w' => w'.cell? ⟨b, 0, none⟩ = some (.string y0) ∧ w'.cell? ⟨b, z, none⟩ = some (.string yz))) (by kernel_rfl) (HS.out _ (Ext.refl w1).drew) (fun hHeld => ?_)
  (refine wpAnyH_take (i := 0) (v := ?_) rfl (by kernel_rfl) (by kernel_rfl) (by kernel_rfl) (fun _ _ _ h => h) (Or.inl ⟨by rfl, ?_⟩) (by assumption) ?_; rotate_left; · (intro w hSw; (try dsimp only at hSw); go_simp; all_goals with_reducible rfl); (try simp only [Act.put, List.getElem_toArray, List.getElem_cons_zero, List.getElem_cons_succ, List.setIfInBounds_toArray, List.set_cons_zero, List.set_cons_succ]))
  (try simp only [Act.put, List.getElem_toArray, List.getElem_cons_zero, List.getElem_cons_succ, List.setIfInBounds_toArray, List.set_cons_zero, List.set_cons_succ])
  (refine wpAnyH_take (i := 4) (v := ?_) rfl (by kernel_rfl) (by kernel_rfl) (by kernel_rfl) (fun _ _ _ h => h) (Or.inl ⟨by rfl, ?_⟩) (by assumption) ?_; rotate_left; · (intro w hSw; (try dsimp only at hSw); go_simp; all_goals with_reducible rfl); (try simp only [Act.put, List.getElem_toArray, List.getElem_cons_zero, List.getElem_cons_succ, List.setIfInBounds_toArray, List.set_cons_zero, List.set_cons_succ]))
  (try simp only [Act.put, List.getElem_toArray, List.getElem_cons_zero, List.getElem_cons_succ, List.setIfInBounds_toArray, List.set_cons_zero, List.set_cons_succ])
  (refine wpAnyH_take (i := 5) (v := ?_) rfl (by kernel_rfl) (by kernel_rfl) (by kernel_rfl) (fun _ _ _ h => h) (Or.inl ⟨by rfl, ?_⟩) (by assumption) ?_; rotate_left; · (intro w hSw; (try dsimp only at hSw); go_simp; all_goals with_reducible rfl); (try simp only [Act.put, List.getElem_toArray, List.getElem_cons_zero, List.getElem_cons_succ, List.setIfInBounds_toArray, List.set_cons_zero, List.set_cons_succ]))
  (try simp only [Act.put, List.getElem_toArray, List.getElem_cons_zero, List.getElem_cons_succ, List.setIfInBounds_toArray, List.set_cons_zero, List.set_cons_succ])
  (refine wpAnyH_take (i := 1) (v := ?_) rfl (by kernel_rfl) (by kernel_rfl) (by kernel_rfl) (fun _ _ _ h => h) (Or.inl ⟨by rfl, ?_⟩) (by assumption) ?_; rotate_left; · (intro w hSw; (try dsimp only at hSw); go_simp; all_goals with_reducible rfl); (try simp only [Act.put, List.getElem_toArray, List.getElem_cons_zero, List.getElem_cons_succ, List.setIfInBounds_toArray, List.set_cons_zero, List.set_cons_succ]))
  (try simp only [Act.put, List.getElem_toArray, List.getElem_cons_zero, List.getElem_cons_succ, List.setIfInBounds_toArray, List.set_cons_zero, List.set_cons_succ])
  (refine wpAnyH_take (i := 6) (v := .int .i64 (z : Int)) rfl (by kernel_rfl) (by kernel_rfl) (by kernel_rfl) (fun _ _ _ h => h) (Or.inl ⟨by rfl, ?_⟩) (by assumption) ?_; · (intro w hSw; (try dsimp only at hSw); obtain ⟨s0, s7⟩ := hSw; go_simp; first | done | exact IntWalk.i64_in _ (by omega)))
  (try simp only [Act.put, List.getElem_toArray, List.getElem_cons_zero, List.getElem_cons_succ, List.setIfInBounds_toArray, List.set_cons_zero, List.set_cons_succ])
  (refine wpAnyH_take (i := 7) (v := .pointer (some ⟨b, z, none⟩)) rfl (by kernel_rfl) (by kernel_rfl) (by kernel_rfl) (fun _ _ _ h => h) (Or.inl ⟨by rfl, ?_⟩) (by assumption) ?_; · (intro w hSw; (try dsimp only at hSw); obtain ⟨s0, s7⟩ := hSw; go_simp; first | done | (intro h; omega)))
  (try simp only [Act.put, List.getElem_toArray, List.getElem_cons_zero, List.getElem_cons_succ, List.setIfInBounds_toArray, List.set_cons_zero, List.set_cons_succ])
  (refine wpAnyH_take (i := 2) (v := .string y0) rfl (by kernel_rfl) (by kernel_rfl) (by kernel_rfl) (fun _ _ _ h => h) (Or.inl ⟨by rfl, ?_⟩) (by assumption) ?_; · (intro w hSw; (try dsimp only at hSw); obtain ⟨s0, s7⟩ := hSw; go_simp; first | done | rfl))
  (try simp only [Act.put, List.getElem_toArray, List.getElem_cons_zero, List.getElem_cons_succ, List.setIfInBounds_toArray, List.set_cons_zero, List.set_cons_succ])
  (refine wpAnyH_take (i := 8) (v := .string yz) rfl (by kernel_rfl) (by kernel_rfl) (by kernel_rfl) (fun _ _ _ h => h) (Or.inl ⟨by rfl, ?_⟩) (by assumption) ?_; · (intro w hSw; (try dsimp only at hSw); obtain ⟨s0, s7⟩ := hSw; go_simp; first | done | rfl))
  (try simp only [Act.put, List.getElem_toArray, List.getElem_cons_zero, List.getElem_cons_succ, List.setIfInBounds_toArray, List.set_cons_zero, List.set_cons_succ])
  refine wpAnyH_ready (rs := [3, 11]) (by kernel_rfl) (by simp) ?_
  refine AllReadyH.cons rfl (fun K hK => ?pC) (AllReadyH.cons rfl (fun K hK => ?pA) AllReadyH.nil)
  case' pA =>
    go_simp
    have BG : Hid (Blk (w1.alloc (.cells #[.int .i64 0, .int .i64 0, .slice none 0 0, .slice none 0 0, .slice none 0 0] 25)).drew w1.heap.size 25 #[.int .i64 0, .int .i64 0, .slice none 0 0, .slice none 0 0, .slice none 0 0]) := Blk.new w1 _ _
    have EG : Hid (Ext w1 (w1.alloc (.cells #[.int .i64 0, .int .i64 0, .slice none 0 0, .slice none 0 0, .slice none 0 0] 25)).drew) := ((Ext.refl w1).alloc _).drew
    have SG : Hid ((w1.alloc (.cells #[.int .i64 0, .int .i64 0, .slice none 0 0, .slice none 0 0, .slice none 0 0] 25)).drew.heap.size = w1.heap.size + 1) := by unfold Hid; show (w1.alloc _).heap.size = _; simp
    have SL : Hid (w1.heap.size ≤ w1.heap.size) := Nat.le_refl _
    refine hK.out _ _ (HS.out _ (EG.out)) (fun hHeld => ?_)
    clear hK K hHeld
    have hHeld := HS.out _ (EG.out)
    (try simp only [Act.put, List.getElem_toArray, List.getElem_cons_zero, List.getElem_cons_succ, List.setIfInBounds_toArray, List.set_cons_zero, List.set_cons_succ])
    generalize (w1.alloc (.cells #[.int .i64 0, .int .i64 0, .slice none 0 0, .slice none 0 0, .slice none 0 0] 25)).drew = WG at *
    obtain ⟨g, hgg⟩ : ∃ g, w1.heap.size = g := ⟨_, rfl⟩
    rw [hgg] at BG SG
    have HGG := Lib.hid hgg
    replace SL : Hid (w1.heap.size ≤ g) := Nat.le_of_eq hgg
    rw [hgg]
    clear hgg
    refine wpAnyH_ready (rs := [3]) (by kernel_rfl) (by simp) ?_
    refine AllReadyH.cons rfl (fun K hK => ?_) AllReadyH.nil
    go_simp
    refine (impl_layoutIn_any y0 ⟨#[111, 110]⟩ (Nat.le_trans Q0.out (by decide)) _ (HPW.out.ext (HX1.out.trans (EG.out)))).mono ?_
    rintro e wa ⟨⟨v3, st, rfl, ho3, hq3⟩, hx3⟩
    obtain ⟨A2, c2, rfl, -⟩ := own_slice ho3
    obtain ⟨n2, hn3⟩ : ∃ n, st.length = n := ⟨_, rfl⟩
    have HN3 := Lib.hid hn3
    rw [hn3] at ho3 ⊢
    have HO3 := Lib.hid ho3
    have HQ3 := Lib.hid hq3
    have HX3 := Lib.hid hx3
    clear hn3 ho3 hq3 hx3
    refine hK.out _ _ (HS.out _ (EG.out.trans HX3.out)) (fun hHeld => ?_)
    clear hK K hHeld
    have hHeld := HS.out _ (EG.out.trans HX3.out)
    (try simp only [Act.put, List.getElem_toArray, List.getElem_cons_zero, List.getElem_cons_succ, List.setIfInBounds_toArray, List.set_cons_zero, List.set_cons_succ])
    refine wpAnyH_ready (rs := [9]) (by kernel_rfl) (by simp) ?_
    refine AllReadyH.cons rfl (fun K hK => ?_) AllReadyH.nil
    go_simp
    refine (impl_layoutIn_any yz ⟨#[97, 116]⟩ (Nat.le_trans QZ.out (by decide)) _ (HPW.out.ext (HX1.out.trans ((EG.out.trans HX3.out))))).mono ?_
    rintro e wb ⟨⟨v9, fin, rfl, ho9, hq9⟩, hx9⟩
    obtain ⟨A3, c3, rfl, -⟩ := own_slice ho9
    obtain ⟨n3, hn9⟩ : ∃ n, fin.length = n := ⟨_, rfl⟩
    have HN9 := Lib.hid hn9
    rw [hn9] at ho9 ⊢
    have HO9 := Lib.hid ho9
    have HQ9 := Lib.hid hq9
    have HX9 := Lib.hid hx9
    clear hn9 ho9 hq9 hx9
    refine hK.out _ _ (HS.out _ ((EG.out.trans HX3.out).trans HX9.out)) (fun hHeld => ?_)
    clear hK K hHeld
    have hHeld := HS.out _ ((EG.out.trans HX3.out).trans HX9.out)
    (try simp only [Act.put, List.getElem_toArray, List.getElem_cons_zero, List.getElem_cons_succ, List.setIfInBounds_toArray, List.set_cons_zero, List.set_cons_succ])
    have BZ : Hid (Blk wb g 25 #[.int .i64 0, .int .i64 0, .slice none 0 0, .slice none 0 0, .slice none 0 0]) := BG.out.ext (HX3.out.trans HX9.out)
    obtain ⟨b0, hb0⟩ : ∃ b0, b0 = WG.heap.size := ⟨_, rfl⟩
    obtain ⟨b1, hb1⟩ : ∃ b1, b1 = wa.heap.size := ⟨_, rfl⟩
    obtain ⟨B, hBB⟩ : ∃ B, B = wb.heap.size := ⟨_, rfl⟩
    have hsa := HX3.out.size
    have hsb := HX9.out.size
    have hsg := SG.out
    have hsl := SL.out
    have R2 : wb.ownsRow b0 3 1 (.slice A2 n2 c2) st.length (icells st) := by rw [hb0, HN3.out]; exact own_ext HO3.out HX9.out
    have R3 : wb.ownsRow b1 3 1 (.slice A3 n3 c3) fin.length (icells fin) := by rw [hb1, HN9.out]; exact HO9.out
    have L2 : ∀ k, (Value.slice A2 n2 c2).ownBlock = some k → k < b1 ∧ k ≠ g := fun k hk => by have := HO3.out.lt k hk; omega
    have L3 : ∀ k, (Value.slice A3 n3 c3).ownBlock = some k → k < B ∧ k ≠ g := fun k hk => by have := HO9.out.lt k hk; omega
    have S1 : w1.heap.size ≤ g ∧ w1.heap.size ≤ b0 := ⟨by omega, by omega⟩
    have Z1 : b0 ≤ b1 ∧ b1 ≤ B ∧ g < B ∧ B ≤ wb.heap.size := ⟨by omega, by omega, by omega, by omega⟩
    clear hb0 hb1 hBB hsa hsb hsg hsl
    (refine wpAnyH_take (i := 10) (v := ?_) rfl (by kernel_rfl) (by kernel_rfl) (by kernel_rfl) (fun _ _ _ h => h) (Or.inl ⟨by rfl, ?_⟩) (by assumption) ?_; rotate_left; · (intro w hSw; (try dsimp only at hSw); go_simp; all_goals with_reducible rfl); (try simp only [Act.put, List.getElem_toArray, List.getElem_cons_zero, List.getElem_cons_succ, List.setIfInBounds_toArray, List.set_cons_zero, List.set_cons_succ]))
    (try simp only [Act.put, List.getElem_toArray, List.getElem_cons_zero, List.getElem_cons_succ, List.setIfInBounds_toArray, List.set_cons_zero, List.set_cons_succ])
    refine wpAnyH_ready (rs := [12]) (by kernel_rfl) (by simp) ?_
    refine AllReadyH.cons rfl (fun K hK => ?_) AllReadyH.nil
    obtain ⟨⟨i0, i1, i2, i3, i4⟩, j0, j1, j2, j3, j4⟩ := cells5 BZ.out
    have D0 : Hid (DQ w1 (put5 wb g (.int .i64 0) (.int .i64 0) (.slice none 0 0) (.slice A2 n2 c2) (.slice A3 n3 c3)) g b0 b1 B 0 0 none 0 0 (.slice A2 n2 c2) st (.slice A3 n3 c3) fin []) := DQ.start BZ.out R2 L2 R3 L3 ((EG.out.trans HX3.out).trans HX9.out) S1 Z1
    go_simp
    refine hK.out _ _ (HS.out _ D0.out.x) (fun hHeld => ?_)
    clear hK K hHeld i0 i1 i2 i3 i4 j0 j1 j2 j3 j4
    (try simp only [Act.put, List.getElem_toArray, List.getElem_cons_zero, List.getElem_cons_succ, List.setIfInBounds_toArray, List.set_cons_zero, List.set_cons_succ])
    (refine wpAnyH_done (by kernel_rfl) ?_ _)
    unfold put5 at D0
    generalize ((((wb.setCell ⟨g, 0, none⟩ (.int .i64 0)).setCell ⟨g, 1, none⟩ (.int .i64 0)).setCell ⟨g, 2, none⟩ (.slice none 0 0)).setCell ⟨g, 3, none⟩ (.slice A2 n2 c2)).setCell ⟨g, 4, none⟩ (.slice A3 n3 c3) = WR at *
    clear BZ
    clear BG EG SG SL HO3 HO9 HX3 HX9 R2 R3 L2 L3
  case' pC =>
    go_simp
    refine (impl_layoutIn_any y0 ⟨#[111, 110]⟩ (Nat.le_trans Q0.out (by decide)) _ (HPW.out.ext (HX1.out.trans ((Ext.refl w1).drew)))).mono ?_
    rintro e wa ⟨⟨v3, st, rfl, ho3, hq3⟩, hx3⟩
    obtain ⟨A2, c2, rfl, -⟩ := own_slice ho3
    obtain ⟨n2, hn3⟩ : ∃ n, st.length = n := ⟨_, rfl⟩
    have HN3 := Lib.hid hn3
    rw [hn3] at ho3 ⊢
    have HO3 := Lib.hid ho3
    have HQ3 := Lib.hid hq3
    have HX3 := Lib.hid hx3
    clear hn3 ho3 hq3 hx3
    have EA : Hid (Ext w1 wa) := Ext.trans (Ext.refl w1).drew HX3.out
    refine hK.out _ _ (HS.out _ (EA.out)) (fun hHeld => ?_)
    clear hK K hHeld
    have hHeld := HS.out _ (EA.out)
    (try simp only [Act.put, List.getElem_toArray, List.getElem_cons_zero, List.getElem_cons_succ, List.setIfInBounds_toArray, List.set_cons_zero, List.set_cons_succ])
    refine wpAnyH_ready (rs := [9, 11]) (by kernel_rfl) (by simp) ?_
    refine AllReadyH.cons rfl (fun K hK => ?pC2) (AllReadyH.cons rfl (fun K hK => ?pA2) AllReadyH.nil)
  case' pA2 =>
    go_simp
    have BG : Hid (Blk (wa.alloc (.cells #[.int .i64 0, .int .i64 0, .slice none 0 0, .slice none 0 0, .slice none 0 0] 25)) wa.heap.size 25 #[.int .i64 0, .int .i64 0, .slice none 0 0, .slice none 0 0, .slice none 0 0]) := Blk.new _ _ _
    have EG : Hid (Ext w1 (wa.alloc (.cells #[.int .i64 0, .int .i64 0, .slice none 0 0, .slice none 0 0, .slice none 0 0] 25))) := Ext.alloc (EA.out) _
    have SG : Hid ((wa.alloc (.cells #[.int .i64 0, .int .i64 0, .slice none 0 0, .slice none 0 0, .slice none 0 0] 25)).heap.size = wa.heap.size + 1) := by unfold Hid; simp
    have SL : Hid (w1.heap.size ≤ wa.heap.size) := (EA.out).size
    refine hK.out _ _ (HS.out _ (EG.out)) (fun hHeld => ?_)
    clear hK K hHeld
    have hHeld := HS.out _ (EG.out)
    (try simp only [Act.put, List.getElem_toArray, List.getElem_cons_zero, List.getElem_cons_succ, List.setIfInBounds_toArray, List.set_cons_zero, List.set_cons_succ])
    have SLA : Hid (wa.heap.size ≤ wa.heap.size) := Nat.le_refl _
    have EWG : Hid (Ext wa (wa.alloc (.cells #[.int .i64 0, .int .i64 0, .slice none 0 0, .slice none 0 0, .slice none 0 0] 25))) := (Ext.refl _).alloc _
    have HO3A : Hid (∀ k, (Value.slice A2 n2 c2).ownBlock = some k → k < wa.heap.size) := fun k hk => (HO3.out.lt k hk).2
    generalize wa.alloc (.cells #[.int .i64 0, .int .i64 0, .slice none 0 0, .slice none 0 0, .slice none 0 0] 25) = WG at *
    generalize wa.heap.size = g at *
    refine wpAnyH_ready (rs := [9]) (by kernel_rfl) (by simp) ?_
    refine AllReadyH.cons rfl (fun K hK => ?_) AllReadyH.nil
    go_simp
    refine (impl_layoutIn_any yz ⟨#[97, 116]⟩ (Nat.le_trans QZ.out (by decide)) _ (HPW.out.ext (HX1.out.trans (EG.out)))).mono ?_
    rintro e wb ⟨⟨v9, fin, rfl, ho9, hq9⟩, hx9⟩
    obtain ⟨A3, c3, rfl, -⟩ := own_slice ho9
    obtain ⟨n3, hn9⟩ : ∃ n, fin.length = n := ⟨_, rfl⟩
    have HN9 := Lib.hid hn9
    rw [hn9] at ho9 ⊢
    have HO9 := Lib.hid ho9
    have HQ9 := Lib.hid hq9
    have HX9 := Lib.hid hx9
    clear hn9 ho9 hq9 hx9
    refine hK.out _ _ (HS.out _ (EG.out.trans HX9.out)) (fun hHeld => ?_)
    clear hK K hHeld
    have hHeld := HS.out _ (EG.out.trans HX9.out)
    (try simp only [Act.put, List.getElem_toArray, List.getElem_cons_zero, List.getElem_cons_succ, List.setIfInBounds_toArray, List.set_cons_zero, List.set_cons_succ])
    have BZ : Hid (Blk wb g 25 #[.int .i64 0, .int .i64 0, .slice none 0 0, .slice none 0 0, .slice none 0 0]) := BG.out.ext HX9.out
    obtain ⟨b0, hb0⟩ : ∃ b0, b0 = w1.drew.heap.size := ⟨_, rfl⟩
    obtain ⟨b1, hb1⟩ : ∃ b1, b1 = WG.heap.size := ⟨_, rfl⟩
    obtain ⟨B, hBB⟩ : ∃ B, B = wb.heap.size := ⟨_, rfl⟩
    have hsb := HX9.out.size
    have hsg := SG.out
    have hsl := SL.out
    have hd : w1.drew.heap.size = w1.heap.size := rfl
    have R2 : wb.ownsRow b0 3 1 (.slice A2 n2 c2) st.length (icells st) := by rw [hb0, HN3.out]; exact own_ext HO3.out (EWG.out.trans HX9.out)
    have R3 : wb.ownsRow b1 3 1 (.slice A3 n3 c3) fin.length (icells fin) := by rw [hb1, HN9.out]; exact HO9.out
    have L2 : ∀ k, (Value.slice A2 n2 c2).ownBlock = some k → k < b1 ∧ k ≠ g := fun k hk => by have := HO3A.out k hk; omega
    have L3 : ∀ k, (Value.slice A3 n3 c3).ownBlock = some k → k < B ∧ k ≠ g := fun k hk => by have := HO9.out.lt k hk; omega
    have S1 : w1.heap.size ≤ g ∧ w1.heap.size ≤ b0 := ⟨by omega, by omega⟩
    have Z1 : b0 ≤ b1 ∧ b1 ≤ B ∧ g < B ∧ B ≤ wb.heap.size := ⟨by omega, by omega, by omega, by omega⟩
    clear hb0 hb1 hBB hsb hsg hsl hd
    (refine wpAnyH_take (i := 10) (v := ?_) rfl (by kernel_rfl) (by kernel_rfl) (by kernel_rfl) (fun _ _ _ h => h) (Or.inl ⟨by rfl, ?_⟩) (by assumption) ?_; rotate_left; · (intro w hSw; (try dsimp only at hSw); go_simp; all_goals with_reducible rfl); (try simp only [Act.put, List.getElem_toArray, List.getElem_cons_zero, List.getElem_cons_succ, List.setIfInBounds_toArray, List.set_cons_zero, List.set_cons_succ]))
    (try simp only [Act.put, List.getElem_toArray, List.getElem_cons_zero, List.getElem_cons_succ, List.setIfInBounds_toArray, List.set_cons_zero, List.set_cons_succ])
    refine wpAnyH_ready (rs := [12]) (by kernel_rfl) (by simp) ?_
    refine AllReadyH.cons rfl (fun K hK => ?_) AllReadyH.nil
    obtain ⟨⟨i0, i1, i2, i3, i4⟩, j0, j1, j2, j3, j4⟩ := cells5 BZ.out
    have D0 : Hid (DQ w1 (put5 wb g (.int .i64 0) (.int .i64 0) (.slice none 0 0) (.slice A2 n2 c2) (.slice A3 n3 c3)) g b0 b1 B 0 0 none 0 0 (.slice A2 n2 c2) st (.slice A3 n3 c3) fin []) := DQ.start BZ.out R2 L2 R3 L3 (EG.out.trans HX9.out) S1 Z1
    go_simp
    refine hK.out _ _ (HS.out _ D0.out.x) (fun hHeld => ?_)
    clear hK K hHeld i0 i1 i2 i3 i4 j0 j1 j2 j3 j4
    (try simp only [Act.put, List.getElem_toArray, List.getElem_cons_zero, List.getElem_cons_succ, List.setIfInBounds_toArray, List.set_cons_zero, List.set_cons_succ])
    (refine wpAnyH_done (by kernel_rfl) ?_ _)
    unfold put5 at D0
    generalize ((((wb.setCell ⟨g, 0, none⟩ (.int .i64 0)).setCell ⟨g, 1, none⟩ (.int .i64 0)).setCell ⟨g, 2, none⟩ (.slice none 0 0)).setCell ⟨g, 3, none⟩ (.slice A2 n2 c2)).setCell ⟨g, 4, none⟩ (.slice A3 n3 c3) = WR at *
    clear BZ
    clear BG EG SG SL HO3 HO9 HX3 HX9 R2 R3 L2 L3 HO3A EWG EA SLA
  case' pC2 =>
    go_simp
    refine (impl_layoutIn_any yz ⟨#[97, 116]⟩ (Nat.le_trans QZ.out (by decide)) _ (HPW.out.ext (HX1.out.trans (EA.out)))).mono ?_
    rintro e wb ⟨⟨v9, fin, rfl, ho9, hq9⟩, hx9⟩
    obtain ⟨A3, c3, rfl, -⟩ := own_slice ho9
    obtain ⟨n3, hn9⟩ : ∃ n, fin.length = n := ⟨_, rfl⟩
    have HN9 := Lib.hid hn9
    rw [hn9] at ho9 ⊢
    have HO9 := Lib.hid ho9
    have HQ9 := Lib.hid hq9
    have HX9 := Lib.hid hx9
    clear hn9 ho9 hq9 hx9
    have EB : Hid (Ext w1 wb) := EA.out.trans HX9.out
    refine hK.out _ _ (HS.out _ (EB.out)) (fun hHeld => ?_)
    clear hK K hHeld
    have hHeld := HS.out _ (EB.out)
    (try simp only [Act.put, List.getElem_toArray, List.getElem_cons_zero, List.getElem_cons_succ, List.setIfInBounds_toArray, List.set_cons_zero, List.set_cons_succ])
    (refine wpAnyH_take (i := 10) (v := ?_) rfl (by kernel_rfl) (by kernel_rfl) (by kernel_rfl) (fun _ _ _ h => h) (Or.inl ⟨by rfl, ?_⟩) (by assumption) ?_; rotate_left; · (intro w hSw; (try dsimp only at hSw); go_simp; all_goals with_reducible rfl); (try simp only [Act.put, List.getElem_toArray, List.getElem_cons_zero, List.getElem_cons_succ, List.setIfInBounds_toArray, List.set_cons_zero, List.set_cons_succ]))
    (try simp only [Act.put, List.getElem_toArray, List.getElem_cons_zero, List.getElem_cons_succ, List.setIfInBounds_toArray, List.set_cons_zero, List.set_cons_succ])
    refine wpAnyH_ready (rs := [11]) (by kernel_rfl) (by simp) ?_
    refine AllReadyH.cons rfl (fun K hK => ?_) AllReadyH.nil
    go_simp
    have BG : Hid (Blk (wb.alloc (.cells #[.int .i64 0, .int .i64 0, .slice none 0 0, .slice none 0 0, .slice none 0 0] 25)) wb.heap.size 25 #[.int .i64 0, .int .i64 0, .slice none 0 0, .slice none 0 0, .slice none 0 0]) := Blk.new _ _ _
    have EG : Hid (Ext w1 (wb.alloc (.cells #[.int .i64 0, .int .i64 0, .slice none 0 0, .slice none 0 0, .slice none 0 0] 25))) := Ext.alloc (EB.out) _
    have SG : Hid ((wb.alloc (.cells #[.int .i64 0, .int .i64 0, .slice none 0 0, .slice none 0 0, .slice none 0 0] 25)).heap.size = wb.heap.size + 1) := by unfold Hid; simp
    have SL : Hid (w1.heap.size ≤ wb.heap.size) := (EB.out).size
    refine hK.out _ _ (HS.out _ (EG.out)) (fun hHeld => ?_)
    clear hK K hHeld
    have hHeld := HS.out _ (EG.out)
    (try simp only [Act.put, List.getElem_toArray, List.getElem_cons_zero, List.getElem_cons_succ, List.setIfInBounds_toArray, List.set_cons_zero, List.set_cons_succ])
    have EWG : Hid (Ext wb (wb.alloc (.cells #[.int .i64 0, .int .i64 0, .slice none 0 0, .slice none 0 0, .slice none 0 0] 25))) := (Ext.refl _).alloc _
    have HO9A : Hid (∀ k, (Value.slice A3 n3 c3).ownBlock = some k → k < wb.heap.size) := fun k hk => (HO9.out.lt k hk).2
    have HO3A : Hid (∀ k, (Value.slice A2 n2 c2).ownBlock = some k → k < wa.heap.size) := fun k hk => (HO3.out.lt k hk).2
    have WAB : Hid (wa.heap.size ≤ wb.heap.size) := HX9.out.size
    generalize wb.alloc (.cells #[.int .i64 0, .int .i64 0, .slice none 0 0, .slice none 0 0, .slice none 0 0] 25) = WG at *
    generalize wb.heap.size = g at *
    have BZ : Hid (Blk WG g 25 #[.int .i64 0, .int .i64 0, .slice none 0 0, .slice none 0 0, .slice none 0 0]) := BG.out
    obtain ⟨b0, hb0⟩ : ∃ b0, b0 = w1.drew.heap.size := ⟨_, rfl⟩
    obtain ⟨b1, hb1⟩ : ∃ b1, b1 = wa.heap.size := ⟨_, rfl⟩
    obtain ⟨B, hBB⟩ : ∃ B, B = WG.heap.size := ⟨_, rfl⟩
    have hsg := SG.out
    have hsl := SL.out
    have hsw := WAB.out
    have hse := EA.out.size
    have hd : w1.drew.heap.size = w1.heap.size := rfl
    have R2 : WG.ownsRow b0 3 1 (.slice A2 n2 c2) st.length (icells st) := by rw [hb0, HN3.out]; exact own_ext HO3.out (HX9.out.trans EWG.out)
    have R3 : WG.ownsRow b1 3 1 (.slice A3 n3 c3) fin.length (icells fin) := by rw [hb1, HN9.out]; exact own_ext HO9.out EWG.out
    have L2 : ∀ k, (Value.slice A2 n2 c2).ownBlock = some k → k < b1 ∧ k ≠ g := fun k hk => by have := HO3A.out k hk; omega
    have L3 : ∀ k, (Value.slice A3 n3 c3).ownBlock = some k → k < B ∧ k ≠ g := fun k hk => by have := HO9A.out k hk; omega
    have S1 : w1.heap.size ≤ g ∧ w1.heap.size ≤ b0 := ⟨by omega, by omega⟩
    have Z1 : b0 ≤ b1 ∧ b1 ≤ B ∧ g < B ∧ B ≤ WG.heap.size := ⟨by omega, by omega, by omega, by omega⟩
    clear hb0 hb1 hBB hsw hse hsg hsl hd
    refine wpAnyH_ready (rs := [12]) (by kernel_rfl) (by simp) ?_
    refine AllReadyH.cons rfl (fun K hK => ?_) AllReadyH.nil
    obtain ⟨⟨i0, i1, i2, i3, i4⟩, j0, j1, j2, j3, j4⟩ := cells5 BZ.out
    have D0 : Hid (DQ w1 (put5 WG g (.int .i64 0) (.int .i64 0) (.slice none 0 0) (.slice A2 n2 c2) (.slice A3 n3 c3)) g b0 b1 B 0 0 none 0 0 (.slice A2 n2 c2) st (.slice A3 n3 c3) fin []) := DQ.start BZ.out R2 L2 R3 L3 EG.out S1 Z1
    go_simp
    refine hK.out _ _ (HS.out _ D0.out.x) (fun hHeld => ?_)
    clear hK K hHeld i0 i1 i2 i3 i4 j0 j1 j2 j3 j4
    (try simp only [Act.put, List.getElem_toArray, List.getElem_cons_zero, List.getElem_cons_succ, List.setIfInBounds_toArray, List.set_cons_zero, List.set_cons_succ])
    (refine wpAnyH_done (by kernel_rfl) ?_ _)
    unfold put5 at D0
    generalize ((((WG.setCell ⟨g, 0, none⟩ (.int .i64 0)).setCell ⟨g, 1, none⟩ (.int .i64 0)).setCell ⟨g, 2, none⟩ (.slice none 0 0)).setCell ⟨g, 3, none⟩ (.slice A2 n2 c2)).setCell ⟨g, 4, none⟩ (.slice A3 n3 c3) = WR at *
    clear BZ
    clear BG EG SG SL HO3 HO9 HX3 HX9 R2 R3 L2 L3 HO3A HO9A EWG EA EB WAB
  all_goals
    iterate 9 (try clear hHeld)
    clear S1 Z1 hwz
    have d3 : WR.cell? ⟨g, 3, none⟩ = some (.slice A2 n2 c2) := D0.out.b.cell 3
    have c0 : WR.cell? ⟨g, 0, none⟩ = some (.int .i64 0) := D0.out.b.cell 0
    have f0 : WR.frozen? ⟨g, 0, none⟩ = false := D0.out.b.frozen 0
    have hn2b : n2 ≤ 1048576 := by rw [← HN3.out]; exact Nat.le_trans HQ3.out.1 Q0.out
    go_upto_region 7 with (fail)
    clear c0 f0 d3
    have D1 : Hid (DQ w1 (WR.setCell ⟨g, 0, none⟩ (.int .i64 (n2 : Int))) g b0 b1 B (n2 : Int) 0 none 0 0 (.slice A2 n2 c2) st (.slice A3 n3 c3) fin []) := D0.out.setN _
    clear D0
    generalize WR.setCell ⟨g, 0, none⟩ (.int .i64 (n2 : Int)) = W1 at *
    obtain ⟨y1, hy1⟩ : ∃ y, (cut 10 s).getD 1 ⟨#[]⟩ = y := ⟨_, rfl⟩
    have HY1 := Lib.hid hy1
    have Q1 : Hid (y1.size ≤ 1500000) := by unfold Hid; rw [← hy1]; exact Nat.le_trans (HZ.out _) (by decide)
    have r1 : W1.cell? ⟨b, 1, none⟩ = some (.string y1) := by rw [← hy1]; exact HY.out _ D1.out.x 1 (by omega)
    clear hy1
    have hz1 : (1 : Int) < (z : Int) + 1 := by omega
    go_wp2_with fail
    refine (impl_layoutIn_any y1 ⟨#[98, 105, 116, 115]⟩ Q1.out _ (HPW.out.ext (HX1.out.trans D1.out.x))).mono ?_
    rintro e w5 ⟨⟨v5, l5, rfl, ho5, hq5⟩, hx5⟩
    obtain ⟨A5, c5, rfl, hr5⟩ := own_slice ho5
    have D2 : Hid (DQ w1 w5 g b0 b1 B (n2 : Int) 0 none 0 0 (.slice A2 n2 c2) st (.slice A3 n3 c3) fin []) := D1.out.ext hx5
    have HQ5 := Lib.hid hq5
    clear hq5 hx5 D1 r1
    have HBL : Hid (∀ q : Int, 0 ≤ q → q ≤ 4 → (cut 10 s).getD 1 ⟨#[]⟩ = rowS ⟨#[98, 105, 116, 115]⟩ [q] → l5 = [q]) := by
      intro q q0 q4 he
      rw [HY1.out] at he
      exact HQ5.out.2 [q] (by decide) (fun x hx => by rw [List.mem_singleton] at hx; subst hx; exact ⟨q0, q4⟩) he
    by_cases h51 : l5.length = 1
    · obtain ⟨bits, rfl⟩ : ∃ bits, l5 = [bits] := by
        cases l5 with
        | nil => cases h51
        | cons a r =>
          cases r with
          | nil => exact ⟨a, rfl⟩
          | cons _ _ => simp at h51
      obtain ⟨b5, o5, bt, rfl, hb5, hy5, r5⟩ := int_at hr5 (i := 0) (by simp)
      obtain rfl : bits = bt := Option.some.inj hy5
      rw [Nat.add_zero] at r5
      have HBT : Hid (∀ q : Int, 0 ≤ q → q ≤ 4 → (cut 10 s).getD 1 ⟨#[]⟩ = rowS ⟨#[98, 105, 116, 115]⟩ [q] → bits = q) := fun q q0 q4 he => by have := HBL.out q q0 q4 he; simpa using this
      have c0 : w5.cell? ⟨g, 1, none⟩ = some (.int .i64 0) := D2.out.b.cell 1
      have f0 : w5.frozen? ⟨g, 1, none⟩ = false := D2.out.b.frozen 1
      clear hr5 ho5 hy5 h51 HBL
      go_upto_region 10 with (fail)
      clear c0 f0 r5
      have D4 : Hid (DQ w1 (w5.setCell ⟨g, 1, none⟩ (.int .i64 bits)) g b0 b1 B (n2 : Int) bits none 0 0 (.slice A2 n2 c2) st (.slice A3 n3 c3) fin []) := D2.out.setB _
      clear D2
      generalize w5.setCell ⟨g, 1, none⟩ (.int .i64 bits) = W6 at *
      obtain ⟨n1, hn1⟩ : ∃ n1, z = n1 + 2 := ⟨z - 2, by omega⟩
      subst hn1
      clear hz1
      go_wp2
      go_loopw [50] (fun iv wr => ∃ (k : Nat) (A : Option Addr) (cap : Nat) (xs : List Oq), iv = .int .i64 k ∧ k ≤ n1 ∧ Hid (DQ w1 wr g b0 b1 B (n2 : Int) bits A k cap (.slice A2 n2 c2) st (.slice A3 n3 c3) fin xs) ∧ Hid (RO (cut 10 s) xs)) (fun i _ => n1 - (intOf i).toNat)
      case atStart => exact ⟨0, none, 0, [], rfl, Nat.zero_le _, D4, RO.nil _⟩
      case round =>
        obtain ⟨k, A, cap, xs, rfl, hk, DD, RR⟩ := hrel
        clear D4
        by_cases hlt : k < n1
        · have hki : (k : Int) < (n1 : Int) := by omega
          have hk0 : (0 : Int) ≤ (k : Int) := by omega
          have hkk : (k : Int) ≤ 2000000 := by omega
          obtain ⟨t, ht⟩ : ∃ t, (cut 10 s).getD (k + 2) ⟨#[]⟩ = t := ⟨_, rfl⟩
          have HTZ : Hid (t.size ≤ 1400000) := by unfold Hid; rw [← ht]; exact Nat.le_trans (HZ.out _) (by decide)
          have q1 : wr.cell? ⟨b, 2 + k, none⟩ = some (.string t) := by rw [← ht, Nat.add_comm]; exact HY.out _ DD.out.x (k + 2) (by omega)
          have HTE := Lib.hid ht
          have HKZ : Hid (k < n1 ∧ n1 ≤ 1048576) := ⟨hlt, by omega⟩
          clear ht hk hlt
          go_wp2_with fail
          refine (impl_ParseOp_any t HTZ.out _ (HPW.out.ext (HX1.out.trans DD.out.x))).mono ?_
          rintro e w7 ⟨⟨op, okp, rfl, hrp⟩, hx7⟩
          have HRP := Lib.hid hrp
          have D5 : Hid (DQ w1 w7 g b0 b1 B (n2 : Int) bits A k cap (.slice A2 n2 c2) st (.slice A3 n3 c3) fin xs) := DD.out.ext hx7
          clear hrp hx7 q1 DD
          go_upto_region 14 with (fail)
          have E0 : Hid (Blk (w7.alloc (.cells #[.int .i64 op.k, .int .i64 op.g.k, .int .i64 op.g.a, .int .i64 op.g.b, .int .i64 op.g.c, .int .i64 op.q, .int .i64 op.bit, .int .i64 op.cond] 39)) w7.heap.size 39 #[.int .i64 op.k, .int .i64 op.g.k, .int .i64 op.g.a, .int .i64 op.g.b, .int .i64 op.g.c, .int .i64 op.q, .int .i64 op.bit, .int .i64 op.cond]) := Blk.new _ _ _
          have D6 : Hid (DQ w1 (w7.alloc (.cells #[.int .i64 op.k, .int .i64 op.g.k, .int .i64 op.g.a, .int .i64 op.g.b, .int .i64 op.g.c, .int .i64 op.q, .int .i64 op.bit, .int .i64 op.cond] 39)) g b0 b1 B (n2 : Int) bits A k cap (.slice A2 n2 c2) st (.slice A3 n3 c3) fin xs) := D5.out.ext ((Ext.refl _).alloc _)
          generalize w7.alloc (.cells #[.int .i64 op.k, .int .i64 op.g.k, .int .i64 op.g.a, .int .i64 op.g.b, .int .i64 op.g.c, .int .i64 op.q, .int .i64 op.bit, .int .i64 op.cond] 39) = W8 at *
          generalize w7.heap.size = h at *
          clear D5
          cases okp
          · have HN : Hid (∀ y : Cm, vC y = true → s ≠ ctx y) := comp_none_op HM.out (j := k) (by have := HKZ.out; omega) (by
              intro o ho he
              rw [HTE.out] at he
              rcases HRP.out with ⟨h, _⟩ | ⟨_, _, h⟩
              · cases h
              · exact h o ho he)
            obtain ⟨⟨a0, a1, a2, a3, a4⟩, z0, z1, z2, z3, z4⟩ := cells5 (HB2.out.ext D6.out.x)
            go_wp2
            exact bodyPost_ret (v := .tuple #[.agg #[.int .i64 0, .int .i64 0, .slice none 0 0, .slice none 0 0, .slice none 0 0], .bool false]) (ret_pair rfl _ _ _ _ _ _ _ rfl rfl ((HB2.out.ext D6.out.x).put5 (.int .i64 0) (.int .i64 0) (.slice none 0 0) (.slice none 0 0) (.slice none 0 0)) Tryz.underlying25 rfl Tryz.sizeCompR) rfl ⟨compRes_no rfl HN.out, ext_put5 (HX1.out.trans D6.out.x) (Nat.le_refl _) _ _ _ _ _⟩
          · have HOR : Hid (OR t op) := or_of HRP.out
            obtain ⟨⟨a0, a1, a2, a3, a4, a5, a6, a7⟩, _⟩ := cells8 E0.out
            have p2 : W8.cell? ⟨g, 2, none⟩ = some (.slice A k cap) := D6.out.b.cell 2
            have K9 : Hid (k ≤ 90000000) := by have := HKZ.out; unfold Hid; omega
            go_wp2_with (at_builtin; refine D6.out.app rfl _ _ rfl rfl op _ _ rfl rfl K9.out ?_; intro A' c' w9 hb9 hD9; have c0 : w9.cell? ⟨g, 2, none⟩ = some (.slice A k cap) := hb9.cell 2; have f0 : w9.frozen? ⟨g, 2, none⟩ = false := hb9.frozen 2)
            go_roundw
            case rel => exact ⟨_, _, _, _, .int .i64 ((k + 1 : Nat) : Int), ⟨k + 1, rfl, by have := HKZ.out; omega, A', c', xs ++ [op], Lib.hid hD9, Lib.hid (RR.out.snoc D6.out.len_ (by rw [HTE.out]; exact HOR.out))⟩, rfl, rfl, rfl, rfl, by first | rfl | go_num⟩
            case measure => simp [intOf]; have := HKZ.out; omega
        · have hki : ¬ ((k : Int) < (n1 : Int)) := by omega
          have HSS : Hid (∀ y : Cm, vC y = true → s = ctx y → (⟨(n2 : Int), bits, xs, st, fin⟩ : Cm) = y) := by
            intro y hv he
            have := comp_same (s := s) (bits := bits) (ops := xs) (st := st) (fin := fin) (m := n1 + 2 + 1) HM.out (fun p hp hl he => HQ3.out.2 p (by decide) hp (by rw [← HY0.out]; exact he)) (fun p hp hl he => HQ9.out.2 p (by decide) hp (by rw [← HYZ.out]; exact he)) HBT.out RR.out (by rw [DD.out.len_]; omega) y hv he
            rw [HN3.out] at this
            exact this
          have HKZ : Hid (k ≤ 1048576) := by unfold Hid; omega
          clear hk hlt
          have HSM : Hid (Cm.small ⟨(n2 : Int), bits, xs, st, fin⟩) := ⟨by have := DD.out.len_; have := HKZ.out; show xs.length ≤ _; omega, Nat.le_trans HQ3.out.1 Q0.out, Nat.le_trans HQ9.out.1 QZ.out⟩
          have d0 : wr.cell? ⟨g, 0, none⟩ = some (.int .i64 (n2 : Int)) := DD.out.b.cell 0
          have d1 : wr.cell? ⟨g, 1, none⟩ = some (.int .i64 bits) := DD.out.b.cell 1
          have d2 : wr.cell? ⟨g, 2, none⟩ = some (.slice A k cap) := DD.out.b.cell 2
          have d3 : wr.cell? ⟨g, 3, none⟩ = some (.slice A2 n2 c2) := DD.out.b.cell 3
          have d4 : wr.cell? ⟨g, 4, none⟩ = some (.slice A3 n3 c3) := DD.out.b.cell 4
          go_wp2_with fail
          refine (DD.out.fmt_impl HN3.out HN9.out HSM.out (HPW.out.ext (HX1.out.trans DD.out.x)).gn).mono ?_
          rintro e v9 ⟨rfl, hy9⟩
          have D9 := Lib.hid (DD.out.ext hy9)
          clear hy9 d0 d1 d2 d3 d4 DD
          obtain ⟨⟨a0, a1, a2, a3, a4⟩, z0, z1, z2, z3, z4⟩ := cells5 (HB2.out.ext D9.out.x)
          obtain ⟨os, hos⟩ : ∃ os, ctx ⟨(n2 : Int), bits, xs, st, fin⟩ = os := ⟨_, rfl⟩
          rw [hos]
          have HOS := Lib.hid hos
          clear hos
          obtain ⟨qq, hqq⟩ : ∃ qq, (ByteArray.toList os == ByteArray.toList s) = qq := ⟨_, rfl⟩
          cases qq
          · have HN : Hid (∀ y : Cm, vC y = true → s ≠ ctx y) := comp_none_other HSS.out (by rw [HOS.out]; exact hqq)
            go_wp2
            exact bodyPost_ret (v := .tuple #[.agg #[.int .i64 0, .int .i64 0, .slice none 0 0, .slice none 0 0, .slice none 0 0], .bool false]) (ret_pair rfl _ _ _ _ _ _ _ rfl rfl ((HB2.out.ext D9.out.x).put5 (.int .i64 0) (.int .i64 0) (.slice none 0 0) (.slice none 0 0) (.slice none 0 0)) Tryz.underlying25 rfl Tryz.sizeCompR) rfl ⟨compRes_no rfl HN.out, ext_put5 (HX1.out.trans D9.out.x) (Nat.le_refl _) _ _ _ _ _⟩
          · have HQ := Lib.hid (str_beq.1 hqq)
            have d0 : v9.cell? ⟨g, 0, none⟩ = some (.int .i64 (n2 : Int)) := D9.out.b.cell 0
            have d1 : v9.cell? ⟨g, 1, none⟩ = some (.int .i64 bits) := D9.out.b.cell 1
            have d2 : v9.cell? ⟨g, 2, none⟩ = some (.slice A k cap) := D9.out.b.cell 2
            have d3 : v9.cell? ⟨g, 3, none⟩ = some (.slice A2 n2 c2) := D9.out.b.cell 3
            have d4 : v9.cell? ⟨g, 4, none⟩ = some (.slice A3 n3 c3) := D9.out.b.cell 4
            go_wp2
            exact bodyPost_ret (v := .tuple #[.agg #[.int .i64 (n2 : Int), .int .i64 bits, .slice A k cap, .slice A2 n2 c2, .slice A3 n3 c3], .bool true]) (ret_pair rfl _ _ _ _ _ _ _ rfl rfl ((HB2.out.ext D9.out.x).put5 (.int .i64 (n2 : Int)) (.int .i64 bits) (.slice A k cap) (.slice A2 n2 c2) (.slice A3 n3 c3)) Tryz.underlying25 rfl Tryz.sizeCompR) rfl ⟨compRes_yes D9.out HL.out _ (Nat.le_trans (Nat.le_of_lt HL.out) D9.out.s.2) HN3.out HN9.out HSM.out rfl (ne_of_cut HM.out hz2) (HOS.out.trans HQ.out) HSS.out, ext_put5 (HX1.out.trans D9.out.x) (Nat.le_refl _) _ _ _ _ _⟩
    · have h5b : ((l5.length : Int) == 1) = false := by simp; omega
      obtain ⟨bits, hbits⟩ : ∃ bits : Int, bits = 0 := ⟨_, rfl⟩
      have HBT : Hid (∀ q : Int, 0 ≤ q → q ≤ 4 → (cut 10 s).getD 1 ⟨#[]⟩ = rowS ⟨#[98, 105, 116, 115]⟩ [q] → bits = q) := fun q q0 q4 he => by have := HBL.out q q0 q4 he; rw [this] at h51; exact absurd rfl h51
      obtain ⟨n5, hn5⟩ : ∃ n, l5.length = n := ⟨_, rfl⟩
      rw [hn5] at h5b ⊢
      clear hr5 ho5 h51 HBL hn5
      rw [← hbits] at D2
      clear hbits
      go_upto_region 10 with (fail)
      clear h5b
      have D4 := D2
      clear D2
      obtain ⟨W6, hW6⟩ : ∃ W6, w5 = W6 := ⟨_, rfl⟩
      rw [hW6] at D4 ⊢
      clear hW6
      obtain ⟨n1, hn1⟩ : ∃ n1, z = n1 + 2 := ⟨z - 2, by omega⟩
      subst hn1
      clear hz1
      go_wp2
      go_loopw [50] (fun iv wr => ∃ (k : Nat) (A : Option Addr) (cap : Nat) (xs : List Oq), iv = .int .i64 k ∧ k ≤ n1 ∧ Hid (DQ w1 wr g b0 b1 B (n2 : Int) bits A k cap (.slice A2 n2 c2) st (.slice A3 n3 c3) fin xs) ∧ Hid (RO (cut 10 s) xs)) (fun i _ => n1 - (intOf i).toNat)
      case atStart => exact ⟨0, none, 0, [], rfl, Nat.zero_le _, D4, RO.nil _⟩
      case round =>
        obtain ⟨k, A, cap, xs, rfl, hk, DD, RR⟩ := hrel
        clear D4
        by_cases hlt : k < n1
        · have hki : (k : Int) < (n1 : Int) := by omega
          have hk0 : (0 : Int) ≤ (k : Int) := by omega
          have hkk : (k : Int) ≤ 2000000 := by omega
          obtain ⟨t, ht⟩ : ∃ t, (cut 10 s).getD (k + 2) ⟨#[]⟩ = t := ⟨_, rfl⟩
          have HTZ : Hid (t.size ≤ 1400000) := by unfold Hid; rw [← ht]; exact Nat.le_trans (HZ.out _) (by decide)
          have q1 : wr.cell? ⟨b, 2 + k, none⟩ = some (.string t) := by rw [← ht, Nat.add_comm]; exact HY.out _ DD.out.x (k + 2) (by omega)
          have HTE := Lib.hid ht
          have HKZ : Hid (k < n1 ∧ n1 ≤ 1048576) := ⟨hlt, by omega⟩
          clear ht hk hlt
          go_wp2_with fail
          refine (impl_ParseOp_any t HTZ.out _ (HPW.out.ext (HX1.out.trans DD.out.x))).mono ?_
          rintro e w7 ⟨⟨op, okp, rfl, hrp⟩, hx7⟩
          have HRP := Lib.hid hrp
          have D5 : Hid (DQ w1 w7 g b0 b1 B (n2 : Int) bits A k cap (.slice A2 n2 c2) st (.slice A3 n3 c3) fin xs) := DD.out.ext hx7
          clear hrp hx7 q1 DD
          go_upto_region 14 with (fail)
          have E0 : Hid (Blk (w7.alloc (.cells #[.int .i64 op.k, .int .i64 op.g.k, .int .i64 op.g.a, .int .i64 op.g.b, .int .i64 op.g.c, .int .i64 op.q, .int .i64 op.bit, .int .i64 op.cond] 39)) w7.heap.size 39 #[.int .i64 op.k, .int .i64 op.g.k, .int .i64 op.g.a, .int .i64 op.g.b, .int .i64 op.g.c, .int .i64 op.q, .int .i64 op.bit, .int .i64 op.cond]) := Blk.new _ _ _
          have D6 : Hid (DQ w1 (w7.alloc (.cells #[.int .i64 op.k, .int .i64 op.g.k, .int .i64 op.g.a, .int .i64 op.g.b, .int .i64 op.g.c, .int .i64 op.q, .int .i64 op.bit, .int .i64 op.cond] 39)) g b0 b1 B (n2 : Int) bits A k cap (.slice A2 n2 c2) st (.slice A3 n3 c3) fin xs) := D5.out.ext ((Ext.refl _).alloc _)
          generalize w7.alloc (.cells #[.int .i64 op.k, .int .i64 op.g.k, .int .i64 op.g.a, .int .i64 op.g.b, .int .i64 op.g.c, .int .i64 op.q, .int .i64 op.bit, .int .i64 op.cond] 39) = W8 at *
          generalize w7.heap.size = h at *
          clear D5
          cases okp
          · have HN : Hid (∀ y : Cm, vC y = true → s ≠ ctx y) := comp_none_op HM.out (j := k) (by have := HKZ.out; omega) (by
              intro o ho he
              rw [HTE.out] at he
              rcases HRP.out with ⟨h, _⟩ | ⟨_, _, h⟩
              · cases h
              · exact h o ho he)
            obtain ⟨⟨a0, a1, a2, a3, a4⟩, z0, z1, z2, z3, z4⟩ := cells5 (HB2.out.ext D6.out.x)
            go_wp2
            exact bodyPost_ret (v := .tuple #[.agg #[.int .i64 0, .int .i64 0, .slice none 0 0, .slice none 0 0, .slice none 0 0], .bool false]) (ret_pair rfl _ _ _ _ _ _ _ rfl rfl ((HB2.out.ext D6.out.x).put5 (.int .i64 0) (.int .i64 0) (.slice none 0 0) (.slice none 0 0) (.slice none 0 0)) Tryz.underlying25 rfl Tryz.sizeCompR) rfl ⟨compRes_no rfl HN.out, ext_put5 (HX1.out.trans D6.out.x) (Nat.le_refl _) _ _ _ _ _⟩
          · have HOR : Hid (OR t op) := or_of HRP.out
            obtain ⟨⟨a0, a1, a2, a3, a4, a5, a6, a7⟩, _⟩ := cells8 E0.out
            have p2 : W8.cell? ⟨g, 2, none⟩ = some (.slice A k cap) := D6.out.b.cell 2
            have K9 : Hid (k ≤ 90000000) := by have := HKZ.out; unfold Hid; omega
            go_wp2_with (at_builtin; refine D6.out.app rfl _ _ rfl rfl op _ _ rfl rfl K9.out ?_; intro A' c' w9 hb9 hD9; have c0 : w9.cell? ⟨g, 2, none⟩ = some (.slice A k cap) := hb9.cell 2; have f0 : w9.frozen? ⟨g, 2, none⟩ = false := hb9.frozen 2)
            go_roundw
            case rel => exact ⟨_, _, _, _, .int .i64 ((k + 1 : Nat) : Int), ⟨k + 1, rfl, by have := HKZ.out; omega, A', c', xs ++ [op], Lib.hid hD9, Lib.hid (RR.out.snoc D6.out.len_ (by rw [HTE.out]; exact HOR.out))⟩, rfl, rfl, rfl, rfl, by first | rfl | go_num⟩
            case measure => simp [intOf]; have := HKZ.out; omega
        · have hki : ¬ ((k : Int) < (n1 : Int)) := by omega
          have HSS : Hid (∀ y : Cm, vC y = true → s = ctx y → (⟨(n2 : Int), bits, xs, st, fin⟩ : Cm) = y) := by
            intro y hv he
            have := comp_same (s := s) (bits := bits) (ops := xs) (st := st) (fin := fin) (m := n1 + 2 + 1) HM.out (fun p hp hl he => HQ3.out.2 p (by decide) hp (by rw [← HY0.out]; exact he)) (fun p hp hl he => HQ9.out.2 p (by decide) hp (by rw [← HYZ.out]; exact he)) HBT.out RR.out (by rw [DD.out.len_]; omega) y hv he
            rw [HN3.out] at this
            exact this
          have HKZ : Hid (k ≤ 1048576) := by unfold Hid; omega
          clear hk hlt
          have HSM : Hid (Cm.small ⟨(n2 : Int), bits, xs, st, fin⟩) := ⟨by have := DD.out.len_; have := HKZ.out; show xs.length ≤ _; omega, Nat.le_trans HQ3.out.1 Q0.out, Nat.le_trans HQ9.out.1 QZ.out⟩
          have d0 : wr.cell? ⟨g, 0, none⟩ = some (.int .i64 (n2 : Int)) := DD.out.b.cell 0
          have d1 : wr.cell? ⟨g, 1, none⟩ = some (.int .i64 bits) := DD.out.b.cell 1
          have d2 : wr.cell? ⟨g, 2, none⟩ = some (.slice A k cap) := DD.out.b.cell 2
          have d3 : wr.cell? ⟨g, 3, none⟩ = some (.slice A2 n2 c2) := DD.out.b.cell 3
          have d4 : wr.cell? ⟨g, 4, none⟩ = some (.slice A3 n3 c3) := DD.out.b.cell 4
          go_wp2_with fail
          refine (DD.out.fmt_impl HN3.out HN9.out HSM.out (HPW.out.ext (HX1.out.trans DD.out.x)).gn).mono ?_
          rintro e v9 ⟨rfl, hy9⟩
          have D9 := Lib.hid (DD.out.ext hy9)
          clear hy9 d0 d1 d2 d3 d4 DD
          obtain ⟨⟨a0, a1, a2, a3, a4⟩, z0, z1, z2, z3, z4⟩ := cells5 (HB2.out.ext D9.out.x)
          obtain ⟨os, hos⟩ : ∃ os, ctx ⟨(n2 : Int), bits, xs, st, fin⟩ = os := ⟨_, rfl⟩
          rw [hos]
          have HOS := Lib.hid hos
          clear hos
          obtain ⟨qq, hqq⟩ : ∃ qq, (ByteArray.toList os == ByteArray.toList s) = qq := ⟨_, rfl⟩
          cases qq
          · have HN : Hid (∀ y : Cm, vC y = true → s ≠ ctx y) := comp_none_other HSS.out (by rw [HOS.out]; exact hqq)
            go_wp2
            exact bodyPost_ret (v := .tuple #[.agg #[.int .i64 0, .int .i64 0, .slice none 0 0, .slice none 0 0, .slice none 0 0], .bool false]) (ret_pair rfl _ _ _ _ _ _ _ rfl rfl ((HB2.out.ext D9.out.x).put5 (.int .i64 0) (.int .i64 0) (.slice none 0 0) (.slice none 0 0) (.slice none 0 0)) Tryz.underlying25 rfl Tryz.sizeCompR) rfl ⟨compRes_no rfl HN.out, ext_put5 (HX1.out.trans D9.out.x) (Nat.le_refl _) _ _ _ _ _⟩
          · have HQ := Lib.hid (str_beq.1 hqq)
            have d0 : v9.cell? ⟨g, 0, none⟩ = some (.int .i64 (n2 : Int)) := D9.out.b.cell 0
            have d1 : v9.cell? ⟨g, 1, none⟩ = some (.int .i64 bits) := D9.out.b.cell 1
            have d2 : v9.cell? ⟨g, 2, none⟩ = some (.slice A k cap) := D9.out.b.cell 2
            have d3 : v9.cell? ⟨g, 3, none⟩ = some (.slice A2 n2 c2) := D9.out.b.cell 3
            have d4 : v9.cell? ⟨g, 4, none⟩ = some (.slice A3 n3 c3) := D9.out.b.cell 4
            go_wp2
            exact bodyPost_ret (v := .tuple #[.agg #[.int .i64 (n2 : Int), .int .i64 bits, .slice A k cap, .slice A2 n2 c2, .slice A3 n3 c3], .bool true]) (ret_pair rfl _ _ _ _ _ _ _ rfl rfl ((HB2.out.ext D9.out.x).put5 (.int .i64 (n2 : Int)) (.int .i64 bits) (.slice A k cap) (.slice A2 n2 c2) (.slice A3 n3 c3)) Tryz.underlying25 rfl Tryz.sizeCompR) rfl ⟨compRes_yes D9.out HL.out _ (Nat.le_trans (Nat.le_of_lt HL.out) D9.out.s.2) HN3.out HN9.out HSM.out rfl (ne_of_cut HM.out hz2) (HOS.out.trans HQ.out) HSS.out, ext_put5 (HX1.out.trans D9.out.x) (Nat.le_refl _) _ _ _ _ _⟩
end Go.Proofs.YteecjnnompjmiacGreatDoor
