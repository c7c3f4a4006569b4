/-
  Helper text (no claim of its own): states: comparison, times a power of the eighth root, by the reference. Printed by gen_am.py or gen_an.py.
-/
import Derived.Test.YtofbmkpfliofeabAsu
import Derived.Test.YtofbmkpfliofeabAno
import Derived.Test.YtofbmkpfliofeabAse
namespace Go.Proofs.Ytofbmkpfliofeab
open Go.ChangeShapes Go.WideShapes Go.ChangeAt Go.RowKit Go.Deep
set_option linter.unusedVariables false
set_option linter.unusedSimpArgs false
theorem eqD_iff {x y : Dw} : eqD x y = true ↔ x = y := by
  constructor
  · intro h
    unfold eqD at h
    simp only [Bool.and_eq_true, beq_iff_eq] at h
    exact Dw.eq (Zw.eq h.1.1.1.1 h.1.1.1.2 h.1.1.2 h.1.2) h.2
  · rintro rfl
    exact eqD_self x
theorem take_eq {us vs : List Dw} {k : Nat} {x : Dw} (h : us.take k = vs.take k) (hu : us[k]? = some x) (hv : vs[k]? = some x) : us.take (k + 1) = vs.take (k + 1) := by
  rw [List.take_add_one, List.take_add_one, hu, hv, h]
set_option maxRecDepth 100000 in
set_option maxHeartbeats 8000000 in
theorem EqualState_any (A B : Option Addr) (c d l : Nat) (us vs : List Dw) (w : World) (h : Rd w w.heap.size 5 A l (scells us)) (h' : Rd w w.heap.size 5 B l (scells vs)) (hu : us.length = l) (hv : vs.length = l) (hl : l ≤ 1048576) :
    Calls Try.prog 59 #[.slice A l c, .slice B l d] w fun e w' => (∃ b, e = .returned (.bool b) ∧ (b = true ↔ us = vs)) ∧ Ext w w' := by
  have HU := Lib.hid hu
  have HV := Lib.hid hv
  clear hu hv
  go_enter Try.func59, Try.ntmps59
  go_wp2
  go_loopw [5] (fun i wr => ∃ k : Nat, k ≤ l ∧ i = .int .i64 k ∧ Hid (us.take k = vs.take k) ∧ ∃ q, wr = w.drewN q) (fun i _ => l - (intOf i).toNat)
  case atStart => exact ⟨0, Nat.zero_le _, rfl, rfl, 0, rfl⟩
  case round =>
    obtain ⟨k, hk, rfl, HT, q, rfl⟩ := hrel
    by_cases hlt : k < l
    · obtain ⟨b, o, g, rfl, hb, hg, x0, x1, x2, x3, x4⟩ := dw_at h hlt
      obtain ⟨b', o', g', rfl, hb', hg', y0, y1, y2, y3, y4⟩ := dw_at h' hlt
      have HG := Lib.hid hg
      have HG' := Lib.hid hg'
      clear hg hg'
      obtain ⟨f, hf⟩ : ∃ f, f = eqD g g' := ⟨_, rfl⟩
      have HN := (show ∀ w, (Op.equalIn 10000 83 g.val g'.val).run Try.prog w = .ok f w from fun w => by rw [eqIn_dw, hf])
      have HF := Lib.hid hf
      clear hf
      have HE := Try.eqgDOmega
      cases f
      · go_wp2
        go_quiet (fail)
        go_wp2
        go_ret
        refine ⟨⟨false, rfl, by simp, fun e => ?_⟩, (by repeat (first | exact Ext.refl _ | assumption | refine Ext.alloc ?_ _ | refine Ext.drewN ?_ _ | refine Ext.drew ?_))⟩
        rw [e, HG'.out] at HG
        have e2 := HF.out
        rw [Option.some.inj HG.out, eqD_self] at e2
        exact e2
      · have HT2 : Hid (us.take (k + 1) = vs.take (k + 1)) := by
          have e2 := eqD_iff.1 HF.out.symm
          subst e2
          exact take_eq HT.out HG.out HG'.out
        go_wp2
        go_quiet (fail)
        go_wp2
        go_roundw
        case rel => exact ⟨k + 1, by omega, by go_num, HT2, _, rfl⟩
        case measure => simp [intOf]; omega
    · go_wp2
      go_ret
      refine ⟨⟨true, rfl, fun _ => ?_, fun _ => rfl⟩, (by repeat (first | exact Ext.refl _ | assumption | refine Ext.alloc ?_ _ | refine Ext.drewN ?_ _ | refine Ext.drew ?_))⟩
      have e2 := HT.out
      rw [List.take_of_length_le (by rw [HU.out]; omega), List.take_of_length_le (by rw [HV.out]; omega)] at e2
      exact e2
set_option maxRecDepth 100000 in
set_option maxHeartbeats 8000000 in
theorem ScaleState_of {n : Nat} (h1 : 1 ≤ n) (h4 : n ≤ 4) (pa pb pc pd : Int) (f : Dw → Dw) (A : Option Addr) (c : Nat) (vs : List Dw) (w : World) (h : Rd w w.heap.size 5 A vs.length (scells vs)) (hl : vs.length = 2 ^ n) (hd : ∀ x ∈ vs, dok x = true)
    (hC : ∀ y ∈ vs, ∀ w', Calls Try.prog 76 #[y.val, .agg #[.int .i64 pa, .int .i64 pb, .int .i64 pc, .int .i64 pd, .int .i64 0]] w' fun e w'' => e = .returned (.tuple #[(f y).val, .bool true]) ∧ Ext w' w'') :
    Calls Try.prog 57 #[.slice A vs.length c, .agg #[.int .i64 pa, .int .i64 pb, .int .i64 pc, .int .i64 pd, .int .i64 0]] w fun e w' => (∃ v, e = .returned (.tuple #[v, .bool true]) ∧ SOut (vs.map f) v w') ∧ Ext w w' := by
  have HV : Hid (∀ w', Ext w w' → Calls Try.prog 52 #[.slice A vs.length c] w' fun e w'' => e = .returned (.bool true) ∧ Ext w' w'') := fun w' hx => IsValidState_yes h1 h4 A c vs w' (h.ext hx) hl hd
  have hl16 : vs.length ≤ 16 := by rw [hl]; rcases (show n = 1 ∨ n = 2 ∨ n = 3 ∨ n = 4 by omega) with rfl | rfl | rfl | rfl <;> decide
  have HD := Lib.hid hC
  obtain ⟨l, hgl⟩ : ∃ l, vs.length = l := ⟨_, rfl⟩
  rw [hgl] at h HV hl16
  rw [hgl]
  have HL := Lib.hid hgl
  clear hl hd hgl h1 h4 hC
  go_enter Try.func57, Try.ntmps57
  go_upto_region 2 with (fail)
  have HB : Hid (Blk (w.alloc (.cells #[.int .i64 pa, .int .i64 pb, .int .i64 pc, .int .i64 pd, .int .i64 0] 83)) w.heap.size 83 #[.int .i64 pa, .int .i64 pb, .int .i64 pc, .int .i64 pd, .int .i64 0]) := Blk.new w _ _
  have HE : Hid (Ext w (w.alloc (.cells #[.int .i64 pa, .int .i64 pb, .int .i64 pc, .int .i64 pd, .int .i64 0] 83))) := (by repeat (first | exact Ext.refl _ | assumption | refine Ext.alloc ?_ _ | refine Ext.drewN ?_ _ | refine Ext.drew ?_))
  have ho0 : ((w.alloc (.cells #[.int .i64 pa, .int .i64 pb, .int .i64 pc, .int .i64 pd, .int .i64 0] 83)).alloc (.cells #[] 83)).ownsRow (w.alloc (.cells #[.int .i64 pa, .int .i64 pb, .int .i64 pc, .int .i64 pd, .int .i64 0] 83)).heap.size 83 5 (.slice (some ⟨(w.alloc (.cells #[.int .i64 pa, .int .i64 pb, .int .i64 pc, .int .i64 pd, .int .i64 0] 83)).heap.size, 0, none⟩) 0 0) 0 (scells []) := own_lit (Ext.refl _) _ _ 5 0 #[] _ rfl rfl rfl (by omega)
  have hsz : (w.alloc (.cells #[.int .i64 pa, .int .i64 pb, .int .i64 pc, .int .i64 pd, .int .i64 0] 83)).heap.size = w.heap.size + 1 := by simp
  generalize w.alloc (.cells #[.int .i64 pa, .int .i64 pb, .int .i64 pc, .int .i64 pd, .int .i64 0] 83) = w1 at *
  rw [hsz] at ho0
  have HD0 : Hid (DS w1 (w1.alloc (.cells #[] 83)) (some ⟨w.heap.size + 1, 0, none⟩) 0 0 []) := ⟨by rw [hsz]; exact ho0, (Ext.refl _).alloc _⟩
  clear ho0
  generalize w1.alloc (.cells #[] 83) = w2 at *
  go_wp2
  go_loopw [6, 7] (fun rv iv wr => ∃ (k : Nat) (A' : Option Addr) (cap : Nat), rv = .slice A' k cap ∧ iv = .int .i64 k ∧ k ≤ l ∧ Hid (DS w1 wr A' k cap ((vs.take k).map f))) (fun _ i _ => l - (intOf i).toNat)
  case atStart => exact ⟨0, _, 0, rfl, rfl, Nat.zero_le _, HD0⟩
  case round =>
    obtain ⟨k, A', cap, rfl, rfl, hk, HDk⟩ := hrel
    clear HD0
    by_cases hlt : k < l
    · obtain ⟨b, o, y, rfl, hb, hg, -⟩ := dw_at h hlt
      have HG := Lib.hid hg
      have HK : Hid (∀ w', Ext wr w' → (w'.cell? ⟨w.heap.size, 0, none⟩ = some (.int .i64 pa) ∧ w'.cell? ⟨w.heap.size, 1, none⟩ = some (.int .i64 pb) ∧ w'.cell? ⟨w.heap.size, 2, none⟩ = some (.int .i64 pc) ∧ w'.cell? ⟨w.heap.size, 3, none⟩ = some (.int .i64 pd) ∧ w'.cell? ⟨w.heap.size, 4, none⟩ = some (.int .i64 0)) ∧ (w'.cell? ⟨b, o + k * 5, none⟩ = some (.int .i64 y.n.a) ∧ w'.cell? ⟨b, o + k * 5 + 1, none⟩ = some (.int .i64 y.n.b) ∧ w'.cell? ⟨b, o + k * 5 + 2, none⟩ = some (.int .i64 y.n.c) ∧ w'.cell? ⟨b, o + k * 5 + 3, none⟩ = some (.int .i64 y.n.d) ∧ w'.cell? ⟨b, o + k * 5 + 4, none⟩ = some (.int .i64 y.e))) := fun w' hx => ⟨(cells5 (HB.out.ext (HDk.out.x.trans hx))).1, state_at (h.up (HE.out.trans (HDk.out.x.trans hx)) (Nat.le_refl _)) hlt HG.out⟩
      obtain ⟨z, hz⟩ : ∃ z, z = f y := ⟨_, rfl⟩
      have HC : Hid (∀ w', Calls Try.prog 76 #[y.val, .agg #[.int .i64 pa, .int .i64 pb, .int .i64 pc, .int .i64 pd, .int .i64 0]] w' fun e w'' => e = .returned (.tuple #[z.val, .bool true]) ∧ Ext w' w'') := fun w' => by
        rw [hz]
        exact HD.out y (List.mem_of_getElem? HG.out) w'
      have HTK : Hid ((vs.take (k + 1)).map f = (vs.take k).map f ++ [z]) := by
        unfold Hid
        rw [List.take_add_one, HG.out, List.map_append, hz]
        rfl
      have hk1 : IntKind.i64.wrap ((k : Int) + 1) = ((k + 1 : Nat) : Int) := by rw [IntWalk.i64_in _ (by omega)]; rfl
      have hk2 : wrap64 ((k : Int) + 1) = ((k + 1 : Nat) : Int) := by unfold wrap64; omega
      have HLT : Hid (k < l ∧ l ≤ 16) := ⟨hlt, hl16⟩
      clear hg hb hz
      obtain ⟨p0, ⟨x0, x1, x2, x3, x4⟩⟩ := HK.out wr (Ext.refl _)
      go_upto_region 5 with (fail)
      refine wp_region_held_drew (S := fun w' => (w'.cell? ⟨w.heap.size, 0, none⟩ = some (.int .i64 pa) ∧ w'.cell? ⟨w.heap.size, 1, none⟩ = some (.int .i64 pb) ∧ w'.cell? ⟨w.heap.size, 2, none⟩ = some (.int .i64 pc) ∧ w'.cell? ⟨w.heap.size, 3, none⟩ = some (.int .i64 pd) ∧ w'.cell? ⟨w.heap.size, 4, none⟩ = some (.int .i64 0)) ∧ (w'.cell? ⟨b, o + k * 5, none⟩ = some (.int .i64 y.n.a) ∧ w'.cell? ⟨b, o + k * 5 + 1, none⟩ = some (.int .i64 y.n.b) ∧ w'.cell? ⟨b, o + k * 5 + 2, none⟩ = some (.int .i64 y.n.c) ∧ w'.cell? ⟨b, o + k * 5 + 3, none⟩ = some (.int .i64 y.n.d) ∧ w'.cell? ⟨b, o + k * 5 + 4, none⟩ = some (.int .i64 y.e))) (by kernel_rfl) (HK.out _ (Ext.refl wr).drew) (fun hHeld => ?_)
      clear p0 x0 x1 x2 x3 x4
      (refine wpAnyH_take (i := 0) (v := ?_) rfl (by kernel_rfl) (by kernel_rfl) (by kernel_rfl) (fun _ _ _ h => h) (Or.inl ⟨by rfl, ?_⟩) (by assumption) ?_; rotate_left; · (intro w hSw; (try dsimp only at hSw); go_simp; all_goals with_reducible rfl); (try simp only [Act.put, List.getElem_toArray, List.getElem_cons_zero, List.getElem_cons_succ, List.setIfInBounds_toArray, List.set_cons_zero, List.set_cons_succ]))
      (try simp only [Act.put, List.getElem_toArray, List.getElem_cons_zero, List.getElem_cons_succ, List.setIfInBounds_toArray, List.set_cons_zero, List.set_cons_succ])
      (refine wpAnyH_take (i := 1) (v := ?_) rfl (by kernel_rfl) (by kernel_rfl) (by kernel_rfl) (fun _ _ _ h => h) (Or.inl ⟨by rfl, ?_⟩) (by assumption) ?_; rotate_left; · (intro w hSw; (try dsimp only at hSw); go_simp; all_goals with_reducible rfl); (try simp only [Act.put, List.getElem_toArray, List.getElem_cons_zero, List.getElem_cons_succ, List.setIfInBounds_toArray, List.set_cons_zero, List.set_cons_succ]))
      (try simp only [Act.put, List.getElem_toArray, List.getElem_cons_zero, List.getElem_cons_succ, List.setIfInBounds_toArray, List.set_cons_zero, List.set_cons_succ])
      (refine wpAnyH_take (i := 2) (v := ?_) rfl (by kernel_rfl) (by kernel_rfl) (by kernel_rfl) (fun _ _ _ h => h) (Or.inl ⟨by rfl, ?_⟩) (by assumption) ?_; rotate_left; · (intro w hSw; (try dsimp only at hSw); go_simp; all_goals with_reducible rfl); (try simp only [Act.put, List.getElem_toArray, List.getElem_cons_zero, List.getElem_cons_succ, List.setIfInBounds_toArray, List.set_cons_zero, List.set_cons_succ]))
      (try simp only [Act.put, List.getElem_toArray, List.getElem_cons_zero, List.getElem_cons_succ, List.setIfInBounds_toArray, List.set_cons_zero, List.set_cons_succ])
      (refine wpAnyH_take (i := 3) (v := ?_) rfl (by kernel_rfl) (by kernel_rfl) (by kernel_rfl) (fun _ _ _ h => h) (Or.inl ⟨by rfl, ?_⟩) (by assumption) ?_; rotate_left; · (intro w hSw; (try dsimp only at hSw); go_simp; all_goals with_reducible rfl); (try simp only [Act.put, List.getElem_toArray, List.getElem_cons_zero, List.getElem_cons_succ, List.setIfInBounds_toArray, List.set_cons_zero, List.set_cons_succ]))
      (try simp only [Act.put, List.getElem_toArray, List.getElem_cons_zero, List.getElem_cons_succ, List.setIfInBounds_toArray, List.set_cons_zero, List.set_cons_succ])
      (refine wpAnyH_take (i := 4) (v := ?_) rfl (by kernel_rfl) (by kernel_rfl) (by kernel_rfl) (fun _ _ _ h => h) (Or.inl ⟨by rfl, ?_⟩) (by assumption) ?_; rotate_left; · (intro w hSw; (try dsimp only at hSw); go_simp; all_goals with_reducible rfl); (try simp only [Act.put, List.getElem_toArray, List.getElem_cons_zero, List.getElem_cons_succ, List.setIfInBounds_toArray, List.set_cons_zero, List.set_cons_succ]))
      (try simp only [Act.put, List.getElem_toArray, List.getElem_cons_zero, List.getElem_cons_succ, List.setIfInBounds_toArray, List.set_cons_zero, List.set_cons_succ])
      refine wpAnyH_ready (rs := [5, 9]) (by kernel_rfl) (by simp) ?_
      refine AllReadyH.cons rfl (fun K hK => ?_) (AllReadyH.cons rfl (fun K hK => ?_) AllReadyH.nil)
      · go_simp
        refine (HC.out _).mono ?_
        rintro e v5 ⟨rfl, hy5⟩
        have HY5 : Hid (Ext wr v5) := Ext.trans (Ext.refl wr).drew hy5
        clear hy5
        refine hK.out _ _ (HK.out _ (HY5.out)) (fun hHeld => ?_)
        clear hK K
        (try simp only [Act.put, List.getElem_toArray, List.getElem_cons_zero, List.getElem_cons_succ, List.setIfInBounds_toArray, List.set_cons_zero, List.set_cons_succ])
        (refine wpAnyH_take (i := 6) (v := ?_) rfl (by kernel_rfl) (by kernel_rfl) (by kernel_rfl) (fun _ _ _ h => h) (Or.inl ⟨by rfl, ?_⟩) (by assumption) ?_; rotate_left; · (intro w hSw; (try dsimp only at hSw); go_simp; all_goals with_reducible rfl); (try simp only [Act.put, List.getElem_toArray, List.getElem_cons_zero, List.getElem_cons_succ, List.setIfInBounds_toArray, List.set_cons_zero, List.set_cons_succ]))
        (try simp only [Act.put, List.getElem_toArray, List.getElem_cons_zero, List.getElem_cons_succ, List.setIfInBounds_toArray, List.set_cons_zero, List.set_cons_succ])
        (refine wpAnyH_take (i := 7) (v := ?_) rfl (by kernel_rfl) (by kernel_rfl) (by kernel_rfl) (fun _ _ _ h => h) (Or.inl ⟨by rfl, ?_⟩) (by assumption) ?_; rotate_left; · (intro w hSw; (try dsimp only at hSw); go_simp; all_goals with_reducible rfl); (try simp only [Act.put, List.getElem_toArray, List.getElem_cons_zero, List.getElem_cons_succ, List.setIfInBounds_toArray, List.set_cons_zero, List.set_cons_succ]))
        (try simp only [Act.put, List.getElem_toArray, List.getElem_cons_zero, List.getElem_cons_succ, List.setIfInBounds_toArray, List.set_cons_zero, List.set_cons_succ])
        (refine wpAnyH_take (i := 8) (v := ?_) rfl (by kernel_rfl) (by kernel_rfl) (by kernel_rfl) (fun _ _ _ h => h) (Or.inl ⟨by rfl, ?_⟩) (by assumption) ?_; rotate_left; · (intro w hSw; (try dsimp only at hSw); go_simp; all_goals with_reducible rfl); (try simp only [Act.put, List.getElem_toArray, List.getElem_cons_zero, List.getElem_cons_succ, List.setIfInBounds_toArray, List.set_cons_zero, List.set_cons_succ]))
        (try simp only [Act.put, List.getElem_toArray, List.getElem_cons_zero, List.getElem_cons_succ, List.setIfInBounds_toArray, List.set_cons_zero, List.set_cons_succ])
        refine wpAnyH_ready (rs := [9]) (by kernel_rfl) (by simp) ?_
        refine AllReadyH.cons rfl (fun K hK => ?_) AllReadyH.nil
        go_simp
        have HX6 : Hid (Ext wr (v5.alloc (.cells #[.int .i64 0, .int .i64 0, .int .i64 0, .int .i64 0, .int .i64 0] 83))) := HY5.out.alloc _
        have HB6 : Hid (Blk (v5.alloc (.cells #[.int .i64 0, .int .i64 0, .int .i64 0, .int .i64 0, .int .i64 0] 83)) v5.heap.size 83 #[.int .i64 0, .int .i64 0, .int .i64 0, .int .i64 0, .int .i64 0]) := Blk.new _ _ _
        have hs6 : wr.heap.size ≤ v5.heap.size := HY5.out.size
        refine hK.out _ _ (HK.out _ (HX6.out)) (fun hHeld => ?_)
        clear hK K
        (try simp only [Act.put, List.getElem_toArray, List.getElem_cons_zero, List.getElem_cons_succ, List.setIfInBounds_toArray, List.set_cons_zero, List.set_cons_succ])
        generalize v5.alloc (.cells #[.int .i64 0, .int .i64 0, .int .i64 0, .int .i64 0, .int .i64 0] 83) = w6 at *
        generalize v5.heap.size = s at *
        clear HY5
        refine wpAnyH_ready (rs := [10]) (by kernel_rfl) (by simp) ?_
        refine AllReadyH.cons rfl (fun K hK => ?_) AllReadyH.nil
        obtain ⟨⟨q0, q1, q2, q3, q4⟩, f0, f1, f2, f3, f4⟩ := cells5 HB6.out
        go_simp
        have HX7 : Hid (Ext wr (((((w6.setCell ⟨s, 0, none⟩ (.int .i64 z.n.a)).setCell ⟨s, 1, none⟩ (.int .i64 z.n.b)).setCell ⟨s, 2, none⟩ (.int .i64 z.n.c)).setCell ⟨s, 3, none⟩ (.int .i64 z.n.d)).setCell ⟨s, 4, none⟩ (.int .i64 z.e))) := ext_put5 (g := s) HX6.out hs6 _ _ _ _ _
        have HB7 : Hid (Blk (((((w6.setCell ⟨s, 0, none⟩ (.int .i64 z.n.a)).setCell ⟨s, 1, none⟩ (.int .i64 z.n.b)).setCell ⟨s, 2, none⟩ (.int .i64 z.n.c)).setCell ⟨s, 3, none⟩ (.int .i64 z.n.d)).setCell ⟨s, 4, none⟩ (.int .i64 z.e)) s 83 #[.int .i64 z.n.a, .int .i64 z.n.b, .int .i64 z.n.c, .int .i64 z.n.d, .int .i64 z.e]) := HB6.out.put5 _ _ _ _ _
        refine hK.out _ _ (HK.out _ (HX7.out)) (fun hHeld => ?_)
        clear hK K
        (try simp only [Act.put, List.getElem_toArray, List.getElem_cons_zero, List.getElem_cons_succ, List.setIfInBounds_toArray, List.set_cons_zero, List.set_cons_succ])
        (refine wpAnyH_take (i := 11) (v := ?_) rfl (by kernel_rfl) (by kernel_rfl) (by kernel_rfl) (fun _ _ _ h => h) (Or.inl ⟨by rfl, ?_⟩) (by assumption) ?_; rotate_left; · (intro w hSw; (try dsimp only at hSw); go_simp; all_goals with_reducible rfl); (try simp only [Act.put, List.getElem_toArray, List.getElem_cons_zero, List.getElem_cons_succ, List.setIfInBounds_toArray, List.set_cons_zero, List.set_cons_succ]))
        (refine wpAnyH_done (by kernel_rfl) ?_ _)
        clear q0 q1 q2 q3 q4 f0 f1 f2 f3 f4 hHeld
        generalize (((((w6.setCell ⟨s, 0, none⟩ (.int .i64 z.n.a)).setCell ⟨s, 1, none⟩ (.int .i64 z.n.b)).setCell ⟨s, 2, none⟩ (.int .i64 z.n.c)).setCell ⟨s, 3, none⟩ (.int .i64 z.n.d)).setCell ⟨s, 4, none⟩ (.int .i64 z.e)) = w7 at *
        clear HX6 HB6 HK hs6
        have HD7 := Lib.hid (HDk.out.ext HX7.out)
        clear HDk HC
        obtain ⟨⟨q0, q1, q2, q3, q4⟩, -⟩ := cells5 HB7.out
        go_wp2_with fail
        refine (HV.out _ (HE.out.trans HD7.out.x)).mono ?_
        rintro e w8 ⟨rfl, hx8⟩
        have HD8 := Lib.hid (HD7.out.ext hx8)
        have HB8 := Lib.hid (HB7.out.ext hx8)
        clear HD7 HB7 hx8 q0 q1 q2 q3 q4
        obtain ⟨⟨q0, q1, q2, q3, q4⟩, -⟩ := cells5 HB8.out
        go_wp2_with (at_builtin; refine appDOmegaS (w0 := w1) rfl _ _ rfl _ k ((vs.take k).map f) rfl (own_ext HD8.out.o ((Ext.refl _).alloc _)) (HD8.out.x.alloc _) _ 1 1 [z] rfl (rd_new _ _ _ 5 _ (by simp [Dw.cells]) (by simp [Dw.cells])) (by have := HLT.out; omega) ?_; intro v' w9 g1 g2 g3 g4)
        obtain ⟨A9, c9, rfl, _⟩ := own_slice g1
        have HD9 : Hid (DS w1 w9 A9 (k + 1) c9 ((vs.take (k + 1)).map f)) := ⟨by rw [HTK.out]; exact g1, g2⟩
        clear g1 g2 g3 g4
        go_roundw
        case rel => exact ⟨k + 1, A9, c9, rfl, by first | rfl | rw [hk1] | rw [hk2], by have := HLT.out; omega, HD9⟩
        case measure => simp [intOf, hk2]; have := HLT.out; omega
      · go_simp
        refine hK.out _ _ (HK.out _ (((Ext.refl wr).alloc _).drew)) (fun hHeld => ?_)
        clear hK K
        (try simp only [Act.put, List.getElem_toArray, List.getElem_cons_zero, List.getElem_cons_succ, List.setIfInBounds_toArray, List.set_cons_zero, List.set_cons_succ])
        refine wpAnyH_ready (rs := [5]) (by kernel_rfl) (by simp) ?_
        refine AllReadyH.cons rfl (fun K hK => ?_) AllReadyH.nil
        go_simp
        refine (HC.out _).mono ?_
        rintro e w6 ⟨rfl, hy5⟩
        have HX6 : Hid (Ext wr w6) := Ext.trans ((Ext.refl wr).alloc (.cells #[.int .i64 0, .int .i64 0, .int .i64 0, .int .i64 0, .int .i64 0] 83)).drew hy5
        have HB6 : Hid (Blk w6 wr.heap.size 83 #[.int .i64 0, .int .i64 0, .int .i64 0, .int .i64 0, .int .i64 0]) := ((Blk.new wr 83 #[.int .i64 0, .int .i64 0, .int .i64 0, .int .i64 0, .int .i64 0]).ext ((Ext.refl _).drew)).ext hy5
        have hs6 : wr.heap.size ≤ wr.heap.size := Nat.le_refl _
        clear hy5
        refine hK.out _ _ (HK.out _ (HX6.out)) (fun hHeld => ?_)
        clear hK K
        (try simp only [Act.put, List.getElem_toArray, List.getElem_cons_zero, List.getElem_cons_succ, List.setIfInBounds_toArray, List.set_cons_zero, List.set_cons_succ])
        (refine wpAnyH_take (i := 6) (v := ?_) rfl (by kernel_rfl) (by kernel_rfl) (by kernel_rfl) (fun _ _ _ h => h) (Or.inl ⟨by rfl, ?_⟩) (by assumption) ?_; rotate_left; · (intro w hSw; (try dsimp only at hSw); go_simp; all_goals with_reducible rfl); (try simp only [Act.put, List.getElem_toArray, List.getElem_cons_zero, List.getElem_cons_succ, List.setIfInBounds_toArray, List.set_cons_zero, List.set_cons_succ]))
        (try simp only [Act.put, List.getElem_toArray, List.getElem_cons_zero, List.getElem_cons_succ, List.setIfInBounds_toArray, List.set_cons_zero, List.set_cons_succ])
        (refine wpAnyH_take (i := 7) (v := ?_) rfl (by kernel_rfl) (by kernel_rfl) (by kernel_rfl) (fun _ _ _ h => h) (Or.inl ⟨by rfl, ?_⟩) (by assumption) ?_; rotate_left; · (intro w hSw; (try dsimp only at hSw); go_simp; all_goals with_reducible rfl); (try simp only [Act.put, List.getElem_toArray, List.getElem_cons_zero, List.getElem_cons_succ, List.setIfInBounds_toArray, List.set_cons_zero, List.set_cons_succ]))
        (try simp only [Act.put, List.getElem_toArray, List.getElem_cons_zero, List.getElem_cons_succ, List.setIfInBounds_toArray, List.set_cons_zero, List.set_cons_succ])
        (refine wpAnyH_take (i := 8) (v := ?_) rfl (by kernel_rfl) (by kernel_rfl) (by kernel_rfl) (fun _ _ _ h => h) (Or.inl ⟨by rfl, ?_⟩) (by assumption) ?_; rotate_left; · (intro w hSw; (try dsimp only at hSw); go_simp; all_goals with_reducible rfl); (try simp only [Act.put, List.getElem_toArray, List.getElem_cons_zero, List.getElem_cons_succ, List.setIfInBounds_toArray, List.set_cons_zero, List.set_cons_succ]))
        (try simp only [Act.put, List.getElem_toArray, List.getElem_cons_zero, List.getElem_cons_succ, List.setIfInBounds_toArray, List.set_cons_zero, List.set_cons_succ])
        obtain ⟨s, hs⟩ : ∃ s, s = wr.heap.size := ⟨_, rfl⟩
        rw [← hs] at HB6 ⊢
        replace hs6 : wr.heap.size ≤ s := by rw [hs]; exact Nat.le_refl _
        clear hs
        refine wpAnyH_ready (rs := [10]) (by kernel_rfl) (by simp) ?_
        refine AllReadyH.cons rfl (fun K hK => ?_) AllReadyH.nil
        obtain ⟨⟨q0, q1, q2, q3, q4⟩, f0, f1, f2, f3, f4⟩ := cells5 HB6.out
        go_simp
        have HX7 : Hid (Ext wr (((((w6.setCell ⟨s, 0, none⟩ (.int .i64 z.n.a)).setCell ⟨s, 1, none⟩ (.int .i64 z.n.b)).setCell ⟨s, 2, none⟩ (.int .i64 z.n.c)).setCell ⟨s, 3, none⟩ (.int .i64 z.n.d)).setCell ⟨s, 4, none⟩ (.int .i64 z.e))) := ext_put5 (g := s) HX6.out hs6 _ _ _ _ _
        have HB7 : Hid (Blk (((((w6.setCell ⟨s, 0, none⟩ (.int .i64 z.n.a)).setCell ⟨s, 1, none⟩ (.int .i64 z.n.b)).setCell ⟨s, 2, none⟩ (.int .i64 z.n.c)).setCell ⟨s, 3, none⟩ (.int .i64 z.n.d)).setCell ⟨s, 4, none⟩ (.int .i64 z.e)) s 83 #[.int .i64 z.n.a, .int .i64 z.n.b, .int .i64 z.n.c, .int .i64 z.n.d, .int .i64 z.e]) := HB6.out.put5 _ _ _ _ _
        refine hK.out _ _ (HK.out _ (HX7.out)) (fun hHeld => ?_)
        clear hK K
        (try simp only [Act.put, List.getElem_toArray, List.getElem_cons_zero, List.getElem_cons_succ, List.setIfInBounds_toArray, List.set_cons_zero, List.set_cons_succ])
        (refine wpAnyH_take (i := 11) (v := ?_) rfl (by kernel_rfl) (by kernel_rfl) (by kernel_rfl) (fun _ _ _ h => h) (Or.inl ⟨by rfl, ?_⟩) (by assumption) ?_; rotate_left; · (intro w hSw; (try dsimp only at hSw); go_simp; all_goals with_reducible rfl); (try simp only [Act.put, List.getElem_toArray, List.getElem_cons_zero, List.getElem_cons_succ, List.setIfInBounds_toArray, List.set_cons_zero, List.set_cons_succ]))
        (refine wpAnyH_done (by kernel_rfl) ?_ _)
        clear q0 q1 q2 q3 q4 f0 f1 f2 f3 f4 hHeld
        generalize (((((w6.setCell ⟨s, 0, none⟩ (.int .i64 z.n.a)).setCell ⟨s, 1, none⟩ (.int .i64 z.n.b)).setCell ⟨s, 2, none⟩ (.int .i64 z.n.c)).setCell ⟨s, 3, none⟩ (.int .i64 z.n.d)).setCell ⟨s, 4, none⟩ (.int .i64 z.e)) = w7 at *
        clear HX6 HB6 HK hs6
        have HD7 := Lib.hid (HDk.out.ext HX7.out)
        clear HDk HC
        obtain ⟨⟨q0, q1, q2, q3, q4⟩, -⟩ := cells5 HB7.out
        go_wp2_with fail
        refine (HV.out _ (HE.out.trans HD7.out.x)).mono ?_
        rintro e w8 ⟨rfl, hx8⟩
        have HD8 := Lib.hid (HD7.out.ext hx8)
        have HB8 := Lib.hid (HB7.out.ext hx8)
        clear HD7 HB7 hx8 q0 q1 q2 q3 q4
        obtain ⟨⟨q0, q1, q2, q3, q4⟩, -⟩ := cells5 HB8.out
        go_wp2_with (at_builtin; refine appDOmegaS (w0 := w1) rfl _ _ rfl _ k ((vs.take k).map f) rfl (own_ext HD8.out.o ((Ext.refl _).alloc _)) (HD8.out.x.alloc _) _ 1 1 [z] rfl (rd_new _ _ _ 5 _ (by simp [Dw.cells]) (by simp [Dw.cells])) (by have := HLT.out; omega) ?_; intro v' w9 g1 g2 g3 g4)
        obtain ⟨A9, c9, rfl, _⟩ := own_slice g1
        have HD9 : Hid (DS w1 w9 A9 (k + 1) c9 ((vs.take (k + 1)).map f)) := ⟨by rw [HTK.out]; exact g1, g2⟩
        clear g1 g2 g3 g4
        go_roundw
        case rel => exact ⟨k + 1, A9, c9, rfl, by first | rfl | rw [hk1] | rw [hk2], by have := HLT.out; omega, HD9⟩
        case measure => simp [intOf, hk2]; have := HLT.out; omega
    · have hkl : k = l := by omega
      subst hkl
      go_wp2_with fail
      refine (HV.out _ (HE.out.trans HDk.out.x)).mono ?_
      rintro e w8 ⟨rfl, hx8⟩
      have HD8 := HDk.out.ext hx8
      rw [List.take_of_length_le (by rw [HL.out]; exact Nat.le_refl _)] at HD8
      go_wp2
      go_ret2
      exact ⟨⟨_, rfl, HD8.out⟩, HE.out.trans HD8.x⟩
/-- An amplitude times a power of the eighth root. -/
def rotD (j : Nat) (x : Dw) : Dw := ⟨rot j x.n, x.e⟩
theorem rotD_ok {j : Nat} {x : Dw} (hj : j < 8) (h : dok x = true) : dok (rotD j x) = true := (mulD_ph hj h).2
theorem ScaleState_ph {n : Nat} (h1 : 1 ≤ n) (h4 : n ≤ 4) {j : Nat} (hj : j < 8) (A : Option Addr) (c : Nat) (vs : List Dw) (w : World) (h : Rd w w.heap.size 5 A vs.length (scells vs)) (hl : vs.length = 2 ^ n) (hd : ∀ x ∈ vs, dok x = true) :
    Calls Try.prog 57 #[.slice A vs.length c, (ph j).val] w fun e w' => (∃ v, e = .returned (.tuple #[v, .bool true]) ∧ SOut (vs.map (rotD j)) v w') ∧ Ext w w' :=
  ScaleState_of h1 h4 (zw j).a (zw j).b (zw j).c (zw j).d (rotD j) A c vs w h hl hd fun y hy w' => by
    have hk := hd y hy
    have h1 := (mulD_ph hj hk).1
    have h2 := MulDOmega_yes y (ph j) w' hk (ph_ok j) (zok_near.2 (rot_near hj (zok_near.1 (dok_iff.1 hk).1))) (by have := (dok_iff.1 hk).2.2.1; show y.e + 0 ≤ 60; omega)
    rw [h1] at h2
    exact h2
end Go.Proofs.Ytofbmkpfliofeab
