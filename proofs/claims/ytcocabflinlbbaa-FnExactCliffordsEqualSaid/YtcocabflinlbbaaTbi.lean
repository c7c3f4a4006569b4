/-
  Helper text (no claim of its own): the tableau of the identity, by the program and by the reference. Printed by gen_tc.py.
-/
import Derived.Test.YtcocabflinlbbaaTbd
import Derived.Test.YtcocabflinlbbaaIsp
namespace Go.Proofs.Ytcocabflinlbbaa
open Go.ChangeShapes Go.WideShapes Go.ChangeAt Go.RowKit Go.Deep
set_option linter.unusedVariables false
set_option linter.unusedSimpArgs false
/-- X or Z of a qubit. -/
theorem id_step {n : Int} {k : Nat} (h1 : 1 ≤ n) (h4 : n ≤ 4) (hk : (k : Int) < 2 * n) : ∃ (q : Int) (z : Bool), (k : Int).tmod n = q ∧ (0 ≤ q ∧ q ≤ 3) ∧ decide (n ≤ (k : Int)) = z ∧ sgl n q z = idRow n k := by
  rcases (show n = 1 ∨ n = 2 ∨ n = 3 ∨ n = 4 by omega) with rfl | rfl | rfl | rfl <;>
  rcases (show k = 0 ∨ k = 1 ∨ k = 2 ∨ k = 3 ∨ k = 4 ∨ k = 5 ∨ k = 6 ∨ k = 7 by omega) with rfl | rfl | rfl | rfl | rfl | rfl | rfl | rfl <;> first | (exfalso; omega) | exact ⟨_, _, rfl, by decide, rfl, rfl⟩
set_option maxRecDepth 100000 in
set_option maxHeartbeats 8000000 in
theorem spec_IdentityTableau_any (n : Int) (w : World) (h1 : 1 ≤ n) (h4 : n ≤ 4) : Calls Try.prog 17 #[.int .i64 n] w fun e w' => (∃ v, e = .returned v ∧ TabOut n (idT n.toNat) v w') ∧ Ext w w' := by
  have hw2 : IntKind.i64.wrap (2 * n) = 2 * n := IntWalk.i64_in _ (by omega)
  have HN : Hid (1 ≤ n ∧ n ≤ 4) := ⟨h1, h4⟩
  have hn0 : (n == 0) = false := by rw [beq_eq_false_iff_ne]; omega
  have hnz : ¬ n = 0 := by omega
  go_enter Try.func17, Try.ntmps17
  go_wp2_with fail
  refine (l1In_yes _ _ _ _ h1 h4).mono ?_
  rintro e w1 ⟨rfl, rfl⟩
  go_wp2
  have HR : Hid (Blk ((w.alloc (.cells #[.int .i64 0, .slice none 0 0] 35)).alloc (.cells #[.int .i64 n, .slice none 0 0] 35)) w.heap.size 35 #[.int .i64 0, .slice none 0 0]) := (Blk.new w _ _).alloc _
  have HD : Hid (DT w ((w.alloc (.cells #[.int .i64 0, .slice none 0 0] 35)).alloc (.cells #[.int .i64 n, .slice none 0 0] 35)) (w.heap.size + 1) n none 0 0 []) := ⟨Blk.newAt (by simp), ⟨rfl, Or.inl ⟨rfl, rfl⟩⟩, (by repeat (first | exact Ext.refl _ | assumption | refine Ext.alloc ?_ _ | refine Ext.drewN ?_ _ | refine Ext.drew ?_)), by omega⟩
  generalize ((w.alloc (.cells #[.int .i64 0, .slice none 0 0] 35)).alloc (.cells #[.int .i64 n, .slice none 0 0] 35)) = w2 at *
  go_loopw [4] (fun iv wr => ∃ (k : Nat) (A : Option Addr) (cap : Nat), iv = .int .i64 k ∧ (k : Int) ≤ 2 * n ∧ Hid (DT w wr (w.heap.size + 1) n A k cap (idL n k)) ∧ Hid (Blk wr w.heap.size 35 #[.int .i64 0, .slice none 0 0])) (fun i _ => 8 - (intOf i).toNat)
  case atStart => exact ⟨0, none, 0, rfl, by omega, HD, HR⟩
  case round =>
    obtain ⟨k, A, cap, rfl, hk, HD0, HR0⟩ := hrel
    clear HD HR
    by_cases hlt : (k : Int) < 2 * n
    · obtain ⟨q, z, hq, hq03, hz, hy⟩ := id_step h1 h4 hlt
      have hz2 : decide ((k : Int) ≥ n) = z := hz
      have hqw : IntKind.i64.wrap q = q := IntWalk.i64_in _ (by omega)
      obtain ⟨y, hyy⟩ : ∃ y, idRow n k = y := ⟨_, rfl⟩
      rw [hyy] at hy
      have HYY := Lib.hid hyy
      have HS : Hid (∀ w', Calls Try.prog 27 #[.int .i64 n, .int .i64 q, .bool z] w' fun e w'' => e = .returned (.agg #[.int .i64 y.n, .int .i64 y.x, .int .i64 y.z, .int .i64 y.p]) ∧ Ext w' w'') := fun w' => by rw [← hy]; exact spec_l25Single_any n q z w' hq03.1 hq03.2
      clear hyy hy hq03
      have hk8 : k < 8 := by omega
      have HK8 : Hid (k < 8 ∧ (k : Int) < 2 * n) := ⟨hk8, hlt⟩
      go_upto_region 7 with (fail)
      clear hlt hk hk8 hw2
      have HDd := Lib.hid (HD0.out.ext (Ext.refl _).drew)
      have HRd := Lib.hid (HR0.out.ext (Ext.refl _).drew)
      have hHeld : True := trivial
      refine wp_region_held_drew (S := fun _ => True) (by kernel_rfl) trivial (fun hHeld => ?_)
      (refine wpAnyH_take (i := 0) (v := ?_) rfl (by kernel_rfl) (by kernel_rfl) (by kernel_rfl) (fun _ _ _ h => h) (Or.inl ⟨by rfl, ?_⟩) (by assumption) ?_; rotate_left; · (intro w hSw; (try dsimp only at hSw); go_simp; all_goals with_reducible rfl); (try simp only [Act.put, List.getElem_toArray, List.getElem_cons_zero, List.getElem_cons_succ, List.setIfInBounds_toArray, List.set_cons_zero, List.set_cons_succ]))
      (try simp only [Act.put, List.getElem_toArray, List.getElem_cons_zero, List.getElem_cons_succ, List.setIfInBounds_toArray, List.set_cons_zero, List.set_cons_succ])
      (refine wpAnyH_take (i := 2) (v := ?_) rfl (by kernel_rfl) (by kernel_rfl) (by kernel_rfl) (fun _ _ _ h => h) (Or.inl ⟨by rfl, ?_⟩) (by assumption) ?_; rotate_left; · (intro w hSw; (try dsimp only at hSw); go_simp; all_goals with_reducible rfl); (try simp only [Act.put, List.getElem_toArray, List.getElem_cons_zero, List.getElem_cons_succ, List.setIfInBounds_toArray, List.set_cons_zero, List.set_cons_succ]))
      (try simp only [Act.put, List.getElem_toArray, List.getElem_cons_zero, List.getElem_cons_succ, List.setIfInBounds_toArray, List.set_cons_zero, List.set_cons_succ])
      (refine wpAnyH_take (i := 3) (v := ?_) rfl (by kernel_rfl) (by kernel_rfl) (by kernel_rfl) (fun _ _ _ h => h) (Or.inl ⟨by rfl, ?_⟩) (by assumption) ?_; rotate_left; · (intro w hSw; (try dsimp only at hSw); go_simp; all_goals with_reducible rfl); (try simp only [Act.put, List.getElem_toArray, List.getElem_cons_zero, List.getElem_cons_succ, List.setIfInBounds_toArray, List.set_cons_zero, List.set_cons_succ]))
      (try simp only [Act.put, List.getElem_toArray, List.getElem_cons_zero, List.getElem_cons_succ, List.setIfInBounds_toArray, List.set_cons_zero, List.set_cons_succ])
      (refine wpAnyH_take (i := 4) (v := ?_) rfl (by kernel_rfl) (by kernel_rfl) (by kernel_rfl) (fun _ _ _ h => h) (Or.inl ⟨by rfl, ?_⟩) (by assumption) ?_; rotate_left; · (intro w hSw; (try dsimp only at hSw); go_simp; all_goals with_reducible rfl); (try simp only [Act.put, List.getElem_toArray, List.getElem_cons_zero, List.getElem_cons_succ, List.setIfInBounds_toArray, List.set_cons_zero, List.set_cons_succ]))
      (try simp only [Act.put, List.getElem_toArray, List.getElem_cons_zero, List.getElem_cons_succ, List.setIfInBounds_toArray, List.set_cons_zero, List.set_cons_succ])
      (refine wpAnyH_take (i := 5) (v := ?_) rfl (by kernel_rfl) (by kernel_rfl) (by kernel_rfl) (fun _ _ _ h => h) (Or.inl ⟨by rfl, ?_⟩) (by assumption) ?_; rotate_left; · (intro w hSw; (try dsimp only at hSw); go_simp; all_goals with_reducible rfl); (try simp only [Act.put, List.getElem_toArray, List.getElem_cons_zero, List.getElem_cons_succ, List.setIfInBounds_toArray, List.set_cons_zero, List.set_cons_succ]))
      (try simp only [Act.put, List.getElem_toArray, List.getElem_cons_zero, List.getElem_cons_succ, List.setIfInBounds_toArray, List.set_cons_zero, List.set_cons_succ])
      (refine wpAnyH_take (i := 6) (v := ?_) rfl (by kernel_rfl) (by kernel_rfl) (by kernel_rfl) (fun _ _ _ h => h) (Or.inl ⟨by rfl, ?_⟩) (by assumption) ?_; rotate_left; · (intro w hSw; (try dsimp only at hSw); go_simp; all_goals with_reducible rfl); (try simp only [Act.put, List.getElem_toArray, List.getElem_cons_zero, List.getElem_cons_succ, List.setIfInBounds_toArray, List.set_cons_zero, List.set_cons_succ]))
      (try simp only [Act.put, List.getElem_toArray, List.getElem_cons_zero, List.getElem_cons_succ, List.setIfInBounds_toArray, List.set_cons_zero, List.set_cons_succ])
      (refine wpAnyH_take (i := 7) (v := ?_) rfl (by kernel_rfl) (by kernel_rfl) (by kernel_rfl) (fun _ _ _ h => h) (Or.inl ⟨by rfl, ?_⟩) (by assumption) ?_; rotate_left; · (intro w hSw; (try dsimp only at hSw); go_simp; all_goals with_reducible rfl); (try simp only [Act.put, List.getElem_toArray, List.getElem_cons_zero, List.getElem_cons_succ, List.setIfInBounds_toArray, List.set_cons_zero, List.set_cons_succ]))
      (try simp only [Act.put, List.getElem_toArray, List.getElem_cons_zero, List.getElem_cons_succ, List.setIfInBounds_toArray, List.set_cons_zero, List.set_cons_succ])
      (refine wpAnyH_take (i := 8) (v := ?_) rfl (by kernel_rfl) (by kernel_rfl) (by kernel_rfl) (fun _ _ _ h => h) (Or.inl ⟨by rfl, ?_⟩) (by assumption) ?_; rotate_left; · (intro w hSw; (try dsimp only at hSw); go_simp; all_goals with_reducible rfl); (try simp only [Act.put, List.getElem_toArray, List.getElem_cons_zero, List.getElem_cons_succ, List.setIfInBounds_toArray, List.set_cons_zero, List.set_cons_succ]))
      (try simp only [Act.put, List.getElem_toArray, List.getElem_cons_zero, List.getElem_cons_succ, List.setIfInBounds_toArray, List.set_cons_zero, List.set_cons_succ])
      refine wpAnyH_ready (rs := [1, 9]) (by kernel_rfl) (by simp) ?_
      refine AllReadyH.cons rfl (fun K hK => ?wL) (AllReadyH.cons rfl (fun K hK => ?wC) AllReadyH.nil)
      case' wL =>
        have c1 := HDd.out.b.cell 1
        have c1' : _ = some (Value.slice A (k) cap) := c1
        clear c1
        go_simp
        refine hK.out _ _ trivial (fun hHeld => ?_)
        clear hK K hHeld
        have hHeld : True := trivial
        (try simp only [Act.put, List.getElem_toArray, List.getElem_cons_zero, List.getElem_cons_succ, List.setIfInBounds_toArray, List.set_cons_zero, List.set_cons_succ])
        clear c1'
        refine wpAnyH_ready (rs := [9]) (by kernel_rfl) (by simp) ?_
        refine AllReadyH.cons rfl (fun K hK => ?_) AllReadyH.nil
        go_simp
        refine (HS.out _).mono ?_
        rintro e v5 ⟨rfl, hy5⟩
        have HD1 := Lib.hid (HDd.out.ext hy5)
        have HR1 := Lib.hid (HRd.out.ext hy5)
        clear hy5
        refine hK.out _ _ trivial (fun hHeld => ?_)
        clear hK K hHeld
        have hHeld : True := trivial
        (try simp only [Act.put, List.getElem_toArray, List.getElem_cons_zero, List.getElem_cons_succ, List.setIfInBounds_toArray, List.set_cons_zero, List.set_cons_succ])
        refine wpAnyH_ready (rs := [10]) (by kernel_rfl) (by simp) ?_
        refine AllReadyH.cons rfl (fun K hK => ?_) AllReadyH.nil
        go_simp
        have HD2 := Lib.hid (HD1.out.ext ((Ext.refl _).alloc (.cells #[.int .i64 y.n, .int .i64 y.x, .int .i64 y.z, .int .i64 y.p] 47)))
        have HR2 := Lib.hid (HR1.out.alloc (.cells #[.int .i64 y.n, .int .i64 y.x, .int .i64 y.z, .int .i64 y.p] 47))
        refine hK.out _ _ trivial (fun hHeld => ?_)
        clear hK K hHeld
        have hHeld : True := trivial
        (try simp only [Act.put, List.getElem_toArray, List.getElem_cons_zero, List.getElem_cons_succ, List.setIfInBounds_toArray, List.set_cons_zero, List.set_cons_succ])
      case' wC =>
        go_simp
        refine (HS.out _).mono ?_
        rintro e v5 ⟨rfl, hy5⟩
        have HD1 := Lib.hid (HDd.out.ext hy5)
        have HR1 := Lib.hid (HRd.out.ext hy5)
        clear hy5
        refine hK.out _ _ trivial (fun hHeld => ?_)
        clear hK K hHeld
        have hHeld : True := trivial
        (try simp only [Act.put, List.getElem_toArray, List.getElem_cons_zero, List.getElem_cons_succ, List.setIfInBounds_toArray, List.set_cons_zero, List.set_cons_succ])
        refine wpAnyH_ready (rs := [1, 10]) (by kernel_rfl) (by simp) ?_
        refine AllReadyH.cons rfl (fun K hK => ?wL2) (AllReadyH.cons rfl (fun K hK => ?wC2) AllReadyH.nil)
      case' wL2 =>
        have c1 := HD1.out.b.cell 1
        have c1' : _ = some (Value.slice A (k) cap) := c1
        clear c1
        go_simp
        refine hK.out _ _ trivial (fun hHeld => ?_)
        clear hK K hHeld
        have hHeld : True := trivial
        (try simp only [Act.put, List.getElem_toArray, List.getElem_cons_zero, List.getElem_cons_succ, List.setIfInBounds_toArray, List.set_cons_zero, List.set_cons_succ])
        clear c1'
        refine wpAnyH_ready (rs := [10]) (by kernel_rfl) (by simp) ?_
        refine AllReadyH.cons rfl (fun K hK => ?_) AllReadyH.nil
        go_simp
        have HD2 := Lib.hid (HD1.out.ext ((Ext.refl _).alloc (.cells #[.int .i64 y.n, .int .i64 y.x, .int .i64 y.z, .int .i64 y.p] 47)))
        have HR2 := Lib.hid (HR1.out.alloc (.cells #[.int .i64 y.n, .int .i64 y.x, .int .i64 y.z, .int .i64 y.p] 47))
        refine hK.out _ _ trivial (fun hHeld => ?_)
        clear hK K hHeld
        have hHeld : True := trivial
        (try simp only [Act.put, List.getElem_toArray, List.getElem_cons_zero, List.getElem_cons_succ, List.setIfInBounds_toArray, List.set_cons_zero, List.set_cons_succ])
      case' wC2 =>
        go_simp
        have HD2 := Lib.hid (HD1.out.ext ((Ext.refl _).alloc (.cells #[.int .i64 y.n, .int .i64 y.x, .int .i64 y.z, .int .i64 y.p] 47)))
        have HR2 := Lib.hid (HR1.out.alloc (.cells #[.int .i64 y.n, .int .i64 y.x, .int .i64 y.z, .int .i64 y.p] 47))
        refine hK.out _ _ trivial (fun hHeld => ?_)
        clear hK K hHeld
        have hHeld : True := trivial
        (try simp only [Act.put, List.getElem_toArray, List.getElem_cons_zero, List.getElem_cons_succ, List.setIfInBounds_toArray, List.set_cons_zero, List.set_cons_succ])
        refine wpAnyH_ready (rs := [1]) (by kernel_rfl) (by simp) ?_
        refine AllReadyH.cons rfl (fun K hK => ?_) AllReadyH.nil
        have c1 := HD2.out.b.cell 1
        have c1' : _ = some (Value.slice A (k) cap) := c1
        clear c1
        go_simp
        refine hK.out _ _ trivial (fun hHeld => ?_)
        clear hK K hHeld
        have hHeld : True := trivial
        (try simp only [Act.put, List.getElem_toArray, List.getElem_cons_zero, List.getElem_cons_succ, List.setIfInBounds_toArray, List.set_cons_zero, List.set_cons_succ])
        clear c1'
      all_goals
        refine wpAnyH_ready (rs := [11]) (by kernel_rfl) (by simp) ?_
        refine AllReadyH.cons rfl (fun K hK => ?_) AllReadyH.nil
        refine DT.step HD2.out (by rfl) _ _ (by rfl) (by rfl) y _ (by rfl) (rd_new v5 _ _ 4 _ (by simp [Pa.cells]) (by simp [Pa.cells])) (by have := HN.out; have := HK8.out; omega) ?_
        intro A' c' w7 ⟨hb7, hD7, hbk⟩
        have HD7 := Lib.hid hD7
        have HR7 := Lib.hid (hbk _ _ _ (Nat.lt_succ_self _) HR2.out)
        have k6 : w7.cell? ⟨w.heap.size + 1, 1, none⟩ = some (.slice A (k) cap) := hb7.cell 1
        have f6 : w7.frozen? ⟨w.heap.size + 1, 1, none⟩ = false := hb7.frozen 1
        clear hb7 hD7 hbk
        refine hK.out _ _ trivial (fun hHeld => ?_)
        clear hK K hHeld
        have hHeld : True := trivial
        (try simp only [Act.put, List.getElem_toArray, List.getElem_cons_zero, List.getElem_cons_succ, List.setIfInBounds_toArray, List.set_cons_zero, List.set_cons_succ])
        (refine wpAnyH_take (i := 12) (v := ?_) rfl (by kernel_rfl) (by kernel_rfl) (by kernel_rfl) (fun _ _ _ h => h) (Or.inl ⟨by rfl, ?_⟩) (by assumption) ?_; rotate_left; · (intro w hSw; (try dsimp only at hSw); go_simp; all_goals with_reducible rfl); (try simp only [Act.put, List.getElem_toArray, List.getElem_cons_zero, List.getElem_cons_succ, List.setIfInBounds_toArray, List.set_cons_zero, List.set_cons_succ]))
        (try simp only [Act.put, List.getElem_toArray, List.getElem_cons_zero, List.getElem_cons_succ, List.setIfInBounds_toArray, List.set_cons_zero, List.set_cons_succ])
        refine wpAnyH_ready (rs := [13]) (by kernel_rfl) (by simp) ?_
        refine AllReadyH.cons rfl (fun K hK => ?_) AllReadyH.nil
        go_simp
        refine hK.out _ _ trivial (fun hHeld => ?_)
        clear hK K hHeld
        have hHeld : True := trivial
        (try simp only [Act.put, List.getElem_toArray, List.getElem_cons_zero, List.getElem_cons_succ, List.setIfInBounds_toArray, List.set_cons_zero, List.set_cons_succ])
        (refine wpAnyH_done (by kernel_rfl) ?_ _)
        clear k6 f6 hHeld
        have hk1 : IntKind.i64.wrap ((k : Int) + 1) = ((k + 1 : Nat) : Int) := by have := HK8.out; rw [IntWalk.i64_in _ (by omega)]; rfl
        have hk2 : wrap64 ((k : Int) + 1) = ((k + 1 : Nat) : Int) := by have := HK8.out; unfold wrap64; omega
        go_wp2
        go_roundw
        case rel => exact ⟨k + 1, A', c', by first | rfl | rw [hk1] | rw [hk2], by have := HK8.out.2; omega, by rw [idL_succ, HYY.out]; exact HD7, HR7⟩
        case measure => simp [intOf, hk2]; have := HK8.out; omega
    · have hk2 : k = 2 * n.toNat := by omega
      have HID : Hid (idL n k = idT n.toNat) := by unfold Hid; rw [hk2]; exact idL_all h1 h4
      clear hk2
      obtain ⟨⟨c0, c1⟩, -⟩ := blk2 HD0.out.b
      obtain ⟨⟨d0, d1⟩, f0, f1⟩ := blk2 HR0.out
      go_wp2
      have HBB : Hid (Blk (put2 wr w.heap.size (.int .i64 n) (.slice A k cap)) w.heap.size 35 #[.int .i64 n, .slice A k cap]) := HR0.out.put2 _ _
      refine bodyPost_ret (v := .agg #[.int .i64 n, .slice A k cap]) ?_ rfl ?_
      rotate_left
      · exact ⟨⟨_, rfl, HID.out ▸ TabOut.put (rs := []) (n := 0) HD0.out (Nat.lt_succ_self _) _ _⟩, ext_put2 (g := w.heap.size) HD0.out.x (Nat.le_refl _) _ _⟩
      · exact retT rfl HBB.out _ (by kernel_rfl) rfl
set_option maxRecDepth 100000 in
set_option maxHeartbeats 8000000 in
theorem impl_IdentityTableau_any (n : Int) (w : World) (h1 : 1 ≤ n) (h4 : n ≤ 4) : Calls Try.prog 21 #[.int .i64 n] w fun e w' => (∃ v, e = .returned v ∧ TabOut n (idT n.toNat) v w') ∧ Ext w w' := by
  have hw2 : IntKind.i64.wrap (2 * n) = 2 * n := IntWalk.i64_in _ (by omega)
  have HN : Hid (1 ≤ n ∧ n ≤ 4) := ⟨h1, h4⟩
  have hn0 : (n == 0) = false := by rw [beq_eq_false_iff_ne]; omega
  have hnz : ¬ n = 0 := by omega
  go_enter Try.func21, Try.ntmps21
  go_wp2_with fail
  refine (in_yes _ _ _ _ h1 h4).mono ?_
  rintro e w1 ⟨rfl, rfl⟩
  go_wp2
  have HR : Hid (Blk ((w.alloc (.cells #[.int .i64 0, .slice none 0 0] 35)).alloc (.cells #[.int .i64 n, .slice none 0 0] 35)) w.heap.size 35 #[.int .i64 0, .slice none 0 0]) := (Blk.new w _ _).alloc _
  have HD : Hid (DT w ((w.alloc (.cells #[.int .i64 0, .slice none 0 0] 35)).alloc (.cells #[.int .i64 n, .slice none 0 0] 35)) (w.heap.size + 1) n none 0 0 []) := ⟨Blk.newAt (by simp), ⟨rfl, Or.inl ⟨rfl, rfl⟩⟩, (by repeat (first | exact Ext.refl _ | assumption | refine Ext.alloc ?_ _ | refine Ext.drewN ?_ _ | refine Ext.drew ?_)), by omega⟩
  generalize ((w.alloc (.cells #[.int .i64 0, .slice none 0 0] 35)).alloc (.cells #[.int .i64 n, .slice none 0 0] 35)) = w2 at *
  go_loopw [4] (fun iv wr => ∃ (k : Nat) (A : Option Addr) (cap : Nat), iv = .int .i64 k ∧ (k : Int) ≤ n ∧ Hid (DT w wr (w.heap.size + 1) n A k cap (idL n k)) ∧ Hid (Blk wr w.heap.size 35 #[.int .i64 0, .slice none 0 0])) (fun i _ => 4 - (intOf i).toNat)
  case atStart => exact ⟨0, none, 0, rfl, by omega, HD, HR⟩
  case round =>
    obtain ⟨k, A, cap, rfl, hk, HD0, HR0⟩ := hrel
    clear HD HR
    by_cases hlt : (k : Int) < n
    · have hk0 : (0 : Int) ≤ (k : Int) := by omega
      have hk3 : (k : Int) ≤ 3 := by omega
      have hsk : wrap64 (2 ^ k) = pw k := pw_wrap hk0 hk3
      have hsk2 : IntKind.i64.wrap (2 ^ k) = pw k := pw_wrapK hk0 hk3
      have hsk3 : wrap64 (2 ^ (k : Int).toNat) = pw k := pw_wrap hk0 hk3
      have hsk4 : IntKind.i64.wrap (2 ^ (k : Int).toNat) = pw k := pw_wrapK hk0 hk3
      have HK8 : Hid (k < 4 ∧ (k : Int) < n) := ⟨by omega, hlt⟩
      obtain ⟨y, hyy⟩ : ∃ y : Pa, y = ⟨n, pw k, 0, 0⟩ := ⟨_, rfl⟩
      have HYY : Hid (idRow n k = y) := by
        unfold Hid idRow
        rw [if_pos hlt, hyy]
      have HYV : Hid ((#[.int .i64 n, .int .i64 (pw k), .int .i64 0, .int .i64 0] : Array Value) = #[.int .i64 y.n, .int .i64 y.x, .int .i64 y.z, .int .i64 y.p]) := by unfold Hid; rw [hyy]
      clear hyy
      go_upto_region 7 with (fail)
      clear hlt hk
      have HDd := Lib.hid (HD0.out.ext (Ext.refl _).drew)
      have HRd := Lib.hid (HR0.out.ext (Ext.refl _).drew)
      have hHeld : True := trivial
      refine wp_region_held_drew (S := fun _ => True) (by kernel_rfl) trivial (fun hHeld => ?_)
      (refine wpAnyH_take (i := 0) (v := ?_) rfl (by kernel_rfl) (by kernel_rfl) (by kernel_rfl) (fun _ _ _ h => h) (Or.inl ⟨by rfl, ?_⟩) (by assumption) ?_; rotate_left; · (intro w hSw; (try dsimp only at hSw); go_simp; all_goals with_reducible rfl); (try simp only [Act.put, List.getElem_toArray, List.getElem_cons_zero, List.getElem_cons_succ, List.setIfInBounds_toArray, List.set_cons_zero, List.set_cons_succ]))
      (try simp only [Act.put, List.getElem_toArray, List.getElem_cons_zero, List.getElem_cons_succ, List.setIfInBounds_toArray, List.set_cons_zero, List.set_cons_succ])
      (refine wpAnyH_take (i := 2) (v := ?_) rfl (by kernel_rfl) (by kernel_rfl) (by kernel_rfl) (fun _ _ _ h => h) (Or.inl ⟨by rfl, ?_⟩) (by assumption) ?_; rotate_left; · (intro w hSw; (try dsimp only at hSw); go_simp; all_goals with_reducible rfl); (try simp only [Act.put, List.getElem_toArray, List.getElem_cons_zero, List.getElem_cons_succ, List.setIfInBounds_toArray, List.set_cons_zero, List.set_cons_succ]))
      (try simp only [Act.put, List.getElem_toArray, List.getElem_cons_zero, List.getElem_cons_succ, List.setIfInBounds_toArray, List.set_cons_zero, List.set_cons_succ])
      (refine wpAnyH_take (i := 3) (v := ?_) rfl (by kernel_rfl) (by kernel_rfl) (by kernel_rfl) (fun _ _ _ h => h) (Or.inl ⟨by rfl, ?_⟩) (by assumption) ?_; rotate_left; · (intro w hSw; (try dsimp only at hSw); go_simp; all_goals with_reducible rfl); (try simp only [Act.put, List.getElem_toArray, List.getElem_cons_zero, List.getElem_cons_succ, List.setIfInBounds_toArray, List.set_cons_zero, List.set_cons_succ]))
      (try simp only [Act.put, List.getElem_toArray, List.getElem_cons_zero, List.getElem_cons_succ, List.setIfInBounds_toArray, List.set_cons_zero, List.set_cons_succ])
      (refine wpAnyH_take (i := 4) (v := ?_) rfl (by kernel_rfl) (by kernel_rfl) (by kernel_rfl) (fun _ _ _ h => h) (Or.inl ⟨by rfl, ?_⟩) (by assumption) ?_; rotate_left; · (intro w hSw; (try dsimp only at hSw); go_simp; all_goals with_reducible rfl); (try simp only [Act.put, List.getElem_toArray, List.getElem_cons_zero, List.getElem_cons_succ, List.setIfInBounds_toArray, List.set_cons_zero, List.set_cons_succ]))
      (try simp only [Act.put, List.getElem_toArray, List.getElem_cons_zero, List.getElem_cons_succ, List.setIfInBounds_toArray, List.set_cons_zero, List.set_cons_succ])
      (refine wpAnyH_take (i := 5) (v := ?_) rfl (by kernel_rfl) (by kernel_rfl) (by kernel_rfl) (fun _ _ _ h => h) (Or.inl ⟨by rfl, ?_⟩) (by assumption) ?_; rotate_left; · (intro w hSw; (try dsimp only at hSw); go_simp; all_goals with_reducible rfl); (try simp only [Act.put, List.getElem_toArray, List.getElem_cons_zero, List.getElem_cons_succ, List.setIfInBounds_toArray, List.set_cons_zero, List.set_cons_succ]))
      (try simp only [Act.put, List.getElem_toArray, List.getElem_cons_zero, List.getElem_cons_succ, List.setIfInBounds_toArray, List.set_cons_zero, List.set_cons_succ])
      refine wpAnyH_ready (rs := [1, 6]) (by kernel_rfl) (by simp) ?_
      refine AllReadyH.cons rfl (fun K hK => ?_) (AllReadyH.cons rfl (fun K hK => ?_) AllReadyH.nil)
      · have c1 := HD0.out.b.cell 1
        have c1' : _ = some (Value.slice A (k) cap) := c1
        clear c1
        go_simp
        refine hK.out _ _ trivial (fun hHeld => ?_)
        clear hK K hHeld
        have hHeld : True := trivial
        (try simp only [Act.put, List.getElem_toArray, List.getElem_cons_zero, List.getElem_cons_succ, List.setIfInBounds_toArray, List.set_cons_zero, List.set_cons_succ])
        clear c1'
        refine wpAnyH_ready (rs := [6]) (by kernel_rfl) (by simp) ?_
        refine AllReadyH.cons rfl (fun K hK => ?_) AllReadyH.nil
        go_simp
        rw [HYV.out]
        have HDa := Lib.hid (HD0.out.ext ((Ext.refl _).alloc (.cells #[.int .i64 y.n, .int .i64 y.x, .int .i64 y.z, .int .i64 y.p] 47)))
        have HD2 := Lib.hid (HDd.out.ext ((Ext.refl _).alloc (.cells #[.int .i64 y.n, .int .i64 y.x, .int .i64 y.z, .int .i64 y.p] 47)))
        have HR2 := Lib.hid (HRd.out.alloc (.cells #[.int .i64 y.n, .int .i64 y.x, .int .i64 y.z, .int .i64 y.p] 47))
        refine hK.out _ _ trivial (fun hHeld => ?_)
        clear hK K hHeld
        have hHeld : True := trivial
        (try simp only [Act.put, List.getElem_toArray, List.getElem_cons_zero, List.getElem_cons_succ, List.setIfInBounds_toArray, List.set_cons_zero, List.set_cons_succ])
        refine wpAnyH_ready (rs := [7]) (by kernel_rfl) (by simp) ?_
        refine AllReadyH.cons rfl (fun K hK => ?_) AllReadyH.nil
        refine DT.step HD2.out (by rfl) _ _ (by rfl) (by rfl) y _ (by rfl) (rd_new wr.drew _ _ 4 _ (by simp [Pa.cells]) (by simp [Pa.cells])) (by have := HN.out; have := HK8.out; omega) ?_
        intro A' c' w7 ⟨hb7, hD7, hbk⟩
        have HD7 := Lib.hid hD7
        have HR7 := Lib.hid (hbk _ _ _ (Nat.lt_succ_self _) HR2.out)
        have k6 : w7.cell? ⟨w.heap.size + 1, 1, none⟩ = some (.slice A (k) cap) := hb7.cell 1
        have f6 : w7.frozen? ⟨w.heap.size + 1, 1, none⟩ = false := hb7.frozen 1
        clear hb7 hD7 hbk
        refine hK.out _ _ trivial (fun hHeld => ?_)
        clear hK K hHeld
        have hHeld : True := trivial
        (try simp only [Act.put, List.getElem_toArray, List.getElem_cons_zero, List.getElem_cons_succ, List.setIfInBounds_toArray, List.set_cons_zero, List.set_cons_succ])
        (refine wpAnyH_take (i := 8) (v := ?_) rfl (by kernel_rfl) (by kernel_rfl) (by kernel_rfl) (fun _ _ _ h => h) (Or.inl ⟨by rfl, ?_⟩) (by assumption) ?_; rotate_left; · (intro w hSw; (try dsimp only at hSw); go_simp; all_goals with_reducible rfl); (try simp only [Act.put, List.getElem_toArray, List.getElem_cons_zero, List.getElem_cons_succ, List.setIfInBounds_toArray, List.set_cons_zero, List.set_cons_succ]))
        (try simp only [Act.put, List.getElem_toArray, List.getElem_cons_zero, List.getElem_cons_succ, List.setIfInBounds_toArray, List.set_cons_zero, List.set_cons_succ])
        refine wpAnyH_ready (rs := [9]) (by kernel_rfl) (by simp) ?_
        refine AllReadyH.cons rfl (fun K hK => ?_) AllReadyH.nil
        go_simp
        refine hK.out _ _ trivial (fun hHeld => ?_)
        clear hK K hHeld
        have hHeld : True := trivial
        (try simp only [Act.put, List.getElem_toArray, List.getElem_cons_zero, List.getElem_cons_succ, List.setIfInBounds_toArray, List.set_cons_zero, List.set_cons_succ])
        (refine wpAnyH_done (by kernel_rfl) ?_ _)
        clear k6 f6 hHeld
        have hk1 : IntKind.i64.wrap ((k : Int) + 1) = ((k + 1 : Nat) : Int) := by have := HK8.out; rw [IntWalk.i64_in _ (by omega)]; rfl
        have hk2 : wrap64 ((k : Int) + 1) = ((k + 1 : Nat) : Int) := by have := HK8.out; unfold wrap64; omega
        go_wp2
        go_roundw
        case rel => exact ⟨k + 1, A', c', by first | rfl | rw [hk1] | rw [hk2], by have := HK8.out.2; omega, by rw [idL_succ, HYY.out]; exact HD7, HR7⟩
        case measure => simp [intOf, hk2]; have := HK8.out; omega
      · go_simp
        rw [HYV.out]
        have HDa := Lib.hid (HD0.out.ext ((Ext.refl _).alloc (.cells #[.int .i64 y.n, .int .i64 y.x, .int .i64 y.z, .int .i64 y.p] 47)))
        have HD2 := Lib.hid (HDd.out.ext ((Ext.refl _).alloc (.cells #[.int .i64 y.n, .int .i64 y.x, .int .i64 y.z, .int .i64 y.p] 47)))
        have HR2 := Lib.hid (HRd.out.alloc (.cells #[.int .i64 y.n, .int .i64 y.x, .int .i64 y.z, .int .i64 y.p] 47))
        refine hK.out _ _ trivial (fun hHeld => ?_)
        clear hK K hHeld
        have hHeld : True := trivial
        (try simp only [Act.put, List.getElem_toArray, List.getElem_cons_zero, List.getElem_cons_succ, List.setIfInBounds_toArray, List.set_cons_zero, List.set_cons_succ])
        refine wpAnyH_ready (rs := [1]) (by kernel_rfl) (by simp) ?_
        refine AllReadyH.cons rfl (fun K hK => ?_) AllReadyH.nil
        have c1 := HDa.out.b.cell 1
        have c1' : _ = some (Value.slice A (k) cap) := c1
        clear c1
        go_simp
        refine hK.out _ _ trivial (fun hHeld => ?_)
        clear hK K hHeld
        have hHeld : True := trivial
        (try simp only [Act.put, List.getElem_toArray, List.getElem_cons_zero, List.getElem_cons_succ, List.setIfInBounds_toArray, List.set_cons_zero, List.set_cons_succ])
        clear c1'
        refine wpAnyH_ready (rs := [7]) (by kernel_rfl) (by simp) ?_
        refine AllReadyH.cons rfl (fun K hK => ?_) AllReadyH.nil
        refine DT.step HD2.out (by rfl) _ _ (by rfl) (by rfl) y _ (by rfl) (rd_new wr.drew _ _ 4 _ (by simp [Pa.cells]) (by simp [Pa.cells])) (by have := HN.out; have := HK8.out; omega) ?_
        intro A' c' w7 ⟨hb7, hD7, hbk⟩
        have HD7 := Lib.hid hD7
        have HR7 := Lib.hid (hbk _ _ _ (Nat.lt_succ_self _) HR2.out)
        have k6 : w7.cell? ⟨w.heap.size + 1, 1, none⟩ = some (.slice A (k) cap) := hb7.cell 1
        have f6 : w7.frozen? ⟨w.heap.size + 1, 1, none⟩ = false := hb7.frozen 1
        clear hb7 hD7 hbk
        refine hK.out _ _ trivial (fun hHeld => ?_)
        clear hK K hHeld
        have hHeld : True := trivial
        (try simp only [Act.put, List.getElem_toArray, List.getElem_cons_zero, List.getElem_cons_succ, List.setIfInBounds_toArray, List.set_cons_zero, List.set_cons_succ])
        (refine wpAnyH_take (i := 8) (v := ?_) rfl (by kernel_rfl) (by kernel_rfl) (by kernel_rfl) (fun _ _ _ h => h) (Or.inl ⟨by rfl, ?_⟩) (by assumption) ?_; rotate_left; · (intro w hSw; (try dsimp only at hSw); go_simp; all_goals with_reducible rfl); (try simp only [Act.put, List.getElem_toArray, List.getElem_cons_zero, List.getElem_cons_succ, List.setIfInBounds_toArray, List.set_cons_zero, List.set_cons_succ]))
        (try simp only [Act.put, List.getElem_toArray, List.getElem_cons_zero, List.getElem_cons_succ, List.setIfInBounds_toArray, List.set_cons_zero, List.set_cons_succ])
        refine wpAnyH_ready (rs := [9]) (by kernel_rfl) (by simp) ?_
        refine AllReadyH.cons rfl (fun K hK => ?_) AllReadyH.nil
        go_simp
        refine hK.out _ _ trivial (fun hHeld => ?_)
        clear hK K hHeld
        have hHeld : True := trivial
        (try simp only [Act.put, List.getElem_toArray, List.getElem_cons_zero, List.getElem_cons_succ, List.setIfInBounds_toArray, List.set_cons_zero, List.set_cons_succ])
        (refine wpAnyH_done (by kernel_rfl) ?_ _)
        clear k6 f6 hHeld
        have hk1 : IntKind.i64.wrap ((k : Int) + 1) = ((k + 1 : Nat) : Int) := by have := HK8.out; rw [IntWalk.i64_in _ (by omega)]; rfl
        have hk2 : wrap64 ((k : Int) + 1) = ((k + 1 : Nat) : Int) := by have := HK8.out; unfold wrap64; omega
        go_wp2
        go_roundw
        case rel => exact ⟨k + 1, A', c', by first | rfl | rw [hk1] | rw [hk2], by have := HK8.out.2; omega, by rw [idL_succ, HYY.out]; exact HD7, HR7⟩
        case measure => simp [intOf, hk2]; have := HK8.out; omega
    · have hkn : k = n.toNat := by omega
      have HD1 : Hid (DT w wr (w.heap.size + 1) n A (n.toNat + 0) cap (idL n (n.toNat + 0))) := by rw [Nat.add_zero, ← hkn]; exact HD0
      clear HD0 hk
      go_wp2
      go_loopw [5] (fun iv wr => ∃ (k : Nat) (A : Option Addr) (cap : Nat), iv = .int .i64 k ∧ (k : Int) ≤ n ∧ Hid (DT w wr (w.heap.size + 1) n A (n.toNat + k) cap (idL n (n.toNat + k))) ∧ Hid (Blk wr w.heap.size 35 #[.int .i64 0, .slice none 0 0])) (fun i _ => 4 - (intOf i).toNat)
      case atStart => exact ⟨0, A, cap, rfl, by omega, HD1, HR0⟩
      case round =>
        clear HD1 HR0 hkn hlt
        clear A cap
        obtain ⟨k, A, cap, rfl, hk, HD0, HR0⟩ := hrel
        by_cases hlt : (k : Int) < n
        · have hk0 : (0 : Int) ≤ (k : Int) := by omega
          have hk3 : (k : Int) ≤ 3 := by omega
          have hsk : wrap64 (2 ^ k) = pw k := pw_wrap hk0 hk3
          have hsk2 : IntKind.i64.wrap (2 ^ k) = pw k := pw_wrapK hk0 hk3
          have hsk3 : wrap64 (2 ^ (k : Int).toNat) = pw k := pw_wrap hk0 hk3
          have hsk4 : IntKind.i64.wrap (2 ^ (k : Int).toNat) = pw k := pw_wrapK hk0 hk3
          have HK8 : Hid (k < 4 ∧ (k : Int) < n) := ⟨by omega, hlt⟩
          obtain ⟨y, hyy⟩ : ∃ y : Pa, y = ⟨n, 0, pw k, 0⟩ := ⟨_, rfl⟩
          have HYY : Hid (idRow n (n.toNat + k) = y) := by
            unfold Hid idRow
            rw [if_neg (by omega), hyy, show (((n.toNat + k : Nat) : Int) - n) = k by omega]
          have HYV : Hid ((#[.int .i64 n, .int .i64 0, .int .i64 (pw k), .int .i64 0] : Array Value) = #[.int .i64 y.n, .int .i64 y.x, .int .i64 y.z, .int .i64 y.p]) := by unfold Hid; rw [hyy]
          clear hyy
          go_upto_region 11 with (fail)
          clear hlt hk
          have HDd := Lib.hid (HD0.out.ext (Ext.refl _).drew)
          have HRd := Lib.hid (HR0.out.ext (Ext.refl _).drew)
          have hHeld : True := trivial
          refine wp_region_held_drew (S := fun _ => True) (by kernel_rfl) trivial (fun hHeld => ?_)
          (refine wpAnyH_take (i := 0) (v := ?_) rfl (by kernel_rfl) (by kernel_rfl) (by kernel_rfl) (fun _ _ _ h => h) (Or.inl ⟨by rfl, ?_⟩) (by assumption) ?_; rotate_left; · (intro w hSw; (try dsimp only at hSw); go_simp; all_goals with_reducible rfl); (try simp only [Act.put, List.getElem_toArray, List.getElem_cons_zero, List.getElem_cons_succ, List.setIfInBounds_toArray, List.set_cons_zero, List.set_cons_succ]))
          (try simp only [Act.put, List.getElem_toArray, List.getElem_cons_zero, List.getElem_cons_succ, List.setIfInBounds_toArray, List.set_cons_zero, List.set_cons_succ])
          (refine wpAnyH_take (i := 2) (v := ?_) rfl (by kernel_rfl) (by kernel_rfl) (by kernel_rfl) (fun _ _ _ h => h) (Or.inl ⟨by rfl, ?_⟩) (by assumption) ?_; rotate_left; · (intro w hSw; (try dsimp only at hSw); go_simp; all_goals with_reducible rfl); (try simp only [Act.put, List.getElem_toArray, List.getElem_cons_zero, List.getElem_cons_succ, List.setIfInBounds_toArray, List.set_cons_zero, List.set_cons_succ]))
          (try simp only [Act.put, List.getElem_toArray, List.getElem_cons_zero, List.getElem_cons_succ, List.setIfInBounds_toArray, List.set_cons_zero, List.set_cons_succ])
          (refine wpAnyH_take (i := 3) (v := ?_) rfl (by kernel_rfl) (by kernel_rfl) (by kernel_rfl) (fun _ _ _ h => h) (Or.inl ⟨by rfl, ?_⟩) (by assumption) ?_; rotate_left; · (intro w hSw; (try dsimp only at hSw); go_simp; all_goals with_reducible rfl); (try simp only [Act.put, List.getElem_toArray, List.getElem_cons_zero, List.getElem_cons_succ, List.setIfInBounds_toArray, List.set_cons_zero, List.set_cons_succ]))
          (try simp only [Act.put, List.getElem_toArray, List.getElem_cons_zero, List.getElem_cons_succ, List.setIfInBounds_toArray, List.set_cons_zero, List.set_cons_succ])
          (refine wpAnyH_take (i := 4) (v := ?_) rfl (by kernel_rfl) (by kernel_rfl) (by kernel_rfl) (fun _ _ _ h => h) (Or.inl ⟨by rfl, ?_⟩) (by assumption) ?_; rotate_left; · (intro w hSw; (try dsimp only at hSw); go_simp; all_goals with_reducible rfl); (try simp only [Act.put, List.getElem_toArray, List.getElem_cons_zero, List.getElem_cons_succ, List.setIfInBounds_toArray, List.set_cons_zero, List.set_cons_succ]))
          (try simp only [Act.put, List.getElem_toArray, List.getElem_cons_zero, List.getElem_cons_succ, List.setIfInBounds_toArray, List.set_cons_zero, List.set_cons_succ])
          (refine wpAnyH_take (i := 5) (v := ?_) rfl (by kernel_rfl) (by kernel_rfl) (by kernel_rfl) (fun _ _ _ h => h) (Or.inl ⟨by rfl, ?_⟩) (by assumption) ?_; rotate_left; · (intro w hSw; (try dsimp only at hSw); go_simp; all_goals with_reducible rfl); (try simp only [Act.put, List.getElem_toArray, List.getElem_cons_zero, List.getElem_cons_succ, List.setIfInBounds_toArray, List.set_cons_zero, List.set_cons_succ]))
          (try simp only [Act.put, List.getElem_toArray, List.getElem_cons_zero, List.getElem_cons_succ, List.setIfInBounds_toArray, List.set_cons_zero, List.set_cons_succ])
          refine wpAnyH_ready (rs := [1, 6]) (by kernel_rfl) (by simp) ?_
          refine AllReadyH.cons rfl (fun K hK => ?_) (AllReadyH.cons rfl (fun K hK => ?_) AllReadyH.nil)
          · have c1 := HD0.out.b.cell 1
            have c1' : _ = some (Value.slice A (n.toNat + k) cap) := c1
            clear c1
            go_simp
            refine hK.out _ _ trivial (fun hHeld => ?_)
            clear hK K hHeld
            have hHeld : True := trivial
            (try simp only [Act.put, List.getElem_toArray, List.getElem_cons_zero, List.getElem_cons_succ, List.setIfInBounds_toArray, List.set_cons_zero, List.set_cons_succ])
            clear c1'
            refine wpAnyH_ready (rs := [6]) (by kernel_rfl) (by simp) ?_
            refine AllReadyH.cons rfl (fun K hK => ?_) AllReadyH.nil
            go_simp
            rw [HYV.out]
            have HDa := Lib.hid (HD0.out.ext ((Ext.refl _).alloc (.cells #[.int .i64 y.n, .int .i64 y.x, .int .i64 y.z, .int .i64 y.p] 47)))
            have HD2 := Lib.hid (HDd.out.ext ((Ext.refl _).alloc (.cells #[.int .i64 y.n, .int .i64 y.x, .int .i64 y.z, .int .i64 y.p] 47)))
            have HR2 := Lib.hid (HRd.out.alloc (.cells #[.int .i64 y.n, .int .i64 y.x, .int .i64 y.z, .int .i64 y.p] 47))
            refine hK.out _ _ trivial (fun hHeld => ?_)
            clear hK K hHeld
            have hHeld : True := trivial
            (try simp only [Act.put, List.getElem_toArray, List.getElem_cons_zero, List.getElem_cons_succ, List.setIfInBounds_toArray, List.set_cons_zero, List.set_cons_succ])
            refine wpAnyH_ready (rs := [7]) (by kernel_rfl) (by simp) ?_
            refine AllReadyH.cons rfl (fun K hK => ?_) AllReadyH.nil
            refine DT.step HD2.out (by rfl) _ _ (by rfl) (by rfl) y _ (by rfl) (rd_new wr.drew _ _ 4 _ (by simp [Pa.cells]) (by simp [Pa.cells])) (by have := HN.out; have := HK8.out; omega) ?_
            intro A' c' w7 ⟨hb7, hD7, hbk⟩
            have HD7 := Lib.hid hD7
            have HR7 := Lib.hid (hbk _ _ _ (Nat.lt_succ_self _) HR2.out)
            have k6 : w7.cell? ⟨w.heap.size + 1, 1, none⟩ = some (.slice A (n.toNat + k) cap) := hb7.cell 1
            have f6 : w7.frozen? ⟨w.heap.size + 1, 1, none⟩ = false := hb7.frozen 1
            clear hb7 hD7 hbk
            refine hK.out _ _ trivial (fun hHeld => ?_)
            clear hK K hHeld
            have hHeld : True := trivial
            (try simp only [Act.put, List.getElem_toArray, List.getElem_cons_zero, List.getElem_cons_succ, List.setIfInBounds_toArray, List.set_cons_zero, List.set_cons_succ])
            (refine wpAnyH_take (i := 8) (v := ?_) rfl (by kernel_rfl) (by kernel_rfl) (by kernel_rfl) (fun _ _ _ h => h) (Or.inl ⟨by rfl, ?_⟩) (by assumption) ?_; rotate_left; · (intro w hSw; (try dsimp only at hSw); go_simp; all_goals with_reducible rfl); (try simp only [Act.put, List.getElem_toArray, List.getElem_cons_zero, List.getElem_cons_succ, List.setIfInBounds_toArray, List.set_cons_zero, List.set_cons_succ]))
            (try simp only [Act.put, List.getElem_toArray, List.getElem_cons_zero, List.getElem_cons_succ, List.setIfInBounds_toArray, List.set_cons_zero, List.set_cons_succ])
            refine wpAnyH_ready (rs := [9]) (by kernel_rfl) (by simp) ?_
            refine AllReadyH.cons rfl (fun K hK => ?_) AllReadyH.nil
            go_simp
            refine hK.out _ _ trivial (fun hHeld => ?_)
            clear hK K hHeld
            have hHeld : True := trivial
            (try simp only [Act.put, List.getElem_toArray, List.getElem_cons_zero, List.getElem_cons_succ, List.setIfInBounds_toArray, List.set_cons_zero, List.set_cons_succ])
            (refine wpAnyH_done (by kernel_rfl) ?_ _)
            clear k6 f6 hHeld
            have hk1 : IntKind.i64.wrap ((k : Int) + 1) = ((k + 1 : Nat) : Int) := by have := HK8.out; rw [IntWalk.i64_in _ (by omega)]; rfl
            have hk2 : wrap64 ((k : Int) + 1) = ((k + 1 : Nat) : Int) := by have := HK8.out; unfold wrap64; omega
            go_wp2
            go_roundw
            case rel => exact ⟨k + 1, A', c', by first | rfl | rw [hk1] | rw [hk2], by have := HK8.out.2; omega, by rw [show n.toNat + (k + 1) = n.toNat + k + 1 from rfl, idL_succ, HYY.out]; exact HD7, HR7⟩
            case measure => simp [intOf, hk2]; have := HK8.out; omega
          · go_simp
            rw [HYV.out]
            have HDa := Lib.hid (HD0.out.ext ((Ext.refl _).alloc (.cells #[.int .i64 y.n, .int .i64 y.x, .int .i64 y.z, .int .i64 y.p] 47)))
            have HD2 := Lib.hid (HDd.out.ext ((Ext.refl _).alloc (.cells #[.int .i64 y.n, .int .i64 y.x, .int .i64 y.z, .int .i64 y.p] 47)))
            have HR2 := Lib.hid (HRd.out.alloc (.cells #[.int .i64 y.n, .int .i64 y.x, .int .i64 y.z, .int .i64 y.p] 47))
            refine hK.out _ _ trivial (fun hHeld => ?_)
            clear hK K hHeld
            have hHeld : True := trivial
            (try simp only [Act.put, List.getElem_toArray, List.getElem_cons_zero, List.getElem_cons_succ, List.setIfInBounds_toArray, List.set_cons_zero, List.set_cons_succ])
            refine wpAnyH_ready (rs := [1]) (by kernel_rfl) (by simp) ?_
            refine AllReadyH.cons rfl (fun K hK => ?_) AllReadyH.nil
            have c1 := HDa.out.b.cell 1
            have c1' : _ = some (Value.slice A (n.toNat + k) cap) := c1
            clear c1
            go_simp
            refine hK.out _ _ trivial (fun hHeld => ?_)
            clear hK K hHeld
            have hHeld : True := trivial
            (try simp only [Act.put, List.getElem_toArray, List.getElem_cons_zero, List.getElem_cons_succ, List.setIfInBounds_toArray, List.set_cons_zero, List.set_cons_succ])
            clear c1'
            refine wpAnyH_ready (rs := [7]) (by kernel_rfl) (by simp) ?_
            refine AllReadyH.cons rfl (fun K hK => ?_) AllReadyH.nil
            refine DT.step HD2.out (by rfl) _ _ (by rfl) (by rfl) y _ (by rfl) (rd_new wr.drew _ _ 4 _ (by simp [Pa.cells]) (by simp [Pa.cells])) (by have := HN.out; have := HK8.out; omega) ?_
            intro A' c' w7 ⟨hb7, hD7, hbk⟩
            have HD7 := Lib.hid hD7
            have HR7 := Lib.hid (hbk _ _ _ (Nat.lt_succ_self _) HR2.out)
            have k6 : w7.cell? ⟨w.heap.size + 1, 1, none⟩ = some (.slice A (n.toNat + k) cap) := hb7.cell 1
            have f6 : w7.frozen? ⟨w.heap.size + 1, 1, none⟩ = false := hb7.frozen 1
            clear hb7 hD7 hbk
            refine hK.out _ _ trivial (fun hHeld => ?_)
            clear hK K hHeld
            have hHeld : True := trivial
            (try simp only [Act.put, List.getElem_toArray, List.getElem_cons_zero, List.getElem_cons_succ, List.setIfInBounds_toArray, List.set_cons_zero, List.set_cons_succ])
            (refine wpAnyH_take (i := 8) (v := ?_) rfl (by kernel_rfl) (by kernel_rfl) (by kernel_rfl) (fun _ _ _ h => h) (Or.inl ⟨by rfl, ?_⟩) (by assumption) ?_; rotate_left; · (intro w hSw; (try dsimp only at hSw); go_simp; all_goals with_reducible rfl); (try simp only [Act.put, List.getElem_toArray, List.getElem_cons_zero, List.getElem_cons_succ, List.setIfInBounds_toArray, List.set_cons_zero, List.set_cons_succ]))
            (try simp only [Act.put, List.getElem_toArray, List.getElem_cons_zero, List.getElem_cons_succ, List.setIfInBounds_toArray, List.set_cons_zero, List.set_cons_succ])
            refine wpAnyH_ready (rs := [9]) (by kernel_rfl) (by simp) ?_
            refine AllReadyH.cons rfl (fun K hK => ?_) AllReadyH.nil
            go_simp
            refine hK.out _ _ trivial (fun hHeld => ?_)
            clear hK K hHeld
            have hHeld : True := trivial
            (try simp only [Act.put, List.getElem_toArray, List.getElem_cons_zero, List.getElem_cons_succ, List.setIfInBounds_toArray, List.set_cons_zero, List.set_cons_succ])
            (refine wpAnyH_done (by kernel_rfl) ?_ _)
            clear k6 f6 hHeld
            have hk1 : IntKind.i64.wrap ((k : Int) + 1) = ((k + 1 : Nat) : Int) := by have := HK8.out; rw [IntWalk.i64_in _ (by omega)]; rfl
            have hk2 : wrap64 ((k : Int) + 1) = ((k + 1 : Nat) : Int) := by have := HK8.out; unfold wrap64; omega
            go_wp2
            go_roundw
            case rel => exact ⟨k + 1, A', c', by first | rfl | rw [hk1] | rw [hk2], by have := HK8.out.2; omega, by rw [show n.toNat + (k + 1) = n.toNat + k + 1 from rfl, idL_succ, HYY.out]; exact HD7, HR7⟩
            case measure => simp [intOf, hk2]; have := HK8.out; omega
        · have hk2 : n.toNat + k = 2 * n.toNat := by omega
          obtain ⟨L, hL⟩ : ∃ L, n.toNat + k = L := ⟨_, rfl⟩
          rw [hL] at HD0 hk2
          have HID : Hid (idL n L = idT n.toNat) := by unfold Hid; rw [hk2]; exact idL_all h1 h4
          clear hk2 hL
          obtain ⟨⟨c0, c1⟩, -⟩ := blk2 HD0.out.b
          obtain ⟨⟨d0, d1⟩, f0, f1⟩ := blk2 HR0.out
          go_wp2
          have HBB : Hid (Blk (put2 wr w.heap.size (.int .i64 n) (.slice A L cap)) w.heap.size 35 #[.int .i64 n, .slice A L cap]) := HR0.out.put2 _ _
          refine bodyPost_ret (v := .agg #[.int .i64 n, .slice A L cap]) ?_ rfl ?_
          rotate_left
          · exact ⟨⟨_, rfl, HID.out ▸ TabOut.put (rs := []) (n := 0) HD0.out (Nat.lt_succ_self _) _ _⟩, ext_put2 (g := w.heap.size) HD0.out.x (Nat.le_refl _) _ _⟩
          · exact retT rfl HBB.out _ (by kernel_rfl) rfl
end Go.Proofs.Ytcocabflinlbbaa
