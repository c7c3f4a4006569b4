/-
 Helper text (no claim of its own): the draw for the ends of paths, and the laws' own small helpers.
-/
import Derived.Test.YtioimnplhmgbgaaGreatTbd
import Derived.Test.YtioimnplhmgbgaaGreatIsp
import Derived.Test.YtioimnplhmgbgaaGreatTbk
import Derived.Test.YtioimnplhmgbgaaGreatTba
import Derived.Test.YtioimnplhmgbgaaGreatRet
import Derived.Test.YtioimnplhmgbgaaGreatGate
import Derived.Test.YtioimnplhmgbgaaGreatWg2
import Derived.Test.YtioimnplhmgbgaaGreatTbv
import Derived.Test.YtioimnplhmgbgaaGreatDrawE
/-
 Helper text (no claim of its own): the tableau of the identity, by the program and by the reference. Printed by gen_tc.py.
-/
namespace Go.Proofs.YtioimnplhmgbgaaGreat
open Go.ChangeShapes Go.WideShapes Go.ChangeAt Go.RowKit Go.Deep
set_option linter.unusedVariables false
set_option linter.unusedSimpArgs false
/-- X or Z of a qubit. -/
theorem id_step {n : Int} {k : Nat} (h1 : 1 ≤ n) (h4 : n ≤ 4) (hk : (k : Int) < 2 * n) : ∃ (q : Int) (z : Bool), (k : Int).tmod n = q ∧ (0 ≤ q ∧ q ≤ 3) ∧ decide (n ≤ (k : Int)) = z ∧ sgl n q z = idRow n k := by
 rcases (show n = 1 ∨ n = 2 ∨ n = 3 ∨ n = 4 by omega) with rfl | rfl | rfl | rfl <;>
 rcases (show k = 0 ∨ k = 1 ∨ k = 2 ∨ k = 3 ∨ k = 4 ∨ k = 5 ∨ k = 6 ∨ k = 7 by omega) with rfl | rfl | rfl | rfl | rfl | rfl | rfl | rfl <;> first | (exfalso; omega) | exact ⟨_, _, rfl, by decide, rfl, rfl⟩
set_option maxRecDepth 100000 in
set_option maxHeartbeats 8000000 in
theorem spec_IdentityTableau_any (n : Int) (w : World) (h1 : 1 ≤ n) (h4 : n ≤ 4) : Calls Tryz.prog 22 #[.int .i64 n] w fun e w' => (∃ v, e = .returned v ∧ TabOut n (idT n.toNat) v w') ∧ Ext w w' := by
 have hw2 : IntKind.i64.wrap (2 * n) = 2 * n := IntWalk.i64_in _ (by omega)
 have HN : Hid (1 ≤ n ∧ n ≤ 4) := ⟨h1, h4⟩
 have hn0 : (n == 0) = false := by rw [beq_eq_false_iff_ne]; omega
 have hnz : ¬ n = 0 := by omega
 go_enter Tryz.func22, Tryz.ntmps22
 go_wp2_with fail
 refine (l1In_yes _ _ _ _ h1 h4).mono ?_
 rintro e w1 ⟨rfl, rfl⟩
 go_wp2
 have HR : Hid (Blk ((w.alloc (.cells #[.int .i64 0, .slice none 0 0] 31)).alloc (.cells #[.int .i64 n, .slice none 0 0] 31)) w.heap.size 31 #[.int .i64 0, .slice none 0 0]) := (Blk.new w _ _).alloc _
 have HD : Hid (DT w ((w.alloc (.cells #[.int .i64 0, .slice none 0 0] 31)).alloc (.cells #[.int .i64 n, .slice none 0 0] 31)) (w.heap.size + 1) n none 0 0 []) := ⟨Blk.newAt (by simp), ⟨rfl, Or.inl ⟨rfl, rfl⟩⟩, xx, by omega⟩
 generalize ((w.alloc (.cells #[.int .i64 0, .slice none 0 0] 31)).alloc (.cells #[.int .i64 n, .slice none 0 0] 31)) = w2 at *
 go_loopw [4] (fun iv wr => ∃ (k : Nat) (A : Option Addr) (cap : Nat), iv = .int .i64 k ∧ (k : Int) ≤ 2 * n ∧ Hid (DT w wr (w.heap.size + 1) n A k cap (idL n k)) ∧ Hid (Blk wr w.heap.size 31 #[.int .i64 0, .slice none 0 0])) (fun i _ => 8 - (intOf i).toNat)
 case atStart => exact ⟨0, none, 0, rfl, by omega, HD, HR⟩
 case round =>
  obtain ⟨k, A, cap, rfl, hk, HD0, HR0⟩ := hrel
  clear HD HR
  by_cases hlt : (k : Int) < 2 * n
  ·obtain ⟨q, z, hq, hq03, hz, hy⟩ := id_step h1 h4 hlt
   have hz2 : decide ((k : Int) ≥ n) = z := hz
   have hqw : IntKind.i64.wrap q = q := IntWalk.i64_in _ (by omega)
   obtain ⟨y, hyy⟩ : ∃ y, idRow n k = y := ⟨_, rfl⟩
   rw [hyy] at hy
   have HYY := Lib.hid hyy
   have HS : Hid (∀ w', Calls Tryz.prog 43 #[.int .i64 n, .int .i64 q, .bool z] w' fun e w'' => e = .returned (.agg #[.int .i64 y.n, .int .i64 y.x, .int .i64 y.z, .int .i64 y.p]) ∧ Ext w' w'') := fun w' => by rw [← hy]; exact spec_l25Single_any n q z w' hq03.1 hq03.2
   clear hyy hy hq03
   have hk8 : k < 8 := by omega
   have HK8 : Hid (k < 8 ∧ (k : Int) < 2 * n) := ⟨hk8, hlt⟩
   go_upto_region 7 with (fail)
   clear hlt hk hk8 hw2
   have HDd := Lib.hid (HD0.out.ext (Ext.refl _).drew)
   have HRd := Lib.hid (HR0.out.ext (Ext.refl _).drew)
   have hHeld : True := trivial
   refine wp_region_held_drew (S := fun _ => True) (by kernel_rfl) trivial (fun hHeld => ?_)
   (refine tk 0 (v := ?_) ?_ ?_; rotate_left; · (intro w hSw; (try dsimp only at hSw); go_simp; all_goals with_reducible rfl))
   (try simp only [Act.put, L1, L2, L3, L4, L5, L6])
   (refine tk 2 (v := ?_) ?_ ?_; rotate_left; · (intro w hSw; (try dsimp only at hSw); go_simp; all_goals with_reducible rfl))
   (try simp only [Act.put, L1, L2, L3, L4, L5, L6])
   (refine tk 3 (v := ?_) ?_ ?_; rotate_left; · (intro w hSw; (try dsimp only at hSw); go_simp; all_goals with_reducible rfl))
   (try simp only [Act.put, L1, L2, L3, L4, L5, L6])
   (refine tk 4 (v := ?_) ?_ ?_; rotate_left; · (intro w hSw; (try dsimp only at hSw); go_simp; all_goals with_reducible rfl))
   (try simp only [Act.put, L1, L2, L3, L4, L5, L6])
   (refine tk 5 (v := ?_) ?_ ?_; rotate_left; · (intro w hSw; (try dsimp only at hSw); go_simp; all_goals with_reducible rfl))
   (try simp only [Act.put, L1, L2, L3, L4, L5, L6])
   (refine tk 6 (v := ?_) ?_ ?_; rotate_left; · (intro w hSw; (try dsimp only at hSw); go_simp; all_goals with_reducible rfl))
   (try simp only [Act.put, L1, L2, L3, L4, L5, L6])
   (refine tk 7 (v := ?_) ?_ ?_; rotate_left; · (intro w hSw; (try dsimp only at hSw); go_simp; all_goals with_reducible rfl))
   (try simp only [Act.put, L1, L2, L3, L4, L5, L6])
   (refine tk 8 (v := ?_) ?_ ?_; rotate_left; · (intro w hSw; (try dsimp only at hSw); go_simp; all_goals with_reducible rfl))
   (try simp only [Act.put, L1, L2, L3, L4, L5, L6])
   refine wpAnyH_ready (rs := [1, 9]) (by kernel_rfl) (by simp) ?_
   refine AllReadyH.cons rfl (fun K hK => ?wL) (AllReadyH.cons rfl (fun K hK => ?wC) AllReadyH.nil)
   case' wL =>
    have c1 := HDd.out.b.cell 1
    have c1' : _ = some (Value.slice A (k) cap) := c1
    clear c1
    go_simp
    refine hK.out _ _ trivial (fun hHeld => ?_)
    clear hK K hHeld
    have hHeld : True := trivial
    (try simp only [Act.put, L1, L2, L3, L4, L5, L6])
    clear c1'
    refine wpAnyH_ready (rs := [9]) (by kernel_rfl) (by simp) ?_
    refine AllReadyH.cons rfl (fun K hK => ?_) AllReadyH.nil
    go_simp
    refine (HS.out _).mono ?_
    rintro e v5 ⟨rfl, hy5⟩
    have HD1 := Lib.hid (HDd.out.ext hy5)
    have HR1 := Lib.hid (HRd.out.ext hy5)
    clear hy5
    refine hK.out _ _ trivial (fun hHeld => ?_)
    clear hK K hHeld
    have hHeld : True := trivial
    (try simp only [Act.put, L1, L2, L3, L4, L5, L6])
    refine wpAnyH_ready (rs := [10]) (by kernel_rfl) (by simp) ?_
    refine AllReadyH.cons rfl (fun K hK => ?_) AllReadyH.nil
    go_simp
    have HD2 := Lib.hid (HD1.out.ext ((Ext.refl _).alloc (.cells #[.int .i64 y.n, .int .i64 y.x, .int .i64 y.z, .int .i64 y.p] 66)))
    have HR2 := Lib.hid (HR1.out.alloc (.cells #[.int .i64 y.n, .int .i64 y.x, .int .i64 y.z, .int .i64 y.p] 66))
    refine hK.out _ _ trivial (fun hHeld => ?_)
    clear hK K hHeld
    have hHeld : True := trivial
    (try simp only [Act.put, L1, L2, L3, L4, L5, L6])
   case' wC =>
    go_simp
    refine (HS.out _).mono ?_
    rintro e v5 ⟨rfl, hy5⟩
    have HD1 := Lib.hid (HDd.out.ext hy5)
    have HR1 := Lib.hid (HRd.out.ext hy5)
    clear hy5
    refine hK.out _ _ trivial (fun hHeld => ?_)
    clear hK K hHeld
    have hHeld : True := trivial
    (try simp only [Act.put, L1, L2, L3, L4, L5, L6])
    refine wpAnyH_ready (rs := [1, 10]) (by kernel_rfl) (by simp) ?_
    refine AllReadyH.cons rfl (fun K hK => ?wL2) (AllReadyH.cons rfl (fun K hK => ?wC2) AllReadyH.nil)
   case' wL2 =>
    have c1 := HD1.out.b.cell 1
    have c1' : _ = some (Value.slice A (k) cap) := c1
    clear c1
    go_simp
    refine hK.out _ _ trivial (fun hHeld => ?_)
    clear hK K hHeld
    have hHeld : True := trivial
    (try simp only [Act.put, L1, L2, L3, L4, L5, L6])
    clear c1'
    refine wpAnyH_ready (rs := [10]) (by kernel_rfl) (by simp) ?_
    refine AllReadyH.cons rfl (fun K hK => ?_) AllReadyH.nil
    go_simp
    have HD2 := Lib.hid (HD1.out.ext ((Ext.refl _).alloc (.cells #[.int .i64 y.n, .int .i64 y.x, .int .i64 y.z, .int .i64 y.p] 66)))
    have HR2 := Lib.hid (HR1.out.alloc (.cells #[.int .i64 y.n, .int .i64 y.x, .int .i64 y.z, .int .i64 y.p] 66))
    refine hK.out _ _ trivial (fun hHeld => ?_)
    clear hK K hHeld
    have hHeld : True := trivial
    (try simp only [Act.put, L1, L2, L3, L4, L5, L6])
   case' wC2 =>
    go_simp
    have HD2 := Lib.hid (HD1.out.ext ((Ext.refl _).alloc (.cells #[.int .i64 y.n, .int .i64 y.x, .int .i64 y.z, .int .i64 y.p] 66)))
    have HR2 := Lib.hid (HR1.out.alloc (.cells #[.int .i64 y.n, .int .i64 y.x, .int .i64 y.z, .int .i64 y.p] 66))
    refine hK.out _ _ trivial (fun hHeld => ?_)
    clear hK K hHeld
    have hHeld : True := trivial
    (try simp only [Act.put, L1, L2, L3, L4, L5, L6])
    refine wpAnyH_ready (rs := [1]) (by kernel_rfl) (by simp) ?_
    refine AllReadyH.cons rfl (fun K hK => ?_) AllReadyH.nil
    have c1 := HD2.out.b.cell 1
    have c1' : _ = some (Value.slice A (k) cap) := c1
    clear c1
    go_simp
    refine hK.out _ _ trivial (fun hHeld => ?_)
    clear hK K hHeld
    have hHeld : True := trivial
    (try simp only [Act.put, L1, L2, L3, L4, L5, L6])
    clear c1'
   all_goals
    refine wpAnyH_ready (rs := [11]) (by kernel_rfl) (by simp) ?_
    refine AllReadyH.cons rfl (fun K hK => ?_) AllReadyH.nil
    refine DT.step HD2.out (by rfl) _ _ (by rfl) (by rfl) y _ (by rfl) (rd_new v5 _ _ 4 _ (by simp [Pa.cells]) (by simp [Pa.cells])) (by have := HN.out; have := HK8.out; omega) ?_
    intro A' c' w7 ⟨hb7, hD7, hbk⟩
    have HD7 := Lib.hid hD7
    have HR7 := Lib.hid (hbk _ _ _ (Nat.lt_succ_self _) HR2.out)
    have k6 : w7.cell? ⟨w.heap.size + 1, 1, none⟩ = some (.slice A (k) cap) := hb7.cell 1
    have f6 : w7.frozen? ⟨w.heap.size + 1, 1, none⟩ = false := hb7.frozen 1
    clear hb7 hD7 hbk
    refine hK.out _ _ trivial (fun hHeld => ?_)
    clear hK K hHeld
    have hHeld : True := trivial
    (try simp only [Act.put, L1, L2, L3, L4, L5, L6])
    (refine tk 12 (v := ?_) ?_ ?_; rotate_left; · (intro w hSw; (try dsimp only at hSw); go_simp; all_goals with_reducible rfl))
    (try simp only [Act.put, L1, L2, L3, L4, L5, L6])
    refine wpAnyH_ready (rs := [13]) (by kernel_rfl) (by simp) ?_
    refine AllReadyH.cons rfl (fun K hK => ?_) AllReadyH.nil
    go_simp
    refine hK.out _ _ trivial (fun hHeld => ?_)
    clear hK K hHeld
    have hHeld : True := trivial
    (try simp only [Act.put, L1, L2, L3, L4, L5, L6])
    (refine wpAnyH_done (by kernel_rfl) ?_ _)
    clear k6 f6 hHeld
    have hk1 : IntKind.i64.wrap ((k : Int) + 1) = ((k + 1 : Nat) : Int) := by have := HK8.out; rw [IntWalk.i64_in _ (by omega)]; rfl
    have hk2 : wrap64 ((k : Int) + 1) = ((k + 1 : Nat) : Int) := by have := HK8.out; unfold wrap64; omega
    go_wp2
    go_roundw
    case rel => exact ⟨k + 1, A', c', by first | rfl | rw [hk1] | rw [hk2], by have := HK8.out.2; omega, by rw [idL_succ, HYY.out]; exact HD7, HR7⟩
    case measure => simp [intOf, hk2]; have := HK8.out; omega
  ·have hk2 : k = 2 * n.toNat := by omega
   have HID : Hid (idL n k = idT n.toNat) := by unfold Hid; rw [hk2]; exact idL_all h1 h4
   clear hk2
   obtain ⟨⟨c0, c1⟩, -⟩ := blkT2 HD0.out.b
   obtain ⟨⟨d0, d1⟩, f0, f1⟩ := blkT2 HR0.out
   go_wp2
   have HBB : Hid (Blk (put2 wr w.heap.size (.int .i64 n) (.slice A k cap)) w.heap.size 31 #[.int .i64 n, .slice A k cap]) := HR0.out.put2 _ _
   refine bodyPost_ret (v := .agg #[.int .i64 n, .slice A k cap]) ?_ rfl ?_
   rotate_left
   ·exact ⟨⟨_, rfl, HID.out ▸ TabOut.put (rs := []) (n := 0) HD0.out (Nat.lt_succ_self _) _ _⟩, ext_put2 (g := w.heap.size) HD0.out.x (Nat.le_refl _) _ _⟩
   ·exact retT rfl HBB.out _ (by kernel_rfl) rfl
set_option maxRecDepth 100000 in
set_option maxHeartbeats 8000000 in
theorem impl_IdentityTableau_any (n : Int) (w : World) (h1 : 1 ≤ n) (h4 : n ≤ 4) : Calls Tryz.prog 19 #[.int .i64 n] w fun e w' => (∃ v, e = .returned v ∧ TabOut n (idT n.toNat) v w') ∧ Ext w w' := by
 have hw2 : IntKind.i64.wrap (2 * n) = 2 * n := IntWalk.i64_in _ (by omega)
 have HN : Hid (1 ≤ n ∧ n ≤ 4) := ⟨h1, h4⟩
 have hn0 : (n == 0) = false := by rw [beq_eq_false_iff_ne]; omega
 have hnz : ¬ n = 0 := by omega
 go_enter Tryz.func19, Tryz.ntmps19
 go_wp2_with fail
 refine (in_yes _ _ _ _ h1 h4).mono ?_
 rintro e w1 ⟨rfl, rfl⟩
 go_wp2
 have HR : Hid (Blk ((w.alloc (.cells #[.int .i64 0, .slice none 0 0] 31)).alloc (.cells #[.int .i64 n, .slice none 0 0] 31)) w.heap.size 31 #[.int .i64 0, .slice none 0 0]) := (Blk.new w _ _).alloc _
 have HD : Hid (DT w ((w.alloc (.cells #[.int .i64 0, .slice none 0 0] 31)).alloc (.cells #[.int .i64 n, .slice none 0 0] 31)) (w.heap.size + 1) n none 0 0 []) := ⟨Blk.newAt (by simp), ⟨rfl, Or.inl ⟨rfl, rfl⟩⟩, xx, by omega⟩
 generalize ((w.alloc (.cells #[.int .i64 0, .slice none 0 0] 31)).alloc (.cells #[.int .i64 n, .slice none 0 0] 31)) = w2 at *
 go_loopw [4] (fun iv wr => ∃ (k : Nat) (A : Option Addr) (cap : Nat), iv = .int .i64 k ∧ (k : Int) ≤ n ∧ Hid (DT w wr (w.heap.size + 1) n A k cap (idL n k)) ∧ Hid (Blk wr w.heap.size 31 #[.int .i64 0, .slice none 0 0])) (fun i _ => 4 - (intOf i).toNat)
 case atStart => exact ⟨0, none, 0, rfl, by omega, HD, HR⟩
 case round =>
  obtain ⟨k, A, cap, rfl, hk, HD0, HR0⟩ := hrel
  clear HD HR
  by_cases hlt : (k : Int) < n
  ·have hk0 : (0 : Int) ≤ (k : Int) := by omega
   have hk3 : (k : Int) ≤ 3 := by omega
   have hsk : wrap64 (2 ^ k) = pw k := pw_wrap hk0 hk3
   have hsk2 : IntKind.i64.wrap (2 ^ k) = pw k := pw_wrapK hk0 hk3
   have hsk3 : wrap64 (2 ^ (k : Int).toNat) = pw k := pw_wrap hk0 hk3
   have hsk4 : IntKind.i64.wrap (2 ^ (k : Int).toNat) = pw k := pw_wrapK hk0 hk3
   have HK8 : Hid (k < 4 ∧ (k : Int) < n) := ⟨by omega, hlt⟩
   obtain ⟨y, hyy⟩ : ∃ y : Pa, y = ⟨n, pw k, 0, 0⟩ := ⟨_, rfl⟩
   have HYY : Hid (idRow n k = y) := by
    unfold Hid idRow
    rw [if_pos hlt, hyy]
   have HYV : Hid ((#[.int .i64 n, .int .i64 (pw k), .int .i64 0, .int .i64 0] : Array Value) = #[.int .i64 y.n, .int .i64 y.x, .int .i64 y.z, .int .i64 y.p]) := by unfold Hid; rw [hyy]
   clear hyy
   go_upto_region 7 with (fail)
   clear hlt hk
   have HDd := Lib.hid (HD0.out.ext (Ext.refl _).drew)
   have HRd := Lib.hid (HR0.out.ext (Ext.refl _).drew)
   have hHeld : True := trivial
   refine wp_region_held_drew (S := fun _ => True) (by kernel_rfl) trivial (fun hHeld => ?_)
   (refine tk 0 (v := ?_) ?_ ?_; rotate_left; · (intro w hSw; (try dsimp only at hSw); go_simp; all_goals with_reducible rfl))
   (try simp only [Act.put, L1, L2, L3, L4, L5, L6])
   (refine tk 2 (v := ?_) ?_ ?_; rotate_left; · (intro w hSw; (try dsimp only at hSw); go_simp; all_goals with_reducible rfl))
   (try simp only [Act.put, L1, L2, L3, L4, L5, L6])
   (refine tk 3 (v := ?_) ?_ ?_; rotate_left; · (intro w hSw; (try dsimp only at hSw); go_simp; all_goals with_reducible rfl))
   (try simp only [Act.put, L1, L2, L3, L4, L5, L6])
   (refine tk 4 (v := ?_) ?_ ?_; rotate_left; · (intro w hSw; (try dsimp only at hSw); go_simp; all_goals with_reducible rfl))
   (try simp only [Act.put, L1, L2, L3, L4, L5, L6])
   (refine tk 5 (v := ?_) ?_ ?_; rotate_left; · (intro w hSw; (try dsimp only at hSw); go_simp; all_goals with_reducible rfl))
   (try simp only [Act.put, L1, L2, L3, L4, L5, L6])
   refine wpAnyH_ready (rs := [1, 6]) (by kernel_rfl) (by simp) ?_
   refine AllReadyH.cons rfl (fun K hK => ?_) (AllReadyH.cons rfl (fun K hK => ?_) AllReadyH.nil)
   ·have c1 := HD0.out.b.cell 1
    have c1' : _ = some (Value.slice A (k) cap) := c1
    clear c1
    go_simp
    refine hK.out _ _ trivial (fun hHeld => ?_)
    clear hK K hHeld
    have hHeld : True := trivial
    (try simp only [Act.put, L1, L2, L3, L4, L5, L6])
    clear c1'
    refine wpAnyH_ready (rs := [6]) (by kernel_rfl) (by simp) ?_
    refine AllReadyH.cons rfl (fun K hK => ?_) AllReadyH.nil
    go_simp
    rw [HYV.out]
    have HDa := Lib.hid (HD0.out.ext ((Ext.refl _).alloc (.cells #[.int .i64 y.n, .int .i64 y.x, .int .i64 y.z, .int .i64 y.p] 66)))
    have HD2 := Lib.hid (HDd.out.ext ((Ext.refl _).alloc (.cells #[.int .i64 y.n, .int .i64 y.x, .int .i64 y.z, .int .i64 y.p] 66)))
    have HR2 := Lib.hid (HRd.out.alloc (.cells #[.int .i64 y.n, .int .i64 y.x, .int .i64 y.z, .int .i64 y.p] 66))
    refine hK.out _ _ trivial (fun hHeld => ?_)
    clear hK K hHeld
    have hHeld : True := trivial
    (try simp only [Act.put, L1, L2, L3, L4, L5, L6])
    refine wpAnyH_ready (rs := [7]) (by kernel_rfl) (by simp) ?_
    refine AllReadyH.cons rfl (fun K hK => ?_) AllReadyH.nil
    refine DT.step HD2.out (by rfl) _ _ (by rfl) (by rfl) y _ (by rfl) (rd_new wr.drew _ _ 4 _ (by simp [Pa.cells]) (by simp [Pa.cells])) (by have := HN.out; have := HK8.out; omega) ?_
    intro A' c' w7 ⟨hb7, hD7, hbk⟩
    have HD7 := Lib.hid hD7
    have HR7 := Lib.hid (hbk _ _ _ (Nat.lt_succ_self _) HR2.out)
    have k6 : w7.cell? ⟨w.heap.size + 1, 1, none⟩ = some (.slice A (k) cap) := hb7.cell 1
    have f6 : w7.frozen? ⟨w.heap.size + 1, 1, none⟩ = false := hb7.frozen 1
    clear hb7 hD7 hbk
    refine hK.out _ _ trivial (fun hHeld => ?_)
    clear hK K hHeld
    have hHeld : True := trivial
    (try simp only [Act.put, L1, L2, L3, L4, L5, L6])
    (refine tk 8 (v := ?_) ?_ ?_; rotate_left; · (intro w hSw; (try dsimp only at hSw); go_simp; all_goals with_reducible rfl))
    (try simp only [Act.put, L1, L2, L3, L4, L5, L6])
    refine wpAnyH_ready (rs := [9]) (by kernel_rfl) (by simp) ?_
    refine AllReadyH.cons rfl (fun K hK => ?_) AllReadyH.nil
    go_simp
    refine hK.out _ _ trivial (fun hHeld => ?_)
    clear hK K hHeld
    have hHeld : True := trivial
    (try simp only [Act.put, L1, L2, L3, L4, L5, L6])
    (refine wpAnyH_done (by kernel_rfl) ?_ _)
    clear k6 f6 hHeld
    have hk1 : IntKind.i64.wrap ((k : Int) + 1) = ((k + 1 : Nat) : Int) := by have := HK8.out; rw [IntWalk.i64_in _ (by omega)]; rfl
    have hk2 : wrap64 ((k : Int) + 1) = ((k + 1 : Nat) : Int) := by have := HK8.out; unfold wrap64; omega
    go_wp2
    go_roundw
    case rel => exact ⟨k + 1, A', c', by first | rfl | rw [hk1] | rw [hk2], by have := HK8.out.2; omega, by rw [idL_succ, HYY.out]; exact HD7, HR7⟩
    case measure => simp [intOf, hk2]; have := HK8.out; omega
   ·go_simp
    rw [HYV.out]
    have HDa := Lib.hid (HD0.out.ext ((Ext.refl _).alloc (.cells #[.int .i64 y.n, .int .i64 y.x, .int .i64 y.z, .int .i64 y.p] 66)))
    have HD2 := Lib.hid (HDd.out.ext ((Ext.refl _).alloc (.cells #[.int .i64 y.n, .int .i64 y.x, .int .i64 y.z, .int .i64 y.p] 66)))
    have HR2 := Lib.hid (HRd.out.alloc (.cells #[.int .i64 y.n, .int .i64 y.x, .int .i64 y.z, .int .i64 y.p] 66))
    refine hK.out _ _ trivial (fun hHeld => ?_)
    clear hK K hHeld
    have hHeld : True := trivial
    (try simp only [Act.put, L1, L2, L3, L4, L5, L6])
    refine wpAnyH_ready (rs := [1]) (by kernel_rfl) (by simp) ?_
    refine AllReadyH.cons rfl (fun K hK => ?_) AllReadyH.nil
    have c1 := HDa.out.b.cell 1
    have c1' : _ = some (Value.slice A (k) cap) := c1
    clear c1
    go_simp
    refine hK.out _ _ trivial (fun hHeld => ?_)
    clear hK K hHeld
    have hHeld : True := trivial
    (try simp only [Act.put, L1, L2, L3, L4, L5, L6])
    clear c1'
    refine wpAnyH_ready (rs := [7]) (by kernel_rfl) (by simp) ?_
    refine AllReadyH.cons rfl (fun K hK => ?_) AllReadyH.nil
    refine DT.step HD2.out (by rfl) _ _ (by rfl) (by rfl) y _ (by rfl) (rd_new wr.drew _ _ 4 _ (by simp [Pa.cells]) (by simp [Pa.cells])) (by have := HN.out; have := HK8.out; omega) ?_
    intro A' c' w7 ⟨hb7, hD7, hbk⟩
    have HD7 := Lib.hid hD7
    have HR7 := Lib.hid (hbk _ _ _ (Nat.lt_succ_self _) HR2.out)
    have k6 : w7.cell? ⟨w.heap.size + 1, 1, none⟩ = some (.slice A (k) cap) := hb7.cell 1
    have f6 : w7.frozen? ⟨w.heap.size + 1, 1, none⟩ = false := hb7.frozen 1
    clear hb7 hD7 hbk
    refine hK.out _ _ trivial (fun hHeld => ?_)
    clear hK K hHeld
    have hHeld : True := trivial
    (try simp only [Act.put, L1, L2, L3, L4, L5, L6])
    (refine tk 8 (v := ?_) ?_ ?_; rotate_left; · (intro w hSw; (try dsimp only at hSw); go_simp; all_goals with_reducible rfl))
    (try simp only [Act.put, L1, L2, L3, L4, L5, L6])
    refine wpAnyH_ready (rs := [9]) (by kernel_rfl) (by simp) ?_
    refine AllReadyH.cons rfl (fun K hK => ?_) AllReadyH.nil
    go_simp
    refine hK.out _ _ trivial (fun hHeld => ?_)
    clear hK K hHeld
    have hHeld : True := trivial
    (try simp only [Act.put, L1, L2, L3, L4, L5, L6])
    (refine wpAnyH_done (by kernel_rfl) ?_ _)
    clear k6 f6 hHeld
    have hk1 : IntKind.i64.wrap ((k : Int) + 1) = ((k + 1 : Nat) : Int) := by have := HK8.out; rw [IntWalk.i64_in _ (by omega)]; rfl
    have hk2 : wrap64 ((k : Int) + 1) = ((k + 1 : Nat) : Int) := by have := HK8.out; unfold wrap64; omega
    go_wp2
    go_roundw
    case rel => exact ⟨k + 1, A', c', by first | rfl | rw [hk1] | rw [hk2], by have := HK8.out.2; omega, by rw [idL_succ, HYY.out]; exact HD7, HR7⟩
    case measure => simp [intOf, hk2]; have := HK8.out; omega
  ·have hkn : k = n.toNat := by omega
   have HD1 : Hid (DT w wr (w.heap.size + 1) n A (n.toNat + 0) cap (idL n (n.toNat + 0))) := by rw [Nat.add_zero, ← hkn]; exact HD0
   clear HD0 hk
   go_wp2
   go_loopw [5] (fun iv wr => ∃ (k : Nat) (A : Option Addr) (cap : Nat), iv = .int .i64 k ∧ (k : Int) ≤ n ∧ Hid (DT w wr (w.heap.size + 1) n A (n.toNat + k) cap (idL n (n.toNat + k))) ∧ Hid (Blk wr w.heap.size 31 #[.int .i64 0, .slice none 0 0])) (fun i _ => 4 - (intOf i).toNat)
   case atStart => exact ⟨0, A, cap, rfl, by omega, HD1, HR0⟩
   case round =>
    clear HD1 HR0 hkn hlt
    clear A cap
    obtain ⟨k, A, cap, rfl, hk, HD0, HR0⟩ := hrel
    by_cases hlt : (k : Int) < n
    ·have hk0 : (0 : Int) ≤ (k : Int) := by omega
     have hk3 : (k : Int) ≤ 3 := by omega
     have hsk : wrap64 (2 ^ k) = pw k := pw_wrap hk0 hk3
     have hsk2 : IntKind.i64.wrap (2 ^ k) = pw k := pw_wrapK hk0 hk3
     have hsk3 : wrap64 (2 ^ (k : Int).toNat) = pw k := pw_wrap hk0 hk3
     have hsk4 : IntKind.i64.wrap (2 ^ (k : Int).toNat) = pw k := pw_wrapK hk0 hk3
     have HK8 : Hid (k < 4 ∧ (k : Int) < n) := ⟨by omega, hlt⟩
     obtain ⟨y, hyy⟩ : ∃ y : Pa, y = ⟨n, 0, pw k, 0⟩ := ⟨_, rfl⟩
     have HYY : Hid (idRow n (n.toNat + k) = y) := by
      unfold Hid idRow
      rw [if_neg (by omega), hyy, show (((n.toNat + k : Nat) : Int) - n) = k by omega]
     have HYV : Hid ((#[.int .i64 n, .int .i64 0, .int .i64 (pw k), .int .i64 0] : Array Value) = #[.int .i64 y.n, .int .i64 y.x, .int .i64 y.z, .int .i64 y.p]) := by unfold Hid; rw [hyy]
     clear hyy
     go_upto_region 11 with (fail)
     clear hlt hk
     have HDd := Lib.hid (HD0.out.ext (Ext.refl _).drew)
     have HRd := Lib.hid (HR0.out.ext (Ext.refl _).drew)
     have hHeld : True := trivial
     refine wp_region_held_drew (S := fun _ => True) (by kernel_rfl) trivial (fun hHeld => ?_)
     (refine tk 0 (v := ?_) ?_ ?_; rotate_left; · (intro w hSw; (try dsimp only at hSw); go_simp; all_goals with_reducible rfl))
     (try simp only [Act.put, L1, L2, L3, L4, L5, L6])
     (refine tk 2 (v := ?_) ?_ ?_; rotate_left; · (intro w hSw; (try dsimp only at hSw); go_simp; all_goals with_reducible rfl))
     (try simp only [Act.put, L1, L2, L3, L4, L5, L6])
     (refine tk 3 (v := ?_) ?_ ?_; rotate_left; · (intro w hSw; (try dsimp only at hSw); go_simp; all_goals with_reducible rfl))
     (try simp only [Act.put, L1, L2, L3, L4, L5, L6])
     (refine tk 4 (v := ?_) ?_ ?_; rotate_left; · (intro w hSw; (try dsimp only at hSw); go_simp; all_goals with_reducible rfl))
     (try simp only [Act.put, L1, L2, L3, L4, L5, L6])
     (refine tk 5 (v := ?_) ?_ ?_; rotate_left; · (intro w hSw; (try dsimp only at hSw); go_simp; all_goals with_reducible rfl))
     (try simp only [Act.put, L1, L2, L3, L4, L5, L6])
     refine wpAnyH_ready (rs := [1, 6]) (by kernel_rfl) (by simp) ?_
     refine AllReadyH.cons rfl (fun K hK => ?_) (AllReadyH.cons rfl (fun K hK => ?_) AllReadyH.nil)
     ·have c1 := HD0.out.b.cell 1
      have c1' : _ = some (Value.slice A (n.toNat + k) cap) := c1
      clear c1
      go_simp
      refine hK.out _ _ trivial (fun hHeld => ?_)
      clear hK K hHeld
      have hHeld : True := trivial
      (try simp only [Act.put, L1, L2, L3, L4, L5, L6])
      clear c1'
      refine wpAnyH_ready (rs := [6]) (by kernel_rfl) (by simp) ?_
      refine AllReadyH.cons rfl (fun K hK => ?_) AllReadyH.nil
      go_simp
      rw [HYV.out]
      have HDa := Lib.hid (HD0.out.ext ((Ext.refl _).alloc (.cells #[.int .i64 y.n, .int .i64 y.x, .int .i64 y.z, .int .i64 y.p] 66)))
      have HD2 := Lib.hid (HDd.out.ext ((Ext.refl _).alloc (.cells #[.int .i64 y.n, .int .i64 y.x, .int .i64 y.z, .int .i64 y.p] 66)))
      have HR2 := Lib.hid (HRd.out.alloc (.cells #[.int .i64 y.n, .int .i64 y.x, .int .i64 y.z, .int .i64 y.p] 66))
      refine hK.out _ _ trivial (fun hHeld => ?_)
      clear hK K hHeld
      have hHeld : True := trivial
      (try simp only [Act.put, L1, L2, L3, L4, L5, L6])
      refine wpAnyH_ready (rs := [7]) (by kernel_rfl) (by simp) ?_
      refine AllReadyH.cons rfl (fun K hK => ?_) AllReadyH.nil
      refine DT.step HD2.out (by rfl) _ _ (by rfl) (by rfl) y _ (by rfl) (rd_new wr.drew _ _ 4 _ (by simp [Pa.cells]) (by simp [Pa.cells])) (by have := HN.out; have := HK8.out; omega) ?_
      intro A' c' w7 ⟨hb7, hD7, hbk⟩
      have HD7 := Lib.hid hD7
      have HR7 := Lib.hid (hbk _ _ _ (Nat.lt_succ_self _) HR2.out)
      have k6 : w7.cell? ⟨w.heap.size + 1, 1, none⟩ = some (.slice A (n.toNat + k) cap) := hb7.cell 1
      have f6 : w7.frozen? ⟨w.heap.size + 1, 1, none⟩ = false := hb7.frozen 1
      clear hb7 hD7 hbk
      refine hK.out _ _ trivial (fun hHeld => ?_)
      clear hK K hHeld
      have hHeld : True := trivial
      (try simp only [Act.put, L1, L2, L3, L4, L5, L6])
      (refine tk 8 (v := ?_) ?_ ?_; rotate_left; · (intro w hSw; (try dsimp only at hSw); go_simp; all_goals with_reducible rfl))
      (try simp only [Act.put, L1, L2, L3, L4, L5, L6])
      refine wpAnyH_ready (rs := [9]) (by kernel_rfl) (by simp) ?_
      refine AllReadyH.cons rfl (fun K hK => ?_) AllReadyH.nil
      go_simp
      refine hK.out _ _ trivial (fun hHeld => ?_)
      clear hK K hHeld
      have hHeld : True := trivial
      (try simp only [Act.put, L1, L2, L3, L4, L5, L6])
      (refine wpAnyH_done (by kernel_rfl) ?_ _)
      clear k6 f6 hHeld
      have hk1 : IntKind.i64.wrap ((k : Int) + 1) = ((k + 1 : Nat) : Int) := by have := HK8.out; rw [IntWalk.i64_in _ (by omega)]; rfl
      have hk2 : wrap64 ((k : Int) + 1) = ((k + 1 : Nat) : Int) := by have := HK8.out; unfold wrap64; omega
      go_wp2
      go_roundw
      case rel => exact ⟨k + 1, A', c', by first | rfl | rw [hk1] | rw [hk2], by have := HK8.out.2; omega, by rw [show n.toNat + (k + 1) = n.toNat + k + 1 from rfl, idL_succ, HYY.out]; exact HD7, HR7⟩
      case measure => simp [intOf, hk2]; have := HK8.out; omega
     ·go_simp
      rw [HYV.out]
      have HDa := Lib.hid (HD0.out.ext ((Ext.refl _).alloc (.cells #[.int .i64 y.n, .int .i64 y.x, .int .i64 y.z, .int .i64 y.p] 66)))
      have HD2 := Lib.hid (HDd.out.ext ((Ext.refl _).alloc (.cells #[.int .i64 y.n, .int .i64 y.x, .int .i64 y.z, .int .i64 y.p] 66)))
      have HR2 := Lib.hid (HRd.out.alloc (.cells #[.int .i64 y.n, .int .i64 y.x, .int .i64 y.z, .int .i64 y.p] 66))
      refine hK.out _ _ trivial (fun hHeld => ?_)
      clear hK K hHeld
      have hHeld : True := trivial
      (try simp only [Act.put, L1, L2, L3, L4, L5, L6])
      refine wpAnyH_ready (rs := [1]) (by kernel_rfl) (by simp) ?_
      refine AllReadyH.cons rfl (fun K hK => ?_) AllReadyH.nil
      have c1 := HDa.out.b.cell 1
      have c1' : _ = some (Value.slice A (n.toNat + k) cap) := c1
      clear c1
      go_simp
      refine hK.out _ _ trivial (fun hHeld => ?_)
      clear hK K hHeld
      have hHeld : True := trivial
      (try simp only [Act.put, L1, L2, L3, L4, L5, L6])
      clear c1'
      refine wpAnyH_ready (rs := [7]) (by kernel_rfl) (by simp) ?_
      refine AllReadyH.cons rfl (fun K hK => ?_) AllReadyH.nil
      refine DT.step HD2.out (by rfl) _ _ (by rfl) (by rfl) y _ (by rfl) (rd_new wr.drew _ _ 4 _ (by simp [Pa.cells]) (by simp [Pa.cells])) (by have := HN.out; have := HK8.out; omega) ?_
      intro A' c' w7 ⟨hb7, hD7, hbk⟩
      have HD7 := Lib.hid hD7
      have HR7 := Lib.hid (hbk _ _ _ (Nat.lt_succ_self _) HR2.out)
      have k6 : w7.cell? ⟨w.heap.size + 1, 1, none⟩ = some (.slice A (n.toNat + k) cap) := hb7.cell 1
      have f6 : w7.frozen? ⟨w.heap.size + 1, 1, none⟩ = false := hb7.frozen 1
      clear hb7 hD7 hbk
      refine hK.out _ _ trivial (fun hHeld => ?_)
      clear hK K hHeld
      have hHeld : True := trivial
      (try simp only [Act.put, L1, L2, L3, L4, L5, L6])
      (refine tk 8 (v := ?_) ?_ ?_; rotate_left; · (intro w hSw; (try dsimp only at hSw); go_simp; all_goals with_reducible rfl))
      (try simp only [Act.put, L1, L2, L3, L4, L5, L6])
      refine wpAnyH_ready (rs := [9]) (by kernel_rfl) (by simp) ?_
      refine AllReadyH.cons rfl (fun K hK => ?_) AllReadyH.nil
      go_simp
      refine hK.out _ _ trivial (fun hHeld => ?_)
      clear hK K hHeld
      have hHeld : True := trivial
      (try simp only [Act.put, L1, L2, L3, L4, L5, L6])
      (refine wpAnyH_done (by kernel_rfl) ?_ _)
      clear k6 f6 hHeld
      have hk1 : IntKind.i64.wrap ((k : Int) + 1) = ((k + 1 : Nat) : Int) := by have := HK8.out; rw [IntWalk.i64_in _ (by omega)]; rfl
      have hk2 : wrap64 ((k : Int) + 1) = ((k + 1 : Nat) : Int) := by have := HK8.out; unfold wrap64; omega
      go_wp2
      go_roundw
      case rel => exact ⟨k + 1, A', c', by first | rfl | rw [hk1] | rw [hk2], by have := HK8.out.2; omega, by rw [show n.toNat + (k + 1) = n.toNat + k + 1 from rfl, idL_succ, HYY.out]; exact HD7, HR7⟩
      case measure => simp [intOf, hk2]; have := HK8.out; omega
    ·have hk2 : n.toNat + k = 2 * n.toNat := by omega
     obtain ⟨L, hL⟩ : ∃ L, n.toNat + k = L := ⟨_, rfl⟩
     rw [hL] at HD0 hk2
     have HID : Hid (idL n L = idT n.toNat) := by unfold Hid; rw [hk2]; exact idL_all h1 h4
     clear hk2 hL
     obtain ⟨⟨c0, c1⟩, -⟩ := blkT2 HD0.out.b
     obtain ⟨⟨d0, d1⟩, f0, f1⟩ := blkT2 HR0.out
     go_wp2
     have HBB : Hid (Blk (put2 wr w.heap.size (.int .i64 n) (.slice A L cap)) w.heap.size 31 #[.int .i64 n, .slice A L cap]) := HR0.out.put2 _ _
     refine bodyPost_ret (v := .agg #[.int .i64 n, .slice A L cap]) ?_ rfl ?_
     rotate_left
     ·exact ⟨⟨_, rfl, HID.out ▸ TabOut.put (rs := []) (n := 0) HD0.out (Nat.lt_succ_self _) _ _⟩, ext_put2 (g := w.heap.size) HD0.out.x (Nat.le_refl _) _ _⟩
     ·exact retT rfl HBB.out _ (by kernel_rfl) rfl
end Go.Proofs.YtioimnplhmgbgaaGreat
/-
 Helper text (no claim of its own): the tableau of a circuit, by the reference. Printed by gen_tc.py.
-/
namespace Go.Proofs.YtioimnplhmgbgaaGreat
open Go.ChangeShapes Go.WideShapes Go.ChangeAt Go.RowKit Go.Deep
set_option linter.unusedVariables false
set_option linter.unusedSimpArgs false
set_option maxRecDepth 100000 in
set_option maxHeartbeats 8000000 in
theorem spec_CircuitTableau_any (A : Option Addr) (c : Nat) (n : Int) (gs : List Gt) (w : World) (h : Rd w w.heap.size 4 A gs.length (gcells gs)) (hl : gs.length ≤ 100000000) :
  Calls Tryz.prog 7 #[.agg #[.int .i64 n, .slice A gs.length c]] w fun e w' => TabRes n (tabF n gs) e w' ∧ Ext w w' := by
 go_enter Tryz.func7, Tryz.ntmps7
 go_wp2_with fail
 refine (spec_IsValidCircuit_any A c n gs _ (h.ext (by exact xx)) hl).mono ?_
 rintro e w1 ⟨rfl, hx1⟩
 obtain ⟨l, hgl⟩ : ∃ l, gs.length = l := ⟨_, rfl⟩
 rw [hgl] at h hl hx1 ⊢
 have HL := Lib.hid hgl
 clear hgl
 have HC1 : Hid (∀ q, w.heap.size + 2 ≤ q → CG w w1 A l c n q) := fun q hq => ⟨((Blk.new w _ _).alloc _).ext hx1, (Blk.newAt (b := w.heap.size + 1) (by simp)).ext hx1, hq, Ext.trans (by exact xx) hx1⟩
 have hl1 : w.heap.size + 2 ≤ w1.heap.size := by have := hx1.size; simpa using this
 clear hx1
 cases hv : vCi n gs
 ·have HNO : Hid (tabF n gs = none) := tabF_no hv
  clear hv
  have HR := (HC1.out _ (Nat.le_refl _)).2.1
  have HE := Lib.hid (HC1.out _ (Nat.le_refl _)).2.2.2
  obtain ⟨⟨c0, c1⟩, z0, z1⟩ := blkT2 HR
  go_wp2
  have HBB : Hid (Blk (put2 _ (w.heap.size + 1) (.int .i64 0) (.slice none 0 0)) (w.heap.size + 1) 31 #[.int .i64 0, .slice none 0 0]) := (HR).put2 _ _
  refine bodyPost_ret (v := .tuple #[.agg #[.int .i64 0, .slice none 0 0], .bool false]) ?_ rfl ?_
  rotate_left
  ·exact ⟨tabRes_none HNO.out rfl, ext_put2 (g := w.heap.size + 1) (HE.out) (by omega) _ _⟩
  ·exact ret_pair rfl _ _ _ _ _ _ _ rfl rfl HBB.out Tryz.underlying31 rfl Tryz.sizeTableauR
 have HV := Lib.hid hv
 have HN := Lib.hid (vCi_bd hv)
 clear hv
 have HROW : Hid (∀ i, i < l → ∃ x, gs[i]? = some x) := fun i hi => ⟨_, List.getElem?_eq_getElem (by rw [HL.out]; exact hi)⟩
 obtain ⟨⟨b0, b1⟩, -⟩ := blkT2 (HC1.out _ (Nat.le_refl _)).1
 go_wp2_with fail
 refine (spec_IdentityTableau_any n _ HN.out.1 HN.out.2).mono ?_
 rintro e w2 ⟨⟨v, rfl, A0, c0, rfl, hr0, hc0⟩, hx2⟩
 obtain ⟨rs0, hrs0⟩ : ∃ rs0, idT n.toNat = rs0 := ⟨_, rfl⟩
 have hT0 : tabN n (gs.take 0) = some rs0 := by rw [← hrs0]; exact tabN_zero n gs
 have hm8 : rs0.length ≤ 8 := by rw [← hrs0, idT_len]; have := HN.out; omega
 rw [hrs0] at hr0 hc0 ⊢
 clear hrs0
 obtain ⟨m0, hm0⟩ : ∃ m0, rs0.length = m0 := ⟨_, rfl⟩
 rw [hm0] at hr0 hc0 hm8 ⊢
 clear b0 b1
 go_upto_region 4 with (fail)
 obtain ⟨q, hq⟩ : ∃ q, q = w2.heap.size := ⟨_, rfl⟩
 rw [← hq]
 have HCG : Hid (CG w (w2.alloc (.cells #[.int .i64 n, .slice A0 m0 c0] 31)) A l c n q) := (HC1.out q (by have := hx2.size; omega)).ext (hx2.alloc _)
 have HCT : Hid (CT (w2.alloc (.cells #[.int .i64 n, .slice A0 m0 c0] 31)) n q A0 m0 c0 rs0) := ⟨Blk.newAt hq, hr0.ext ((Ext.refl _).alloc _), hc0, hm8, hm0⟩
 generalize w2.alloc (.cells #[.int .i64 n, .slice A0 m0 c0] 31) = w3 at *
 have HT0 := Lib.hid hT0
 clear hq hl1 HC1 hx2 hr0 hc0 hm8 hm0 hT0
 obtain ⟨⟨t0, t1⟩, -⟩ := blkT2 HCG.out.1
 go_wp2
 clear t0 t1
 go_loopw [5] (fun iv wr => ∃ (k : Nat) (rs : List Pa) (A' : Option Addr) (m c' : Nat), iv = .int .i64 k ∧ k ≤ l ∧ Hid (CG w wr A l c n q) ∧ Hid (CT wr n q A' m c' rs) ∧ Hid (tabN n (gs.take k) = some rs)) (fun i _ => l - (intOf i).toNat)
 case atStart => exact ⟨0, rs0, A0, m0, c0, rfl, Nat.zero_le _, HCG, HCT, HT0⟩
 case round =>
  obtain ⟨k, rs, A', m, c', rfl, hk, HG0, HT, HQ⟩ := hrel
  clear HCG HCT HT0
  by_cases hlt : k < l
  ·have HLT := Lib.hid hlt
   obtain ⟨b, o, g, rfl, hb, hg, -⟩ := gate_at h hlt
   have HG := Lib.hid hg
   have hm8 : m ≤ 8 := HT.out.2.2.2.1
   have hk1 : IntKind.i64.wrap ((k : Int) + 1) = ((k + 1 : Nat) : Int) := by rw [IntWalk.i64_in _ (by omega)]; rfl
   have hk2 : wrap64 ((k : Int) + 1) = ((k + 1 : Nat) : Int) := by unfold wrap64; omega
   have HK : Hid (∀ w', Ext wr w' → (w'.cell? ⟨w.heap.size, 0, none⟩ = some (.int .i64 n) ∧ w'.cell? ⟨w.heap.size, 1, none⟩ = some (.slice (some ⟨b, o, none⟩) l c)) ∧ (w'.cell? ⟨b, o + k * 4, none⟩ = some (.int .i64 g.k) ∧ w'.cell? ⟨b, o + k * 4 + 1, none⟩ = some (.int .i64 g.a) ∧ w'.cell? ⟨b, o + k * 4 + 2, none⟩ = some (.int .i64 g.b) ∧ w'.cell? ⟨b, o + k * 4 + 3, none⟩ = some (.int .i64 g.c)) ∧ (w'.cell? ⟨q, 0, none⟩ = some (.int .i64 n) ∧ w'.cell? ⟨q, 1, none⟩ = some (.slice A' m c'))) := fun w' hx => by
    obtain ⟨b2, o2, g2, he, -, hg2, x0, x1, x2, x3⟩ := gate_at (h.up (HG0.out.2.2.2.trans hx) (Nat.le_refl _)) hlt
    simp only [Option.some.injEq, Addr.mk.injEq] at he
    obtain ⟨rfl, rfl, -⟩ := he
    rw [hg] at hg2
    obtain rfl := Option.some.inj hg2
    exact ⟨(blkT2 (HG0.out.1.ext hx)).1, ⟨x0, x1, x2, x3⟩, (blkT2 (HT.out.1.ext hx)).1⟩
   have HCALL : Hid (∀ w', Ext wr w' → Calls Tryz.prog 23 #[.agg #[.int .i64 n, .slice A' m c'], .agg #[.int .i64 g.k, .int .i64 g.a, .int .i64 g.b, .int .i64 g.c]] w' fun e w'' => TabRes n (tabG n rs g) e w'' ∧ Ext w' w'') := fun w' hx => by
    obtain ⟨-, h2, h3, h4, h5⟩ := HT.out.ext hx
    subst h5
    exact spec_TableauApplyGate_any A' c' n rs g w' h2 (by omega) h3
   clear hg
   cases ht : tabG n rs g with
   | none =>
    have HNO : Hid (tabF n gs = none) := by
     unfold Hid
     rw [tabF_yes HV.out]
     exact tabN_stop (k := k + 1) (by rw [tabN_step HG.out HQ.out]; exact ht)
    have HTG := Lib.hid ht
    clear ht
    obtain ⟨⟨b0, b1⟩, -⟩ := HK.out wr (Ext.refl _)
    go_upto_region 7 with (fail)
    refine wp_region_held_drew (S := fun w' => (w'.cell? ⟨w.heap.size, 0, none⟩ = some (.int .i64 n) ∧ w'.cell? ⟨w.heap.size, 1, none⟩ = some (.slice (some ⟨b, o, none⟩) l c)) ∧ (w'.cell? ⟨b, o + k * 4, none⟩ = some (.int .i64 g.k) ∧ w'.cell? ⟨b, o + k * 4 + 1, none⟩ = some (.int .i64 g.a) ∧ w'.cell? ⟨b, o + k * 4 + 2, none⟩ = some (.int .i64 g.b) ∧ w'.cell? ⟨b, o + k * 4 + 3, none⟩ = some (.int .i64 g.c)) ∧ (w'.cell? ⟨q, 0, none⟩ = some (.int .i64 n) ∧ w'.cell? ⟨q, 1, none⟩ = some (.slice A' m c'))) (by kernel_rfl) (HK.out _ (Ext.refl wr).drew) (fun hHeld => ?_)
    clear b0 b1
    (refine tk 0 (v := ?_) ?_ ?_; rotate_left; · (intro w hSw; (try dsimp only at hSw); go_simp; all_goals with_reducible rfl))
    (try simp only [Act.put, L1, L2, L3, L4, L5, L6])
    (refine tk 1 (v := ?_) ?_ ?_; rotate_left; · (intro w hSw; (try dsimp only at hSw); go_simp; all_goals with_reducible rfl))
    (try simp only [Act.put, L1, L2, L3, L4, L5, L6])
    (refine tk 2 (v := ?_) ?_ ?_; rotate_left; · (intro w hSw; (try dsimp only at hSw); go_simp; all_goals with_reducible rfl))
    (try simp only [Act.put, L1, L2, L3, L4, L5, L6])
    (refine tk 3 (v := ?_) ?_ ?_; rotate_left; · (intro w hSw; (try dsimp only at hSw); go_simp; all_goals with_reducible rfl))
    (try simp only [Act.put, L1, L2, L3, L4, L5, L6])
    (refine tk 4 (v := ?_) ?_ ?_; rotate_left; · (intro w hSw; (try dsimp only at hSw); go_simp; all_goals with_reducible rfl))
    (try simp only [Act.put, L1, L2, L3, L4, L5, L6])
    (refine tk 5 (v := ?_) ?_ ?_; rotate_left; · (intro w hSw; (try dsimp only at hSw); go_simp; all_goals with_reducible rfl))
    (try simp only [Act.put, L1, L2, L3, L4, L5, L6])
    refine wpAnyH_ready (rs := [6, 10]) (by kernel_rfl) (by simp) ?_
    refine AllReadyH.cons rfl (fun K hK => ?_) (AllReadyH.cons rfl (fun K hK => ?_) AllReadyH.nil)
    ·go_simp
     refine (HCALL.out _ (Ext.refl wr).drew).mono ?_
     rintro e v5 ⟨hres, hy5⟩
     obtain rfl := tabRes_off HTG.out hres
     clear hres
     have HY5 : Hid (Ext wr v5) := Ext.trans (Ext.refl wr).drew hy5
     clear hy5
     refine hK.out _ _ (HK.out _ (HY5.out)) (fun hHeld => ?_)
     clear hK K
     (try simp only [Act.put, L1, L2, L3, L4, L5, L6])
     (refine tk 7 (v := ?_) ?_ ?_; rotate_left; · (intro w hSw; (try dsimp only at hSw); go_simp; all_goals with_reducible rfl))
     (try simp only [Act.put, L1, L2, L3, L4, L5, L6])
     (refine tk 8 (v := ?_) ?_ ?_; rotate_left; · (intro w hSw; (try dsimp only at hSw); go_simp; all_goals with_reducible rfl))
     (try simp only [Act.put, L1, L2, L3, L4, L5, L6])
     (refine tk 9 (v := ?_) ?_ ?_; rotate_left; · (intro w hSw; (try dsimp only at hSw); go_simp; all_goals with_reducible rfl))
     (try simp only [Act.put, L1, L2, L3, L4, L5, L6])
     refine wpAnyH_ready (rs := [10]) (by kernel_rfl) (by simp) ?_
     refine AllReadyH.cons rfl (fun K hK => ?_) AllReadyH.nil
     go_simp
     have HX6 : Hid (Ext wr (v5.alloc (.cells #[.int .i64 0, .slice none 0 0] 31))) := HY5.out.alloc _
     have HB6 : Hid (Blk (v5.alloc (.cells #[.int .i64 0, .slice none 0 0] 31)) v5.heap.size 31 #[.int .i64 0, .slice none 0 0]) := Blk.new _ _ _
 
     have hs6 : wr.heap.size ≤ v5.heap.size := HY5.out.size
     refine hK.out _ _ (HK.out _ (HX6.out)) (fun hHeld => ?_)
     clear hK K
     (try simp only [Act.put, L1, L2, L3, L4, L5, L6])
 
     generalize v5.alloc (.cells #[.int .i64 0, .slice none 0 0] 31) = w6 at *
     generalize v5.heap.size = s at *
     clear HY5
     refine wpAnyH_ready (rs := [11]) (by kernel_rfl) (by simp) ?_
     refine AllReadyH.cons rfl (fun K hK => ?_) AllReadyH.nil
     obtain ⟨⟨q0, q1⟩, f0, f1⟩ := blkT2 HB6.out
     go_simp
     have HX7 : Hid (Ext wr ((w6.setCell ⟨s, 0, none⟩ (.int .i64 0)).setCell ⟨s, 1, none⟩ (.slice none 0 0))) := ext_put2 (g := s) HX6.out hs6 _ _
 
     refine hK.out _ _ (HK.out _ (HX7.out)) (fun hHeld => ?_)
     clear hK K
     (try simp only [Act.put, L1, L2, L3, L4, L5, L6])
     (refine tk 12 (v := ?_) ?_ ?_; rotate_left; · (intro w hSw; (try dsimp only at hSw); go_simp; all_goals with_reducible rfl))
     (try simp only [Act.put, L1, L2, L3, L4, L5, L6])
     (refine wpAnyH_done (by kernel_rfl) ?_ _)
     clear q0 q1 f0 f1 hHeld
     generalize (w6.setCell ⟨s, 0, none⟩ (.int .i64 0)).setCell ⟨s, 1, none⟩ (.slice none 0 0) = w7 at *
     have HG7 := Lib.hid (HG0.out.ext HX7.out)
     have HT7 := Lib.hid (HT.out.ext HX7.out)
     clear HX6 HB6 HX7 HCALL HK hs6 HG0 HT 
     obtain ⟨⟨c0, c1⟩, z0, z1⟩ := blkT2 HG7.out.2.1
     go_wp2
     have HBB : Hid (Blk (put2 _ (w.heap.size + 1) (.int .i64 0) (.slice none 0 0)) (w.heap.size + 1) 31 #[.int .i64 0, .slice none 0 0]) := (HG7.out.2.1).put2 _ _
     refine bodyPost_ret (v := .tuple #[.agg #[.int .i64 0, .slice none 0 0], .bool false]) ?_ rfl ?_
     rotate_left
     ·exact ⟨tabRes_none HNO.out rfl, ext_put2 (g := w.heap.size + 1) (HG7.out.2.2.2) (by omega) _ _⟩
     ·exact ret_pair rfl _ _ _ _ _ _ _ rfl rfl HBB.out Tryz.underlying31 rfl Tryz.sizeTableauR
    ·go_simp
     refine hK.out _ _ (HK.out _ (((Ext.refl wr).alloc _).drew)) (fun hHeld => ?_)
     clear hK K
     (try simp only [Act.put, L1, L2, L3, L4, L5, L6])
     refine wpAnyH_ready (rs := [6]) (by kernel_rfl) (by simp) ?_
     refine AllReadyH.cons rfl (fun K hK => ?_) AllReadyH.nil
     go_simp
     refine (HCALL.out _ ((Ext.refl wr).alloc (.cells #[.int .i64 0, .slice none 0 0] 31)).drew).mono ?_
     rintro e w6 ⟨hres, hy5⟩
     obtain rfl := tabRes_off HTG.out hres
     clear hres
     have HX6 : Hid (Ext wr w6) := Ext.trans ((Ext.refl wr).alloc (.cells #[.int .i64 0, .slice none 0 0] 31)).drew hy5
     have HB6 : Hid (Blk w6 wr.heap.size 31 #[.int .i64 0, .slice none 0 0]) := ((Blk.new wr 31 #[.int .i64 0, .slice none 0 0]).ext ((Ext.refl _).drew)).ext hy5
 
     have hs6 : wr.heap.size ≤ wr.heap.size := Nat.le_refl _
     clear hy5
     refine hK.out _ _ (HK.out _ (HX6.out)) (fun hHeld => ?_)
     clear hK K
     (try simp only [Act.put, L1, L2, L3, L4, L5, L6])
     (refine tk 7 (v := ?_) ?_ ?_; rotate_left; · (intro w hSw; (try dsimp only at hSw); go_simp; all_goals with_reducible rfl))
     (try simp only [Act.put, L1, L2, L3, L4, L5, L6])
     (refine tk 8 (v := ?_) ?_ ?_; rotate_left; · (intro w hSw; (try dsimp only at hSw); go_simp; all_goals with_reducible rfl))
     (try simp only [Act.put, L1, L2, L3, L4, L5, L6])
     (refine tk 9 (v := ?_) ?_ ?_; rotate_left; · (intro w hSw; (try dsimp only at hSw); go_simp; all_goals with_reducible rfl))
     (try simp only [Act.put, L1, L2, L3, L4, L5, L6])
 
     obtain ⟨s, hs⟩ : ∃ s, s = wr.heap.size := ⟨_, rfl⟩
     rw [← hs] at HB6 ⊢
     replace hs6 : wr.heap.size ≤ s := by rw [hs]; exact Nat.le_refl _
     clear hs
     refine wpAnyH_ready (rs := [11]) (by kernel_rfl) (by simp) ?_
     refine AllReadyH.cons rfl (fun K hK => ?_) AllReadyH.nil
     obtain ⟨⟨q0, q1⟩, f0, f1⟩ := blkT2 HB6.out
     go_simp
     have HX7 : Hid (Ext wr ((w6.setCell ⟨s, 0, none⟩ (.int .i64 0)).setCell ⟨s, 1, none⟩ (.slice none 0 0))) := ext_put2 (g := s) HX6.out hs6 _ _
 
     refine hK.out _ _ (HK.out _ (HX7.out)) (fun hHeld => ?_)
     clear hK K
     (try simp only [Act.put, L1, L2, L3, L4, L5, L6])
     (refine tk 12 (v := ?_) ?_ ?_; rotate_left; · (intro w hSw; (try dsimp only at hSw); go_simp; all_goals with_reducible rfl))
     (try simp only [Act.put, L1, L2, L3, L4, L5, L6])
     (refine wpAnyH_done (by kernel_rfl) ?_ _)
     clear q0 q1 f0 f1 hHeld
     generalize (w6.setCell ⟨s, 0, none⟩ (.int .i64 0)).setCell ⟨s, 1, none⟩ (.slice none 0 0) = w7 at *
     have HG7 := Lib.hid (HG0.out.ext HX7.out)
     have HT7 := Lib.hid (HT.out.ext HX7.out)
     clear HX6 HB6 HX7 HCALL HK hs6 HG0 HT 
     obtain ⟨⟨c0, c1⟩, z0, z1⟩ := blkT2 HG7.out.2.1
     go_wp2
     have HBB : Hid (Blk (put2 _ (w.heap.size + 1) (.int .i64 0) (.slice none 0 0)) (w.heap.size + 1) 31 #[.int .i64 0, .slice none 0 0]) := (HG7.out.2.1).put2 _ _
     refine bodyPost_ret (v := .tuple #[.agg #[.int .i64 0, .slice none 0 0], .bool false]) ?_ rfl ?_
     rotate_left
     ·exact ⟨tabRes_none HNO.out rfl, ext_put2 (g := w.heap.size + 1) (HG7.out.2.2.2) (by omega) _ _⟩
     ·exact ret_pair rfl _ _ _ _ _ _ _ rfl rfl HBB.out Tryz.underlying31 rfl Tryz.sizeTableauR
   | some rs' =>
    have HQ2 : Hid (tabN n (gs.take (k + 1)) = some rs') := by
     unfold Hid
     rw [tabN_step HG.out HQ.out]; exact ht
    have HM2 : Hid (rs'.length = m) := (tabG_len ht).trans HT.out.2.2.2.2
    have HTG := Lib.hid ht
    clear ht
    obtain ⟨⟨b0, b1⟩, -⟩ := HK.out wr (Ext.refl _)
    go_upto_region 7 with (fail)
    refine wp_region_held_drew (S := fun w' => (w'.cell? ⟨w.heap.size, 0, none⟩ = some (.int .i64 n) ∧ w'.cell? ⟨w.heap.size, 1, none⟩ = some (.slice (some ⟨b, o, none⟩) l c)) ∧ (w'.cell? ⟨b, o + k * 4, none⟩ = some (.int .i64 g.k) ∧ w'.cell? ⟨b, o + k * 4 + 1, none⟩ = some (.int .i64 g.a) ∧ w'.cell? ⟨b, o + k * 4 + 2, none⟩ = some (.int .i64 g.b) ∧ w'.cell? ⟨b, o + k * 4 + 3, none⟩ = some (.int .i64 g.c)) ∧ (w'.cell? ⟨q, 0, none⟩ = some (.int .i64 n) ∧ w'.cell? ⟨q, 1, none⟩ = some (.slice A' m c'))) (by kernel_rfl) (HK.out _ (Ext.refl wr).drew) (fun hHeld => ?_)
    clear b0 b1
    (refine tk 0 (v := ?_) ?_ ?_; rotate_left; · (intro w hSw; (try dsimp only at hSw); go_simp; all_goals with_reducible rfl))
    (try simp only [Act.put, L1, L2, L3, L4, L5, L6])
    (refine tk 1 (v := ?_) ?_ ?_; rotate_left; · (intro w hSw; (try dsimp only at hSw); go_simp; all_goals with_reducible rfl))
    (try simp only [Act.put, L1, L2, L3, L4, L5, L6])
    (refine tk 2 (v := ?_) ?_ ?_; rotate_left; · (intro w hSw; (try dsimp only at hSw); go_simp; all_goals with_reducible rfl))
    (try simp only [Act.put, L1, L2, L3, L4, L5, L6])
    (refine tk 3 (v := ?_) ?_ ?_; rotate_left; · (intro w hSw; (try dsimp only at hSw); go_simp; all_goals with_reducible rfl))
    (try simp only [Act.put, L1, L2, L3, L4, L5, L6])
    (refine tk 4 (v := ?_) ?_ ?_; rotate_left; · (intro w hSw; (try dsimp only at hSw); go_simp; all_goals with_reducible rfl))
    (try simp only [Act.put, L1, L2, L3, L4, L5, L6])
    (refine tk 5 (v := ?_) ?_ ?_; rotate_left; · (intro w hSw; (try dsimp only at hSw); go_simp; all_goals with_reducible rfl))
    (try simp only [Act.put, L1, L2, L3, L4, L5, L6])
    refine wpAnyH_ready (rs := [6, 10]) (by kernel_rfl) (by simp) ?_
    refine AllReadyH.cons rfl (fun K hK => ?_) (AllReadyH.cons rfl (fun K hK => ?_) AllReadyH.nil)
    ·go_simp
     refine (HCALL.out _ (Ext.refl wr).drew).mono ?_
     rintro e v5 ⟨hres, hy5⟩
     obtain ⟨A2, c2, rfl, hr2, hc2⟩ := tabRes_get HTG.out HM2.out hres
     clear hres
     have HR2 : Hid (Rd v5 v5.heap.size 4 A2 m (pcells rs')) := hr2
     have HC2 : Hid (m ≤ c2) := hc2
     clear hr2 hc2
     have HY5 : Hid (Ext wr v5) := Ext.trans (Ext.refl wr).drew hy5
     clear hy5
     refine hK.out _ _ (HK.out _ (HY5.out)) (fun hHeld => ?_)
     clear hK K
     (try simp only [Act.put, L1, L2, L3, L4, L5, L6])
     (refine tk 7 (v := ?_) ?_ ?_; rotate_left; · (intro w hSw; (try dsimp only at hSw); go_simp; all_goals with_reducible rfl))
     (try simp only [Act.put, L1, L2, L3, L4, L5, L6])
     (refine tk 8 (v := ?_) ?_ ?_; rotate_left; · (intro w hSw; (try dsimp only at hSw); go_simp; all_goals with_reducible rfl))
     (try simp only [Act.put, L1, L2, L3, L4, L5, L6])
     (refine tk 9 (v := ?_) ?_ ?_; rotate_left; · (intro w hSw; (try dsimp only at hSw); go_simp; all_goals with_reducible rfl))
     (try simp only [Act.put, L1, L2, L3, L4, L5, L6])
     refine wpAnyH_ready (rs := [10]) (by kernel_rfl) (by simp) ?_
     refine AllReadyH.cons rfl (fun K hK => ?_) AllReadyH.nil
     go_simp
     have HX6 : Hid (Ext wr (v5.alloc (.cells #[.int .i64 0, .slice none 0 0] 31))) := HY5.out.alloc _
     have HB6 : Hid (Blk (v5.alloc (.cells #[.int .i64 0, .slice none 0 0] 31)) v5.heap.size 31 #[.int .i64 0, .slice none 0 0]) := Blk.new _ _ _
     have HR6 := Lib.hid (HR2.out.ext ((Ext.refl _).alloc (.cells #[.int .i64 0, .slice none 0 0] 31)))
     have hs6 : wr.heap.size ≤ v5.heap.size := HY5.out.size
     refine hK.out _ _ (HK.out _ (HX6.out)) (fun hHeld => ?_)
     clear hK K
     (try simp only [Act.put, L1, L2, L3, L4, L5, L6])
     clear HR2
     generalize v5.alloc (.cells #[.int .i64 0, .slice none 0 0] 31) = w6 at *
     generalize v5.heap.size = s at *
     clear HY5
     refine wpAnyH_ready (rs := [11]) (by kernel_rfl) (by simp) ?_
     refine AllReadyH.cons rfl (fun K hK => ?_) AllReadyH.nil
     obtain ⟨⟨q0, q1⟩, f0, f1⟩ := blkT2 HB6.out
     go_simp
     have HX7 : Hid (Ext wr ((w6.setCell ⟨s, 0, none⟩ (.int .i64 n)).setCell ⟨s, 1, none⟩ (.slice A2 m c2))) := ext_put2 (g := s) HX6.out hs6 _ _
     have HB7 : Hid (CT ((w6.setCell ⟨s, 0, none⟩ (.int .i64 n)).setCell ⟨s, 1, none⟩ (.slice A2 m c2)) n s A2 m c2 rs') := CT.fill HR6.out HC2.out hm8 HM2.out HB6.out
     refine hK.out _ _ (HK.out _ (HX7.out)) (fun hHeld => ?_)
     clear hK K
     (try simp only [Act.put, L1, L2, L3, L4, L5, L6])
     (refine tk 12 (v := ?_) ?_ ?_; rotate_left; · (intro w hSw; (try dsimp only at hSw); go_simp; all_goals with_reducible rfl))
     (try simp only [Act.put, L1, L2, L3, L4, L5, L6])
     (refine wpAnyH_done (by kernel_rfl) ?_ _)
     clear q0 q1 f0 f1 hHeld
     generalize (w6.setCell ⟨s, 0, none⟩ (.int .i64 n)).setCell ⟨s, 1, none⟩ (.slice A2 m c2) = w7 at *
     have HG7 := Lib.hid (HG0.out.ext HX7.out)
     have HT7 := Lib.hid (HT.out.ext HX7.out)
     clear HX6 HB6 HX7 HCALL HK hs6 HG0 HT HR6 HC2 HM2
     obtain ⟨⟨y0, y1⟩, -⟩ := blkT2 HB7.out.1
     obtain ⟨⟨c0, c1⟩, z0, z1⟩ := blkT2 HT7.out.1
     go_wp2
     have HT8 := Lib.hid (HB7.out.copy HT7.out.1)
     have HG8 := Lib.hid (HG7.out.put (.int .i64 n) (.slice A2 m c2))
     go_roundw
     case rel => exact ⟨k + 1, rs', A2, m, c2, by first | rfl | rw [hk1] | rw [hk2], by have := HLT.out; omega, HG8, HT8, HQ2⟩
     case measure => simp [intOf, hk2]; have := HLT.out; omega
    ·go_simp
     refine hK.out _ _ (HK.out _ (((Ext.refl wr).alloc _).drew)) (fun hHeld => ?_)
     clear hK K
     (try simp only [Act.put, L1, L2, L3, L4, L5, L6])
     refine wpAnyH_ready (rs := [6]) (by kernel_rfl) (by simp) ?_
     refine AllReadyH.cons rfl (fun K hK => ?_) AllReadyH.nil
     go_simp
     refine (HCALL.out _ ((Ext.refl wr).alloc (.cells #[.int .i64 0, .slice none 0 0] 31)).drew).mono ?_
     rintro e w6 ⟨hres, hy5⟩
     obtain ⟨A2, c2, rfl, hr2, hc2⟩ := tabRes_get HTG.out HM2.out hres
     clear hres
     have HR2 : Hid (Rd w6 w6.heap.size 4 A2 m (pcells rs')) := hr2
     have HC2 : Hid (m ≤ c2) := hc2
     clear hr2 hc2
     have HX6 : Hid (Ext wr w6) := Ext.trans ((Ext.refl wr).alloc (.cells #[.int .i64 0, .slice none 0 0] 31)).drew hy5
     have HB6 : Hid (Blk w6 wr.heap.size 31 #[.int .i64 0, .slice none 0 0]) := ((Blk.new wr 31 #[.int .i64 0, .slice none 0 0]).ext ((Ext.refl _).drew)).ext hy5
     have HR6 := HR2
     have hs6 : wr.heap.size ≤ wr.heap.size := Nat.le_refl _
     clear hy5
     refine hK.out _ _ (HK.out _ (HX6.out)) (fun hHeld => ?_)
     clear hK K
     (try simp only [Act.put, L1, L2, L3, L4, L5, L6])
     (refine tk 7 (v := ?_) ?_ ?_; rotate_left; · (intro w hSw; (try dsimp only at hSw); go_simp; all_goals with_reducible rfl))
     (try simp only [Act.put, L1, L2, L3, L4, L5, L6])
     (refine tk 8 (v := ?_) ?_ ?_; rotate_left; · (intro w hSw; (try dsimp only at hSw); go_simp; all_goals with_reducible rfl))
     (try simp only [Act.put, L1, L2, L3, L4, L5, L6])
     (refine tk 9 (v := ?_) ?_ ?_; rotate_left; · (intro w hSw; (try dsimp only at hSw); go_simp; all_goals with_reducible rfl))
     (try simp only [Act.put, L1, L2, L3, L4, L5, L6])
     clear HR2
     obtain ⟨s, hs⟩ : ∃ s, s = wr.heap.size := ⟨_, rfl⟩
     rw [← hs] at HB6 ⊢
     replace hs6 : wr.heap.size ≤ s := by rw [hs]; exact Nat.le_refl _
     clear hs
     refine wpAnyH_ready (rs := [11]) (by kernel_rfl) (by simp) ?_
     refine AllReadyH.cons rfl (fun K hK => ?_) AllReadyH.nil
     obtain ⟨⟨q0, q1⟩, f0, f1⟩ := blkT2 HB6.out
     go_simp
     have HX7 : Hid (Ext wr ((w6.setCell ⟨s, 0, none⟩ (.int .i64 n)).setCell ⟨s, 1, none⟩ (.slice A2 m c2))) := ext_put2 (g := s) HX6.out hs6 _ _
     have HB7 : Hid (CT ((w6.setCell ⟨s, 0, none⟩ (.int .i64 n)).setCell ⟨s, 1, none⟩ (.slice A2 m c2)) n s A2 m c2 rs') := CT.fill HR6.out HC2.out hm8 HM2.out HB6.out
     refine hK.out _ _ (HK.out _ (HX7.out)) (fun hHeld => ?_)
     clear hK K
     (try simp only [Act.put, L1, L2, L3, L4, L5, L6])
     (refine tk 12 (v := ?_) ?_ ?_; rotate_left; · (intro w hSw; (try dsimp only at hSw); go_simp; all_goals with_reducible rfl))
     (try simp only [Act.put, L1, L2, L3, L4, L5, L6])
     (refine wpAnyH_done (by kernel_rfl) ?_ _)
     clear q0 q1 f0 f1 hHeld
     generalize (w6.setCell ⟨s, 0, none⟩ (.int .i64 n)).setCell ⟨s, 1, none⟩ (.slice A2 m c2) = w7 at *
     have HG7 := Lib.hid (HG0.out.ext HX7.out)
     have HT7 := Lib.hid (HT.out.ext HX7.out)
     clear HX6 HB6 HX7 HCALL HK hs6 HG0 HT HR6 HC2 HM2
     obtain ⟨⟨y0, y1⟩, -⟩ := blkT2 HB7.out.1
     obtain ⟨⟨c0, c1⟩, z0, z1⟩ := blkT2 HT7.out.1
     go_wp2
     have HT8 := Lib.hid (HB7.out.copy HT7.out.1)
     have HG8 := Lib.hid (HG7.out.put (.int .i64 n) (.slice A2 m c2))
     go_roundw
     case rel => exact ⟨k + 1, rs', A2, m, c2, by first | rfl | rw [hk1] | rw [hk2], by have := HLT.out; omega, HG8, HT8, HQ2⟩
     case measure => simp [intOf, hk2]; have := HLT.out; omega
  ·have hkl : k = l := by omega
   have HYES : Hid (tabF n gs = some rs) := by
    unfold Hid
    rw [tabF_yes HV.out, ← HQ.out, hkl, ← HL.out, List.take_length]
   clear hkl
   obtain ⟨⟨c0, c1⟩, -⟩ := blkT2 HT.out.1
   obtain ⟨⟨d0, d1⟩, f0, f1⟩ := blkT2 HG0.out.2.1
   obtain ⟨⟨t0, t1⟩, -⟩ := blkT2 HG0.out.1
   go_wp2
   have HBB : Hid (Blk (put2 wr (w.heap.size + 1) (.int .i64 n) (.slice A' m c')) (w.heap.size + 1) 31 #[.int .i64 n, .slice A' m c']) := HG0.out.2.1.put2 _ _
   refine bodyPost_ret (v := .tuple #[.agg #[.int .i64 n, .slice A' m c'], .bool true]) ?_ rfl ?_
   rotate_left
   ·exact ⟨tabRes_some HYES.out rfl (HT.out.out HG0.out.2.1 _ _), ext_put2 (g := w.heap.size + 1) HG0.out.2.2.2 (by omega) _ _⟩
   ·exact ret_pair rfl _ _ _ _ _ _ _ rfl rfl HBB.out Tryz.underlying31 rfl Tryz.sizeTableauR
end Go.Proofs.YtioimnplhmgbgaaGreat
/-
 Helper text (no claim of its own): the inverse of a gate, by the program and by the reference.
-/
namespace Go.Proofs.YtioimnplhmgbgaaGreat
open Go.ChangeShapes Go.WideShapes Go.ChangeAt Go.RowKit Go.Deep
set_option linter.unusedVariables false
set_option linter.unusedSimpArgs false
/-- The inverse of a gate. -/
def invG (g : Gt) : Gt := ⟨if g.k = 5 then 6 else if g.k = 6 then 5 else if g.k = 7 then 8 else if g.k = 8 then 7 else g.k, g.a, g.b, g.c⟩
/-- The gates turned back. -/
def adjG (gs : List Gt) : List Gt := gs.reverse.map invG
theorem Tryz.sizeGateR : (Tryz.prog.info? 52).map (·.size) = some 4 := by kernel_rfl
theorem retG {fn : Func} {p : Tmp} (hf : fn.results = #[.cell p 52]) {W : World} {q : Nat} {cs : Array Value} (hB : Blk W q 52 cs) (tmps : Array Value)
  (hp : tmps.getD p undef = .pointer (some ⟨q, 0, none⟩)) (hs : cs.size = 4) : (results fn tmps).run Tryz.prog W = .ok (.agg cs) W :=
 results_cell_row hf tmps _ q 52 _ (0, 0) _ hp hB Tryz.underlying52 rfl (by rw [hs]; exact Tryz.sizeGateR)
theorem invG_other {k a b c : Int} (h5 : k ≠ 5) (h6 : k ≠ 6) (h7 : k ≠ 7) (h8 : k ≠ 8) : invG ⟨k, a, b, c⟩ = ⟨k, a, b, c⟩ := by unfold invG; simp only [if_neg h5, if_neg h6, if_neg h7, if_neg h8]
set_option maxRecDepth 100000 in
set_option maxHeartbeats 8000000 in
theorem spec_InverseGate_any (g : Gt) (w : World) : Calls Tryz.prog 84 #[g.val] w fun e w' => e = .returned (invG g).val ∧ Ext w w' := by
 obtain ⟨k, a, b, c⟩ := g
 by_cases h5 : k = 5
 ·subst h5
  go_enter Tryz.func84, Tryz.ntmps84
  go_upto_region 1 with (fail)
  have HB : Hid (Blk ((w.alloc (.cells #[.int .i64 5, .int .i64 a, .int .i64 b, .int .i64 c] 52)).alloc (.cells #[.int .i64 0, .int .i64 0, .int .i64 0, .int .i64 0] 52)) w.heap.size 52 #[.int .i64 5, .int .i64 a, .int .i64 b, .int .i64 c]) := (Blk.new w _ _).alloc _
  have HR : Hid (Blk ((w.alloc (.cells #[.int .i64 5, .int .i64 a, .int .i64 b, .int .i64 c] 52)).alloc (.cells #[.int .i64 0, .int .i64 0, .int .i64 0, .int .i64 0] 52)) (w.heap.size + 1) 52 #[.int .i64 0, .int .i64 0, .int .i64 0, .int .i64 0]) := Blk.newAt (by simp)
  have HE : Hid (Ext w ((w.alloc (.cells #[.int .i64 5, .int .i64 a, .int .i64 b, .int .i64 c] 52)).alloc (.cells #[.int .i64 0, .int .i64 0, .int .i64 0, .int .i64 0] 52))) := xx
  generalize ((w.alloc (.cells #[.int .i64 5, .int .i64 a, .int .i64 b, .int .i64 c] 52)).alloc (.cells #[.int .i64 0, .int .i64 0, .int .i64 0, .int .i64 0] 52)) = w2 at *
  obtain ⟨⟨b0, b1, b2, b3⟩, e0, e1, e2, e3⟩ := cells4 HB.out
  obtain ⟨⟨r0, r1, r2, r3⟩, f0, f1, f2, f3⟩ := cells4 HR.out
  go_upto_region 10 with (fail)
  have HB2 : Hid (Blk (w2.setCell ⟨w.heap.size, 0, none⟩ (.int .i64 6)) w.heap.size 52 #[.int .i64 6, .int .i64 a, .int .i64 b, .int .i64 c]) := HB.out.set_ 0 _
  have HR2 : Hid (Blk (w2.setCell ⟨w.heap.size, 0, none⟩ (.int .i64 6)) (w.heap.size + 1) 52 #[.int .i64 0, .int .i64 0, .int .i64 0, .int .i64 0]) := HR.out.far (p := ⟨w.heap.size, 0, none⟩) (show w.heap.size + 1 ≠ w.heap.size by omega) _
  have HE2 : Hid (Ext w (w2.setCell ⟨w.heap.size, 0, none⟩ (.int .i64 6))) := HE.out.setCell (p := ⟨w.heap.size, 0, none⟩) (Nat.le_refl _) _
  clear b0 b1 b2 b3 e0 e1 e2 e3 r0 r1 r2 r3 f0 f1 f2 f3 HB HR HE
  generalize w2.setCell ⟨w.heap.size, 0, none⟩ (.int .i64 6) = w3 at *
  obtain ⟨⟨b0, b1, b2, b3⟩, -⟩ := cells4 HB2.out
  obtain ⟨⟨r0, r1, r2, r3⟩, f0, f1, f2, f3⟩ := cells4 HR2.out
  go_wp2
  have HBB : Hid (Blk (put4 w3 (w.heap.size + 1) (.int .i64 6) (.int .i64 a) (.int .i64 b) (.int .i64 c)) (w.heap.size + 1) 52 #[.int .i64 6, .int .i64 a, .int .i64 b, .int .i64 c]) := HR2.out.put4 _ _ _ _
  refine bodyPost_ret (v := .agg #[.int .i64 6, .int .i64 a, .int .i64 b, .int .i64 c]) ?_ rfl ?_
  rotate_left
  ·exact ⟨rfl, ext_put4 (g := w.heap.size + 1) HE2.out (by omega) _ _ _ _⟩
  ·exact retG rfl HBB.out _ (by kernel_rfl) rfl
 by_cases h6 : k = 6
 ·subst h6
  go_enter Tryz.func84, Tryz.ntmps84
  go_upto_region 1 with (fail)
  have HB : Hid (Blk ((w.alloc (.cells #[.int .i64 6, .int .i64 a, .int .i64 b, .int .i64 c] 52)).alloc (.cells #[.int .i64 0, .int .i64 0, .int .i64 0, .int .i64 0] 52)) w.heap.size 52 #[.int .i64 6, .int .i64 a, .int .i64 b, .int .i64 c]) := (Blk.new w _ _).alloc _
  have HR : Hid (Blk ((w.alloc (.cells #[.int .i64 6, .int .i64 a, .int .i64 b, .int .i64 c] 52)).alloc (.cells #[.int .i64 0, .int .i64 0, .int .i64 0, .int .i64 0] 52)) (w.heap.size + 1) 52 #[.int .i64 0, .int .i64 0, .int .i64 0, .int .i64 0]) := Blk.newAt (by simp)
  have HE : Hid (Ext w ((w.alloc (.cells #[.int .i64 6, .int .i64 a, .int .i64 b, .int .i64 c] 52)).alloc (.cells #[.int .i64 0, .int .i64 0, .int .i64 0, .int .i64 0] 52))) := xx
  generalize ((w.alloc (.cells #[.int .i64 6, .int .i64 a, .int .i64 b, .int .i64 c] 52)).alloc (.cells #[.int .i64 0, .int .i64 0, .int .i64 0, .int .i64 0] 52)) = w2 at *
  obtain ⟨⟨b0, b1, b2, b3⟩, e0, e1, e2, e3⟩ := cells4 HB.out
  obtain ⟨⟨r0, r1, r2, r3⟩, f0, f1, f2, f3⟩ := cells4 HR.out
  go_upto_region 10 with (fail)
  have HB2 : Hid (Blk (w2.setCell ⟨w.heap.size, 0, none⟩ (.int .i64 5)) w.heap.size 52 #[.int .i64 5, .int .i64 a, .int .i64 b, .int .i64 c]) := HB.out.set_ 0 _
  have HR2 : Hid (Blk (w2.setCell ⟨w.heap.size, 0, none⟩ (.int .i64 5)) (w.heap.size + 1) 52 #[.int .i64 0, .int .i64 0, .int .i64 0, .int .i64 0]) := HR.out.far (p := ⟨w.heap.size, 0, none⟩) (show w.heap.size + 1 ≠ w.heap.size by omega) _
  have HE2 : Hid (Ext w (w2.setCell ⟨w.heap.size, 0, none⟩ (.int .i64 5))) := HE.out.setCell (p := ⟨w.heap.size, 0, none⟩) (Nat.le_refl _) _
  clear b0 b1 b2 b3 e0 e1 e2 e3 r0 r1 r2 r3 f0 f1 f2 f3 HB HR HE
  generalize w2.setCell ⟨w.heap.size, 0, none⟩ (.int .i64 5) = w3 at *
  obtain ⟨⟨b0, b1, b2, b3⟩, -⟩ := cells4 HB2.out
  obtain ⟨⟨r0, r1, r2, r3⟩, f0, f1, f2, f3⟩ := cells4 HR2.out
  go_wp2
  have HBB : Hid (Blk (put4 w3 (w.heap.size + 1) (.int .i64 5) (.int .i64 a) (.int .i64 b) (.int .i64 c)) (w.heap.size + 1) 52 #[.int .i64 5, .int .i64 a, .int .i64 b, .int .i64 c]) := HR2.out.put4 _ _ _ _
  refine bodyPost_ret (v := .agg #[.int .i64 5, .int .i64 a, .int .i64 b, .int .i64 c]) ?_ rfl ?_
  rotate_left
  ·exact ⟨rfl, ext_put4 (g := w.heap.size + 1) HE2.out (by omega) _ _ _ _⟩
  ·exact retG rfl HBB.out _ (by kernel_rfl) rfl
 by_cases h7 : k = 7
 ·subst h7
  go_enter Tryz.func84, Tryz.ntmps84
  go_upto_region 1 with (fail)
  have HB : Hid (Blk ((w.alloc (.cells #[.int .i64 7, .int .i64 a, .int .i64 b, .int .i64 c] 52)).alloc (.cells #[.int .i64 0, .int .i64 0, .int .i64 0, .int .i64 0] 52)) w.heap.size 52 #[.int .i64 7, .int .i64 a, .int .i64 b, .int .i64 c]) := (Blk.new w _ _).alloc _
  have HR : Hid (Blk ((w.alloc (.cells #[.int .i64 7, .int .i64 a, .int .i64 b, .int .i64 c] 52)).alloc (.cells #[.int .i64 0, .int .i64 0, .int .i64 0, .int .i64 0] 52)) (w.heap.size + 1) 52 #[.int .i64 0, .int .i64 0, .int .i64 0, .int .i64 0]) := Blk.newAt (by simp)
  have HE : Hid (Ext w ((w.alloc (.cells #[.int .i64 7, .int .i64 a, .int .i64 b, .int .i64 c] 52)).alloc (.cells #[.int .i64 0, .int .i64 0, .int .i64 0, .int .i64 0] 52))) := xx
  generalize ((w.alloc (.cells #[.int .i64 7, .int .i64 a, .int .i64 b, .int .i64 c] 52)).alloc (.cells #[.int .i64 0, .int .i64 0, .int .i64 0, .int .i64 0] 52)) = w2 at *
  obtain ⟨⟨b0, b1, b2, b3⟩, e0, e1, e2, e3⟩ := cells4 HB.out
  obtain ⟨⟨r0, r1, r2, r3⟩, f0, f1, f2, f3⟩ := cells4 HR.out
  go_upto_region 10 with (fail)
  have HB2 : Hid (Blk (w2.setCell ⟨w.heap.size, 0, none⟩ (.int .i64 8)) w.heap.size 52 #[.int .i64 8, .int .i64 a, .int .i64 b, .int .i64 c]) := HB.out.set_ 0 _
  have HR2 : Hid (Blk (w2.setCell ⟨w.heap.size, 0, none⟩ (.int .i64 8)) (w.heap.size + 1) 52 #[.int .i64 0, .int .i64 0, .int .i64 0, .int .i64 0]) := HR.out.far (p := ⟨w.heap.size, 0, none⟩) (show w.heap.size + 1 ≠ w.heap.size by omega) _
  have HE2 : Hid (Ext w (w2.setCell ⟨w.heap.size, 0, none⟩ (.int .i64 8))) := HE.out.setCell (p := ⟨w.heap.size, 0, none⟩) (Nat.le_refl _) _
  clear b0 b1 b2 b3 e0 e1 e2 e3 r0 r1 r2 r3 f0 f1 f2 f3 HB HR HE
  generalize w2.setCell ⟨w.heap.size, 0, none⟩ (.int .i64 8) = w3 at *
  obtain ⟨⟨b0, b1, b2, b3⟩, -⟩ := cells4 HB2.out
  obtain ⟨⟨r0, r1, r2, r3⟩, f0, f1, f2, f3⟩ := cells4 HR2.out
  go_wp2
  have HBB : Hid (Blk (put4 w3 (w.heap.size + 1) (.int .i64 8) (.int .i64 a) (.int .i64 b) (.int .i64 c)) (w.heap.size + 1) 52 #[.int .i64 8, .int .i64 a, .int .i64 b, .int .i64 c]) := HR2.out.put4 _ _ _ _
  refine bodyPost_ret (v := .agg #[.int .i64 8, .int .i64 a, .int .i64 b, .int .i64 c]) ?_ rfl ?_
  rotate_left
  ·exact ⟨rfl, ext_put4 (g := w.heap.size + 1) HE2.out (by omega) _ _ _ _⟩
  ·exact retG rfl HBB.out _ (by kernel_rfl) rfl
 by_cases h8 : k = 8
 ·subst h8
  go_enter Tryz.func84, Tryz.ntmps84
  go_upto_region 1 with (fail)
  have HB : Hid (Blk ((w.alloc (.cells #[.int .i64 8, .int .i64 a, .int .i64 b, .int .i64 c] 52)).alloc (.cells #[.int .i64 0, .int .i64 0, .int .i64 0, .int .i64 0] 52)) w.heap.size 52 #[.int .i64 8, .int .i64 a, .int .i64 b, .int .i64 c]) := (Blk.new w _ _).alloc _
  have HR : Hid (Blk ((w.alloc (.cells #[.int .i64 8, .int .i64 a, .int .i64 b, .int .i64 c] 52)).alloc (.cells #[.int .i64 0, .int .i64 0, .int .i64 0, .int .i64 0] 52)) (w.heap.size + 1) 52 #[.int .i64 0, .int .i64 0, .int .i64 0, .int .i64 0]) := Blk.newAt (by simp)
  have HE : Hid (Ext w ((w.alloc (.cells #[.int .i64 8, .int .i64 a, .int .i64 b, .int .i64 c] 52)).alloc (.cells #[.int .i64 0, .int .i64 0, .int .i64 0, .int .i64 0] 52))) := xx
  generalize ((w.alloc (.cells #[.int .i64 8, .int .i64 a, .int .i64 b, .int .i64 c] 52)).alloc (.cells #[.int .i64 0, .int .i64 0, .int .i64 0, .int .i64 0] 52)) = w2 at *
  obtain ⟨⟨b0, b1, b2, b3⟩, e0, e1, e2, e3⟩ := cells4 HB.out
  obtain ⟨⟨r0, r1, r2, r3⟩, f0, f1, f2, f3⟩ := cells4 HR.out
  go_upto_region 10 with (fail)
  have HB2 : Hid (Blk (w2.setCell ⟨w.heap.size, 0, none⟩ (.int .i64 7)) w.heap.size 52 #[.int .i64 7, .int .i64 a, .int .i64 b, .int .i64 c]) := HB.out.set_ 0 _
  have HR2 : Hid (Blk (w2.setCell ⟨w.heap.size, 0, none⟩ (.int .i64 7)) (w.heap.size + 1) 52 #[.int .i64 0, .int .i64 0, .int .i64 0, .int .i64 0]) := HR.out.far (p := ⟨w.heap.size, 0, none⟩) (show w.heap.size + 1 ≠ w.heap.size by omega) _
  have HE2 : Hid (Ext w (w2.setCell ⟨w.heap.size, 0, none⟩ (.int .i64 7))) := HE.out.setCell (p := ⟨w.heap.size, 0, none⟩) (Nat.le_refl _) _
  clear b0 b1 b2 b3 e0 e1 e2 e3 r0 r1 r2 r3 f0 f1 f2 f3 HB HR HE
  generalize w2.setCell ⟨w.heap.size, 0, none⟩ (.int .i64 7) = w3 at *
  obtain ⟨⟨b0, b1, b2, b3⟩, -⟩ := cells4 HB2.out
  obtain ⟨⟨r0, r1, r2, r3⟩, f0, f1, f2, f3⟩ := cells4 HR2.out
  go_wp2
  have HBB : Hid (Blk (put4 w3 (w.heap.size + 1) (.int .i64 7) (.int .i64 a) (.int .i64 b) (.int .i64 c)) (w.heap.size + 1) 52 #[.int .i64 7, .int .i64 a, .int .i64 b, .int .i64 c]) := HR2.out.put4 _ _ _ _
  refine bodyPost_ret (v := .agg #[.int .i64 7, .int .i64 a, .int .i64 b, .int .i64 c]) ?_ rfl ?_
  rotate_left
  ·exact ⟨rfl, ext_put4 (g := w.heap.size + 1) HE2.out (by omega) _ _ _ _⟩
  ·exact retG rfl HBB.out _ (by kernel_rfl) rfl
 have HO := Lib.hid (invG_other (a := a) (b := b) (c := c) h5 h6 h7 h8)
 have g5 : (k == 5) = false := beq_eq_false_iff_ne.2 h5
 have g6 : (k == 6) = false := beq_eq_false_iff_ne.2 h6
 have g7 : (k == 7) = false := beq_eq_false_iff_ne.2 h7
 have g8 : (k == 8) = false := beq_eq_false_iff_ne.2 h8
 clear h5 h6 h7 h8
 go_enter Tryz.func84, Tryz.ntmps84
 go_upto_region 1 with (fail)
 have HB : Hid (Blk ((w.alloc (.cells #[.int .i64 k, .int .i64 a, .int .i64 b, .int .i64 c] 52)).alloc (.cells #[.int .i64 0, .int .i64 0, .int .i64 0, .int .i64 0] 52)) w.heap.size 52 #[.int .i64 k, .int .i64 a, .int .i64 b, .int .i64 c]) := (Blk.new w _ _).alloc _
 have HR : Hid (Blk ((w.alloc (.cells #[.int .i64 k, .int .i64 a, .int .i64 b, .int .i64 c] 52)).alloc (.cells #[.int .i64 0, .int .i64 0, .int .i64 0, .int .i64 0] 52)) (w.heap.size + 1) 52 #[.int .i64 0, .int .i64 0, .int .i64 0, .int .i64 0]) := Blk.newAt (by simp)
 have HE : Hid (Ext w ((w.alloc (.cells #[.int .i64 k, .int .i64 a, .int .i64 b, .int .i64 c] 52)).alloc (.cells #[.int .i64 0, .int .i64 0, .int .i64 0, .int .i64 0] 52))) := xx
 generalize ((w.alloc (.cells #[.int .i64 k, .int .i64 a, .int .i64 b, .int .i64 c] 52)).alloc (.cells #[.int .i64 0, .int .i64 0, .int .i64 0, .int .i64 0] 52)) = w2 at *
 obtain ⟨⟨b0, b1, b2, b3⟩, e0, e1, e2, e3⟩ := cells4 HB.out
 obtain ⟨⟨r0, r1, r2, r3⟩, f0, f1, f2, f3⟩ := cells4 HR.out
 have HR2 := HR
 have HE2 := HE
 go_wp2
 have HBB : Hid (Blk (put4 w2 (w.heap.size + 1) (.int .i64 k) (.int .i64 a) (.int .i64 b) (.int .i64 c)) (w.heap.size + 1) 52 #[.int .i64 k, .int .i64 a, .int .i64 b, .int .i64 c]) := HR2.out.put4 _ _ _ _
 refine bodyPost_ret (v := .agg #[.int .i64 k, .int .i64 a, .int .i64 b, .int .i64 c]) ?_ rfl ?_
 rotate_left
 ·exact ⟨by rw [HO.out], ext_put4 (g := w.heap.size + 1) HE2.out (by omega) _ _ _ _⟩
 ·exact retG rfl HBB.out _ (by kernel_rfl) rfl
end Go.Proofs.YtioimnplhmgbgaaGreat
/-
 Helper text (no claim of its own): gates turned back, by the reference.
-/
namespace Go.Proofs.YtioimnplhmgbgaaGreat
open Go.ChangeShapes Go.WideShapes Go.ChangeAt Go.RowKit Go.Deep
set_option linter.unusedVariables false
set_option linter.unusedSimpArgs false
set_option maxRecDepth 100000 in
set_option maxHeartbeats 8000000 in
theorem l11Inverse_any (A : Option Addr) (n c : Nat) (xs : List Gt) (w : World) (h : Rd w w.heap.size 4 A n (gcells xs)) (hn : n ≤ 1048576) :
  Calls Tryz.prog 55 #[.slice A n c] w fun e w' => ∃ v, e = .returned v ∧ w'.ownsRow w.heap.size 52 4 v n (gcells (adjG xs)) ∧ Ext w w' := by
 have hlen := h.len Gt.cells_len (by omega)
 have HREV : Hid (∀ j i x, j < n → i = n - 1 - j → xs[i]? = some x → (adjG xs)[j]? = some (invG x)) := fun j i x hj hi hx => by
  unfold adjG
  rw [List.getElem?_map, List.getElem?_reverse (by omega), hlen, ← hi, hx]
  rfl
 have HALL : Hid ((adjG xs).length = n) := by unfold Hid adjG; rw [List.length_map, List.length_reverse]; exact hlen
 clear hlen
 go_enter Tryz.func55, Tryz.ntmps55
 have ho0 : (w.alloc (.cells #[] 52)).ownsRow w.heap.size 52 4 (.slice (some ⟨w.heap.size, 0, none⟩) 0 0) 0 (gcells ((adjG xs).take 0)) := own_lit (Ext.refl _) _ _ 4 0 #[] _ rfl rfl rfl (by omega)
 have hw0 : IntKind.i64.wrap ((n : Int) - 1) = (n : Int) - 1 := IntWalk.i64_in _ (by omega)
 go_wp2
 have HD0 : Hid ((w.alloc (.cells #[] 52)).ownsRow w.heap.size 52 4 (.slice (some ⟨w.heap.size, 0, none⟩) 0 0) 0 (gcells ((adjG xs).take 0)) ∧ Ext w (w.alloc (.cells #[] 52))) := ⟨ho0, (Ext.refl _).alloc _⟩
 clear ho0
 generalize w.alloc (.cells #[] 52) = w1 at *
 go_loopw [3, 4] (fun rv iv wr => ∃ (j : Nat) (A' : Option Addr) (cap : Nat), rv = .slice A' j cap ∧ iv = .int .i64 ((n : Int) - 1 - j) ∧ j ≤ n ∧ Hid (wr.ownsRow w.heap.size 52 4 (.slice A' j cap) j (gcells ((adjG xs).take j)) ∧ Ext w wr)) (fun _ i _ => (intOf i + 1).toNat)
 case atStart => exact ⟨0, _, 0, rfl, by simp [hw0], Nat.zero_le _, HD0⟩
 case round =>
  obtain ⟨j, A', cap, rfl, rfl, hj, HDj⟩ := hrel
  clear HD0 hw0
  by_cases hlt : j < n
  ·have HLT : Hid (j < n ∧ n ≤ 1048576) := ⟨hlt, hn⟩
   obtain ⟨i, hi⟩ : ∃ i : Nat, (n : Int) - 1 - j = i := ⟨n - 1 - j, by omega⟩
   have hin : i < n := by omega
   have hk1 : IntKind.i64.wrap ((i : Int) - 1) = (n : Int) - 1 - ((j + 1 : Nat) : Int) := by rw [IntWalk.i64_in _ (by omega)]; omega
   have hk2 : wrap64 ((i : Int) - 1) = (n : Int) - 1 - ((j + 1 : Nat) : Int) := by unfold wrap64; omega
   have hi0 : (0 : Int) ≤ (i : Int) := by omega
   have hi1 : (i : Int) ≥ 0 := hi0
   have HI : Hid (i = n - 1 - j) := by show i = n - 1 - j; omega
   rw [hi]
   clear hi hlt hj
   obtain ⟨b, oo, x, rfl, hb, hx, x0, x1, x2, x3⟩ := gate_at (h.ext HDj.out.2) hin
   have HG := Lib.hid (HREV.out j i x HLT.out.1 HI.out hx)
   clear hx hb
   go_wp2_with fail
   refine (spec_InverseGate_any x _).mono ?_
   rintro e w5 ⟨rfl, hx5⟩
   have HD5 : Hid (w5.ownsRow w.heap.size 52 4 (.slice A' j cap) j (gcells ((adjG xs).take j)) ∧ Ext w w5) := ⟨own_ext HDj.out.1 hx5, HDj.out.2.trans hx5⟩
   clear HDj hx5 x0 x1 x2 x3
   go_wp2_with (at_builtin; refine appGate (w0 := w) rfl _ _ rfl _ j ((adjG xs).take j) rfl HD5.out.1 HD5.out.2 (invG x) _ _ rfl rfl (by have := HLT.out; omega) ?_; intro v' w9 g1 g2 g3 g4)
   obtain ⟨A9, c9, rfl, -⟩ := own_slice g1
   have HD9 : Hid (w9.ownsRow w.heap.size 52 4 (.slice A9 (j + 1) c9) (j + 1) (gcells ((adjG xs).take (j + 1))) ∧ Ext w w9) := ⟨by rw [take_snoc HG.out]; exact g1, g2⟩
   clear g1 g2 g3 g4
   go_wp2
   go_roundw
   case rel => exact ⟨j + 1, A9, c9, rfl, by first | rfl | rw [hk1] | rw [hk2], by have := HLT.out; omega, HD9⟩
   case measure => have h5 := hk2; have h6 : i = n - 1 - j := HI.out; have h7 := HLT.out; simp [intOf]; omega
  ·have hjn : j = n := by omega
   subst hjn
   have hneg : ¬ ((j : Int) - 1 - j ≥ 0) := by omega
   have hneg2 : ¬ (0 ≤ (j : Int) - 1 - j) := by omega
   have HE : Hid ((adjG xs).take j = adjG xs) := List.take_of_length_le (by rw [HALL.out]; exact Nat.le_refl _)
   rw [HE.out] at HDj
   go_wp2
   go_ret
   exact ⟨_, rfl, HDj.out.1, HDj.out.2⟩
end Go.Proofs.YtioimnplhmgbgaaGreat
/-
 Helper text (no claim of its own): a tableau is reduced, by the reference (forms only).
-/
namespace Go.Proofs.YtioimnplhmgbgaaGreat
open Go.ChangeShapes Go.WideShapes Go.ChangeAt Go.RowKit Go.Deep
set_option linter.unusedVariables false
set_option linter.unusedSimpArgs false
set_option maxRecDepth 100000 in
set_option maxHeartbeats 8000000 in
theorem l26Copy_any (A : Option Addr) (m c : Nat) (n : Int) (rs : List Pa) (w : World) (h : Rd w w.heap.size 4 A m (pcells rs)) (hm : m ≤ 90000000) :
  Calls Tryz.prog 81 #[.agg #[.int .i64 n, .slice A m c]] w fun e w' => (∃ A' c', e = .returned (.agg #[.int .i64 n, .slice A' m c']) ∧ w'.ownsRow w.heap.size 66 4 (.slice A' m c') m (pcells rs)) ∧ Ext w w' := by
 have HR2 : Hid (Rd ((w.alloc (.cells #[.int .i64 n, .slice A m c] 31)).alloc (.cells #[.int .i64 0, .slice none 0 0] 31)) ((w.alloc (.cells #[.int .i64 n, .slice A m c] 31)).alloc (.cells #[.int .i64 0, .slice none 0 0] 31)).heap.size 4 A m (pcells rs)) := h.ext (((Ext.refl w).alloc _).alloc _)
 have HX2 : Hid (Ext w ((w.alloc (.cells #[.int .i64 n, .slice A m c] 31)).alloc (.cells #[.int .i64 0, .slice none 0 0] 31))) := ((Ext.refl w).alloc _).alloc _
 have HB0 : Hid (Blk ((w.alloc (.cells #[.int .i64 n, .slice A m c] 31)).alloc (.cells #[.int .i64 0, .slice none 0 0] 31)) w.heap.size 31 #[.int .i64 n, .slice A m c]) := (Blk.new w _ _).alloc _
 have HB1 : Hid (Blk ((w.alloc (.cells #[.int .i64 n, .slice A m c] 31)).alloc (.cells #[.int .i64 0, .slice none 0 0] 31)) (w.heap.size + 1) 31 #[.int .i64 0, .slice none 0 0]) := Blk.newAt (by simp)
 have hs2 : w.heap.size + 1 < ((w.alloc (.cells #[.int .i64 n, .slice A m c] 31)).alloc (.cells #[.int .i64 0, .slice none 0 0] 31)).heap.size := by simp
 clear h
 go_enter Tryz.func81, Tryz.ntmps81
 go_upto_region 1 with (fail)
 generalize ((w.alloc (.cells #[.int .i64 n, .slice A m c] 31)).alloc (.cells #[.int .i64 0, .slice none 0 0] 31)) = W2 at *
 obtain ⟨⟨a0, a1⟩, -⟩ := blkT2 HB0.out
 obtain ⟨⟨b0, b1⟩, z0, z1⟩ := blkT2 HB1.out
 have a1' : (W2.alloc (.cells #[] 66)).cell? ⟨w.heap.size, 1, none⟩ = some (.slice A m c) := (HB0.out.alloc _).cell 1
 have a0' : (W2.alloc (.cells #[] 66)).cell? ⟨w.heap.size, 0, none⟩ = some (.int .i64 n) := (HB0.out.alloc _).cell 0
 go_wp2
 go_region_law (first
  | (refine stepPauliS (w0 := W2) (by rfl) _ _ (by rfl) _ 0 [] (by rfl) (own_ext (own_empty W2 _ 66 4 (Ext.refl W2)) (Ext.refl _).drew) ((Ext.refl W2).alloc _).drew A m c rs (by rfl) (HR2.out.ext ((Ext.refl W2).alloc _).drew) (by omega) ?_; intro v5 w5 ho5 hx5 hg5 hb5; obtain ⟨A5, c5, rfl, hr5⟩ := own_slice ho5; have HO5 := Lib.hid ho5; have HX5 := Lib.hid hx5; clear ho5 hg5 hb5 hr5; have i0 : w5.cell? ⟨w.heap.size, 0, none⟩ = some (.int .i64 n) := (HB0.out.ext HX5.out).cell 0; have k0 : w5.cell? ⟨w.heap.size + 1, 0, none⟩ = some (.int .i64 0) := (HB1.out.ext HX5.out).cell 0; have k1 : w5.cell? ⟨w.heap.size + 1, 1, none⟩ = some (.slice none 0 0) := (HB1.out.ext HX5.out).cell 1; have j0 : w5.frozen? ⟨w.heap.size + 1, 0, none⟩ = false := (HB1.out.ext HX5.out).frozen 0; have j1 : w5.frozen? ⟨w.heap.size + 1, 1, none⟩ = false := (HB1.out.ext HX5.out).frozen 1))
 all_goals
  clear i0 k0 k1 j0 j1
  have HO6 : Hid ((put2 w5 (w.heap.size + 1) (.int .i64 n) (.slice A5 m c5)).ownsRow w.heap.size 66 4 (.slice A5 m c5) m (pcells rs)) := by
   have h1 := own_set (own_set HO5.out (p := ⟨w.heap.size + 1, 0, none⟩) hs2 (.int .i64 n)) (p := ⟨w.heap.size + 1, 1, none⟩) hs2 (.slice A5 m c5)
   rw [Nat.zero_add, List.nil_append] at h1
   exact own_base h1 (by omega)
  have HX6 : Hid (Ext w (put2 w5 (w.heap.size + 1) (.int .i64 n) (.slice A5 m c5))) := ext_put2 (HX2.out.trans HX5.out) (by omega) _ _
  have HB6 : Hid (Blk (put2 w5 (w.heap.size + 1) (.int .i64 n) (.slice A5 m c5)) (w.heap.size + 1) 31 #[.int .i64 n, .slice A5 m c5]) := (HB1.out.ext HX5.out).put2 _ _
  go_wp2
  refine bodyPost_ret (v := .agg #[.int .i64 n, .slice A5 m c5]) ?_ rfl ?_
  rotate_left
  ·exact ⟨⟨A5, c5, rfl, HO6.out⟩, HX6.out⟩
  ·exact retT rfl HB6.out _ (by kernel_rfl) rfl
theorem vTab_bd {n : Int} {rs : List Pa} (h : vTab n rs = true) : 1 ≤ n ∧ n ≤ 4 ∧ (rs.length : Int) = 2 * n := by
 refine ⟨?_, ?_, ?_⟩
 ·by_cases h1 : n < 1
  ·rw [vTab_n (Or.inl h1)] at h; cases h
  ·omega
 ·by_cases h1 : 4 < n
  ·rw [vTab_n (Or.inr h1)] at h; cases h
  ·omega
 ·by_cases h1 : ((rs.length : Int) == 2 * n) = false
  ·rw [vTab_l h1] at h; cases h
  ·simpa using h1
/-- Some gates, and a bool. -/
def GsB (w0 : World) (most : Nat) (e : Ending) (w : World) : Prop := ∃ L len cap gs b, e = .returned (.tuple #[.slice L len cap, .bool b]) ∧ w.ownsRow w0.heap.size 52 4 (.slice L len cap) len (gcells gs) ∧ len ≤ most
set_option maxRecDepth 100000 in
set_option maxHeartbeats 8000000 in
theorem ReduceTableau_any (A : Option Addr) (c : Nat) (n : Int) (rs : List Pa) (w : World) (h : Rd w w.heap.size 4 A rs.length (pcells rs)) (hl : rs.length ≤ 90000000) (hcap : rs.length ≤ c) :
  Calls Tryz.prog 54 #[.agg #[.int .i64 n, .slice A rs.length c]] w fun e w' => GsB w 100 e w' ∧ Ext w w' := by
 go_enter Tryz.func54, Tryz.ntmps54
 go_wp2_with fail
 refine (spec_IsValidTableau_any A c n rs _ (h.ext (by exact xx)) (by omega) hcap).mono ?_
 rintro e w1 ⟨rfl, hx1⟩
 have HB1 : Hid (Blk w1 w.heap.size 31 #[.int .i64 n, .slice A rs.length c]) := (Blk.new w _ _).ext hx1
 have HX1 : Hid (Ext w w1) := Ext.trans (by exact xx) hx1
 clear hx1
 cases hv : vTab n rs
 ·have ho := own_empty w1 w1 52 4 (Ext.refl _)
  have HE : Hid ((w1.alloc (.cells #[] 52)).ownsRow w.heap.size 52 4 (.slice (some ⟨w1.heap.size, 0, none⟩) 0 0) 0 (gcells [])) := own_base ho HX1.out.size
  clear ho
  go_wp2
  go_ret2
  exact ⟨⟨_, _, _, _, _, rfl, HE.out, by omega⟩, HX1.out.alloc _⟩
 obtain ⟨hv1, hv4, hvl⟩ := vTab_bd hv
 clear hv
 obtain ⟨k, rfl⟩ := Int.eq_ofNat_of_zero_le (by omega : 0 ≤ n)
 obtain ⟨m, hm⟩ : ∃ m, m = rs.length := ⟨_, rfl⟩
 have HR1 := Lib.hid (h.ext HX1.out)
 clear h
 rw [← hm] at hvl hl hcap HB1 HR1 ⊢
 have HN : Hid (1 ≤ k ∧ k ≤ 4 ∧ m = 2 * k) := ⟨by omega, by omega, by omega⟩
 have HM := Lib.hid hm
 clear hm hvl hcap hv1 hv4 hl
 obtain ⟨⟨b0, b1⟩, -⟩ := blkT2 HB1.out
 go_wp2_with fail
 refine (l26Copy_any A m c k rs _ HR1.out (by have := HN.out; omega)).mono ?_
 rintro e w2 ⟨⟨A2, c2, rfl, ho2⟩, hx2⟩
 clear b0 b1
 have HWX : Hid (WkX w2 (w2.alloc (.cells #[.int .i64 k, .slice A2 m c2, .slice none 0 0] 117)) w2.heap.size k m (24 * 0)) := by
  refine ⟨A2, c2, rs, none, 0, 0, [], ⟨Blk.new _ _ _, (Rd.own ho2).ext ((Ext.refl _).alloc _), ⟨by simp, .inl ⟨rfl, rfl⟩⟩, (PB.own ho2).ext ((Ext.refl _).alloc _), ⟨HM.out.symm, own_lc ho2, by have := HN.out; omega⟩, (Ext.refl _).alloc _, Nat.le_refl _⟩, Nat.zero_le _⟩
 have HB2 : Hid (Blk w2 w.heap.size 31 #[.int .i64 k, .slice A m c]) := HB1.out.ext hx2
 have HX2 : Hid (Ext w w2) := HX1.out.trans hx2
 clear ho2 hx2 HB1 HX1
 have b0 : w2.cell? ⟨w.heap.size, 0, none⟩ = some (.int .i64 k) := HB2.out.cell 0
 have b1 : w2.cell? ⟨w.heap.size, 1, none⟩ = some (.slice A m c) := HB2.out.cell 1
 go_upto_region 4 with (fail)
 clear b0 b1
 generalize w2.alloc (.cells #[.int .i64 k, .slice A2 m c2, .slice none 0 0] 117) = w3 at *
 generalize w2.heap.size = q at *
 go_wp2
 go_loopw [5] (fun iv wr => ∃ i : Nat, iv = .int .i64 i ∧ i ≤ k ∧ Hid (WkX w2 wr q k m (24 * i))) (fun iv _ => k - (intOf iv).toNat)
 case atStart => exact ⟨0, rfl, Nat.zero_le _, HWX⟩
 case round =>
  obtain ⟨i, rfl, hik, HW⟩ := hrel
  clear HWX
  have b0 : wr.cell? ⟨w.heap.size, 0, none⟩ = some (.int .i64 k) := (HB2.out.ext HW.out.x).cell 0
  by_cases hlt : i < k
  ·have HLT := Lib.hid hlt
   have hk1 : IntKind.i64.wrap ((i : Int) + 1) = ((i + 1 : Nat) : Int) := by rw [IntWalk.i64_in _ (by have := HN.out; omega)]; rfl
   have hk2 : wrap64 ((i : Int) + 1) = ((i + 1 : Nat) : Int) := by have := HN.out; unfold wrap64; omega
   go_wp2_with fail
   refine (l28First_any w2 _ q k m i _ HW.out ⟨HN.out.1, HN.out.2.1⟩ HN.out.2.2 hlt (by have := HN.out; omega)).mono ?_
   rintro e w5 ⟨rfl, hw5⟩
   clear b0
   go_wp2_with fail
   refine (l28Second_any w2 _ q k m i _ hw5 ⟨HN.out.1, HN.out.2.1⟩ HN.out.2.2 hlt (by have := HN.out; omega)).mono ?_
   rintro e w6 ⟨rfl, hw6⟩
   have HW6 : Hid (WkX w2 w6 q k m (24 * (i + 1))) := hw6.more (by omega)
   clear hw5 hw6
   go_wp2
   go_roundw
   case rel => exact ⟨i + 1, by first | rfl | rw [hk1] | rw [hk2], by have := HLT.out; omega, HW6⟩
   case measure => simp [intOf, hk2]; have := HLT.out; omega
  ·obtain ⟨A5, c5, rs5, L, len, cap, gs, hW, hlen⟩ := HW.out
   have HWK := Lib.hid hW
   clear hW
   have p2' : (wr.alloc (.cells #[] 52)).cell? ⟨q, 2, none⟩ = some (.slice L len cap) := (HWK.out.b.alloc _).cell 2
   have HO : Hid (Rd wr wr.heap.size 4 L len (gcells gs)) := Rd.own HWK.out.o
   have hlen2 : len ≤ 100 := by have := HN.out; omega
   go_wp2_with (at_builtin; refine appGateS (w0 := w2) rfl _ _ rfl _ 0 [] rfl (own_empty w2 wr 52 4 HWK.out.x) (HWK.out.x.alloc _) L len cap gs rfl (HO.out.ext ((Ext.refl _).alloc _)) (by omega) ?_; intro v9 w9 g1 g2 g3 g4)
   obtain ⟨A9, c9, rfl, hr9⟩ := own_slice g1
   rw [Nat.zero_add, List.nil_append] at g1
   rw [Nat.zero_add]
   have HR9 := Lib.hid (own_base g1 HX2.out.size)
   have HX9 := Lib.hid (HX2.out.trans g2)
   clear g1 g2 g3 g4 hr9
   go_wp2
   go_ret2
   exact ⟨⟨_, _, _, _, _, rfl, HR9.out, by omega⟩, HX9.out⟩
set_option maxRecDepth 100000 in
set_option maxHeartbeats 8000000 in
theorem SynthesizeTableau_any (A : Option Addr) (c : Nat) (n : Int) (rs : List Pa) (w : World) (h : Rd w w.heap.size 4 A rs.length (pcells rs)) (hl : rs.length ≤ 90000000) (hcap : rs.length ≤ c) :
  Calls Tryz.prog 32 #[.agg #[.int .i64 n, .slice A rs.length c]] w fun e w' => GsB w 100 e w' ∧ Ext w w' := by
 go_enter Tryz.func32, Tryz.ntmps32
 go_wp2_with fail
 refine (ReduceTableau_any A c n rs _ (h.ext (by exact xx)) hl hcap).mono ?_
 rintro e w1 ⟨⟨L, len, cap, gs, b, rfl, ho1, hl1⟩, hx1⟩
 have HX1 : Hid (Ext w w1) := Ext.trans (by exact xx) hx1
 clear hx1 h
 go_wp2_with fail
 refine (l11Inverse_any L len cap gs _ (Rd.own ho1) (by omega)).mono ?_
 rintro e w2 ⟨v, rfl, ho, hx2⟩
 obtain ⟨L2, c2, rfl, hr2⟩ := own_slice ho
 have HO2 : Hid (w2.ownsRow w.heap.size 52 4 (.slice L2 len c2) len (gcells (adjG gs))) := own_base ho HX1.out.size
 clear ho hr2 ho1
 go_wp2
 go_ret2
 exact ⟨⟨_, _, _, _, _, rfl, HO2.out, hl1⟩, HX1.out.trans hx2⟩
end Go.Proofs.YtioimnplhmgbgaaGreat
/-
 Helper text (no claim of its own): drawn Clifford circuits. Only that they return, and what their results are made of.
-/
namespace Go.Proofs.YtioimnplhmgbgaaGreat
open Go.ChangeShapes Go.WideShapes Go.ChangeAt Go.RowKit Go.Deep
set_option linter.unusedVariables false
set_option maxRecDepth 100000 in
set_option maxHeartbeats 8000000 in
theorem l25Cliff_any (g n : Nat) (hn : 1 ≤ n ∧ n ≤ 4) (w : World) (h : Cur w g) :
  Calls Tryz.prog 31 #[.pointer (some ⟨g, 0, none⟩), .int .i64 n] w fun e w' => ∃ x : Gt, e = .returned x.val ∧ Cur w' g ∧ w.grownBy w' (some g) := by
 have hgl := h.lt
 obtain ⟨hn1, hn4⟩ := id hn
 have hsz : (w.alloc (.cells #[.int .i64 0, .int .i64 0, .int .i64 0, .int .i64 0] 52)).heap.size = w.heap.size + 1 := by simp
 have hrd : Rd ((w.alloc (.cells #[.int .i64 0, .int .i64 0, .int .i64 0, .int .i64 0] 52)).alloc (.cells #[.int .i64 1, .int .i64 2, .int .i64 3, .int .i64 4, .int .i64 5, .int .i64 6, .int .i64 9, .int .i64 10, .int .i64 11, .int .i64 4, .int .i64 9] 3)) ((w.alloc (.cells #[.int .i64 0, .int .i64 0, .int .i64 0, .int .i64 0] 52)).alloc (.cells #[.int .i64 1, .int .i64 2, .int .i64 3, .int .i64 4, .int .i64 5, .int .i64 6, .int .i64 9, .int .i64 10, .int .i64 11, .int .i64 4, .int .i64 9] 3)).heap.size 1 (some ⟨w.heap.size + 1, 0, none⟩) 11 (icells [1, 2, 3, 4, 5, 6, 9, 10, 11, 4, 9]) := rd_newN _ _ (w.heap.size + 1) 3 11 1 (icells [1, 2, 3, 4, 5, 6, 9, 10, 11, 4, 9]) hsz.symm rfl rfl
 go_enter Tryz.func31, Tryz.ntmps31
 go_wp2_with fail
 refine (l1PickInt_any g _ 11 _ [1, 2, 3, 4, 5, 6, 9, 10, 11, 4, 9] _ ((h.alloc _).alloc _) hrd (by intro b o e; injection e with e; injection e with e1; omega) (by omega)).mono ?_
 rintro e w6 ⟨kk, rfl, _, hC4, hG4⟩
 have hB4 := ((Blk.new w 52 #[.int .i64 0, .int .i64 0, .int .i64 0, .int .i64 0]).alloc _).grown hG4 (fun k hk => by injection hk; omega)
 have hg4 : w.grownBy w6 (some g) := gr_trans ((((Ext.refl w).alloc _).alloc _).gr _) hG4
 clear hG4
 go_wp2_with fail
 refine (spec_Arity_any _ _).mono ?_
 rintro e w4 ⟨rfl, rfl⟩
 by_cases hA : (n : Int) < ar (kk)
 ·have h41 : ar 4 = 1 := ar1 (by omega)
  go_wp2_with fail
  refine (l9On_any g n (4) hn (by omega) _ hC4).mono ?_
  rintro e w5 ⟨y, rfl, hC5, hG5⟩
  have hB5 := hB4.grown hG5 (fun k hk => by injection hk; omega)
  have hg5 := gr_trans hg4 hG5
  obtain ⟨⟨a0, a1, a2, a3⟩, y0, y1, y2, y3⟩ := blk4 hB5
  go_wp2
  exact bodyPost_ret (v := .agg #[.int .i64 y.k, .int .i64 y.a, .int .i64 y.b, .int .i64 y.c]) (ret4 rfl hB5 (.int .i64 y.k) (.int .i64 y.a) (.int .i64 y.b) (.int .i64 y.c) _ rfl) rfl ⟨y, rfl, Cur.set4 hC5 hgl _ _ _ _, gr_set4 hg5 (Nat.le_refl _) _ _ _ _⟩
 ·have hle : ar (kk) ≤ n := by omega
  go_wp2_with fail
  refine (l9On_any g n (kk) hn (hle) _ hC4).mono ?_
  rintro e w5 ⟨y, rfl, hC5, hG5⟩
  have hB5 := hB4.grown hG5 (fun k hk => by injection hk; omega)
  have hg5 := gr_trans hg4 hG5
  obtain ⟨⟨a0, a1, a2, a3⟩, y0, y1, y2, y3⟩ := blk4 hB5
  go_wp2
  exact bodyPost_ret (v := .agg #[.int .i64 y.k, .int .i64 y.a, .int .i64 y.b, .int .i64 y.c]) (ret4 rfl hB5 (.int .i64 y.k) (.int .i64 y.a) (.int .i64 y.b) (.int .i64 y.c) _ rfl) rfl ⟨y, rfl, Cur.set4 hC5 hgl _ _ _ _, gr_set4 hg5 (Nat.le_refl _) _ _ _ _⟩
set_option maxRecDepth 100000 in
set_option maxHeartbeats 8000000 in
theorem l26Circ_any (g n most : Nat) (hn : 1 ≤ n ∧ n ≤ 4) (hm : most ≤ 200) (w : World) (h : Cur w g) :
  Calls Tryz.prog 14 #[.pointer (some ⟨g, 0, none⟩), .int .i64 n, .int .i64 most] w fun e w' => ∃ A len cap gs, e = .returned (.agg #[.int .i64 n, .slice A len cap]) ∧ len ≤ most ∧ w'.ownsRow w.heap.size 52 4 (.slice A len cap) len (gcells gs) ∧ Cur w' g ∧ w.grownBy w' (some g) := by
 have hgl := h.lt
 go_enter Tryz.func14, Tryz.ntmps14
 go_wp2_with fail
 refine (l1Below_any g _ _ ((h.alloc _).alloc _) (by omega)).mono ?_
 rintro e w2 ⟨x, rfl, ⟨hx0, hx1, _⟩, hC2, hG2⟩
 obtain ⟨m, rfl⟩ := Int.eq_ofNat_of_zero_le hx0
 have hx2 : m ≤ most := by have := hx1 (by omega); omega
 clear hx1 hx0
 have hB6 := ((Blk.new w 26 #[.int .i64 0, .slice none 0 0]).alloc _).grown hG2 (fun k hk => by injection hk; omega)
 have hB7 := (Blk.newAt (w := w.alloc (.cells #[.int .i64 0, .slice none 0 0] 26)) (t := 26) (cs := #[.int .i64 n, .slice none 0 0]) (b := w.heap.size + 1) (by simp)).grown hG2 (fun k hk => by injection hk; omega)
 have hg2 : w.grownBy w2 (some g) := gr_trans ((((Ext.refl w).alloc _).alloc _).gr _) hG2
 clear hG2
 go_wp2
 go_loopw [9] (fun i wr => ∃ (k : Nat) (A : Option Addr) (cap : Nat) (gs : List Gt), k ≤ m ∧ i = .int .i64 k ∧ Blk wr w.heap.size 26 #[.int .i64 0, .slice none 0 0] ∧ Blk wr (w.heap.size + 1) 26 #[.int .i64 n, .slice A k cap] ∧ wr.ownsRow (w.heap.size + 2) 52 4 (.slice A k cap) k (gcells gs) ∧ Cur wr g ∧ w.grownBy wr (some g)) (fun i _ => m - (intOf i).toNat)
 case atStart => exact ⟨0, none, 0, [], Nat.zero_le _, rfl, hB6, hB7, ⟨by simp, .inl ⟨rfl, rfl⟩⟩, hC2, hg2⟩
 case round =>
  clear hB6 hB7 hC2 hg2
  obtain ⟨k, A, cap, gs, hk, rfl, hB6, hB7, hown, hC, hG⟩ := hrel
  have hl7 := hB7.lt
  by_cases hlt : k < m
  ·have HOWN := Lib.hid hown
   have HROW := Lib.hid hown.lt
   have c1 : wr.cell? ⟨w.heap.size + 1, 1, none⟩ = some (.slice A k cap) := hB7.cell 1
   have f1 : wr.frozen? ⟨w.heap.size + 1, 1, none⟩ = false := hB7.frozen 1
   clear hown
   go_wp2
   go_region_law (first
    | (go_simp; go_at_call 31; refine (l25Cliff_any g n hn _ (hC.ext (Ext.refl wr).drew)).mono ?_; rintro e w3 ⟨y, rfl, hC3, hG3⟩; have hB73 := Blk.grown (w := wr.drew) hB7 hG3 (fun k hk => by injection hk; omega); have hB63 := Blk.grown (w := wr.drew) hB6 hG3 (fun k hk => by injection hk; omega); have k3 : w3.cell? ⟨w.heap.size + 1, 1, none⟩ = some (.slice A k cap) := hB73.cell 1; have g3 : w3.frozen? ⟨w.heap.size + 1, 1, none⟩ = false := hB73.frozen 1; have hl3 := hB73.lt)
    | (refine stepG1 (B := w.heap.size + 2) (by rfl) _ _ (by rfl) _ k gs (by rfl) (own_kept (w := wr.drew) HOWN.out hG3 (fun q hq => by injection hq; omega)) (by omega) y _ _ (by rfl) (by rfl) (by omega) ?_; intro A4 c4 w4 ho4 hg4 _; have hB74 := hB73.grown hg4 (fun k hk => by have := HROW.out k hk; omega); have hB64 := hB63.grown hg4 (fun k hk => by have := HROW.out k hk; omega); have k4 : w4.cell? ⟨w.heap.size + 1, 1, none⟩ = some (.slice A k cap) := hB74.cell 1; have g4 : w4.frozen? ⟨w.heap.size + 1, 1, none⟩ = false := hB74.frozen 1))
   all_goals
    have hC4 := hC3.grown hg4 (fun q hq => by have := HROW.out q hq; omega)
    have hG4 := gr_new (gr_trans (gr_ext hG (Ext.refl wr).drew) hG3) hg4 (fun q hq => by have := HROW.out q hq; omega)
    clear k4 g4 k3 g3
    go_wp2
    go_roundw
    case rel => exact ⟨k + 1, A4, c4, gs ++ [y], by omega, by go_num, hB64.far (p := ⟨w.heap.size + 1, 1, none⟩) (by simp) _, hB74.set_ 1 _, own_set ho4 (p := ⟨w.heap.size + 1, 1, none⟩) (by simp) _, hC4.set_ (p := ⟨w.heap.size + 1, 1, none⟩) (by simp; omega) _, gr_set hG4 (p := ⟨w.heap.size + 1, 1, none⟩) (by simp) _⟩
    case measure => simp [intOf]; omega
  ·obtain ⟨⟨b0, b1⟩, z0, z1⟩ := blk2 hB7
   obtain ⟨⟨a0, a1⟩, y0, y1⟩ := blk2 hB6
   have HOWN := Lib.hid hown
   clear hown
   go_wp2
   exact bodyPost_ret (v := .agg #[.int .i64 n, .slice A k cap]) (ret2c rfl hB6 (.int .i64 n) (.slice A k cap) _ rfl) rfl ⟨A, k, cap, gs, rfl, by omega, own_base (own_set (own_set HOWN.out (p := ⟨w.heap.size, 0, none⟩) (by simp) _) (p := ⟨w.heap.size, 1, none⟩) (by simp) _) (by omega), Cur.set2 hC hgl _ _, gr_set2 hG (Nat.le_refl _) _ _⟩
end Go.Proofs.YtioimnplhmgbgaaGreat
/-
 Helper text (no claim of its own): drawn circuits, bent. Only that they return, and what their results are made of.
-/
namespace Go.Proofs.YtioimnplhmgbgaaGreat
open Go.ChangeShapes Go.WideShapes Go.ChangeAt Go.RowKit Go.Deep
theorem own_ne {w : World} {B e size n s : Nat} {v : Value} {xs : List Value} (h : w.ownsRow B e size v n xs) (hs : w.heap.size ≤ s) : ∀ q, v.ownBlock = some q → B ≤ q ∧ q ≠ s := fun q hq => by
 have := h.lt q hq
 exact ⟨this.1, by omega⟩
theorem appG1 {w : World} {B : Nat} {ops : Array Oper} {rest : List Oper} {o : Oper} {a : Act} {Q : Exit → Act → World → Prop} (hgd : o.guard = none) (s x : Operand)
  (ho : o.op = .call { callee := .builtin .append, args := #[s, x], argTypes := #[24, 24] }) (v : Value) (n : Nat) (xs : List Gt) (hs : a.eval s = v)
  (hown : w.ownsRow B 52 4 v n (gcells xs)) (hB : B ≤ w.heap.size) (y : Gt) (e : TypeId) (b : Nat) (hx : a.eval x = .slice (some ⟨b, 0, none⟩) 1 1) (hbs : b = w.heap.size) (hn : n ≤ 90000000)
  (h : ∀ A' c' w', w'.ownsRow B 52 4 (.slice A' (n + 1) c') (n + 1) (gcells (xs ++ [y])) → w.grownBy w' v.ownBlock → ((Value.slice A' (n + 1) c').ownBlock = v.ownBlock ∨ (Value.slice A' (n + 1) c').ownBlock = some (w.heap.size + 1)) → wpList Tryz.prog ops Q rest (a.put o.dst (.slice A' (n + 1) c')) w') :
  wpList Tryz.prog ops Q (o :: rest) a (w.alloc (.cells #[.int .i64 y.k, .int .i64 y.a, .int .i64 y.b, .int .i64 y.c] e)) := by
 subst hbs
 have hcs := cutW_size hB
 refine appGateS (w0 := cutW w B) hgd s x ho v n xs hs (by rw [hcs]; exact hown.alloc _) ((cutW_ext hB).alloc _) _ 1 1 [y] hx (rd_new w _ e 4 _ (by simp [Gt.cells]) (by simp [Gt.cells])) (by omega) ?_
 intro v' w' h1 h2 h3 h4
 rw [hcs] at h1
 obtain ⟨A', c', rfl, _⟩ := own_slice h1
 exact h A' c' w' h1 (World.grownBy.trans (((Ext.refl w).alloc _).gr _) h3) (by simpa using h4)
/-- A drawn circuit whose header lies in block s. -/
def DC (w0 w : World) (g s : Nat) (N : Int) (A : Option Addr) (len cap : Nat) (gs : List Gt) : Prop :=
 Blk w w0.heap.size 26 #[.int .i64 0, .slice none 0 0] ∧ Blk w s 26 #[.int .i64 N, .slice A len cap] ∧ w.ownsRow (w0.heap.size + 1) 52 4 (.slice A len cap) len (gcells gs) ∧ (∀ q, (Value.slice A len cap).ownBlock = some q → w0.heap.size + 1 ≤ q ∧ q ≠ s) ∧ Cur w g ∧ w0.grownBy w (some g)
theorem DC.grown {w0 w w' : World} {g s : Nat} {N : Int} {A : Option Addr} {len cap : Nat} {gs : List Gt} (h : DC w0 w g s N A len cap gs) (hg : w.grownBy w' (some g)) (hC : Cur w' g) (hs : g < s) (hl : g < w0.heap.size) : DC w0 w' g s N A len cap gs := by
 obtain ⟨h1, h2, h3, h4, h5, h6⟩ := h
 exact ⟨h1.grown hg (fun k hk => by injection hk; omega), h2.grown hg (fun k hk => by injection hk; omega), own_kept h3 hg (fun k hk => by injection hk; omega), h4, hC, gr_trans h6 hg⟩
theorem DC.drew {w0 w : World} {g s : Nat} {N : Int} {A : Option Addr} {len cap : Nat} {gs : List Gt} (h : DC w0 w g s N A len cap gs) : DC w0 w.drew g s N A len cap gs := by
 obtain ⟨h1, h2, h3, h4, h5, h6⟩ := h
 exact ⟨h1, h2, own_ext h3 (Ext.refl w).drew, h4, h5.ext (Ext.refl w).drew, gr_ext h6 (Ext.refl w).drew⟩
theorem DC.alloc {w0 w : World} {g s : Nat} {N : Int} {A : Option Addr} {len cap : Nat} {gs : List Gt} (h : DC w0 w g s N A len cap gs) (o : Obj) : DC w0 (w.alloc o) g s N A len cap gs := by
 obtain ⟨h1, h2, h3, h4, h5, h6⟩ := h
 exact ⟨h1.alloc o, h2.alloc o, own_ext h3 ((Ext.refl w).alloc o), h4, h5.alloc o, gr_alloc h6 o⟩
theorem DC.setN {w0 w : World} {g s : Nat} {N : Int} {A : Option Addr} {len cap : Nat} {gs : List Gt} (h : DC w0 w g s N A len cap gs) (M : Int) (hs : w0.heap.size < s) (hl : g < w0.heap.size) : DC w0 (w.setCell ⟨s, 0, none⟩ (.int .i64 M)) g s M A len cap gs := by
 obtain ⟨h1, h2, h3, h4, h5, h6⟩ := h
 refine ⟨h1.far (p := ⟨s, 0, none⟩) (by simp; omega) _, h2.set_ 0 _, ?_, h4, h5.set_ (p := ⟨s, 0, none⟩) (by simp; omega) _, gr_set h6 (p := ⟨s, 0, none⟩) (by simp; omega) _⟩
 refine h3.kept (row := some s) (gr_setCell (World.grownBy.refl w (some s)) 0 _) ?_
 cases hv : (Value.slice A len cap).ownBlock with
 | none => exact .inl rfl
 | some q => exact .inr (fun e => (h4 q hv).2 (by injection e))
/-- What an append to the circuit's row leaves. -/
theorem DC.app {w0 w w' : World} {g s : Nat} {N : Int} {A A' : Option Addr} {len cap c' : Nat} {gs : List Gt} {y : Gt} (h : DC w0 w g s N A len cap gs) (hs : w0.heap.size < s) (hl : g < w0.heap.size)
  (ho : w'.ownsRow (w0.heap.size + 1) 52 4 (.slice A' (len + 1) c') (len + 1) (gcells (gs ++ [y]))) (hg : w.grownBy w' (Value.slice A len cap).ownBlock)
  (hb : (Value.slice A' (len + 1) c').ownBlock = (Value.slice A len cap).ownBlock ∨ (Value.slice A' (len + 1) c').ownBlock = some (w.heap.size + 1)) :
  Blk w' s 26 #[.int .i64 N, .slice A len cap] ∧ DC w0 (w'.setCell ⟨s, 1, none⟩ (.slice A' (len + 1) c')) g s N A' (len + 1) c' (gs ++ [y]) := by
 obtain ⟨h1, h2, h3, h4, h5, h6⟩ := h
 have hls := h2.lt
 have hB := h2.grown hg (fun k hk e => (h4 k hk).2 e.symm)
 have h4' : ∀ q, (Value.slice A' (len + 1) c').ownBlock = some q → w0.heap.size + 1 ≤ q ∧ q ≠ s := by
  intro q hq
  rcases hb with hb | hb
  ·rw [hb] at hq; exact h4 q hq
  ·rw [hb] at hq; injection hq with hq
   have := h1.lt
   omega
 refine ⟨hB, (h1.grown hg (fun k hk e => by have := (h4 k hk).1; omega)).far (p := ⟨s, 1, none⟩) (by simp; omega) _, hB.set_ 1 _, ?_, h4', (h5.grown hg (fun k hk => by have := (h4 k hk).1; omega)).set_ (p := ⟨s, 1, none⟩) (by simp; omega) _, gr_set (gr_new h6 hg (fun k hk => by have := (h4 k hk).1; omega)) (p := ⟨s, 1, none⟩) (by simp; omega) _⟩
 refine ho.kept (row := some s) (gr_setCell (World.grownBy.refl w' (some s)) 1 _) ?_
 cases hv : (Value.slice A' (len + 1) c').ownBlock with
 | none => exact .inl rfl
 | some q => exact .inr (fun e => (h4' q hv).2 (by injection e))
end Go.Proofs.YtioimnplhmgbgaaGreat
/-
 Helper text (no claim of its own): drawn circuits, bent. Only that they return, and what their results are made of.
-/
namespace Go.Proofs.YtioimnplhmgbgaaGreat
open Go.ChangeShapes Go.WideShapes Go.ChangeAt Go.RowKit Go.Deep
theorem l1Max_no (a b : Int) (w : World) (h : ¬ b < a) : Calls Tryz.prog 36 #[.int .i64 a, .int .i64 b] w fun e w' => e = .returned (.int .i64 b) ∧ w = w' := by
 have := l1Max_any a b w
 rwa [if_neg h] at this
theorem DC.done {w W : World} {g s : Nat} {N : Int} {A : Option Addr} {len cap : Nat} {gs : List Gt} (h : DC w W g s N A len cap gs) (hl : g < w.heap.size) :
  ((W.setCell ⟨w.heap.size, 0, none⟩ (.int .i64 N)).setCell ⟨w.heap.size, 1, none⟩ (.slice A len cap)).ownsRow w.heap.size 52 4 (.slice A len cap) len (gcells gs) ∧ Cur ((W.setCell ⟨w.heap.size, 0, none⟩ (.int .i64 N)).setCell ⟨w.heap.size, 1, none⟩ (.slice A len cap)) g ∧ w.grownBy ((W.setCell ⟨w.heap.size, 0, none⟩ (.int .i64 N)).setCell ⟨w.heap.size, 1, none⟩ (.slice A len cap)) (some g) :=
 ⟨own_base (own_set (own_set h.2.2.1 (p := ⟨w.heap.size, 0, none⟩) (by simp) _) (p := ⟨w.heap.size, 1, none⟩) (by simp) _) (by omega), Cur.set2 h.2.2.2.2.1 hl _ _, gr_set2 h.2.2.2.2.2 (Nat.le_refl _) _ _⟩
def lenAt (w : World) (s : Nat) : Nat := match w.cell? ⟨s, 1, none⟩ with | some (.slice _ n _) => n | _ => 0
theorem lenAt_blk {w : World} {s t : Nat} {a : Value} {A : Option Addr} {n c : Nat} (h : Blk w s t #[a, .slice A n c]) : lenAt w s = n := by
 have : w.cell? ⟨s, 1, none⟩ = some (.slice A n c) := h.cell 1
 unfold lenAt
 rw [this]
/-- What a drawn circuit is. -/
def DrewCirc (w : World) (g most : Nat) (e : Ending) (w' : World) : Prop :=
 ∃ (N : Int) (A : Option Addr) (len cap : Nat) (gs : List Gt), e = .returned (.agg #[.int .i64 N, .slice A len cap]) ∧ (-1 ≤ N ∧ N ≤ 5) ∧ len ≤ most + 61 ∧ w'.ownsRow w.heap.size 52 4 (.slice A len cap) len (gcells gs) ∧ Cur w' g ∧ w.grownBy w' (some g)
theorem DrewCirc.mk {w w' : World} {g most : Nat} (N : Int) (A : Option Addr) (len cap : Nat) (gs : List Gt) (h1 : -1 ≤ N ∧ N ≤ 5) (h2 : len ≤ most + 61) (h3 : w'.ownsRow w.heap.size 52 4 (.slice A len cap) len (gcells gs) ∧ Cur w' g ∧ w.grownBy w' (some g)) : DrewCirc w g most (.returned (.agg #[.int .i64 N, .slice A len cap])) w' :=
 ⟨N, A, len, cap, gs, rfl, h1, h2, h3⟩
set_option maxRecDepth 100000 in
set_option maxHeartbeats 8000000 in
theorem l11Bent_any (g most : Nat) (hm : most ≤ 200) (w : World) (h : Cur w g) :
  Calls Tryz.prog 17 #[.pointer (some ⟨g, 0, none⟩), .int .i64 most] w (DrewCirc w g most) := by
 have hgl := h.lt
 go_enter Tryz.func17, Tryz.ntmps17
 go_wp2_with fail
 refine (l1Below_any g 3 _ (h.alloc _) (by omega)).mono ?_
 rintro e w2 ⟨x, rfl, ⟨hx0, hx1, _⟩, hC2, hG2⟩
 obtain ⟨n, rfl⟩ := Int.eq_ofNat_of_zero_le hx0
 have hx2 : n < 3 := by have := hx1 (by omega); omega
 clear hx1 hx0
 go_wp2_with fail
 obtain ⟨n1, e1, hb1, hb2⟩ : ∃ n1 : Nat, (1 : Int) + (n : Int) = (n1 : Int) ∧ 1 ≤ n1 ∧ n1 ≤ 3 := ⟨n + 1, by omega, by omega, by omega⟩
 rw [e1]
 clear e1
 refine (l11Right_any g n1 most ⟨by omega, by omega⟩ hm _ hC2).mono ?_
 rintro e w3 ⟨A, len, cap, gs, rfl, hlen, ho3, hC3, hG3⟩
 have hB2 := (Blk.new w 26 #[.int .i64 0, .slice none 0 0]).grown hG2 (fun k hk => by injection hk; omega)
 have hB3 := hB2.grown hG3 (fun k hk => by injection hk; omega)
 have hl2 := hB2.lt
 have hl3 := hB3.lt
 have hg3 : w.grownBy w3 (some g) := gr_trans (gr_trans (((Ext.refl w).alloc _).gr _) hG2) hG3
 have hD : DC w (w3.alloc (.cells #[.int .i64 n1, .slice A len cap] 26)) g w3.heap.size n1 A len cap gs :=
  ⟨hB3.alloc _, Blk.new _ _ _, own_ext (own_base ho3 hl2) ((Ext.refl w3).alloc _), own_ne (own_base ho3 hl2) (Nat.le_refl _), hC3.alloc _, gr_alloc hg3 _⟩
 clear hB2 hB3 hG2 hG3 hg3 hC2 ho3
 go_wp2_with fail
 refine (l1Below_any g 12 _ (hC3.alloc _) (by omega)).mono ?_
 rintro e w4 ⟨x, rfl, ⟨hx0, hx1, _⟩, hC4, hG4⟩
 have hx2 := hx1 (by omega)
 clear hx1
 have hgs : g < w3.heap.size := by omega
 have hD4 := hD.grown hG4 hC4 hgs hgl
 clear hD hG4 hC3
 generalize w3.heap.size = s at *
 have hs4 := hD4.2.1.lt
 have hw4 := hD4.1.lt
 have hge : w.heap.size + 1 ≤ w4.heap.size := by omega
 by_cases e0 : x = 0
 ·subst e0
  go_wp2_with fail
  refine (l1PickInt_any g _ 5 _ [0, 1, 4, 5, -1] _ (hC4.alloc _) (rd_newN w4 _ _ _ 5 1 _ rfl rfl rfl) (by intro b o e; injection e with e; injection e with e1; omega) (by omega)).mono ?_
  rintro e w5 ⟨z, rfl, hz, hC5, hG5⟩
  have hD5 := (hD4.alloc _).grown hG5 hC5 hgs hgl
  have hz2 : -1 ≤ z ∧ z ≤ 5 := by simp at hz; omega
  clear hz hD4 hC4 hG5
  have hD6 := hD5.setN z (by omega) hgl
  obtain ⟨⟨b0, b1⟩, z0, z1⟩ := blk2 hD5.2.1
  obtain ⟨⟨a0, a1⟩, y0, y1⟩ := blk2 hD5.1
  have HD := Lib.hid hD6
  clear hD6 hD5
  go_wp2
  exact bodyPost_ret (v := .agg #[.int .i64 z, .slice A len cap]) (ret2c rfl HD.out.1 (.int .i64 z) (.slice A len cap) _ rfl) rfl (DrewCirc.mk (z) A (len) cap (gs) (hz2) (by omega) (HD.out.done hgl))
 by_cases e1 : x = 1
 ·subst e1
  have HD4 := Lib.hid hD4
  obtain ⟨⟨b0, b1⟩, z0, z1⟩ := blk2 hD4.2.1
  clear hD4
  go_wp2
  go_region_law (first
   | (go_simp; go_at_call 36; refine (l1Max_no _ _ _ (by omega)).mono ?_; rintro e wq ⟨rfl, rfl⟩)
   | (go_simp; go_at_call 35; refine (l9Bent_any g n1 (by omega) _ (hC4.ext (Ext.refl w4).drew)).mono ?_; rintro e w5 ⟨y, rfl, hC5, hG5⟩; have HD5 := Lib.hid (HD4.out.drew.grown hG5 hC5 hgs hgl); have k0 : w5.cell? ⟨s, 0, none⟩ = some (.int .i64 n1) := HD5.out.2.1.cell 0; have k1 : w5.cell? ⟨s, 1, none⟩ = some (.slice A len cap) := HD5.out.2.1.cell 1; have hs5 := HD5.out.2.1.lt; have hw5 := HD5.out.1.lt)
   | (refine stepG1 (B := w.heap.size + 1) (by rfl) _ _ (by rfl) _ len gs (by rfl) HD5.out.2.2.1 (by omega) y _ _ (by rfl) (by rfl) (by omega) ?_; intro A6 c6 w6 ho6 hg6 hb6; have HA := Lib.hid (HD5.out.app (by omega) hgl ho6 hg6 hb6); have k6 : w6.cell? ⟨s, 1, none⟩ = some (.slice A len cap) := HA.out.1.cell 1; have f6 : w6.frozen? ⟨s, 1, none⟩ = false := HA.out.1.frozen 1))
  all_goals
   clear k6 f6 k0 k1 b0 b1 z0 z1
   have HD := Lib.hid HA.out.2
   obtain ⟨⟨b0, b1⟩, z0, z1⟩ := blk2 HD.out.2.1
   obtain ⟨⟨a0, a1⟩, y0, y1⟩ := blk2 HD.out.1
   go_wp2
   exact bodyPost_ret (v := .agg #[.int .i64 n1, .slice A6 (len + 1) c6]) (ret2c rfl HD.out.1 (.int .i64 n1) (.slice A6 (len + 1) c6) _ rfl) rfl (DrewCirc.mk (n1) A6 (len + 1) c6 (gs ++ [y]) (by omega) (by omega) (HD.out.done hgl))
 by_cases e2 : x = 2
 ·subst e2
  go_wp2_with fail
  refine (l1Once_any g _ _ hC4 (by omega)).mono ?_
  rintro e w5 ⟨bb, rfl, hC5, hG5⟩
  have hD5 := hD4.grown hG5 hC5 hgs hgl
  clear hD4 hC4 hG5
  cases bb
  ·have HD := Lib.hid hD5
   obtain ⟨⟨b0, b1⟩, z0, z1⟩ := blk2 hD5.2.1
   obtain ⟨⟨a0, a1⟩, y0, y1⟩ := blk2 hD5.1
   clear hD5
   go_wp2
   exact bodyPost_ret (v := .agg #[.int .i64 n1, .slice A len cap]) (ret2c rfl HD.out.1 (.int .i64 n1) (.slice A len cap) _ rfl) rfl (DrewCirc.mk (n1) A (len) cap (gs) (by omega) (by omega) (HD.out.done hgl))
  ·go_wp2
   go_loopw [] (fun wr => ∃ (A : Option Addr) (l cap : Nat) (gs : List Gt), l ≤ most + 61 ∧ DC w wr g s n1 A l cap gs) (fun wr => 62 - lenAt wr s)
   case atStart => exact ⟨A, len, cap, gs, by omega, hD5⟩
   case round =>
    clear hD5 hC5
    obtain ⟨A, l, cap, gs, hl, hD⟩ := hrel
    have HD := Lib.hid hD
    obtain ⟨⟨b0, b1⟩, z0, z1⟩ := blk2 hD.2.1
    have hCr := hD.2.2.2.2.1
    have hsr := hD.2.1.lt
    have hwr := hD.1.lt
    clear hD
    go_wp2
    go_region_law (first
     | (go_simp; go_at_call 13; refine (l1Below_any g 3 _ (hCr.ext (Ext.refl wr).drew) (by omega)).mono ?_; rintro e w6 ⟨z, rfl, ⟨hz0, hz1, _⟩, hC6, hG6⟩; have HD6 := Lib.hid (HD.out.drew.grown hG6 hC6 hgs hgl); have k1 : w6.cell? ⟨s, 1, none⟩ = some (.slice A l cap) := HD6.out.2.1.cell 1; have hz2 : z < 3 := hz1 (by omega); clear hz1))
    all_goals
     clear k1 b0 b1 z0 z1
     obtain ⟨⟨b0, b1⟩, z0, z1⟩ := blk2 HD6.out.2.1
     have hs6 := HD6.out.2.1.lt
     have hw6 := HD6.out.1.lt
     rw [show IntKind.i64.wrap (59 + z) = 59 + z from IntWalk.i64_in _ (by omega)]
     by_cases hlt : (l : Int) < 59 + z
     ·go_wp2_with (at_builtin; refine appG1 (B := w.heap.size + 1) rfl _ _ rfl _ l gs rfl HD6.out.2.2.1 (by omega) ⟨1, 0, 0, 0⟩ _ _ rfl rfl (by omega) ?_; intro A7 c7 w7 ho7 hg7 hb7; have HA := Lib.hid (HD6.out.app (by omega) hgl ho7 hg7 hb7); have k6 : w7.cell? ⟨s, 1, none⟩ = some (.slice A l cap) := HA.out.1.cell 1; have f6 : w7.frozen? ⟨s, 1, none⟩ = false := HA.out.1.frozen 1)
      have HM : Hid (62 - lenAt (w7.setCell ⟨s, 1, none⟩ (.slice A7 (l + 1) c7)) s < 62 - lenAt wr s) := by
       unfold Hid
       rw [lenAt_blk HA.out.2.2.1, lenAt_blk HD.out.2.1]
       omega
      clear k6 f6 b0 b1 z0 z1
      go_roundw
      case rel => exact ⟨A7, l + 1, c7, _, by omega, HA.out.2⟩
      case measure => exact HM.out
     ·obtain ⟨⟨a0, a1⟩, y0, y1⟩ := blk2 HD6.out.1
      go_wp2
      exact bodyPost_ret (v := .agg #[.int .i64 n1, .slice A l cap]) (ret2c rfl HD6.out.1 (.int .i64 n1) (.slice A l cap) _ rfl) rfl (DrewCirc.mk (n1) A (l) cap (gs) (by omega) (by omega) (HD6.out.done hgl))
 ·have HD := Lib.hid hD4
  obtain ⟨⟨b0, b1⟩, z0, z1⟩ := blk2 hD4.2.1
  obtain ⟨⟨a0, a1⟩, y0, y1⟩ := blk2 hD4.1
  clear hD4
  go_wp2
  exact bodyPost_ret (v := .agg #[.int .i64 n1, .slice A len cap]) (ret2c rfl HD.out.1 (.int .i64 n1) (.slice A len cap) _ rfl) rfl (DrewCirc.mk (n1) A (len) cap (gs) (by omega) (by omega) (HD.out.done hgl))
end Go.Proofs.YtioimnplhmgbgaaGreat
/-
 Helper text (no claim of its own): a Clifford circuit made anew, by the reference (its form only), and two drawn circuits.
-/
namespace Go.Proofs.YtioimnplhmgbgaaGreat
open Go.ChangeShapes Go.WideShapes Go.ChangeAt Go.RowKit Go.Deep
set_option linter.unusedVariables false
set_option linter.unusedSimpArgs false
theorem Tryz.sizeCircuitR : (Tryz.prog.info? 26).map (·.size) = some 2 := by kernel_rfl
theorem circgate_ne : (26 : Nat) ≠ 52 := by decide
theorem own_putC {w : World} {r T i : Nat} {cs : Array Value} {B e size n : Nat} {v : Value} {xs : List Value} (ho : w.ownsRow B e size v n xs) (h : Blk w r T cs) (hne : T ≠ e) (u : Value) : (w.setCell ⟨r, i, none⟩ u).ownsRow B e size v n xs := by
 refine ho.kept (row := some r) (gr_setCell (World.grownBy.refl w (some r)) i u) ?_
 cases hv : v.ownBlock with
 | none => exact .inl rfl
 | some k => exact .inr (fun e1 => blk_own h ho hne k hv (by injection e1 with e1; exact e1.symm))
theorem own_putC2 {w : World} {r T : Nat} {z0 z1 : Value} {B e size n : Nat} {v : Value} {xs : List Value} (ho : w.ownsRow B e size v n xs) (h : Blk w r T #[z0, z1]) (hne : T ≠ e) (a b : Value) : (put2 w r a b).ownsRow B e size v n xs :=
 own_putC (own_putC ho h hne a) (h.set_ 0 a) hne b
/-- A circuit and a bool. -/
def CiB (w0 : World) (most : Nat) (e : Ending) (w : World) : Prop := ∃ (N : Int) (L : Option Addr) (len cap : Nat) (gs : List Gt) (b : Bool), e = .returned (.tuple #[.agg #[.int .i64 N, .slice L len cap], .bool b]) ∧ w.ownsRow w0.heap.size 52 4 (.slice L len cap) len (gcells gs) ∧ len ≤ most
set_option maxRecDepth 100000 in
set_option maxHeartbeats 8000000 in
theorem ResynthesizeClifford_any (A : Option Addr) (c : Nat) (n : Int) (gs : List Gt) (w : World) (h : Rd w w.heap.size 4 A gs.length (gcells gs)) (hl : gs.length ≤ 100000000) :
  Calls Tryz.prog 16 #[.agg #[.int .i64 n, .slice A gs.length c]] w fun e w' => CiB w 100 e w' ∧ Ext w w' := by
 go_enter Tryz.func16, Tryz.ntmps16
 go_wp2_with fail
 refine (spec_CircuitTableau_any A c n gs _ (h.ext (by exact xx)) hl).mono ?_
 rintro e w1 ⟨ht, hx1⟩
 have hle : ∃ (m : Int) (B : Option Addr) (l d : Nat) (rs : List Pa) (b : Bool), e = .returned (.tuple #[.agg #[.int .i64 m, .slice B l d], .bool b]) ∧ Hid (Rd w1 w1.heap.size 4 B l (pcells rs) ∧ rs.length = l ∧ l ≤ d ∧ l ≤ 8) := by
  cases hT : tabF n gs with
  | none =>
   rw [hT] at ht
   exact ⟨0, none, 0, 0, [], false, ht, ⟨rfl, fun h0 => absurd h0 (by omega)⟩, rfl, Nat.le_refl _, by omega⟩
  | some rs =>
   rw [hT] at ht
   obtain ⟨v, he, B, d, rfl, hr, hc⟩ := ht
   have h8 : rs.length ≤ 8 := by
    cases hv : vCi n gs
    ·rw [tabF_no hv] at hT; cases hT
    ·rw [tabF_yes hv] at hT
     have hb := vCi_bd hv
     obtain ⟨k, rfl⟩ := Int.eq_ofNat_of_zero_le (by omega : 0 ≤ n)
     have h2 : ∀ (gs : List Gt) (rs0 rs : List Pa), gs.foldl (fun t g => t.bind fun rs => tabG k rs g) (some rs0) = some rs → rs.length = rs0.length := by
      intro gs
      induction gs with
      | nil => intro rs0 rs h; cases h; rfl
      | cons g r ih =>
       intro rs0 rs h
       rw [List.foldl_cons] at h
       cases h3 : tabG k rs0 g with
       | none => rw [show (some rs0).bind (fun rs => tabG k rs g) = none from h3, foldNone] at h; cases h
       | some r1 => rw [show (some rs0).bind (fun rs => tabG k rs g) = some r1 from h3] at h; rw [ih r1 rs h, tabG_len h3]
     have h3 := h2 gs _ rs hT
     rw [h3, idT_len, Int.toNat_natCast]
     omega
   exact ⟨n, B, rs.length, d, rs, true, he, hr, rfl, hc, h8⟩
 obtain ⟨m, B, l, d, rs, b, rfl, HR⟩ := hle
 have HB0 : Hid (Blk w1 w.heap.size 26 #[.int .i64 n, .slice A gs.length c] ∧ Blk w1 (w.heap.size + 1) 26 #[.int .i64 0, .slice none 0 0]) := ⟨((Blk.new w _ _).alloc _).ext hx1, (Blk.newAt (b := w.heap.size + 1) (by simp)).ext hx1⟩
 have HX1 : Hid (Ext w w1 ∧ w.heap.size + 2 ≤ w1.heap.size) := ⟨Ext.trans (by exact xx) hx1, by have := hx1.size; simpa using this⟩
 obtain ⟨la, hla⟩ : ∃ la, la = gs.length := ⟨_, rfl⟩
 rw [← hla] at HB0 ⊢
 clear hx1 ht h hla hl
 have HS : Hid (Blk (w1.alloc (.cells #[.int .i64 m, .slice B l d] 31)) w1.heap.size 31 #[.int .i64 m, .slice B l d] ∧ Ext w1 (w1.alloc (.cells #[.int .i64 m, .slice B l d] 31)) ∧ w1.heap.size < (w1.alloc (.cells #[.int .i64 m, .slice B l d] 31)).heap.size) := ⟨Blk.new _ _ _, (Ext.refl _).alloc _, by simp⟩
 have HR2 : Hid (Rd (w1.alloc (.cells #[.int .i64 m, .slice B l d] 31)) (w1.alloc (.cells #[.int .i64 m, .slice B l d] 31)).heap.size 4 B l (pcells rs)) := HR.out.1.ext ((Ext.refl _).alloc _)
 go_upto_region 2 with (fail)
 generalize w1.alloc (.cells #[.int .i64 m, .slice B l d] 31) = w2 at *
 generalize w1.heap.size = q at *
 obtain ⟨⟨s0, s1⟩, -⟩ := blkT2 HS.out.1
 go_wp2_with fail
 refine ((show Calls Tryz.prog 32 #[.agg #[.int .i64 m, .slice B l d]] w2 (fun e w' => GsB w2 100 e w' ∧ Ext w2 w') by
  obtain ⟨h1, h2, h3, h4⟩ := HR.out
  have := SynthesizeTableau_any B d m rs w2 (by rw [h2]; exact HR2.out) (by omega) (by omega)
  rw [h2] at this
  exact this)).mono ?_
 rintro e w3 ⟨⟨L, len, cap, hs, bb, rfl, ho, hlen⟩, hx3⟩
 have HO := Lib.hid ho
 have HX3 : Hid (Ext w w3) := HX1.out.1.trans (HS.out.2.1.trans hx3)
 have HB3 : Hid (Blk w3 w.heap.size 26 #[.int .i64 n, .slice A la c] ∧ Blk w3 (w.heap.size + 1) 26 #[.int .i64 0, .slice none 0 0]) := ⟨HB0.out.1.ext (HS.out.2.1.trans hx3), HB0.out.2.ext (HS.out.2.1.trans hx3)⟩
 have HSZ : Hid (w.heap.size + 2 ≤ q ∧ q < w2.heap.size ∧ w2.heap.size ≤ w3.heap.size) := ⟨HX1.out.2, HS.out.2.2, hx3.size⟩
 clear HB0 HX1 HS HR HR2 hx3 ho s0 s1
 obtain ⟨⟨b0, b1⟩, -⟩ := blkT2 HB3.out.1
 go_upto_region 4 with (fail)
 have HB4 : Hid (Blk (w3.alloc (.cells #[.int .i64 n, .slice L len cap] 26)) w3.heap.size 26 #[.int .i64 n, .slice L len cap] ∧ Blk (w3.alloc (.cells #[.int .i64 n, .slice L len cap] 26)) (w.heap.size + 1) 26 #[.int .i64 0, .slice none 0 0]) := ⟨Blk.new _ _ _, HB3.out.2.alloc _⟩
 have HO4 : Hid ((w3.alloc (.cells #[.int .i64 n, .slice L len cap] 26)).ownsRow w2.heap.size 52 4 (.slice L len cap) len (gcells hs)) := own_ext HO.out ((Ext.refl _).alloc _)
 have HX4 : Hid (Ext w (w3.alloc (.cells #[.int .i64 n, .slice L len cap] 26))) := HX3.out.alloc _
 clear HB3 HO HX3 b0 b1
 generalize w3.alloc (.cells #[.int .i64 n, .slice L len cap] 26) = w4 at *
 generalize w3.heap.size = p at *
 have HEND : Hid (∀ w', Ext w4 w' → (put2 w' (w.heap.size + 1) (.int .i64 n) (.slice L len cap)).ownsRow w.heap.size 52 4 (.slice L len cap) len (gcells hs)) := fun w' hx =>
  own_base (own_putC2 (own_ext HO4.out hx) (HB4.out.2.ext hx) circgate_ne _ _) (by have := HSZ.out; omega)
 have hno : ∀ w', Ext w4 w' → Hid (Blk (put2 w' (w.heap.size + 1) (.int .i64 0) (.slice none 0 0)) (w.heap.size + 1) 26 #[.int .i64 0, .slice none 0 0] ∧ Ext w (put2 w' (w.heap.size + 1) (.int .i64 0) (.slice none 0 0))) := fun w' hx => ⟨(HB4.out.2.ext hx).put2 _ _, ext_put2 (HX4.out.trans hx) (by omega) _ _⟩
 have HNO := Lib.hid hno
 clear hno
 cases b
 ·obtain ⟨⟨a0, a1⟩, y0, y1⟩ := blkT2 HB4.out.2
  go_wp2
  refine bodyPost_ret (v := .tuple #[.agg #[.int .i64 0, .slice none 0 0], .bool false]) ?_ rfl ?_
  rotate_left
  ·exact ⟨⟨0, none, 0, 0, [], false, rfl, ⟨by simp, .inl ⟨rfl, rfl⟩⟩, by omega⟩, (HNO.out _ (Ext.refl _)).out.2⟩
  ·exact ret_pair rfl _ _ _ _ _ _ _ rfl rfl (HNO.out _ (Ext.refl _)).out.1 Tryz.underlying26 rfl Tryz.sizeCircuitR
 cases bb
 ·obtain ⟨⟨a0, a1⟩, y0, y1⟩ := blkT2 HB4.out.2
  go_wp2
  refine bodyPost_ret (v := .tuple #[.agg #[.int .i64 0, .slice none 0 0], .bool false]) ?_ rfl ?_
  rotate_left
  ·exact ⟨⟨0, none, 0, 0, [], false, rfl, ⟨by simp, .inl ⟨rfl, rfl⟩⟩, by omega⟩, (HNO.out _ (Ext.refl _)).out.2⟩
  ·exact ret_pair rfl _ _ _ _ _ _ _ rfl rfl (HNO.out _ (Ext.refl _)).out.1 Tryz.underlying26 rfl Tryz.sizeCircuitR
 obtain ⟨⟨c0, c1⟩, -⟩ := blkT2 HB4.out.1
 go_wp2_with fail
 refine ((show ∃ ok, Calls Tryz.prog 21 #[.agg #[.int .i64 n, .slice L len cap]] w4 (fun e w' => e = .returned (.bool ok) ∧ Ext w4 w') by
  have hr := Rd.own HO4.out
  have e := hr.len Gt.cells_len (by omega)
  rw [← e] at hr ⊢
  exact ⟨_, spec_IsValidCircuit_any L cap n hs w4 hr (by omega)⟩)).elim fun ok hok => hok.mono ?_
 rintro e w5 ⟨rfl, hx5⟩
 have HX5 := Lib.hid hx5
 clear hx5 c0 c1
 obtain ⟨⟨c0, c1⟩, -⟩ := blkT2 (HB4.out.1.ext HX5.out)
 obtain ⟨⟨a0, a1⟩, y0, y1⟩ := blkT2 (HB4.out.2.ext HX5.out)
 cases ok
 ·go_wp2
  refine bodyPost_ret (v := .tuple #[.agg #[.int .i64 0, .slice none 0 0], .bool false]) ?_ rfl ?_
  rotate_left
  ·exact ⟨⟨0, none, 0, 0, [], false, rfl, ⟨by simp, .inl ⟨rfl, rfl⟩⟩, by omega⟩, (HNO.out _ HX5.out).out.2⟩
  ·exact ret_pair rfl _ _ _ _ _ _ _ rfl rfl (HNO.out _ HX5.out).out.1 Tryz.underlying26 rfl Tryz.sizeCircuitR
 ·have HB6 : Hid (Blk (put2 w5 (w.heap.size + 1) (.int .i64 n) (.slice L len cap)) (w.heap.size + 1) 26 #[.int .i64 n, .slice L len cap]) := (HB4.out.2.ext HX5.out).put2 _ _
  have HX6 : Hid (Ext w (put2 w5 (w.heap.size + 1) (.int .i64 n) (.slice L len cap))) := ext_put2 (HX4.out.trans HX5.out) (by omega) _ _
  have HO6 := Lib.hid (HEND.out _ HX5.out)
  go_wp2
  refine bodyPost_ret (v := .tuple #[.agg #[.int .i64 n, .slice L len cap], .bool true]) ?_ rfl ?_
  rotate_left
  ·exact ⟨⟨n, L, len, cap, hs, true, rfl, HO6.out, hlen⟩, HX6.out⟩
  ·exact ret_pair rfl _ _ _ _ _ _ _ rfl rfl HB6.out Tryz.underlying26 rfl Tryz.sizeCircuitR
end Go.Proofs.YtioimnplhmgbgaaGreat
namespace Go.Proofs.YtioimnplhmgbgaaGreat
open Go.ChangeShapes Go.WideShapes Go.ChangeAt Go.RowKit Go.Deep
theorem big_any (A : Option Addr) (n c : Nat) (w : World) (hn : n ≤ maxLen) :
  Calls Tryz.prog 4 #[.slice A n c] w fun e w' => e = .returned (.bool (decide (1048576 < n))) ∧ w = w' := by
 unfold maxLen at hn
 go_enter Tryz.func4, Tryz.ntmps4
 go_wp2
 go_ret
 exact ⟨ret_bool (by first | rfl | (rw [decide_eq_decide]; omega)), rfl⟩
end Go.Proofs.YtioimnplhmgbgaaGreat
