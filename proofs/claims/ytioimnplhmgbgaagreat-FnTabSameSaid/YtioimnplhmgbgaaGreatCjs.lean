/-
 Helper text (no claim of its own): conjugation of a Pauli by a Clifford gate, by the reference. Printed by gen_cj.py.
-/
import Derived.Test.YtioimnplhmgbgaaGreatCjp
import Derived.Test.YtioimnplhmgbgaaGreatIst
import Derived.Test.YtioimnplhmgbgaaGreatSvg
namespace Go.Proofs.YtioimnplhmgbgaaGreat
open Go.ChangeShapes Go.WideShapes Go.ChangeAt Go.RowKit Go.Deep
set_option linter.unusedSimpArgs false
set_option linter.unusedVariables false
set_option maxRecDepth 100000 in
set_option maxHeartbeats 16000000 in
theorem spec_ConjugatePauli_any (p : Pa) (g : Gt) (w : World) : Calls Tryz.prog 45 #[p.val, g.val] w fun e w' => CjRes p g e ∧ Ext w w' := by
 go_enter Tryz.func45, Tryz.ntmps45
 go_wp2_with fail
 refine (spec_IsValidPauli_any p _).mono ?_
 rintro e w1 ⟨rfl, hx1⟩
 have HR1 : Hid (Blk w1 (w.heap.size + 2) 66 #[.int .i64 0, .int .i64 0, .int .i64 0, .int .i64 0]) := (Blk.newAt (b := w.heap.size + 2) (by simp)).ext hx1
 have HP1 : Hid (Blk w1 w.heap.size 66 #[.int .i64 p.n, .int .i64 p.x, .int .i64 p.z, .int .i64 p.p]) := (((Blk.new w _ _).alloc _).alloc _).ext hx1
 have HG1 : Hid (Blk w1 (w.heap.size + 1) 52 #[.int .i64 g.k, .int .i64 g.a, .int .i64 g.b, .int .i64 g.c]) := ((Blk.newAt (b := w.heap.size + 1) (by simp)).alloc _).ext hx1
 have HX1 : Hid (Ext w w1) := Ext.trans (by exact xx) hx1
 have hl1 : w.heap.size + 3 ≤ w1.heap.size := by have := hx1.size; simpa using this
 clear hx1
 cases hv : vPa p
 ·have HN : Hid (cjOk p g = false) := by unfold Hid cjOk; rw [hv]; simp
  clear hv
  obtain ⟨⟨c0, c1, c2, c3⟩, z0, z1, z2, z3⟩ := cells4 HR1.out
  go_wp2
  have HBB : Hid (Blk (put4 _ (w.heap.size + 2) (.int .i64 0) (.int .i64 0) (.int .i64 0) (.int .i64 0)) (w.heap.size + 2) 66 #[.int .i64 0, .int .i64 0, .int .i64 0, .int .i64 0]) := HR1.out.put4 _ _ _ _
  refine bodyPost_ret (v := .tuple #[P0.val, .bool false]) ?_ rfl ?_
  rotate_left
  ·exact ⟨cjRes_no HN.out rfl, ext_put4 (g := w.heap.size + 2) HX1.out (by omega) _ _ _ _⟩
  ·exact ret_pair rfl _ _ _ _ _ _ _ rfl rfl HBB.out Tryz.underlying66 rfl Tryz.sizePauliR
 have HV := Lib.hid hv
 clear hv
 obtain ⟨⟨g0, g1, g2, g3⟩, -⟩ := cells4 HG1.out
 obtain ⟨⟨p0, p1, p2, p3⟩, -⟩ := cells4 HP1.out
 go_wp2_with fail
 refine (spec_IsValidGate_any g p.n _).mono ?_
 rintro e w2 ⟨rfl, hx2⟩
 have HR2 := Lib.hid (HR1.out.ext hx2)
 have HP2 := Lib.hid (HP1.out.ext hx2)
 have HG2 := Lib.hid (HG1.out.ext hx2)
 have HX2 := Lib.hid (HX1.out.trans hx2)
 have hl2 : w.heap.size + 3 ≤ w2.heap.size := by have := hx2.size; omega
 clear hx2 HR1 HP1 HG1 HX1 g0 g1 g2 g3 p0 p1 p2 p3 hl1
 cases hv : vg g p.n
 ·have HN : Hid (cjOk p g = false) := by unfold Hid cjOk; rw [hv]; simp
  clear hv
  obtain ⟨⟨c0, c1, c2, c3⟩, z0, z1, z2, z3⟩ := cells4 HR2.out
  go_wp2
  have HBB : Hid (Blk (put4 _ (w.heap.size + 2) (.int .i64 0) (.int .i64 0) (.int .i64 0) (.int .i64 0)) (w.heap.size + 2) 66 #[.int .i64 0, .int .i64 0, .int .i64 0, .int .i64 0]) := HR2.out.put4 _ _ _ _
  refine bodyPost_ret (v := .tuple #[P0.val, .bool false]) ?_ rfl ?_
  rotate_left
  ·exact ⟨cjRes_no HN.out rfl, ext_put4 (g := w.heap.size + 2) HX2.out (by omega) _ _ _ _⟩
  ·exact ret_pair rfl _ _ _ _ _ _ _ rfl rfl HBB.out Tryz.underlying66 rfl Tryz.sizePauliR
 have HVG := Lib.hid hv
 clear hv
 obtain ⟨⟨g0, g1, g2, g3⟩, -⟩ := cells4 HG2.out
 go_wp2_with fail
 refine (spec_IsClifford_any g _).mono ?_
 rintro e w3 ⟨rfl, hx3⟩
 have HR3 := Lib.hid (HR2.out.ext hx3)
 have HP3 := Lib.hid (HP2.out.ext hx3)
 have HG3 := Lib.hid (HG2.out.ext hx3)
 have HX3 := Lib.hid (HX2.out.trans hx3)
 have hl3 : w.heap.size + 3 ≤ w3.heap.size := by have := hx3.size; omega
 clear hx3 HR2 HP2 HG2 HX2 g0 g1 g2 g3 hl2
 cases hv : cliff g
 ·have HN : Hid (cjOk p g = false) := by unfold Hid cjOk; rw [hv]; simp
  clear hv
  obtain ⟨⟨c0, c1, c2, c3⟩, z0, z1, z2, z3⟩ := cells4 HR3.out
  go_wp2
  have HBB : Hid (Blk (put4 _ (w.heap.size + 2) (.int .i64 0) (.int .i64 0) (.int .i64 0) (.int .i64 0)) (w.heap.size + 2) 66 #[.int .i64 0, .int .i64 0, .int .i64 0, .int .i64 0]) := HR3.out.put4 _ _ _ _
  refine bodyPost_ret (v := .tuple #[P0.val, .bool false]) ?_ rfl ?_
  rotate_left
  ·exact ⟨cjRes_no HN.out rfl, ext_put4 (g := w.heap.size + 2) HX3.out (by omega) _ _ _ _⟩
  ·exact ret_pair rfl _ _ _ _ _ _ _ rfl rfl HBB.out Tryz.underlying66 rfl Tryz.sizePauliR
 have HC := Lib.hid hv
 have HOK : Hid (cjOk p g = true) := by unfold Hid cjOk; rw [HV.out, HVG.out, HC.out]; rfl
 clear hv
 have hnb := vPa_iff.1 HV.out
 obtain ⟨hn1, hn4⟩ := hnb.1
 clear hnb
 obtain ⟨⟨p0, p1, p2, p3⟩, -⟩ := cells4 HP3.out
 obtain ⟨q, hq⟩ : ∃ q, q = w3.heap.size := ⟨_, rfl⟩
 go_upto_region 4 with (fail)
 rw [← hq]
 have HW : Hid (CjW w (w3.alloc (.cells #[.int .i64 p.n, .int .i64 0, .int .i64 0, .int .i64 p.p] 66)) p g q ⟨p.n, 0, 0, p.p⟩) :=
  ⟨HP3.out.alloc _, HG3.out.alloc _, HR3.out.alloc _, Blk.newAt hq, HX3.out.alloc _, by rw [hq]; exact hl3⟩
 clear HP3 HG3 HR3 HX3 hl3 p0 p1 p2 p3
 generalize w3.alloc (.cells #[.int .i64 p.n, .int .i64 0, .int .i64 0, .int .i64 p.p] 66) = W0 at *
 clear hq
 go_wp2
 go_loopw [7] (fun iv wr => ∃ k : Nat, iv = .int .i64 k ∧ (k : Int) ≤ p.n ∧ Hid (CjW w wr p g q (cjN p g k))) (fun i _ => 4 - (intOf i).toNat)
 case atStart => exact ⟨0, rfl, by omega, HW⟩
 case round =>
  obtain ⟨k, rfl, hk, HO⟩ := hrel
  clear HW
  have hp0 : wr.cell? ⟨w.heap.size, 0, none⟩ = some (.int .i64 p.n) := HO.out.1.cell 0
  by_cases hlt : (k : Int) < p.n
  ·have hk0 : (0 : Int) ≤ (k : Int) := by omega
   have hk3 : (k : Int) ≤ 3 := by omega
   have HN := Lib.hid (cjN_step p g k)
   have HB := Lib.hid (vg_ab HVG.out)
   obtain ⟨r, hr⟩ : ∃ r, cjN p g k = r := ⟨_, rfl⟩
   rw [hr] at HO HN
   clear hr
   have hku : IntKind.u64.wrap (k : Int) = (k : Int) := IntWalk.u64_in _ (by omega)
   have hk1 : IntKind.i64.wrap ((k : Int) + 1) = ((k + 1 : Nat) : Int) := by rw [IntWalk.i64_in _ (by omega)]; rfl
   cases hbx : bitI p.x k
   ·have hwx : (bits .and .i64 (p.x / 2 ^ k) 1 == 1) = false := hbx
    have HEx : Hid (cjX p g k r = r) := cjX_no hbx
    clear hbx
    obtain ⟨⟨p0, p1, p2, p3⟩, -⟩ := cells4 HO.out.1
    go_upto_region 9 with (fail)
    clear p0 p1 p2 p3 hwx
    cases hbz : bitI p.z k
    ·have hwz : (bits .and .i64 (p.z / 2 ^ k) 1 == 1) = false := hbz
     have HEz : Hid (cjZ p g k r = r) := cjZ_no hbz
     clear hbz
     obtain ⟨⟨p0, p1, p2, p3⟩, -⟩ := cells4 HO.out.1
     go_wp2
     go_roundw
     case rel => exact ⟨k + 1, by first | rfl | rw [hk1], by omega, by rw [HN.out, HEx.out, HEz.out]; exact HO⟩
     case measure => simp [intOf]; omega
    ·have hwz : (bits .and .i64 (p.z / 2 ^ k) 1 == 1) = true := hbz
     obtain ⟨⟨p0, p1, p2, p3⟩, -⟩ := cells4 HO.out.1
     go_upto_region 10 with (fail)
     clear p0 p1 p2 p3 hwz
     obtain ⟨iz, hiz⟩ : ∃ i, img p.n g k true = i := ⟨_, rfl⟩
     have HIz : Hid (∀ w', Calls Tryz.prog 71 #[.int .i64 p.n, .agg #[.int .i64 g.k, .int .i64 g.a, .int .i64 g.b, .int .i64 g.c], .int .i64 (k : Int), .bool true] w' fun e w'' => e = .returned (.agg #[.int .i64 iz.n, .int .i64 iz.x, .int .i64 iz.z, .int .i64 iz.p]) ∧ Ext w' w'') := fun w' => by rw [← hiz]; exact spec_l25Image_any g p.n k true w' hk0 hk3 HB.out.1.1 HB.out.1.2 HB.out.2.1.1 HB.out.2.1.2 HC.out HB.out.2.2
     obtain ⟨mz, hmz⟩ : ∃ m, mulR r iz = m := ⟨_, rfl⟩
     have HMz : Hid (∀ w', Calls Tryz.prog 70 #[.agg #[.int .i64 r.n, .int .i64 r.x, .int .i64 r.z, .int .i64 r.p], .agg #[.int .i64 iz.n, .int .i64 iz.x, .int .i64 iz.z, .int .i64 iz.p]] w' fun e w'' => (∃ b, e = .returned (.tuple #[.agg #[.int .i64 mz.n, .int .i64 mz.x, .int .i64 mz.z, .int .i64 mz.p], .bool b])) ∧ Ext w' w'') := fun w' => by
      refine (spec_MulPauli_any r iz w').mono ?_
      rintro e w'' ⟨he, hx⟩
      exact ⟨⟨vPa r && vPa iz && r.n == iz.n, by rw [← hmz]; exact he⟩, hx⟩
     have HEz : Hid (cjZ p g k r = mz) := by unfold Hid; rw [cjZ_yes hbz, ← hmz, ← hiz]; rfl
     clear hiz hmz hbz
     have Dz0 := Lib.hid (HO.out.ext (Ext.refl _).drew)
     refine wp_region_held_drew (S := fun W' => W'.cell? ⟨w.heap.size, 0, none⟩ = some (.int .i64 p.n) ∧ (W'.cell? ⟨w.heap.size + 1, 0, none⟩ = some (.int .i64 g.k) ∧ W'.cell? ⟨w.heap.size + 1, 1, none⟩ = some (.int .i64 g.a) ∧ W'.cell? ⟨w.heap.size + 1, 2, none⟩ = some (.int .i64 g.b) ∧ W'.cell? ⟨w.heap.size + 1, 3, none⟩ = some (.int .i64 g.c))) (by kernel_rfl) ⟨(HO.out.ext (Ext.refl _).drew).1.cell 0, (HO.out.ext (Ext.refl _).drew).2.1.cell 0, (HO.out.ext (Ext.refl _).drew).2.1.cell 1, (HO.out.ext (Ext.refl _).drew).2.1.cell 2, (HO.out.ext (Ext.refl _).drew).2.1.cell 3⟩ (fun hHeld => ?_)
     (refine tk 1 (v := ?_) ?_ ?_; rotate_left; · (intro w hSw; (try dsimp only at hSw); go_simp; all_goals with_reducible rfl))
     (try simp only [Act.put, L1, L2, L3, L4, L5, L6])
     (refine tk 2 (v := ?_) ?_ ?_; rotate_left; · (intro w hSw; (try dsimp only at hSw); go_simp; all_goals with_reducible rfl))
     (try simp only [Act.put, L1, L2, L3, L4, L5, L6])
     (refine tk 3 (v := ?_) ?_ ?_; rotate_left; · (intro w hSw; (try dsimp only at hSw); go_simp; all_goals with_reducible rfl))
     (try simp only [Act.put, L1, L2, L3, L4, L5, L6])
     (refine tk 4 (v := ?_) ?_ ?_; rotate_left; · (intro w hSw; (try dsimp only at hSw); go_simp; all_goals with_reducible rfl))
     (try simp only [Act.put, L1, L2, L3, L4, L5, L6])
     refine wpAnyH_ready (rs := [0, 5]) (by kernel_rfl) (by simp) ?_
     refine AllReadyH.cons rfl (fun K hK => ?_) (AllReadyH.cons rfl (fun K hK => ?_) AllReadyH.nil)
     ·obtain ⟨⟨q0, q1, q2, q3⟩, -⟩ := cells4 Dz0.out.2.2.2.1
      go_simp
      refine hK.out _ _ ⟨(Dz0.out).1.cell 0, (Dz0.out).2.1.cell 0, (Dz0.out).2.1.cell 1, (Dz0.out).2.1.cell 2, (Dz0.out).2.1.cell 3⟩ (fun hHeld => ?_)
      clear hK K
      (try simp only [Act.put, L1, L2, L3, L4, L5, L6])
      clear q0 q1 q2 q3
      refine wpAnyH_ready (rs := [5]) (by kernel_rfl) (by simp) ?_
      refine AllReadyH.cons rfl (fun K hK => ?_) AllReadyH.nil
      go_simp
      refine (HIz.out _).mono ?_
      rintro e vz ⟨rfl, hy⟩
      have Dz1 := Lib.hid (Dz0.out.ext hy)
      clear hy
      refine hK.out _ _ ⟨(Dz1.out).1.cell 0, (Dz1.out).2.1.cell 0, (Dz1.out).2.1.cell 1, (Dz1.out).2.1.cell 2, (Dz1.out).2.1.cell 3⟩ (fun hHeld => ?_)
      clear hK K
      (try simp only [Act.put, L1, L2, L3, L4, L5, L6])
      refine wpAnyH_ready (rs := [6]) (by kernel_rfl) (by simp) ?_
      refine AllReadyH.cons rfl (fun K hK => ?_) AllReadyH.nil
      go_simp
      refine (HMz.out _).mono ?_
      rintro e uz ⟨⟨bm, rfl⟩, hy⟩
      have Dz2 := Lib.hid (Dz1.out.ext hy)
      clear hy
      refine hK.out _ _ ⟨(Dz2.out).1.cell 0, (Dz2.out).2.1.cell 0, (Dz2.out).2.1.cell 1, (Dz2.out).2.1.cell 2, (Dz2.out).2.1.cell 3⟩ (fun hHeld => ?_)
      clear hK K
      (try simp only [Act.put, L1, L2, L3, L4, L5, L6])
      (refine tk 7 (v := ?_) ?_ ?_; rotate_left; · (intro w hSw; (try dsimp only at hSw); go_simp; all_goals with_reducible rfl))
      (try simp only [Act.put, L1, L2, L3, L4, L5, L6])
      (refine tk 8 (v := ?_) ?_ ?_; rotate_left; · (intro w hSw; (try dsimp only at hSw); go_simp; all_goals with_reducible rfl))
      (try simp only [Act.put, L1, L2, L3, L4, L5, L6])
      (refine tk 9 (v := ?_) ?_ ?_; rotate_left; · (intro w hSw; (try dsimp only at hSw); go_simp; all_goals with_reducible rfl))
      (try simp only [Act.put, L1, L2, L3, L4, L5, L6])
      refine wpAnyH_ready (rs := [10]) (by kernel_rfl) (by simp) ?_
      refine AllReadyH.cons rfl (fun K hK => ?_) AllReadyH.nil
      obtain ⟨⟨q0, q1, q2, q3⟩, f0, f1, f2, f3⟩ := cells4 Dz2.out.2.2.2.1
      go_simp
      have E0 := Lib.hid (Dz2.out.put mz)
      clear q0 q1 q2 q3 f0 f1 f2 f3
      refine hK.out _ _ ⟨(E0.out).1.cell 0, (E0.out).2.1.cell 0, (E0.out).2.1.cell 1, (E0.out).2.1.cell 2, (E0.out).2.1.cell 3⟩ (fun hHeld => ?_)
      clear hK K
      (try simp only [Act.put, L1, L2, L3, L4, L5, L6])
      (refine wpAnyH_done (by kernel_rfl) ?_ _)
      generalize ((((uz.setCell ⟨q, 0, none⟩ (.int .i64 mz.n)).setCell ⟨q, 1, none⟩ (.int .i64 mz.x)).setCell ⟨q, 2, none⟩ (.int .i64 mz.z)).setCell ⟨q, 3, none⟩ (.int .i64 mz.p)) = Wz at *
      clear Dz0 Dz1 Dz2 HIz HMz
      go_wp2
      go_roundw
      case rel => exact ⟨k + 1, by first | rfl | rw [hk1], by omega, by rw [HN.out, HEx.out, HEz.out]; exact E0⟩
      case measure => simp [intOf]; omega
     ·go_simp
      refine (HIz.out _).mono ?_
      rintro e vz ⟨rfl, hy⟩
      have Dz1 := Lib.hid (Dz0.out.ext hy)
      clear hy
      refine hK.out _ _ ⟨(Dz1.out).1.cell 0, (Dz1.out).2.1.cell 0, (Dz1.out).2.1.cell 1, (Dz1.out).2.1.cell 2, (Dz1.out).2.1.cell 3⟩ (fun hHeld => ?_)
      clear hK K
      (try simp only [Act.put, L1, L2, L3, L4, L5, L6])
      refine wpAnyH_ready (rs := [0]) (by kernel_rfl) (by simp) ?_
      refine AllReadyH.cons rfl (fun K hK => ?_) AllReadyH.nil
      obtain ⟨⟨q0, q1, q2, q3⟩, -⟩ := cells4 Dz1.out.2.2.2.1
      go_simp
      refine hK.out _ _ ⟨(Dz1.out).1.cell 0, (Dz1.out).2.1.cell 0, (Dz1.out).2.1.cell 1, (Dz1.out).2.1.cell 2, (Dz1.out).2.1.cell 3⟩ (fun hHeld => ?_)
      clear hK K
      (try simp only [Act.put, L1, L2, L3, L4, L5, L6])
      clear q0 q1 q2 q3
      refine wpAnyH_ready (rs := [6]) (by kernel_rfl) (by simp) ?_
      refine AllReadyH.cons rfl (fun K hK => ?_) AllReadyH.nil
      go_simp
      refine (HMz.out _).mono ?_
      rintro e uz ⟨⟨bm, rfl⟩, hy⟩
      have Dz2 := Lib.hid (Dz1.out.ext hy)
      clear hy
      refine hK.out _ _ ⟨(Dz2.out).1.cell 0, (Dz2.out).2.1.cell 0, (Dz2.out).2.1.cell 1, (Dz2.out).2.1.cell 2, (Dz2.out).2.1.cell 3⟩ (fun hHeld => ?_)
      clear hK K
      (try simp only [Act.put, L1, L2, L3, L4, L5, L6])
      (refine tk 7 (v := ?_) ?_ ?_; rotate_left; · (intro w hSw; (try dsimp only at hSw); go_simp; all_goals with_reducible rfl))
      (try simp only [Act.put, L1, L2, L3, L4, L5, L6])
      (refine tk 8 (v := ?_) ?_ ?_; rotate_left; · (intro w hSw; (try dsimp only at hSw); go_simp; all_goals with_reducible rfl))
      (try simp only [Act.put, L1, L2, L3, L4, L5, L6])
      (refine tk 9 (v := ?_) ?_ ?_; rotate_left; · (intro w hSw; (try dsimp only at hSw); go_simp; all_goals with_reducible rfl))
      (try simp only [Act.put, L1, L2, L3, L4, L5, L6])
      refine wpAnyH_ready (rs := [10]) (by kernel_rfl) (by simp) ?_
      refine AllReadyH.cons rfl (fun K hK => ?_) AllReadyH.nil
      obtain ⟨⟨q0, q1, q2, q3⟩, f0, f1, f2, f3⟩ := cells4 Dz2.out.2.2.2.1
      go_simp
      have E0 := Lib.hid (Dz2.out.put mz)
      clear q0 q1 q2 q3 f0 f1 f2 f3
      refine hK.out _ _ ⟨(E0.out).1.cell 0, (E0.out).2.1.cell 0, (E0.out).2.1.cell 1, (E0.out).2.1.cell 2, (E0.out).2.1.cell 3⟩ (fun hHeld => ?_)
      clear hK K
      (try simp only [Act.put, L1, L2, L3, L4, L5, L6])
      (refine wpAnyH_done (by kernel_rfl) ?_ _)
      generalize ((((uz.setCell ⟨q, 0, none⟩ (.int .i64 mz.n)).setCell ⟨q, 1, none⟩ (.int .i64 mz.x)).setCell ⟨q, 2, none⟩ (.int .i64 mz.z)).setCell ⟨q, 3, none⟩ (.int .i64 mz.p)) = Wz at *
      clear Dz0 Dz1 Dz2 HIz HMz
      go_wp2
      go_roundw
      case rel => exact ⟨k + 1, by first | rfl | rw [hk1], by omega, by rw [HN.out, HEx.out, HEz.out]; exact E0⟩
      case measure => simp [intOf]; omega
   ·have hwx : (bits .and .i64 (p.x / 2 ^ k) 1 == 1) = true := hbx
    obtain ⟨⟨p0, p1, p2, p3⟩, -⟩ := cells4 HO.out.1
    go_upto_region 8 with (fail)
    clear p0 p1 p2 p3 hwx
    obtain ⟨ix, hix⟩ : ∃ i, img p.n g k false = i := ⟨_, rfl⟩
    have HIx : Hid (∀ w', Calls Tryz.prog 71 #[.int .i64 p.n, .agg #[.int .i64 g.k, .int .i64 g.a, .int .i64 g.b, .int .i64 g.c], .int .i64 (k : Int), .bool false] w' fun e w'' => e = .returned (.agg #[.int .i64 ix.n, .int .i64 ix.x, .int .i64 ix.z, .int .i64 ix.p]) ∧ Ext w' w'') := fun w' => by rw [← hix]; exact spec_l25Image_any g p.n k false w' hk0 hk3 HB.out.1.1 HB.out.1.2 HB.out.2.1.1 HB.out.2.1.2 HC.out HB.out.2.2
    obtain ⟨mx, hmx⟩ : ∃ m, mulR r ix = m := ⟨_, rfl⟩
    have HMx : Hid (∀ w', Calls Tryz.prog 70 #[.agg #[.int .i64 r.n, .int .i64 r.x, .int .i64 r.z, .int .i64 r.p], .agg #[.int .i64 ix.n, .int .i64 ix.x, .int .i64 ix.z, .int .i64 ix.p]] w' fun e w'' => (∃ b, e = .returned (.tuple #[.agg #[.int .i64 mx.n, .int .i64 mx.x, .int .i64 mx.z, .int .i64 mx.p], .bool b])) ∧ Ext w' w'') := fun w' => by
     refine (spec_MulPauli_any r ix w').mono ?_
     rintro e w'' ⟨he, hx⟩
     exact ⟨⟨vPa r && vPa ix && r.n == ix.n, by rw [← hmx]; exact he⟩, hx⟩
    have HEx : Hid (cjX p g k r = mx) := by unfold Hid; rw [cjX_yes hbx, ← hmx, ← hix]; rfl
    clear hix hmx hbx
    have Dx0 := Lib.hid (HO.out.ext (Ext.refl _).drew)
    refine wp_region_held_drew (S := fun W' => W'.cell? ⟨w.heap.size, 0, none⟩ = some (.int .i64 p.n) ∧ (W'.cell? ⟨w.heap.size + 1, 0, none⟩ = some (.int .i64 g.k) ∧ W'.cell? ⟨w.heap.size + 1, 1, none⟩ = some (.int .i64 g.a) ∧ W'.cell? ⟨w.heap.size + 1, 2, none⟩ = some (.int .i64 g.b) ∧ W'.cell? ⟨w.heap.size + 1, 3, none⟩ = some (.int .i64 g.c))) (by kernel_rfl) ⟨(HO.out.ext (Ext.refl _).drew).1.cell 0, (HO.out.ext (Ext.refl _).drew).2.1.cell 0, (HO.out.ext (Ext.refl _).drew).2.1.cell 1, (HO.out.ext (Ext.refl _).drew).2.1.cell 2, (HO.out.ext (Ext.refl _).drew).2.1.cell 3⟩ (fun hHeld => ?_)
    (refine tk 1 (v := ?_) ?_ ?_; rotate_left; · (intro w hSw; (try dsimp only at hSw); go_simp; all_goals with_reducible rfl))
    (try simp only [Act.put, L1, L2, L3, L4, L5, L6])
    (refine tk 2 (v := ?_) ?_ ?_; rotate_left; · (intro w hSw; (try dsimp only at hSw); go_simp; all_goals with_reducible rfl))
    (try simp only [Act.put, L1, L2, L3, L4, L5, L6])
    (refine tk 3 (v := ?_) ?_ ?_; rotate_left; · (intro w hSw; (try dsimp only at hSw); go_simp; all_goals with_reducible rfl))
    (try simp only [Act.put, L1, L2, L3, L4, L5, L6])
    (refine tk 4 (v := ?_) ?_ ?_; rotate_left; · (intro w hSw; (try dsimp only at hSw); go_simp; all_goals with_reducible rfl))
    (try simp only [Act.put, L1, L2, L3, L4, L5, L6])
    refine wpAnyH_ready (rs := [0, 5]) (by kernel_rfl) (by simp) ?_
    refine AllReadyH.cons rfl (fun K hK => ?ax) (AllReadyH.cons rfl (fun K hK => ?bx) AllReadyH.nil)
    case' ax =>
     obtain ⟨⟨q0, q1, q2, q3⟩, -⟩ := cells4 Dx0.out.2.2.2.1
     go_simp
     refine hK.out _ _ ⟨(Dx0.out).1.cell 0, (Dx0.out).2.1.cell 0, (Dx0.out).2.1.cell 1, (Dx0.out).2.1.cell 2, (Dx0.out).2.1.cell 3⟩ (fun hHeld => ?_)
     clear hK K
     (try simp only [Act.put, L1, L2, L3, L4, L5, L6])
     clear q0 q1 q2 q3
     refine wpAnyH_ready (rs := [5]) (by kernel_rfl) (by simp) ?_
     refine AllReadyH.cons rfl (fun K hK => ?_) AllReadyH.nil
     go_simp
     refine (HIx.out _).mono ?_
     rintro e vx ⟨rfl, hy⟩
     have Dx1 := Lib.hid (Dx0.out.ext hy)
     clear hy
     refine hK.out _ _ ⟨(Dx1.out).1.cell 0, (Dx1.out).2.1.cell 0, (Dx1.out).2.1.cell 1, (Dx1.out).2.1.cell 2, (Dx1.out).2.1.cell 3⟩ (fun hHeld => ?_)
     clear hK K
     (try simp only [Act.put, L1, L2, L3, L4, L5, L6])
    case' bx =>
     go_simp
     refine (HIx.out _).mono ?_
     rintro e vx ⟨rfl, hy⟩
     have Dx1 := Lib.hid (Dx0.out.ext hy)
     clear hy
     refine hK.out _ _ ⟨(Dx1.out).1.cell 0, (Dx1.out).2.1.cell 0, (Dx1.out).2.1.cell 1, (Dx1.out).2.1.cell 2, (Dx1.out).2.1.cell 3⟩ (fun hHeld => ?_)
     clear hK K
     (try simp only [Act.put, L1, L2, L3, L4, L5, L6])
     refine wpAnyH_ready (rs := [0]) (by kernel_rfl) (by simp) ?_
     refine AllReadyH.cons rfl (fun K hK => ?_) AllReadyH.nil
     obtain ⟨⟨q0, q1, q2, q3⟩, -⟩ := cells4 Dx1.out.2.2.2.1
     go_simp
     refine hK.out _ _ ⟨(Dx1.out).1.cell 0, (Dx1.out).2.1.cell 0, (Dx1.out).2.1.cell 1, (Dx1.out).2.1.cell 2, (Dx1.out).2.1.cell 3⟩ (fun hHeld => ?_)
     clear hK K
     (try simp only [Act.put, L1, L2, L3, L4, L5, L6])
     clear q0 q1 q2 q3
    all_goals
     refine wpAnyH_ready (rs := [6]) (by kernel_rfl) (by simp) ?_
     refine AllReadyH.cons rfl (fun K hK => ?_) AllReadyH.nil
     go_simp
     refine (HMx.out _).mono ?_
     rintro e ux ⟨⟨bm, rfl⟩, hy⟩
     have Dx2 := Lib.hid (Dx1.out.ext hy)
     clear hy
     refine hK.out _ _ ⟨(Dx2.out).1.cell 0, (Dx2.out).2.1.cell 0, (Dx2.out).2.1.cell 1, (Dx2.out).2.1.cell 2, (Dx2.out).2.1.cell 3⟩ (fun hHeld => ?_)
     clear hK K
     (try simp only [Act.put, L1, L2, L3, L4, L5, L6])
     (refine tk 7 (v := ?_) ?_ ?_; rotate_left; · (intro w hSw; (try dsimp only at hSw); go_simp; all_goals with_reducible rfl))
     (try simp only [Act.put, L1, L2, L3, L4, L5, L6])
     (refine tk 8 (v := ?_) ?_ ?_; rotate_left; · (intro w hSw; (try dsimp only at hSw); go_simp; all_goals with_reducible rfl))
     (try simp only [Act.put, L1, L2, L3, L4, L5, L6])
     (refine tk 9 (v := ?_) ?_ ?_; rotate_left; · (intro w hSw; (try dsimp only at hSw); go_simp; all_goals with_reducible rfl))
     (try simp only [Act.put, L1, L2, L3, L4, L5, L6])
     refine wpAnyH_ready (rs := [10]) (by kernel_rfl) (by simp) ?_
     refine AllReadyH.cons rfl (fun K hK => ?_) AllReadyH.nil
     obtain ⟨⟨q0, q1, q2, q3⟩, f0, f1, f2, f3⟩ := cells4 Dx2.out.2.2.2.1
     go_simp
     have EX := Lib.hid (Dx2.out.put mx)
     clear q0 q1 q2 q3 f0 f1 f2 f3
     refine hK.out _ _ ⟨(EX.out).1.cell 0, (EX.out).2.1.cell 0, (EX.out).2.1.cell 1, (EX.out).2.1.cell 2, (EX.out).2.1.cell 3⟩ (fun hHeld => ?_)
     clear hK K
     (try simp only [Act.put, L1, L2, L3, L4, L5, L6])
     (refine wpAnyH_done (by kernel_rfl) ?_ _)
     generalize ((((ux.setCell ⟨q, 0, none⟩ (.int .i64 mx.n)).setCell ⟨q, 1, none⟩ (.int .i64 mx.x)).setCell ⟨q, 2, none⟩ (.int .i64 mx.z)).setCell ⟨q, 3, none⟩ (.int .i64 mx.p)) = Wx at *
     clear Dx0 Dx1 Dx2 HIx HMx
     go_upto_region 9 with (fail)
     cases hbz : bitI p.z k
     ·have hwz : (bits .and .i64 (p.z / 2 ^ k) 1 == 1) = false := hbz
      have HEz : Hid (cjZ p g k mx = mx) := cjZ_no hbz
      clear hbz
      obtain ⟨⟨p0, p1, p2, p3⟩, -⟩ := cells4 EX.out.1
      go_wp2
      go_roundw
      case rel => exact ⟨k + 1, by first | rfl | rw [hk1], by omega, by rw [HN.out, HEx.out, HEz.out]; exact EX⟩
      case measure => simp [intOf]; omega
     ·have hwz : (bits .and .i64 (p.z / 2 ^ k) 1 == 1) = true := hbz
      obtain ⟨⟨p0, p1, p2, p3⟩, -⟩ := cells4 EX.out.1
      go_upto_region 10 with (fail)
      clear p0 p1 p2 p3 hwz
      obtain ⟨iz, hiz⟩ : ∃ i, img p.n g k true = i := ⟨_, rfl⟩
      have HIz : Hid (∀ w', Calls Tryz.prog 71 #[.int .i64 p.n, .agg #[.int .i64 g.k, .int .i64 g.a, .int .i64 g.b, .int .i64 g.c], .int .i64 (k : Int), .bool true] w' fun e w'' => e = .returned (.agg #[.int .i64 iz.n, .int .i64 iz.x, .int .i64 iz.z, .int .i64 iz.p]) ∧ Ext w' w'') := fun w' => by rw [← hiz]; exact spec_l25Image_any g p.n k true w' hk0 hk3 HB.out.1.1 HB.out.1.2 HB.out.2.1.1 HB.out.2.1.2 HC.out HB.out.2.2
      obtain ⟨mz, hmz⟩ : ∃ m, mulR mx iz = m := ⟨_, rfl⟩
      have HMz : Hid (∀ w', Calls Tryz.prog 70 #[.agg #[.int .i64 mx.n, .int .i64 mx.x, .int .i64 mx.z, .int .i64 mx.p], .agg #[.int .i64 iz.n, .int .i64 iz.x, .int .i64 iz.z, .int .i64 iz.p]] w' fun e w'' => (∃ b, e = .returned (.tuple #[.agg #[.int .i64 mz.n, .int .i64 mz.x, .int .i64 mz.z, .int .i64 mz.p], .bool b])) ∧ Ext w' w'') := fun w' => by
       refine (spec_MulPauli_any mx iz w').mono ?_
       rintro e w'' ⟨he, hx⟩
       exact ⟨⟨vPa mx && vPa iz && mx.n == iz.n, by rw [← hmz]; exact he⟩, hx⟩
      have HEz : Hid (cjZ p g k mx = mz) := by unfold Hid; rw [cjZ_yes hbz, ← hmz, ← hiz]; rfl
      clear hiz hmz hbz
      have Dz0 := Lib.hid (EX.out.ext (Ext.refl _).drew)
      refine wp_region_held_drew (S := fun W' => W'.cell? ⟨w.heap.size, 0, none⟩ = some (.int .i64 p.n) ∧ (W'.cell? ⟨w.heap.size + 1, 0, none⟩ = some (.int .i64 g.k) ∧ W'.cell? ⟨w.heap.size + 1, 1, none⟩ = some (.int .i64 g.a) ∧ W'.cell? ⟨w.heap.size + 1, 2, none⟩ = some (.int .i64 g.b) ∧ W'.cell? ⟨w.heap.size + 1, 3, none⟩ = some (.int .i64 g.c))) (by kernel_rfl) ⟨(EX.out.ext (Ext.refl _).drew).1.cell 0, (EX.out.ext (Ext.refl _).drew).2.1.cell 0, (EX.out.ext (Ext.refl _).drew).2.1.cell 1, (EX.out.ext (Ext.refl _).drew).2.1.cell 2, (EX.out.ext (Ext.refl _).drew).2.1.cell 3⟩ (fun hHeld => ?_)
      (refine tk 1 (v := ?_) ?_ ?_; rotate_left; · (intro w hSw; (try dsimp only at hSw); go_simp; all_goals with_reducible rfl))
      (try simp only [Act.put, L1, L2, L3, L4, L5, L6])
      (refine tk 2 (v := ?_) ?_ ?_; rotate_left; · (intro w hSw; (try dsimp only at hSw); go_simp; all_goals with_reducible rfl))
      (try simp only [Act.put, L1, L2, L3, L4, L5, L6])
      (refine tk 3 (v := ?_) ?_ ?_; rotate_left; · (intro w hSw; (try dsimp only at hSw); go_simp; all_goals with_reducible rfl))
      (try simp only [Act.put, L1, L2, L3, L4, L5, L6])
      (refine tk 4 (v := ?_) ?_ ?_; rotate_left; · (intro w hSw; (try dsimp only at hSw); go_simp; all_goals with_reducible rfl))
      (try simp only [Act.put, L1, L2, L3, L4, L5, L6])
      refine wpAnyH_ready (rs := [0, 5]) (by kernel_rfl) (by simp) ?_
      refine AllReadyH.cons rfl (fun K hK => ?_) (AllReadyH.cons rfl (fun K hK => ?_) AllReadyH.nil)
      ·obtain ⟨⟨q0, q1, q2, q3⟩, -⟩ := cells4 Dz0.out.2.2.2.1
       go_simp
       refine hK.out _ _ ⟨(Dz0.out).1.cell 0, (Dz0.out).2.1.cell 0, (Dz0.out).2.1.cell 1, (Dz0.out).2.1.cell 2, (Dz0.out).2.1.cell 3⟩ (fun hHeld => ?_)
       clear hK K
       (try simp only [Act.put, L1, L2, L3, L4, L5, L6])
       clear q0 q1 q2 q3
       refine wpAnyH_ready (rs := [5]) (by kernel_rfl) (by simp) ?_
       refine AllReadyH.cons rfl (fun K hK => ?_) AllReadyH.nil
       go_simp
       refine (HIz.out _).mono ?_
       rintro e vz ⟨rfl, hy⟩
       have Dz1 := Lib.hid (Dz0.out.ext hy)
       clear hy
       refine hK.out _ _ ⟨(Dz1.out).1.cell 0, (Dz1.out).2.1.cell 0, (Dz1.out).2.1.cell 1, (Dz1.out).2.1.cell 2, (Dz1.out).2.1.cell 3⟩ (fun hHeld => ?_)
       clear hK K
       (try simp only [Act.put, L1, L2, L3, L4, L5, L6])
       refine wpAnyH_ready (rs := [6]) (by kernel_rfl) (by simp) ?_
       refine AllReadyH.cons rfl (fun K hK => ?_) AllReadyH.nil
       go_simp
       refine (HMz.out _).mono ?_
       rintro e uz ⟨⟨bm, rfl⟩, hy⟩
       have Dz2 := Lib.hid (Dz1.out.ext hy)
       clear hy
       refine hK.out _ _ ⟨(Dz2.out).1.cell 0, (Dz2.out).2.1.cell 0, (Dz2.out).2.1.cell 1, (Dz2.out).2.1.cell 2, (Dz2.out).2.1.cell 3⟩ (fun hHeld => ?_)
       clear hK K
       (try simp only [Act.put, L1, L2, L3, L4, L5, L6])
       (refine tk 7 (v := ?_) ?_ ?_; rotate_left; · (intro w hSw; (try dsimp only at hSw); go_simp; all_goals with_reducible rfl))
       (try simp only [Act.put, L1, L2, L3, L4, L5, L6])
       (refine tk 8 (v := ?_) ?_ ?_; rotate_left; · (intro w hSw; (try dsimp only at hSw); go_simp; all_goals with_reducible rfl))
       (try simp only [Act.put, L1, L2, L3, L4, L5, L6])
       (refine tk 9 (v := ?_) ?_ ?_; rotate_left; · (intro w hSw; (try dsimp only at hSw); go_simp; all_goals with_reducible rfl))
       (try simp only [Act.put, L1, L2, L3, L4, L5, L6])
       refine wpAnyH_ready (rs := [10]) (by kernel_rfl) (by simp) ?_
       refine AllReadyH.cons rfl (fun K hK => ?_) AllReadyH.nil
       obtain ⟨⟨q0, q1, q2, q3⟩, f0, f1, f2, f3⟩ := cells4 Dz2.out.2.2.2.1
       go_simp
       have E1 := Lib.hid (Dz2.out.put mz)
       clear q0 q1 q2 q3 f0 f1 f2 f3
       refine hK.out _ _ ⟨(E1.out).1.cell 0, (E1.out).2.1.cell 0, (E1.out).2.1.cell 1, (E1.out).2.1.cell 2, (E1.out).2.1.cell 3⟩ (fun hHeld => ?_)
       clear hK K
       (try simp only [Act.put, L1, L2, L3, L4, L5, L6])
       (refine wpAnyH_done (by kernel_rfl) ?_ _)
       generalize ((((uz.setCell ⟨q, 0, none⟩ (.int .i64 mz.n)).setCell ⟨q, 1, none⟩ (.int .i64 mz.x)).setCell ⟨q, 2, none⟩ (.int .i64 mz.z)).setCell ⟨q, 3, none⟩ (.int .i64 mz.p)) = Wz at *
       clear Dz0 Dz1 Dz2 HIz HMz
       go_wp2
       go_roundw
       case rel => exact ⟨k + 1, by first | rfl | rw [hk1], by omega, by rw [HN.out, HEx.out, HEz.out]; exact E1⟩
       case measure => simp [intOf]; omega
      ·go_simp
       refine (HIz.out _).mono ?_
       rintro e vz ⟨rfl, hy⟩
       have Dz1 := Lib.hid (Dz0.out.ext hy)
       clear hy
       refine hK.out _ _ ⟨(Dz1.out).1.cell 0, (Dz1.out).2.1.cell 0, (Dz1.out).2.1.cell 1, (Dz1.out).2.1.cell 2, (Dz1.out).2.1.cell 3⟩ (fun hHeld => ?_)
       clear hK K
       (try simp only [Act.put, L1, L2, L3, L4, L5, L6])
       refine wpAnyH_ready (rs := [0]) (by kernel_rfl) (by simp) ?_
       refine AllReadyH.cons rfl (fun K hK => ?_) AllReadyH.nil
       obtain ⟨⟨q0, q1, q2, q3⟩, -⟩ := cells4 Dz1.out.2.2.2.1
       go_simp
       refine hK.out _ _ ⟨(Dz1.out).1.cell 0, (Dz1.out).2.1.cell 0, (Dz1.out).2.1.cell 1, (Dz1.out).2.1.cell 2, (Dz1.out).2.1.cell 3⟩ (fun hHeld => ?_)
       clear hK K
       (try simp only [Act.put, L1, L2, L3, L4, L5, L6])
       clear q0 q1 q2 q3
       refine wpAnyH_ready (rs := [6]) (by kernel_rfl) (by simp) ?_
       refine AllReadyH.cons rfl (fun K hK => ?_) AllReadyH.nil
       go_simp
       refine (HMz.out _).mono ?_
       rintro e uz ⟨⟨bm, rfl⟩, hy⟩
       have Dz2 := Lib.hid (Dz1.out.ext hy)
       clear hy
       refine hK.out _ _ ⟨(Dz2.out).1.cell 0, (Dz2.out).2.1.cell 0, (Dz2.out).2.1.cell 1, (Dz2.out).2.1.cell 2, (Dz2.out).2.1.cell 3⟩ (fun hHeld => ?_)
       clear hK K
       (try simp only [Act.put, L1, L2, L3, L4, L5, L6])
       (refine tk 7 (v := ?_) ?_ ?_; rotate_left; · (intro w hSw; (try dsimp only at hSw); go_simp; all_goals with_reducible rfl))
       (try simp only [Act.put, L1, L2, L3, L4, L5, L6])
       (refine tk 8 (v := ?_) ?_ ?_; rotate_left; · (intro w hSw; (try dsimp only at hSw); go_simp; all_goals with_reducible rfl))
       (try simp only [Act.put, L1, L2, L3, L4, L5, L6])
       (refine tk 9 (v := ?_) ?_ ?_; rotate_left; · (intro w hSw; (try dsimp only at hSw); go_simp; all_goals with_reducible rfl))
       (try simp only [Act.put, L1, L2, L3, L4, L5, L6])
       refine wpAnyH_ready (rs := [10]) (by kernel_rfl) (by simp) ?_
       refine AllReadyH.cons rfl (fun K hK => ?_) AllReadyH.nil
       obtain ⟨⟨q0, q1, q2, q3⟩, f0, f1, f2, f3⟩ := cells4 Dz2.out.2.2.2.1
       go_simp
       have E1 := Lib.hid (Dz2.out.put mz)
       clear q0 q1 q2 q3 f0 f1 f2 f3
       refine hK.out _ _ ⟨(E1.out).1.cell 0, (E1.out).2.1.cell 0, (E1.out).2.1.cell 1, (E1.out).2.1.cell 2, (E1.out).2.1.cell 3⟩ (fun hHeld => ?_)
       clear hK K
       (try simp only [Act.put, L1, L2, L3, L4, L5, L6])
       (refine wpAnyH_done (by kernel_rfl) ?_ _)
       generalize ((((uz.setCell ⟨q, 0, none⟩ (.int .i64 mz.n)).setCell ⟨q, 1, none⟩ (.int .i64 mz.x)).setCell ⟨q, 2, none⟩ (.int .i64 mz.z)).setCell ⟨q, 3, none⟩ (.int .i64 mz.p)) = Wz at *
       clear Dz0 Dz1 Dz2 HIz HMz
       go_wp2
       go_roundw
       case rel => exact ⟨k + 1, by first | rfl | rw [hk1], by omega, by rw [HN.out, HEx.out, HEz.out]; exact E1⟩
       case measure => simp [intOf]; omega
  ·have HR : Hid (cjN p g p.n.toNat = cjN p g k) := by unfold Hid; rw [show p.n.toNat = k by omega]
   obtain ⟨r, hr⟩ : ∃ r, cjN p g k = r := ⟨_, rfl⟩
   rw [hr] at HO HR
   clear hr
   obtain ⟨⟨c0, c1, c2, c3⟩, z0, z1, z2, z3⟩ := cells4 HO.out.2.2.1
   obtain ⟨⟨r0, r1, r2, r3⟩, -⟩ := cells4 HO.out.2.2.2.1
   go_wp2
   have HBB : Hid (Blk (put4 wr (w.heap.size + 2) (.int .i64 r.n) (.int .i64 r.x) (.int .i64 r.z) (.int .i64 r.p)) (w.heap.size + 2) 66 #[.int .i64 r.n, .int .i64 r.x, .int .i64 r.z, .int .i64 r.p]) := HO.out.2.2.1.put4 _ _ _ _
   refine bodyPost_ret (v := .tuple #[r.val, .bool true]) ?_ rfl ?_
   rotate_left
   ·exact ⟨cjRes_yes HOK.out HR.out rfl, ext_put4 (g := w.heap.size + 2) HO.out.2.2.2.2.1 (by omega) _ _ _ _⟩
   ·exact ret_pair rfl _ _ _ _ _ _ _ rfl rfl HBB.out Tryz.underlying66 rfl Tryz.sizePauliR
end Go.Proofs.YtioimnplhmgbgaaGreat
