/-
  Helper text (no claim of its own): conjugation of a Pauli by a Clifford gate, by the program. Printed by gen_cj.py.
-/
import Derived.Test.YtcocabflinlbbaaCjp
import Derived.Test.YtcocabflinlbbaaImj
namespace Go.Proofs.Ytcocabflinlbbaa
open Go.ChangeShapes Go.WideShapes Go.ChangeAt Go.RowKit Go.Deep
set_option linter.unusedVariables false
/-- The state of a round: the two images as well. -/
def CjV (w W : World) (p : Pa) (g : Gt) (q : Nat) (r : Pa) (s : Nat) (ix iz : Pa) : Prop :=
  CjW w W p g q r ∧ Blk W s 47 #[.int .i64 ix.n, .int .i64 ix.x, .int .i64 ix.z, .int .i64 ix.p] ∧ Blk W (s + 1) 47 #[.int .i64 iz.n, .int .i64 iz.x, .int .i64 iz.z, .int .i64 iz.p] ∧ q < s
theorem CjV.ext {w W W' : World} {p : Pa} {g : Gt} {q s : Nat} {r ix iz : Pa} (h : CjV w W p g q r s ix iz) (hx : Ext W W') : CjV w W' p g q r s ix iz :=
  ⟨h.1.ext hx, h.2.1.ext hx, h.2.2.1.ext hx, h.2.2.2⟩
theorem CjV.put {w W : World} {p : Pa} {g : Gt} {q s : Nat} {r ix iz : Pa} (h : CjV w W p g q r s ix iz) (m : Pa) : CjV w ((((W.setCell ⟨q, 0, none⟩ (.int .i64 m.n)).setCell ⟨q, 1, none⟩ (.int .i64 m.x)).setCell ⟨q, 2, none⟩ (.int .i64 m.z)).setCell ⟨q, 3, none⟩ (.int .i64 m.p)) p g q m s ix iz :=
  ⟨h.1.put m, far_put4 h.2.1 (by have := h.2.2.2; omega) _ _ _ _, far_put4 h.2.2.1 (by have := h.2.2.2; omega) _ _ _ _, h.2.2.2⟩
set_option maxRecDepth 100000 in
set_option maxHeartbeats 16000000 in
theorem impl_ConjugatePauli_any (p : Pa) (g : Gt) (w : World) : Calls Try.prog 33 #[p.val, g.val] w fun e w' => CjRes p g e ∧ Ext w w' := by
  go_enter Try.func33, Try.ntmps33
  go_wp2_with fail
  refine (impl_IsValidPauli_any p _).mono ?_
  rintro e w1 ⟨rfl, hx1⟩
  have HR1 : Hid (Blk w1 (w.heap.size + 2) 47 #[.int .i64 0, .int .i64 0, .int .i64 0, .int .i64 0]) := (Blk.newAt (b := w.heap.size + 2) (by simp)).ext hx1
  have HP1 : Hid (Blk w1 w.heap.size 47 #[.int .i64 p.n, .int .i64 p.x, .int .i64 p.z, .int .i64 p.p]) := (((Blk.new w _ _).alloc _).alloc _).ext hx1
  have HG1 : Hid (Blk w1 (w.heap.size + 1) 45 #[.int .i64 g.k, .int .i64 g.a, .int .i64 g.b, .int .i64 g.c]) := ((Blk.newAt (b := w.heap.size + 1) (by simp)).alloc _).ext hx1
  have HX1 : Hid (Ext w w1) := Ext.trans (by repeat (first | exact Ext.refl _ | assumption | refine Ext.alloc ?_ _ | refine Ext.drewN ?_ _ | refine Ext.drew ?_)) hx1
  have hl1 : w.heap.size + 3 ≤ w1.heap.size := by have := hx1.size; simpa using this
  clear hx1
  cases hv : vPa p
  · have HN : Hid (cjOk p g = false) := by unfold Hid cjOk; rw [hv]; simp
    clear hv
    obtain ⟨⟨c0, c1, c2, c3⟩, z0, z1, z2, z3⟩ := cells4 HR1.out
    go_wp2
    have HBB : Hid (Blk (put4 _ (w.heap.size + 2) (.int .i64 0) (.int .i64 0) (.int .i64 0) (.int .i64 0)) (w.heap.size + 2) 47 #[.int .i64 0, .int .i64 0, .int .i64 0, .int .i64 0]) := HR1.out.put4 _ _ _ _
    refine bodyPost_ret (v := .tuple #[P0.val, .bool false]) ?_ rfl ?_
    rotate_left
    · exact ⟨cjRes_no HN.out rfl, ext_put4 (g := w.heap.size + 2) HX1.out (by omega) _ _ _ _⟩
    · exact ret_pair rfl _ _ _ _ _ _ _ rfl rfl HBB.out Try.underlying47 rfl Try.sizePauliR
  have HV := Lib.hid hv
  clear hv
  obtain ⟨⟨g0, g1, g2, g3⟩, -⟩ := cells4 HG1.out
  obtain ⟨⟨p0, p1, p2, p3⟩, -⟩ := cells4 HP1.out
  go_wp2_with fail
  refine (impl_IsValidGate_any g p.n _).mono ?_
  rintro e w2 ⟨rfl, hx2⟩
  have HR2 := Lib.hid (HR1.out.ext hx2)
  have HP2 := Lib.hid (HP1.out.ext hx2)
  have HG2 := Lib.hid (HG1.out.ext hx2)
  have HX2 := Lib.hid (HX1.out.trans hx2)
  have hl2 : w.heap.size + 3 ≤ w2.heap.size := by have := hx2.size; omega
  clear hx2 HR1 HP1 HG1 HX1 g0 g1 g2 g3 p0 p1 p2 p3 hl1
  cases hv : vg g p.n
  · have HN : Hid (cjOk p g = false) := by unfold Hid cjOk; rw [hv]; simp
    clear hv
    obtain ⟨⟨c0, c1, c2, c3⟩, z0, z1, z2, z3⟩ := cells4 HR2.out
    go_wp2
    have HBB : Hid (Blk (put4 _ (w.heap.size + 2) (.int .i64 0) (.int .i64 0) (.int .i64 0) (.int .i64 0)) (w.heap.size + 2) 47 #[.int .i64 0, .int .i64 0, .int .i64 0, .int .i64 0]) := HR2.out.put4 _ _ _ _
    refine bodyPost_ret (v := .tuple #[P0.val, .bool false]) ?_ rfl ?_
    rotate_left
    · exact ⟨cjRes_no HN.out rfl, ext_put4 (g := w.heap.size + 2) HX2.out (by omega) _ _ _ _⟩
    · exact ret_pair rfl _ _ _ _ _ _ _ rfl rfl HBB.out Try.underlying47 rfl Try.sizePauliR
  have HVG := Lib.hid hv
  clear hv
  obtain ⟨⟨g0, g1, g2, g3⟩, -⟩ := cells4 HG2.out
  go_wp2_with fail
  refine (impl_IsClifford_any g _).mono ?_
  rintro e w3 ⟨rfl, hx3⟩
  have HR3 := Lib.hid (HR2.out.ext hx3)
  have HP3 := Lib.hid (HP2.out.ext hx3)
  have HG3 := Lib.hid (HG2.out.ext hx3)
  have HX3 := Lib.hid (HX2.out.trans hx3)
  have hl3 : w.heap.size + 3 ≤ w3.heap.size := by have := hx3.size; omega
  clear hx3 HR2 HP2 HG2 HX2 g0 g1 g2 g3 hl2
  cases hv : cliff g
  · have HN : Hid (cjOk p g = false) := by unfold Hid cjOk; rw [hv]; simp
    clear hv
    obtain ⟨⟨c0, c1, c2, c3⟩, z0, z1, z2, z3⟩ := cells4 HR3.out
    go_wp2
    have HBB : Hid (Blk (put4 _ (w.heap.size + 2) (.int .i64 0) (.int .i64 0) (.int .i64 0) (.int .i64 0)) (w.heap.size + 2) 47 #[.int .i64 0, .int .i64 0, .int .i64 0, .int .i64 0]) := HR3.out.put4 _ _ _ _
    refine bodyPost_ret (v := .tuple #[P0.val, .bool false]) ?_ rfl ?_
    rotate_left
    · exact ⟨cjRes_no HN.out rfl, ext_put4 (g := w.heap.size + 2) HX3.out (by omega) _ _ _ _⟩
    · exact ret_pair rfl _ _ _ _ _ _ _ rfl rfl HBB.out Try.underlying47 rfl Try.sizePauliR
  have HC := Lib.hid hv
  have HOK : Hid (cjOk p g = true) := by unfold Hid cjOk; rw [HV.out, HVG.out, HC.out]; rfl
  clear hv
  have hnb := vPa_iff.1 HV.out
  obtain ⟨hn1, hn4⟩ := hnb.1
  clear hnb
  obtain ⟨⟨p0, p1, p2, p3⟩, -⟩ := cells4 HP3.out
  obtain ⟨q, hq⟩ : ∃ q, q = w3.heap.size := ⟨_, rfl⟩
  go_upto_region 4 with (fail)
  rw [← hq]
  have HW : Hid (CjW w (w3.alloc (.cells #[.int .i64 p.n, .int .i64 0, .int .i64 0, .int .i64 p.p] 47)) p g q ⟨p.n, 0, 0, p.p⟩) :=
    ⟨HP3.out.alloc _, HG3.out.alloc _, HR3.out.alloc _, Blk.newAt hq, HX3.out.alloc _, by rw [hq]; exact hl3⟩
  clear HP3 HG3 HR3 HX3 hl3 p0 p1 p2 p3
  generalize w3.alloc (.cells #[.int .i64 p.n, .int .i64 0, .int .i64 0, .int .i64 p.p] 47) = W0 at *
  clear hq
  go_wp2
  go_loopw [7] (fun iv wr => ∃ k : Nat, iv = .int .i64 k ∧ (k : Int) ≤ p.n ∧ Hid (CjW w wr p g q (cjN p g k))) (fun i _ => 4 - (intOf i).toNat)
  case atStart => exact ⟨0, rfl, by omega, HW⟩
  case round =>
    obtain ⟨k, rfl, hk, HO⟩ := hrel
    clear HW
    have hp0 : wr.cell? ⟨w.heap.size, 0, none⟩ = some (.int .i64 p.n) := HO.out.1.cell 0
    by_cases hlt : (k : Int) < p.n
    · have hk0 : (0 : Int) ≤ (k : Int) := by omega
      have hk3 : (k : Int) ≤ 3 := by omega
      have HN := Lib.hid (cjN_step p g k)
      have HB := Lib.hid (vg_ab HVG.out)
      obtain ⟨r, hr⟩ : ∃ r, cjN p g k = r := ⟨_, rfl⟩
      rw [hr] at HO HN
      clear hr
      have hku : IntKind.u64.wrap (k : Int) = (k : Int) := IntWalk.u64_in _ (by omega)
      have hk1 : IntKind.i64.wrap ((k : Int) + 1) = ((k + 1 : Nat) : Int) := by rw [IntWalk.i64_in _ (by omega)]; rfl
      obtain ⟨ix, hix⟩ : ∃ i, imgX p.n g k = i := ⟨_, rfl⟩
      obtain ⟨iz, hiz⟩ : ∃ i, imgZ p.n g k = i := ⟨_, rfl⟩
      have HI : Hid (∀ w', Calls Try.prog 47 #[.agg #[.int .i64 g.k, .int .i64 g.a, .int .i64 g.b, .int .i64 g.c], .int .i64 p.n, .int .i64 (k : Int)] w' fun e w'' => e = .returned (.tuple #[.agg #[.int .i64 ix.n, .int .i64 ix.x, .int .i64 ix.z, .int .i64 ix.p], .agg #[.int .i64 iz.n, .int .i64 iz.x, .int .i64 iz.z, .int .i64 iz.p]]) ∧ Ext w' w'') := fun w' => by rw [← hix, ← hiz]; exact impl_images_any g p.n k w' hk0 hk3 HB.out.1.1 HB.out.1.2 HB.out.2.1.1 HB.out.2.1.2 HC.out HB.out.2.2
      have HIx := Lib.hid hix
      have HIz := Lib.hid hiz
      clear hix hiz
      obtain ⟨⟨g0, g1, g2, g3⟩, -⟩ := cells4 HO.out.2.1
      go_wp2_with fail
      refine (HI.out _).mono ?_
      rintro e w5 ⟨rfl, hx5⟩
      have D1 := Lib.hid (HO.out.ext hx5)
      clear hx5 g0 g1 g2 g3 hp0 HO
      obtain ⟨s, hs⟩ : ∃ s, s = w5.heap.size := ⟨_, rfl⟩
      have hqs : q < s := by rw [hs]; exact D1.out.2.2.2.1.lt
      go_upto_region 8 with (fail)
      rw [← hs]
      have HV0 : Hid (CjV w ((w5.alloc (.cells #[.int .i64 ix.n, .int .i64 ix.x, .int .i64 ix.z, .int .i64 ix.p] 47)).alloc (.cells #[.int .i64 iz.n, .int .i64 iz.x, .int .i64 iz.z, .int .i64 iz.p] 47)) p g q r s ix iz) :=
        ⟨D1.out.ext (((Ext.refl _).alloc _).alloc _), (Blk.newAt hs).alloc _, Blk.newAt (by simp [hs]), hqs⟩
      generalize ((w5.alloc (.cells #[.int .i64 ix.n, .int .i64 ix.x, .int .i64 ix.z, .int .i64 ix.p] 47)).alloc (.cells #[.int .i64 iz.n, .int .i64 iz.x, .int .i64 iz.z, .int .i64 iz.p] 47)) = W5 at *
      clear hs D1
      cases hbx : bitI p.x k
      · have hwx : (bits .and .i64 (p.x / 2 ^ k) 1 == 1) = false := hbx
        have HEx : Hid (cjX p g k r = r) := cjX_no hbx
        clear hbx
        obtain ⟨⟨p0, p1, p2, p3⟩, -⟩ := cells4 HV0.out.1.1
        go_upto_region 10 with (fail)
        clear p0 p1 p2 p3 hwx
        cases hbz : bitI p.z k
        · have hwz : (bits .and .i64 (p.z / 2 ^ k) 1 == 1) = false := hbz
          have HEz : Hid (cjZ p g k r = r) := cjZ_no hbz
          clear hbz
          obtain ⟨⟨p0, p1, p2, p3⟩, -⟩ := cells4 HV0.out.1.1
          go_wp2
          go_roundw
          case rel => exact ⟨k + 1, by first | rfl | rw [hk1], by omega, by rw [HN.out, HEx.out, HEz.out]; exact Lib.hid HV0.out.1⟩
          case measure => simp [intOf]; omega
        · have hwz : (bits .and .i64 (p.z / 2 ^ k) 1 == 1) = true := hbz
          obtain ⟨⟨p0, p1, p2, p3⟩, -⟩ := cells4 HV0.out.1.1
          go_upto_region 11 with (fail)
          clear p0 p1 p2 p3 hwz
          obtain ⟨mz, hmz⟩ : ∃ m, mulR r iz = m := ⟨_, rfl⟩
          have HMz : Hid (∀ w', Calls Try.prog 48 #[.agg #[.int .i64 r.n, .int .i64 r.x, .int .i64 r.z, .int .i64 r.p], .agg #[.int .i64 iz.n, .int .i64 iz.x, .int .i64 iz.z, .int .i64 iz.p]] w' fun e w'' => (∃ b, e = .returned (.tuple #[.agg #[.int .i64 mz.n, .int .i64 mz.x, .int .i64 mz.z, .int .i64 mz.p], .bool b])) ∧ Ext w' w'') := fun w' => by
            refine (impl_MulPauli_any r iz w').mono ?_
            rintro e w'' ⟨he, hx⟩
            exact ⟨⟨vPa r && vPa iz && r.n == iz.n, by rw [← hmz]; exact he⟩, hx⟩
          have HEz : Hid (cjZ p g k r = mz) := by unfold Hid; rw [cjZ_yes hbz, ← hmz, HIz.out]
          clear hmz hbz
          obtain ⟨⟨q0, q1, q2, q3⟩, -⟩ := cells4 HV0.out.1.2.2.2.1
          obtain ⟨⟨y0, y1, y2, y3⟩, -⟩ := cells4 HV0.out.2.2.1
          go_wp2_with fail
          refine (HMz.out _).mono ?_
          rintro e uz ⟨⟨bm, rfl⟩, hy⟩
          have Dz := Lib.hid (HV0.out.ext hy)
          clear hy q0 q1 q2 q3 y0 y1 y2 y3
          obtain ⟨⟨q0, q1, q2, q3⟩, f0, f1, f2, f3⟩ := cells4 Dz.out.1.2.2.2.1
          go_wp2
          have E0 := Lib.hid (Dz.out.put mz)
          clear q0 q1 q2 q3 f0 f1 f2 f3
          go_roundw
          case rel => exact ⟨k + 1, by first | rfl | rw [hk1], by omega, by rw [HN.out, HEx.out, HEz.out]; exact Lib.hid E0.out.1⟩
          case measure => simp [intOf]; omega
      · have hwx : (bits .and .i64 (p.x / 2 ^ k) 1 == 1) = true := hbx
        obtain ⟨⟨p0, p1, p2, p3⟩, -⟩ := cells4 HV0.out.1.1
        go_upto_region 9 with (fail)
        clear p0 p1 p2 p3 hwx
        obtain ⟨mx, hmx⟩ : ∃ m, mulR r ix = m := ⟨_, rfl⟩
        have HMx : Hid (∀ w', Calls Try.prog 48 #[.agg #[.int .i64 r.n, .int .i64 r.x, .int .i64 r.z, .int .i64 r.p], .agg #[.int .i64 ix.n, .int .i64 ix.x, .int .i64 ix.z, .int .i64 ix.p]] w' fun e w'' => (∃ b, e = .returned (.tuple #[.agg #[.int .i64 mx.n, .int .i64 mx.x, .int .i64 mx.z, .int .i64 mx.p], .bool b])) ∧ Ext w' w'') := fun w' => by
          refine (impl_MulPauli_any r ix w').mono ?_
          rintro e w'' ⟨he, hx⟩
          exact ⟨⟨vPa r && vPa ix && r.n == ix.n, by rw [← hmx]; exact he⟩, hx⟩
        have HEx : Hid (cjX p g k r = mx) := by unfold Hid; rw [cjX_yes hbx, ← hmx, HIx.out]
        clear hmx hbx
        obtain ⟨⟨q0, q1, q2, q3⟩, -⟩ := cells4 HV0.out.1.2.2.2.1
        obtain ⟨⟨y0, y1, y2, y3⟩, -⟩ := cells4 HV0.out.2.1
        go_wp2_with fail
        refine (HMx.out _).mono ?_
        rintro e ux ⟨⟨bm, rfl⟩, hy⟩
        have Dx := Lib.hid (HV0.out.ext hy)
        clear hy q0 q1 q2 q3 y0 y1 y2 y3
        obtain ⟨⟨q0, q1, q2, q3⟩, f0, f1, f2, f3⟩ := cells4 Dx.out.1.2.2.2.1
        go_upto_region 10 with (fail)
        have EX := Lib.hid (Dx.out.put mx)
        clear q0 q1 q2 q3 f0 f1 f2 f3
        generalize ((((ux.setCell ⟨q, 0, none⟩ (.int .i64 mx.n)).setCell ⟨q, 1, none⟩ (.int .i64 mx.x)).setCell ⟨q, 2, none⟩ (.int .i64 mx.z)).setCell ⟨q, 3, none⟩ (.int .i64 mx.p)) = Wx at *
        cases hbz : bitI p.z k
        · have hwz : (bits .and .i64 (p.z / 2 ^ k) 1 == 1) = false := hbz
          have HEz : Hid (cjZ p g k mx = mx) := cjZ_no hbz
          clear hbz
          obtain ⟨⟨p0, p1, p2, p3⟩, -⟩ := cells4 EX.out.1.1
          go_wp2
          go_roundw
          case rel => exact ⟨k + 1, by first | rfl | rw [hk1], by omega, by rw [HN.out, HEx.out, HEz.out]; exact Lib.hid EX.out.1⟩
          case measure => simp [intOf]; omega
        · have hwz : (bits .and .i64 (p.z / 2 ^ k) 1 == 1) = true := hbz
          obtain ⟨⟨p0, p1, p2, p3⟩, -⟩ := cells4 EX.out.1.1
          go_upto_region 11 with (fail)
          clear p0 p1 p2 p3 hwz
          obtain ⟨mz, hmz⟩ : ∃ m, mulR mx iz = m := ⟨_, rfl⟩
          have HMz : Hid (∀ w', Calls Try.prog 48 #[.agg #[.int .i64 mx.n, .int .i64 mx.x, .int .i64 mx.z, .int .i64 mx.p], .agg #[.int .i64 iz.n, .int .i64 iz.x, .int .i64 iz.z, .int .i64 iz.p]] w' fun e w'' => (∃ b, e = .returned (.tuple #[.agg #[.int .i64 mz.n, .int .i64 mz.x, .int .i64 mz.z, .int .i64 mz.p], .bool b])) ∧ Ext w' w'') := fun w' => by
            refine (impl_MulPauli_any mx iz w').mono ?_
            rintro e w'' ⟨he, hx⟩
            exact ⟨⟨vPa mx && vPa iz && mx.n == iz.n, by rw [← hmz]; exact he⟩, hx⟩
          have HEz : Hid (cjZ p g k mx = mz) := by unfold Hid; rw [cjZ_yes hbz, ← hmz, HIz.out]
          clear hmz hbz
          obtain ⟨⟨q0, q1, q2, q3⟩, -⟩ := cells4 EX.out.1.2.2.2.1
          obtain ⟨⟨y0, y1, y2, y3⟩, -⟩ := cells4 EX.out.2.2.1
          go_wp2_with fail
          refine (HMz.out _).mono ?_
          rintro e uz ⟨⟨bm, rfl⟩, hy⟩
          have Dz := Lib.hid (EX.out.ext hy)
          clear hy q0 q1 q2 q3 y0 y1 y2 y3
          obtain ⟨⟨q0, q1, q2, q3⟩, f0, f1, f2, f3⟩ := cells4 Dz.out.1.2.2.2.1
          go_wp2
          have E1 := Lib.hid (Dz.out.put mz)
          clear q0 q1 q2 q3 f0 f1 f2 f3
          go_roundw
          case rel => exact ⟨k + 1, by first | rfl | rw [hk1], by omega, by rw [HN.out, HEx.out, HEz.out]; exact Lib.hid E1.out.1⟩
          case measure => simp [intOf]; omega
    · have HR : Hid (cjN p g p.n.toNat = cjN p g k) := by unfold Hid; rw [show p.n.toNat = k by omega]
      obtain ⟨r, hr⟩ : ∃ r, cjN p g k = r := ⟨_, rfl⟩
      rw [hr] at HO HR
      clear hr
      obtain ⟨⟨c0, c1, c2, c3⟩, z0, z1, z2, z3⟩ := cells4 HO.out.2.2.1
      obtain ⟨⟨r0, r1, r2, r3⟩, -⟩ := cells4 HO.out.2.2.2.1
      go_wp2
      have HBB : Hid (Blk (put4 wr (w.heap.size + 2) (.int .i64 r.n) (.int .i64 r.x) (.int .i64 r.z) (.int .i64 r.p)) (w.heap.size + 2) 47 #[.int .i64 r.n, .int .i64 r.x, .int .i64 r.z, .int .i64 r.p]) := HO.out.2.2.1.put4 _ _ _ _
      refine bodyPost_ret (v := .tuple #[r.val, .bool true]) ?_ rfl ?_
      rotate_left
      · exact ⟨cjRes_yes HOK.out HR.out rfl, ext_put4 (g := w.heap.size + 2) HO.out.2.2.2.2.1 (by omega) _ _ _ _⟩
      · exact ret_pair rfl _ _ _ _ _ _ _ rfl rfl HBB.out Try.underlying47 rfl Try.sizePauliR
end Go.Proofs.Ytcocabflinlbbaa
