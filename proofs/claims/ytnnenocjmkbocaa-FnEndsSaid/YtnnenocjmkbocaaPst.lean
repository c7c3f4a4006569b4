/-
  Helper text (no claim of its own): one step of a path, by the program and by the reference. Printed by gen_pss2.py.
-/
import Derived.Test.YtnnenocjmkbocaaPss
namespace Go.Proofs.Ytnnenocjmkbocaa
open Go.ChangeShapes Go.WideShapes Go.ChangeAt Go.RowKit Go.Deep
theorem X00 : bits .xor .i64 0 0 = 0 := rfl
theorem X01 : bits .xor .i64 0 1 = 1 := rfl
theorem X10 : bits .xor .i64 1 0 = 1 := rfl
theorem X11 : bits .xor .i64 1 1 = 0 := rfl
theorem N00 : bits .and .i64 0 0 = 0 := rfl
theorem N01 : bits .and .i64 0 1 = 0 := rfl
theorem N10 : bits .and .i64 1 0 = 0 := rfl
theorem N11 : bits .and .i64 1 1 = 1 := rfl
theorem wrap0 : wrap64 0 = 0 := by unfold wrap64; omega
def psOk (g : Gt) (bit : Int) : Bool := vg g 4 && (decide (0 ≤ bit) && decide (bit ≤ 1))
def psI (g : Gt) (i bit : Int) : Int := if psOk g bit = true then psT g i bit else i
def psJ (g : Gt) (i k bit : Int) : Int := if psOk g bit = true then (k + psP g i bit) % 8 else k % 8
theorem psOk_v {g : Gt} {bit : Int} (h : vg g 4 = false) : psOk g bit = false := by unfold psOk; rw [h]; rfl
theorem psOk_b {g : Gt} {bit : Int} (h : bit < 0 ∨ 1 < bit) : psOk g bit = false := by
  unfold psOk
  rcases h with h | h
  · have e : decide (0 ≤ bit) = false := by simp; omega
    rw [e]; simp
  · have e : decide (bit ≤ 1) = false := by simp; omega
    rw [e]; simp
theorem psOk_y {g : Gt} {bit : Int} (h : vg g 4 = true) (h1 : 0 ≤ bit) (h2 : bit ≤ 1) : psOk g bit = true := by
  unfold psOk; rw [h]; simp [h1, h2]
theorem vg_range {g : Gt} (h : vg g 4 = true) : (1 ≤ g.k ∧ g.k ≤ 12) ∧ (0 ≤ g.a ∧ g.a ≤ 3) ∧ (0 ≤ g.b ∧ g.b ≤ 3) ∧ (0 ≤ g.c ∧ g.c ≤ 3) := by
  unfold vg at h
  simp only [Bool.and_eq_true, decide_eq_true_eq] at h
  obtain ⟨⟨⟨⟨⟨_, _⟩, h3⟩, h4⟩, h5⟩, h6⟩ := h
  have hb : ∀ i q, okI g 4 i q = true → 0 ≤ q ∧ q ≤ 3 := by
    intro i q hq
    by_cases hi : ar g.k ≤ i
    · rw [okI_hi hi, beq_iff_eq] at hq; omega
    · rw [okI_lo hi] at hq
      simp only [Bool.and_eq_true, decide_eq_true_eq] at hq
      omega
  refine ⟨?_, hb _ _ h4, hb _ _ h5, hb _ _ h6⟩
  by_cases hk : g.k < 1 ∨ 12 < g.k
  · rw [ar0 hk] at h3; omega
  · omega
theorem psT_bit {g : Gt} {i bit : Int} (h : g.k ≠ 4) : psT g i bit = psT g i 0 := by unfold psT; simp [h]
theorem psP_bit {g : Gt} {i bit : Int} (h : g.k ≠ 4) : psP g i bit = psP g i 0 := by unfold psP; simp [h]

set_option maxRecDepth 100000 in
set_option maxHeartbeats 8000000 in
theorem impl_PathSumStep_any (g : Gt) (i k bit : Int) (w : World) (hI : I64 i) (hK : I64 k) :
    Calls Try.prog 78 #[g.val, .int .i64 i, .int .i64 k, .int .i64 bit] w fun e w' => e = .returned (.tuple #[.int .i64 (psI g i bit), .int .i64 (psJ g i k bit)]) ∧ Ext w w' := by
  have HI := Lib.hid hI
  have HK := Lib.hid hK
  clear hI hK
  go_enter Try.func78, Try.ntmps78
  go_wp2_with fail
  refine (impl_IsValidGate_any g 4 _).mono ?_
  rintro e w1 ⟨rfl, hx1⟩
  have hB : Blk w1 w.heap.size 61 #[.int .i64 g.k, .int .i64 g.a, .int .i64 g.b, .int .i64 g.c] := (Blk.new w _ _).ext hx1
  have hx : Ext w w1 := Ext.trans (by repeat (first | exact Ext.refl _ | assumption | refine Ext.alloc ?_ _ | refine Ext.drewN ?_ _ | refine Ext.drew ?_)) hx1
  clear hx1
  have b0 : w1.cell? ⟨w.heap.size, 0, none⟩ = some (.int .i64 g.k) := hB.cell 0
  have b1 : w1.cell? ⟨w.heap.size, 1, none⟩ = some (.int .i64 g.a) := hB.cell 1
  have b2 : w1.cell? ⟨w.heap.size, 2, none⟩ = some (.int .i64 g.b) := hB.cell 2
  have b3 : w1.cell? ⟨w.heap.size, 3, none⟩ = some (.int .i64 g.c) := hB.cell 3
  clear hB
  cases hv : vg g 4
  · have HO := Lib.hid (psOk_v (bit := bit) hv)
    go_wp2_with fail
    refine (mod8_any _ _ HK.out).mono ?_
    rintro e w2 ⟨rfl, rfl⟩
    go_wp2
    go_ret2
    exact ⟨ret_two (by unfold psI; rw [HO.out]; rfl) (by unfold psJ; rw [HO.out]; rfl), hx⟩
  by_cases hb : bit < 0 ∨ 1 < bit
  · have HO := Lib.hid (psOk_b (g := g) hb)
    have HBB := Lib.hid hb
    clear hb
    go_wp2_with fail
    refine (in_no _ _ _ _ HBB.out).mono ?_
    rintro e w2 ⟨rfl, rfl⟩
    go_wp2_with fail
    refine (mod8_any _ _ HK.out).mono ?_
    rintro e w2 ⟨rfl, rfl⟩
    go_wp2
    go_ret2
    exact ⟨ret_two (by unfold psI; rw [HO.out]; rfl) (by unfold psJ; rw [HO.out]; rfl), hx⟩
  have hb0 : 0 ≤ bit := by omega
  have hb1 : bit ≤ 1 := by omega
  have HO := Lib.hid (psOk_y hv hb0 hb1)
  have HVR := Lib.hid (vg_range hv)
  clear hb
  go_wp2_with fail
  refine (in_yes _ _ _ _ hb0 hb1).mono ?_
  rintro e w2 ⟨rfl, rfl⟩
  obtain ⟨⟨k1, k2⟩, ⟨a1, a2⟩, ⟨c1, c2⟩, ⟨d1, d2⟩⟩ := HVR.out
  clear HVR hv
  by_cases hk4 : g.k = 4
  · have HT : Hid (psI g i bit = bits .or .i64 (bits .andNot .i64 i (P2 g.a)) (wrap64 (bit * 2 ^ g.a.toNat))) := by unfold Hid psI; rw [if_pos HO.out]; unfold psT; simp [hk4]
    rcases and_one (i / 2 ^ g.a.toNat) with hA | hA <;> rcases (by omega : bit = 0 ∨ bit = 1) with hbit | hbit
    · have tA : bt i g.a = 0 := hA
      have HP : Hid (psJ g i k bit = (k + 0) % 8) := by unfold Hid psJ; rw [if_pos HO.out]; unfold psP; simp [hk4, tA, hbit]
      clear tA
      subst hbit
      go_wp2
      go_quiet ((go_at_call 133; exact quiet_left (mod8_any _ _ HK.out)))
      go_wp2
      go_ret2
      exact ⟨ret_two (by first | exact HT.out.symm | (rw [HT.out]; simp [P2, wrap0])) (by rw [HP.out]; first | rfl | exact wrap8 _ | simp), (by repeat (first | exact Ext.refl _ | assumption | refine Ext.alloc ?_ _ | refine Ext.drewN ?_ _ | refine Ext.drew ?_))⟩
    · have tA : bt i g.a = 0 := hA
      have HP : Hid (psJ g i k bit = (k + 0) % 8) := by unfold Hid psJ; rw [if_pos HO.out]; unfold psP; simp [hk4, tA, hbit]
      clear tA
      subst hbit
      go_wp2
      go_quiet ((go_at_call 133; exact quiet_left (mod8_any _ _ HK.out)))
      go_wp2
      go_ret2
      exact ⟨ret_two (by first | exact HT.out.symm | (rw [HT.out]; simp [P2])) (by rw [HP.out]; first | rfl | exact wrap8 _ | simp), (by repeat (first | exact Ext.refl _ | assumption | refine Ext.alloc ?_ _ | refine Ext.drewN ?_ _ | refine Ext.drew ?_))⟩
    · have tA : bt i g.a = 1 := hA
      have HP : Hid (psJ g i k bit = (k + 0) % 8) := by unfold Hid psJ; rw [if_pos HO.out]; unfold psP; simp [hk4, tA, hbit]
      clear tA
      subst hbit
      go_wp2
      go_quiet ((go_at_call 133; exact quiet_left (mod8_any _ _ HK.out)))
      go_wp2
      go_ret2
      exact ⟨ret_two (by first | exact HT.out.symm | (rw [HT.out]; simp [P2, wrap0])) (by rw [HP.out]; first | rfl | exact wrap8 _ | simp), (by repeat (first | exact Ext.refl _ | assumption | refine Ext.alloc ?_ _ | refine Ext.drewN ?_ _ | refine Ext.drew ?_))⟩
    · have tA : bt i g.a = 1 := hA
      have HP : Hid (psJ g i k bit = (k + 4) % 8) := by unfold Hid psJ; rw [if_pos HO.out]; unfold psP; simp [hk4, tA, hbit]
      clear tA
      have HW := Lib.hid (wrapI (k + 4))
      subst hbit
      go_wp2
      go_quiet ((go_at_call 133; exact quiet_left (mod8_any _ _ HW.out)))
      go_wp2
      go_ret2
      exact ⟨ret_two (by first | exact HT.out.symm | (rw [HT.out]; simp [P2])) (by rw [HP.out]; first | rfl | exact wrap8 _ | simp), (by repeat (first | exact Ext.refl _ | assumption | refine Ext.alloc ?_ _ | refine Ext.drewN ?_ _ | refine Ext.drew ?_))⟩
  · have HT : Hid (psI g i bit = psT g i 0) := by unfold Hid psI; rw [if_pos HO.out, psT_bit hk4]
    have HP : Hid (psJ g i k bit = (k + psP g i 0) % 8) := by unfold Hid psJ; rw [if_pos HO.out, psP_bit hk4]
    have hk4' : (g.k == 4) = false := by rw [beq_eq_false_iff_ne]; exact hk4
    have H4 := Lib.hid hk4
    clear hk4
    go_wp2_with fail
    refine (moved_any g i _ HI.out a1 a2 c1 c2 d1 d2 k1 k2 H4.out).mono ?_
    rintro e w2 ⟨rfl, hx2⟩
    go_wp2_with fail
    refine (mod8_any _ _ (wrapI _)).mono ?_
    rintro e w3 ⟨rfl, rfl⟩
    go_wp2
    go_ret2
    exact ⟨ret_two HT.out.symm (by rw [HP.out]; exact wrap8 _), hx.trans hx2⟩

theorem xor00 (i : Int) (h : I64 i) : bits .xor .i64 (bits .xor .i64 i 0) 0 = i := by rw [xor0 i h, xor0 i h]
set_option maxRecDepth 100000 in
set_option maxHeartbeats 16000000 in
theorem spec_PathSumStep_any (g : Gt) (i k bit : Int) (w : World) (hI : I64 i) (hK : I64 k) :
    Calls Try.prog 76 #[g.val, .int .i64 i, .int .i64 k, .int .i64 bit] w fun e w' => e = .returned (.tuple #[.int .i64 (psI g i bit), .int .i64 (psJ g i k bit)]) ∧ Ext w w' := by
  have HI := Lib.hid hI
  have HK := Lib.hid hK
  obtain ⟨hI1, hI2⟩ := hI
  clear hK
  go_enter Try.func76, Try.ntmps76
  go_wp2_with fail
  refine (l32Rest_any _ _ HK.out).mono ?_
  rintro e w0 ⟨rfl, rfl⟩
  have hm1 : 0 ≤ k % 8 := by omega
  have hm2 : k % 8 < 8 := by omega
  have HM : Hid (k % 8 = k % 8 ∧ True) := ⟨rfl, trivial⟩
  generalize hm : k % 8 = m at hm1 hm2
  have HMM := Lib.hid hm
  clear hm HM
  go_wp2_with fail
  refine (spec_IsValidGate_any g 4 _).mono ?_
  rintro e w1 ⟨rfl, hx1⟩
  have hB : Blk w1 w.heap.size 61 #[.int .i64 g.k, .int .i64 g.a, .int .i64 g.b, .int .i64 g.c] := (Blk.new w _ _).ext hx1
  have hx : Ext w w1 := Ext.trans (by repeat (first | exact Ext.refl _ | assumption | refine Ext.alloc ?_ _ | refine Ext.drewN ?_ _ | refine Ext.drew ?_)) hx1
  clear hx1
  have b0 : w1.cell? ⟨w.heap.size, 0, none⟩ = some (.int .i64 g.k) := hB.cell 0
  have b1 : w1.cell? ⟨w.heap.size, 1, none⟩ = some (.int .i64 g.a) := hB.cell 1
  have b2 : w1.cell? ⟨w.heap.size, 2, none⟩ = some (.int .i64 g.b) := hB.cell 2
  have b3 : w1.cell? ⟨w.heap.size, 3, none⟩ = some (.int .i64 g.c) := hB.cell 3
  clear hB
  cases hv : vg g 4
  · have HO := Lib.hid (psOk_v (bit := bit) hv)
    go_wp2
    go_ret2
    exact ⟨ret_two (by unfold psI; rw [HO.out]; rfl) (by unfold psJ; rw [HO.out]; exact HMM.out.symm), hx⟩
  by_cases hb : bit < 0 ∨ 1 < bit
  · have HO := Lib.hid (psOk_b (g := g) hb)
    have HBB := Lib.hid hb
    clear hb
    go_wp2_with fail
    refine (l1In_no _ _ _ _ HBB.out).mono ?_
    rintro e w2 ⟨rfl, rfl⟩
    go_wp2
    go_ret2
    exact ⟨ret_two (by unfold psI; rw [HO.out]; rfl) (by unfold psJ; rw [HO.out]; exact HMM.out.symm), hx⟩
  have hb0 : 0 ≤ bit := by omega
  have hb1 : bit ≤ 1 := by omega
  have HO := Lib.hid (psOk_y hv hb0 hb1)
  have HVR := Lib.hid (vg_range hv)
  clear hb
  go_wp2_with fail
  refine (l1In_yes _ _ _ _ hb0 hb1).mono ?_
  rintro e w2 ⟨rfl, rfl⟩
  obtain ⟨⟨k1, k2⟩, ⟨a1, a2⟩, ⟨c1, c2⟩, ⟨d1, d2⟩⟩ := HVR.out
  clear HVR hv
  rcases (by omega : g.k = 1 ∨ g.k = 2 ∨ g.k = 3 ∨ g.k = 4 ∨ g.k = 5 ∨ g.k = 6 ∨ g.k = 7 ∨ g.k = 8 ∨ g.k = 9 ∨ g.k = 10 ∨ g.k = 11 ∨ g.k = 12) with hk | hk | hk | hk | hk | hk | hk | hk | hk | hk | hk | hk
  · skip
    have HT : Hid (psI g i bit = xr i (P2 g.a)) := by unfold Hid psI; rw [if_pos HO.out]; unfold psT; simp [hk]
    have HP : Hid (psJ g i k bit = (k + 0) % 8) := by unfold Hid psJ; rw [if_pos HO.out]; unfold psP; simp [hk]
    clear k1 k2
    go_wp2
    go_ret2
    exact ⟨ret_two (by first | exact HT.out.symm | exact (xor0 i HI.out).trans HT.out.symm | (rw [HT.out]; simp [P2]; done) | (rw [HT.out]; simp [P2, wrap0]; done) | (rw [HT.out]; exact xor00 i HI.out)) (by rw [HP.out, ← HMM.out]; omega), (by repeat (first | exact Ext.refl _ | assumption | refine Ext.alloc ?_ _ | refine Ext.drewN ?_ _ | refine Ext.drew ?_))⟩
  · rcases and_one (i / 2 ^ g.a.toNat) with hA | hA
    · skip
      have tA : bt i g.a = 0 := hA
      have HT : Hid (psI g i bit = xr i (P2 g.a)) := by unfold Hid psI; rw [if_pos HO.out]; unfold psT; simp [hk]
      have HP : Hid (psJ g i k bit = (k + 2) % 8) := by unfold Hid psJ; rw [if_pos HO.out]; unfold psP; simp [hk, tA]
      clear k1 k2 tA
      go_wp2
      go_quiet ((go_at_call 131; exact quiet_left (l32Rest_any _ _ ⟨by omega, by omega⟩)))
      go_wp2
      go_ret2
      exact ⟨ret_two (by first | exact HT.out.symm | exact (xor0 i HI.out).trans HT.out.symm | (rw [HT.out]; simp [P2]; done) | (rw [HT.out]; simp [P2, wrap0]; done) | (rw [HT.out]; exact xor00 i HI.out)) (by rw [HP.out, ← HMM.out]; omega), (by repeat (first | exact Ext.refl _ | assumption | refine Ext.alloc ?_ _ | refine Ext.drewN ?_ _ | refine Ext.drew ?_))⟩
    · skip
      have tA : bt i g.a = 1 := hA
      have HT : Hid (psI g i bit = xr i (P2 g.a)) := by unfold Hid psI; rw [if_pos HO.out]; unfold psT; simp [hk]
      have HP : Hid (psJ g i k bit = (k + 6) % 8) := by unfold Hid psJ; rw [if_pos HO.out]; unfold psP; simp [hk, tA]
      clear k1 k2 tA
      go_wp2
      go_quiet ((go_at_call 131; exact quiet_left (l32Rest_any _ _ ⟨by omega, by omega⟩)))
      go_wp2
      go_ret2
      exact ⟨ret_two (by first | exact HT.out.symm | exact (xor0 i HI.out).trans HT.out.symm | (rw [HT.out]; simp [P2]; done) | (rw [HT.out]; simp [P2, wrap0]; done) | (rw [HT.out]; exact xor00 i HI.out)) (by rw [HP.out, ← HMM.out]; omega), (by repeat (first | exact Ext.refl _ | assumption | refine Ext.alloc ?_ _ | refine Ext.drewN ?_ _ | refine Ext.drew ?_))⟩
  · rcases and_one (i / 2 ^ g.a.toNat) with hA | hA
    · skip
      have tA : bt i g.a = 0 := hA
      have HT : Hid (psI g i bit = i) := by unfold Hid psI; rw [if_pos HO.out]; unfold psT; simp [hk]
      have HP : Hid (psJ g i k bit = (k + 0) % 8) := by unfold Hid psJ; rw [if_pos HO.out]; unfold psP; simp [hk, tA]
      clear k1 k2 tA
      go_wp2_with (first | (go_at_call 131; refine (l32Rest_any _ _ ⟨by omega, by omega⟩).mono ?_; rintro e w3 ⟨rfl, rfl⟩) | go_in)
      go_ret2
      exact ⟨ret_two (by first | exact HT.out.symm | exact (xor0 i HI.out).trans HT.out.symm | (rw [HT.out]; simp [P2]; done) | (rw [HT.out]; simp [P2, wrap0]; done) | (rw [HT.out]; exact xor00 i HI.out)) (by rw [HP.out, ← HMM.out]; omega), (by repeat (first | exact Ext.refl _ | assumption | refine Ext.alloc ?_ _ | refine Ext.drewN ?_ _ | refine Ext.drew ?_))⟩
    · skip
      have tA : bt i g.a = 1 := hA
      have HT : Hid (psI g i bit = i) := by unfold Hid psI; rw [if_pos HO.out]; unfold psT; simp [hk]
      have HP : Hid (psJ g i k bit = (k + 4) % 8) := by unfold Hid psJ; rw [if_pos HO.out]; unfold psP; simp [hk, tA]
      clear k1 k2 tA
      go_wp2_with (first | (go_at_call 131; refine (l32Rest_any _ _ ⟨by omega, by omega⟩).mono ?_; rintro e w3 ⟨rfl, rfl⟩) | go_in)
      go_ret2
      exact ⟨ret_two (by first | exact HT.out.symm | exact (xor0 i HI.out).trans HT.out.symm | (rw [HT.out]; simp [P2]; done) | (rw [HT.out]; simp [P2, wrap0]; done) | (rw [HT.out]; exact xor00 i HI.out)) (by rw [HP.out, ← HMM.out]; omega), (by repeat (first | exact Ext.refl _ | assumption | refine Ext.alloc ?_ _ | refine Ext.drewN ?_ _ | refine Ext.drew ?_))⟩
  · rcases and_one (i / 2 ^ g.a.toNat) with hA | hA <;> rcases (by omega : bit = 0 ∨ bit = 1) with hbit | hbit
    · skip
      have tA : bt i g.a = 0 := hA
      have HT : Hid (psI g i bit = bits .or .i64 (bits .andNot .i64 i (P2 g.a)) (wrap64 (bit * 2 ^ g.a.toNat))) := by unfold Hid psI; rw [if_pos HO.out]; unfold psT; simp [hk]
      have HP : Hid (psJ g i k bit = (k + 0) % 8) := by unfold Hid psJ; rw [if_pos HO.out]; unfold psP; simp [hk, tA, hbit]
      clear k1 k2 tA
      subst hbit
      go_wp2
      go_quiet ((go_at_call 131; exact quiet_left (l32Rest_any _ _ ⟨by omega, by omega⟩)))
      go_wp2
      go_ret2
      exact ⟨ret_two (by first | exact HT.out.symm | exact (xor0 i HI.out).trans HT.out.symm | (rw [HT.out]; simp [P2]; done) | (rw [HT.out]; simp [P2, wrap0]; done) | (rw [HT.out]; exact xor00 i HI.out)) (by rw [HP.out, ← HMM.out]; omega), (by repeat (first | exact Ext.refl _ | assumption | refine Ext.alloc ?_ _ | refine Ext.drewN ?_ _ | refine Ext.drew ?_))⟩
    · skip
      have tA : bt i g.a = 0 := hA
      have HT : Hid (psI g i bit = bits .or .i64 (bits .andNot .i64 i (P2 g.a)) (wrap64 (bit * 2 ^ g.a.toNat))) := by unfold Hid psI; rw [if_pos HO.out]; unfold psT; simp [hk]
      have HP : Hid (psJ g i k bit = (k + 0) % 8) := by unfold Hid psJ; rw [if_pos HO.out]; unfold psP; simp [hk, tA, hbit]
      clear k1 k2 tA
      subst hbit
      go_wp2
      go_quiet ((go_at_call 131; exact quiet_left (l32Rest_any _ _ ⟨by omega, by omega⟩)))
      go_wp2
      go_ret2
      exact ⟨ret_two (by first | exact HT.out.symm | exact (xor0 i HI.out).trans HT.out.symm | (rw [HT.out]; simp [P2]; done) | (rw [HT.out]; simp [P2, wrap0]; done) | (rw [HT.out]; exact xor00 i HI.out)) (by rw [HP.out, ← HMM.out]; omega), (by repeat (first | exact Ext.refl _ | assumption | refine Ext.alloc ?_ _ | refine Ext.drewN ?_ _ | refine Ext.drew ?_))⟩
    · skip
      have tA : bt i g.a = 1 := hA
      have HT : Hid (psI g i bit = bits .or .i64 (bits .andNot .i64 i (P2 g.a)) (wrap64 (bit * 2 ^ g.a.toNat))) := by unfold Hid psI; rw [if_pos HO.out]; unfold psT; simp [hk]
      have HP : Hid (psJ g i k bit = (k + 0) % 8) := by unfold Hid psJ; rw [if_pos HO.out]; unfold psP; simp [hk, tA, hbit]
      clear k1 k2 tA
      subst hbit
      go_wp2
      go_quiet ((go_at_call 131; exact quiet_left (l32Rest_any _ _ ⟨by omega, by omega⟩)))
      go_wp2
      go_ret2
      exact ⟨ret_two (by first | exact HT.out.symm | exact (xor0 i HI.out).trans HT.out.symm | (rw [HT.out]; simp [P2]; done) | (rw [HT.out]; simp [P2, wrap0]; done) | (rw [HT.out]; exact xor00 i HI.out)) (by rw [HP.out, ← HMM.out]; omega), (by repeat (first | exact Ext.refl _ | assumption | refine Ext.alloc ?_ _ | refine Ext.drewN ?_ _ | refine Ext.drew ?_))⟩
    · skip
      have tA : bt i g.a = 1 := hA
      have HT : Hid (psI g i bit = bits .or .i64 (bits .andNot .i64 i (P2 g.a)) (wrap64 (bit * 2 ^ g.a.toNat))) := by unfold Hid psI; rw [if_pos HO.out]; unfold psT; simp [hk]
      have HP : Hid (psJ g i k bit = (k + 4) % 8) := by unfold Hid psJ; rw [if_pos HO.out]; unfold psP; simp [hk, tA, hbit]
      clear k1 k2 tA
      subst hbit
      go_wp2
      go_quiet ((go_at_call 131; exact quiet_left (l32Rest_any _ _ ⟨by omega, by omega⟩)))
      go_wp2
      go_ret2
      exact ⟨ret_two (by first | exact HT.out.symm | exact (xor0 i HI.out).trans HT.out.symm | (rw [HT.out]; simp [P2]; done) | (rw [HT.out]; simp [P2, wrap0]; done) | (rw [HT.out]; exact xor00 i HI.out)) (by rw [HP.out, ← HMM.out]; omega), (by repeat (first | exact Ext.refl _ | assumption | refine Ext.alloc ?_ _ | refine Ext.drewN ?_ _ | refine Ext.drew ?_))⟩
  · rcases and_one (i / 2 ^ g.a.toNat) with hA | hA
    · skip
      have tA : bt i g.a = 0 := hA
      have HT : Hid (psI g i bit = i) := by unfold Hid psI; rw [if_pos HO.out]; unfold psT; simp [hk]
      have HP : Hid (psJ g i k bit = (k + 0) % 8) := by unfold Hid psJ; rw [if_pos HO.out]; unfold psP; simp [hk, tA]
      clear k1 k2 tA
      go_wp2_with (first | (go_at_call 131; refine (l32Rest_any _ _ ⟨by omega, by omega⟩).mono ?_; rintro e w3 ⟨rfl, rfl⟩) | go_in)
      go_ret2
      exact ⟨ret_two (by first | exact HT.out.symm | exact (xor0 i HI.out).trans HT.out.symm | (rw [HT.out]; simp [P2]; done) | (rw [HT.out]; simp [P2, wrap0]; done) | (rw [HT.out]; exact xor00 i HI.out)) (by rw [HP.out, ← HMM.out]; omega), (by repeat (first | exact Ext.refl _ | assumption | refine Ext.alloc ?_ _ | refine Ext.drewN ?_ _ | refine Ext.drew ?_))⟩
    · skip
      have tA : bt i g.a = 1 := hA
      have HT : Hid (psI g i bit = i) := by unfold Hid psI; rw [if_pos HO.out]; unfold psT; simp [hk]
      have HP : Hid (psJ g i k bit = (k + 2) % 8) := by unfold Hid psJ; rw [if_pos HO.out]; unfold psP; simp [hk, tA]
      clear k1 k2 tA
      go_wp2_with (first | (go_at_call 131; refine (l32Rest_any _ _ ⟨by omega, by omega⟩).mono ?_; rintro e w3 ⟨rfl, rfl⟩) | go_in)
      go_ret2
      exact ⟨ret_two (by first | exact HT.out.symm | exact (xor0 i HI.out).trans HT.out.symm | (rw [HT.out]; simp [P2]; done) | (rw [HT.out]; simp [P2, wrap0]; done) | (rw [HT.out]; exact xor00 i HI.out)) (by rw [HP.out, ← HMM.out]; omega), (by repeat (first | exact Ext.refl _ | assumption | refine Ext.alloc ?_ _ | refine Ext.drewN ?_ _ | refine Ext.drew ?_))⟩
  · rcases and_one (i / 2 ^ g.a.toNat) with hA | hA
    · skip
      have tA : bt i g.a = 0 := hA
      have HT : Hid (psI g i bit = i) := by unfold Hid psI; rw [if_pos HO.out]; unfold psT; simp [hk]
      have HP : Hid (psJ g i k bit = (k + 0) % 8) := by unfold Hid psJ; rw [if_pos HO.out]; unfold psP; simp [hk, tA]
      clear k1 k2 tA
      go_wp2_with (first | (go_at_call 131; refine (l32Rest_any _ _ ⟨by omega, by omega⟩).mono ?_; rintro e w3 ⟨rfl, rfl⟩) | go_in)
      go_ret2
      exact ⟨ret_two (by first | exact HT.out.symm | exact (xor0 i HI.out).trans HT.out.symm | (rw [HT.out]; simp [P2]; done) | (rw [HT.out]; simp [P2, wrap0]; done) | (rw [HT.out]; exact xor00 i HI.out)) (by rw [HP.out, ← HMM.out]; omega), (by repeat (first | exact Ext.refl _ | assumption | refine Ext.alloc ?_ _ | refine Ext.drewN ?_ _ | refine Ext.drew ?_))⟩
    · skip
      have tA : bt i g.a = 1 := hA
      have HT : Hid (psI g i bit = i) := by unfold Hid psI; rw [if_pos HO.out]; unfold psT; simp [hk]
      have HP : Hid (psJ g i k bit = (k + 6) % 8) := by unfold Hid psJ; rw [if_pos HO.out]; unfold psP; simp [hk, tA]
      clear k1 k2 tA
      go_wp2_with (first | (go_at_call 131; refine (l32Rest_any _ _ ⟨by omega, by omega⟩).mono ?_; rintro e w3 ⟨rfl, rfl⟩) | go_in)
      go_ret2
      exact ⟨ret_two (by first | exact HT.out.symm | exact (xor0 i HI.out).trans HT.out.symm | (rw [HT.out]; simp [P2]; done) | (rw [HT.out]; simp [P2, wrap0]; done) | (rw [HT.out]; exact xor00 i HI.out)) (by rw [HP.out, ← HMM.out]; omega), (by repeat (first | exact Ext.refl _ | assumption | refine Ext.alloc ?_ _ | refine Ext.drewN ?_ _ | refine Ext.drew ?_))⟩
  · rcases and_one (i / 2 ^ g.a.toNat) with hA | hA
    · skip
      have tA : bt i g.a = 0 := hA
      have HT : Hid (psI g i bit = i) := by unfold Hid psI; rw [if_pos HO.out]; unfold psT; simp [hk]
      have HP : Hid (psJ g i k bit = (k + 0) % 8) := by unfold Hid psJ; rw [if_pos HO.out]; unfold psP; simp [hk, tA]
      clear k1 k2 tA
      go_wp2_with (first | (go_at_call 131; refine (l32Rest_any _ _ ⟨by omega, by omega⟩).mono ?_; rintro e w3 ⟨rfl, rfl⟩) | go_in)
      go_ret2
      exact ⟨ret_two (by first | exact HT.out.symm | exact (xor0 i HI.out).trans HT.out.symm | (rw [HT.out]; simp [P2]; done) | (rw [HT.out]; simp [P2, wrap0]; done) | (rw [HT.out]; exact xor00 i HI.out)) (by rw [HP.out, ← HMM.out]; omega), (by repeat (first | exact Ext.refl _ | assumption | refine Ext.alloc ?_ _ | refine Ext.drewN ?_ _ | refine Ext.drew ?_))⟩
    · skip
      have tA : bt i g.a = 1 := hA
      have HT : Hid (psI g i bit = i) := by unfold Hid psI; rw [if_pos HO.out]; unfold psT; simp [hk]
      have HP : Hid (psJ g i k bit = (k + 1) % 8) := by unfold Hid psJ; rw [if_pos HO.out]; unfold psP; simp [hk, tA]
      clear k1 k2 tA
      go_wp2_with (first | (go_at_call 131; refine (l32Rest_any _ _ ⟨by omega, by omega⟩).mono ?_; rintro e w3 ⟨rfl, rfl⟩) | go_in)
      go_ret2
      exact ⟨ret_two (by first | exact HT.out.symm | exact (xor0 i HI.out).trans HT.out.symm | (rw [HT.out]; simp [P2]; done) | (rw [HT.out]; simp [P2, wrap0]; done) | (rw [HT.out]; exact xor00 i HI.out)) (by rw [HP.out, ← HMM.out]; omega), (by repeat (first | exact Ext.refl _ | assumption | refine Ext.alloc ?_ _ | refine Ext.drewN ?_ _ | refine Ext.drew ?_))⟩
  · rcases and_one (i / 2 ^ g.a.toNat) with hA | hA
    · skip
      have tA : bt i g.a = 0 := hA
      have HT : Hid (psI g i bit = i) := by unfold Hid psI; rw [if_pos HO.out]; unfold psT; simp [hk]
      have HP : Hid (psJ g i k bit = (k + 0) % 8) := by unfold Hid psJ; rw [if_pos HO.out]; unfold psP; simp [hk, tA]
      clear k1 k2 tA
      go_wp2_with (first | (go_at_call 131; refine (l32Rest_any _ _ ⟨by omega, by omega⟩).mono ?_; rintro e w3 ⟨rfl, rfl⟩) | go_in)
      go_ret2
      exact ⟨ret_two (by first | exact HT.out.symm | exact (xor0 i HI.out).trans HT.out.symm | (rw [HT.out]; simp [P2]; done) | (rw [HT.out]; simp [P2, wrap0]; done) | (rw [HT.out]; exact xor00 i HI.out)) (by rw [HP.out, ← HMM.out]; omega), (by repeat (first | exact Ext.refl _ | assumption | refine Ext.alloc ?_ _ | refine Ext.drewN ?_ _ | refine Ext.drew ?_))⟩
    · skip
      have tA : bt i g.a = 1 := hA
      have HT : Hid (psI g i bit = i) := by unfold Hid psI; rw [if_pos HO.out]; unfold psT; simp [hk]
      have HP : Hid (psJ g i k bit = (k + 7) % 8) := by unfold Hid psJ; rw [if_pos HO.out]; unfold psP; simp [hk, tA]
      clear k1 k2 tA
      go_wp2_with (first | (go_at_call 131; refine (l32Rest_any _ _ ⟨by omega, by omega⟩).mono ?_; rintro e w3 ⟨rfl, rfl⟩) | go_in)
      go_ret2
      exact ⟨ret_two (by first | exact HT.out.symm | exact (xor0 i HI.out).trans HT.out.symm | (rw [HT.out]; simp [P2]; done) | (rw [HT.out]; simp [P2, wrap0]; done) | (rw [HT.out]; exact xor00 i HI.out)) (by rw [HP.out, ← HMM.out]; omega), (by repeat (first | exact Ext.refl _ | assumption | refine Ext.alloc ?_ _ | refine Ext.drewN ?_ _ | refine Ext.drew ?_))⟩
  · rcases and_one (i / 2 ^ g.a.toNat) with hA | hA
    · skip
      have tA : bt i g.a = 0 := hA
      have HT : Hid (psI g i bit = i) := by unfold Hid psI; rw [if_pos HO.out]; unfold psT; simp [hk, tA]
      have HP : Hid (psJ g i k bit = (k + 0) % 8) := by unfold Hid psJ; rw [if_pos HO.out]; unfold psP; simp [hk]
      clear k1 k2 tA
      go_wp2
      go_ret2
      exact ⟨ret_two (by first | exact HT.out.symm | exact (xor0 i HI.out).trans HT.out.symm | (rw [HT.out]; simp [P2]; done) | (rw [HT.out]; simp [P2, wrap0]; done) | (rw [HT.out]; exact xor00 i HI.out)) (by rw [HP.out, ← HMM.out]; omega), (by repeat (first | exact Ext.refl _ | assumption | refine Ext.alloc ?_ _ | refine Ext.drewN ?_ _ | refine Ext.drew ?_))⟩
    · skip
      have tA : bt i g.a = 1 := hA
      have HT : Hid (psI g i bit = xr i (P2 g.b)) := by unfold Hid psI; rw [if_pos HO.out]; unfold psT; simp [hk, tA]
      have HP : Hid (psJ g i k bit = (k + 0) % 8) := by unfold Hid psJ; rw [if_pos HO.out]; unfold psP; simp [hk]
      clear k1 k2 tA
      go_wp2
      go_ret2
      exact ⟨ret_two (by first | exact HT.out.symm | exact (xor0 i HI.out).trans HT.out.symm | (rw [HT.out]; simp [P2]; done) | (rw [HT.out]; simp [P2, wrap0]; done) | (rw [HT.out]; exact xor00 i HI.out)) (by rw [HP.out, ← HMM.out]; omega), (by repeat (first | exact Ext.refl _ | assumption | refine Ext.alloc ?_ _ | refine Ext.drewN ?_ _ | refine Ext.drew ?_))⟩
  · rcases and_one (i / 2 ^ g.a.toNat) with hA | hA <;> rcases and_one (i / 2 ^ g.b.toNat) with hB | hB
    · skip
      have tA : bt i g.a = 0 := hA
      have tB : bt i g.b = 0 := hB
      have HT : Hid (psI g i bit = i) := by unfold Hid psI; rw [if_pos HO.out]; unfold psT; simp [hk]
      have HP : Hid (psJ g i k bit = (k + 0) % 8) := by unfold Hid psJ; rw [if_pos HO.out]; unfold psP; simp [hk, tA, tB]
      clear k1 k2 tA tB
      go_wp2_with (first | (go_at_call 131; refine (l32Rest_any _ _ ⟨by omega, by omega⟩).mono ?_; rintro e w3 ⟨rfl, rfl⟩) | go_in)
      go_ret2
      exact ⟨ret_two (by first | exact HT.out.symm | exact (xor0 i HI.out).trans HT.out.symm | (rw [HT.out]; simp [P2]; done) | (rw [HT.out]; simp [P2, wrap0]; done) | (rw [HT.out]; exact xor00 i HI.out)) (by rw [HP.out, ← HMM.out]; omega), (by repeat (first | exact Ext.refl _ | assumption | refine Ext.alloc ?_ _ | refine Ext.drewN ?_ _ | refine Ext.drew ?_))⟩
    · skip
      have tA : bt i g.a = 0 := hA
      have tB : bt i g.b = 1 := hB
      have HT : Hid (psI g i bit = i) := by unfold Hid psI; rw [if_pos HO.out]; unfold psT; simp [hk]
      have HP : Hid (psJ g i k bit = (k + 0) % 8) := by unfold Hid psJ; rw [if_pos HO.out]; unfold psP; simp [hk, tA, tB]
      clear k1 k2 tA tB
      go_wp2_with (first | (go_at_call 131; refine (l32Rest_any _ _ ⟨by omega, by omega⟩).mono ?_; rintro e w3 ⟨rfl, rfl⟩) | go_in)
      go_ret2
      exact ⟨ret_two (by first | exact HT.out.symm | exact (xor0 i HI.out).trans HT.out.symm | (rw [HT.out]; simp [P2]; done) | (rw [HT.out]; simp [P2, wrap0]; done) | (rw [HT.out]; exact xor00 i HI.out)) (by rw [HP.out, ← HMM.out]; omega), (by repeat (first | exact Ext.refl _ | assumption | refine Ext.alloc ?_ _ | refine Ext.drewN ?_ _ | refine Ext.drew ?_))⟩
    · skip
      have tA : bt i g.a = 1 := hA
      have tB : bt i g.b = 0 := hB
      have HT : Hid (psI g i bit = i) := by unfold Hid psI; rw [if_pos HO.out]; unfold psT; simp [hk]
      have HP : Hid (psJ g i k bit = (k + 0) % 8) := by unfold Hid psJ; rw [if_pos HO.out]; unfold psP; simp [hk, tA, tB]
      clear k1 k2 tA tB
      go_wp2_with (first | (go_at_call 131; refine (l32Rest_any _ _ ⟨by omega, by omega⟩).mono ?_; rintro e w3 ⟨rfl, rfl⟩) | go_in)
      go_ret2
      exact ⟨ret_two (by first | exact HT.out.symm | exact (xor0 i HI.out).trans HT.out.symm | (rw [HT.out]; simp [P2]; done) | (rw [HT.out]; simp [P2, wrap0]; done) | (rw [HT.out]; exact xor00 i HI.out)) (by rw [HP.out, ← HMM.out]; omega), (by repeat (first | exact Ext.refl _ | assumption | refine Ext.alloc ?_ _ | refine Ext.drewN ?_ _ | refine Ext.drew ?_))⟩
    · skip
      have tA : bt i g.a = 1 := hA
      have tB : bt i g.b = 1 := hB
      have HT : Hid (psI g i bit = i) := by unfold Hid psI; rw [if_pos HO.out]; unfold psT; simp [hk]
      have HP : Hid (psJ g i k bit = (k + 4) % 8) := by unfold Hid psJ; rw [if_pos HO.out]; unfold psP; simp [hk, tA, tB]
      clear k1 k2 tA tB
      go_wp2_with (first | (go_at_call 131; refine (l32Rest_any _ _ ⟨by omega, by omega⟩).mono ?_; rintro e w3 ⟨rfl, rfl⟩) | go_in)
      go_ret2
      exact ⟨ret_two (by first | exact HT.out.symm | exact (xor0 i HI.out).trans HT.out.symm | (rw [HT.out]; simp [P2]; done) | (rw [HT.out]; simp [P2, wrap0]; done) | (rw [HT.out]; exact xor00 i HI.out)) (by rw [HP.out, ← HMM.out]; omega), (by repeat (first | exact Ext.refl _ | assumption | refine Ext.alloc ?_ _ | refine Ext.drewN ?_ _ | refine Ext.drew ?_))⟩
  · rcases and_one (i / 2 ^ g.a.toNat) with hA | hA <;> rcases and_one (i / 2 ^ g.b.toNat) with hB | hB
    · skip
      have tA : bt i g.a = 0 := hA
      have tB : bt i g.b = 0 := hB
      have HT : Hid (psI g i bit = i) := by unfold Hid psI; rw [if_pos HO.out]; unfold psT; simp [hk, tA, tB]
      have HP : Hid (psJ g i k bit = (k + 0) % 8) := by unfold Hid psJ; rw [if_pos HO.out]; unfold psP; simp [hk]
      clear k1 k2 tA tB
      go_wp2
      go_ret2
      exact ⟨ret_two (by rw [HT.out, X00, Int.zero_mul, Int.zero_mul, wrap0]; exact xor00 i HI.out) (by rw [HP.out, ← HMM.out]; omega), (by repeat (first | exact Ext.refl _ | assumption | refine Ext.alloc ?_ _ | refine Ext.drewN ?_ _ | refine Ext.drew ?_))⟩
    · skip
      have tA : bt i g.a = 0 := hA
      have tB : bt i g.b = 1 := hB
      have HT : Hid (psI g i bit = xr (xr i (P2 g.a)) (P2 g.b)) := by unfold Hid psI; rw [if_pos HO.out]; unfold psT; simp [hk, tA, tB]
      have HP : Hid (psJ g i k bit = (k + 0) % 8) := by unfold Hid psJ; rw [if_pos HO.out]; unfold psP; simp [hk]
      clear k1 k2 tA tB
      go_wp2
      go_ret2
      exact ⟨ret_two (by rw [HT.out, X01, Int.one_mul, Int.one_mul]; rfl) (by rw [HP.out, ← HMM.out]; omega), (by repeat (first | exact Ext.refl _ | assumption | refine Ext.alloc ?_ _ | refine Ext.drewN ?_ _ | refine Ext.drew ?_))⟩
    · skip
      have tA : bt i g.a = 1 := hA
      have tB : bt i g.b = 0 := hB
      have HT : Hid (psI g i bit = xr (xr i (P2 g.a)) (P2 g.b)) := by unfold Hid psI; rw [if_pos HO.out]; unfold psT; simp [hk, tA, tB]
      have HP : Hid (psJ g i k bit = (k + 0) % 8) := by unfold Hid psJ; rw [if_pos HO.out]; unfold psP; simp [hk]
      clear k1 k2 tA tB
      go_wp2
      go_ret2
      exact ⟨ret_two (by rw [HT.out, X10, Int.one_mul, Int.one_mul]; rfl) (by rw [HP.out, ← HMM.out]; omega), (by repeat (first | exact Ext.refl _ | assumption | refine Ext.alloc ?_ _ | refine Ext.drewN ?_ _ | refine Ext.drew ?_))⟩
    · skip
      have tA : bt i g.a = 1 := hA
      have tB : bt i g.b = 1 := hB
      have HT : Hid (psI g i bit = i) := by unfold Hid psI; rw [if_pos HO.out]; unfold psT; simp [hk, tA, tB]
      have HP : Hid (psJ g i k bit = (k + 0) % 8) := by unfold Hid psJ; rw [if_pos HO.out]; unfold psP; simp [hk]
      clear k1 k2 tA tB
      go_wp2
      go_ret2
      exact ⟨ret_two (by rw [HT.out, X11, Int.zero_mul, Int.zero_mul, wrap0]; exact xor00 i HI.out) (by rw [HP.out, ← HMM.out]; omega), (by repeat (first | exact Ext.refl _ | assumption | refine Ext.alloc ?_ _ | refine Ext.drewN ?_ _ | refine Ext.drew ?_))⟩
  · rcases and_one (i / 2 ^ g.a.toNat) with hA | hA <;> rcases and_one (i / 2 ^ g.b.toNat) with hB | hB
    · skip
      have tA : bt i g.a = 0 := hA
      have tB : bt i g.b = 0 := hB
      have HT : Hid (psI g i bit = i) := by unfold Hid psI; rw [if_pos HO.out]; unfold psT; simp [hk, tA, tB]
      have HP : Hid (psJ g i k bit = (k + 0) % 8) := by unfold Hid psJ; rw [if_pos HO.out]; unfold psP; simp [hk]
      clear k1 k2 tA tB
      go_wp2
      go_ret2
      exact ⟨ret_two (by rw [HT.out, N00, Int.zero_mul, wrap0]; exact xor0 i HI.out) (by rw [HP.out, ← HMM.out]; omega), (by repeat (first | exact Ext.refl _ | assumption | refine Ext.alloc ?_ _ | refine Ext.drewN ?_ _ | refine Ext.drew ?_))⟩
    · skip
      have tA : bt i g.a = 0 := hA
      have tB : bt i g.b = 1 := hB
      have HT : Hid (psI g i bit = i) := by unfold Hid psI; rw [if_pos HO.out]; unfold psT; simp [hk, tA, tB]
      have HP : Hid (psJ g i k bit = (k + 0) % 8) := by unfold Hid psJ; rw [if_pos HO.out]; unfold psP; simp [hk]
      clear k1 k2 tA tB
      go_wp2
      go_ret2
      exact ⟨ret_two (by rw [HT.out, N01, Int.zero_mul, wrap0]; exact xor0 i HI.out) (by rw [HP.out, ← HMM.out]; omega), (by repeat (first | exact Ext.refl _ | assumption | refine Ext.alloc ?_ _ | refine Ext.drewN ?_ _ | refine Ext.drew ?_))⟩
    · skip
      have tA : bt i g.a = 1 := hA
      have tB : bt i g.b = 0 := hB
      have HT : Hid (psI g i bit = i) := by unfold Hid psI; rw [if_pos HO.out]; unfold psT; simp [hk, tA, tB]
      have HP : Hid (psJ g i k bit = (k + 0) % 8) := by unfold Hid psJ; rw [if_pos HO.out]; unfold psP; simp [hk]
      clear k1 k2 tA tB
      go_wp2
      go_ret2
      exact ⟨ret_two (by rw [HT.out, N10, Int.zero_mul, wrap0]; exact xor0 i HI.out) (by rw [HP.out, ← HMM.out]; omega), (by repeat (first | exact Ext.refl _ | assumption | refine Ext.alloc ?_ _ | refine Ext.drewN ?_ _ | refine Ext.drew ?_))⟩
    · skip
      have tA : bt i g.a = 1 := hA
      have tB : bt i g.b = 1 := hB
      have HT : Hid (psI g i bit = xr i (P2 g.c)) := by unfold Hid psI; rw [if_pos HO.out]; unfold psT; simp [hk, tA, tB]
      have HP : Hid (psJ g i k bit = (k + 0) % 8) := by unfold Hid psJ; rw [if_pos HO.out]; unfold psP; simp [hk]
      clear k1 k2 tA tB
      go_wp2
      go_ret2
      exact ⟨ret_two (by rw [HT.out, N11, Int.one_mul]; rfl) (by rw [HP.out, ← HMM.out]; omega), (by repeat (first | exact Ext.refl _ | assumption | refine Ext.alloc ?_ _ | refine Ext.drewN ?_ _ | refine Ext.drew ?_))⟩
end Go.Proofs.Ytnnenocjmkbocaa
