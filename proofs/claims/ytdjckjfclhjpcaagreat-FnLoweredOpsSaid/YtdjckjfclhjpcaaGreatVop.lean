/-
 Helper text (no claim of its own): validity of an operation, by the program and by the reference.
-/
import Derived.Test.YtdjckjfclhjpcaaGreatSvg
import Derived.Test.YtdjckjfclhjpcaaGreatCmp
namespace Go.Proofs.YtdjckjfclhjpcaaGreat
open Go.ChangeShapes Go.WideShapes Go.ChangeAt Go.RowKit Go.Deep
def inB (x lo hi : Int) : Bool := decide (lo ≤ x) && decide (x ≤ hi)
theorem inB_no {x lo hi : Int} (h : x < lo ∨ hi < x) : inB x lo hi = false := by
 unfold inB
 rcases h with h | h
 ·rw [decide_eq_false (by omega), Bool.false_and]
 ·rw [decide_eq_false (p := x ≤ hi) (by omega), Bool.and_false]
theorem inB_yes {x lo hi : Int} (h1 : lo ≤ x) (h2 : x ≤ hi) : inB x lo hi = true := by
 unfold inB
 rw [decide_eq_true h1, decide_eq_true h2, Bool.and_true]
def Oq.g1 (o : Oq) : Oq := ⟨o.k, o.g, 0, 0, o.cond⟩
def Oq.g2 (o : Oq) : Oq := ⟨o.k, ⟨0, 0, 0, 0⟩, o.q, o.bit, 0⟩
def Oq.g3 (o : Oq) : Oq := ⟨o.k, ⟨0, 0, 0, 0⟩, o.q, 0, 0⟩
def vOp (o : Oq) (n bits : Int) : Bool :=
 inB n 1 4 && inB bits 0 3 && (if o.k = 1 then eqO o o.g1 && vg o.g n && inB o.cond 0 bits
  else if o.k = 2 then eqO o o.g2 && inB o.q 0 (n - 1) && inB o.bit 0 (bits - 1)
  else if o.k = 3 then eqO o o.g3 && inB o.q 0 (n - 1) else false)
theorem vOp_n {o : Oq} {n bits : Int} (h : inB n 1 4 = false) : vOp o n bits = false := by unfold vOp; rw [h, Bool.false_and, Bool.false_and]
theorem vOp_b {o : Oq} {n bits : Int} (h : inB bits 0 3 = false) : vOp o n bits = false := by unfold vOp; rw [h, Bool.and_false, Bool.false_and]
theorem vOp_1 {o : Oq} {n bits : Int} (h : inB n 1 4 = true) (h' : inB bits 0 3 = true) (hk : o.k = 1) : vOp o n bits = (eqO o o.g1 && vg o.g n && inB o.cond 0 bits) := by unfold vOp; rw [h, h', if_pos hk]; rfl
theorem vOp_2 {o : Oq} {n bits : Int} (h : inB n 1 4 = true) (h' : inB bits 0 3 = true) (hk : o.k = 2) : vOp o n bits = (eqO o o.g2 && inB o.q 0 (n - 1) && inB o.bit 0 (bits - 1)) := by unfold vOp; rw [h, h', if_neg (by omega), if_pos hk]; rfl
theorem vOp_3 {o : Oq} {n bits : Int} (h : inB n 1 4 = true) (h' : inB bits 0 3 = true) (hk : o.k = 3) : vOp o n bits = (eqO o o.g3 && inB o.q 0 (n - 1)) := by unfold vOp; rw [h, h', if_neg (by omega), if_neg (by omega), if_pos hk]; rfl
theorem vOp_0 {o : Oq} {n bits : Int} (h1 : ¬ o.k = 1) (h2 : ¬ o.k = 2) (h3 : ¬ o.k = 3) : vOp o n bits = false := by unfold vOp; rw [if_neg h1, if_neg h2, if_neg h3, Bool.and_false]
set_option maxRecDepth 100000 in
set_option maxHeartbeats 4000000 in
theorem spec_IsValidOp_any (o : Oq) (n bits : Int) (w : World) :
  Calls Tryz.prog 41 #[o.val, .int .i64 n, .int .i64 bits] w fun e w' => e = .returned (.bool (vOp o n bits)) ∧ Ext w w' := by
 obtain ⟨k, ⟨gk, ga, gb, gc⟩, q, bit, cond⟩ := o
 generalize hV : vOp (⟨k, ⟨gk, ga, gb, gc⟩, q, bit, cond⟩ : Oq) n bits = V
 have HV := Lib.hid hV
 clear hV
 show Calls Tryz.prog 41 #[.agg #[.int .i64 k, .int .i64 gk, .int .i64 ga, .int .i64 gb, .int .i64 gc, .int .i64 q, .int .i64 bit, .int .i64 cond], .int .i64 n, .int .i64 bits] w _
 go_enter Tryz.func41, Tryz.ntmps41
 by_cases hn : n < 1 ∨ 4 < n
 ·have Hhn := Lib.hid hn
  have Ihn := Lib.hid (inB_no hn)
  clear hn
  go_wp2_with fail
  refine (l1In_no _ _ _ _ Hhn.out).mono ?_
  rintro e w1 ⟨rfl, rfl⟩
  have HF := Lib.hid (vOp_n (o := (⟨k, ⟨gk, ga, gb, gc⟩, q, bit, cond⟩ : Oq)) (bits := bits) Ihn.out)
  go_wp2
  go_ret
  exact ⟨ret_bool (HV.out.symm.trans (HF.out)).symm, (by exact xx)⟩
 have Ihn := Lib.hid (inB_yes (show 1 ≤ n by omega) (show n ≤ 4 by omega))
 have Jhn := Lib.hid (show 1 ≤ n ∧ n ≤ 4 from ⟨by omega, by omega⟩)
 by_cases hb : bits < 0 ∨ 3 < bits
 ·have Hhb := Lib.hid hb
  have Ihb := Lib.hid (inB_no hb)
  clear hb
  go_wp2_with fail
  refine (l1In_yes _ _ _ _ Jhn.out.1 Jhn.out.2).mono ?_
  rintro e w1 ⟨rfl, rfl⟩
  go_wp2_with fail
  refine (l1In_no _ _ _ _ Hhb.out).mono ?_
  rintro e w1 ⟨rfl, rfl⟩
  have HF := Lib.hid (vOp_b (o := (⟨k, ⟨gk, ga, gb, gc⟩, q, bit, cond⟩ : Oq)) (n := n) Ihb.out)
  go_wp2
  go_ret
  exact ⟨ret_bool (HV.out.symm.trans (HF.out)).symm, (by exact xx)⟩
 have Ihb := Lib.hid (inB_yes (show 0 ≤ bits by omega) (show bits ≤ 3 by omega))
 have Jhb := Lib.hid (show 0 ≤ bits ∧ bits ≤ 3 from ⟨by omega, by omega⟩)
 have hb1 : 0 ≤ bits := Jhb.out.1
 have hb2 : bits ≤ 3 := Jhb.out.2
 have hn1 : 1 ≤ n := Jhn.out.1
 have hn2 : n ≤ 4 := Jhn.out.2
 clear hn hb
 go_wp2_with fail
 refine (l1In_yes _ _ _ _ hn1 hn2).mono ?_
 rintro e w1 ⟨rfl, rfl⟩
 go_wp2_with fail
 refine (l1In_yes _ _ _ _ hb1 hb2).mono ?_
 rintro e w1 ⟨rfl, rfl⟩
 by_cases hk1 : k = 1
 ·subst hk1
  by_cases hzq : q = 0
  ·subst hzq
   by_cases hzbit : bit = 0
   ·subst hzbit
    have HR := Lib.hid (vOp_1 (o := (⟨1, ⟨gk, ga, gb, gc⟩, 0, 0, cond⟩ : Oq)) Ihn.out Ihb.out rfl)
    go_wp2_with fail
    refine (spec_IsValidGate_any ⟨gk, ga, gb, gc⟩ n _).mono ?_
    rintro e w1 ⟨rfl, hy1⟩
    have hB : Blk w1 w.heap.size 40 #[.int .i64 1, .int .i64 gk, .int .i64 ga, .int .i64 gb, .int .i64 gc, .int .i64 0, .int .i64 0, .int .i64 cond] := (Blk.new w _ _).ext hy1
    have b7 : w1.cell? ⟨w.heap.size, 7, none⟩ = some (.int .i64 cond) := hB.cell 7
    have hx : Ext w w1 := Ext.trans (by exact xx) hy1
    cases hv : vg ⟨gk, ga, gb, gc⟩ n
    ·have HF : Hid (vOp (⟨1, ⟨gk, ga, gb, gc⟩, 0, 0, cond⟩ : Oq) n bits = false) := by unfold Hid; rw [HR.out, hv]; simp [eqO, eqG, Oq.g1]
     go_wp2
     go_ret
     exact ⟨ret_bool (HV.out.symm.trans (HF.out)).symm, (by exact xx)⟩
    ·have HF : Hid (vOp (⟨1, ⟨gk, ga, gb, gc⟩, 0, 0, cond⟩ : Oq) n bits = inB cond 0 bits) := by unfold Hid; rw [HR.out, hv]; simp [eqO, eqG, Oq.g1]
     by_cases hc : cond < 0 ∨ bits < cond
     ·have Hhc := Lib.hid hc
      have Ihc := Lib.hid (inB_no hc)
      clear hc
      go_wp2_with fail
      refine (l1In_no _ _ _ _ Hhc.out).mono ?_
      rintro e w1 ⟨rfl, rfl⟩
      go_wp2
      go_ret
      exact ⟨ret_bool (HV.out.symm.trans (HF.out.trans Ihc.out)).symm, (by exact xx)⟩
     ·have Ihc := Lib.hid (inB_yes (show 0 ≤ cond by omega) (show cond ≤ bits by omega))
      have Jhc := Lib.hid (show 0 ≤ cond ∧ cond ≤ bits from ⟨by omega, by omega⟩)
      go_wp2_with fail
      refine (l1In_yes _ _ _ _ Jhc.out.1 Jhc.out.2).mono ?_
      rintro e w1 ⟨rfl, rfl⟩
      go_wp2
      go_ret
      exact ⟨ret_bool (HV.out.symm.trans (HF.out.trans Ihc.out)).symm, (by exact xx)⟩
   ·have hzb : (bit == 0) = false := by simp [hzbit]
    have HF : Hid (vOp (⟨1, ⟨gk, ga, gb, gc⟩, 0, bit, cond⟩ : Oq) n bits = false) := by unfold Hid; rw [vOp_1 Ihn.out Ihb.out rfl]; simp [eqO, eqG, Oq.g1, hzb]
    clear hzbit
    go_wp2
    go_ret
    exact ⟨ret_bool (HV.out.symm.trans (HF.out)).symm, (by exact xx)⟩
  ·have hzb : (q == 0) = false := by simp [hzq]
   have HF : Hid (vOp (⟨1, ⟨gk, ga, gb, gc⟩, q, bit, cond⟩ : Oq) n bits = false) := by unfold Hid; rw [vOp_1 Ihn.out Ihb.out rfl]; simp [eqO, eqG, Oq.g1, hzb]
   clear hzq
   go_wp2
   go_ret
   exact ⟨ret_bool (HV.out.symm.trans (HF.out)).symm, (by exact xx)⟩
 have hkb1 : (k == 1) = false := by simp [hk1]
 by_cases hk2 : k = 2
 ·subst hk2
  by_cases hzgk : gk = 0
  ·subst hzgk
   by_cases hzga : ga = 0
   ·subst hzga
    by_cases hzgb : gb = 0
    ·subst hzgb
     by_cases hzgc : gc = 0
     ·subst hzgc
      by_cases hzcond : cond = 0
      ·subst hzcond
       have HR := Lib.hid (vOp_2 (o := (⟨2, ⟨0, 0, 0, 0⟩, q, bit, 0⟩ : Oq)) Ihn.out Ihb.out rfl)
       have HF : Hid (vOp (⟨2, ⟨0, 0, 0, 0⟩, q, bit, 0⟩ : Oq) n bits = (inB q 0 (n - 1) && inB bit 0 (bits - 1))) := by unfold Hid; rw [HR.out]; simp [eqO, eqG, Oq.g2]
       by_cases hq : q < 0 ∨ n - 1 < q
       ·have Hhq := Lib.hid hq
        have Ihq := Lib.hid (inB_no hq)
        clear hq
        go_wp2_with fail
        refine (l1In_no _ _ _ _ Hhq.out).mono ?_
        rintro e w1 ⟨rfl, rfl⟩
        go_wp2
        go_ret
        exact ⟨ret_bool (HV.out.symm.trans (HF.out.trans (by rw [Ihq.out]; rfl))).symm, (by exact xx)⟩
       ·have Ihq := Lib.hid (inB_yes (show 0 ≤ q by omega) (show q ≤ n - 1 by omega))
        have Jhq := Lib.hid (show 0 ≤ q ∧ q ≤ n - 1 from ⟨by omega, by omega⟩)
        go_wp2_with fail
        refine (l1In_yes _ _ _ _ Jhq.out.1 Jhq.out.2).mono ?_
        rintro e w1 ⟨rfl, rfl⟩
        by_cases hc : bit < 0 ∨ bits - 1 < bit
        ·have Hhc := Lib.hid hc
         have Ihc := Lib.hid (inB_no hc)
         clear hc
         go_wp2_with fail
         refine (l1In_no _ _ _ _ Hhc.out).mono ?_
         rintro e w1 ⟨rfl, rfl⟩
         go_wp2
         go_ret
         exact ⟨ret_bool (HV.out.symm.trans (HF.out.trans (by rw [Ihq.out, Ihc.out]; rfl))).symm, (by exact xx)⟩
        ·have Ihc := Lib.hid (inB_yes (show 0 ≤ bit by omega) (show bit ≤ bits - 1 by omega))
         have Jhc := Lib.hid (show 0 ≤ bit ∧ bit ≤ bits - 1 from ⟨by omega, by omega⟩)
         go_wp2_with fail
         refine (l1In_yes _ _ _ _ Jhc.out.1 Jhc.out.2).mono ?_
         rintro e w1 ⟨rfl, rfl⟩
         go_wp2
         go_ret
         exact ⟨ret_bool (HV.out.symm.trans (HF.out.trans (by rw [Ihq.out, Ihc.out]; rfl))).symm, (by exact xx)⟩
      ·have hzb : (cond == 0) = false := by simp [hzcond]
       have HF : Hid (vOp (⟨2, ⟨0, 0, 0, 0⟩, q, bit, cond⟩ : Oq) n bits = false) := by unfold Hid; rw [vOp_2 Ihn.out Ihb.out rfl]; simp [eqO, eqG, Oq.g2, hzb]
       clear hzcond
       go_wp2
       go_ret
       exact ⟨ret_bool (HV.out.symm.trans (HF.out)).symm, (by exact xx)⟩
     ·have hzb : (gc == 0) = false := by simp [hzgc]
      have HF : Hid (vOp (⟨2, ⟨0, 0, 0, gc⟩, q, bit, cond⟩ : Oq) n bits = false) := by unfold Hid; rw [vOp_2 Ihn.out Ihb.out rfl]; simp [eqO, eqG, Oq.g2, hzb]
      clear hzgc
      go_wp2
      go_ret
      exact ⟨ret_bool (HV.out.symm.trans (HF.out)).symm, (by exact xx)⟩
    ·have hzb : (gb == 0) = false := by simp [hzgb]
     have HF : Hid (vOp (⟨2, ⟨0, 0, gb, gc⟩, q, bit, cond⟩ : Oq) n bits = false) := by unfold Hid; rw [vOp_2 Ihn.out Ihb.out rfl]; simp [eqO, eqG, Oq.g2, hzb]
     clear hzgb
     go_wp2
     go_ret
     exact ⟨ret_bool (HV.out.symm.trans (HF.out)).symm, (by exact xx)⟩
   ·have hzb : (ga == 0) = false := by simp [hzga]
    have HF : Hid (vOp (⟨2, ⟨0, ga, gb, gc⟩, q, bit, cond⟩ : Oq) n bits = false) := by unfold Hid; rw [vOp_2 Ihn.out Ihb.out rfl]; simp [eqO, eqG, Oq.g2, hzb]
    clear hzga
    go_wp2
    go_ret
    exact ⟨ret_bool (HV.out.symm.trans (HF.out)).symm, (by exact xx)⟩
  ·have hzb : (gk == 0) = false := by simp [hzgk]
   have HF : Hid (vOp (⟨2, ⟨gk, ga, gb, gc⟩, q, bit, cond⟩ : Oq) n bits = false) := by unfold Hid; rw [vOp_2 Ihn.out Ihb.out rfl]; simp [eqO, eqG, Oq.g2, hzb]
   clear hzgk
   go_wp2
   go_ret
   exact ⟨ret_bool (HV.out.symm.trans (HF.out)).symm, (by exact xx)⟩
 have hkb2 : (k == 2) = false := by simp [hk2]
 by_cases hk3 : k = 3
 ·subst hk3
  by_cases hzgk : gk = 0
  ·subst hzgk
   by_cases hzga : ga = 0
   ·subst hzga
    by_cases hzgb : gb = 0
    ·subst hzgb
     by_cases hzgc : gc = 0
     ·subst hzgc
      by_cases hzbit : bit = 0
      ·subst hzbit
       by_cases hzcond : cond = 0
       ·subst hzcond
        have HR := Lib.hid (vOp_3 (o := (⟨3, ⟨0, 0, 0, 0⟩, q, 0, 0⟩ : Oq)) Ihn.out Ihb.out rfl)
        have HF : Hid (vOp (⟨3, ⟨0, 0, 0, 0⟩, q, 0, 0⟩ : Oq) n bits = inB q 0 (n - 1)) := by unfold Hid; rw [HR.out]; simp [eqO, eqG, Oq.g3]
        by_cases hq : q < 0 ∨ n - 1 < q
        ·have Hhq := Lib.hid hq
         have Ihq := Lib.hid (inB_no hq)
         clear hq
         go_wp2_with fail
         refine (l1In_no _ _ _ _ Hhq.out).mono ?_
         rintro e w1 ⟨rfl, rfl⟩
         go_wp2
         go_ret
         exact ⟨ret_bool (HV.out.symm.trans (HF.out.trans Ihq.out)).symm, (by exact xx)⟩
        ·have Ihq := Lib.hid (inB_yes (show 0 ≤ q by omega) (show q ≤ n - 1 by omega))
         have Jhq := Lib.hid (show 0 ≤ q ∧ q ≤ n - 1 from ⟨by omega, by omega⟩)
         go_wp2_with fail
         refine (l1In_yes _ _ _ _ Jhq.out.1 Jhq.out.2).mono ?_
         rintro e w1 ⟨rfl, rfl⟩
         go_wp2
         go_ret
         exact ⟨ret_bool (HV.out.symm.trans (HF.out.trans Ihq.out)).symm, (by exact xx)⟩
       ·have hzb : (cond == 0) = false := by simp [hzcond]
        have HF : Hid (vOp (⟨3, ⟨0, 0, 0, 0⟩, q, 0, cond⟩ : Oq) n bits = false) := by unfold Hid; rw [vOp_3 Ihn.out Ihb.out rfl]; simp [eqO, eqG, Oq.g3, hzb]
        clear hzcond
        go_wp2
        go_ret
        exact ⟨ret_bool (HV.out.symm.trans (HF.out)).symm, (by exact xx)⟩
      ·have hzb : (bit == 0) = false := by simp [hzbit]
       have HF : Hid (vOp (⟨3, ⟨0, 0, 0, 0⟩, q, bit, cond⟩ : Oq) n bits = false) := by unfold Hid; rw [vOp_3 Ihn.out Ihb.out rfl]; simp [eqO, eqG, Oq.g3, hzb]
       clear hzbit
       go_wp2
       go_ret
       exact ⟨ret_bool (HV.out.symm.trans (HF.out)).symm, (by exact xx)⟩
     ·have hzb : (gc == 0) = false := by simp [hzgc]
      have HF : Hid (vOp (⟨3, ⟨0, 0, 0, gc⟩, q, bit, cond⟩ : Oq) n bits = false) := by unfold Hid; rw [vOp_3 Ihn.out Ihb.out rfl]; simp [eqO, eqG, Oq.g3, hzb]
      clear hzgc
      go_wp2
      go_ret
      exact ⟨ret_bool (HV.out.symm.trans (HF.out)).symm, (by exact xx)⟩
    ·have hzb : (gb == 0) = false := by simp [hzgb]
     have HF : Hid (vOp (⟨3, ⟨0, 0, gb, gc⟩, q, bit, cond⟩ : Oq) n bits = false) := by unfold Hid; rw [vOp_3 Ihn.out Ihb.out rfl]; simp [eqO, eqG, Oq.g3, hzb]
     clear hzgb
     go_wp2
     go_ret
     exact ⟨ret_bool (HV.out.symm.trans (HF.out)).symm, (by exact xx)⟩
   ·have hzb : (ga == 0) = false := by simp [hzga]
    have HF : Hid (vOp (⟨3, ⟨0, ga, gb, gc⟩, q, bit, cond⟩ : Oq) n bits = false) := by unfold Hid; rw [vOp_3 Ihn.out Ihb.out rfl]; simp [eqO, eqG, Oq.g3, hzb]
    clear hzga
    go_wp2
    go_ret
    exact ⟨ret_bool (HV.out.symm.trans (HF.out)).symm, (by exact xx)⟩
  ·have hzb : (gk == 0) = false := by simp [hzgk]
   have HF : Hid (vOp (⟨3, ⟨gk, ga, gb, gc⟩, q, bit, cond⟩ : Oq) n bits = false) := by unfold Hid; rw [vOp_3 Ihn.out Ihb.out rfl]; simp [eqO, eqG, Oq.g3, hzb]
   clear hzgk
   go_wp2
   go_ret
   exact ⟨ret_bool (HV.out.symm.trans (HF.out)).symm, (by exact xx)⟩
 have hkb3 : (k == 3) = false := by simp [hk3]
 have HF := Lib.hid (vOp_0 (o := (⟨k, ⟨gk, ga, gb, gc⟩, q, bit, cond⟩ : Oq)) (n := n) (bits := bits) hk1 hk2 hk3)
 clear hk1 hk2 hk3
 go_wp2
 go_ret
 exact ⟨ret_bool (HV.out.symm.trans (HF.out)).symm, (by exact xx)⟩
end Go.Proofs.YtdjckjfclhjpcaaGreat
