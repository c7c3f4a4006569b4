/-
 Helper text (no claim of its own): validity of a tableau, by the reference. Printed by gen_tb.py.
-/
import Derived.Test.YtioimnplhmgbgaaGreatTbp
import Derived.Test.YtioimnplhmgbgaaGreatMu
namespace Go.Proofs.YtioimnplhmgbgaaGreat
open Go.ChangeShapes Go.WideShapes Go.ChangeAt Go.RowKit Go.Deep
set_option linter.unusedSimpArgs false
set_option linter.unusedVariables false
set_option maxRecDepth 100000 in
set_option maxHeartbeats 8000000 in
theorem spec_IsValidTableau_any (A : Option Addr) (c : Nat) (n : Int) (rs : List Pa) (w : World) (h : Rd w w.heap.size 4 A rs.length (pcells rs)) (hl : rs.length ≤ 100000000) (hcap : rs.length ≤ c) :
  Calls Tryz.prog 44 #[.agg #[.int .i64 n, .slice A rs.length c]] w fun e w' => e = .returned (.bool (vTab n rs)) ∧ Ext w w' := by
 obtain ⟨l, hgl⟩ : ∃ l, rs.length = l := ⟨_, rfl⟩
 rw [hgl] at h hl hcap
 rw [hgl]
 have HL := Lib.hid hgl
 clear hgl
 by_cases hn : n < 1 ∨ 4 < n
 ·have HN := Lib.hid hn
  have HF := Lib.hid (vTab_n (rs := rs) hn)
  clear hn
  go_enter Tryz.func44, Tryz.ntmps44
  go_wp2_with fail
  refine (l1In_no _ _ _ _ HN.out).mono ?_
  rintro e w5 ⟨rfl, rfl⟩
  go_wp2
  go_ret
  exact ⟨ret_bool HF.out.symm, xx⟩
 have hn1 : 1 ≤ n := by omega
 have hn4 : n ≤ 4 := by omega
 have hw2 : IntKind.i64.wrap (2 * n) = 2 * n := IntWalk.i64_in _ (by omega)
 clear hn
 cases hll : ((l : Int) == 2 * n)
 ·have HF := Lib.hid (vTab_l (rs := rs) (n := n) (by rw [HL.out]; exact hll))
  have hnb : ((l : Int) != 2 * n) = true := by rw [bne, hll]; rfl
  clear hll
  go_enter Tryz.func44, Tryz.ntmps44
  go_wp2_with fail
  refine (l1In_yes _ _ _ _ hn1 hn4).mono ?_
  rintro e w5 ⟨rfl, rfl⟩
  go_wp2
  go_ret
  exact ⟨ret_bool HF.out.symm, xx⟩
 have hnb : ((l : Int) != 2 * n) = false := by rw [bne, hll]; rfl
 have HLL : Hid ((l : Int) = 2 * n) := by unfold Hid; simpa using hll
 have HG : Hid ((∀ k, k < l → rowOk n rs k = true) → vTab n rs = true) := fun h => vTab_good hn1 hn4 (by rw [HL.out]; exact hll) (by rw [HL.out]; exact h)
 have HBAD : Hid (∀ k, k < l → rowOk n rs k = false → vTab n rs = false) := fun k hk h => vTab_bad (by rw [HL.out]; exact hk) h
 clear hll
 obtain ⟨b, o, rfl, -, -⟩ := h.2 (by have := HLL.out; omega)
 have HROW : Hid (∀ i, i < l → ∃ x, rs[i]? = some x) := fun i hi => ⟨_, List.getElem?_eq_getElem (by rw [HL.out]; exact hi)⟩
 go_enter Tryz.func44, Tryz.ntmps44
 go_wp2_with fail
 refine (l1In_yes _ _ _ _ hn1 hn4).mono ?_
 rintro e w5 ⟨rfl, rfl⟩
 go_wp2
 have HX : Hid (Ext w (w.alloc (.cells #[.int .i64 n, .slice (some ⟨b, o, none⟩) l c] 31))) := xx
 have HB : Hid (Blk (w.alloc (.cells #[.int .i64 n, .slice (some ⟨b, o, none⟩) l c] 31)) w.heap.size 31 #[.int .i64 n, .slice (some ⟨b, o, none⟩) l c]) := Blk.new w _ _
 generalize (w.alloc (.cells #[.int .i64 n, .slice (some ⟨b, o, none⟩) l c] 31)) = w1 at *
 clear hnb hw2
 go_loopw [3] (fun i wr => ∃ k : Nat, k ≤ l ∧ i = .int .i64 k ∧ Hid (∀ j, j < k → rowOk n rs j = true) ∧ Hid (Blk wr w.heap.size 31 #[.int .i64 n, .slice (some ⟨b, o, none⟩) l c] ∧ Ext w wr)) (fun i _ => l - (intOf i).toNat)
 case atStart => exact ⟨0, Nat.zero_le _, rfl, fun j hj => absurd hj (by omega), ⟨HB.out, HX.out⟩⟩
 case round =>
  obtain ⟨k, hk, rfl, HQ, HW⟩ := hrel
  clear HB HX
  by_cases hlt : k < l
  ·have HLT := Lib.hid hlt
   obtain ⟨p, hp⟩ := HROW.out k hlt
   have HP := Lib.hid hp
   clear hp
   have HK : Hid (∀ w', Ext wr w' → (w'.cell? ⟨w.heap.size, 0, none⟩ = some (.int .i64 n) ∧ w'.cell? ⟨w.heap.size, 1, none⟩ = some (.slice (some ⟨b, o, none⟩) l c)) ∧ (w'.cell? ⟨b, o + k * 4, none⟩ = some (.int .i64 p.n) ∧ w'.cell? ⟨b, o + k * 4 + 1, none⟩ = some (.int .i64 p.x) ∧ w'.cell? ⟨b, o + k * 4 + 2, none⟩ = some (.int .i64 p.z) ∧ w'.cell? ⟨b, o + k * 4 + 3, none⟩ = some (.int .i64 p.p))) := fun w' hx => ⟨(blkT2 (HW.out.1.ext hx)).1, row_at (h.up (HW.out.2.trans hx) (Nat.le_refl _)) HLT.out HP.out⟩
   have HWE : Hid (∀ w', Ext wr w' → Hid (Blk w' w.heap.size 31 #[.int .i64 n, .slice (some ⟨b, o, none⟩) l c] ∧ Ext w w')) := fun w' hx => ⟨HW.out.1.ext hx, HW.out.2.trans hx⟩
   obtain ⟨⟨b0, b1⟩, x0, x1, x2, x3⟩ := HK.out wr (Ext.refl _)
   cases hn : (p.n == n)
   ·have HF := Lib.hid (HBAD.out k HLT.out (rowOk_n HP.out hn))
    have hnb : (p.n != n) = true := by rw [bne, hn]; rfl
    clear hn
    go_upto_region 6 with (fail)
    refine wp_region_held_drew (S := (fun w' => (w'.cell? ⟨w.heap.size, 0, none⟩ = some (.int .i64 n) ∧ w'.cell? ⟨w.heap.size, 1, none⟩ = some (.slice (some ⟨b, o, none⟩) l c)) ∧ (w'.cell? ⟨b, o + k * 4, none⟩ = some (.int .i64 p.n) ∧ w'.cell? ⟨b, o + k * 4 + 1, none⟩ = some (.int .i64 p.x) ∧ w'.cell? ⟨b, o + k * 4 + 2, none⟩ = some (.int .i64 p.z) ∧ w'.cell? ⟨b, o + k * 4 + 3, none⟩ = some (.int .i64 p.p)))) (by kernel_rfl) (HK.out _ (Ext.refl wr).drew) (fun hHeld => ?_)
    (refine tk 0 (v := ?_) ?_ ?_; rotate_left; · (intro w hSw; (try dsimp only at hSw); go_simp; all_goals with_reducible rfl))
    (try simp only [Act.put, L1, L2, L3, L4, L5, L6])
    (refine tk 1 (v := ?_) ?_ ?_; rotate_left; · (intro w hSw; (try dsimp only at hSw); go_simp; all_goals with_reducible rfl))
    (try simp only [Act.put, L1, L2, L3, L4, L5, L6])
    (refine tk 2 (v := ?_) ?_ ?_; rotate_left; · (intro w hSw; (try dsimp only at hSw); go_simp; all_goals with_reducible rfl))
    (try simp only [Act.put, L1, L2, L3, L4, L5, L6])
    (refine tk 3 (v := ?_) ?_ ?_; rotate_left; · (intro w hSw; (try dsimp only at hSw); go_simp; all_goals with_reducible rfl))
    (try simp only [Act.put, L1, L2, L3, L4, L5, L6])
    (refine tk 4 (v := ?_) ?_ ?_; rotate_left; · (intro w hSw; (try dsimp only at hSw); go_simp; all_goals with_reducible rfl))
    (try simp only [Act.put, L1, L2, L3, L4, L5, L6])
    (refine tk 5 (v := ?_) ?_ ?_; rotate_left; · (intro w hSw; (try dsimp only at hSw); go_simp; all_goals with_reducible rfl))
    (try simp only [Act.put, L1, L2, L3, L4, L5, L6])
    (refine tk 6 (v := ?_) ?_ ?_; rotate_left; · (intro w hSw; (try dsimp only at hSw); go_simp; all_goals with_reducible rfl))
    (try simp only [Act.put, L1, L2, L3, L4, L5, L6])
    (refine tk 7 (v := ?_) ?_ ?_; rotate_left; · (intro w hSw; (try dsimp only at hSw); go_simp; all_goals with_reducible rfl))
    (try simp only [Act.put, L1, L2, L3, L4, L5, L6])
    (refine tk 8 (v := ?_) ?_ ?_; rotate_left; · (intro w hSw; (try dsimp only at hSw); go_simp; all_goals with_reducible rfl))
    (try simp only [Act.put, L1, L2, L3, L4, L5, L6])
    (refine tk 9 (v := ?_) ?_ ?_; rotate_left; · (intro w hSw; (try dsimp only at hSw); go_simp; all_goals with_reducible rfl))
    (try simp only [Act.put, L1, L2, L3, L4, L5, L6])
    (refine wpAnyH_take (i := 10) rfl (by kernel_rfl) (by kernel_rfl) (by kernel_rfl) (fun _ _ _ h => h) (Or.inr ⟨by first | kernel_rfl | rfl, rfl⟩) (by assumption) ?_; (try simp only [Act.put, L1, L2, L3, L4, L5, L6]))
    (refine wpAnyH_take (i := 11) rfl (by kernel_rfl) (by kernel_rfl) (by kernel_rfl) (fun _ _ _ h => h) (Or.inr ⟨by first | kernel_rfl | rfl, rfl⟩) (by assumption) ?_; (try simp only [Act.put, L1, L2, L3, L4, L5, L6]))
    (refine wpAnyH_take (i := 12) rfl (by kernel_rfl) (by kernel_rfl) (by kernel_rfl) (fun _ _ _ h => h) (Or.inr ⟨by first | kernel_rfl | rfl, rfl⟩) (by assumption) ?_; (try simp only [Act.put, L1, L2, L3, L4, L5, L6]))
    (refine wpAnyH_take (i := 13) rfl (by kernel_rfl) (by kernel_rfl) (by kernel_rfl) (fun _ _ _ h => h) (Or.inr ⟨by first | kernel_rfl | rfl, rfl⟩) (by assumption) ?_; (try simp only [Act.put, L1, L2, L3, L4, L5, L6]))
    (refine wpAnyH_take (i := 14) rfl (by kernel_rfl) (by kernel_rfl) (by kernel_rfl) (fun _ _ _ h => h) (Or.inr ⟨by first | kernel_rfl | rfl, rfl⟩) (by assumption) ?_; (try simp only [Act.put, L1, L2, L3, L4, L5, L6]))
    (refine wpAnyH_take (i := 15) rfl (by kernel_rfl) (by kernel_rfl) (by kernel_rfl) (fun _ _ _ h => h) (Or.inr ⟨by first | kernel_rfl | rfl, rfl⟩) (by assumption) ?_; (try simp only [Act.put, L1, L2, L3, L4, L5, L6]))
    (refine wpAnyH_take (i := 16) rfl (by kernel_rfl) (by kernel_rfl) (by kernel_rfl) (fun _ _ _ h => h) (Or.inr ⟨by first | kernel_rfl | rfl, rfl⟩) (by assumption) ?_; (try simp only [Act.put, L1, L2, L3, L4, L5, L6]))
    (refine tk 17 (v := ?_) ?_ ?_; rotate_left; · (intro w hSw; (try dsimp only at hSw); go_simp; all_goals with_reducible rfl))
    (try simp only [Act.put, L1, L2, L3, L4, L5, L6])
    (refine wpAnyH_done (by kernel_rfl) ?_ _)
    go_wp2
    go_ret
    exact ⟨ret_bool HF.out.symm, HW.out.2.drew⟩
   have hnb : (p.n != n) = false := by rw [bne, hn]; rfl
   cases hh : herm p
   ·have HF := Lib.hid (HBAD.out k HLT.out (rowOk_h HP.out hh))
    have HCH : Hid (∀ w', Calls Tryz.prog 66 #[.agg #[.int .i64 p.n, .int .i64 p.x, .int .i64 p.z, .int .i64 p.p]] w' fun e w'' => e = .returned (.bool false) ∧ Ext w' w'') := fun w' => by rw [← hh]; exact spec_IsHermitianPauli_any p w'
    clear hh hn
    go_upto_region 6 with (fail)
    go_region_held3 (fun w' => (w'.cell? ⟨w.heap.size, 0, none⟩ = some (.int .i64 n) ∧ w'.cell? ⟨w.heap.size, 1, none⟩ = some (.slice (some ⟨b, o, none⟩) l c)) ∧ (w'.cell? ⟨b, o + k * 4, none⟩ = some (.int .i64 p.n) ∧ w'.cell? ⟨b, o + k * 4 + 1, none⟩ = some (.int .i64 p.x) ∧ w'.cell? ⟨b, o + k * 4 + 2, none⟩ = some (.int .i64 p.z) ∧ w'.cell? ⟨b, o + k * 4 + 3, none⟩ = some (.int .i64 p.p)))
     (first | (go_keep; done) | (refine HK.out _ ?_; first | assumption | exact (Ext.refl _).drew))
     (first | (go_at_call 66; (with_reducible refine (HCH.out _).mono ?_); rintro e w5 ⟨rfl, hy5⟩; replace hy5 : Ext wr w5 := Ext.trans (Ext.refl wr).drew hy5))
    all_goals
     go_wp2
     go_ret
     exact ⟨ret_bool HF.out.symm, (HWE.out _ hy5).out.2⟩
   have HCH : Hid (∀ w', Calls Tryz.prog 66 #[.agg #[.int .i64 p.n, .int .i64 p.x, .int .i64 p.z, .int .i64 p.p]] w' fun e w'' => e = .returned (.bool true) ∧ Ext w' w'') := fun w' => by rw [← hh]; exact spec_IsHermitianPauli_any p w'
   have HGD : Hid ((∀ (i : Nat) (x : Pa), i < k → rs[i]? = some x → comm x p = !((k : Int) == (i : Int) + n)) → rowOk n rs k = true) := fun h => rowOk_good HP.out hn hh h
   have HVP := Lib.hid (herm_v hh)
   clear hh hn
   go_upto_region 6 with (fail)
   go_region_held3 (fun w' => (w'.cell? ⟨w.heap.size, 0, none⟩ = some (.int .i64 n) ∧ w'.cell? ⟨w.heap.size, 1, none⟩ = some (.slice (some ⟨b, o, none⟩) l c)) ∧ (w'.cell? ⟨b, o + k * 4, none⟩ = some (.int .i64 p.n) ∧ w'.cell? ⟨b, o + k * 4 + 1, none⟩ = some (.int .i64 p.x) ∧ w'.cell? ⟨b, o + k * 4 + 2, none⟩ = some (.int .i64 p.z) ∧ w'.cell? ⟨b, o + k * 4 + 3, none⟩ = some (.int .i64 p.p)))
    (first | (go_keep; done) | (refine HK.out _ ?_; first | assumption | exact (Ext.refl _).drew))
    (first | (go_at_call 66; (with_reducible refine (HCH.out _).mono ?_); rintro e w5 ⟨rfl, hy5⟩; replace hy5 : Ext wr w5 := Ext.trans (Ext.refl wr).drew hy5))
   all_goals
    have HW5 := HWE.out _ hy5
    clear hy5 HK HWE HW b0 b1 x0 x1 x2 x3 hnb
    go_wp2
    go_loopw [4] (fun iv ws => ∃ i : Nat, i ≤ k ∧ iv = .int .i64 i ∧ Hid (∀ (j : Nat) (y : Pa), j < i → rs[j]? = some y → comm y p = !((k : Int) == (j : Int) + n)) ∧ Hid (Blk ws w.heap.size 31 #[.int .i64 n, .slice (some ⟨b, o, none⟩) l c] ∧ Ext w ws)) (fun i _ => k - (intOf i).toNat)
    case atStart => exact ⟨0, Nat.zero_le _, rfl, fun j y hj => absurd hj (by omega), HW5⟩
    case round =>
     obtain ⟨i, hi, rfl, HI, HWI⟩ := hrel
     clear HW5
     by_cases hik : i < k
     ·have HIK := Lib.hid hik
      have hil : i < l := by omega
      obtain ⟨x, hx⟩ := HROW.out i hil
      have HXI := Lib.hid hx
      clear hx
      have HVX := Lib.hid (rowOk_v HXI.out (HQ.out i HIK.out))
      have hwi : IntKind.i64.wrap ((i : Int) + n) = (i : Int) + n := IntWalk.i64_in _ (by omega)
      have HK2 : Hid (∀ w', Ext wr w' → (w'.cell? ⟨w.heap.size, 0, none⟩ = some (.int .i64 n) ∧ w'.cell? ⟨w.heap.size, 1, none⟩ = some (.slice (some ⟨b, o, none⟩) l c)) ∧ (w'.cell? ⟨b, o + i * 4, none⟩ = some (.int .i64 x.n) ∧ w'.cell? ⟨b, o + i * 4 + 1, none⟩ = some (.int .i64 x.x) ∧ w'.cell? ⟨b, o + i * 4 + 2, none⟩ = some (.int .i64 x.z) ∧ w'.cell? ⟨b, o + i * 4 + 3, none⟩ = some (.int .i64 x.p)) ∧ (w'.cell? ⟨b, o + k * 4, none⟩ = some (.int .i64 p.n) ∧ w'.cell? ⟨b, o + k * 4 + 1, none⟩ = some (.int .i64 p.x) ∧ w'.cell? ⟨b, o + k * 4 + 2, none⟩ = some (.int .i64 p.z) ∧ w'.cell? ⟨b, o + k * 4 + 3, none⟩ = some (.int .i64 p.p))) := fun w' hx => ⟨(blkT2 (HWI.out.1.ext hx)).1, row_at (h.up (HWI.out.2.trans hx) (Nat.le_refl _)) (by have := HIK.out; have := HLT.out; omega) HXI.out, row_at (h.up (HWI.out.2.trans hx) (Nat.le_refl _)) HLT.out HP.out⟩
      have HWIE : Hid (∀ w', Ext wr w' → Hid (Blk w' w.heap.size 31 #[.int .i64 n, .slice (some ⟨b, o, none⟩) l c] ∧ Ext w w')) := fun w' hx => ⟨HWI.out.1.ext hx, HWI.out.2.trans hx⟩
      obtain ⟨⟨b0, b1⟩, ⟨x0, x1, x2, x3⟩, y0, y1, y2, y3⟩ := HK2.out wr (Ext.refl _)
      cases hc : comm x p <;> cases he : ((k : Int) == (i : Int) + n)
      ·have HCC : Hid (∀ w', Calls Tryz.prog 67 #[.agg #[.int .i64 x.n, .int .i64 x.x, .int .i64 x.z, .int .i64 x.p], .agg #[.int .i64 p.n, .int .i64 p.x, .int .i64 p.z, .int .i64 p.p]] w' fun e w'' => e = .returned (.bool false) ∧ Ext w' w'') := fun w' => by rw [← hc]; exact spec_PaulisCommute_any x p w' HVX.out HVP.out
       have HF := Lib.hid (HBAD.out k HLT.out (rowOk_pair HP.out HIK.out HXI.out (by rw [hc, he])))
       clear hc
       go_upto_region 11 with (fail)
       go_region_held3 (fun w' => (w'.cell? ⟨w.heap.size, 0, none⟩ = some (.int .i64 n) ∧ w'.cell? ⟨w.heap.size, 1, none⟩ = some (.slice (some ⟨b, o, none⟩) l c)) ∧ (w'.cell? ⟨b, o + i * 4, none⟩ = some (.int .i64 x.n) ∧ w'.cell? ⟨b, o + i * 4 + 1, none⟩ = some (.int .i64 x.x) ∧ w'.cell? ⟨b, o + i * 4 + 2, none⟩ = some (.int .i64 x.z) ∧ w'.cell? ⟨b, o + i * 4 + 3, none⟩ = some (.int .i64 x.p)) ∧ (w'.cell? ⟨b, o + k * 4, none⟩ = some (.int .i64 p.n) ∧ w'.cell? ⟨b, o + k * 4 + 1, none⟩ = some (.int .i64 p.x) ∧ w'.cell? ⟨b, o + k * 4 + 2, none⟩ = some (.int .i64 p.z) ∧ w'.cell? ⟨b, o + k * 4 + 3, none⟩ = some (.int .i64 p.p)))
        (first | (go_keep; done) | (refine HK2.out _ ?_; first | assumption | exact (Ext.refl _).drew))
        (first | (go_at_call 67; (with_reducible refine (HCC.out _).mono ?_); rintro e w6 ⟨rfl, hy6⟩; replace hy6 : Ext wr w6 := Ext.trans (Ext.refl wr).drew hy6))
       all_goals
        go_wp2
        go_ret
        exact ⟨ret_bool HF.out.symm, HWI.out.2.trans hy6⟩
      ·have HCC : Hid (∀ w', Calls Tryz.prog 67 #[.agg #[.int .i64 x.n, .int .i64 x.x, .int .i64 x.z, .int .i64 x.p], .agg #[.int .i64 p.n, .int .i64 p.x, .int .i64 p.z, .int .i64 p.p]] w' fun e w'' => e = .returned (.bool false) ∧ Ext w' w'') := fun w' => by rw [← hc]; exact spec_PaulisCommute_any x p w' HVX.out HVP.out
       have HN2 : Hid (∀ (j : Nat) (y : Pa), j < i + 1 → rs[j]? = some y → comm y p = !((k : Int) == (j : Int) + n)) := fun j y hj hy => by
        by_cases e : j = i
        ·subst e
         rw [HXI.out] at hy
         obtain rfl := Option.some.inj hy
         rw [hc, he]; rfl
        ·exact HI.out j y (by omega) hy
       clear hc
       go_upto_region 11 with (fail)
       go_region_held3 (fun w' => (w'.cell? ⟨w.heap.size, 0, none⟩ = some (.int .i64 n) ∧ w'.cell? ⟨w.heap.size, 1, none⟩ = some (.slice (some ⟨b, o, none⟩) l c)) ∧ (w'.cell? ⟨b, o + i * 4, none⟩ = some (.int .i64 x.n) ∧ w'.cell? ⟨b, o + i * 4 + 1, none⟩ = some (.int .i64 x.x) ∧ w'.cell? ⟨b, o + i * 4 + 2, none⟩ = some (.int .i64 x.z) ∧ w'.cell? ⟨b, o + i * 4 + 3, none⟩ = some (.int .i64 x.p)) ∧ (w'.cell? ⟨b, o + k * 4, none⟩ = some (.int .i64 p.n) ∧ w'.cell? ⟨b, o + k * 4 + 1, none⟩ = some (.int .i64 p.x) ∧ w'.cell? ⟨b, o + k * 4 + 2, none⟩ = some (.int .i64 p.z) ∧ w'.cell? ⟨b, o + k * 4 + 3, none⟩ = some (.int .i64 p.p)))
        (first | (go_keep; done) | (refine HK2.out _ ?_; first | assumption | exact (Ext.refl _).drew))
        (first | (go_at_call 67; (with_reducible refine (HCC.out _).mono ?_); rintro e w6 ⟨rfl, hy6⟩; replace hy6 : Ext wr w6 := Ext.trans (Ext.refl wr).drew hy6))
       all_goals
        go_wp2
        go_roundw
        case rel => exact ⟨i + 1, by have := HIK.out; omega, by go_num, HN2, HWIE.out _ hy6⟩
        case measure => simp [intOf]; have := HIK.out; omega
      ·have HCC : Hid (∀ w', Calls Tryz.prog 67 #[.agg #[.int .i64 x.n, .int .i64 x.x, .int .i64 x.z, .int .i64 x.p], .agg #[.int .i64 p.n, .int .i64 p.x, .int .i64 p.z, .int .i64 p.p]] w' fun e w'' => e = .returned (.bool true) ∧ Ext w' w'') := fun w' => by rw [← hc]; exact spec_PaulisCommute_any x p w' HVX.out HVP.out
       have HN2 : Hid (∀ (j : Nat) (y : Pa), j < i + 1 → rs[j]? = some y → comm y p = !((k : Int) == (j : Int) + n)) := fun j y hj hy => by
        by_cases e : j = i
        ·subst e
         rw [HXI.out] at hy
         obtain rfl := Option.some.inj hy
         rw [hc, he]; rfl
        ·exact HI.out j y (by omega) hy
       clear hc
       go_upto_region 11 with (fail)
       go_region_held3 (fun w' => (w'.cell? ⟨w.heap.size, 0, none⟩ = some (.int .i64 n) ∧ w'.cell? ⟨w.heap.size, 1, none⟩ = some (.slice (some ⟨b, o, none⟩) l c)) ∧ (w'.cell? ⟨b, o + i * 4, none⟩ = some (.int .i64 x.n) ∧ w'.cell? ⟨b, o + i * 4 + 1, none⟩ = some (.int .i64 x.x) ∧ w'.cell? ⟨b, o + i * 4 + 2, none⟩ = some (.int .i64 x.z) ∧ w'.cell? ⟨b, o + i * 4 + 3, none⟩ = some (.int .i64 x.p)) ∧ (w'.cell? ⟨b, o + k * 4, none⟩ = some (.int .i64 p.n) ∧ w'.cell? ⟨b, o + k * 4 + 1, none⟩ = some (.int .i64 p.x) ∧ w'.cell? ⟨b, o + k * 4 + 2, none⟩ = some (.int .i64 p.z) ∧ w'.cell? ⟨b, o + k * 4 + 3, none⟩ = some (.int .i64 p.p)))
        (first | (go_keep; done) | (refine HK2.out _ ?_; first | assumption | exact (Ext.refl _).drew))
        (first | (go_at_call 67; (with_reducible refine (HCC.out _).mono ?_); rintro e w6 ⟨rfl, hy6⟩; replace hy6 : Ext wr w6 := Ext.trans (Ext.refl wr).drew hy6))
       all_goals
        go_wp2
        go_roundw
        case rel => exact ⟨i + 1, by have := HIK.out; omega, by go_num, HN2, HWIE.out _ hy6⟩
        case measure => simp [intOf]; have := HIK.out; omega
      ·have HCC : Hid (∀ w', Calls Tryz.prog 67 #[.agg #[.int .i64 x.n, .int .i64 x.x, .int .i64 x.z, .int .i64 x.p], .agg #[.int .i64 p.n, .int .i64 p.x, .int .i64 p.z, .int .i64 p.p]] w' fun e w'' => e = .returned (.bool true) ∧ Ext w' w'') := fun w' => by rw [← hc]; exact spec_PaulisCommute_any x p w' HVX.out HVP.out
       have HF := Lib.hid (HBAD.out k HLT.out (rowOk_pair HP.out HIK.out HXI.out (by rw [hc, he])))
       clear hc
       go_upto_region 11 with (fail)
       go_region_held3 (fun w' => (w'.cell? ⟨w.heap.size, 0, none⟩ = some (.int .i64 n) ∧ w'.cell? ⟨w.heap.size, 1, none⟩ = some (.slice (some ⟨b, o, none⟩) l c)) ∧ (w'.cell? ⟨b, o + i * 4, none⟩ = some (.int .i64 x.n) ∧ w'.cell? ⟨b, o + i * 4 + 1, none⟩ = some (.int .i64 x.x) ∧ w'.cell? ⟨b, o + i * 4 + 2, none⟩ = some (.int .i64 x.z) ∧ w'.cell? ⟨b, o + i * 4 + 3, none⟩ = some (.int .i64 x.p)) ∧ (w'.cell? ⟨b, o + k * 4, none⟩ = some (.int .i64 p.n) ∧ w'.cell? ⟨b, o + k * 4 + 1, none⟩ = some (.int .i64 p.x) ∧ w'.cell? ⟨b, o + k * 4 + 2, none⟩ = some (.int .i64 p.z) ∧ w'.cell? ⟨b, o + k * 4 + 3, none⟩ = some (.int .i64 p.p)))
        (first | (go_keep; done) | (refine HK2.out _ ?_; first | assumption | exact (Ext.refl _).drew))
        (first | (go_at_call 67; (with_reducible refine (HCC.out _).mono ?_); rintro e w6 ⟨rfl, hy6⟩; replace hy6 : Ext wr w6 := Ext.trans (Ext.refl wr).drew hy6))
       all_goals
        go_wp2
        go_ret
        exact ⟨ret_bool HF.out.symm, HWI.out.2.trans hy6⟩
     ·have hik2 : i = k := by omega
      subst hik2
      have HOK := Lib.hid (HGD.out HI.out)
      have HA : Hid (∀ j, j < i + 1 → rowOk n rs j = true) := fun j hj => by
       by_cases e : j = i
       ·rw [e]; exact HOK.out
       ·exact HQ.out j (by omega)
      go_wp2
      go_roundw
      case rel => exact ⟨i + 1, by omega, by go_num, HA, HWI⟩
      case measure => simp [intOf]; have := HLT.out; omega
  ·have hkl : k = l := by omega
   subst hkl
   have HT := Lib.hid (HG.out HQ.out)
   obtain ⟨⟨b0, b1⟩, -⟩ := blkT2 HW.out.1
   go_wp2
   go_ret
   exact ⟨ret_bool HT.out.symm, HW.out.2⟩
end Go.Proofs.YtioimnplhmgbgaaGreat
