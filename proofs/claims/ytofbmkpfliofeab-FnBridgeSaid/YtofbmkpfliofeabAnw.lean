/-
  Helper text (no claim of its own): amplitudes in canonical form, by the reference. Printed by gen_am.py or gen_an.py.
-/
import Derived.Test.YtofbmkpfliofeabAn
namespace Go.Proofs.Ytofbmkpfliofeab
open Go.ChangeShapes Go.WideShapes Go.ChangeAt Go.RowKit Go.Deep
set_option linter.unusedVariables false
set_option linter.unusedSimpArgs false
set_option maxRecDepth 100000 in
set_option maxHeartbeats 8000000 in
theorem NewDOmega_yes (n : Zw) (k : Nat) (w : World) (hn : zok n = true) (hk : k ≤ 120) (h60 : (nwL k n).2 ≤ 60) : Calls Try.prog 88 #[n.val, .int .i64 k] w fun e w' => e = .returned (.tuple #[(⟨(nwL k n).1, (nwL k n).2⟩ : Dw).val, .bool true]) ∧ Ext w w' := by
  obtain ⟨r, hr⟩ : ∃ r, nwL k n = r := ⟨_, rfl⟩
  have HR0 : Hid (nwL k n = r ∧ r.2 ≤ 60) := ⟨hr, by rw [← hr]; exact h60⟩
  rw [hr]
  have HN0 := Lib.hid hn
  clear hr h60 hn
  obtain ⟨r1, r2⟩ := r
  have hk0 : (0 : Int) ≤ (k : Int) := by omega
  have hk120 : (k : Int) ≤ 120 := by omega
  go_enter Try.func88, Try.ntmps88
  go_wp2_with fail
  refine (IsValidZOmega_yes n _ HN0.out).mono ?_
  rintro e w1 ⟨rfl, hx1⟩
  have HX : Hid (Blk w1 w.heap.size 81 #[.int .i64 n.a, .int .i64 n.b, .int .i64 n.c, .int .i64 n.d]) := ((Blk.new w _ _).alloc _).ext hx1
  have HR : Hid (Blk w1 (w.heap.size + 1) 83 #[.int .i64 0, .int .i64 0, .int .i64 0, .int .i64 0, .int .i64 0]) := (Blk.newAt (b := w.heap.size + 1) (by simp)).ext hx1
  have HE : Hid (Ext w w1) := Ext.trans (by repeat (first | exact Ext.refl _ | assumption | refine Ext.alloc ?_ _ | refine Ext.drewN ?_ _ | refine Ext.drew ?_)) hx1
  clear hx1
  go_wp2_with fail
  refine (l1In_yes _ _ _ _ hk0 hk120).mono ?_
  rintro e w' ⟨rfl, rfl⟩
  go_wp2
  go_loopw [1] (fun iv wr => ∃ (j : Nat) (m : Zw), iv = .int .i64 j ∧ j ≤ k ∧ Hid (nwL j m = nwL k n ∧ zok m = true) ∧ Hid (Blk wr w.heap.size 81 #[.int .i64 m.a, .int .i64 m.b, .int .i64 m.c, .int .i64 m.d]) ∧ Hid (Blk wr (w.heap.size + 1) 83 #[.int .i64 0, .int .i64 0, .int .i64 0, .int .i64 0, .int .i64 0]) ∧ Hid (Ext w wr)) (fun i _ => (intOf i).toNat)
  case atStart => exact ⟨k, n, rfl, Nat.le_refl _, ⟨rfl, HN0.out⟩, HX, HR, HE⟩
  case round =>
    obtain ⟨j, m, rfl, hj, HJ, HX1, HR1, HE1⟩ := hrel
    clear HX HR HE
    by_cases hlt : 0 < j
    · have hj0 : (0 : Int) < (j : Int) := by omega
      have hj2 : (j : Int) > 0 := by omega
      have hk1 : IntKind.i64.wrap ((j : Int) - 1) = ((j - 1 : Nat) : Int) := by rw [IntWalk.i64_in _ (by omega)]; omega
      have hk2 : wrap64 ((j : Int) - 1) = ((j - 1 : Nat) : Int) := by unfold wrap64; omega
      have HLT : Hid (0 < j ∧ j ≤ k) := ⟨hlt, hj⟩
      clear hj hlt
      obtain ⟨d, hd⟩ : ∃ d, (zDiv m).1 = d := ⟨_, rfl⟩
      obtain ⟨q, hq⟩ : ∃ q, (zDiv m).2 = q := ⟨_, rfl⟩
      have HC : Hid (∀ w', Calls Try.prog 81 #[m.val] w' fun e w'' => e = .returned (.tuple #[d.val, .bool q]) ∧ Ext w' w'') := fun w' => by rw [← hd, ← hq]; exact DivSqrt2_any m w' HJ.out.2
      have HQ : Hid ((zDiv m).1 = d ∧ (zDiv m).2 = q) := ⟨hd, hq⟩
      clear hd hq
      obtain ⟨⟨x0, x1, x2, x3⟩, -⟩ := cells4 HX1.out
      go_wp2_with fail
      refine (HC.out _).mono ?_
      rintro e w2 ⟨rfl, hx2⟩
      clear x0 x1 x2 x3
      go_upto_region 5 with (fail)
      have HX3 : Hid (Blk (w2.alloc (.cells #[.int .i64 d.a, .int .i64 d.b, .int .i64 d.c, .int .i64 d.d] 81)) w.heap.size 81 #[.int .i64 m.a, .int .i64 m.b, .int .i64 m.c, .int .i64 m.d]) := (HX1.out.ext hx2).alloc _
      have HR3 : Hid (Blk (w2.alloc (.cells #[.int .i64 d.a, .int .i64 d.b, .int .i64 d.c, .int .i64 d.d] 81)) (w.heap.size + 1) 83 #[.int .i64 0, .int .i64 0, .int .i64 0, .int .i64 0, .int .i64 0]) := (HR1.out.ext hx2).alloc _
      have HV3 : Hid (Blk (w2.alloc (.cells #[.int .i64 d.a, .int .i64 d.b, .int .i64 d.c, .int .i64 d.d] 81)) w2.heap.size 81 #[.int .i64 d.a, .int .i64 d.b, .int .i64 d.c, .int .i64 d.d]) := Blk.new _ _ _
      have HE3 : Hid (Ext w (w2.alloc (.cells #[.int .i64 d.a, .int .i64 d.b, .int .i64 d.c, .int .i64 d.d] 81))) := (HE1.out.trans hx2).alloc _
      clear hx2 HX1 HR1 HE1 HC
      generalize w2.alloc (.cells #[.int .i64 d.a, .int .i64 d.b, .int .i64 d.c, .int .i64 d.d] 81) = w3 at *
      generalize w2.heap.size = s at *
      cases q with
      | true =>
        obtain ⟨⟨x0, x1, x2, x3⟩, f0, f1, f2, f3⟩ := cells4 HX3.out
        obtain ⟨⟨v0, v1, v2, v3⟩, -⟩ := cells4 HV3.out
        go_wp2
        have HX4 : Hid (Blk (put4 w3 w.heap.size (.int .i64 d.a) (.int .i64 d.b) (.int .i64 d.c) (.int .i64 d.d)) w.heap.size 81 #[.int .i64 d.a, .int .i64 d.b, .int .i64 d.c, .int .i64 d.d]) := HX3.out.put4 _ _ _ _
        have HR4 : Hid (Blk (put4 w3 w.heap.size (.int .i64 d.a) (.int .i64 d.b) (.int .i64 d.c) (.int .i64 d.d)) (w.heap.size + 1) 83 #[.int .i64 0, .int .i64 0, .int .i64 0, .int .i64 0, .int .i64 0]) := far_put4 HR3.out (by omega) _ _ _ _
        have HE4 : Hid (Ext w (put4 w3 w.heap.size (.int .i64 d.a) (.int .i64 d.b) (.int .i64 d.c) (.int .i64 d.d))) := ext_put4 (g := w.heap.size) HE3.out (Nat.le_refl _) _ _ _ _
        have HJ4 : Hid (nwL (j - 1) d = nwL k n ∧ zok d = true) := by
          have h1 := nwL_y (k := j - 1) HQ.out.2
          rw [HQ.out.1, show j - 1 + 1 = j by have := HLT.out; omega, HJ.out.1] at h1
          refine ⟨h1.symm, ?_⟩
          have h2 := div_root HQ.out.2
          rw [HQ.out.1] at h2
          exact zok_near.2 (near_dn (by rw [h2]; exact zok_near.1 HJ.out.2))
        go_roundw
        case rel => exact ⟨j - 1, d, by first | rfl | rw [hk1] | rw [hk2], by have := HLT.out; omega, HJ4, HX4, HR4, HE4⟩
        case measure => simp [intOf, hk2]; have := HLT.out; omega
      | false =>
        have HV : Hid (j = r2 ∧ m = r1) := by
          have h1 := nwL_n (k := j - 1) HQ.out.2
          rw [show j - 1 + 1 = j by have := HLT.out; omega, HJ.out.1, HR0.out.1] at h1
          injection h1 with h2 h3
          exact ⟨h3.symm, h2.symm⟩
        have h60 : ¬ (60 : Int) < (j : Int) := by have := HV.out.1; have h2 := HR0.out.2; have h3 : r2 ≤ 60 := h2; omega
        have h61 : ¬ (j : Int) > 60 := h60
        obtain ⟨⟨x0, x1, x2, x3⟩, -⟩ := cells4 HX3.out
        obtain ⟨⟨c0, c1, c2, c3, c4⟩, f0, f1, f2, f3, f4⟩ := cells5 HR3.out
        go_wp2
        have HBB : Hid (Blk (put5 w3 (w.heap.size + 1) (.int .i64 m.a) (.int .i64 m.b) (.int .i64 m.c) (.int .i64 m.d) (.int .i64 j)) (w.heap.size + 1) 83 #[.int .i64 m.a, .int .i64 m.b, .int .i64 m.c, .int .i64 m.d, .int .i64 j]) := HR3.out.put5 _ _ _ _ _
        refine bodyPost_ret (v := .tuple #[.agg #[.int .i64 m.a, .int .i64 m.b, .int .i64 m.c, .int .i64 m.d, .int .i64 j], .bool true]) ?_ rfl ?_
        rotate_left
        · exact ⟨by rw [HV.out.1, HV.out.2], ext_put5 (g := w.heap.size + 1) HE3.out (by omega) _ _ _ _ _⟩
        · exact ret_pair rfl _ _ _ _ _ _ _ rfl rfl HBB.out Try.underlying83 rfl Try.sizeDOmega
    · have hj0 : j = 0 := by omega
      subst hj0
      have HV : Hid (0 = r2 ∧ m = r1) := by
        have h1 := HJ.out.1
        rw [HR0.out.1] at h1
        injection h1 with h2 h3
        exact ⟨h3, h2⟩
      clear hj hlt
      obtain ⟨⟨x0, x1, x2, x3⟩, -⟩ := cells4 HX1.out
      obtain ⟨⟨c0, c1, c2, c3, c4⟩, f0, f1, f2, f3, f4⟩ := cells5 HR1.out
      go_wp2
      have HBB : Hid (Blk (put5 wr (w.heap.size + 1) (.int .i64 m.a) (.int .i64 m.b) (.int .i64 m.c) (.int .i64 m.d) (.int .i64 0)) (w.heap.size + 1) 83 #[.int .i64 m.a, .int .i64 m.b, .int .i64 m.c, .int .i64 m.d, .int .i64 0]) := HR1.out.put5 _ _ _ _ _
      refine bodyPost_ret (v := .tuple #[.agg #[.int .i64 m.a, .int .i64 m.b, .int .i64 m.c, .int .i64 m.d, .int .i64 0], .bool true]) ?_ rfl ?_
      rotate_left
      · exact ⟨by rw [← HV.out.1, HV.out.2]; rfl, ext_put5 (g := w.heap.size + 1) HE1.out (by omega) _ _ _ _ _⟩
      · exact ret_pair rfl _ _ _ _ _ _ _ rfl rfl HBB.out Try.underlying83 rfl Try.sizeDOmega
end Go.Proofs.Ytofbmkpfliofeab
