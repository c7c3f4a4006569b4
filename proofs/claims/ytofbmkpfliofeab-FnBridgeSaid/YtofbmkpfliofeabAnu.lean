/-
  Helper text (no claim of its own): multiplication by the root of 2, by the reference. Printed by gen_am.py or gen_an.py.
-/
import Derived.Test.YtofbmkpfliofeabAn
namespace Go.Proofs.Ytofbmkpfliofeab
open Go.ChangeShapes Go.WideShapes Go.ChangeAt Go.RowKit Go.Deep
set_option linter.unusedVariables false
set_option linter.unusedSimpArgs false
set_option maxRecDepth 100000 in
set_option maxHeartbeats 8000000 in
theorem l3Up_yes (n : Zw) (k : Nat) (w : World) (hk : k ≤ 60) (hn : near 1073741824 (up k n)) : Calls Try.prog 90 #[n.val, .int .i64 k] w fun e w' => e = .returned (.tuple #[(up k n).val, .bool true]) ∧ Ext w w' := by
  have HNN := Lib.hid hn
  clear hn
  go_enter Try.func90, Try.ntmps90
  go_wp2
  have HX : Hid (Blk ((w.alloc (.cells #[.int .i64 n.a, .int .i64 n.b, .int .i64 n.c, .int .i64 n.d] 81)).alloc (.cells #[.int .i64 0, .int .i64 0, .int .i64 0, .int .i64 0] 81)) w.heap.size 81 #[.int .i64 n.a, .int .i64 n.b, .int .i64 n.c, .int .i64 n.d]) := (Blk.new w _ _).alloc _
  have HR : Hid (Blk ((w.alloc (.cells #[.int .i64 n.a, .int .i64 n.b, .int .i64 n.c, .int .i64 n.d] 81)).alloc (.cells #[.int .i64 0, .int .i64 0, .int .i64 0, .int .i64 0] 81)) (w.heap.size + 1) 81 #[.int .i64 0, .int .i64 0, .int .i64 0, .int .i64 0]) := Blk.newAt (by simp)
  have HE : Hid (Ext w ((w.alloc (.cells #[.int .i64 n.a, .int .i64 n.b, .int .i64 n.c, .int .i64 n.d] 81)).alloc (.cells #[.int .i64 0, .int .i64 0, .int .i64 0, .int .i64 0] 81))) := (by repeat (first | exact Ext.refl _ | assumption | refine Ext.alloc ?_ _ | refine Ext.drewN ?_ _ | refine Ext.drew ?_))
  generalize ((w.alloc (.cells #[.int .i64 n.a, .int .i64 n.b, .int .i64 n.c, .int .i64 n.d] 81)).alloc (.cells #[.int .i64 0, .int .i64 0, .int .i64 0, .int .i64 0] 81)) = w1 at *
  go_loopw [6] (fun iv wr => ∃ j : Nat, iv = .int .i64 j ∧ j ≤ k ∧ Hid (Blk wr w.heap.size 81 #[.int .i64 (up j n).a, .int .i64 (up j n).b, .int .i64 (up j n).c, .int .i64 (up j n).d]) ∧ Hid (Blk wr (w.heap.size + 1) 81 #[.int .i64 0, .int .i64 0, .int .i64 0, .int .i64 0]) ∧ Hid (Ext w wr)) (fun i _ => k - (intOf i).toNat)
  case atStart => exact ⟨0, rfl, Nat.zero_le _, HX, HR, HE⟩
  case round =>
    obtain ⟨j, rfl, hj, HX1, HR1, HE1⟩ := hrel
    clear HX HR HE
    by_cases hlt : j < k
    · have hk1 : IntKind.i64.wrap ((j : Int) + 1) = ((j + 1 : Nat) : Int) := by rw [IntWalk.i64_in _ (by omega)]; rfl
      have hk2 : wrap64 ((j : Int) + 1) = ((j + 1 : Nat) : Int) := by unfold wrap64; omega
      have HLT := Lib.hid hlt
      have HC : Hid (∀ w', Calls Try.prog 87 #[(up j n).val, zrootc.val] w' fun e w'' => e = .returned (.tuple #[(up (j + 1) n).val, .bool true]) ∧ Ext w' w'') := fun w' => by
        have h1 := near_mid (Nat.le_of_lt hlt) HNN.out
        have h2 := near_mid (show j + 1 ≤ k from hlt) HNN.out
        rw [up_succ, ← zmul_root] at h2
        rw [up_succ, ← zmul_root]
        exact MulZOmega_yes _ _ w' (zok_near.2 h1) rfl (zok_near.2 h2)
      obtain ⟨u, hu⟩ : ∃ u, up j n = u := ⟨_, rfl⟩
      obtain ⟨v, hv⟩ : ∃ v, up (j + 1) n = v := ⟨_, rfl⟩
      rw [hu] at HX1
      rw [hu, hv] at HC
      have HV := Lib.hid hv
      clear hu hv hj
      obtain ⟨⟨x0, x1, x2, x3⟩, -⟩ := cells4 HX1.out
      go_wp2_with fail
      refine (HC.out _).mono ?_
      rintro e w2 ⟨rfl, hx2⟩
      clear x0 x1 x2 x3
      go_upto_region 5 with (fail)
      have HX3 : Hid (Blk (w2.alloc (.cells #[.int .i64 v.a, .int .i64 v.b, .int .i64 v.c, .int .i64 v.d] 81)) w.heap.size 81 #[.int .i64 u.a, .int .i64 u.b, .int .i64 u.c, .int .i64 u.d]) := (HX1.out.ext hx2).alloc _
      have HR3 : Hid (Blk (w2.alloc (.cells #[.int .i64 v.a, .int .i64 v.b, .int .i64 v.c, .int .i64 v.d] 81)) (w.heap.size + 1) 81 #[.int .i64 0, .int .i64 0, .int .i64 0, .int .i64 0]) := (HR1.out.ext hx2).alloc _
      have HV3 : Hid (Blk (w2.alloc (.cells #[.int .i64 v.a, .int .i64 v.b, .int .i64 v.c, .int .i64 v.d] 81)) w2.heap.size 81 #[.int .i64 v.a, .int .i64 v.b, .int .i64 v.c, .int .i64 v.d]) := Blk.new _ _ _
      have HE3 : Hid (Ext w (w2.alloc (.cells #[.int .i64 v.a, .int .i64 v.b, .int .i64 v.c, .int .i64 v.d] 81))) := (HE1.out.trans hx2).alloc _
      clear hx2 HX1 HR1 HE1
      generalize w2.alloc (.cells #[.int .i64 v.a, .int .i64 v.b, .int .i64 v.c, .int .i64 v.d] 81) = w3 at *
      generalize w2.heap.size = s at *
      obtain ⟨⟨x0, x1, x2, x3⟩, f0, f1, f2, f3⟩ := cells4 HX3.out
      obtain ⟨⟨v0, v1, v2, v3⟩, -⟩ := cells4 HV3.out
      go_wp2
      have HX4 : Hid (Blk (put4 w3 w.heap.size (.int .i64 v.a) (.int .i64 v.b) (.int .i64 v.c) (.int .i64 v.d)) w.heap.size 81 #[.int .i64 v.a, .int .i64 v.b, .int .i64 v.c, .int .i64 v.d]) := HX3.out.put4 _ _ _ _
      have HR4 : Hid (Blk (put4 w3 w.heap.size (.int .i64 v.a) (.int .i64 v.b) (.int .i64 v.c) (.int .i64 v.d)) (w.heap.size + 1) 81 #[.int .i64 0, .int .i64 0, .int .i64 0, .int .i64 0]) := far_put4 HR3.out (by omega) _ _ _ _
      have HE4 : Hid (Ext w (put4 w3 w.heap.size (.int .i64 v.a) (.int .i64 v.b) (.int .i64 v.c) (.int .i64 v.d))) := ext_put4 (g := w.heap.size) HE3.out (Nat.le_refl _) _ _ _ _
      go_roundw
      case rel => exact ⟨j + 1, by first | rfl | rw [hk1] | rw [hk2], HLT.out, by rw [HV.out]; exact HX4, HR4, HE4⟩
      case measure => simp [intOf, hk2]; have := HLT.out; omega
    · have hjk : j = k := by omega
      rw [hjk] at HX1
      clear hj
      obtain ⟨u, hu⟩ : ∃ u, up k n = u := ⟨_, rfl⟩
      rw [hu] at HX1
      have HU := Lib.hid hu
      clear hu
      obtain ⟨⟨x0, x1, x2, x3⟩, -⟩ := cells4 HX1.out
      obtain ⟨⟨r0, r1, r2, r3⟩, f0, f1, f2, f3⟩ := cells4 HR1.out
      go_wp2
      have HBB : Hid (Blk (put4 wr (w.heap.size + 1) (.int .i64 u.a) (.int .i64 u.b) (.int .i64 u.c) (.int .i64 u.d)) (w.heap.size + 1) 81 #[.int .i64 u.a, .int .i64 u.b, .int .i64 u.c, .int .i64 u.d]) := HR1.out.put4 _ _ _ _
      refine bodyPost_ret (v := .tuple #[.agg #[.int .i64 u.a, .int .i64 u.b, .int .i64 u.c, .int .i64 u.d], .bool true]) ?_ rfl ?_
      rotate_left
      · exact ⟨by rw [HU.out], ext_put4 (g := w.heap.size + 1) HE1.out (by omega) _ _ _ _⟩
      · exact ret_pair rfl _ _ _ _ _ _ _ rfl rfl HBB.out Try.underlying81 rfl Try.sizeZOmega
end Go.Proofs.Ytofbmkpfliofeab
