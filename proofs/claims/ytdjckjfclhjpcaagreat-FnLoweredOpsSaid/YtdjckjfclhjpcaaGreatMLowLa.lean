/-
 Helper text (no claim of its own): amplitudes in canonical form, by the reference. Printed by gen_am.py or gen_an.py.
-/
import Derived.Test.YtdjckjfclhjpcaaGreatAn
import Derived.Test.YtdjckjfclhjpcaaGreatDw
import Derived.Test.YtdjckjfclhjpcaaGreatGate
import Derived.Test.YtdjckjfclhjpcaaGreatSvg
/-
 Helper text (no claim of its own): valid amplitudes, by the reference. Printed by gen_am.py or gen_an.py.
-/
namespace Go.Proofs.YtdjckjfclhjpcaaGreat
open Go.ChangeShapes Go.WideShapes Go.ChangeAt Go.RowKit Go.Deep
set_option linter.unusedVariables false
set_option linter.unusedSimpArgs false
set_option maxRecDepth 100000 in
set_option maxHeartbeats 8000000 in
theorem IsValidDOmega_yes (x : Dw) (w : World) (hx : dok x = true) : Calls Tryz.prog 94 #[x.val] w fun e w' => e = .returned (.bool true) ∧ Ext w w' := by
 obtain ⟨x1, x2, x3, x4⟩ := dok_iff.1 hx
 have HX0 := Lib.hid x1
 obtain ⟨m, hm⟩ : ∃ m, (zDiv x.n).1 = m := ⟨_, rfl⟩
 obtain ⟨q, hq⟩ : ∃ q, (zDiv x.n).2 = q := ⟨_, rfl⟩
 have HDV : Hid (∀ w', Calls Tryz.prog 106 #[x.n.val] w' fun e w'' => e = .returned (.tuple #[m.val, .bool q]) ∧ Ext w' w'') := fun w' => by rw [← hm, ← hq]; exact DivSqrt2_any x.n w' x1
 have hE : Hid (0 ≤ x.e ∧ x.e ≤ 60) := ⟨x2, x3⟩
 clear hx x1 hm x2 x3
 cases q with
 | false =>
  clear x4 hq
  go_enter Tryz.func94, Tryz.ntmps94
  go_wp2_with fail
  refine (HDV.out _).mono ?_
  rintro e w1 ⟨rfl, hx1⟩
  have HBX1 : Hid (Blk w1 (w.heap.size) 91 #[.int .i64 x.n.a, .int .i64 x.n.b, .int .i64 x.n.c, .int .i64 x.n.d, .int .i64 x.e]) := ((Blk.newAt (b := w.heap.size) rfl)).ext hx1
  have HE1 : Hid (Ext w w1) := Ext.trans (by exact xx) hx1
  clear hx1
  go_upto_region 2 with (fail)
  have HBX2 : Hid (Blk (w1.alloc (.cells #[.int .i64 m.a, .int .i64 m.b, .int .i64 m.c, .int .i64 m.d] 89)) (w.heap.size) 91 #[.int .i64 x.n.a, .int .i64 x.n.b, .int .i64 x.n.c, .int .i64 x.n.d, .int .i64 x.e]) := HBX1.out.alloc _
  have HBM2 : Hid (Blk (w1.alloc (.cells #[.int .i64 m.a, .int .i64 m.b, .int .i64 m.c, .int .i64 m.d] 89)) w1.heap.size 89 #[.int .i64 m.a, .int .i64 m.b, .int .i64 m.c, .int .i64 m.d]) := Blk.new _ _ _
  have HE2 : Hid (Ext w (w1.alloc (.cells #[.int .i64 m.a, .int .i64 m.b, .int .i64 m.c, .int .i64 m.d] 89))) := HE1.out.alloc _
  have hs2 : w.heap.size + 1 ≤ w1.heap.size := by have := (HBX1).out.lt; omega
  obtain ⟨bM, hbM⟩ : ∃ b, b = w1.heap.size := ⟨_, rfl⟩
  rw [← hbM] at HBM2 hs2 ⊢
  generalize w1.alloc (.cells #[.int .i64 m.a, .int .i64 m.b, .int .i64 m.c, .int .i64 m.d] 89) = w2 at *
  clear hbM
  obtain ⟨⟨cX0, cX1, cX2, cX3, cX4⟩, -⟩ := cells5 HBX2.out
  go_wp2_with fail
  refine (IsValidZOmega_yes x.n _ HX0.out).mono ?_
  rintro e w3 ⟨rfl, hx3⟩
  have HBX3 := Lib.hid (HBX2.out.ext hx3)
  have HBM3 := Lib.hid (HBM2.out.ext hx3)
  have HE3 := Lib.hid (HE2.out.trans hx3)
  clear hx3
  clear cX0 cX1 cX2 cX3 cX4
  obtain ⟨⟨cX0, cX1, cX2, cX3, cX4⟩, -⟩ := cells5 HBX3.out
  go_wp2_with fail
  refine (l1In_yes _ _ _ _ hE.out.1 hE.out.2).mono ?_
  rintro e w' ⟨rfl, rfl⟩
  go_wp2
  go_ret
  exact ⟨rfl, HE3.out⟩
 | true =>
  have h0 : x.e = 0 := by
   rcases x4 with h | h
   ·exact h
   ·rw [hq] at h; cases h
  have HB0 : Hid ((x.e == 0) = true) := beq_iff_eq.2 h0
  clear h0 x4 hq
  go_enter Tryz.func94, Tryz.ntmps94
  go_wp2_with fail
  refine (HDV.out _).mono ?_
  rintro e w1 ⟨rfl, hx1⟩
  have HBX1 : Hid (Blk w1 (w.heap.size) 91 #[.int .i64 x.n.a, .int .i64 x.n.b, .int .i64 x.n.c, .int .i64 x.n.d, .int .i64 x.e]) := ((Blk.newAt (b := w.heap.size) rfl)).ext hx1
  have HE1 : Hid (Ext w w1) := Ext.trans (by exact xx) hx1
  clear hx1
  go_upto_region 2 with (fail)
  have HBX2 : Hid (Blk (w1.alloc (.cells #[.int .i64 m.a, .int .i64 m.b, .int .i64 m.c, .int .i64 m.d] 89)) (w.heap.size) 91 #[.int .i64 x.n.a, .int .i64 x.n.b, .int .i64 x.n.c, .int .i64 x.n.d, .int .i64 x.e]) := HBX1.out.alloc _
  have HBM2 : Hid (Blk (w1.alloc (.cells #[.int .i64 m.a, .int .i64 m.b, .int .i64 m.c, .int .i64 m.d] 89)) w1.heap.size 89 #[.int .i64 m.a, .int .i64 m.b, .int .i64 m.c, .int .i64 m.d]) := Blk.new _ _ _
  have HE2 : Hid (Ext w (w1.alloc (.cells #[.int .i64 m.a, .int .i64 m.b, .int .i64 m.c, .int .i64 m.d] 89))) := HE1.out.alloc _
  have hs2 : w.heap.size + 1 ≤ w1.heap.size := by have := (HBX1).out.lt; omega
  obtain ⟨bM, hbM⟩ : ∃ b, b = w1.heap.size := ⟨_, rfl⟩
  rw [← hbM] at HBM2 hs2 ⊢
  generalize w1.alloc (.cells #[.int .i64 m.a, .int .i64 m.b, .int .i64 m.c, .int .i64 m.d] 89) = w2 at *
  clear hbM
  obtain ⟨⟨cX0, cX1, cX2, cX3, cX4⟩, -⟩ := cells5 HBX2.out
  go_wp2_with fail
  refine (IsValidZOmega_yes x.n _ HX0.out).mono ?_
  rintro e w3 ⟨rfl, hx3⟩
  have HBX3 := Lib.hid (HBX2.out.ext hx3)
  have HBM3 := Lib.hid (HBM2.out.ext hx3)
  have HE3 := Lib.hid (HE2.out.trans hx3)
  clear hx3
  clear cX0 cX1 cX2 cX3 cX4
  obtain ⟨⟨cX0, cX1, cX2, cX3, cX4⟩, -⟩ := cells5 HBX3.out
  go_wp2_with fail
  refine (l1In_yes _ _ _ _ hE.out.1 hE.out.2).mono ?_
  rintro e w' ⟨rfl, rfl⟩
  have hb : (x.e == 0) = true := HB0.out
  go_wp2
  go_ret
  exact ⟨rfl, HE3.out⟩
end Go.Proofs.YtdjckjfclhjpcaaGreat
/-
 Helper text (no claim of its own): powers of the eighth root, one through the root of 2, by the reference. Printed by gen_am.py or gen_an.py.
-/
namespace Go.Proofs.YtdjckjfclhjpcaaGreat
open Go.ChangeShapes Go.WideShapes Go.ChangeAt Go.RowKit Go.Deep
set_option linter.unusedVariables false
set_option linter.unusedSimpArgs false
set_option maxRecDepth 100000 in
set_option maxHeartbeats 8000000 in
theorem PhaseFactor_0 (w : World) : Calls Tryz.prog 96 #[.int .i64 0] w fun e w' => e = .returned (ph 0).val ∧ Ext w w' := by
 go_enter Tryz.func96, Tryz.ntmps96
 go_upto_region 5 with (fail)
 have HR : Hid (Blk ((w.alloc (.cells #[.int .i64 0, .int .i64 0, .int .i64 0, .int .i64 0, .int .i64 0] 91)).alloc (.cells #[.int .i64 1, .int .i64 0, .int .i64 0, .int .i64 0, .int .i64 0, .int .i64 1, .int .i64 0, .int .i64 0, .int .i64 0, .int .i64 0, .int .i64 1, .int .i64 0, .int .i64 0, .int .i64 0, .int .i64 0, .int .i64 1, .int .i64 (-1), .int .i64 0, .int .i64 0, .int .i64 0, .int .i64 0, .int .i64 (-1), .int .i64 0, .int .i64 0, .int .i64 0, .int .i64 0, .int .i64 (-1), .int .i64 0, .int .i64 0, .int .i64 0, .int .i64 0, .int .i64 (-1)] 89)) w.heap.size 91 #[.int .i64 0, .int .i64 0, .int .i64 0, .int .i64 0, .int .i64 0]) := (Blk.new w _ _).alloc _
 have HB : Hid (Blk ((w.alloc (.cells #[.int .i64 0, .int .i64 0, .int .i64 0, .int .i64 0, .int .i64 0] 91)).alloc (.cells #[.int .i64 1, .int .i64 0, .int .i64 0, .int .i64 0, .int .i64 0, .int .i64 1, .int .i64 0, .int .i64 0, .int .i64 0, .int .i64 0, .int .i64 1, .int .i64 0, .int .i64 0, .int .i64 0, .int .i64 0, .int .i64 1, .int .i64 (-1), .int .i64 0, .int .i64 0, .int .i64 0, .int .i64 0, .int .i64 (-1), .int .i64 0, .int .i64 0, .int .i64 0, .int .i64 0, .int .i64 (-1), .int .i64 0, .int .i64 0, .int .i64 0, .int .i64 0, .int .i64 (-1)] 89)) (w.heap.size + 1) 89 #[.int .i64 1, .int .i64 0, .int .i64 0, .int .i64 0, .int .i64 0, .int .i64 1, .int .i64 0, .int .i64 0, .int .i64 0, .int .i64 0, .int .i64 1, .int .i64 0, .int .i64 0, .int .i64 0, .int .i64 0, .int .i64 1, .int .i64 (-1), .int .i64 0, .int .i64 0, .int .i64 0, .int .i64 0, .int .i64 (-1), .int .i64 0, .int .i64 0, .int .i64 0, .int .i64 0, .int .i64 (-1), .int .i64 0, .int .i64 0, .int .i64 0, .int .i64 0, .int .i64 (-1)]) := Blk.newAt (by simp)
 have HE : Hid (Ext w ((w.alloc (.cells #[.int .i64 0, .int .i64 0, .int .i64 0, .int .i64 0, .int .i64 0] 91)).alloc (.cells #[.int .i64 1, .int .i64 0, .int .i64 0, .int .i64 0, .int .i64 0, .int .i64 1, .int .i64 0, .int .i64 0, .int .i64 0, .int .i64 0, .int .i64 1, .int .i64 0, .int .i64 0, .int .i64 0, .int .i64 0, .int .i64 1, .int .i64 (-1), .int .i64 0, .int .i64 0, .int .i64 0, .int .i64 0, .int .i64 (-1), .int .i64 0, .int .i64 0, .int .i64 0, .int .i64 0, .int .i64 (-1), .int .i64 0, .int .i64 0, .int .i64 0, .int .i64 0, .int .i64 (-1)] 89))) := xx
 generalize ((w.alloc (.cells #[.int .i64 0, .int .i64 0, .int .i64 0, .int .i64 0, .int .i64 0] 91)).alloc (.cells #[.int .i64 1, .int .i64 0, .int .i64 0, .int .i64 0, .int .i64 0, .int .i64 1, .int .i64 0, .int .i64 0, .int .i64 0, .int .i64 0, .int .i64 1, .int .i64 0, .int .i64 0, .int .i64 0, .int .i64 0, .int .i64 1, .int .i64 (-1), .int .i64 0, .int .i64 0, .int .i64 0, .int .i64 0, .int .i64 (-1), .int .i64 0, .int .i64 0, .int .i64 0, .int .i64 0, .int .i64 (-1), .int .i64 0, .int .i64 0, .int .i64 0, .int .i64 0, .int .i64 (-1)] 89)) = w2 at *
 have k0 : w2.cell? ⟨w.heap.size + 1, 0, none⟩ = some (.int .i64 1) := HB.out.cell 0
 have k1 : w2.cell? ⟨w.heap.size + 1, 1, none⟩ = some (.int .i64 0) := HB.out.cell 1
 have k2 : w2.cell? ⟨w.heap.size + 1, 2, none⟩ = some (.int .i64 0) := HB.out.cell 2
 have k3 : w2.cell? ⟨w.heap.size + 1, 3, none⟩ = some (.int .i64 0) := HB.out.cell 3
 obtain ⟨⟨c0, c1, c2, c3, c4⟩, f0, f1, f2, f3, f4⟩ := cells5 HR.out
 go_wp2
 have HBB : Hid (Blk (put5 w2 w.heap.size (.int .i64 1) (.int .i64 0) (.int .i64 0) (.int .i64 0) (.int .i64 0)) w.heap.size 91 #[.int .i64 1, .int .i64 0, .int .i64 0, .int .i64 0, .int .i64 0]) := HR.out.put5 _ _ _ _ _
 refine bodyPost_ret (v := .agg #[.int .i64 1, .int .i64 0, .int .i64 0, .int .i64 0, .int .i64 0]) ?_ rfl ?_
 rotate_left
 ·exact ⟨rfl, ext_put5 (g := w.heap.size) HE.out (Nat.le_refl _) _ _ _ _ _⟩
 ·exact retD rfl HBB.out _ (by kernel_rfl) rfl
set_option maxRecDepth 100000 in
set_option maxHeartbeats 8000000 in
theorem PhaseFactor_1 (w : World) : Calls Tryz.prog 96 #[.int .i64 1] w fun e w' => e = .returned (ph 1).val ∧ Ext w w' := by
 go_enter Tryz.func96, Tryz.ntmps96
 go_upto_region 5 with (fail)
 have HR : Hid (Blk ((w.alloc (.cells #[.int .i64 0, .int .i64 0, .int .i64 0, .int .i64 0, .int .i64 0] 91)).alloc (.cells #[.int .i64 1, .int .i64 0, .int .i64 0, .int .i64 0, .int .i64 0, .int .i64 1, .int .i64 0, .int .i64 0, .int .i64 0, .int .i64 0, .int .i64 1, .int .i64 0, .int .i64 0, .int .i64 0, .int .i64 0, .int .i64 1, .int .i64 (-1), .int .i64 0, .int .i64 0, .int .i64 0, .int .i64 0, .int .i64 (-1), .int .i64 0, .int .i64 0, .int .i64 0, .int .i64 0, .int .i64 (-1), .int .i64 0, .int .i64 0, .int .i64 0, .int .i64 0, .int .i64 (-1)] 89)) w.heap.size 91 #[.int .i64 0, .int .i64 0, .int .i64 0, .int .i64 0, .int .i64 0]) := (Blk.new w _ _).alloc _
 have HB : Hid (Blk ((w.alloc (.cells #[.int .i64 0, .int .i64 0, .int .i64 0, .int .i64 0, .int .i64 0] 91)).alloc (.cells #[.int .i64 1, .int .i64 0, .int .i64 0, .int .i64 0, .int .i64 0, .int .i64 1, .int .i64 0, .int .i64 0, .int .i64 0, .int .i64 0, .int .i64 1, .int .i64 0, .int .i64 0, .int .i64 0, .int .i64 0, .int .i64 1, .int .i64 (-1), .int .i64 0, .int .i64 0, .int .i64 0, .int .i64 0, .int .i64 (-1), .int .i64 0, .int .i64 0, .int .i64 0, .int .i64 0, .int .i64 (-1), .int .i64 0, .int .i64 0, .int .i64 0, .int .i64 0, .int .i64 (-1)] 89)) (w.heap.size + 1) 89 #[.int .i64 1, .int .i64 0, .int .i64 0, .int .i64 0, .int .i64 0, .int .i64 1, .int .i64 0, .int .i64 0, .int .i64 0, .int .i64 0, .int .i64 1, .int .i64 0, .int .i64 0, .int .i64 0, .int .i64 0, .int .i64 1, .int .i64 (-1), .int .i64 0, .int .i64 0, .int .i64 0, .int .i64 0, .int .i64 (-1), .int .i64 0, .int .i64 0, .int .i64 0, .int .i64 0, .int .i64 (-1), .int .i64 0, .int .i64 0, .int .i64 0, .int .i64 0, .int .i64 (-1)]) := Blk.newAt (by simp)
 have HE : Hid (Ext w ((w.alloc (.cells #[.int .i64 0, .int .i64 0, .int .i64 0, .int .i64 0, .int .i64 0] 91)).alloc (.cells #[.int .i64 1, .int .i64 0, .int .i64 0, .int .i64 0, .int .i64 0, .int .i64 1, .int .i64 0, .int .i64 0, .int .i64 0, .int .i64 0, .int .i64 1, .int .i64 0, .int .i64 0, .int .i64 0, .int .i64 0, .int .i64 1, .int .i64 (-1), .int .i64 0, .int .i64 0, .int .i64 0, .int .i64 0, .int .i64 (-1), .int .i64 0, .int .i64 0, .int .i64 0, .int .i64 0, .int .i64 (-1), .int .i64 0, .int .i64 0, .int .i64 0, .int .i64 0, .int .i64 (-1)] 89))) := xx
 generalize ((w.alloc (.cells #[.int .i64 0, .int .i64 0, .int .i64 0, .int .i64 0, .int .i64 0] 91)).alloc (.cells #[.int .i64 1, .int .i64 0, .int .i64 0, .int .i64 0, .int .i64 0, .int .i64 1, .int .i64 0, .int .i64 0, .int .i64 0, .int .i64 0, .int .i64 1, .int .i64 0, .int .i64 0, .int .i64 0, .int .i64 0, .int .i64 1, .int .i64 (-1), .int .i64 0, .int .i64 0, .int .i64 0, .int .i64 0, .int .i64 (-1), .int .i64 0, .int .i64 0, .int .i64 0, .int .i64 0, .int .i64 (-1), .int .i64 0, .int .i64 0, .int .i64 0, .int .i64 0, .int .i64 (-1)] 89)) = w2 at *
 have k0 : w2.cell? ⟨w.heap.size + 1, 4, none⟩ = some (.int .i64 0) := HB.out.cell 4
 have k1 : w2.cell? ⟨w.heap.size + 1, 5, none⟩ = some (.int .i64 1) := HB.out.cell 5
 have k2 : w2.cell? ⟨w.heap.size + 1, 6, none⟩ = some (.int .i64 0) := HB.out.cell 6
 have k3 : w2.cell? ⟨w.heap.size + 1, 7, none⟩ = some (.int .i64 0) := HB.out.cell 7
 obtain ⟨⟨c0, c1, c2, c3, c4⟩, f0, f1, f2, f3, f4⟩ := cells5 HR.out
 go_wp2
 have HBB : Hid (Blk (put5 w2 w.heap.size (.int .i64 0) (.int .i64 1) (.int .i64 0) (.int .i64 0) (.int .i64 0)) w.heap.size 91 #[.int .i64 0, .int .i64 1, .int .i64 0, .int .i64 0, .int .i64 0]) := HR.out.put5 _ _ _ _ _
 refine bodyPost_ret (v := .agg #[.int .i64 0, .int .i64 1, .int .i64 0, .int .i64 0, .int .i64 0]) ?_ rfl ?_
 rotate_left
 ·exact ⟨rfl, ext_put5 (g := w.heap.size) HE.out (Nat.le_refl _) _ _ _ _ _⟩
 ·exact retD rfl HBB.out _ (by kernel_rfl) rfl
set_option maxRecDepth 100000 in
set_option maxHeartbeats 8000000 in
theorem PhaseFactor_2 (w : World) : Calls Tryz.prog 96 #[.int .i64 2] w fun e w' => e = .returned (ph 2).val ∧ Ext w w' := by
 go_enter Tryz.func96, Tryz.ntmps96
 go_upto_region 5 with (fail)
 have HR : Hid (Blk ((w.alloc (.cells #[.int .i64 0, .int .i64 0, .int .i64 0, .int .i64 0, .int .i64 0] 91)).alloc (.cells #[.int .i64 1, .int .i64 0, .int .i64 0, .int .i64 0, .int .i64 0, .int .i64 1, .int .i64 0, .int .i64 0, .int .i64 0, .int .i64 0, .int .i64 1, .int .i64 0, .int .i64 0, .int .i64 0, .int .i64 0, .int .i64 1, .int .i64 (-1), .int .i64 0, .int .i64 0, .int .i64 0, .int .i64 0, .int .i64 (-1), .int .i64 0, .int .i64 0, .int .i64 0, .int .i64 0, .int .i64 (-1), .int .i64 0, .int .i64 0, .int .i64 0, .int .i64 0, .int .i64 (-1)] 89)) w.heap.size 91 #[.int .i64 0, .int .i64 0, .int .i64 0, .int .i64 0, .int .i64 0]) := (Blk.new w _ _).alloc _
 have HB : Hid (Blk ((w.alloc (.cells #[.int .i64 0, .int .i64 0, .int .i64 0, .int .i64 0, .int .i64 0] 91)).alloc (.cells #[.int .i64 1, .int .i64 0, .int .i64 0, .int .i64 0, .int .i64 0, .int .i64 1, .int .i64 0, .int .i64 0, .int .i64 0, .int .i64 0, .int .i64 1, .int .i64 0, .int .i64 0, .int .i64 0, .int .i64 0, .int .i64 1, .int .i64 (-1), .int .i64 0, .int .i64 0, .int .i64 0, .int .i64 0, .int .i64 (-1), .int .i64 0, .int .i64 0, .int .i64 0, .int .i64 0, .int .i64 (-1), .int .i64 0, .int .i64 0, .int .i64 0, .int .i64 0, .int .i64 (-1)] 89)) (w.heap.size + 1) 89 #[.int .i64 1, .int .i64 0, .int .i64 0, .int .i64 0, .int .i64 0, .int .i64 1, .int .i64 0, .int .i64 0, .int .i64 0, .int .i64 0, .int .i64 1, .int .i64 0, .int .i64 0, .int .i64 0, .int .i64 0, .int .i64 1, .int .i64 (-1), .int .i64 0, .int .i64 0, .int .i64 0, .int .i64 0, .int .i64 (-1), .int .i64 0, .int .i64 0, .int .i64 0, .int .i64 0, .int .i64 (-1), .int .i64 0, .int .i64 0, .int .i64 0, .int .i64 0, .int .i64 (-1)]) := Blk.newAt (by simp)
 have HE : Hid (Ext w ((w.alloc (.cells #[.int .i64 0, .int .i64 0, .int .i64 0, .int .i64 0, .int .i64 0] 91)).alloc (.cells #[.int .i64 1, .int .i64 0, .int .i64 0, .int .i64 0, .int .i64 0, .int .i64 1, .int .i64 0, .int .i64 0, .int .i64 0, .int .i64 0, .int .i64 1, .int .i64 0, .int .i64 0, .int .i64 0, .int .i64 0, .int .i64 1, .int .i64 (-1), .int .i64 0, .int .i64 0, .int .i64 0, .int .i64 0, .int .i64 (-1), .int .i64 0, .int .i64 0, .int .i64 0, .int .i64 0, .int .i64 (-1), .int .i64 0, .int .i64 0, .int .i64 0, .int .i64 0, .int .i64 (-1)] 89))) := xx
 generalize ((w.alloc (.cells #[.int .i64 0, .int .i64 0, .int .i64 0, .int .i64 0, .int .i64 0] 91)).alloc (.cells #[.int .i64 1, .int .i64 0, .int .i64 0, .int .i64 0, .int .i64 0, .int .i64 1, .int .i64 0, .int .i64 0, .int .i64 0, .int .i64 0, .int .i64 1, .int .i64 0, .int .i64 0, .int .i64 0, .int .i64 0, .int .i64 1, .int .i64 (-1), .int .i64 0, .int .i64 0, .int .i64 0, .int .i64 0, .int .i64 (-1), .int .i64 0, .int .i64 0, .int .i64 0, .int .i64 0, .int .i64 (-1), .int .i64 0, .int .i64 0, .int .i64 0, .int .i64 0, .int .i64 (-1)] 89)) = w2 at *
 have k0 : w2.cell? ⟨w.heap.size + 1, 8, none⟩ = some (.int .i64 0) := HB.out.cell 8
 have k1 : w2.cell? ⟨w.heap.size + 1, 9, none⟩ = some (.int .i64 0) := HB.out.cell 9
 have k2 : w2.cell? ⟨w.heap.size + 1, 10, none⟩ = some (.int .i64 1) := HB.out.cell 10
 have k3 : w2.cell? ⟨w.heap.size + 1, 11, none⟩ = some (.int .i64 0) := HB.out.cell 11
 obtain ⟨⟨c0, c1, c2, c3, c4⟩, f0, f1, f2, f3, f4⟩ := cells5 HR.out
 go_wp2
 have HBB : Hid (Blk (put5 w2 w.heap.size (.int .i64 0) (.int .i64 0) (.int .i64 1) (.int .i64 0) (.int .i64 0)) w.heap.size 91 #[.int .i64 0, .int .i64 0, .int .i64 1, .int .i64 0, .int .i64 0]) := HR.out.put5 _ _ _ _ _
 refine bodyPost_ret (v := .agg #[.int .i64 0, .int .i64 0, .int .i64 1, .int .i64 0, .int .i64 0]) ?_ rfl ?_
 rotate_left
 ·exact ⟨rfl, ext_put5 (g := w.heap.size) HE.out (Nat.le_refl _) _ _ _ _ _⟩
 ·exact retD rfl HBB.out _ (by kernel_rfl) rfl
set_option maxRecDepth 100000 in
set_option maxHeartbeats 8000000 in
theorem PhaseFactor_3 (w : World) : Calls Tryz.prog 96 #[.int .i64 3] w fun e w' => e = .returned (ph 3).val ∧ Ext w w' := by
 go_enter Tryz.func96, Tryz.ntmps96
 go_upto_region 5 with (fail)
 have HR : Hid (Blk ((w.alloc (.cells #[.int .i64 0, .int .i64 0, .int .i64 0, .int .i64 0, .int .i64 0] 91)).alloc (.cells #[.int .i64 1, .int .i64 0, .int .i64 0, .int .i64 0, .int .i64 0, .int .i64 1, .int .i64 0, .int .i64 0, .int .i64 0, .int .i64 0, .int .i64 1, .int .i64 0, .int .i64 0, .int .i64 0, .int .i64 0, .int .i64 1, .int .i64 (-1), .int .i64 0, .int .i64 0, .int .i64 0, .int .i64 0, .int .i64 (-1), .int .i64 0, .int .i64 0, .int .i64 0, .int .i64 0, .int .i64 (-1), .int .i64 0, .int .i64 0, .int .i64 0, .int .i64 0, .int .i64 (-1)] 89)) w.heap.size 91 #[.int .i64 0, .int .i64 0, .int .i64 0, .int .i64 0, .int .i64 0]) := (Blk.new w _ _).alloc _
 have HB : Hid (Blk ((w.alloc (.cells #[.int .i64 0, .int .i64 0, .int .i64 0, .int .i64 0, .int .i64 0] 91)).alloc (.cells #[.int .i64 1, .int .i64 0, .int .i64 0, .int .i64 0, .int .i64 0, .int .i64 1, .int .i64 0, .int .i64 0, .int .i64 0, .int .i64 0, .int .i64 1, .int .i64 0, .int .i64 0, .int .i64 0, .int .i64 0, .int .i64 1, .int .i64 (-1), .int .i64 0, .int .i64 0, .int .i64 0, .int .i64 0, .int .i64 (-1), .int .i64 0, .int .i64 0, .int .i64 0, .int .i64 0, .int .i64 (-1), .int .i64 0, .int .i64 0, .int .i64 0, .int .i64 0, .int .i64 (-1)] 89)) (w.heap.size + 1) 89 #[.int .i64 1, .int .i64 0, .int .i64 0, .int .i64 0, .int .i64 0, .int .i64 1, .int .i64 0, .int .i64 0, .int .i64 0, .int .i64 0, .int .i64 1, .int .i64 0, .int .i64 0, .int .i64 0, .int .i64 0, .int .i64 1, .int .i64 (-1), .int .i64 0, .int .i64 0, .int .i64 0, .int .i64 0, .int .i64 (-1), .int .i64 0, .int .i64 0, .int .i64 0, .int .i64 0, .int .i64 (-1), .int .i64 0, .int .i64 0, .int .i64 0, .int .i64 0, .int .i64 (-1)]) := Blk.newAt (by simp)
 have HE : Hid (Ext w ((w.alloc (.cells #[.int .i64 0, .int .i64 0, .int .i64 0, .int .i64 0, .int .i64 0] 91)).alloc (.cells #[.int .i64 1, .int .i64 0, .int .i64 0, .int .i64 0, .int .i64 0, .int .i64 1, .int .i64 0, .int .i64 0, .int .i64 0, .int .i64 0, .int .i64 1, .int .i64 0, .int .i64 0, .int .i64 0, .int .i64 0, .int .i64 1, .int .i64 (-1), .int .i64 0, .int .i64 0, .int .i64 0, .int .i64 0, .int .i64 (-1), .int .i64 0, .int .i64 0, .int .i64 0, .int .i64 0, .int .i64 (-1), .int .i64 0, .int .i64 0, .int .i64 0, .int .i64 0, .int .i64 (-1)] 89))) := xx
 generalize ((w.alloc (.cells #[.int .i64 0, .int .i64 0, .int .i64 0, .int .i64 0, .int .i64 0] 91)).alloc (.cells #[.int .i64 1, .int .i64 0, .int .i64 0, .int .i64 0, .int .i64 0, .int .i64 1, .int .i64 0, .int .i64 0, .int .i64 0, .int .i64 0, .int .i64 1, .int .i64 0, .int .i64 0, .int .i64 0, .int .i64 0, .int .i64 1, .int .i64 (-1), .int .i64 0, .int .i64 0, .int .i64 0, .int .i64 0, .int .i64 (-1), .int .i64 0, .int .i64 0, .int .i64 0, .int .i64 0, .int .i64 (-1), .int .i64 0, .int .i64 0, .int .i64 0, .int .i64 0, .int .i64 (-1)] 89)) = w2 at *
 have k0 : w2.cell? ⟨w.heap.size + 1, 12, none⟩ = some (.int .i64 0) := HB.out.cell 12
 have k1 : w2.cell? ⟨w.heap.size + 1, 13, none⟩ = some (.int .i64 0) := HB.out.cell 13
 have k2 : w2.cell? ⟨w.heap.size + 1, 14, none⟩ = some (.int .i64 0) := HB.out.cell 14
 have k3 : w2.cell? ⟨w.heap.size + 1, 15, none⟩ = some (.int .i64 1) := HB.out.cell 15
 obtain ⟨⟨c0, c1, c2, c3, c4⟩, f0, f1, f2, f3, f4⟩ := cells5 HR.out
 go_wp2
 have HBB : Hid (Blk (put5 w2 w.heap.size (.int .i64 0) (.int .i64 0) (.int .i64 0) (.int .i64 1) (.int .i64 0)) w.heap.size 91 #[.int .i64 0, .int .i64 0, .int .i64 0, .int .i64 1, .int .i64 0]) := HR.out.put5 _ _ _ _ _
 refine bodyPost_ret (v := .agg #[.int .i64 0, .int .i64 0, .int .i64 0, .int .i64 1, .int .i64 0]) ?_ rfl ?_
 rotate_left
 ·exact ⟨rfl, ext_put5 (g := w.heap.size) HE.out (Nat.le_refl _) _ _ _ _ _⟩
 ·exact retD rfl HBB.out _ (by kernel_rfl) rfl
set_option maxRecDepth 100000 in
set_option maxHeartbeats 8000000 in
theorem PhaseFactor_4 (w : World) : Calls Tryz.prog 96 #[.int .i64 4] w fun e w' => e = .returned (ph 4).val ∧ Ext w w' := by
 go_enter Tryz.func96, Tryz.ntmps96
 go_upto_region 5 with (fail)
 have HR : Hid (Blk ((w.alloc (.cells #[.int .i64 0, .int .i64 0, .int .i64 0, .int .i64 0, .int .i64 0] 91)).alloc (.cells #[.int .i64 1, .int .i64 0, .int .i64 0, .int .i64 0, .int .i64 0, .int .i64 1, .int .i64 0, .int .i64 0, .int .i64 0, .int .i64 0, .int .i64 1, .int .i64 0, .int .i64 0, .int .i64 0, .int .i64 0, .int .i64 1, .int .i64 (-1), .int .i64 0, .int .i64 0, .int .i64 0, .int .i64 0, .int .i64 (-1), .int .i64 0, .int .i64 0, .int .i64 0, .int .i64 0, .int .i64 (-1), .int .i64 0, .int .i64 0, .int .i64 0, .int .i64 0, .int .i64 (-1)] 89)) w.heap.size 91 #[.int .i64 0, .int .i64 0, .int .i64 0, .int .i64 0, .int .i64 0]) := (Blk.new w _ _).alloc _
 have HB : Hid (Blk ((w.alloc (.cells #[.int .i64 0, .int .i64 0, .int .i64 0, .int .i64 0, .int .i64 0] 91)).alloc (.cells #[.int .i64 1, .int .i64 0, .int .i64 0, .int .i64 0, .int .i64 0, .int .i64 1, .int .i64 0, .int .i64 0, .int .i64 0, .int .i64 0, .int .i64 1, .int .i64 0, .int .i64 0, .int .i64 0, .int .i64 0, .int .i64 1, .int .i64 (-1), .int .i64 0, .int .i64 0, .int .i64 0, .int .i64 0, .int .i64 (-1), .int .i64 0, .int .i64 0, .int .i64 0, .int .i64 0, .int .i64 (-1), .int .i64 0, .int .i64 0, .int .i64 0, .int .i64 0, .int .i64 (-1)] 89)) (w.heap.size + 1) 89 #[.int .i64 1, .int .i64 0, .int .i64 0, .int .i64 0, .int .i64 0, .int .i64 1, .int .i64 0, .int .i64 0, .int .i64 0, .int .i64 0, .int .i64 1, .int .i64 0, .int .i64 0, .int .i64 0, .int .i64 0, .int .i64 1, .int .i64 (-1), .int .i64 0, .int .i64 0, .int .i64 0, .int .i64 0, .int .i64 (-1), .int .i64 0, .int .i64 0, .int .i64 0, .int .i64 0, .int .i64 (-1), .int .i64 0, .int .i64 0, .int .i64 0, .int .i64 0, .int .i64 (-1)]) := Blk.newAt (by simp)
 have HE : Hid (Ext w ((w.alloc (.cells #[.int .i64 0, .int .i64 0, .int .i64 0, .int .i64 0, .int .i64 0] 91)).alloc (.cells #[.int .i64 1, .int .i64 0, .int .i64 0, .int .i64 0, .int .i64 0, .int .i64 1, .int .i64 0, .int .i64 0, .int .i64 0, .int .i64 0, .int .i64 1, .int .i64 0, .int .i64 0, .int .i64 0, .int .i64 0, .int .i64 1, .int .i64 (-1), .int .i64 0, .int .i64 0, .int .i64 0, .int .i64 0, .int .i64 (-1), .int .i64 0, .int .i64 0, .int .i64 0, .int .i64 0, .int .i64 (-1), .int .i64 0, .int .i64 0, .int .i64 0, .int .i64 0, .int .i64 (-1)] 89))) := xx
 generalize ((w.alloc (.cells #[.int .i64 0, .int .i64 0, .int .i64 0, .int .i64 0, .int .i64 0] 91)).alloc (.cells #[.int .i64 1, .int .i64 0, .int .i64 0, .int .i64 0, .int .i64 0, .int .i64 1, .int .i64 0, .int .i64 0, .int .i64 0, .int .i64 0, .int .i64 1, .int .i64 0, .int .i64 0, .int .i64 0, .int .i64 0, .int .i64 1, .int .i64 (-1), .int .i64 0, .int .i64 0, .int .i64 0, .int .i64 0, .int .i64 (-1), .int .i64 0, .int .i64 0, .int .i64 0, .int .i64 0, .int .i64 (-1), .int .i64 0, .int .i64 0, .int .i64 0, .int .i64 0, .int .i64 (-1)] 89)) = w2 at *
 have k0 : w2.cell? ⟨w.heap.size + 1, 16, none⟩ = some (.int .i64 (-1)) := HB.out.cell 16
 have k1 : w2.cell? ⟨w.heap.size + 1, 17, none⟩ = some (.int .i64 0) := HB.out.cell 17
 have k2 : w2.cell? ⟨w.heap.size + 1, 18, none⟩ = some (.int .i64 0) := HB.out.cell 18
 have k3 : w2.cell? ⟨w.heap.size + 1, 19, none⟩ = some (.int .i64 0) := HB.out.cell 19
 obtain ⟨⟨c0, c1, c2, c3, c4⟩, f0, f1, f2, f3, f4⟩ := cells5 HR.out
 go_wp2
 have HBB : Hid (Blk (put5 w2 w.heap.size (.int .i64 (-1)) (.int .i64 0) (.int .i64 0) (.int .i64 0) (.int .i64 0)) w.heap.size 91 #[.int .i64 (-1), .int .i64 0, .int .i64 0, .int .i64 0, .int .i64 0]) := HR.out.put5 _ _ _ _ _
 refine bodyPost_ret (v := .agg #[.int .i64 (-1), .int .i64 0, .int .i64 0, .int .i64 0, .int .i64 0]) ?_ rfl ?_
 rotate_left
 ·exact ⟨rfl, ext_put5 (g := w.heap.size) HE.out (Nat.le_refl _) _ _ _ _ _⟩
 ·exact retD rfl HBB.out _ (by kernel_rfl) rfl
set_option maxRecDepth 100000 in
set_option maxHeartbeats 8000000 in
theorem PhaseFactor_5 (w : World) : Calls Tryz.prog 96 #[.int .i64 5] w fun e w' => e = .returned (ph 5).val ∧ Ext w w' := by
 go_enter Tryz.func96, Tryz.ntmps96
 go_upto_region 5 with (fail)
 have HR : Hid (Blk ((w.alloc (.cells #[.int .i64 0, .int .i64 0, .int .i64 0, .int .i64 0, .int .i64 0] 91)).alloc (.cells #[.int .i64 1, .int .i64 0, .int .i64 0, .int .i64 0, .int .i64 0, .int .i64 1, .int .i64 0, .int .i64 0, .int .i64 0, .int .i64 0, .int .i64 1, .int .i64 0, .int .i64 0, .int .i64 0, .int .i64 0, .int .i64 1, .int .i64 (-1), .int .i64 0, .int .i64 0, .int .i64 0, .int .i64 0, .int .i64 (-1), .int .i64 0, .int .i64 0, .int .i64 0, .int .i64 0, .int .i64 (-1), .int .i64 0, .int .i64 0, .int .i64 0, .int .i64 0, .int .i64 (-1)] 89)) w.heap.size 91 #[.int .i64 0, .int .i64 0, .int .i64 0, .int .i64 0, .int .i64 0]) := (Blk.new w _ _).alloc _
 have HB : Hid (Blk ((w.alloc (.cells #[.int .i64 0, .int .i64 0, .int .i64 0, .int .i64 0, .int .i64 0] 91)).alloc (.cells #[.int .i64 1, .int .i64 0, .int .i64 0, .int .i64 0, .int .i64 0, .int .i64 1, .int .i64 0, .int .i64 0, .int .i64 0, .int .i64 0, .int .i64 1, .int .i64 0, .int .i64 0, .int .i64 0, .int .i64 0, .int .i64 1, .int .i64 (-1), .int .i64 0, .int .i64 0, .int .i64 0, .int .i64 0, .int .i64 (-1), .int .i64 0, .int .i64 0, .int .i64 0, .int .i64 0, .int .i64 (-1), .int .i64 0, .int .i64 0, .int .i64 0, .int .i64 0, .int .i64 (-1)] 89)) (w.heap.size + 1) 89 #[.int .i64 1, .int .i64 0, .int .i64 0, .int .i64 0, .int .i64 0, .int .i64 1, .int .i64 0, .int .i64 0, .int .i64 0, .int .i64 0, .int .i64 1, .int .i64 0, .int .i64 0, .int .i64 0, .int .i64 0, .int .i64 1, .int .i64 (-1), .int .i64 0, .int .i64 0, .int .i64 0, .int .i64 0, .int .i64 (-1), .int .i64 0, .int .i64 0, .int .i64 0, .int .i64 0, .int .i64 (-1), .int .i64 0, .int .i64 0, .int .i64 0, .int .i64 0, .int .i64 (-1)]) := Blk.newAt (by simp)
 have HE : Hid (Ext w ((w.alloc (.cells #[.int .i64 0, .int .i64 0, .int .i64 0, .int .i64 0, .int .i64 0] 91)).alloc (.cells #[.int .i64 1, .int .i64 0, .int .i64 0, .int .i64 0, .int .i64 0, .int .i64 1, .int .i64 0, .int .i64 0, .int .i64 0, .int .i64 0, .int .i64 1, .int .i64 0, .int .i64 0, .int .i64 0, .int .i64 0, .int .i64 1, .int .i64 (-1), .int .i64 0, .int .i64 0, .int .i64 0, .int .i64 0, .int .i64 (-1), .int .i64 0, .int .i64 0, .int .i64 0, .int .i64 0, .int .i64 (-1), .int .i64 0, .int .i64 0, .int .i64 0, .int .i64 0, .int .i64 (-1)] 89))) := xx
 generalize ((w.alloc (.cells #[.int .i64 0, .int .i64 0, .int .i64 0, .int .i64 0, .int .i64 0] 91)).alloc (.cells #[.int .i64 1, .int .i64 0, .int .i64 0, .int .i64 0, .int .i64 0, .int .i64 1, .int .i64 0, .int .i64 0, .int .i64 0, .int .i64 0, .int .i64 1, .int .i64 0, .int .i64 0, .int .i64 0, .int .i64 0, .int .i64 1, .int .i64 (-1), .int .i64 0, .int .i64 0, .int .i64 0, .int .i64 0, .int .i64 (-1), .int .i64 0, .int .i64 0, .int .i64 0, .int .i64 0, .int .i64 (-1), .int .i64 0, .int .i64 0, .int .i64 0, .int .i64 0, .int .i64 (-1)] 89)) = w2 at *
 have k0 : w2.cell? ⟨w.heap.size + 1, 20, none⟩ = some (.int .i64 0) := HB.out.cell 20
 have k1 : w2.cell? ⟨w.heap.size + 1, 21, none⟩ = some (.int .i64 (-1)) := HB.out.cell 21
 have k2 : w2.cell? ⟨w.heap.size + 1, 22, none⟩ = some (.int .i64 0) := HB.out.cell 22
 have k3 : w2.cell? ⟨w.heap.size + 1, 23, none⟩ = some (.int .i64 0) := HB.out.cell 23
 obtain ⟨⟨c0, c1, c2, c3, c4⟩, f0, f1, f2, f3, f4⟩ := cells5 HR.out
 go_wp2
 have HBB : Hid (Blk (put5 w2 w.heap.size (.int .i64 0) (.int .i64 (-1)) (.int .i64 0) (.int .i64 0) (.int .i64 0)) w.heap.size 91 #[.int .i64 0, .int .i64 (-1), .int .i64 0, .int .i64 0, .int .i64 0]) := HR.out.put5 _ _ _ _ _
 refine bodyPost_ret (v := .agg #[.int .i64 0, .int .i64 (-1), .int .i64 0, .int .i64 0, .int .i64 0]) ?_ rfl ?_
 rotate_left
 ·exact ⟨rfl, ext_put5 (g := w.heap.size) HE.out (Nat.le_refl _) _ _ _ _ _⟩
 ·exact retD rfl HBB.out _ (by kernel_rfl) rfl
set_option maxRecDepth 100000 in
set_option maxHeartbeats 8000000 in
theorem PhaseFactor_6 (w : World) : Calls Tryz.prog 96 #[.int .i64 6] w fun e w' => e = .returned (ph 6).val ∧ Ext w w' := by
 go_enter Tryz.func96, Tryz.ntmps96
 go_upto_region 5 with (fail)
 have HR : Hid (Blk ((w.alloc (.cells #[.int .i64 0, .int .i64 0, .int .i64 0, .int .i64 0, .int .i64 0] 91)).alloc (.cells #[.int .i64 1, .int .i64 0, .int .i64 0, .int .i64 0, .int .i64 0, .int .i64 1, .int .i64 0, .int .i64 0, .int .i64 0, .int .i64 0, .int .i64 1, .int .i64 0, .int .i64 0, .int .i64 0, .int .i64 0, .int .i64 1, .int .i64 (-1), .int .i64 0, .int .i64 0, .int .i64 0, .int .i64 0, .int .i64 (-1), .int .i64 0, .int .i64 0, .int .i64 0, .int .i64 0, .int .i64 (-1), .int .i64 0, .int .i64 0, .int .i64 0, .int .i64 0, .int .i64 (-1)] 89)) w.heap.size 91 #[.int .i64 0, .int .i64 0, .int .i64 0, .int .i64 0, .int .i64 0]) := (Blk.new w _ _).alloc _
 have HB : Hid (Blk ((w.alloc (.cells #[.int .i64 0, .int .i64 0, .int .i64 0, .int .i64 0, .int .i64 0] 91)).alloc (.cells #[.int .i64 1, .int .i64 0, .int .i64 0, .int .i64 0, .int .i64 0, .int .i64 1, .int .i64 0, .int .i64 0, .int .i64 0, .int .i64 0, .int .i64 1, .int .i64 0, .int .i64 0, .int .i64 0, .int .i64 0, .int .i64 1, .int .i64 (-1), .int .i64 0, .int .i64 0, .int .i64 0, .int .i64 0, .int .i64 (-1), .int .i64 0, .int .i64 0, .int .i64 0, .int .i64 0, .int .i64 (-1), .int .i64 0, .int .i64 0, .int .i64 0, .int .i64 0, .int .i64 (-1)] 89)) (w.heap.size + 1) 89 #[.int .i64 1, .int .i64 0, .int .i64 0, .int .i64 0, .int .i64 0, .int .i64 1, .int .i64 0, .int .i64 0, .int .i64 0, .int .i64 0, .int .i64 1, .int .i64 0, .int .i64 0, .int .i64 0, .int .i64 0, .int .i64 1, .int .i64 (-1), .int .i64 0, .int .i64 0, .int .i64 0, .int .i64 0, .int .i64 (-1), .int .i64 0, .int .i64 0, .int .i64 0, .int .i64 0, .int .i64 (-1), .int .i64 0, .int .i64 0, .int .i64 0, .int .i64 0, .int .i64 (-1)]) := Blk.newAt (by simp)
 have HE : Hid (Ext w ((w.alloc (.cells #[.int .i64 0, .int .i64 0, .int .i64 0, .int .i64 0, .int .i64 0] 91)).alloc (.cells #[.int .i64 1, .int .i64 0, .int .i64 0, .int .i64 0, .int .i64 0, .int .i64 1, .int .i64 0, .int .i64 0, .int .i64 0, .int .i64 0, .int .i64 1, .int .i64 0, .int .i64 0, .int .i64 0, .int .i64 0, .int .i64 1, .int .i64 (-1), .int .i64 0, .int .i64 0, .int .i64 0, .int .i64 0, .int .i64 (-1), .int .i64 0, .int .i64 0, .int .i64 0, .int .i64 0, .int .i64 (-1), .int .i64 0, .int .i64 0, .int .i64 0, .int .i64 0, .int .i64 (-1)] 89))) := xx
 generalize ((w.alloc (.cells #[.int .i64 0, .int .i64 0, .int .i64 0, .int .i64 0, .int .i64 0] 91)).alloc (.cells #[.int .i64 1, .int .i64 0, .int .i64 0, .int .i64 0, .int .i64 0, .int .i64 1, .int .i64 0, .int .i64 0, .int .i64 0, .int .i64 0, .int .i64 1, .int .i64 0, .int .i64 0, .int .i64 0, .int .i64 0, .int .i64 1, .int .i64 (-1), .int .i64 0, .int .i64 0, .int .i64 0, .int .i64 0, .int .i64 (-1), .int .i64 0, .int .i64 0, .int .i64 0, .int .i64 0, .int .i64 (-1), .int .i64 0, .int .i64 0, .int .i64 0, .int .i64 0, .int .i64 (-1)] 89)) = w2 at *
 have k0 : w2.cell? ⟨w.heap.size + 1, 24, none⟩ = some (.int .i64 0) := HB.out.cell 24
 have k1 : w2.cell? ⟨w.heap.size + 1, 25, none⟩ = some (.int .i64 0) := HB.out.cell 25
 have k2 : w2.cell? ⟨w.heap.size + 1, 26, none⟩ = some (.int .i64 (-1)) := HB.out.cell 26
 have k3 : w2.cell? ⟨w.heap.size + 1, 27, none⟩ = some (.int .i64 0) := HB.out.cell 27
 obtain ⟨⟨c0, c1, c2, c3, c4⟩, f0, f1, f2, f3, f4⟩ := cells5 HR.out
 go_wp2
 have HBB : Hid (Blk (put5 w2 w.heap.size (.int .i64 0) (.int .i64 0) (.int .i64 (-1)) (.int .i64 0) (.int .i64 0)) w.heap.size 91 #[.int .i64 0, .int .i64 0, .int .i64 (-1), .int .i64 0, .int .i64 0]) := HR.out.put5 _ _ _ _ _
 refine bodyPost_ret (v := .agg #[.int .i64 0, .int .i64 0, .int .i64 (-1), .int .i64 0, .int .i64 0]) ?_ rfl ?_
 rotate_left
 ·exact ⟨rfl, ext_put5 (g := w.heap.size) HE.out (Nat.le_refl _) _ _ _ _ _⟩
 ·exact retD rfl HBB.out _ (by kernel_rfl) rfl
set_option maxRecDepth 100000 in
set_option maxHeartbeats 8000000 in
theorem PhaseFactor_7 (w : World) : Calls Tryz.prog 96 #[.int .i64 7] w fun e w' => e = .returned (ph 7).val ∧ Ext w w' := by
 go_enter Tryz.func96, Tryz.ntmps96
 go_upto_region 5 with (fail)
 have HR : Hid (Blk ((w.alloc (.cells #[.int .i64 0, .int .i64 0, .int .i64 0, .int .i64 0, .int .i64 0] 91)).alloc (.cells #[.int .i64 1, .int .i64 0, .int .i64 0, .int .i64 0, .int .i64 0, .int .i64 1, .int .i64 0, .int .i64 0, .int .i64 0, .int .i64 0, .int .i64 1, .int .i64 0, .int .i64 0, .int .i64 0, .int .i64 0, .int .i64 1, .int .i64 (-1), .int .i64 0, .int .i64 0, .int .i64 0, .int .i64 0, .int .i64 (-1), .int .i64 0, .int .i64 0, .int .i64 0, .int .i64 0, .int .i64 (-1), .int .i64 0, .int .i64 0, .int .i64 0, .int .i64 0, .int .i64 (-1)] 89)) w.heap.size 91 #[.int .i64 0, .int .i64 0, .int .i64 0, .int .i64 0, .int .i64 0]) := (Blk.new w _ _).alloc _
 have HB : Hid (Blk ((w.alloc (.cells #[.int .i64 0, .int .i64 0, .int .i64 0, .int .i64 0, .int .i64 0] 91)).alloc (.cells #[.int .i64 1, .int .i64 0, .int .i64 0, .int .i64 0, .int .i64 0, .int .i64 1, .int .i64 0, .int .i64 0, .int .i64 0, .int .i64 0, .int .i64 1, .int .i64 0, .int .i64 0, .int .i64 0, .int .i64 0, .int .i64 1, .int .i64 (-1), .int .i64 0, .int .i64 0, .int .i64 0, .int .i64 0, .int .i64 (-1), .int .i64 0, .int .i64 0, .int .i64 0, .int .i64 0, .int .i64 (-1), .int .i64 0, .int .i64 0, .int .i64 0, .int .i64 0, .int .i64 (-1)] 89)) (w.heap.size + 1) 89 #[.int .i64 1, .int .i64 0, .int .i64 0, .int .i64 0, .int .i64 0, .int .i64 1, .int .i64 0, .int .i64 0, .int .i64 0, .int .i64 0, .int .i64 1, .int .i64 0, .int .i64 0, .int .i64 0, .int .i64 0, .int .i64 1, .int .i64 (-1), .int .i64 0, .int .i64 0, .int .i64 0, .int .i64 0, .int .i64 (-1), .int .i64 0, .int .i64 0, .int .i64 0, .int .i64 0, .int .i64 (-1), .int .i64 0, .int .i64 0, .int .i64 0, .int .i64 0, .int .i64 (-1)]) := Blk.newAt (by simp)
 have HE : Hid (Ext w ((w.alloc (.cells #[.int .i64 0, .int .i64 0, .int .i64 0, .int .i64 0, .int .i64 0] 91)).alloc (.cells #[.int .i64 1, .int .i64 0, .int .i64 0, .int .i64 0, .int .i64 0, .int .i64 1, .int .i64 0, .int .i64 0, .int .i64 0, .int .i64 0, .int .i64 1, .int .i64 0, .int .i64 0, .int .i64 0, .int .i64 0, .int .i64 1, .int .i64 (-1), .int .i64 0, .int .i64 0, .int .i64 0, .int .i64 0, .int .i64 (-1), .int .i64 0, .int .i64 0, .int .i64 0, .int .i64 0, .int .i64 (-1), .int .i64 0, .int .i64 0, .int .i64 0, .int .i64 0, .int .i64 (-1)] 89))) := xx
 generalize ((w.alloc (.cells #[.int .i64 0, .int .i64 0, .int .i64 0, .int .i64 0, .int .i64 0] 91)).alloc (.cells #[.int .i64 1, .int .i64 0, .int .i64 0, .int .i64 0, .int .i64 0, .int .i64 1, .int .i64 0, .int .i64 0, .int .i64 0, .int .i64 0, .int .i64 1, .int .i64 0, .int .i64 0, .int .i64 0, .int .i64 0, .int .i64 1, .int .i64 (-1), .int .i64 0, .int .i64 0, .int .i64 0, .int .i64 0, .int .i64 (-1), .int .i64 0, .int .i64 0, .int .i64 0, .int .i64 0, .int .i64 (-1), .int .i64 0, .int .i64 0, .int .i64 0, .int .i64 0, .int .i64 (-1)] 89)) = w2 at *
 have k0 : w2.cell? ⟨w.heap.size + 1, 28, none⟩ = some (.int .i64 0) := HB.out.cell 28
 have k1 : w2.cell? ⟨w.heap.size + 1, 29, none⟩ = some (.int .i64 0) := HB.out.cell 29
 have k2 : w2.cell? ⟨w.heap.size + 1, 30, none⟩ = some (.int .i64 0) := HB.out.cell 30
 have k3 : w2.cell? ⟨w.heap.size + 1, 31, none⟩ = some (.int .i64 (-1)) := HB.out.cell 31
 obtain ⟨⟨c0, c1, c2, c3, c4⟩, f0, f1, f2, f3, f4⟩ := cells5 HR.out
 go_wp2
 have HBB : Hid (Blk (put5 w2 w.heap.size (.int .i64 0) (.int .i64 0) (.int .i64 0) (.int .i64 (-1)) (.int .i64 0)) w.heap.size 91 #[.int .i64 0, .int .i64 0, .int .i64 0, .int .i64 (-1), .int .i64 0]) := HR.out.put5 _ _ _ _ _
 refine bodyPost_ret (v := .agg #[.int .i64 0, .int .i64 0, .int .i64 0, .int .i64 (-1), .int .i64 0]) ?_ rfl ?_
 rotate_left
 ·exact ⟨rfl, ext_put5 (g := w.heap.size) HE.out (Nat.le_refl _) _ _ _ _ _⟩
 ·exact retD rfl HBB.out _ (by kernel_rfl) rfl
theorem PhaseFactor_any {j : Nat} (hj : j < 8) (w : World) : Calls Tryz.prog 96 #[.int .i64 j] w fun e w' => e = .returned (ph j).val ∧ Ext w w' := by
 rcases lt8 hj with rfl | rfl | rfl | rfl | rfl | rfl | rfl | rfl
 ·exact PhaseFactor_0 w
 ·exact PhaseFactor_1 w
 ·exact PhaseFactor_2 w
 ·exact PhaseFactor_3 w
 ·exact PhaseFactor_4 w
 ·exact PhaseFactor_5 w
 ·exact PhaseFactor_6 w
 ·exact PhaseFactor_7 w
set_option maxRecDepth 100000 in
set_option maxHeartbeats 8000000 in
theorem OneDOmega_any (w : World) : Calls Tryz.prog 62 #[] w fun e w' => e = .returned (ph 0).val ∧ Ext w w' := by
 go_enter Tryz.func62, Tryz.ntmps62
 go_upto_region 1 with (fail)
 have HR : Hid (Blk (w.alloc (.cells #[.int .i64 0, .int .i64 0, .int .i64 0, .int .i64 0, .int .i64 0] 91)) w.heap.size 91 #[.int .i64 0, .int .i64 0, .int .i64 0, .int .i64 0, .int .i64 0]) := Blk.new w _ _
 have HE : Hid (Ext w (w.alloc (.cells #[.int .i64 0, .int .i64 0, .int .i64 0, .int .i64 0, .int .i64 0] 91))) := xx
 generalize w.alloc (.cells #[.int .i64 0, .int .i64 0, .int .i64 0, .int .i64 0, .int .i64 0] 91) = w2 at *
 obtain ⟨⟨c0, c1, c2, c3, c4⟩, f0, f1, f2, f3, f4⟩ := cells5 HR.out
 go_wp2
 have HBB : Hid (Blk (put5 w2 w.heap.size (.int .i64 1) (.int .i64 0) (.int .i64 0) (.int .i64 0) (.int .i64 0)) w.heap.size 91 #[.int .i64 1, .int .i64 0, .int .i64 0, .int .i64 0, .int .i64 0]) := HR.out.put5 _ _ _ _ _
 refine bodyPost_ret (v := .agg #[.int .i64 1, .int .i64 0, .int .i64 0, .int .i64 0, .int .i64 0]) ?_ rfl ?_
 rotate_left
 ·exact ⟨rfl, ext_put5 (g := w.heap.size) HE.out (Nat.le_refl _) _ _ _ _ _⟩
 ·exact retD rfl HBB.out _ (by kernel_rfl) rfl
set_option maxRecDepth 100000 in
set_option maxHeartbeats 8000000 in
theorem InvSqrt2_1 (w : World) : Calls Tryz.prog 98 #[.int .i64 1] w fun e w' => e = .returned (.agg #[.int .i64 1, .int .i64 0, .int .i64 0, .int .i64 0, .int .i64 1]) ∧ Ext w w' := by
 go_enter Tryz.func98, Tryz.ntmps98
 go_upto_region 1 with (fail)
 have HR : Hid (Blk (w.alloc (.cells #[.int .i64 0, .int .i64 0, .int .i64 0, .int .i64 0, .int .i64 0] 91)) w.heap.size 91 #[.int .i64 0, .int .i64 0, .int .i64 0, .int .i64 0, .int .i64 0]) := Blk.new w _ _
 have HE : Hid (Ext w (w.alloc (.cells #[.int .i64 0, .int .i64 0, .int .i64 0, .int .i64 0, .int .i64 0] 91))) := xx
 generalize w.alloc (.cells #[.int .i64 0, .int .i64 0, .int .i64 0, .int .i64 0, .int .i64 0] 91) = w2 at *
 obtain ⟨⟨c0, c1, c2, c3, c4⟩, f0, f1, f2, f3, f4⟩ := cells5 HR.out
 go_wp2_with fail
 refine (l1In_yes _ _ _ _ (by decide) (by decide)).mono ?_
 rintro e w' ⟨rfl, rfl⟩
 go_wp2
 have HBB : Hid (Blk (put5 w2 w.heap.size (.int .i64 1) (.int .i64 0) (.int .i64 0) (.int .i64 0) (.int .i64 1)) w.heap.size 91 #[.int .i64 1, .int .i64 0, .int .i64 0, .int .i64 0, .int .i64 1]) := HR.out.put5 _ _ _ _ _
 refine bodyPost_ret (v := .agg #[.int .i64 1, .int .i64 0, .int .i64 0, .int .i64 0, .int .i64 1]) ?_ rfl ?_
 rotate_left
 ·exact ⟨rfl, ext_put5 (g := w.heap.size) HE.out (Nat.le_refl _) _ _ _ _ _⟩
 ·exact retD rfl HBB.out _ (by kernel_rfl) rfl
set_option maxRecDepth 100000 in
set_option maxHeartbeats 8000000 in
theorem NegDOmega_1 (w : World) : Calls Tryz.prog 99 #[.agg #[.int .i64 1, .int .i64 0, .int .i64 0, .int .i64 0, .int .i64 1]] w fun e w' => e = .returned (.agg #[.int .i64 (-1), .int .i64 0, .int .i64 0, .int .i64 0, .int .i64 1]) ∧ Ext w w' := by
 go_enter Tryz.func99, Tryz.ntmps99
 go_wp2_with fail
 refine (IsValidDOmega_yes ⟨zw 0, 1⟩ _ (by rfl)).mono ?_
 rintro e w1 ⟨rfl, hx1⟩
 have HX : Hid (Blk w1 w.heap.size 91 #[.int .i64 1, .int .i64 0, .int .i64 0, .int .i64 0, .int .i64 1]) := ((Blk.new w _ _).alloc _).ext hx1
 have HR : Hid (Blk w1 (w.heap.size + 1) 91 #[.int .i64 0, .int .i64 0, .int .i64 0, .int .i64 0, .int .i64 0]) := (Blk.newAt (b := w.heap.size + 1) (by simp)).ext hx1
 have HE : Hid (Ext w w1) := Ext.trans (by exact xx) hx1
 clear hx1
 have HK : Hid (∀ w', Ext w1 w' → (w'.cell? ⟨w.heap.size, 0, none⟩ = some (.int .i64 1) ∧ w'.cell? ⟨w.heap.size, 1, none⟩ = some (.int .i64 0) ∧ w'.cell? ⟨w.heap.size, 2, none⟩ = some (.int .i64 0) ∧ w'.cell? ⟨w.heap.size, 3, none⟩ = some (.int .i64 0) ∧ w'.cell? ⟨w.heap.size, 4, none⟩ = some (.int .i64 1))) := fun w' hx => (cells5 (HX.out.ext hx)).1
 have HC : Hid (∀ w', Calls Tryz.prog 108 #[.agg #[.int .i64 1, .int .i64 0, .int .i64 0, .int .i64 0]] w' fun e w'' => e = .returned (.agg #[.int .i64 (-1), .int .i64 0, .int .i64 0, .int .i64 0]) ∧ Ext w' w'') := fun w' => NegZOmega_yes (zw 0) w' rfl
 go_upto_region 3 with (fail)
 refine wp_region_held_drew (S := fun w' => (w'.cell? ⟨w.heap.size, 0, none⟩ = some (.int .i64 1) ∧ w'.cell? ⟨w.heap.size, 1, none⟩ = some (.int .i64 0) ∧ w'.cell? ⟨w.heap.size, 2, none⟩ = some (.int .i64 0) ∧ w'.cell? ⟨w.heap.size, 3, none⟩ = some (.int .i64 0) ∧ w'.cell? ⟨w.heap.size, 4, none⟩ = some (.int .i64 1))) (by kernel_rfl) (HK.out _ (Ext.refl w1).drew) (fun hHeld => ?_)
 (refine tk 0 (v := ?_) ?_ ?_; rotate_left; · (intro w hSw; (try dsimp only at hSw); go_simp; all_goals with_reducible rfl))
 (try simp only [Act.put, L1, L2, L3, L4, L5, L6])
 (refine tk 1 (v := ?_) ?_ ?_; rotate_left; · (intro w hSw; (try dsimp only at hSw); go_simp; all_goals with_reducible rfl))
 (try simp only [Act.put, L1, L2, L3, L4, L5, L6])
 (refine tk 3 (v := ?_) ?_ ?_; rotate_left; · (intro w hSw; (try dsimp only at hSw); go_simp; all_goals with_reducible rfl))
 (try simp only [Act.put, L1, L2, L3, L4, L5, L6])
 (refine tk 4 (v := ?_) ?_ ?_; rotate_left; · (intro w hSw; (try dsimp only at hSw); go_simp; all_goals with_reducible rfl))
 (try simp only [Act.put, L1, L2, L3, L4, L5, L6])
 refine wpAnyH_ready (rs := [2]) (by kernel_rfl) (by simp) ?_
 refine AllReadyH.cons rfl (fun K hK => ?_) AllReadyH.nil
 go_simp
 refine (HC.out _).mono ?_
 rintro e w5 ⟨rfl, hy5⟩
 have HY5 : Hid (Ext w1 w5) := Ext.trans (Ext.refl w1).drew hy5
 clear hy5
 refine hK.out _ _ (HK.out _ HY5.out) (fun hHeld => ?_)
 clear hK K
 (try simp only [Act.put, L1, L2, L3, L4, L5, L6])
 (refine tk 5 (v := ?_) ?_ ?_; rotate_left; · (intro w hSw; (try dsimp only at hSw); go_simp; all_goals with_reducible rfl))
 (try simp only [Act.put, L1, L2, L3, L4, L5, L6])
 refine wpAnyH_ready (rs := [6]) (by kernel_rfl) (by simp) ?_
 refine AllReadyH.cons rfl (fun K hK => ?_) AllReadyH.nil
 have HR5 := Lib.hid (HR.out.ext HY5.out)
 obtain ⟨⟨c0, c1, c2, c3, c4⟩, f0, f1, f2, f3, f4⟩ := cells5 HR5.out
 go_simp
 refine hK.out _ _ (cells5 (far_put5 (g := w.heap.size + 1) (HX.out.ext HY5.out) (by omega) _ _ _ _ _)).1 (fun hHeld => ?_)
 clear hK K
 (try simp only [Act.put, L1, L2, L3, L4, L5, L6])
 (refine wpAnyH_done (by kernel_rfl) ?_ _)
 have HBB : Hid (Blk (((((w5.setCell ⟨w.heap.size + 1, 0, none⟩ (.int .i64 (-1))).setCell ⟨w.heap.size + 1, 1, none⟩ (.int .i64 0)).setCell ⟨w.heap.size + 1, 2, none⟩ (.int .i64 0)).setCell ⟨w.heap.size + 1, 3, none⟩ (.int .i64 0)).setCell ⟨w.heap.size + 1, 4, none⟩ (.int .i64 1)) (w.heap.size + 1) 91 #[.int .i64 (-1), .int .i64 0, .int .i64 0, .int .i64 0, .int .i64 1]) := HR5.out.put5 _ _ _ _ _
 have HE6 : Hid (Ext w (((((w5.setCell ⟨w.heap.size + 1, 0, none⟩ (.int .i64 (-1))).setCell ⟨w.heap.size + 1, 1, none⟩ (.int .i64 0)).setCell ⟨w.heap.size + 1, 2, none⟩ (.int .i64 0)).setCell ⟨w.heap.size + 1, 3, none⟩ (.int .i64 0)).setCell ⟨w.heap.size + 1, 4, none⟩ (.int .i64 1))) := ext_put5 (g := w.heap.size + 1) (HE.out.trans HY5.out) (by omega) _ _ _ _ _
 clear hHeld c0 c1 c2 c3 c4 f0 f1 f2 f3 f4
 generalize ((((w5.setCell ⟨w.heap.size + 1, 0, none⟩ (.int .i64 (-1))).setCell ⟨w.heap.size + 1, 1, none⟩ (.int .i64 0)).setCell ⟨w.heap.size + 1, 2, none⟩ (.int .i64 0)).setCell ⟨w.heap.size + 1, 3, none⟩ (.int .i64 0)).setCell ⟨w.heap.size + 1, 4, none⟩ (.int .i64 1) = w7 at *
 go_wp2
 refine bodyPost_ret (v := .agg #[.int .i64 (-1), .int .i64 0, .int .i64 0, .int .i64 0, .int .i64 1]) ?_ rfl ?_
 rotate_left
 ·exact ⟨rfl, HE6.out⟩
 ·exact retD rfl HBB.out _ (by kernel_rfl) rfl
end Go.Proofs.YtdjckjfclhjpcaaGreat
/-
 Helper text (no claim of its own): slices of amplitudes: reading and append. Printed by gen_ds.py.
-/
namespace Go.Proofs.YtdjckjfclhjpcaaGreat
open Go.ChangeShapes Go.WideShapes Go.ChangeAt Go.RowKit Go.Deep
def Dw.cells (x : Dw) : List Value := [.int .i64 x.n.a, .int .i64 x.n.b, .int .i64 x.n.c, .int .i64 x.n.d, .int .i64 x.e]
abbrev scells (xs : List Dw) : List Value := xs.flatMap Dw.cells
theorem Dw.cells_len (x : Dw) : x.cells.length = 5 := rfl
theorem dw_at {w : World} {B n i : Nat} {A : Option Addr} {xs : List Dw} (h : Rd w B 5 A n (scells xs)) (hi : i < n) :
  ∃ b o x, A = some ⟨b, o, none⟩ ∧ b < B ∧ xs[i]? = some x ∧ w.cell? ⟨b, o + i * 5, none⟩ = some (.int .i64 x.n.a) ∧ w.cell? ⟨b, o + i * 5 + 1, none⟩ = some (.int .i64 x.n.b) ∧ w.cell? ⟨b, o + i * 5 + 2, none⟩ = some (.int .i64 x.n.c) ∧ w.cell? ⟨b, o + i * 5 + 3, none⟩ = some (.int .i64 x.n.d) ∧ w.cell? ⟨b, o + i * 5 + 4, none⟩ = some (.int .i64 x.e) := by
 obtain ⟨b, o, x, rfl, hb, hx, hc⟩ := elem_at Dw.cells_len (by omega) h hi
 exact ⟨b, o, x, rfl, hb, hx, hc 0 _ rfl, hc 1 _ rfl, hc 2 _ rfl, hc 3 _ rfl, hc 4 _ rfl⟩

theorem Dw.one (xs : List Dw) : ∀ u ∈ scells xs, u.oneCell' = true := by
 intro u hu
 obtain ⟨x, _, hx⟩ := List.mem_flatMap.1 hu
 simp [Dw.cells] at hx
 rcases hx with rfl | rfl | rfl | rfl | rfl <;> rfl
end Go.Proofs.YtdjckjfclhjpcaaGreat
/-
 Helper text (no claim of its own): states: validity, by the reference. Printed by gen_am.py or gen_an.py.
-/
namespace Go.Proofs.YtdjckjfclhjpcaaGreat
open Go.ChangeShapes Go.WideShapes Go.ChangeAt Go.RowKit Go.Deep
set_option linter.unusedVariables false
set_option linter.unusedSimpArgs false
/-- A state in one block of its own. -/
def SB (w : World) (b : Nat) (vs : List Dw) : Prop := ∃ cs : Array Value, Blk w b 91 cs ∧ cs.toList = scells vs
theorem scells_len (vs : List Dw) : (scells vs).length = vs.length * 5 := flat_len Dw.cells_len vs
theorem SB.ext {w w' : World} {b : Nat} {vs : List Dw} (h : SB w b vs) (hx : Ext w w') : SB w' b vs := by
 obtain ⟨cs, h1, h2⟩ := h
 exact ⟨cs, h1.ext hx, h2⟩
theorem SB.at_ {w : World} {b i : Nat} {vs : List Dw} {x : Dw} (h : SB w b vs) (hx : vs[i]? = some x) :
  (w.cell? ⟨b, i * 5, none⟩ = some (.int .i64 x.n.a) ∧ w.cell? ⟨b, i * 5 + 1, none⟩ = some (.int .i64 x.n.b) ∧ w.cell? ⟨b, i * 5 + 2, none⟩ = some (.int .i64 x.n.c) ∧ w.cell? ⟨b, i * 5 + 3, none⟩ = some (.int .i64 x.n.d) ∧ w.cell? ⟨b, i * 5 + 4, none⟩ = some (.int .i64 x.e)) ∧
  (w.frozen? ⟨b, i * 5, none⟩ = false ∧ w.frozen? ⟨b, i * 5 + 1, none⟩ = false ∧ w.frozen? ⟨b, i * 5 + 2, none⟩ = false ∧ w.frozen? ⟨b, i * 5 + 3, none⟩ = false ∧ w.frozen? ⟨b, i * 5 + 4, none⟩ = false) := by
 obtain ⟨cs, h1, h2⟩ := h
 have hc : ∀ j u, j < 5 → x.cells[j]? = some u → w.cell? ⟨b, i * 5 + j, none⟩ = some u := fun j u hj hu => by
  rw [h1.cell, ← Array.getElem?_toList, h2, ← hu]
  exact flat_at Dw.cells_len vs i x hx j hj
 exact ⟨⟨hc 0 _ (by omega) rfl, hc 1 _ (by omega) rfl, hc 2 _ (by omega) rfl, hc 3 _ (by omega) rfl, hc 4 _ (by omega) rfl⟩, h1.frozen _, h1.frozen _, h1.frozen _, h1.frozen _, h1.frozen _⟩
/-- A place of a state is written. -/
def put5at (w : World) (b i : Nat) (x : Dw) : World := ((((w.setCell ⟨b, i * 5, none⟩ (.int .i64 x.n.a)).setCell ⟨b, i * 5 + 1, none⟩ (.int .i64 x.n.b)).setCell ⟨b, i * 5 + 2, none⟩ (.int .i64 x.n.c)).setCell ⟨b, i * 5 + 3, none⟩ (.int .i64 x.n.d)).setCell ⟨b, i * 5 + 4, none⟩ (.int .i64 x.e)
theorem scells_set (y : Dw) : ∀ (vs : List Dw) (i : Nat), i < vs.length → scells (vs.set i y) = (((((scells vs).set (i * 5) (.int .i64 y.n.a)).set (i * 5 + 1) (.int .i64 y.n.b)).set (i * 5 + 2) (.int .i64 y.n.c)).set (i * 5 + 3) (.int .i64 y.n.d)).set (i * 5 + 4) (.int .i64 y.e)
 | [], i, h => by simp at h
 | x :: vs, 0, h => rfl
 | x :: vs, i + 1, h => by
  have ih := scells_set y vs i (by simpa using h)
  have e : ∀ (j : Nat) (l : List Value) (u : Value), (x.cells ++ l).set ((i + 1) * 5 + j) u = x.cells ++ l.set (i * 5 + j) u := fun j l u => by
   rw [show (i + 1) * 5 + j = x.cells.length + (i * 5 + j) by rw [Dw.cells_len]; omega, List.set_append_right _ _ (Nat.le_add_right _ _), Nat.add_sub_cancel_left]
  have e0 : ∀ (l : List Value) (u : Value), (x.cells ++ l).set ((i + 1) * 5) u = x.cells ++ l.set (i * 5) u := fun l u => e 0 l u
  show x.cells ++ scells (vs.set i y) = (((((x.cells ++ scells vs).set ((i + 1) * 5) _).set ((i + 1) * 5 + 1) _).set ((i + 1) * 5 + 2) _).set ((i + 1) * 5 + 3) _).set ((i + 1) * 5 + 4) _
  rw [e0, e, e, e, e, ih]
theorem SB.put {w : World} {b i : Nat} {vs : List Dw} (h : SB w b vs) (hi : i < vs.length) (y : Dw) : SB (put5at w b i y) b (vs.set i y) := by
 obtain ⟨cs, h1, h2⟩ := h
 refine ⟨_, ((((h1.set_ (i * 5) (.int .i64 y.n.a)).set_ (i * 5 + 1) (.int .i64 y.n.b)).set_ (i * 5 + 2) (.int .i64 y.n.c)).set_ (i * 5 + 3) (.int .i64 y.n.d)).set_ (i * 5 + 4) (.int .i64 y.e), ?_⟩
 rw [scells_set y vs i hi]
 simp only [Array.toList_setIfInBounds, h2]
theorem ext_put5at {w0 w : World} (h : Ext w0 w) {b : Nat} (hb : w0.heap.size ≤ b) (i : Nat) (x : Dw) : Ext w0 (put5at w b i x) :=
 ((((h.setCell (p := ⟨b, _, none⟩) hb _).setCell (p := ⟨b, _, none⟩) hb _).setCell (p := ⟨b, _, none⟩) hb _).setCell (p := ⟨b, _, none⟩) hb _).setCell (p := ⟨b, _, none⟩) hb _
theorem far_put5at {w : World} {b k t : Nat} {cs : Array Value} (h : Blk w k t cs) (hb : k ≠ b) (i : Nat) (x : Dw) : Blk (put5at w b i x) k t cs :=
 ((((h.far (p := ⟨b, _, none⟩) hb _).far (p := ⟨b, _, none⟩) hb _).far (p := ⟨b, _, none⟩) hb _).far (p := ⟨b, _, none⟩) hb _).far (p := ⟨b, _, none⟩) hb _
theorem SB.rd {w : World} {b : Nat} {vs : List Dw} (h : SB w b vs) : Rd w w.heap.size 5 (some ⟨b, 0, none⟩) vs.length (scells vs) := by
 obtain ⟨cs, h1, h2⟩ := h
 refine ⟨scells_len vs, fun _ => ⟨b, 0, rfl, h1.lt, fun j u hu => ?_⟩⟩
 rw [Nat.zero_add, h1.cell, ← Array.getElem?_toList, h2, hu]
/-- A state that a call returned. -/
def SOut (vs : List Dw) (v : Value) (w : World) : Prop := ∃ (A : Option Addr) (c : Nat), v = .slice A vs.length c ∧ Rd w w.heap.size 5 A vs.length (scells vs)
theorem SB.out {w : World} {b : Nat} {vs : List Dw} (h : SB w b vs) (m c : Nat) (hm : vs.length = m) : SOut vs (.slice (some ⟨b, 0, none⟩) m c) w := by subst hm; exact ⟨_, _, rfl, h.rd⟩
theorem state_at {w : World} {B b o l i : Nat} {vs : List Dw} (h : Rd w B 5 (some ⟨b, o, none⟩) l (scells vs)) (hi : i < l) {x : Dw} (hx : vs[i]? = some x) :
  w.cell? ⟨b, o + i * 5, none⟩ = some (.int .i64 x.n.a) ∧ w.cell? ⟨b, o + i * 5 + 1, none⟩ = some (.int .i64 x.n.b) ∧ w.cell? ⟨b, o + i * 5 + 2, none⟩ = some (.int .i64 x.n.c) ∧ w.cell? ⟨b, o + i * 5 + 3, none⟩ = some (.int .i64 x.n.d) ∧ w.cell? ⟨b, o + i * 5 + 4, none⟩ = some (.int .i64 x.e) := by
 obtain ⟨b', o', x', he, -, hx', hc⟩ := dw_at h hi
 simp only [Option.some.injEq, Addr.mk.injEq] at he
 obtain ⟨rfl, rfl, -⟩ := he
 rw [hx] at hx'
 obtain rfl := Option.some.inj hx'
 exact hc
set_option maxRecDepth 100000 in
set_option maxHeartbeats 8000000 in
theorem QubitCount_1 (A : Option Addr) (c : Nat) (w : World) : Calls Tryz.prog 83 #[.slice A 2 c] w fun e w' => e = .returned (.int .i64 1) ∧ w = w' := by
 go_enter Tryz.func83, Tryz.ntmps83
 go_wp2
 go_loopw [3] (fun iv wr => ∃ k : Nat, iv = .int .i64 k ∧ 1 ≤ k ∧ k ≤ 1 ∧ w = wr) (fun i _ => 5 - (intOf i).toNat)
 case atStart => exact ⟨1, rfl, by omega, by omega, by first | trivial | rfl⟩
 case round =>
  obtain ⟨k, rfl, h1, h2, rfl⟩ := hrel
  obtain rfl : k = 1 := by omega
  ·go_wp2
   go_ret
   exact ⟨rfl, rfl⟩
set_option maxRecDepth 100000 in
set_option maxHeartbeats 8000000 in
theorem QubitCount_2 (A : Option Addr) (c : Nat) (w : World) : Calls Tryz.prog 83 #[.slice A 4 c] w fun e w' => e = .returned (.int .i64 2) ∧ w = w' := by
 go_enter Tryz.func83, Tryz.ntmps83
 go_wp2
 go_loopw [3] (fun iv wr => ∃ k : Nat, iv = .int .i64 k ∧ 1 ≤ k ∧ k ≤ 2 ∧ w = wr) (fun i _ => 5 - (intOf i).toNat)
 case atStart => exact ⟨1, rfl, by omega, by omega, by first | trivial | rfl⟩
 case round =>
  obtain ⟨k, rfl, h1, h2, rfl⟩ := hrel
  rcases (show k = 1 ∨ k = 2 by omega) with rfl | rfl
  ·go_wp2
   go_roundw
   case rel => exact ⟨2, rfl, by omega, by omega, by first | trivial | rfl⟩
   case measure => simp [intOf]
  ·go_wp2
   go_ret
   exact ⟨rfl, rfl⟩
set_option maxRecDepth 100000 in
set_option maxHeartbeats 8000000 in
theorem QubitCount_3 (A : Option Addr) (c : Nat) (w : World) : Calls Tryz.prog 83 #[.slice A 8 c] w fun e w' => e = .returned (.int .i64 3) ∧ w = w' := by
 go_enter Tryz.func83, Tryz.ntmps83
 go_wp2
 go_loopw [3] (fun iv wr => ∃ k : Nat, iv = .int .i64 k ∧ 1 ≤ k ∧ k ≤ 3 ∧ w = wr) (fun i _ => 5 - (intOf i).toNat)
 case atStart => exact ⟨1, rfl, by omega, by omega, by first | trivial | rfl⟩
 case round =>
  obtain ⟨k, rfl, h1, h2, rfl⟩ := hrel
  rcases (show k = 1 ∨ k = 2 ∨ k = 3 by omega) with rfl | rfl | rfl
  ·go_wp2
   go_roundw
   case rel => exact ⟨2, rfl, by omega, by omega, by first | trivial | rfl⟩
   case measure => simp [intOf]
  ·go_wp2
   go_roundw
   case rel => exact ⟨3, rfl, by omega, by omega, by first | trivial | rfl⟩
   case measure => simp [intOf]
  ·go_wp2
   go_ret
   exact ⟨rfl, rfl⟩
set_option maxRecDepth 100000 in
set_option maxHeartbeats 8000000 in
theorem QubitCount_4 (A : Option Addr) (c : Nat) (w : World) : Calls Tryz.prog 83 #[.slice A 16 c] w fun e w' => e = .returned (.int .i64 4) ∧ w = w' := by
 go_enter Tryz.func83, Tryz.ntmps83
 go_wp2
 go_loopw [3] (fun iv wr => ∃ k : Nat, iv = .int .i64 k ∧ 1 ≤ k ∧ k ≤ 4 ∧ w = wr) (fun i _ => 5 - (intOf i).toNat)
 case atStart => exact ⟨1, rfl, by omega, by omega, by first | trivial | rfl⟩
 case round =>
  obtain ⟨k, rfl, h1, h2, rfl⟩ := hrel
  rcases (show k = 1 ∨ k = 2 ∨ k = 3 ∨ k = 4 by omega) with rfl | rfl | rfl | rfl
  ·go_wp2
   go_roundw
   case rel => exact ⟨2, rfl, by omega, by omega, by first | trivial | rfl⟩
   case measure => simp [intOf]
  ·go_wp2
   go_roundw
   case rel => exact ⟨3, rfl, by omega, by omega, by first | trivial | rfl⟩
   case measure => simp [intOf]
  ·go_wp2
   go_roundw
   case rel => exact ⟨4, rfl, by omega, by omega, by first | trivial | rfl⟩
   case measure => simp [intOf]
  ·go_wp2
   go_ret
   exact ⟨rfl, rfl⟩
theorem QubitCount_any {n : Nat} (h1 : 1 ≤ n) (h4 : n ≤ 4) (A : Option Addr) (c : Nat) (w : World) : Calls Tryz.prog 83 #[.slice A (2 ^ n) c] w fun e w' => e = .returned (.int .i64 n) ∧ w = w' := by
 rcases (show n = 1 ∨ n = 2 ∨ n = 3 ∨ n = 4 by omega) with rfl | rfl | rfl | rfl
 ·exact QubitCount_1 A c w
 ·exact QubitCount_2 A c w
 ·exact QubitCount_3 A c w
 ·exact QubitCount_4 A c w
set_option maxRecDepth 100000 in
set_option maxHeartbeats 8000000 in
theorem IsValidState_yes {n : Nat} (h1 : 1 ≤ n) (h4 : n ≤ 4) (A : Option Addr) (c : Nat) (vs : List Dw) (w : World) (h : Rd w w.heap.size 5 A vs.length (scells vs)) (hl : vs.length = 2 ^ n) (hd : ∀ x ∈ vs, dok x = true) :
  Calls Tryz.prog 82 #[.slice A vs.length c] w fun e w' => e = .returned (.bool true) ∧ Ext w w' := by
 have HQ : Hid (∀ w', Calls Tryz.prog 83 #[.slice A vs.length c] w' fun e w'' => e = .returned (.int .i64 n) ∧ w' = w'') := fun w' => by rw [hl]; exact QubitCount_any h1 h4 A c w'
 have hl16 : vs.length ≤ 16 := by rw [hl]; rcases (show n = 1 ∨ n = 2 ∨ n = 3 ∨ n = 4 by omega) with rfl | rfl | rfl | rfl <;> decide
 have HD := Lib.hid hd
 obtain ⟨l, hgl⟩ : ∃ l, vs.length = l := ⟨_, rfl⟩
 rw [hgl] at h HQ hl16
 rw [hgl]
 have hn0 : (0 : Int) < (n : Int) := by omega
 have hn1 : (n : Int) > 0 := hn0
 clear hl hd hgl h1 h4
 go_enter Tryz.func82, Tryz.ntmps82
 go_wp2
 go_loopw [3] (fun iv wr => ∃ k : Nat, iv = .int .i64 k ∧ k ≤ l ∧ Ext w wr) (fun i _ => l - (intOf i).toNat)
 case atStart => exact ⟨0, rfl, Nat.zero_le _, Ext.refl _⟩
 case round =>
  obtain ⟨k, rfl, hk, hx⟩ := hrel
  by_cases hlt : k < l
  ·obtain ⟨b, o, x, rfl, hb, hg, x0, x1, x2, x3, x4⟩ := dw_at (h.ext hx) hlt
   go_wp2_with fail
   refine (IsValidDOmega_yes x _ (HD.out x (List.mem_of_getElem? hg))).mono ?_
   rintro e w1 ⟨rfl, hx1⟩
   go_wp2
   go_roundw
   case rel => exact ⟨k + 1, by go_num, by omega, hx.trans hx1⟩
   case measure => simp [intOf]; omega
  ·go_wp2_with fail
   refine (HQ.out _).mono ?_
   rintro e w1 ⟨rfl, rfl⟩
   go_wp2
   go_ret
   exact ⟨ret_bool (decide_eq_true (by omega)), hx⟩
end Go.Proofs.YtdjckjfclhjpcaaGreat
/-
 Helper text (no claim of its own): states: basis states, copies, by the reference. Printed by gen_am.py or gen_an.py.
-/
namespace Go.Proofs.YtdjckjfclhjpcaaGreat
open Go.ChangeShapes Go.WideShapes Go.ChangeAt Go.RowKit Go.Deep
set_option linter.unusedVariables false
set_option linter.unusedSimpArgs false
def basis (n i : Nat) : List Dw := (List.replicate (2 ^ n) d0).set i (ph 0)
/-- A row of amplitudes of the call's own, from block B on. -/
structure DS (W1 w : World) (A : Option Addr) (len cap : Nat) (xs : List Dw) : Prop where
 o : w.ownsRow W1.heap.size 91 5 (.slice A len cap) len (scells xs)
 x : Ext W1 w
theorem DS.ext {W1 w w' : World} {A : Option Addr} {len cap : Nat} {xs : List Dw} (h : DS W1 w A len cap xs) (hx : Ext w w') : DS W1 w' A len cap xs := ⟨own_ext h.o hx, h.x.trans hx⟩
theorem DS.out {W1 w : World} {A : Option Addr} {len cap : Nat} {xs : List Dw} (h : DS W1 w A len cap xs) : SOut xs (.slice A len cap) w := by
 have hr := Rd.own h.o
 have hl := hr.len Dw.cells_len (by omega)
 subst hl
 exact ⟨A, cap, rfl, hr⟩
end Go.Proofs.YtdjckjfclhjpcaaGreat
/-
 Helper text (no claim of its own): where an amplitude goes, by the reference. Printed by gen_am.py or gen_an.py.
-/
namespace Go.Proofs.YtdjckjfclhjpcaaGreat
open Go.ChangeShapes Go.WideShapes Go.ChangeAt Go.RowKit Go.Deep
set_option linter.unusedVariables false
set_option linter.unusedSimpArgs false
/-- A bit, and places beside a place. -/
def bt (i q : Nat) : Bool := i / 2 ^ q % 2 == 1
def qlo (i q : Nat) : Nat := if bt i q then i - 2 ^ q else i
def qhi (i q : Nat) : Nat := if bt i q then i else i + 2 ^ q
def qfl (i q : Nat) : Nat := if bt i q then i - 2 ^ q else i + 2 ^ q
theorem chk_and : (List.range 16).all (fun i => (List.range 4).all fun q => (bits BinOp.and IntKind.i64 ((i : Int) / 2 ^ q) 1 == 1) == bt i q) = true := by kernel_rfl
theorem chk_xor : (List.range 32).all (fun i => (List.range 4).all fun q => bits BinOp.xor IntKind.i64 (i : Int) (wrap64 (2 ^ q)) == (qfl i q : Int)) = true := by kernel_rfl
theorem chk_xor2 : (List.range 16).all (fun i => (List.range 4).all fun q => bits BinOp.xor IntKind.i64 (i : Int) (IntKind.i64.wrap (2 ^ min (IntKind.u64.wrap (q : Int)).toNat 64)) == (qfl i q : Int)) = true := by kernel_rfl
theorem chk_lo : (List.range 16).all (fun i => (List.range 4).all fun q => bits BinOp.andNot IntKind.i64 (i : Int) (wrap64 (2 ^ q)) == (qlo i q : Int)) = true := by kernel_rfl
theorem chk_hi : (List.range 16).all (fun i => (List.range 4).all fun q => bits BinOp.or IntKind.i64 (qlo i q : Int) (wrap64 (2 ^ q)) == (qhi i q : Int)) = true := by kernel_rfl
theorem chk_fl : (List.range 16).all (fun i => (List.range 4).all fun q => decide (qfl i q < 32)) = true := by kernel_rfl
theorem of_chk {m : Nat} {f : Nat → Nat → Bool} (h : (List.range m).all (fun i => (List.range 4).all fun q => f i q) = true) {i q : Nat} (hi : i < m) (hq : q < 4) : f i q = true := by
 have := List.all_eq_true.1 h i (List.mem_range.2 hi)
 exact List.all_eq_true.1 this q (List.mem_range.2 hq)
theorem and_bt {i q : Nat} (hi : i < 16) (hq : q < 4) : (bits BinOp.and IntKind.i64 ((i : Int) / 2 ^ q) 1 == 1) = bt i q := beq_iff_eq.1 (of_chk chk_and hi hq)
theorem xor_fl {i q : Nat} (hi : i < 32) (hq : q < 4) : bits BinOp.xor IntKind.i64 (i : Int) (wrap64 (2 ^ q)) = (qfl i q : Int) := beq_iff_eq.1 (of_chk chk_xor hi hq)
theorem xor_fl2 {i q : Nat} (hi : i < 16) (hq : q < 4) : bits BinOp.xor IntKind.i64 (i : Int) (IntKind.i64.wrap (2 ^ min (IntKind.u64.wrap (q : Int)).toNat 64)) = (qfl i q : Int) := beq_iff_eq.1 (of_chk chk_xor2 hi hq)
theorem not_lo {i q : Nat} (hi : i < 16) (hq : q < 4) : bits BinOp.andNot IntKind.i64 (i : Int) (wrap64 (2 ^ q)) = (qlo i q : Int) := beq_iff_eq.1 (of_chk chk_lo hi hq)
theorem or_hi {i q : Nat} (h : i < 16) (hq : q < 4) : bits BinOp.or IntKind.i64 (qlo i q : Int) (wrap64 (2 ^ q)) = (qhi i q : Int) := beq_iff_eq.1 (of_chk chk_hi h hq)
theorem fl_32 {i q : Nat} (hi : i < 16) (hq : q < 4) : qfl i q < 32 := of_decide_eq_true (of_chk chk_fl hi hq)
def ncells (s : Nat × Dw) : List Value := .int .i64 s.1 :: s.2.cells
theorem ncells_len (s : Nat × Dw) : (ncells s).length = 6 := rfl
/-- Where an amplitude goes, in a block of its own. -/
def SN (w : World) (b : Nat) (l : List (Nat × Dw)) : Prop := Blk w b 139 (l.flatMap ncells).toArray
/-- What a call returned. -/
def NOut (l : List (Nat × Dw)) (e : Ending) (w : World) : Prop := ∃ b, e = .returned (.slice (some ⟨b, 0, none⟩) l.length l.length) ∧ SN w b l
set_option maxRecDepth 100000 in
set_option maxHeartbeats 8000000 in
theorem l10Flip_any (i q : Nat) (hi : i < 16) (hq : q < 4) (t : Bool) (w : World) : Calls Tryz.prog 95 #[.int .i64 i, .int .i64 q, .bool t] w fun e w' => NOut [(if t then qfl i q else i, ph 0)] e w' ∧ Ext w w' := by
 have hx := xor_fl (show i < 32 by omega) hq
 cases t
 ·go_enter Tryz.func95, Tryz.ntmps95
  go_wp2_with fail
  refine (PhaseFactor_0 _).mono ?_
  rintro e w1 ⟨rfl, hx1⟩
  go_wp2
  go_ret
  exact ⟨⟨_, rfl, Blk.new _ _ _⟩, hx1.alloc _⟩
 ·go_enter Tryz.func95, Tryz.ntmps95
  go_wp2_with fail
  refine (PhaseFactor_0 _).mono ?_
  rintro e w1 ⟨rfl, hx1⟩
  go_wp2
  go_ret
  exact ⟨⟨_, rfl, Blk.new _ _ _⟩, hx1.alloc _⟩
set_option maxRecDepth 100000 in
set_option maxHeartbeats 8000000 in
theorem l10Phase_any (i j : Nat) (hj : j < 8) (t : Bool) (w : World) : Calls Tryz.prog 97 #[.int .i64 i, .bool t, .int .i64 j] w fun e w' => NOut [(i, ph (if t then j else 0))] e w' ∧ Ext w w' := by
 cases t
 ·go_enter Tryz.func97, Tryz.ntmps97
  go_wp2_with fail
  refine (PhaseFactor_0 _).mono ?_
  rintro e w1 ⟨rfl, hx1⟩
  go_wp2
  go_ret
  exact ⟨⟨_, rfl, Blk.new _ _ _⟩, hx1.alloc _⟩
 ·go_enter Tryz.func97, Tryz.ntmps97
  go_wp2_with fail
  refine (PhaseFactor_any hj _).mono ?_
  rintro e w1 ⟨rfl, hx1⟩
  go_wp2
  go_ret
  exact ⟨⟨_, rfl, Blk.new _ _ _⟩, hx1.alloc _⟩
set_option maxRecDepth 100000 in
set_option maxHeartbeats 8000000 in
theorem Goes_1 (a b c i : Nat) (hi : i < 16) (ha : a < 4) (hb : b < 4) (hc : c < 4) (w : World) : Calls Tryz.prog 84 #[.agg #[.int .i64 1, .int .i64 a, .int .i64 b, .int .i64 c], .int .i64 i] w fun e w' => NOut [(qfl i a, ph 0)] e w' ∧ Ext w w' := by
 have hA := and_bt hi ha
 have hB := and_bt hi hb
 generalize bt i a = ta at *
 generalize bt i b = tb at *
 go_enter Tryz.func84, Tryz.ntmps84
 go_wp2_with fail
 refine (l10Flip_any i a hi ha true _).mono ?_
 rintro e w1 ⟨⟨b1, rfl, hn⟩, hx1⟩
 go_wp2
 go_ret
 exact ⟨⟨_, rfl, hn⟩, Ext.trans (by exact xx) hx1⟩
set_option maxRecDepth 100000 in
set_option maxHeartbeats 8000000 in
theorem Goes_3 (a b c i : Nat) (hi : i < 16) (ha : a < 4) (hb : b < 4) (hc : c < 4) (w : World) : Calls Tryz.prog 84 #[.agg #[.int .i64 3, .int .i64 a, .int .i64 b, .int .i64 c], .int .i64 i] w fun e w' => NOut [(i, ph (if bt i a then 4 else 0))] e w' ∧ Ext w w' := by
 have hA := and_bt hi ha
 have hB := and_bt hi hb
 generalize bt i a = ta at *
 generalize bt i b = tb at *
 cases ta
 ·go_enter Tryz.func84, Tryz.ntmps84
  go_wp2_with fail
  refine (l10Phase_any i 4 (by omega) false _).mono ?_
  rintro e w1 ⟨⟨b1, rfl, hn⟩, hx1⟩
  go_wp2
  go_ret
  exact ⟨⟨_, rfl, hn⟩, Ext.trans (by exact xx) hx1⟩
 ·go_enter Tryz.func84, Tryz.ntmps84
  go_wp2_with fail
  refine (l10Phase_any i 4 (by omega) true _).mono ?_
  rintro e w1 ⟨⟨b1, rfl, hn⟩, hx1⟩
  go_wp2
  go_ret
  exact ⟨⟨_, rfl, hn⟩, Ext.trans (by exact xx) hx1⟩
set_option maxRecDepth 100000 in
set_option maxHeartbeats 8000000 in
theorem Goes_5 (a b c i : Nat) (hi : i < 16) (ha : a < 4) (hb : b < 4) (hc : c < 4) (w : World) : Calls Tryz.prog 84 #[.agg #[.int .i64 5, .int .i64 a, .int .i64 b, .int .i64 c], .int .i64 i] w fun e w' => NOut [(i, ph (if bt i a then 2 else 0))] e w' ∧ Ext w w' := by
 have hA := and_bt hi ha
 have hB := and_bt hi hb
 generalize bt i a = ta at *
 generalize bt i b = tb at *
 cases ta
 ·go_enter Tryz.func84, Tryz.ntmps84
  go_wp2_with fail
  refine (l10Phase_any i 2 (by omega) false _).mono ?_
  rintro e w1 ⟨⟨b1, rfl, hn⟩, hx1⟩
  go_wp2
  go_ret
  exact ⟨⟨_, rfl, hn⟩, Ext.trans (by exact xx) hx1⟩
 ·go_enter Tryz.func84, Tryz.ntmps84
  go_wp2_with fail
  refine (l10Phase_any i 2 (by omega) true _).mono ?_
  rintro e w1 ⟨⟨b1, rfl, hn⟩, hx1⟩
  go_wp2
  go_ret
  exact ⟨⟨_, rfl, hn⟩, Ext.trans (by exact xx) hx1⟩
set_option maxRecDepth 100000 in
set_option maxHeartbeats 8000000 in
theorem Goes_6 (a b c i : Nat) (hi : i < 16) (ha : a < 4) (hb : b < 4) (hc : c < 4) (w : World) : Calls Tryz.prog 84 #[.agg #[.int .i64 6, .int .i64 a, .int .i64 b, .int .i64 c], .int .i64 i] w fun e w' => NOut [(i, ph (if bt i a then 6 else 0))] e w' ∧ Ext w w' := by
 have hA := and_bt hi ha
 have hB := and_bt hi hb
 generalize bt i a = ta at *
 generalize bt i b = tb at *
 cases ta
 ·go_enter Tryz.func84, Tryz.ntmps84
  go_wp2_with fail
  refine (l10Phase_any i 6 (by omega) false _).mono ?_
  rintro e w1 ⟨⟨b1, rfl, hn⟩, hx1⟩
  go_wp2
  go_ret
  exact ⟨⟨_, rfl, hn⟩, Ext.trans (by exact xx) hx1⟩
 ·go_enter Tryz.func84, Tryz.ntmps84
  go_wp2_with fail
  refine (l10Phase_any i 6 (by omega) true _).mono ?_
  rintro e w1 ⟨⟨b1, rfl, hn⟩, hx1⟩
  go_wp2
  go_ret
  exact ⟨⟨_, rfl, hn⟩, Ext.trans (by exact xx) hx1⟩
set_option maxRecDepth 100000 in
set_option maxHeartbeats 8000000 in
theorem Goes_7 (a b c i : Nat) (hi : i < 16) (ha : a < 4) (hb : b < 4) (hc : c < 4) (w : World) : Calls Tryz.prog 84 #[.agg #[.int .i64 7, .int .i64 a, .int .i64 b, .int .i64 c], .int .i64 i] w fun e w' => NOut [(i, ph (if bt i a then 1 else 0))] e w' ∧ Ext w w' := by
 have hA := and_bt hi ha
 have hB := and_bt hi hb
 generalize bt i a = ta at *
 generalize bt i b = tb at *
 cases ta
 ·go_enter Tryz.func84, Tryz.ntmps84
  go_wp2_with fail
  refine (l10Phase_any i 1 (by omega) false _).mono ?_
  rintro e w1 ⟨⟨b1, rfl, hn⟩, hx1⟩
  go_wp2
  go_ret
  exact ⟨⟨_, rfl, hn⟩, Ext.trans (by exact xx) hx1⟩
 ·go_enter Tryz.func84, Tryz.ntmps84
  go_wp2_with fail
  refine (l10Phase_any i 1 (by omega) true _).mono ?_
  rintro e w1 ⟨⟨b1, rfl, hn⟩, hx1⟩
  go_wp2
  go_ret
  exact ⟨⟨_, rfl, hn⟩, Ext.trans (by exact xx) hx1⟩
set_option maxRecDepth 100000 in
set_option maxHeartbeats 8000000 in
theorem Goes_8 (a b c i : Nat) (hi : i < 16) (ha : a < 4) (hb : b < 4) (hc : c < 4) (w : World) : Calls Tryz.prog 84 #[.agg #[.int .i64 8, .int .i64 a, .int .i64 b, .int .i64 c], .int .i64 i] w fun e w' => NOut [(i, ph (if bt i a then 7 else 0))] e w' ∧ Ext w w' := by
 have hA := and_bt hi ha
 have hB := and_bt hi hb
 generalize bt i a = ta at *
 generalize bt i b = tb at *
 cases ta
 ·go_enter Tryz.func84, Tryz.ntmps84
  go_wp2_with fail
  refine (l10Phase_any i 7 (by omega) false _).mono ?_
  rintro e w1 ⟨⟨b1, rfl, hn⟩, hx1⟩
  go_wp2
  go_ret
  exact ⟨⟨_, rfl, hn⟩, Ext.trans (by exact xx) hx1⟩
 ·go_enter Tryz.func84, Tryz.ntmps84
  go_wp2_with fail
  refine (l10Phase_any i 7 (by omega) true _).mono ?_
  rintro e w1 ⟨⟨b1, rfl, hn⟩, hx1⟩
  go_wp2
  go_ret
  exact ⟨⟨_, rfl, hn⟩, Ext.trans (by exact xx) hx1⟩
set_option maxRecDepth 100000 in
set_option maxHeartbeats 8000000 in
theorem Goes_9 (a b c i : Nat) (hi : i < 16) (ha : a < 4) (hb : b < 4) (hc : c < 4) (w : World) : Calls Tryz.prog 84 #[.agg #[.int .i64 9, .int .i64 a, .int .i64 b, .int .i64 c], .int .i64 i] w fun e w' => NOut [(if bt i a then qfl i b else i, ph 0)] e w' ∧ Ext w w' := by
 have hA := and_bt hi ha
 have hB := and_bt hi hb
 generalize bt i a = ta at *
 generalize bt i b = tb at *
 cases ta
 ·go_enter Tryz.func84, Tryz.ntmps84
  go_wp2_with fail
  refine (l10Flip_any i b hi hb false _).mono ?_
  rintro e w1 ⟨⟨b1, rfl, hn⟩, hx1⟩
  go_wp2
  go_ret
  exact ⟨⟨_, rfl, hn⟩, Ext.trans (by exact xx) hx1⟩
 ·go_enter Tryz.func84, Tryz.ntmps84
  go_wp2_with fail
  refine (l10Flip_any i b hi hb true _).mono ?_
  rintro e w1 ⟨⟨b1, rfl, hn⟩, hx1⟩
  go_wp2
  go_ret
  exact ⟨⟨_, rfl, hn⟩, Ext.trans (by exact xx) hx1⟩
set_option maxRecDepth 100000 in
set_option maxHeartbeats 8000000 in
theorem Goes_10 (a b c i : Nat) (hi : i < 16) (ha : a < 4) (hb : b < 4) (hc : c < 4) (w : World) : Calls Tryz.prog 84 #[.agg #[.int .i64 10, .int .i64 a, .int .i64 b, .int .i64 c], .int .i64 i] w fun e w' => NOut [(i, ph (if bt i a && bt i b then 4 else 0))] e w' ∧ Ext w w' := by
 have hA := and_bt hi ha
 have hB := and_bt hi hb
 generalize bt i a = ta at *
 generalize bt i b = tb at *
 cases ta
 ·go_enter Tryz.func84, Tryz.ntmps84
  go_wp2_with fail
  refine (l10Phase_any i 4 (by omega) false _).mono ?_
  rintro e w1 ⟨⟨b1, rfl, hn⟩, hx1⟩
  go_wp2
  go_ret
  exact ⟨⟨_, rfl, hn⟩, Ext.trans (by exact xx) hx1⟩
 ·cases tb
  ·go_enter Tryz.func84, Tryz.ntmps84
   go_wp2_with fail
   refine (l10Phase_any i 4 (by omega) false _).mono ?_
   rintro e w1 ⟨⟨b1, rfl, hn⟩, hx1⟩
   go_wp2
   go_ret
   exact ⟨⟨_, rfl, hn⟩, Ext.trans (by exact xx) hx1⟩
  ·go_enter Tryz.func84, Tryz.ntmps84
   go_wp2_with fail
   refine (l10Phase_any i 4 (by omega) true _).mono ?_
   rintro e w1 ⟨⟨b1, rfl, hn⟩, hx1⟩
   go_wp2
   go_ret
   exact ⟨⟨_, rfl, hn⟩, Ext.trans (by exact xx) hx1⟩
set_option maxRecDepth 100000 in
set_option maxHeartbeats 8000000 in
theorem Goes_12 (a b c i : Nat) (hi : i < 16) (ha : a < 4) (hb : b < 4) (hc : c < 4) (w : World) : Calls Tryz.prog 84 #[.agg #[.int .i64 12, .int .i64 a, .int .i64 b, .int .i64 c], .int .i64 i] w fun e w' => NOut [(if bt i a && bt i b then qfl i c else i, ph 0)] e w' ∧ Ext w w' := by
 have hA := and_bt hi ha
 have hB := and_bt hi hb
 generalize bt i a = ta at *
 generalize bt i b = tb at *
 cases ta
 ·go_enter Tryz.func84, Tryz.ntmps84
  go_wp2_with fail
  refine (l10Flip_any i c hi hc false _).mono ?_
  rintro e w1 ⟨⟨b1, rfl, hn⟩, hx1⟩
  go_wp2
  go_ret
  exact ⟨⟨_, rfl, hn⟩, Ext.trans (by exact xx) hx1⟩
 ·cases tb
  ·go_enter Tryz.func84, Tryz.ntmps84
   go_wp2_with fail
   refine (l10Flip_any i c hi hc false _).mono ?_
   rintro e w1 ⟨⟨b1, rfl, hn⟩, hx1⟩
   go_wp2
   go_ret
   exact ⟨⟨_, rfl, hn⟩, Ext.trans (by exact xx) hx1⟩
  ·go_enter Tryz.func84, Tryz.ntmps84
   go_wp2_with fail
   refine (l10Flip_any i c hi hc true _).mono ?_
   rintro e w1 ⟨⟨b1, rfl, hn⟩, hx1⟩
   go_wp2
   go_ret
   exact ⟨⟨_, rfl, hn⟩, Ext.trans (by exact xx) hx1⟩
set_option maxRecDepth 100000 in
set_option maxHeartbeats 8000000 in
theorem Goes_11 (a b c i : Nat) (hi : i < 16) (ha : a < 4) (hb : b < 4) (hc : c < 4) (w : World) : Calls Tryz.prog 84 #[.agg #[.int .i64 11, .int .i64 a, .int .i64 b, .int .i64 c], .int .i64 i] w fun e w' => NOut [(if bt i a != bt i b then qfl (qfl i a) b else i, ph 0)] e w' ∧ Ext w w' := by
 have hA := and_bt hi ha
 have hB := and_bt hi hb
 have hxa := xor_fl (show i < 32 by omega) ha
 have hxb := xor_fl (fl_32 hi ha) hb
 generalize bt i a = ta at *
 generalize bt i b = tb at *
 cases ta <;> cases tb
 ·go_enter Tryz.func84, Tryz.ntmps84
  go_wp2_with fail
  refine (PhaseFactor_0 _).mono ?_
  rintro e w1 ⟨rfl, hx1⟩
  go_wp2
  go_ret
  exact ⟨⟨_, rfl, Blk.new _ _ _⟩, (Ext.trans (by exact xx) hx1).alloc _⟩
 ·go_enter Tryz.func84, Tryz.ntmps84
  go_wp2_with fail
  refine (PhaseFactor_0 _).mono ?_
  rintro e w1 ⟨rfl, hx1⟩
  go_wp2
  go_ret
  exact ⟨⟨_, rfl, Blk.new _ _ _⟩, (Ext.trans (by exact xx) hx1).alloc _⟩
 ·go_enter Tryz.func84, Tryz.ntmps84
  go_wp2_with fail
  refine (PhaseFactor_0 _).mono ?_
  rintro e w1 ⟨rfl, hx1⟩
  go_wp2
  go_ret
  exact ⟨⟨_, rfl, Blk.new _ _ _⟩, (Ext.trans (by exact xx) hx1).alloc _⟩
 ·go_enter Tryz.func84, Tryz.ntmps84
  go_wp2_with fail
  refine (PhaseFactor_0 _).mono ?_
  rintro e w1 ⟨rfl, hx1⟩
  go_wp2
  go_ret
  exact ⟨⟨_, rfl, Blk.new _ _ _⟩, (Ext.trans (by exact xx) hx1).alloc _⟩
set_option maxRecDepth 100000 in
set_option maxHeartbeats 8000000 in
theorem Goes_2 (a b c i : Nat) (hi : i < 16) (ha : a < 4) (hb : b < 4) (hc : c < 4) (w : World) : Calls Tryz.prog 84 #[.agg #[.int .i64 2, .int .i64 a, .int .i64 b, .int .i64 c], .int .i64 i] w fun e w' => NOut [(qfl i a, ph (if bt i a then 6 else 2))] e w' ∧ Ext w w' := by
 have hA := and_bt hi ha
 have hB := and_bt hi hb
 have HXA := Lib.hid (xor_fl2 hi ha)
 generalize bt i a = ta at *
 generalize bt i b = tb at *
 cases ta
 ·go_enter Tryz.func84, Tryz.ntmps84
  go_upto_region 10 with (fail)
  have HB : Hid (Blk (w.alloc (.cells #[.int .i64 2, .int .i64 a, .int .i64 b, .int .i64 c] 38)) w.heap.size 38 #[.int .i64 2, .int .i64 a, .int .i64 b, .int .i64 c]) := Blk.new _ _ _
  have HE : Hid (Ext w (w.alloc (.cells #[.int .i64 2, .int .i64 a, .int .i64 b, .int .i64 c] 38))) := xx
  generalize w.alloc (.cells #[.int .i64 2, .int .i64 a, .int .i64 b, .int .i64 c] 38) = w1 at *
  have HK : Hid (∀ w', Ext w1 w' → w'.cell? ⟨w.heap.size, 1, none⟩ = some (.int .i64 a)) := fun w' hx => (HB.out.ext hx).cell 1
  refine wp_region_held_drew (S := fun w' => w'.cell? ⟨w.heap.size, 1, none⟩ = some (.int .i64 a)) (by kernel_rfl) (HK.out _ (Ext.refl w1).drew) (fun hHeld => ?_)
  (refine tk 0 (v := ?_) ?_ ?_; rotate_left; · (intro w hSw; (try dsimp only at hSw); go_simp; all_goals with_reducible rfl))
  (try simp only [Act.put, L1, L2, L3, L4, L5, L6])
  (refine tk 1 (v := ?_) ?_ ?_; rotate_left; · (intro w hSw; (try dsimp only at hSw); go_simp; all_goals with_reducible rfl))
  (try simp only [Act.put, L1, L2, L3, L4, L5, L6])
  (refine tk 2 (v := ?_) ?_ ?_; rotate_left; · (intro w hSw; (try dsimp only at hSw); go_simp; all_goals with_reducible rfl))
  (try simp only [Act.put, L1, L2, L3, L4, L5, L6])
  (refine tk 3 (v := ?_) ?_ ?_; rotate_left; · (intro w hSw; (try dsimp only at hSw); go_simp; all_goals with_reducible rfl))
  (try simp only [Act.put, L1, L2, L3, L4, L5, L6])
  (refine tk 4 (v := ?_) ?_ ?_; rotate_left; · (intro w hSw; (try dsimp only at hSw); go_simp; all_goals with_reducible rfl))
  (try simp only [Act.put, L1, L2, L3, L4, L5, L6])
  (refine tk 5 (v := ?_) ?_ ?_; rotate_left; · (intro w hSw; (try dsimp only at hSw); go_simp; all_goals with_reducible rfl))
  (try simp only [Act.put, L1, L2, L3, L4, L5, L6])
  (refine tk 6 (v := ?_) ?_ ?_; rotate_left; · (intro w hSw; (try dsimp only at hSw); go_simp; all_goals with_reducible rfl))
  (try simp only [Act.put, L1, L2, L3, L4, L5, L6])
  refine wpAnyH_ready (rs := [7]) (by kernel_rfl) (by simp) ?_
  refine AllReadyH.cons rfl (fun K hK => ?_) AllReadyH.nil
  go_simp
  refine (PhaseFactor_2 _).mono ?_
  rintro e v5 ⟨rfl, hy5⟩
  have HY5 : Hid (Ext w1 v5) := Ext.trans (Ext.refl w1).drew hy5
  clear hy5
  refine hK.out _ _ (HK.out _ HY5.out) (fun hHeld => ?_)
  clear hK K
  (try simp only [Act.put, L1, L2, L3, L4, L5, L6])
  (refine tk 8 (v := ?_) ?_ ?_; rotate_left; · (intro w hSw; (try dsimp only at hSw); go_simp; all_goals with_reducible rfl))
  (try simp only [Act.put, L1, L2, L3, L4, L5, L6])
  refine wpAnyH_ready (rs := [9]) (by kernel_rfl) (by simp) ?_
  refine AllReadyH.cons rfl (fun K hK => ?_) AllReadyH.nil
  go_simp
  rw [HXA.out]
  refine hK.out _ _ (HK.out _ (HY5.out.alloc _)) (fun hHeld => ?_)
  clear hK K
  (try simp only [Act.put, L1, L2, L3, L4, L5, L6])
  (refine tk 10 (v := ?_) ?_ ?_; rotate_left; · (intro w hSw; (try dsimp only at hSw); go_simp; all_goals with_reducible rfl))
  (try simp only [Act.put, L1, L2, L3, L4, L5, L6])
  (refine wpAnyH_done (by kernel_rfl) ?_ _)
  go_wp2
  go_ret
  exact ⟨⟨_, rfl, Blk.new _ _ _⟩, (HE.out.trans HY5.out).alloc _⟩
 ·go_enter Tryz.func84, Tryz.ntmps84
  go_upto_region 10 with (fail)
  have HB : Hid (Blk (w.alloc (.cells #[.int .i64 2, .int .i64 a, .int .i64 b, .int .i64 c] 38)) w.heap.size 38 #[.int .i64 2, .int .i64 a, .int .i64 b, .int .i64 c]) := Blk.new _ _ _
  have HE : Hid (Ext w (w.alloc (.cells #[.int .i64 2, .int .i64 a, .int .i64 b, .int .i64 c] 38))) := xx
  generalize w.alloc (.cells #[.int .i64 2, .int .i64 a, .int .i64 b, .int .i64 c] 38) = w1 at *
  have HK : Hid (∀ w', Ext w1 w' → w'.cell? ⟨w.heap.size, 1, none⟩ = some (.int .i64 a)) := fun w' hx => (HB.out.ext hx).cell 1
  refine wp_region_held_drew (S := fun w' => w'.cell? ⟨w.heap.size, 1, none⟩ = some (.int .i64 a)) (by kernel_rfl) (HK.out _ (Ext.refl w1).drew) (fun hHeld => ?_)
  (refine tk 0 (v := ?_) ?_ ?_; rotate_left; · (intro w hSw; (try dsimp only at hSw); go_simp; all_goals with_reducible rfl))
  (try simp only [Act.put, L1, L2, L3, L4, L5, L6])
  (refine tk 1 (v := ?_) ?_ ?_; rotate_left; · (intro w hSw; (try dsimp only at hSw); go_simp; all_goals with_reducible rfl))
  (try simp only [Act.put, L1, L2, L3, L4, L5, L6])
  (refine tk 2 (v := ?_) ?_ ?_; rotate_left; · (intro w hSw; (try dsimp only at hSw); go_simp; all_goals with_reducible rfl))
  (try simp only [Act.put, L1, L2, L3, L4, L5, L6])
  (refine tk 3 (v := ?_) ?_ ?_; rotate_left; · (intro w hSw; (try dsimp only at hSw); go_simp; all_goals with_reducible rfl))
  (try simp only [Act.put, L1, L2, L3, L4, L5, L6])
  (refine tk 4 (v := ?_) ?_ ?_; rotate_left; · (intro w hSw; (try dsimp only at hSw); go_simp; all_goals with_reducible rfl))
  (try simp only [Act.put, L1, L2, L3, L4, L5, L6])
  (refine tk 5 (v := ?_) ?_ ?_; rotate_left; · (intro w hSw; (try dsimp only at hSw); go_simp; all_goals with_reducible rfl))
  (try simp only [Act.put, L1, L2, L3, L4, L5, L6])
  (refine tk 6 (v := ?_) ?_ ?_; rotate_left; · (intro w hSw; (try dsimp only at hSw); go_simp; all_goals with_reducible rfl))
  (try simp only [Act.put, L1, L2, L3, L4, L5, L6])
  refine wpAnyH_ready (rs := [7]) (by kernel_rfl) (by simp) ?_
  refine AllReadyH.cons rfl (fun K hK => ?_) AllReadyH.nil
  go_simp
  refine (PhaseFactor_6 _).mono ?_
  rintro e v5 ⟨rfl, hy5⟩
  have HY5 : Hid (Ext w1 v5) := Ext.trans (Ext.refl w1).drew hy5
  clear hy5
  refine hK.out _ _ (HK.out _ HY5.out) (fun hHeld => ?_)
  clear hK K
  (try simp only [Act.put, L1, L2, L3, L4, L5, L6])
  (refine tk 8 (v := ?_) ?_ ?_; rotate_left; · (intro w hSw; (try dsimp only at hSw); go_simp; all_goals with_reducible rfl))
  (try simp only [Act.put, L1, L2, L3, L4, L5, L6])
  refine wpAnyH_ready (rs := [9]) (by kernel_rfl) (by simp) ?_
  refine AllReadyH.cons rfl (fun K hK => ?_) AllReadyH.nil
  go_simp
  rw [HXA.out]
  refine hK.out _ _ (HK.out _ (HY5.out.alloc _)) (fun hHeld => ?_)
  clear hK K
  (try simp only [Act.put, L1, L2, L3, L4, L5, L6])
  (refine tk 10 (v := ?_) ?_ ?_; rotate_left; · (intro w hSw; (try dsimp only at hSw); go_simp; all_goals with_reducible rfl))
  (try simp only [Act.put, L1, L2, L3, L4, L5, L6])
  (refine wpAnyH_done (by kernel_rfl) ?_ _)
  go_wp2
  go_ret
  exact ⟨⟨_, rfl, Blk.new _ _ _⟩, (HE.out.trans HY5.out).alloc _⟩
set_option maxRecDepth 100000 in
set_option maxHeartbeats 8000000 in
theorem Goes_4 (a b c i : Nat) (hi : i < 16) (ha : a < 4) (hb : b < 4) (hc : c < 4) (w : World) : Calls Tryz.prog 84 #[.agg #[.int .i64 4, .int .i64 a, .int .i64 b, .int .i64 c], .int .i64 i] w fun e w' => NOut [(qlo i a, ⟨zw 0, 1⟩), (qhi i a, ⟨zw (if bt i a then 4 else 0), 1⟩)] e w' ∧ Ext w w' := by
 have hA := and_bt hi ha
 have hB := and_bt hi hb
 have hla := not_lo hi ha
 have hha := or_hi hi ha
 generalize bt i a = ta at *
 generalize bt i b = tb at *
 cases ta
 ·go_enter Tryz.func84, Tryz.ntmps84
  go_wp2_with fail
  refine (InvSqrt2_1 _).mono ?_
  rintro e w1 ⟨rfl, hx1⟩
  have HB1 : Hid (Blk w1 w.heap.size 38 #[.int .i64 4, .int .i64 a, .int .i64 b, .int .i64 c]) := (Blk.new w _ _).ext hx1
  have HE1 : Hid (Ext w w1) := Ext.trans (by exact xx) hx1
  clear hx1
  go_upto_region 33 with (fail)
  have HB2 : Hid (Blk (w1.alloc (.cells #[.int .i64 1, .int .i64 0, .int .i64 0, .int .i64 0, .int .i64 1] 91)) w.heap.size 38 #[.int .i64 4, .int .i64 a, .int .i64 b, .int .i64 c]) := HB1.out.alloc _
  have HH2 : Hid (Blk (w1.alloc (.cells #[.int .i64 1, .int .i64 0, .int .i64 0, .int .i64 0, .int .i64 1] 91)) w1.heap.size 91 #[.int .i64 1, .int .i64 0, .int .i64 0, .int .i64 0, .int .i64 1]) := Blk.new _ _ _
  have HE2 : Hid (Ext w (w1.alloc (.cells #[.int .i64 1, .int .i64 0, .int .i64 0, .int .i64 0, .int .i64 1] 91))) := HE1.out.alloc _
  have HN1 : Hid (w.heap.size < w1.heap.size) := by have := HB1.out.lt; exact this
  clear HB1 HE1
  generalize w1.alloc (.cells #[.int .i64 1, .int .i64 0, .int .i64 0, .int .i64 0, .int .i64 1] 91) = w2 at *
  generalize w1.heap.size = s1 at *
  obtain ⟨⟨h0, h1, h2, h3, h4⟩, -⟩ := cells5 HH2.out
  go_upto_region 34 with (fail)
  have HB3 : Hid (Blk (w2.alloc (.cells #[.int .i64 1, .int .i64 0, .int .i64 0, .int .i64 0, .int .i64 1] 91)) w.heap.size 38 #[.int .i64 4, .int .i64 a, .int .i64 b, .int .i64 c]) := HB2.out.alloc _
  have HH3 : Hid (Blk (w2.alloc (.cells #[.int .i64 1, .int .i64 0, .int .i64 0, .int .i64 0, .int .i64 1] 91)) s1 91 #[.int .i64 1, .int .i64 0, .int .i64 0, .int .i64 0, .int .i64 1]) := HH2.out.alloc _
  have HO3 : Hid (Blk (w2.alloc (.cells #[.int .i64 1, .int .i64 0, .int .i64 0, .int .i64 0, .int .i64 1] 91)) w2.heap.size 91 #[.int .i64 1, .int .i64 0, .int .i64 0, .int .i64 0, .int .i64 1]) := Blk.new _ _ _
  have HE3 : Hid (Ext w (w2.alloc (.cells #[.int .i64 1, .int .i64 0, .int .i64 0, .int .i64 0, .int .i64 1] 91))) := HE2.out.alloc _
  have HN3 : Hid (w.heap.size < s1 ∧ s1 < w2.heap.size ∧ w.heap.size < w2.heap.size) := by
   have h5 := HH2.out.lt
   have h6 := HN1.out
   exact ⟨h6, h5, by omega⟩
  clear h0 h1 h2 h3 h4 HB2 HH2 HE2
  generalize w2.alloc (.cells #[.int .i64 1, .int .i64 0, .int .i64 0, .int .i64 0, .int .i64 1] 91) = w3 at *
  generalize w2.heap.size = s2 at *
  obtain ⟨⟨h0, h1, h2, h3, h4⟩, -⟩ := cells5 HH3.out
  obtain ⟨⟨o0, o1, o2, o3, o4⟩, -⟩ := cells5 HO3.out
  have g1 : w3.cell? ⟨w.heap.size, 1, none⟩ = some (.int .i64 a) := HB3.out.cell 1
  go_wp2
  go_ret
  exact ⟨⟨_, rfl, Blk.new _ _ _⟩, HE3.out.alloc _⟩
 ·go_enter Tryz.func84, Tryz.ntmps84
  go_wp2_with fail
  refine (InvSqrt2_1 _).mono ?_
  rintro e w1 ⟨rfl, hx1⟩
  have HB1 : Hid (Blk w1 w.heap.size 38 #[.int .i64 4, .int .i64 a, .int .i64 b, .int .i64 c]) := (Blk.new w _ _).ext hx1
  have HE1 : Hid (Ext w w1) := Ext.trans (by exact xx) hx1
  clear hx1
  go_upto_region 33 with (fail)
  have HB2 : Hid (Blk (w1.alloc (.cells #[.int .i64 1, .int .i64 0, .int .i64 0, .int .i64 0, .int .i64 1] 91)) w.heap.size 38 #[.int .i64 4, .int .i64 a, .int .i64 b, .int .i64 c]) := HB1.out.alloc _
  have HH2 : Hid (Blk (w1.alloc (.cells #[.int .i64 1, .int .i64 0, .int .i64 0, .int .i64 0, .int .i64 1] 91)) w1.heap.size 91 #[.int .i64 1, .int .i64 0, .int .i64 0, .int .i64 0, .int .i64 1]) := Blk.new _ _ _
  have HE2 : Hid (Ext w (w1.alloc (.cells #[.int .i64 1, .int .i64 0, .int .i64 0, .int .i64 0, .int .i64 1] 91))) := HE1.out.alloc _
  have HN1 : Hid (w.heap.size < w1.heap.size) := by have := HB1.out.lt; exact this
  clear HB1 HE1
  generalize w1.alloc (.cells #[.int .i64 1, .int .i64 0, .int .i64 0, .int .i64 0, .int .i64 1] 91) = w2 at *
  generalize w1.heap.size = s1 at *
  obtain ⟨⟨h0, h1, h2, h3, h4⟩, -⟩ := cells5 HH2.out
  go_upto_region 34 with (fail)
  have HB3 : Hid (Blk (w2.alloc (.cells #[.int .i64 1, .int .i64 0, .int .i64 0, .int .i64 0, .int .i64 1] 91)) w.heap.size 38 #[.int .i64 4, .int .i64 a, .int .i64 b, .int .i64 c]) := HB2.out.alloc _
  have HH3 : Hid (Blk (w2.alloc (.cells #[.int .i64 1, .int .i64 0, .int .i64 0, .int .i64 0, .int .i64 1] 91)) s1 91 #[.int .i64 1, .int .i64 0, .int .i64 0, .int .i64 0, .int .i64 1]) := HH2.out.alloc _
  have HO3 : Hid (Blk (w2.alloc (.cells #[.int .i64 1, .int .i64 0, .int .i64 0, .int .i64 0, .int .i64 1] 91)) w2.heap.size 91 #[.int .i64 1, .int .i64 0, .int .i64 0, .int .i64 0, .int .i64 1]) := Blk.new _ _ _
  have HE3 : Hid (Ext w (w2.alloc (.cells #[.int .i64 1, .int .i64 0, .int .i64 0, .int .i64 0, .int .i64 1] 91))) := HE2.out.alloc _
  have HN3 : Hid (w.heap.size < s1 ∧ s1 < w2.heap.size ∧ w.heap.size < w2.heap.size) := by
   have h5 := HH2.out.lt
   have h6 := HN1.out
   exact ⟨h6, h5, by omega⟩
  clear h0 h1 h2 h3 h4 HB2 HH2 HE2
  generalize w2.alloc (.cells #[.int .i64 1, .int .i64 0, .int .i64 0, .int .i64 0, .int .i64 1] 91) = w3 at *
  generalize w2.heap.size = s2 at *
  obtain ⟨⟨h0, h1, h2, h3, h4⟩, -⟩ := cells5 HH3.out
  go_wp2_with fail
  refine (NegDOmega_1 _).mono ?_
  rintro e w4 ⟨rfl, hx4⟩
  clear h0 h1 h2 h3 h4
  have HB4 := Lib.hid (HB3.out.ext hx4)
  have HH4 := Lib.hid (HH3.out.ext hx4)
  have HO4 := Lib.hid (HO3.out.ext hx4)
  have HE4 := Lib.hid (HE3.out.trans hx4)
  clear hx4 HB3 HH3 HO3 HE3
  obtain ⟨⟨h0, h1, h2, h3, h4⟩, f0, f1, f2, f3, f4⟩ := cells5 HO4.out
  go_upto_region 36 with (fail)
  have HB5 : Hid (Blk (((((w4.setCell ⟨s2, 0, none⟩ (.int .i64 (-1))).setCell ⟨s2, 1, none⟩ (.int .i64 0)).setCell ⟨s2, 2, none⟩ (.int .i64 0)).setCell ⟨s2, 3, none⟩ (.int .i64 0)).setCell ⟨s2, 4, none⟩ (.int .i64 1)) w.heap.size 38 #[.int .i64 4, .int .i64 a, .int .i64 b, .int .i64 c]) := far_put5 HB4.out (by have := HN3.out; omega) _ _ _ _ _
  have HH5 : Hid (Blk (((((w4.setCell ⟨s2, 0, none⟩ (.int .i64 (-1))).setCell ⟨s2, 1, none⟩ (.int .i64 0)).setCell ⟨s2, 2, none⟩ (.int .i64 0)).setCell ⟨s2, 3, none⟩ (.int .i64 0)).setCell ⟨s2, 4, none⟩ (.int .i64 1)) s1 91 #[.int .i64 1, .int .i64 0, .int .i64 0, .int .i64 0, .int .i64 1]) := far_put5 HH4.out (by have := HN3.out; omega) _ _ _ _ _
  have HO5 : Hid (Blk (((((w4.setCell ⟨s2, 0, none⟩ (.int .i64 (-1))).setCell ⟨s2, 1, none⟩ (.int .i64 0)).setCell ⟨s2, 2, none⟩ (.int .i64 0)).setCell ⟨s2, 3, none⟩ (.int .i64 0)).setCell ⟨s2, 4, none⟩ (.int .i64 1)) s2 91 #[.int .i64 (-1), .int .i64 0, .int .i64 0, .int .i64 0, .int .i64 1]) := HO4.out.put5 _ _ _ _ _
  have HE5 : Hid (Ext w (((((w4.setCell ⟨s2, 0, none⟩ (.int .i64 (-1))).setCell ⟨s2, 1, none⟩ (.int .i64 0)).setCell ⟨s2, 2, none⟩ (.int .i64 0)).setCell ⟨s2, 3, none⟩ (.int .i64 0)).setCell ⟨s2, 4, none⟩ (.int .i64 1))) := ext_put5 (g := s2) HE4.out (by have := HN3.out; omega) _ _ _ _ _
  clear h0 h1 h2 h3 h4 f0 f1 f2 f3 f4 HB4 HH4 HO4 HE4
  generalize ((((w4.setCell ⟨s2, 0, none⟩ (.int .i64 (-1))).setCell ⟨s2, 1, none⟩ (.int .i64 0)).setCell ⟨s2, 2, none⟩ (.int .i64 0)).setCell ⟨s2, 3, none⟩ (.int .i64 0)).setCell ⟨s2, 4, none⟩ (.int .i64 1) = w5 at *
  obtain ⟨⟨h0, h1, h2, h3, h4⟩, -⟩ := cells5 HH5.out
  obtain ⟨⟨o0, o1, o2, o3, o4⟩, -⟩ := cells5 HO5.out
  have g1 : w5.cell? ⟨w.heap.size, 1, none⟩ = some (.int .i64 a) := HB5.out.cell 1
  go_wp2
  go_ret
  exact ⟨⟨_, rfl, Blk.new _ _ _⟩, HE5.out.alloc _⟩
end Go.Proofs.YtdjckjfclhjpcaaGreat
/-
 Helper text (no claim of its own): where an amplitude goes, all kinds, by the reference. Printed by gen_am.py or gen_an.py.
-/
namespace Go.Proofs.YtdjckjfclhjpcaaGreat
open Go.ChangeShapes Go.WideShapes Go.ChangeAt Go.RowKit Go.Deep
set_option linter.unusedVariables false
set_option linter.unusedSimpArgs false
/-- Where an amplitude goes. -/
def sentN : Nat → Nat → Nat → Nat → Nat → List (Nat × Dw)
 | 1, a, b, c, i => [(qfl i a, ph 0)]
 | 2, a, b, c, i => [(qfl i a, ph (if bt i a then 6 else 2))]
 | 3, a, b, c, i => [(i, ph (if bt i a then 4 else 0))]
 | 4, a, b, c, i => [(qlo i a, ⟨zw 0, 1⟩), (qhi i a, ⟨zw (if bt i a then 4 else 0), 1⟩)]
 | 5, a, b, c, i => [(i, ph (if bt i a then 2 else 0))]
 | 6, a, b, c, i => [(i, ph (if bt i a then 6 else 0))]
 | 7, a, b, c, i => [(i, ph (if bt i a then 1 else 0))]
 | 8, a, b, c, i => [(i, ph (if bt i a then 7 else 0))]
 | 9, a, b, c, i => [(if bt i a then qfl i b else i, ph 0)]
 | 10, a, b, c, i => [(i, ph (if bt i a && bt i b then 4 else 0))]
 | 11, a, b, c, i => [(if bt i a != bt i b then qfl (qfl i a) b else i, ph 0)]
 | 12, a, b, c, i => [(if bt i a && bt i b then qfl i c else i, ph 0)]
 | _, _, _, _, _ => []
def sent (g : Gt) (i : Nat) : List (Nat × Dw) := sentN g.k.toNat g.a.toNat g.b.toNat g.c.toNat i
theorem vg_all {g : Gt} {n : Int} (h : vg g n = true) : (1 ≤ n ∧ n ≤ 4) ∧ (1 ≤ g.k ∧ g.k ≤ 12) ∧ (0 ≤ g.a ∧ g.a < n) ∧ (0 ≤ g.b ∧ g.b < n) ∧ (0 ≤ g.c ∧ g.c < n) ∧ (9 ≤ g.k → g.a ≠ g.b) ∧ (g.k = 12 → g.a ≠ g.c ∧ g.b ≠ g.c) := by
 unfold vg okI at h
 simp only [Bool.and_eq_true, decide_eq_true_eq] at h
 obtain ⟨⟨⟨⟨⟨h1, h2⟩, h3⟩, ha⟩, hb⟩, hc⟩ := h
 have hk : 1 ≤ g.k ∧ g.k ≤ 12 := by unfold ar at h3; omega
 refine ⟨⟨h1, h2⟩, hk, ?_⟩
 rcases (show (1 ≤ g.k ∧ g.k ≤ 8) ∨ (9 ≤ g.k ∧ g.k ≤ 11) ∨ g.k = 12 by omega) with e | e | e
 ·rw [ar1 e] at ha hb hc; simp [qs] at ha hb hc; refine ⟨by omega, by omega, by omega, fun h => ?_, fun h => ?_⟩ <;> omega
 ·rw [ar2 e] at ha hb hc; simp [qs] at ha hb hc
  refine ⟨by omega, by omega, by omega, fun h => ?_, fun h => ?_⟩
  ·have := hb.2; intro hh; exact this hh.symm
  ·omega
 ·rw [ar3 e] at ha hb hc; simp [qs] at ha hb hc
  refine ⟨by omega, by omega, by omega, fun h => ?_, fun h => ?_⟩
  ·have := hb.2; intro hh; exact this hh.symm
  ·have := hc.2; exact ⟨fun hh => this.1 hh.symm, fun hh => this.2 hh.symm⟩
theorem Goes_any {g : Gt} {n : Int} (h : vg g n = true) (i : Nat) (hi : i < 16) (w : World) : Calls Tryz.prog 84 #[g.val, .int .i64 i] w fun e w' => NOut (sent g i) e w' ∧ Ext w w' := by
 obtain ⟨⟨n1, n4⟩, ⟨k1, k12⟩, ⟨a0, a3⟩, ⟨b0, b3⟩, ⟨c0, c3⟩, -, -⟩ := vg_all h
 clear h
 obtain ⟨gk, ga, gb, gc⟩ := g
 simp only at k1 k12 a0 a3 b0 b3 c0 c3
 obtain ⟨k, rfl⟩ : ∃ k : Nat, gk = k := ⟨gk.toNat, by omega⟩
 obtain ⟨a, rfl⟩ : ∃ k : Nat, ga = k := ⟨ga.toNat, by omega⟩
 obtain ⟨b, rfl⟩ : ∃ k : Nat, gb = k := ⟨gb.toNat, by omega⟩
 obtain ⟨c, rfl⟩ : ∃ k : Nat, gc = k := ⟨gc.toNat, by omega⟩
 rcases (show k = 1 ∨ k = 2 ∨ k = 3 ∨ k = 4 ∨ k = 5 ∨ k = 6 ∨ k = 7 ∨ k = 8 ∨ k = 9 ∨ k = 10 ∨ k = 11 ∨ k = 12 by omega) with rfl | rfl | rfl | rfl | rfl | rfl | rfl | rfl | rfl | rfl | rfl | rfl
 ·exact Goes_1 a b c i hi (by omega) (by omega) (by omega) w
 ·exact Goes_2 a b c i hi (by omega) (by omega) (by omega) w
 ·exact Goes_3 a b c i hi (by omega) (by omega) (by omega) w
 ·exact Goes_4 a b c i hi (by omega) (by omega) (by omega) w
 ·exact Goes_5 a b c i hi (by omega) (by omega) (by omega) w
 ·exact Goes_6 a b c i hi (by omega) (by omega) (by omega) w
 ·exact Goes_7 a b c i hi (by omega) (by omega) (by omega) w
 ·exact Goes_8 a b c i hi (by omega) (by omega) (by omega) w
 ·exact Goes_9 a b c i hi (by omega) (by omega) (by omega) w
 ·exact Goes_10 a b c i hi (by omega) (by omega) (by omega) w
 ·exact Goes_11 a b c i hi (by omega) (by omega) (by omega) w
 ·exact Goes_12 a b c i hi (by omega) (by omega) (by omega) w
theorem sent_len (g : Gt) (i : Nat) : (sent g i).length ≤ 2 := by
 unfold sent sentN
 split <;> simp
theorem SN.at_ {w : World} {b k : Nat} {l : List (Nat × Dw)} {s : Nat × Dw} (h : SN w b l) (hs : l[k]? = some s) :
  w.cell? ⟨b, k * 6, none⟩ = some (.int .i64 s.1) ∧ w.cell? ⟨b, k * 6 + 1, none⟩ = some (.int .i64 s.2.n.a) ∧ w.cell? ⟨b, k * 6 + 2, none⟩ = some (.int .i64 s.2.n.b) ∧ w.cell? ⟨b, k * 6 + 3, none⟩ = some (.int .i64 s.2.n.c) ∧ w.cell? ⟨b, k * 6 + 4, none⟩ = some (.int .i64 s.2.n.d) ∧ w.cell? ⟨b, k * 6 + 5, none⟩ = some (.int .i64 s.2.e) := by
 have hc : ∀ j u, j < 6 → (ncells s)[j]? = some u → w.cell? ⟨b, k * 6 + j, none⟩ = some u := fun j u hj hu => by
  rw [h.cell, ← Array.getElem?_toList, List.toList_toArray, ← hu]
  exact flat_at ncells_len l k s hs j hj
 exact ⟨hc 0 _ (by omega) rfl, hc 1 _ (by omega) rfl, hc 2 _ (by omega) rfl, hc 3 _ (by omega) rfl, hc 4 _ (by omega) rfl, hc 5 _ (by omega) rfl⟩
theorem SN.ne {w : World} {b k : Nat} {l : List (Nat × Dw)} {cs : Array Value} (h : SN w b l) (h2 : Blk w k 91 cs) : b ≠ k := by
 rintro rfl
 unfold SN Blk at h
 unfold Blk at h2
 rw [h] at h2
 injection h2 with h2
 injection h2 with _ h3
 exact absurd h3 (by decide)
end Go.Proofs.YtdjckjfclhjpcaaGreat
/-
 Helper text (no claim of its own): multiplication by the root of 2, by the reference. Printed by gen_am.py or gen_an.py.
-/
namespace Go.Proofs.YtdjckjfclhjpcaaGreat
open Go.ChangeShapes Go.WideShapes Go.ChangeAt Go.RowKit Go.Deep
set_option linter.unusedVariables false
set_option linter.unusedSimpArgs false
set_option maxRecDepth 100000 in
set_option maxHeartbeats 8000000 in
theorem l3Up_yes (n : Zw) (k : Nat) (w : World) (hk : k ≤ 60) (hn : near 1073741824 (up k n)) : Calls Tryz.prog 102 #[n.val, .int .i64 k] w fun e w' => e = .returned (.tuple #[(up k n).val, .bool true]) ∧ Ext w w' := by
 have HNN := Lib.hid hn
 clear hn
 go_enter Tryz.func102, Tryz.ntmps102
 go_wp2
 have HX : Hid (Blk ((w.alloc (.cells #[.int .i64 n.a, .int .i64 n.b, .int .i64 n.c, .int .i64 n.d] 89)).alloc (.cells #[.int .i64 0, .int .i64 0, .int .i64 0, .int .i64 0] 89)) w.heap.size 89 #[.int .i64 n.a, .int .i64 n.b, .int .i64 n.c, .int .i64 n.d]) := (Blk.new w _ _).alloc _
 have HR : Hid (Blk ((w.alloc (.cells #[.int .i64 n.a, .int .i64 n.b, .int .i64 n.c, .int .i64 n.d] 89)).alloc (.cells #[.int .i64 0, .int .i64 0, .int .i64 0, .int .i64 0] 89)) (w.heap.size + 1) 89 #[.int .i64 0, .int .i64 0, .int .i64 0, .int .i64 0]) := Blk.newAt (by simp)
 have HE : Hid (Ext w ((w.alloc (.cells #[.int .i64 n.a, .int .i64 n.b, .int .i64 n.c, .int .i64 n.d] 89)).alloc (.cells #[.int .i64 0, .int .i64 0, .int .i64 0, .int .i64 0] 89))) := xx
 generalize ((w.alloc (.cells #[.int .i64 n.a, .int .i64 n.b, .int .i64 n.c, .int .i64 n.d] 89)).alloc (.cells #[.int .i64 0, .int .i64 0, .int .i64 0, .int .i64 0] 89)) = w1 at *
 go_loopw [6] (fun iv wr => ∃ j : Nat, iv = .int .i64 j ∧ j ≤ k ∧ Hid (Blk wr w.heap.size 89 #[.int .i64 (up j n).a, .int .i64 (up j n).b, .int .i64 (up j n).c, .int .i64 (up j n).d]) ∧ Hid (Blk wr (w.heap.size + 1) 89 #[.int .i64 0, .int .i64 0, .int .i64 0, .int .i64 0]) ∧ Hid (Ext w wr)) (fun i _ => k - (intOf i).toNat)
 case atStart => exact ⟨0, rfl, Nat.zero_le _, HX, HR, HE⟩
 case round =>
  obtain ⟨j, rfl, hj, HX1, HR1, HE1⟩ := hrel
  clear HX HR HE
  by_cases hlt : j < k
  ·have hk1 : IntKind.i64.wrap ((j : Int) + 1) = ((j + 1 : Nat) : Int) := by rw [IntWalk.i64_in _ (by omega)]; rfl
   have hk2 : wrap64 ((j : Int) + 1) = ((j + 1 : Nat) : Int) := by unfold wrap64; omega
   have HLT := Lib.hid hlt
   have HC : Hid (∀ w', Calls Tryz.prog 100 #[(up j n).val, zrootc.val] w' fun e w'' => e = .returned (.tuple #[(up (j + 1) n).val, .bool true]) ∧ Ext w' w'') := fun w' => by
    have h1 := near_mid (Nat.le_of_lt hlt) HNN.out
    have h2 := near_mid (show j + 1 ≤ k from hlt) HNN.out
    rw [up_succ, ← zmul_root] at h2
    rw [up_succ, ← zmul_root]
    exact MulZOmega_yes _ _ w' (zok_near.2 h1) rfl (zok_near.2 h2)
   obtain ⟨u, hu⟩ : ∃ u, up j n = u := ⟨_, rfl⟩
   obtain ⟨v, hv⟩ : ∃ v, up (j + 1) n = v := ⟨_, rfl⟩
   rw [hu] at HX1
   rw [hu, hv] at HC
   have HV := Lib.hid hv
   clear hu hv hj
   obtain ⟨⟨x0, x1, x2, x3⟩, -⟩ := cells4 HX1.out
   go_wp2_with fail
   refine (HC.out _).mono ?_
   rintro e w2 ⟨rfl, hx2⟩
   clear x0 x1 x2 x3
   go_upto_region 5 with (fail)
   have HX3 : Hid (Blk (w2.alloc (.cells #[.int .i64 v.a, .int .i64 v.b, .int .i64 v.c, .int .i64 v.d] 89)) w.heap.size 89 #[.int .i64 u.a, .int .i64 u.b, .int .i64 u.c, .int .i64 u.d]) := (HX1.out.ext hx2).alloc _
   have HR3 : Hid (Blk (w2.alloc (.cells #[.int .i64 v.a, .int .i64 v.b, .int .i64 v.c, .int .i64 v.d] 89)) (w.heap.size + 1) 89 #[.int .i64 0, .int .i64 0, .int .i64 0, .int .i64 0]) := (HR1.out.ext hx2).alloc _
   have HV3 : Hid (Blk (w2.alloc (.cells #[.int .i64 v.a, .int .i64 v.b, .int .i64 v.c, .int .i64 v.d] 89)) w2.heap.size 89 #[.int .i64 v.a, .int .i64 v.b, .int .i64 v.c, .int .i64 v.d]) := Blk.new _ _ _
   have HE3 : Hid (Ext w (w2.alloc (.cells #[.int .i64 v.a, .int .i64 v.b, .int .i64 v.c, .int .i64 v.d] 89))) := (HE1.out.trans hx2).alloc _
   clear hx2 HX1 HR1 HE1
   generalize w2.alloc (.cells #[.int .i64 v.a, .int .i64 v.b, .int .i64 v.c, .int .i64 v.d] 89) = w3 at *
   generalize w2.heap.size = s at *
   obtain ⟨⟨x0, x1, x2, x3⟩, f0, f1, f2, f3⟩ := cells4 HX3.out
   obtain ⟨⟨v0, v1, v2, v3⟩, -⟩ := cells4 HV3.out
   go_wp2
   have HX4 : Hid (Blk (put4 w3 w.heap.size (.int .i64 v.a) (.int .i64 v.b) (.int .i64 v.c) (.int .i64 v.d)) w.heap.size 89 #[.int .i64 v.a, .int .i64 v.b, .int .i64 v.c, .int .i64 v.d]) := HX3.out.put4 _ _ _ _
   have HR4 : Hid (Blk (put4 w3 w.heap.size (.int .i64 v.a) (.int .i64 v.b) (.int .i64 v.c) (.int .i64 v.d)) (w.heap.size + 1) 89 #[.int .i64 0, .int .i64 0, .int .i64 0, .int .i64 0]) := far_put4 HR3.out (by omega) _ _ _ _
   have HE4 : Hid (Ext w (put4 w3 w.heap.size (.int .i64 v.a) (.int .i64 v.b) (.int .i64 v.c) (.int .i64 v.d))) := ext_put4 (g := w.heap.size) HE3.out (Nat.le_refl _) _ _ _ _
   go_roundw
   case rel => exact ⟨j + 1, by first | rfl | rw [hk1] | rw [hk2], HLT.out, by rw [HV.out]; exact HX4, HR4, HE4⟩
   case measure => simp [intOf, hk2]; have := HLT.out; omega
  ·have hjk : j = k := by omega
   rw [hjk] at HX1
   clear hj
   obtain ⟨u, hu⟩ : ∃ u, up k n = u := ⟨_, rfl⟩
   rw [hu] at HX1
   have HU := Lib.hid hu
   clear hu
   obtain ⟨⟨x0, x1, x2, x3⟩, -⟩ := cells4 HX1.out
   obtain ⟨⟨r0, r1, r2, r3⟩, f0, f1, f2, f3⟩ := cells4 HR1.out
   go_wp2
   have HBB : Hid (Blk (put4 wr (w.heap.size + 1) (.int .i64 u.a) (.int .i64 u.b) (.int .i64 u.c) (.int .i64 u.d)) (w.heap.size + 1) 89 #[.int .i64 u.a, .int .i64 u.b, .int .i64 u.c, .int .i64 u.d]) := HR1.out.put4 _ _ _ _
   refine bodyPost_ret (v := .tuple #[.agg #[.int .i64 u.a, .int .i64 u.b, .int .i64 u.c, .int .i64 u.d], .bool true]) ?_ rfl ?_
   rotate_left
   ·exact ⟨by rw [HU.out], ext_put4 (g := w.heap.size + 1) HE1.out (by omega) _ _ _ _⟩
   ·exact ret_pair rfl _ _ _ _ _ _ _ rfl rfl HBB.out Tryz.underlying89 rfl Tryz.sizeZOmega
end Go.Proofs.YtdjckjfclhjpcaaGreat
namespace Go.Proofs.YtdjckjfclhjpcaaGreat
open Go.ChangeShapes Go.WideShapes Go.ChangeAt Go.RowKit Go.Deep
set_option linter.unusedVariables false
set_option linter.unusedSimpArgs false
set_option maxRecDepth 100000 in
set_option maxHeartbeats 8000000 in
theorem NewDOmega_yes (n : Zw) (k : Nat) (w : World) (hn : zok n = true) (hk : k ≤ 120) (h60 : (nwL k n).2 ≤ 60) : Calls Tryz.prog 101 #[n.val, .int .i64 k] w fun e w' => e = .returned (.tuple #[(⟨(nwL k n).1, (nwL k n).2⟩ : Dw).val, .bool true]) ∧ Ext w w' := by
 obtain ⟨r, hr⟩ : ∃ r, nwL k n = r := ⟨_, rfl⟩
 have HR0 : Hid (nwL k n = r ∧ r.2 ≤ 60) := ⟨hr, by rw [← hr]; exact h60⟩
 rw [hr]
 have HN0 := Lib.hid hn
 clear hr h60 hn
 obtain ⟨r1, r2⟩ := r
 have hk0 : (0 : Int) ≤ (k : Int) := by omega
 have hk120 : (k : Int) ≤ 120 := by omega
 go_enter Tryz.func101, Tryz.ntmps101
 go_wp2_with fail
 refine (IsValidZOmega_yes n _ HN0.out).mono ?_
 rintro e w1 ⟨rfl, hx1⟩
 have HX : Hid (Blk w1 w.heap.size 89 #[.int .i64 n.a, .int .i64 n.b, .int .i64 n.c, .int .i64 n.d]) := ((Blk.new w _ _).alloc _).ext hx1
 have HR : Hid (Blk w1 (w.heap.size + 1) 91 #[.int .i64 0, .int .i64 0, .int .i64 0, .int .i64 0, .int .i64 0]) := (Blk.newAt (b := w.heap.size + 1) (by simp)).ext hx1
 have HE : Hid (Ext w w1) := Ext.trans (by exact xx) hx1
 clear hx1
 go_wp2_with fail
 refine (l1In_yes _ _ _ _ hk0 hk120).mono ?_
 rintro e w' ⟨rfl, rfl⟩
 go_wp2
 go_loopw [1] (fun iv wr => ∃ (j : Nat) (m : Zw), iv = .int .i64 j ∧ j ≤ k ∧ Hid (nwL j m = nwL k n ∧ zok m = true) ∧ Hid (Blk wr w.heap.size 89 #[.int .i64 m.a, .int .i64 m.b, .int .i64 m.c, .int .i64 m.d]) ∧ Hid (Blk wr (w.heap.size + 1) 91 #[.int .i64 0, .int .i64 0, .int .i64 0, .int .i64 0, .int .i64 0]) ∧ Hid (Ext w wr)) (fun i _ => (intOf i).toNat)
 case atStart => exact ⟨k, n, rfl, Nat.le_refl _, ⟨rfl, HN0.out⟩, HX, HR, HE⟩
 case round =>
  obtain ⟨j, m, rfl, hj, HJ, HX1, HR1, HE1⟩ := hrel
  clear HX HR HE
  by_cases hlt : 0 < j
  ·have hj0 : (0 : Int) < (j : Int) := by omega
   have hj2 : (j : Int) > 0 := by omega
   have hk1 : IntKind.i64.wrap ((j : Int) - 1) = ((j - 1 : Nat) : Int) := by rw [IntWalk.i64_in _ (by omega)]; omega
   have hk2 : wrap64 ((j : Int) - 1) = ((j - 1 : Nat) : Int) := by unfold wrap64; omega
   have HLT : Hid (0 < j ∧ j ≤ k) := ⟨hlt, hj⟩
   clear hj hlt
   obtain ⟨d, hd⟩ : ∃ d, (zDiv m).1 = d := ⟨_, rfl⟩
   obtain ⟨q, hq⟩ : ∃ q, (zDiv m).2 = q := ⟨_, rfl⟩
   have HC : Hid (∀ w', Calls Tryz.prog 106 #[m.val] w' fun e w'' => e = .returned (.tuple #[d.val, .bool q]) ∧ Ext w' w'') := fun w' => by rw [← hd, ← hq]; exact DivSqrt2_any m w' HJ.out.2
   have HQ : Hid ((zDiv m).1 = d ∧ (zDiv m).2 = q) := ⟨hd, hq⟩
   clear hd hq
   obtain ⟨⟨x0, x1, x2, x3⟩, -⟩ := cells4 HX1.out
   go_wp2_with fail
   refine (HC.out _).mono ?_
   rintro e w2 ⟨rfl, hx2⟩
   clear x0 x1 x2 x3
   go_upto_region 5 with (fail)
   have HX3 : Hid (Blk (w2.alloc (.cells #[.int .i64 d.a, .int .i64 d.b, .int .i64 d.c, .int .i64 d.d] 89)) w.heap.size 89 #[.int .i64 m.a, .int .i64 m.b, .int .i64 m.c, .int .i64 m.d]) := (HX1.out.ext hx2).alloc _
   have HR3 : Hid (Blk (w2.alloc (.cells #[.int .i64 d.a, .int .i64 d.b, .int .i64 d.c, .int .i64 d.d] 89)) (w.heap.size + 1) 91 #[.int .i64 0, .int .i64 0, .int .i64 0, .int .i64 0, .int .i64 0]) := (HR1.out.ext hx2).alloc _
   have HV3 : Hid (Blk (w2.alloc (.cells #[.int .i64 d.a, .int .i64 d.b, .int .i64 d.c, .int .i64 d.d] 89)) w2.heap.size 89 #[.int .i64 d.a, .int .i64 d.b, .int .i64 d.c, .int .i64 d.d]) := Blk.new _ _ _
   have HE3 : Hid (Ext w (w2.alloc (.cells #[.int .i64 d.a, .int .i64 d.b, .int .i64 d.c, .int .i64 d.d] 89))) := (HE1.out.trans hx2).alloc _
   clear hx2 HX1 HR1 HE1 HC
   generalize w2.alloc (.cells #[.int .i64 d.a, .int .i64 d.b, .int .i64 d.c, .int .i64 d.d] 89) = w3 at *
   generalize w2.heap.size = s at *
   cases q with
   | true =>
    obtain ⟨⟨x0, x1, x2, x3⟩, f0, f1, f2, f3⟩ := cells4 HX3.out
    obtain ⟨⟨v0, v1, v2, v3⟩, -⟩ := cells4 HV3.out
    go_wp2
    have HX4 : Hid (Blk (put4 w3 w.heap.size (.int .i64 d.a) (.int .i64 d.b) (.int .i64 d.c) (.int .i64 d.d)) w.heap.size 89 #[.int .i64 d.a, .int .i64 d.b, .int .i64 d.c, .int .i64 d.d]) := HX3.out.put4 _ _ _ _
    have HR4 : Hid (Blk (put4 w3 w.heap.size (.int .i64 d.a) (.int .i64 d.b) (.int .i64 d.c) (.int .i64 d.d)) (w.heap.size + 1) 91 #[.int .i64 0, .int .i64 0, .int .i64 0, .int .i64 0, .int .i64 0]) := far_put4 HR3.out (by omega) _ _ _ _
    have HE4 : Hid (Ext w (put4 w3 w.heap.size (.int .i64 d.a) (.int .i64 d.b) (.int .i64 d.c) (.int .i64 d.d))) := ext_put4 (g := w.heap.size) HE3.out (Nat.le_refl _) _ _ _ _
    have HJ4 : Hid (nwL (j - 1) d = nwL k n ∧ zok d = true) := by
     have h1 := nwL_y (k := j - 1) HQ.out.2
     rw [HQ.out.1, show j - 1 + 1 = j by have := HLT.out; omega, HJ.out.1] at h1
     refine ⟨h1.symm, ?_⟩
     have h2 := div_root HQ.out.2
     rw [HQ.out.1] at h2
     exact zok_near.2 (near_dn (by rw [h2]; exact zok_near.1 HJ.out.2))
    go_roundw
    case rel => exact ⟨j - 1, d, by first | rfl | rw [hk1] | rw [hk2], by have := HLT.out; omega, HJ4, HX4, HR4, HE4⟩
    case measure => simp [intOf, hk2]; have := HLT.out; omega
   | false =>
    have HV : Hid (j = r2 ∧ m = r1) := by
     have h1 := nwL_n (k := j - 1) HQ.out.2
     rw [show j - 1 + 1 = j by have := HLT.out; omega, HJ.out.1, HR0.out.1] at h1
     injection h1 with h2 h3
     exact ⟨h3.symm, h2.symm⟩
    have h60 : ¬ (60 : Int) < (j : Int) := by have := HV.out.1; have h2 := HR0.out.2; have h3 : r2 ≤ 60 := h2; omega
    have h61 : ¬ (j : Int) > 60 := h60
    obtain ⟨⟨x0, x1, x2, x3⟩, -⟩ := cells4 HX3.out
    obtain ⟨⟨c0, c1, c2, c3, c4⟩, f0, f1, f2, f3, f4⟩ := cells5 HR3.out
    go_wp2
    have HBB : Hid (Blk (put5 w3 (w.heap.size + 1) (.int .i64 m.a) (.int .i64 m.b) (.int .i64 m.c) (.int .i64 m.d) (.int .i64 j)) (w.heap.size + 1) 91 #[.int .i64 m.a, .int .i64 m.b, .int .i64 m.c, .int .i64 m.d, .int .i64 j]) := HR3.out.put5 _ _ _ _ _
    refine bodyPost_ret (v := .tuple #[.agg #[.int .i64 m.a, .int .i64 m.b, .int .i64 m.c, .int .i64 m.d, .int .i64 j], .bool true]) ?_ rfl ?_
    rotate_left
    ·exact ⟨by rw [HV.out.1, HV.out.2], ext_put5 (g := w.heap.size + 1) HE3.out (by omega) _ _ _ _ _⟩
    ·exact ret_pair rfl _ _ _ _ _ _ _ rfl rfl HBB.out Tryz.underlying91 rfl Tryz.sizeDOmega
  ·have hj0 : j = 0 := by omega
   subst hj0
   have HV : Hid (0 = r2 ∧ m = r1) := by
    have h1 := HJ.out.1
    rw [HR0.out.1] at h1
    injection h1 with h2 h3
    exact ⟨h3, h2⟩
   clear hj hlt
   obtain ⟨⟨x0, x1, x2, x3⟩, -⟩ := cells4 HX1.out
   obtain ⟨⟨c0, c1, c2, c3, c4⟩, f0, f1, f2, f3, f4⟩ := cells5 HR1.out
   go_wp2
   have HBB : Hid (Blk (put5 wr (w.heap.size + 1) (.int .i64 m.a) (.int .i64 m.b) (.int .i64 m.c) (.int .i64 m.d) (.int .i64 0)) (w.heap.size + 1) 91 #[.int .i64 m.a, .int .i64 m.b, .int .i64 m.c, .int .i64 m.d, .int .i64 0]) := HR1.out.put5 _ _ _ _ _
   refine bodyPost_ret (v := .tuple #[.agg #[.int .i64 m.a, .int .i64 m.b, .int .i64 m.c, .int .i64 m.d, .int .i64 0], .bool true]) ?_ rfl ?_
   rotate_left
   ·exact ⟨by rw [← HV.out.1, HV.out.2]; rfl, ext_put5 (g := w.heap.size + 1) HE1.out (by omega) _ _ _ _ _⟩
   ·exact ret_pair rfl _ _ _ _ _ _ _ rfl rfl HBB.out Tryz.underlying91 rfl Tryz.sizeDOmega
end Go.Proofs.YtdjckjfclhjpcaaGreat
