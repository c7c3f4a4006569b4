/-
  Helper text (no claim of its own): valid amplitudes, by the reference. Printed by gen_am.py or gen_an.py.
-/
import Derived.Test.YtofbmkpfliofeabAn
namespace Go.Proofs.Ytofbmkpfliofeab
open Go.ChangeShapes Go.WideShapes Go.ChangeAt Go.RowKit Go.Deep
set_option linter.unusedVariables false
set_option linter.unusedSimpArgs false
set_option maxRecDepth 100000 in
set_option maxHeartbeats 8000000 in
theorem IsValidDOmega_yes (x : Dw) (w : World) (hx : dok x = true) : Calls Try.prog 73 #[x.val] w fun e w' => e = .returned (.bool true) ∧ Ext w w' := by
  obtain ⟨x1, x2, x3, x4⟩ := dok_iff.1 hx
  have HX0 := Lib.hid x1
  obtain ⟨m, hm⟩ : ∃ m, (zDiv x.n).1 = m := ⟨_, rfl⟩
  obtain ⟨q, hq⟩ : ∃ q, (zDiv x.n).2 = q := ⟨_, rfl⟩
  have HDV : Hid (∀ w', Calls Try.prog 81 #[x.n.val] w' fun e w'' => e = .returned (.tuple #[m.val, .bool q]) ∧ Ext w' w'') := fun w' => by rw [← hm, ← hq]; exact DivSqrt2_any x.n w' x1
  have hE : Hid (0 ≤ x.e ∧ x.e ≤ 60) := ⟨x2, x3⟩
  clear hx x1 hm x2 x3
  cases q with
  | false =>
    clear x4 hq
    go_enter Try.func73, Try.ntmps73
    go_wp2_with fail
    refine (HDV.out _).mono ?_
    rintro e w1 ⟨rfl, hx1⟩
    have HBX1 : Hid (Blk w1 (w.heap.size) 83 #[.int .i64 x.n.a, .int .i64 x.n.b, .int .i64 x.n.c, .int .i64 x.n.d, .int .i64 x.e]) := ((Blk.newAt (b := w.heap.size) rfl)).ext hx1
    have HE1 : Hid (Ext w w1) := Ext.trans (by repeat (first | exact Ext.refl _ | assumption | refine Ext.alloc ?_ _ | refine Ext.drewN ?_ _ | refine Ext.drew ?_)) hx1
    clear hx1
    go_upto_region 2 with (fail)
    have HBX2 : Hid (Blk (w1.alloc (.cells #[.int .i64 m.a, .int .i64 m.b, .int .i64 m.c, .int .i64 m.d] 81)) (w.heap.size) 83 #[.int .i64 x.n.a, .int .i64 x.n.b, .int .i64 x.n.c, .int .i64 x.n.d, .int .i64 x.e]) := HBX1.out.alloc _
    have HBM2 : Hid (Blk (w1.alloc (.cells #[.int .i64 m.a, .int .i64 m.b, .int .i64 m.c, .int .i64 m.d] 81)) w1.heap.size 81 #[.int .i64 m.a, .int .i64 m.b, .int .i64 m.c, .int .i64 m.d]) := Blk.new _ _ _
    have HE2 : Hid (Ext w (w1.alloc (.cells #[.int .i64 m.a, .int .i64 m.b, .int .i64 m.c, .int .i64 m.d] 81))) := HE1.out.alloc _
    have hs2 : w.heap.size + 1 ≤ w1.heap.size := by have := (HBX1).out.lt; omega
    obtain ⟨bM, hbM⟩ : ∃ b, b = w1.heap.size := ⟨_, rfl⟩
    rw [← hbM] at HBM2 hs2 ⊢
    generalize w1.alloc (.cells #[.int .i64 m.a, .int .i64 m.b, .int .i64 m.c, .int .i64 m.d] 81) = w2 at *
    clear hbM
    obtain ⟨⟨cX0, cX1, cX2, cX3, cX4⟩, -⟩ := cells5 HBX2.out
    go_wp2_with fail
    refine (IsValidZOmega_yes x.n _ HX0.out).mono ?_
    rintro e w3 ⟨rfl, hx3⟩
    have HBX3 := Lib.hid (HBX2.out.ext hx3)
    have HBM3 := Lib.hid (HBM2.out.ext hx3)
    have HE3 := Lib.hid (HE2.out.trans hx3)
    clear hx3
    clear cX0 cX1 cX2 cX3 cX4
    obtain ⟨⟨cX0, cX1, cX2, cX3, cX4⟩, -⟩ := cells5 HBX3.out
    go_wp2_with fail
    refine (l1In_yes _ _ _ _ hE.out.1 hE.out.2).mono ?_
    rintro e w' ⟨rfl, rfl⟩
    go_wp2
    go_ret
    exact ⟨rfl, HE3.out⟩
  | true =>
    have h0 : x.e = 0 := by rcases x4 with h | h; · exact h
                            · rw [hq] at h; cases h
    have HB0 : Hid ((x.e == 0) = true) := beq_iff_eq.2 h0
    clear h0 x4 hq
    go_enter Try.func73, Try.ntmps73
    go_wp2_with fail
    refine (HDV.out _).mono ?_
    rintro e w1 ⟨rfl, hx1⟩
    have HBX1 : Hid (Blk w1 (w.heap.size) 83 #[.int .i64 x.n.a, .int .i64 x.n.b, .int .i64 x.n.c, .int .i64 x.n.d, .int .i64 x.e]) := ((Blk.newAt (b := w.heap.size) rfl)).ext hx1
    have HE1 : Hid (Ext w w1) := Ext.trans (by repeat (first | exact Ext.refl _ | assumption | refine Ext.alloc ?_ _ | refine Ext.drewN ?_ _ | refine Ext.drew ?_)) hx1
    clear hx1
    go_upto_region 2 with (fail)
    have HBX2 : Hid (Blk (w1.alloc (.cells #[.int .i64 m.a, .int .i64 m.b, .int .i64 m.c, .int .i64 m.d] 81)) (w.heap.size) 83 #[.int .i64 x.n.a, .int .i64 x.n.b, .int .i64 x.n.c, .int .i64 x.n.d, .int .i64 x.e]) := HBX1.out.alloc _
    have HBM2 : Hid (Blk (w1.alloc (.cells #[.int .i64 m.a, .int .i64 m.b, .int .i64 m.c, .int .i64 m.d] 81)) w1.heap.size 81 #[.int .i64 m.a, .int .i64 m.b, .int .i64 m.c, .int .i64 m.d]) := Blk.new _ _ _
    have HE2 : Hid (Ext w (w1.alloc (.cells #[.int .i64 m.a, .int .i64 m.b, .int .i64 m.c, .int .i64 m.d] 81))) := HE1.out.alloc _
    have hs2 : w.heap.size + 1 ≤ w1.heap.size := by have := (HBX1).out.lt; omega
    obtain ⟨bM, hbM⟩ : ∃ b, b = w1.heap.size := ⟨_, rfl⟩
    rw [← hbM] at HBM2 hs2 ⊢
    generalize w1.alloc (.cells #[.int .i64 m.a, .int .i64 m.b, .int .i64 m.c, .int .i64 m.d] 81) = w2 at *
    clear hbM
    obtain ⟨⟨cX0, cX1, cX2, cX3, cX4⟩, -⟩ := cells5 HBX2.out
    go_wp2_with fail
    refine (IsValidZOmega_yes x.n _ HX0.out).mono ?_
    rintro e w3 ⟨rfl, hx3⟩
    have HBX3 := Lib.hid (HBX2.out.ext hx3)
    have HBM3 := Lib.hid (HBM2.out.ext hx3)
    have HE3 := Lib.hid (HE2.out.trans hx3)
    clear hx3
    clear cX0 cX1 cX2 cX3 cX4
    obtain ⟨⟨cX0, cX1, cX2, cX3, cX4⟩, -⟩ := cells5 HBX3.out
    go_wp2_with fail
    refine (l1In_yes _ _ _ _ hE.out.1 hE.out.2).mono ?_
    rintro e w' ⟨rfl, rfl⟩
    have hb : (x.e == 0) = true := HB0.out
    go_wp2
    go_ret
    exact ⟨rfl, HE3.out⟩
end Go.Proofs.Ytofbmkpfliofeab
