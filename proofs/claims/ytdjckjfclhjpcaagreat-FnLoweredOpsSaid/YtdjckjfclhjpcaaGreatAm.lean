/-
 Helper text (no claim of its own): sums and products in the ring, by the reference. Printed by gen_am.py or gen_an.py.
-/
import Derived.Test.YtdjckjfclhjpcaaGreatAz
import Derived.Test.YtdjckjfclhjpcaaGreatIn
namespace Go.Proofs.YtdjckjfclhjpcaaGreat
open Go.ChangeShapes Go.WideShapes Go.ChangeAt Go.RowKit Go.Deep
set_option linter.unusedVariables false
set_option linter.unusedSimpArgs false
theorem l2Near_yes (n : Int) (w : World) (h : nr n = true) : Calls Tryz.prog 110 #[.int .i64 n] w fun e w' => e = .returned (.bool true) ∧ w = w' := by
 rw [nr_iff] at h
 go_enter Tryz.func110, Tryz.ntmps110
 go_wp2_with fail
 refine (l1In_yes _ _ _ _ h.1 h.2).mono ?_
 rintro e w' ⟨rfl, rfl⟩
 go_wp2
 go_ret
 exact ⟨rfl, rfl⟩
theorem zok4 {x : Zw} (h : zok x = true) : nr x.a = true ∧ nr x.b = true ∧ nr x.c = true ∧ nr x.d = true := by
 unfold zok at h
 simp only [Bool.and_eq_true] at h
 exact ⟨h.1.1.1, h.1.1.2, h.1.2, h.2⟩
set_option maxRecDepth 100000 in
set_option maxHeartbeats 8000000 in
theorem IsValidZOmega_yes (x : Zw) (w : World) (h : zok x = true) : Calls Tryz.prog 107 #[x.val] w fun e w' => e = .returned (.bool true) ∧ Ext w w' := by
 have HV := Lib.hid (zok4 h)
 clear h
 go_enter Tryz.func107, Tryz.ntmps107
 go_wp2_with fail
 refine (l2Near_yes _ _ HV.out.1).mono ?_
 rintro e w' ⟨rfl, rfl⟩
 go_wp2_with fail
 refine (l2Near_yes _ _ HV.out.2.1).mono ?_
 rintro e w' ⟨rfl, rfl⟩
 go_wp2_with fail
 refine (l2Near_yes _ _ HV.out.2.2.1).mono ?_
 rintro e w' ⟨rfl, rfl⟩
 go_wp2_with fail
 refine (l2Near_yes _ _ HV.out.2.2.2).mono ?_
 rintro e w' ⟨rfl, rfl⟩
 go_wp2
 go_ret
 exact ⟨rfl, xx⟩
set_option maxRecDepth 100000 in
set_option maxHeartbeats 8000000 in
theorem l2If_yes (x : Zw) (w : World) (h : zok x = true) : Calls Tryz.prog 109 #[x.val] w fun e w' => e = .returned (.tuple #[x.val, .bool true]) ∧ Ext w w' := by
 go_enter Tryz.func109, Tryz.ntmps109
 go_wp2_with fail
 refine (IsValidZOmega_yes x _ h).mono ?_
 rintro e w1 ⟨rfl, hx1⟩
 have HBX1 : Hid (Blk w1 (w.heap.size) 89 #[.int .i64 x.a, .int .i64 x.b, .int .i64 x.c, .int .i64 x.d]) := (((Blk.newAt (b := w.heap.size) rfl).alloc _)).ext hx1
 have HBR1 : Hid (Blk w1 (w.heap.size + 1) 89 #[.int .i64 0, .int .i64 0, .int .i64 0, .int .i64 0]) := ((Blk.newAt (b := w.heap.size + 1) (by simp))).ext hx1
 have HE1 : Hid (Ext w w1) := Ext.trans (by exact xx) hx1
 clear hx1
 obtain ⟨⟨cX0, cX1, cX2, cX3⟩, -⟩ := cells4 HBX1.out
 obtain ⟨⟨cR0, cR1, cR2, cR3⟩, fR0, fR1, fR2, fR3⟩ := cells4 HBR1.out
 go_wp2
 have HBB : Hid (Blk (put4 w1 (w.heap.size + 1) (.int .i64 x.a) (.int .i64 x.b) (.int .i64 x.c) (.int .i64 x.d)) (w.heap.size + 1) 89 #[.int .i64 x.a, .int .i64 x.b, .int .i64 x.c, .int .i64 x.d]) := HBR1.out.put4 _ _ _ _
 refine bodyPost_ret (v := .tuple #[.agg #[.int .i64 x.a, .int .i64 x.b, .int .i64 x.c, .int .i64 x.d], .bool true]) ?_ rfl ?_
 rotate_left
 ·exact ⟨rfl, ext_put4 (g := w.heap.size + 1) HE1.out (by omega) _ _ _ _⟩
 ·exact ret_pair rfl _ _ _ _ _ _ _ rfl rfl HBB.out Tryz.underlying89 rfl Tryz.sizeZOmega
theorem wrap_of {n : Int} (h : nr n = true) : IntKind.i64.wrap n = n := by
 rw [nr_iff] at h
 exact IntWalk.i64_in _ (by omega)
set_option maxRecDepth 100000 in
set_option maxHeartbeats 8000000 in
theorem AddZOmega_yes (x y : Zw) (w : World) (hx : zok x = true) (hy : zok y = true) (h : zok (zadd x y) = true) : Calls Tryz.prog 103 #[x.val, y.val] w fun e w' => e = .returned (.tuple #[(zadd x y).val, .bool true]) ∧ Ext w w' := by
 have HX0 := Lib.hid hx
 have HY0 := Lib.hid hy
 have HZ := Lib.hid h
 have HS : Hid (nr (x.a + y.a) = true ∧ nr (x.b + y.b) = true ∧ nr (x.c + y.c) = true ∧ nr (x.d + y.d) = true) := zok4 h
 clear hx hy h
 go_enter Tryz.func103, Tryz.ntmps103
 go_wp2_with fail
 refine (IsValidZOmega_yes x _ HX0.out).mono ?_
 rintro e w1 ⟨rfl, hx1⟩
 have HBX1 : Hid (Blk w1 (w.heap.size) 89 #[.int .i64 x.a, .int .i64 x.b, .int .i64 x.c, .int .i64 x.d]) := ((((Blk.newAt (b := w.heap.size) rfl).alloc _).alloc _)).ext hx1
 have HBY1 : Hid (Blk w1 (w.heap.size + 1) 89 #[.int .i64 y.a, .int .i64 y.b, .int .i64 y.c, .int .i64 y.d]) := (((Blk.newAt (b := w.heap.size + 1) (by simp)).alloc _)).ext hx1
 have HBR1 : Hid (Blk w1 (w.heap.size + 2) 89 #[.int .i64 0, .int .i64 0, .int .i64 0, .int .i64 0]) := ((Blk.newAt (b := w.heap.size + 2) (by simp))).ext hx1
 have HE1 : Hid (Ext w w1) := Ext.trans (by exact xx) hx1
 clear hx1
 obtain ⟨⟨cY0, cY1, cY2, cY3⟩, -⟩ := cells4 HBY1.out
 go_wp2_with fail
 refine (IsValidZOmega_yes y _ HY0.out).mono ?_
 rintro e w2 ⟨rfl, hx2⟩
 have HBX2 := Lib.hid (HBX1.out.ext hx2)
 have HBY2 := Lib.hid (HBY1.out.ext hx2)
 have HBR2 := Lib.hid (HBR1.out.ext hx2)
 have HE2 := Lib.hid (HE1.out.trans hx2)
 clear hx2
 clear cY0 cY1 cY2 cY3
 obtain ⟨⟨cX0, cX1, cX2, cX3⟩, -⟩ := cells4 HBX2.out
 obtain ⟨⟨cY0, cY1, cY2, cY3⟩, -⟩ := cells4 HBY2.out
 have hwa := wrap_of HS.out.1
 have hwb := wrap_of HS.out.2.1
 have hwc := wrap_of HS.out.2.2.1
 have hwd := wrap_of HS.out.2.2.2
 go_wp2_with fail
 refine (l2If_yes (zadd x y) _ HZ.out).mono ?_
 rintro e w3 ⟨rfl, hx3⟩
 have HBX3 := Lib.hid (HBX2.out.ext hx3)
 have HBY3 := Lib.hid (HBY2.out.ext hx3)
 have HBR3 := Lib.hid (HBR2.out.ext hx3)
 have HE3 := Lib.hid (HE2.out.trans hx3)
 clear hx3
 clear hwa hwb hwc hwd
 clear cX0 cX1 cX2 cX3
 clear cY0 cY1 cY2 cY3
 obtain ⟨⟨cR0, cR1, cR2, cR3⟩, fR0, fR1, fR2, fR3⟩ := cells4 HBR3.out
 go_wp2
 have HBB : Hid (Blk (put4 w3 (w.heap.size + 2) (.int .i64 (zadd x y).a) (.int .i64 (zadd x y).b) (.int .i64 (zadd x y).c) (.int .i64 (zadd x y).d)) (w.heap.size + 2) 89 #[.int .i64 (zadd x y).a, .int .i64 (zadd x y).b, .int .i64 (zadd x y).c, .int .i64 (zadd x y).d]) := HBR3.out.put4 _ _ _ _
 refine bodyPost_ret (v := .tuple #[.agg #[.int .i64 (zadd x y).a, .int .i64 (zadd x y).b, .int .i64 (zadd x y).c, .int .i64 (zadd x y).d], .bool true]) ?_ rfl ?_
 rotate_left
 ·exact ⟨rfl, ext_put4 (g := w.heap.size + 2) HE3.out (by omega) _ _ _ _⟩
 ·exact ret_pair rfl _ _ _ _ _ _ _ rfl rfl HBB.out Tryz.underlying89 rfl Tryz.sizeZOmega
set_option maxRecDepth 100000 in
set_option maxHeartbeats 8000000 in
theorem MulZOmega_yes (x y : Zw) (w : World) (hx : zok x = true) (hy : zok y = true) (h : zok (zmul x y) = true) : Calls Tryz.prog 100 #[x.val, y.val] w fun e w' => e = .returned (.tuple #[(zmul x y).val, .bool true]) ∧ Ext w w' := by
 have HX0 := Lib.hid hx
 have HY0 := Lib.hid hy
 have HZ := Lib.hid h
 have HN : Hid (((-1073741824 ≤ x.a ∧ x.a ≤ 1073741824) ∧ (-1073741824 ≤ x.b ∧ x.b ≤ 1073741824) ∧ (-1073741824 ≤ x.c ∧ x.c ≤ 1073741824) ∧ (-1073741824 ≤ x.d ∧ x.d ≤ 1073741824)) ∧ ((-1073741824 ≤ y.a ∧ y.a ≤ 1073741824) ∧ (-1073741824 ≤ y.b ∧ y.b ≤ 1073741824) ∧ (-1073741824 ≤ y.c ∧ y.c ≤ 1073741824) ∧ (-1073741824 ≤ y.d ∧ y.d ≤ 1073741824))) := ⟨zok_iff.1 hx, zok_iff.1 hy⟩
 clear hx hy h
 go_enter Tryz.func100, Tryz.ntmps100
 go_wp2_with fail
 refine (IsValidZOmega_yes x _ HX0.out).mono ?_
 rintro e w1 ⟨rfl, hx1⟩
 have HBX1 : Hid (Blk w1 (w.heap.size) 89 #[.int .i64 x.a, .int .i64 x.b, .int .i64 x.c, .int .i64 x.d]) := ((((Blk.newAt (b := w.heap.size) rfl).alloc _).alloc _)).ext hx1
 have HBY1 : Hid (Blk w1 (w.heap.size + 1) 89 #[.int .i64 y.a, .int .i64 y.b, .int .i64 y.c, .int .i64 y.d]) := (((Blk.newAt (b := w.heap.size + 1) (by simp)).alloc _)).ext hx1
 have HBR1 : Hid (Blk w1 (w.heap.size + 2) 89 #[.int .i64 0, .int .i64 0, .int .i64 0, .int .i64 0]) := ((Blk.newAt (b := w.heap.size + 2) (by simp))).ext hx1
 have HE1 : Hid (Ext w w1) := Ext.trans (by exact xx) hx1
 clear hx1
 obtain ⟨⟨cY0, cY1, cY2, cY3⟩, -⟩ := cells4 HBY1.out
 go_wp2_with fail
 refine (IsValidZOmega_yes y _ HY0.out).mono ?_
 rintro e w2 ⟨rfl, hx2⟩
 have HBX2 := Lib.hid (HBX1.out.ext hx2)
 have HBY2 := Lib.hid (HBY1.out.ext hx2)
 have HBR2 := Lib.hid (HBR1.out.ext hx2)
 have HE2 := Lib.hid (HE1.out.trans hx2)
 clear hx2
 clear cY0 cY1 cY2 cY3
 obtain ⟨⟨cX0, cX1, cX2, cX3⟩, -⟩ := cells4 HBX2.out
 obtain ⟨⟨cY0, cY1, cY2, cY3⟩, -⟩ := cells4 HBY2.out
 have hwaa : IntKind.i64.wrap (x.a * y.a) = x.a * y.a := IntWalk.i64_in _ (by have := prod_near HN.out.1.1 HN.out.2.1; omega)
 have hwbd : IntKind.i64.wrap (x.b * y.d) = x.b * y.d := IntWalk.i64_in _ (by have := prod_near HN.out.1.2.1 HN.out.2.2.2.2; omega)
 have hsa1 : IntKind.i64.wrap (x.a * y.a - x.b * y.d) = x.a * y.a - x.b * y.d := IntWalk.i64_in _ (by have h0 := prod_near HN.out.1.1 HN.out.2.1; have h1 := prod_near HN.out.1.2.1 HN.out.2.2.2.2; omega)
 have hwcc : IntKind.i64.wrap (x.c * y.c) = x.c * y.c := IntWalk.i64_in _ (by have := prod_near HN.out.1.2.2.1 HN.out.2.2.2.1; omega)
 have hsa2 : IntKind.i64.wrap (x.a * y.a - x.b * y.d - x.c * y.c) = x.a * y.a - x.b * y.d - x.c * y.c := IntWalk.i64_in _ (by have h0 := prod_near HN.out.1.1 HN.out.2.1; have h1 := prod_near HN.out.1.2.1 HN.out.2.2.2.2; have h2 := prod_near HN.out.1.2.2.1 HN.out.2.2.2.1; omega)
 have hwdb : IntKind.i64.wrap (x.d * y.b) = x.d * y.b := IntWalk.i64_in _ (by have := prod_near HN.out.1.2.2.2 HN.out.2.2.1; omega)
 have hsa3 : IntKind.i64.wrap (x.a * y.a - x.b * y.d - x.c * y.c - x.d * y.b) = x.a * y.a - x.b * y.d - x.c * y.c - x.d * y.b := IntWalk.i64_in _ (by have h0 := prod_near HN.out.1.1 HN.out.2.1; have h1 := prod_near HN.out.1.2.1 HN.out.2.2.2.2; have h2 := prod_near HN.out.1.2.2.1 HN.out.2.2.2.1; have h3 := prod_near HN.out.1.2.2.2 HN.out.2.2.1; omega)
 have hwab : IntKind.i64.wrap (x.a * y.b) = x.a * y.b := IntWalk.i64_in _ (by have := prod_near HN.out.1.1 HN.out.2.2.1; omega)
 have hwba : IntKind.i64.wrap (x.b * y.a) = x.b * y.a := IntWalk.i64_in _ (by have := prod_near HN.out.1.2.1 HN.out.2.1; omega)
 have hsb1 : IntKind.i64.wrap (x.a * y.b + x.b * y.a) = x.a * y.b + x.b * y.a := IntWalk.i64_in _ (by have h0 := prod_near HN.out.1.1 HN.out.2.2.1; have h1 := prod_near HN.out.1.2.1 HN.out.2.1; omega)
 have hwcd : IntKind.i64.wrap (x.c * y.d) = x.c * y.d := IntWalk.i64_in _ (by have := prod_near HN.out.1.2.2.1 HN.out.2.2.2.2; omega)
 have hsb2 : IntKind.i64.wrap (x.a * y.b + x.b * y.a - x.c * y.d) = x.a * y.b + x.b * y.a - x.c * y.d := IntWalk.i64_in _ (by have h0 := prod_near HN.out.1.1 HN.out.2.2.1; have h1 := prod_near HN.out.1.2.1 HN.out.2.1; have h2 := prod_near HN.out.1.2.2.1 HN.out.2.2.2.2; omega)
 have hwdc : IntKind.i64.wrap (x.d * y.c) = x.d * y.c := IntWalk.i64_in _ (by have := prod_near HN.out.1.2.2.2 HN.out.2.2.2.1; omega)
 have hsb3 : IntKind.i64.wrap (x.a * y.b + x.b * y.a - x.c * y.d - x.d * y.c) = x.a * y.b + x.b * y.a - x.c * y.d - x.d * y.c := IntWalk.i64_in _ (by have h0 := prod_near HN.out.1.1 HN.out.2.2.1; have h1 := prod_near HN.out.1.2.1 HN.out.2.1; have h2 := prod_near HN.out.1.2.2.1 HN.out.2.2.2.2; have h3 := prod_near HN.out.1.2.2.2 HN.out.2.2.2.1; omega)
 have hwac : IntKind.i64.wrap (x.a * y.c) = x.a * y.c := IntWalk.i64_in _ (by have := prod_near HN.out.1.1 HN.out.2.2.2.1; omega)
 have hwbb : IntKind.i64.wrap (x.b * y.b) = x.b * y.b := IntWalk.i64_in _ (by have := prod_near HN.out.1.2.1 HN.out.2.2.1; omega)
 have hsc1 : IntKind.i64.wrap (x.a * y.c + x.b * y.b) = x.a * y.c + x.b * y.b := IntWalk.i64_in _ (by have h0 := prod_near HN.out.1.1 HN.out.2.2.2.1; have h1 := prod_near HN.out.1.2.1 HN.out.2.2.1; omega)
 have hwca : IntKind.i64.wrap (x.c * y.a) = x.c * y.a := IntWalk.i64_in _ (by have := prod_near HN.out.1.2.2.1 HN.out.2.1; omega)
 have hsc2 : IntKind.i64.wrap (x.a * y.c + x.b * y.b + x.c * y.a) = x.a * y.c + x.b * y.b + x.c * y.a := IntWalk.i64_in _ (by have h0 := prod_near HN.out.1.1 HN.out.2.2.2.1; have h1 := prod_near HN.out.1.2.1 HN.out.2.2.1; have h2 := prod_near HN.out.1.2.2.1 HN.out.2.1; omega)
 have hwdd : IntKind.i64.wrap (x.d * y.d) = x.d * y.d := IntWalk.i64_in _ (by have := prod_near HN.out.1.2.2.2 HN.out.2.2.2.2; omega)
 have hsc3 : IntKind.i64.wrap (x.a * y.c + x.b * y.b + x.c * y.a - x.d * y.d) = x.a * y.c + x.b * y.b + x.c * y.a - x.d * y.d := IntWalk.i64_in _ (by have h0 := prod_near HN.out.1.1 HN.out.2.2.2.1; have h1 := prod_near HN.out.1.2.1 HN.out.2.2.1; have h2 := prod_near HN.out.1.2.2.1 HN.out.2.1; have h3 := prod_near HN.out.1.2.2.2 HN.out.2.2.2.2; omega)
 have hwad : IntKind.i64.wrap (x.a * y.d) = x.a * y.d := IntWalk.i64_in _ (by have := prod_near HN.out.1.1 HN.out.2.2.2.2; omega)
 have hwbc : IntKind.i64.wrap (x.b * y.c) = x.b * y.c := IntWalk.i64_in _ (by have := prod_near HN.out.1.2.1 HN.out.2.2.2.1; omega)
 have hsd1 : IntKind.i64.wrap (x.a * y.d + x.b * y.c) = x.a * y.d + x.b * y.c := IntWalk.i64_in _ (by have h0 := prod_near HN.out.1.1 HN.out.2.2.2.2; have h1 := prod_near HN.out.1.2.1 HN.out.2.2.2.1; omega)
 have hwcb : IntKind.i64.wrap (x.c * y.b) = x.c * y.b := IntWalk.i64_in _ (by have := prod_near HN.out.1.2.2.1 HN.out.2.2.1; omega)
 have hsd2 : IntKind.i64.wrap (x.a * y.d + x.b * y.c + x.c * y.b) = x.a * y.d + x.b * y.c + x.c * y.b := IntWalk.i64_in _ (by have h0 := prod_near HN.out.1.1 HN.out.2.2.2.2; have h1 := prod_near HN.out.1.2.1 HN.out.2.2.2.1; have h2 := prod_near HN.out.1.2.2.1 HN.out.2.2.1; omega)
 have hwda : IntKind.i64.wrap (x.d * y.a) = x.d * y.a := IntWalk.i64_in _ (by have := prod_near HN.out.1.2.2.2 HN.out.2.1; omega)
 have hsd3 : IntKind.i64.wrap (x.a * y.d + x.b * y.c + x.c * y.b + x.d * y.a) = x.a * y.d + x.b * y.c + x.c * y.b + x.d * y.a := IntWalk.i64_in _ (by have h0 := prod_near HN.out.1.1 HN.out.2.2.2.2; have h1 := prod_near HN.out.1.2.1 HN.out.2.2.2.1; have h2 := prod_near HN.out.1.2.2.1 HN.out.2.2.1; have h3 := prod_near HN.out.1.2.2.2 HN.out.2.1; omega)
 go_wp2_with fail
 refine (l2If_yes (zmul x y) _ HZ.out).mono ?_
 rintro e w3 ⟨rfl, hx3⟩
 have HBX3 := Lib.hid (HBX2.out.ext hx3)
 have HBY3 := Lib.hid (HBY2.out.ext hx3)
 have HBR3 := Lib.hid (HBR2.out.ext hx3)
 have HE3 := Lib.hid (HE2.out.trans hx3)
 clear hx3
 clear hwaa hwbd hsa1 hwcc hsa2 hwdb hsa3 hwab hwba hsb1 hwcd hsb2 hwdc hsb3 hwac hwbb hsc1 hwca hsc2 hwdd hsc3 hwad hwbc hsd1 hwcb hsd2 hwda hsd3
 clear cX0 cX1 cX2 cX3
 clear cY0 cY1 cY2 cY3
 obtain ⟨⟨cR0, cR1, cR2, cR3⟩, fR0, fR1, fR2, fR3⟩ := cells4 HBR3.out
 go_wp2
 have HBB : Hid (Blk (put4 w3 (w.heap.size + 2) (.int .i64 (zmul x y).a) (.int .i64 (zmul x y).b) (.int .i64 (zmul x y).c) (.int .i64 (zmul x y).d)) (w.heap.size + 2) 89 #[.int .i64 (zmul x y).a, .int .i64 (zmul x y).b, .int .i64 (zmul x y).c, .int .i64 (zmul x y).d]) := HBR3.out.put4 _ _ _ _
 refine bodyPost_ret (v := .tuple #[.agg #[.int .i64 (zmul x y).a, .int .i64 (zmul x y).b, .int .i64 (zmul x y).c, .int .i64 (zmul x y).d], .bool true]) ?_ rfl ?_
 rotate_left
 ·exact ⟨rfl, ext_put4 (g := w.heap.size + 2) HE3.out (by omega) _ _ _ _⟩
 ·exact ret_pair rfl _ _ _ _ _ _ _ rfl rfl HBB.out Tryz.underlying89 rfl Tryz.sizeZOmega
def zneg (x : Zw) : Zw := ⟨-x.a, -x.b, -x.c, -x.d⟩
set_option maxRecDepth 100000 in
set_option maxHeartbeats 8000000 in
theorem NegZOmega_yes (x : Zw) (w : World) (hx : zok x = true) : Calls Tryz.prog 108 #[x.val] w fun e w' => e = .returned (zneg x).val ∧ Ext w w' := by
 have HX0 := Lib.hid hx
 have HN := Lib.hid (zok_iff.1 hx)
 clear hx
 go_enter Tryz.func108, Tryz.ntmps108
 go_wp2_with fail
 refine (IsValidZOmega_yes x _ HX0.out).mono ?_
 rintro e w1 ⟨rfl, hx1⟩
 have HBX1 : Hid (Blk w1 (w.heap.size) 89 #[.int .i64 x.a, .int .i64 x.b, .int .i64 x.c, .int .i64 x.d]) := (((Blk.newAt (b := w.heap.size) rfl).alloc _)).ext hx1
 have HBR1 : Hid (Blk w1 (w.heap.size + 1) 89 #[.int .i64 0, .int .i64 0, .int .i64 0, .int .i64 0]) := ((Blk.newAt (b := w.heap.size + 1) (by simp))).ext hx1
 have HE1 : Hid (Ext w w1) := Ext.trans (by exact xx) hx1
 clear hx1
 obtain ⟨⟨cX0, cX1, cX2, cX3⟩, -⟩ := cells4 HBX1.out
 obtain ⟨⟨cR0, cR1, cR2, cR3⟩, fR0, fR1, fR2, fR3⟩ := cells4 HBR1.out
 have hwa : IntKind.i64.wrap (-x.a) = -x.a := IntWalk.i64_in _ (by have := HN.out; omega)
 have hwb : IntKind.i64.wrap (-x.b) = -x.b := IntWalk.i64_in _ (by have := HN.out; omega)
 have hwc : IntKind.i64.wrap (-x.c) = -x.c := IntWalk.i64_in _ (by have := HN.out; omega)
 have hwd : IntKind.i64.wrap (-x.d) = -x.d := IntWalk.i64_in _ (by have := HN.out; omega)
 go_wp2
 have HBB : Hid (Blk (put4 w1 (w.heap.size + 1) (.int .i64 (zneg x).a) (.int .i64 (zneg x).b) (.int .i64 (zneg x).c) (.int .i64 (zneg x).d)) (w.heap.size + 1) 89 #[.int .i64 (zneg x).a, .int .i64 (zneg x).b, .int .i64 (zneg x).c, .int .i64 (zneg x).d]) := HBR1.out.put4 _ _ _ _
 refine bodyPost_ret (v := .agg #[.int .i64 (zneg x).a, .int .i64 (zneg x).b, .int .i64 (zneg x).c, .int .i64 (zneg x).d]) ?_ rfl ?_
 rotate_left
 ·exact ⟨rfl, ext_put4 (g := w.heap.size + 1) HE1.out (by omega) _ _ _ _⟩
 ·exact retZ rfl HBB.out _ (by kernel_rfl) rfl
end Go.Proofs.YtdjckjfclhjpcaaGreat
