/-
 Helper text (no claim of its own): division by the root of 2, by the reference. Printed by gen_am.py or gen_an.py.
-/
import Derived.Test.YtdjckjfclhjpcaaGreatAm
import Derived.Test.YtdjckjfclhjpcaaGreatLif
namespace Go.Proofs.YtdjckjfclhjpcaaGreat
open Go.ChangeShapes Go.WideShapes Go.ChangeAt Go.RowKit Go.Deep
set_option linter.unusedVariables false
set_option linter.unusedSimpArgs false
theorem tmod_bd (n : Int) : -1 ≤ n.tmod 2 ∧ n.tmod 2 ≤ 1 := by
 have h1 := Int.tmod_lt_of_pos n (show (0 : Int) < 2 by decide)
 have h2 := Int.lt_tmod_of_pos n (show (0 : Int) < 2 by decide)
 omega
theorem zDiv_is_n {x : Zw} (h : ev (x.b - x.d) = false ∨ ev (x.a + x.c) = false) : zDiv x = (z0, false) := by
 refine zDiv_n (Or.inr ?_)
 unfold zev zrt
 rcases h with h | h <;> simp [h]
theorem ev_c {b d : Int} (h : (b - d).tmod 2 = 0) : (b + d).tmod 2 = 0 := by
 have h1 := Int.mul_tdiv_add_tmod (b - d) 2
 have : b + d = 2 * ((b - d).tdiv 2 + d) := by omega
 rw [this]; exact Int.mul_tmod_right _ _
theorem ev_d {a c : Int} (h : (a + c).tmod 2 = 0) : (c - a).tmod 2 = 0 := by
 have h1 := Int.mul_tdiv_add_tmod (a + c) 2
 have : c - a = 2 * ((a + c).tdiv 2 - a) := by omega
 rw [this]; exact Int.mul_tmod_right _ _
theorem zDiv_is_y {x : Zw} (h : zok x = true) (ha : (x.b - x.d).tmod 2 = 0) (hb : (x.a + x.c).tmod 2 = 0) : zDiv x = (zhalf (zrt x), true) := by
 refine zDiv_y h ?_
 unfold zev zrt ev
 simp [ha, hb, ev_c ha, ev_d hb]
set_option maxRecDepth 100000 in
set_option maxHeartbeats 8000000 in
theorem DivSqrt2_any (x : Zw) (w : World) (hx : zok x = true) : Calls Tryz.prog 106 #[x.val] w fun e w' => e = .returned (.tuple #[(zDiv x).1.val, .bool (zDiv x).2]) ∧ Ext w w' := by
 have HX0 := Lib.hid hx
 have HN := Lib.hid (zok_iff.1 hx)
 by_cases hA : (x.b - x.d).tmod 2 = 0
 ·by_cases hB : (x.a + x.c).tmod 2 = 0
  ·have HD := Lib.hid (zDiv_is_y hx hA hB)
   clear hx
   go_enter Tryz.func106, Tryz.ntmps106
   go_wp2_with fail
   refine (IsValidZOmega_yes x _ HX0.out).mono ?_
   rintro e w1 ⟨rfl, hx1⟩
   have HBX1 : Hid (Blk w1 (w.heap.size) 89 #[.int .i64 x.a, .int .i64 x.b, .int .i64 x.c, .int .i64 x.d]) := (((Blk.newAt (b := w.heap.size) rfl).alloc _)).ext hx1
   have HBR1 : Hid (Blk w1 (w.heap.size + 1) 89 #[.int .i64 0, .int .i64 0, .int .i64 0, .int .i64 0]) := ((Blk.newAt (b := w.heap.size + 1) (by simp))).ext hx1
   have HE1 : Hid (Ext w w1) := Ext.trans (by exact xx) hx1
   clear hx1
   obtain ⟨⟨cX0, cX1, cX2, cX3⟩, -⟩ := cells4 HBX1.out
   have hw0 : IntKind.i64.wrap (x.b - x.d) = (x.b - x.d) := IntWalk.i64_in _ (by have := HN.out; omega)
   have hw1 : IntKind.i64.wrap (x.a + x.c) = (x.a + x.c) := IntWalk.i64_in _ (by have := HN.out; omega)
   have hw2 : IntKind.i64.wrap (x.b + x.d) = (x.b + x.d) := IntWalk.i64_in _ (by have := HN.out; omega)
   have hw3 : IntKind.i64.wrap (x.c - x.a) = (x.c - x.a) := IntWalk.i64_in _ (by have := HN.out; omega)
   go_upto_region 4 with (fail)
   have HBX2 : Hid (Blk (w1.alloc (.cells #[.int .i64 (x.b - x.d), .int .i64 (x.a + x.c), .int .i64 (x.b + x.d), .int .i64 (x.c - x.a)] 89)) (w.heap.size) 89 #[.int .i64 x.a, .int .i64 x.b, .int .i64 x.c, .int .i64 x.d]) := HBX1.out.alloc _
   have HBR2 : Hid (Blk (w1.alloc (.cells #[.int .i64 (x.b - x.d), .int .i64 (x.a + x.c), .int .i64 (x.b + x.d), .int .i64 (x.c - x.a)] 89)) (w.heap.size + 1) 89 #[.int .i64 0, .int .i64 0, .int .i64 0, .int .i64 0]) := HBR1.out.alloc _
   have HBY2 : Hid (Blk (w1.alloc (.cells #[.int .i64 (x.b - x.d), .int .i64 (x.a + x.c), .int .i64 (x.b + x.d), .int .i64 (x.c - x.a)] 89)) w1.heap.size 89 #[.int .i64 (x.b - x.d), .int .i64 (x.a + x.c), .int .i64 (x.b + x.d), .int .i64 (x.c - x.a)]) := Blk.new _ _ _
   have HE2 : Hid (Ext w (w1.alloc (.cells #[.int .i64 (x.b - x.d), .int .i64 (x.a + x.c), .int .i64 (x.b + x.d), .int .i64 (x.c - x.a)] 89))) := HE1.out.alloc _
   have hs2 : w.heap.size + 2 ≤ w1.heap.size := by have := (HBR1).out.lt; omega
   obtain ⟨bY, hbY⟩ : ∃ b, b = w1.heap.size := ⟨_, rfl⟩
   rw [← hbY] at HBY2 hs2 ⊢
   generalize w1.alloc (.cells #[.int .i64 (x.b - x.d), .int .i64 (x.a + x.c), .int .i64 (x.b + x.d), .int .i64 (x.c - x.a)] 89) = w2 at *
   clear hbY
   clear cX0 cX1 cX2 cX3
   clear hw0 hw1 hw2 hw3
   obtain ⟨⟨cY0, cY1, cY2, cY3⟩, -⟩ := cells4 HBY2.out
   have hr0 : IntKind.i64.wrap ((x.b - x.d).tmod 2) = (x.b - x.d).tmod 2 := IntWalk.i64_in _ (by have := tmod_bd (x.b - x.d); omega)
   have hr1 : IntKind.i64.wrap ((x.a + x.c).tmod 2) = (x.a + x.c).tmod 2 := IntWalk.i64_in _ (by have := tmod_bd (x.a + x.c); omega)
   have hr2 : IntKind.i64.wrap ((x.b + x.d).tmod 2) = (x.b + x.d).tmod 2 := IntWalk.i64_in _ (by have := tmod_bd (x.b + x.d); omega)
   have hr3 : IntKind.i64.wrap ((x.c - x.a).tmod 2) = (x.c - x.a).tmod 2 := IntWalk.i64_in _ (by have := tmod_bd (x.c - x.a); omega)
   have hC := ev_c hA
   have hD := ev_d hB
   have hq0 : IntKind.i64.wrap ((x.b - x.d).tdiv 2) = (x.b - x.d).tdiv 2 := IntWalk.i64_in _ (by have := HN.out; have := Int.mul_tdiv_add_tmod (x.b - x.d) 2; omega)
   have hq1 : IntKind.i64.wrap ((x.a + x.c).tdiv 2) = (x.a + x.c).tdiv 2 := IntWalk.i64_in _ (by have := HN.out; have := Int.mul_tdiv_add_tmod (x.a + x.c) 2; omega)
   have hq2 : IntKind.i64.wrap ((x.b + x.d).tdiv 2) = (x.b + x.d).tdiv 2 := IntWalk.i64_in _ (by have := HN.out; have := Int.mul_tdiv_add_tmod (x.b + x.d) 2; omega)
   have hq3 : IntKind.i64.wrap ((x.c - x.a).tdiv 2) = (x.c - x.a).tdiv 2 := IntWalk.i64_in _ (by have := HN.out; have := Int.mul_tdiv_add_tmod (x.c - x.a) 2; omega)
   obtain ⟨⟨cR0, cR1, cR2, cR3⟩, fR0, fR1, fR2, fR3⟩ := cells4 HBR2.out
   go_wp2
   have HBB : Hid (Blk (put4 w2 (w.heap.size + 1) (.int .i64 ((x.b - x.d).tdiv 2)) (.int .i64 ((x.a + x.c).tdiv 2)) (.int .i64 ((x.b + x.d).tdiv 2)) (.int .i64 ((x.c - x.a).tdiv 2))) (w.heap.size + 1) 89 #[.int .i64 ((x.b - x.d).tdiv 2), .int .i64 ((x.a + x.c).tdiv 2), .int .i64 ((x.b + x.d).tdiv 2), .int .i64 ((x.c - x.a).tdiv 2)]) := HBR2.out.put4 _ _ _ _
   refine bodyPost_ret (v := .tuple #[.agg #[.int .i64 ((x.b - x.d).tdiv 2), .int .i64 ((x.a + x.c).tdiv 2), .int .i64 ((x.b + x.d).tdiv 2), .int .i64 ((x.c - x.a).tdiv 2)], .bool true]) ?_ rfl ?_
   rotate_left
   ·exact ⟨by rw [HD.out]; rfl, ext_put4 (g := w.heap.size + 1) HE2.out (by omega) _ _ _ _⟩
   ·exact ret_pair rfl _ _ _ _ _ _ _ rfl rfl HBB.out Tryz.underlying89 rfl Tryz.sizeZOmega
  ·have HD := Lib.hid (zDiv_is_n (x := x) (Or.inr (by unfold ev; rw [beq_eq_false_iff_ne]; exact hB)))
   clear hx
   go_enter Tryz.func106, Tryz.ntmps106
   go_wp2_with fail
   refine (IsValidZOmega_yes x _ HX0.out).mono ?_
   rintro e w1 ⟨rfl, hx1⟩
   have HBX1 : Hid (Blk w1 (w.heap.size) 89 #[.int .i64 x.a, .int .i64 x.b, .int .i64 x.c, .int .i64 x.d]) := (((Blk.newAt (b := w.heap.size) rfl).alloc _)).ext hx1
   have HBR1 : Hid (Blk w1 (w.heap.size + 1) 89 #[.int .i64 0, .int .i64 0, .int .i64 0, .int .i64 0]) := ((Blk.newAt (b := w.heap.size + 1) (by simp))).ext hx1
   have HE1 : Hid (Ext w w1) := Ext.trans (by exact xx) hx1
   clear hx1
   obtain ⟨⟨cX0, cX1, cX2, cX3⟩, -⟩ := cells4 HBX1.out
   have hw0 : IntKind.i64.wrap (x.b - x.d) = (x.b - x.d) := IntWalk.i64_in _ (by have := HN.out; omega)
   have hw1 : IntKind.i64.wrap (x.a + x.c) = (x.a + x.c) := IntWalk.i64_in _ (by have := HN.out; omega)
   have hw2 : IntKind.i64.wrap (x.b + x.d) = (x.b + x.d) := IntWalk.i64_in _ (by have := HN.out; omega)
   have hw3 : IntKind.i64.wrap (x.c - x.a) = (x.c - x.a) := IntWalk.i64_in _ (by have := HN.out; omega)
   go_upto_region 4 with (fail)
   have HBX2 : Hid (Blk (w1.alloc (.cells #[.int .i64 (x.b - x.d), .int .i64 (x.a + x.c), .int .i64 (x.b + x.d), .int .i64 (x.c - x.a)] 89)) (w.heap.size) 89 #[.int .i64 x.a, .int .i64 x.b, .int .i64 x.c, .int .i64 x.d]) := HBX1.out.alloc _
   have HBR2 : Hid (Blk (w1.alloc (.cells #[.int .i64 (x.b - x.d), .int .i64 (x.a + x.c), .int .i64 (x.b + x.d), .int .i64 (x.c - x.a)] 89)) (w.heap.size + 1) 89 #[.int .i64 0, .int .i64 0, .int .i64 0, .int .i64 0]) := HBR1.out.alloc _
   have HBY2 : Hid (Blk (w1.alloc (.cells #[.int .i64 (x.b - x.d), .int .i64 (x.a + x.c), .int .i64 (x.b + x.d), .int .i64 (x.c - x.a)] 89)) w1.heap.size 89 #[.int .i64 (x.b - x.d), .int .i64 (x.a + x.c), .int .i64 (x.b + x.d), .int .i64 (x.c - x.a)]) := Blk.new _ _ _
   have HE2 : Hid (Ext w (w1.alloc (.cells #[.int .i64 (x.b - x.d), .int .i64 (x.a + x.c), .int .i64 (x.b + x.d), .int .i64 (x.c - x.a)] 89))) := HE1.out.alloc _
   have hs2 : w.heap.size + 2 ≤ w1.heap.size := by have := (HBR1).out.lt; omega
   obtain ⟨bY, hbY⟩ : ∃ b, b = w1.heap.size := ⟨_, rfl⟩
   rw [← hbY] at HBY2 hs2 ⊢
   generalize w1.alloc (.cells #[.int .i64 (x.b - x.d), .int .i64 (x.a + x.c), .int .i64 (x.b + x.d), .int .i64 (x.c - x.a)] 89) = w2 at *
   clear hbY
   clear cX0 cX1 cX2 cX3
   clear hw0 hw1 hw2 hw3
   obtain ⟨⟨cY0, cY1, cY2, cY3⟩, -⟩ := cells4 HBY2.out
   have hr0 : IntKind.i64.wrap ((x.b - x.d).tmod 2) = (x.b - x.d).tmod 2 := IntWalk.i64_in _ (by have := tmod_bd (x.b - x.d); omega)
   have hr1 : IntKind.i64.wrap ((x.a + x.c).tmod 2) = (x.a + x.c).tmod 2 := IntWalk.i64_in _ (by have := tmod_bd (x.a + x.c); omega)
   have hr2 : IntKind.i64.wrap ((x.b + x.d).tmod 2) = (x.b + x.d).tmod 2 := IntWalk.i64_in _ (by have := tmod_bd (x.b + x.d); omega)
   have hr3 : IntKind.i64.wrap ((x.c - x.a).tmod 2) = (x.c - x.a).tmod 2 := IntWalk.i64_in _ (by have := tmod_bd (x.c - x.a); omega)
   have hB2 : ((x.a + x.c).tmod 2 != 0) = true := bne_iff_ne.2 hB
   obtain ⟨⟨cR0, cR1, cR2, cR3⟩, fR0, fR1, fR2, fR3⟩ := cells4 HBR2.out
   go_wp2
   have HBB : Hid (Blk (put4 w2 (w.heap.size + 1) (.int .i64 0) (.int .i64 0) (.int .i64 0) (.int .i64 0)) (w.heap.size + 1) 89 #[.int .i64 0, .int .i64 0, .int .i64 0, .int .i64 0]) := HBR2.out.put4 _ _ _ _
   refine bodyPost_ret (v := .tuple #[.agg #[.int .i64 0, .int .i64 0, .int .i64 0, .int .i64 0], .bool false]) ?_ rfl ?_
   rotate_left
   ·exact ⟨by rw [HD.out]; rfl, ext_put4 (g := w.heap.size + 1) HE2.out (by omega) _ _ _ _⟩
   ·exact ret_pair rfl _ _ _ _ _ _ _ rfl rfl HBB.out Tryz.underlying89 rfl Tryz.sizeZOmega
 ·have HD := Lib.hid (zDiv_is_n (x := x) (Or.inl (by unfold ev; rw [beq_eq_false_iff_ne]; exact hA)))
  clear hx
  go_enter Tryz.func106, Tryz.ntmps106
  go_wp2_with fail
  refine (IsValidZOmega_yes x _ HX0.out).mono ?_
  rintro e w1 ⟨rfl, hx1⟩
  have HBX1 : Hid (Blk w1 (w.heap.size) 89 #[.int .i64 x.a, .int .i64 x.b, .int .i64 x.c, .int .i64 x.d]) := (((Blk.newAt (b := w.heap.size) rfl).alloc _)).ext hx1
  have HBR1 : Hid (Blk w1 (w.heap.size + 1) 89 #[.int .i64 0, .int .i64 0, .int .i64 0, .int .i64 0]) := ((Blk.newAt (b := w.heap.size + 1) (by simp))).ext hx1
  have HE1 : Hid (Ext w w1) := Ext.trans (by exact xx) hx1
  clear hx1
  obtain ⟨⟨cX0, cX1, cX2, cX3⟩, -⟩ := cells4 HBX1.out
  have hw0 : IntKind.i64.wrap (x.b - x.d) = (x.b - x.d) := IntWalk.i64_in _ (by have := HN.out; omega)
  have hw1 : IntKind.i64.wrap (x.a + x.c) = (x.a + x.c) := IntWalk.i64_in _ (by have := HN.out; omega)
  have hw2 : IntKind.i64.wrap (x.b + x.d) = (x.b + x.d) := IntWalk.i64_in _ (by have := HN.out; omega)
  have hw3 : IntKind.i64.wrap (x.c - x.a) = (x.c - x.a) := IntWalk.i64_in _ (by have := HN.out; omega)
  go_upto_region 4 with (fail)
  have HBX2 : Hid (Blk (w1.alloc (.cells #[.int .i64 (x.b - x.d), .int .i64 (x.a + x.c), .int .i64 (x.b + x.d), .int .i64 (x.c - x.a)] 89)) (w.heap.size) 89 #[.int .i64 x.a, .int .i64 x.b, .int .i64 x.c, .int .i64 x.d]) := HBX1.out.alloc _
  have HBR2 : Hid (Blk (w1.alloc (.cells #[.int .i64 (x.b - x.d), .int .i64 (x.a + x.c), .int .i64 (x.b + x.d), .int .i64 (x.c - x.a)] 89)) (w.heap.size + 1) 89 #[.int .i64 0, .int .i64 0, .int .i64 0, .int .i64 0]) := HBR1.out.alloc _
  have HBY2 : Hid (Blk (w1.alloc (.cells #[.int .i64 (x.b - x.d), .int .i64 (x.a + x.c), .int .i64 (x.b + x.d), .int .i64 (x.c - x.a)] 89)) w1.heap.size 89 #[.int .i64 (x.b - x.d), .int .i64 (x.a + x.c), .int .i64 (x.b + x.d), .int .i64 (x.c - x.a)]) := Blk.new _ _ _
  have HE2 : Hid (Ext w (w1.alloc (.cells #[.int .i64 (x.b - x.d), .int .i64 (x.a + x.c), .int .i64 (x.b + x.d), .int .i64 (x.c - x.a)] 89))) := HE1.out.alloc _
  have hs2 : w.heap.size + 2 ≤ w1.heap.size := by have := (HBR1).out.lt; omega
  obtain ⟨bY, hbY⟩ : ∃ b, b = w1.heap.size := ⟨_, rfl⟩
  rw [← hbY] at HBY2 hs2 ⊢
  generalize w1.alloc (.cells #[.int .i64 (x.b - x.d), .int .i64 (x.a + x.c), .int .i64 (x.b + x.d), .int .i64 (x.c - x.a)] 89) = w2 at *
  clear hbY
  clear cX0 cX1 cX2 cX3
  clear hw0 hw1 hw2 hw3
  obtain ⟨⟨cY0, cY1, cY2, cY3⟩, -⟩ := cells4 HBY2.out
  have hr0 : IntKind.i64.wrap ((x.b - x.d).tmod 2) = (x.b - x.d).tmod 2 := IntWalk.i64_in _ (by have := tmod_bd (x.b - x.d); omega)
  have hr1 : IntKind.i64.wrap ((x.a + x.c).tmod 2) = (x.a + x.c).tmod 2 := IntWalk.i64_in _ (by have := tmod_bd (x.a + x.c); omega)
  have hr2 : IntKind.i64.wrap ((x.b + x.d).tmod 2) = (x.b + x.d).tmod 2 := IntWalk.i64_in _ (by have := tmod_bd (x.b + x.d); omega)
  have hr3 : IntKind.i64.wrap ((x.c - x.a).tmod 2) = (x.c - x.a).tmod 2 := IntWalk.i64_in _ (by have := tmod_bd (x.c - x.a); omega)
  have hA1 := hA
  have hA2 : ((x.b - x.d).tmod 2 != 0) = true := bne_iff_ne.2 hA
  obtain ⟨⟨cR0, cR1, cR2, cR3⟩, fR0, fR1, fR2, fR3⟩ := cells4 HBR2.out
  go_wp2
  have HBB : Hid (Blk (put4 w2 (w.heap.size + 1) (.int .i64 0) (.int .i64 0) (.int .i64 0) (.int .i64 0)) (w.heap.size + 1) 89 #[.int .i64 0, .int .i64 0, .int .i64 0, .int .i64 0]) := HBR2.out.put4 _ _ _ _
  refine bodyPost_ret (v := .tuple #[.agg #[.int .i64 0, .int .i64 0, .int .i64 0, .int .i64 0], .bool false]) ?_ rfl ?_
  rotate_left
  ·exact ⟨by rw [HD.out]; rfl, ext_put4 (g := w.heap.size + 1) HE2.out (by omega) _ _ _ _⟩
  ·exact ret_pair rfl _ _ _ _ _ _ _ rfl rfl HBB.out Tryz.underlying89 rfl Tryz.sizeZOmega
end Go.Proofs.YtdjckjfclhjpcaaGreat
