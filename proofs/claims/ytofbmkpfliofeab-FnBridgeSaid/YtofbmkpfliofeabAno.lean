/-
  Helper text (no claim of its own): sums and products of amplitudes, by the reference. Printed by gen_am.py or gen_an.py.
-/
import Derived.Test.YtofbmkpfliofeabAnu
import Derived.Test.YtofbmkpfliofeabAnv
import Derived.Test.YtofbmkpfliofeabAnw
import Derived.Test.YtofbmkpfliofeabDrawD
namespace Go.Proofs.Ytofbmkpfliofeab
open Go.ChangeShapes Go.WideShapes Go.ChangeAt Go.RowKit Go.Deep
set_option linter.unusedVariables false
set_option linter.unusedSimpArgs false
set_option maxRecDepth 100000 in
set_option maxHeartbeats 8000000 in
theorem AddDOmega_yes {K : Nat} (x y : Dw) (w : World) (hx : dok x = true) (hy : dok y = true) (hxK : x.e.toNat ≤ K) (hyK : y.e.toNat ≤ K) (hK : K ≤ 60) (nx : near 1073741824 (lift K x)) (ny : near 1073741824 (lift K y)) (ns : near 1073741824 (zadd (lift K x) (lift K y))) :
    Calls Try.prog 77 #[x.val, y.val] w fun e w' => e = .returned (.tuple #[(addD x y).1.val, .bool true]) ∧ Ext w w' := by
  obtain ⟨x1, x2, x3, x4⟩ := dok_iff.1 hx
  obtain ⟨y1, y2, y3, y4⟩ := dok_iff.1 hy
  obtain ⟨m, hm⟩ : ∃ m : Nat, mx x.e y.e = m := ⟨(mx x.e y.e).toNat, by unfold mx; split <;> omega⟩
  have hmx : x.e ≤ m ∧ y.e ≤ m ∧ (m : Int) ≤ K := by rw [← hm]; unfold mx; split <;> omega
  have hm2 : (if y.e < x.e then x.e else y.e) = m := by rw [← hm]; unfold mx; split <;> split <;> omega
  obtain ⟨i, hi⟩ : ∃ i : Nat, ((m : Int) - x.e) = i := ⟨((m : Int) - x.e).toNat, by omega⟩
  obtain ⟨j, hj⟩ : ∃ j : Nat, ((m : Int) - y.e) = j := ⟨((m : Int) - y.e).toNat, by omega⟩
  have ex : lift K x = up (K - m) (up i x.n) := by unfold lift; rw [← up_more]; congr 1; omega
  have ey : lift K y = up (K - m) (up j y.n) := by unfold lift; rw [← up_more]; congr 1; omega
  rw [ex] at nx ns
  rw [ey] at ny ns
  rw [← up_add] at ns
  have ax := near_of_up _ nx
  have ay := near_of_up _ ny
  have an := near_of_up _ ns
  have hadd : addD x y = (⟨(nwL m (zadd (up i x.n) (up j y.n))).1, (nwL m (zadd (up i x.n) (up j y.n))).2⟩, true) := by
    rw [addD_y hx hy, hm, hi, hj]
    unfold addK
    rw [Int.toNat_natCast, Int.toNat_natCast, zup_up _ ax, zup_up _ ay]
    have e : zAdd (up i x.n) (up j y.n) = (zadd (up i x.n) (up j y.n), true) := by
      rw [zAdd_y (zok_near.2 ax) (zok_near.2 ay), zif_y (zok_near.2 an)]
    simp only [e, Bool.and_self, if_true]
    rw [newD_y (zok_near.2 an) (by omega) (by omega) (by rw [Int.toNat_natCast]; have := (nwL_is m (zok_near.2 an)).1; omega), Int.toNat_natCast]
  obtain ⟨z, hz⟩ : ∃ z, (addD x y).1 = z := ⟨_, rfl⟩
  have HNW : Hid (∀ w', Calls Try.prog 88 #[(zadd (up i x.n) (up j y.n)).val, .int .i64 m] w' fun e w'' => e = .returned (.tuple #[z.val, .bool true]) ∧ Ext w' w'') := fun w' => by
    rw [← hz, hadd]
    exact NewDOmega_yes _ m w' (zok_near.2 an) (by omega) (by have := (nwL_is m (zok_near.2 an)).1; omega)
  have HUA : Hid (∀ w', Calls Try.prog 90 #[x.n.val, .int .i64 i] w' fun e w'' => e = .returned (.tuple #[(up i x.n).val, .bool true]) ∧ Ext w' w'') := fun w' => l3Up_yes _ i w' (by omega) ax
  have HUB : Hid (∀ w', Calls Try.prog 90 #[y.n.val, .int .i64 j] w' fun e w'' => e = .returned (.tuple #[(up j y.n).val, .bool true]) ∧ Ext w' w'') := fun w' => l3Up_yes _ j w' (by omega) ay
  have HUS : Hid (∀ w', Calls Try.prog 91 #[(up i x.n).val, (up j y.n).val] w' fun e w'' => e = .returned (.tuple #[(zadd (up i x.n) (up j y.n)).val, .bool true]) ∧ Ext w' w'') := fun w' => AddZOmega_yes _ _ w' (zok_near.2 ax) (zok_near.2 ay) (zok_near.2 an)
  have HMAX : Hid (∀ w', Calls Try.prog 89 #[.int .i64 x.e, .int .i64 y.e] w' fun e w'' => e = .returned (.int .i64 m) ∧ w' = w'') := fun w' => by rw [← hm2]; exact l1Max_any _ _ w'
  obtain ⟨s, hs⟩ : ∃ s, zadd (up i x.n) (up j y.n) = s := ⟨_, rfl⟩
  rw [hs] at HNW HUS
  obtain ⟨a, ha⟩ : ∃ a, up i x.n = a := ⟨_, rfl⟩
  obtain ⟨b, hb⟩ : ∃ b, up j y.n = b := ⟨_, rfl⟩
  rw [ha] at HUA HUS
  rw [hb] at HUB HUS
  have HZ := Lib.hid hz
  have hwx : IntKind.i64.wrap ((m : Int) - x.e) = (i : Int) := by rw [IntWalk.i64_in _ (by omega), hi]
  have hwy : IntKind.i64.wrap ((m : Int) - y.e) = (j : Int) := by rw [IntWalk.i64_in _ (by omega), hj]
  have HX0 := Lib.hid hx
  have HY0 := Lib.hid hy
  clear hx hy hz hadd ax ay an nx ny ns ex ey hi hj hm hm2 hmx x1 x2 x3 x4 y1 y2 y3 y4 hs ha hb hxK hyK hK
  go_enter Try.func77, Try.ntmps77
  go_wp2_with fail
  refine (IsValidDOmega_yes x _ HX0.out).mono ?_
  rintro e w1 ⟨rfl, hx1⟩
  have HBX1 : Hid (Blk w1 (w.heap.size) 83 #[.int .i64 x.n.a, .int .i64 x.n.b, .int .i64 x.n.c, .int .i64 x.n.d, .int .i64 x.e]) := ((((Blk.newAt (b := w.heap.size) rfl).alloc _).alloc _)).ext hx1
  have HBY1 : Hid (Blk w1 (w.heap.size + 1) 83 #[.int .i64 y.n.a, .int .i64 y.n.b, .int .i64 y.n.c, .int .i64 y.n.d, .int .i64 y.e]) := (((Blk.newAt (b := w.heap.size + 1) (by simp)).alloc _)).ext hx1
  have HBR1 : Hid (Blk w1 (w.heap.size + 2) 83 #[.int .i64 0, .int .i64 0, .int .i64 0, .int .i64 0, .int .i64 0]) := ((Blk.newAt (b := w.heap.size + 2) (by simp))).ext hx1
  have HE1 : Hid (Ext w w1) := Ext.trans (by repeat (first | exact Ext.refl _ | assumption | refine Ext.alloc ?_ _ | refine Ext.drewN ?_ _ | refine Ext.drew ?_)) hx1
  clear hx1
  obtain ⟨⟨cY0, cY1, cY2, cY3, cY4⟩, -⟩ := cells5 HBY1.out
  go_wp2_with fail
  refine (IsValidDOmega_yes y _ HY0.out).mono ?_
  rintro e w2 ⟨rfl, hx2⟩
  have HBX2 := Lib.hid (HBX1.out.ext hx2)
  have HBY2 := Lib.hid (HBY1.out.ext hx2)
  have HBR2 := Lib.hid (HBR1.out.ext hx2)
  have HE2 := Lib.hid (HE1.out.trans hx2)
  clear hx2
  clear cY0 cY1 cY2 cY3 cY4
  obtain ⟨⟨cX0, cX1, cX2, cX3, cX4⟩, -⟩ := cells5 HBX2.out
  obtain ⟨⟨cY0, cY1, cY2, cY3, cY4⟩, -⟩ := cells5 HBY2.out
  go_wp2_with fail
  refine (HMAX.out _).mono ?_
  rintro e w' ⟨rfl, rfl⟩
  go_wp2_with fail
  refine (HUA.out _).mono ?_
  rintro e w3 ⟨rfl, hx3⟩
  have HBX3 := Lib.hid (HBX2.out.ext hx3)
  have HBY3 := Lib.hid (HBY2.out.ext hx3)
  have HBR3 := Lib.hid (HBR2.out.ext hx3)
  have HE3 := Lib.hid (HE2.out.trans hx3)
  clear hx3
  clear cX0 cX1 cX2 cX3 cX4
  clear cY0 cY1 cY2 cY3 cY4
  go_upto_region 5 with (fail)
  have HBX4 : Hid (Blk (w3.alloc (.cells #[.int .i64 a.a, .int .i64 a.b, .int .i64 a.c, .int .i64 a.d] 81)) (w.heap.size) 83 #[.int .i64 x.n.a, .int .i64 x.n.b, .int .i64 x.n.c, .int .i64 x.n.d, .int .i64 x.e]) := HBX3.out.alloc _
  have HBY4 : Hid (Blk (w3.alloc (.cells #[.int .i64 a.a, .int .i64 a.b, .int .i64 a.c, .int .i64 a.d] 81)) (w.heap.size + 1) 83 #[.int .i64 y.n.a, .int .i64 y.n.b, .int .i64 y.n.c, .int .i64 y.n.d, .int .i64 y.e]) := HBY3.out.alloc _
  have HBR4 : Hid (Blk (w3.alloc (.cells #[.int .i64 a.a, .int .i64 a.b, .int .i64 a.c, .int .i64 a.d] 81)) (w.heap.size + 2) 83 #[.int .i64 0, .int .i64 0, .int .i64 0, .int .i64 0, .int .i64 0]) := HBR3.out.alloc _
  have HBA4 : Hid (Blk (w3.alloc (.cells #[.int .i64 a.a, .int .i64 a.b, .int .i64 a.c, .int .i64 a.d] 81)) w3.heap.size 81 #[.int .i64 a.a, .int .i64 a.b, .int .i64 a.c, .int .i64 a.d]) := Blk.new _ _ _
  have HE4 : Hid (Ext w (w3.alloc (.cells #[.int .i64 a.a, .int .i64 a.b, .int .i64 a.c, .int .i64 a.d] 81))) := HE3.out.alloc _
  have hs4 : w.heap.size + 3 ≤ w3.heap.size := by have := (HBR3).out.lt; omega
  obtain ⟨bA, hbA⟩ : ∃ b, b = w3.heap.size := ⟨_, rfl⟩
  rw [← hbA] at HBA4 hs4 ⊢
  generalize w3.alloc (.cells #[.int .i64 a.a, .int .i64 a.b, .int .i64 a.c, .int .i64 a.d] 81) = w4 at *
  clear hbA
  obtain ⟨⟨cY0, cY1, cY2, cY3, cY4⟩, -⟩ := cells5 HBY4.out
  go_wp2_with fail
  refine (HUB.out _).mono ?_
  rintro e w5 ⟨rfl, hx5⟩
  have HBX5 := Lib.hid (HBX4.out.ext hx5)
  have HBY5 := Lib.hid (HBY4.out.ext hx5)
  have HBR5 := Lib.hid (HBR4.out.ext hx5)
  have HBA5 := Lib.hid (HBA4.out.ext hx5)
  have HE5 := Lib.hid (HE4.out.trans hx5)
  clear hx5
  clear cY0 cY1 cY2 cY3 cY4
  go_upto_region 6 with (fail)
  have HBX6 : Hid (Blk (w5.alloc (.cells #[.int .i64 b.a, .int .i64 b.b, .int .i64 b.c, .int .i64 b.d] 81)) (w.heap.size) 83 #[.int .i64 x.n.a, .int .i64 x.n.b, .int .i64 x.n.c, .int .i64 x.n.d, .int .i64 x.e]) := HBX5.out.alloc _
  have HBY6 : Hid (Blk (w5.alloc (.cells #[.int .i64 b.a, .int .i64 b.b, .int .i64 b.c, .int .i64 b.d] 81)) (w.heap.size + 1) 83 #[.int .i64 y.n.a, .int .i64 y.n.b, .int .i64 y.n.c, .int .i64 y.n.d, .int .i64 y.e]) := HBY5.out.alloc _
  have HBR6 : Hid (Blk (w5.alloc (.cells #[.int .i64 b.a, .int .i64 b.b, .int .i64 b.c, .int .i64 b.d] 81)) (w.heap.size + 2) 83 #[.int .i64 0, .int .i64 0, .int .i64 0, .int .i64 0, .int .i64 0]) := HBR5.out.alloc _
  have HBA6 : Hid (Blk (w5.alloc (.cells #[.int .i64 b.a, .int .i64 b.b, .int .i64 b.c, .int .i64 b.d] 81)) (bA) 81 #[.int .i64 a.a, .int .i64 a.b, .int .i64 a.c, .int .i64 a.d]) := HBA5.out.alloc _
  have HBB6 : Hid (Blk (w5.alloc (.cells #[.int .i64 b.a, .int .i64 b.b, .int .i64 b.c, .int .i64 b.d] 81)) w5.heap.size 81 #[.int .i64 b.a, .int .i64 b.b, .int .i64 b.c, .int .i64 b.d]) := Blk.new _ _ _
  have HE6 : Hid (Ext w (w5.alloc (.cells #[.int .i64 b.a, .int .i64 b.b, .int .i64 b.c, .int .i64 b.d] 81))) := HE5.out.alloc _
  have hs6 : w.heap.size + 3 ≤ w5.heap.size := by have := (HBR5).out.lt; omega
  obtain ⟨bB, hbB⟩ : ∃ b, b = w5.heap.size := ⟨_, rfl⟩
  rw [← hbB] at HBB6 hs6 ⊢
  generalize w5.alloc (.cells #[.int .i64 b.a, .int .i64 b.b, .int .i64 b.c, .int .i64 b.d] 81) = w6 at *
  clear hbB
  obtain ⟨⟨cA0, cA1, cA2, cA3⟩, -⟩ := cells4 HBA6.out
  obtain ⟨⟨cB0, cB1, cB2, cB3⟩, -⟩ := cells4 HBB6.out
  go_wp2_with fail
  refine (HUS.out _).mono ?_
  rintro e w7 ⟨rfl, hx7⟩
  have HBX7 := Lib.hid (HBX6.out.ext hx7)
  have HBY7 := Lib.hid (HBY6.out.ext hx7)
  have HBR7 := Lib.hid (HBR6.out.ext hx7)
  have HBA7 := Lib.hid (HBA6.out.ext hx7)
  have HBB7 := Lib.hid (HBB6.out.ext hx7)
  have HE7 := Lib.hid (HE6.out.trans hx7)
  clear hx7
  clear cA0 cA1 cA2 cA3
  clear cB0 cB1 cB2 cB3
  go_upto_region 7 with (fail)
  have HBX8 : Hid (Blk (w7.alloc (.cells #[.int .i64 s.a, .int .i64 s.b, .int .i64 s.c, .int .i64 s.d] 81)) (w.heap.size) 83 #[.int .i64 x.n.a, .int .i64 x.n.b, .int .i64 x.n.c, .int .i64 x.n.d, .int .i64 x.e]) := HBX7.out.alloc _
  have HBY8 : Hid (Blk (w7.alloc (.cells #[.int .i64 s.a, .int .i64 s.b, .int .i64 s.c, .int .i64 s.d] 81)) (w.heap.size + 1) 83 #[.int .i64 y.n.a, .int .i64 y.n.b, .int .i64 y.n.c, .int .i64 y.n.d, .int .i64 y.e]) := HBY7.out.alloc _
  have HBR8 : Hid (Blk (w7.alloc (.cells #[.int .i64 s.a, .int .i64 s.b, .int .i64 s.c, .int .i64 s.d] 81)) (w.heap.size + 2) 83 #[.int .i64 0, .int .i64 0, .int .i64 0, .int .i64 0, .int .i64 0]) := HBR7.out.alloc _
  have HBA8 : Hid (Blk (w7.alloc (.cells #[.int .i64 s.a, .int .i64 s.b, .int .i64 s.c, .int .i64 s.d] 81)) (bA) 81 #[.int .i64 a.a, .int .i64 a.b, .int .i64 a.c, .int .i64 a.d]) := HBA7.out.alloc _
  have HBB8 : Hid (Blk (w7.alloc (.cells #[.int .i64 s.a, .int .i64 s.b, .int .i64 s.c, .int .i64 s.d] 81)) (bB) 81 #[.int .i64 b.a, .int .i64 b.b, .int .i64 b.c, .int .i64 b.d]) := HBB7.out.alloc _
  have HBS8 : Hid (Blk (w7.alloc (.cells #[.int .i64 s.a, .int .i64 s.b, .int .i64 s.c, .int .i64 s.d] 81)) w7.heap.size 81 #[.int .i64 s.a, .int .i64 s.b, .int .i64 s.c, .int .i64 s.d]) := Blk.new _ _ _
  have HE8 : Hid (Ext w (w7.alloc (.cells #[.int .i64 s.a, .int .i64 s.b, .int .i64 s.c, .int .i64 s.d] 81))) := HE7.out.alloc _
  have hs8 : w.heap.size + 3 ≤ w7.heap.size := by have := (HBR7).out.lt; omega
  obtain ⟨bS, hbS⟩ : ∃ b, b = w7.heap.size := ⟨_, rfl⟩
  rw [← hbS] at HBS8 hs8 ⊢
  generalize w7.alloc (.cells #[.int .i64 s.a, .int .i64 s.b, .int .i64 s.c, .int .i64 s.d] 81) = w8 at *
  clear hbS
  obtain ⟨⟨cS0, cS1, cS2, cS3⟩, -⟩ := cells4 HBS8.out
  go_wp2_with fail
  refine (HNW.out _).mono ?_
  rintro e w9 ⟨rfl, hx9⟩
  have HBX9 := Lib.hid (HBX8.out.ext hx9)
  have HBY9 := Lib.hid (HBY8.out.ext hx9)
  have HBR9 := Lib.hid (HBR8.out.ext hx9)
  have HBA9 := Lib.hid (HBA8.out.ext hx9)
  have HBB9 := Lib.hid (HBB8.out.ext hx9)
  have HBS9 := Lib.hid (HBS8.out.ext hx9)
  have HE9 := Lib.hid (HE8.out.trans hx9)
  clear hx9
  clear cS0 cS1 cS2 cS3
  obtain ⟨⟨cR0, cR1, cR2, cR3, cR4⟩, fR0, fR1, fR2, fR3, fR4⟩ := cells5 HBR9.out
  go_wp2
  have HBB : Hid (Blk (put5 w9 (w.heap.size + 2) (.int .i64 z.n.a) (.int .i64 z.n.b) (.int .i64 z.n.c) (.int .i64 z.n.d) (.int .i64 z.e)) (w.heap.size + 2) 83 #[.int .i64 z.n.a, .int .i64 z.n.b, .int .i64 z.n.c, .int .i64 z.n.d, .int .i64 z.e]) := HBR9.out.put5 _ _ _ _ _
  refine bodyPost_ret (v := .tuple #[.agg #[.int .i64 z.n.a, .int .i64 z.n.b, .int .i64 z.n.c, .int .i64 z.n.d, .int .i64 z.e], .bool true]) ?_ rfl ?_
  rotate_left
  · exact ⟨by rw [HZ.out], ext_put5 (g := w.heap.size + 2) HE9.out (by omega) _ _ _ _ _⟩
  · exact ret_pair rfl _ _ _ _ _ _ _ rfl rfl HBB.out Try.underlying83 rfl Try.sizeDOmega
set_option maxRecDepth 100000 in
set_option maxHeartbeats 8000000 in
theorem MulDOmega_yes (x y : Dw) (w : World) (hx : dok x = true) (hy : dok y = true) (hz : zok (zmul x.n y.n) = true) (he : x.e + y.e ≤ 60) :
    Calls Try.prog 76 #[x.val, y.val] w fun e w' => e = .returned (.tuple #[(mulD x y).1.val, .bool true]) ∧ Ext w w' := by
  obtain ⟨x1, x2, x3, x4⟩ := dok_iff.1 hx
  obtain ⟨y1, y2, y3, y4⟩ := dok_iff.1 hy
  obtain ⟨k, hk⟩ : ∃ k : Nat, x.e + y.e = k := ⟨(x.e + y.e).toNat, by omega⟩
  have hmul : mulD x y = (⟨(nwL k (zmul x.n y.n)).1, (nwL k (zmul x.n y.n)).2⟩, true) := by
    have hm : zMul x.n y.n = (zmul x.n y.n, true) := by rw [zMul_y x1 y1]; exact zif_y hz
    rw [mulD_y hx hy (by rw [hm]), hm, hk]
    rw [newD_y hz (by omega) (by omega) (by rw [Int.toNat_natCast]; have := (nwL_is k hz).1; omega), Int.toNat_natCast]
  obtain ⟨z, hzz⟩ : ∃ z, (mulD x y).1 = z := ⟨_, rfl⟩
  have HNW : Hid (∀ w', Calls Try.prog 88 #[(zmul x.n y.n).val, .int .i64 k] w' fun e w'' => e = .returned (.tuple #[z.val, .bool true]) ∧ Ext w' w'') := fun w' => by
    rw [← hzz, hmul]
    exact NewDOmega_yes _ k w' hz (by omega) (by have := (nwL_is k hz).1; omega)
  have HMZ : Hid (∀ w', Calls Try.prog 87 #[x.n.val, y.n.val] w' fun e w'' => e = .returned (.tuple #[(zmul x.n y.n).val, .bool true]) ∧ Ext w' w'') := fun w' => MulZOmega_yes _ _ w' x1 y1 hz
  obtain ⟨p, hp⟩ : ∃ p, zmul x.n y.n = p := ⟨_, rfl⟩
  rw [hp] at HNW HMZ
  have HZ := Lib.hid hzz
  have hwk : IntKind.i64.wrap (x.e + y.e) = (k : Int) := by rw [IntWalk.i64_in _ (by omega), hk]
  have HX0 := Lib.hid hx
  have HY0 := Lib.hid hy
  clear hx hy hz he hmul hzz hp hk x1 x2 x3 x4 y1 y2 y3 y4
  go_enter Try.func76, Try.ntmps76
  go_wp2_with fail
  refine (HMZ.out _).mono ?_
  rintro e w1 ⟨rfl, hx1⟩
  have HBX1 : Hid (Blk w1 (w.heap.size) 83 #[.int .i64 x.n.a, .int .i64 x.n.b, .int .i64 x.n.c, .int .i64 x.n.d, .int .i64 x.e]) := ((((Blk.newAt (b := w.heap.size) rfl).alloc _).alloc _)).ext hx1
  have HBY1 : Hid (Blk w1 (w.heap.size + 1) 83 #[.int .i64 y.n.a, .int .i64 y.n.b, .int .i64 y.n.c, .int .i64 y.n.d, .int .i64 y.e]) := (((Blk.newAt (b := w.heap.size + 1) (by simp)).alloc _)).ext hx1
  have HBR1 : Hid (Blk w1 (w.heap.size + 2) 83 #[.int .i64 0, .int .i64 0, .int .i64 0, .int .i64 0, .int .i64 0]) := ((Blk.newAt (b := w.heap.size + 2) (by simp))).ext hx1
  have HE1 : Hid (Ext w w1) := Ext.trans (by repeat (first | exact Ext.refl _ | assumption | refine Ext.alloc ?_ _ | refine Ext.drewN ?_ _ | refine Ext.drew ?_)) hx1
  clear hx1
  go_upto_region 2 with (fail)
  have HBX2 : Hid (Blk (w1.alloc (.cells #[.int .i64 p.a, .int .i64 p.b, .int .i64 p.c, .int .i64 p.d] 81)) (w.heap.size) 83 #[.int .i64 x.n.a, .int .i64 x.n.b, .int .i64 x.n.c, .int .i64 x.n.d, .int .i64 x.e]) := HBX1.out.alloc _
  have HBY2 : Hid (Blk (w1.alloc (.cells #[.int .i64 p.a, .int .i64 p.b, .int .i64 p.c, .int .i64 p.d] 81)) (w.heap.size + 1) 83 #[.int .i64 y.n.a, .int .i64 y.n.b, .int .i64 y.n.c, .int .i64 y.n.d, .int .i64 y.e]) := HBY1.out.alloc _
  have HBR2 : Hid (Blk (w1.alloc (.cells #[.int .i64 p.a, .int .i64 p.b, .int .i64 p.c, .int .i64 p.d] 81)) (w.heap.size + 2) 83 #[.int .i64 0, .int .i64 0, .int .i64 0, .int .i64 0, .int .i64 0]) := HBR1.out.alloc _
  have HBP2 : Hid (Blk (w1.alloc (.cells #[.int .i64 p.a, .int .i64 p.b, .int .i64 p.c, .int .i64 p.d] 81)) w1.heap.size 81 #[.int .i64 p.a, .int .i64 p.b, .int .i64 p.c, .int .i64 p.d]) := Blk.new _ _ _
  have HE2 : Hid (Ext w (w1.alloc (.cells #[.int .i64 p.a, .int .i64 p.b, .int .i64 p.c, .int .i64 p.d] 81))) := HE1.out.alloc _
  have hs2 : w.heap.size + 3 ≤ w1.heap.size := by have := (HBR1).out.lt; omega
  obtain ⟨bP, hbP⟩ : ∃ b, b = w1.heap.size := ⟨_, rfl⟩
  rw [← hbP] at HBP2 hs2 ⊢
  generalize w1.alloc (.cells #[.int .i64 p.a, .int .i64 p.b, .int .i64 p.c, .int .i64 p.d] 81) = w2 at *
  clear hbP
  obtain ⟨⟨cX0, cX1, cX2, cX3, cX4⟩, -⟩ := cells5 HBX2.out
  go_wp2_with fail
  refine (IsValidDOmega_yes x _ HX0.out).mono ?_
  rintro e w3 ⟨rfl, hx3⟩
  have HBX3 := Lib.hid (HBX2.out.ext hx3)
  have HBY3 := Lib.hid (HBY2.out.ext hx3)
  have HBR3 := Lib.hid (HBR2.out.ext hx3)
  have HBP3 := Lib.hid (HBP2.out.ext hx3)
  have HE3 := Lib.hid (HE2.out.trans hx3)
  clear hx3
  clear cX0 cX1 cX2 cX3 cX4
  obtain ⟨⟨cY0, cY1, cY2, cY3, cY4⟩, -⟩ := cells5 HBY3.out
  go_wp2_with fail
  refine (IsValidDOmega_yes y _ HY0.out).mono ?_
  rintro e w4 ⟨rfl, hx4⟩
  have HBX4 := Lib.hid (HBX3.out.ext hx4)
  have HBY4 := Lib.hid (HBY3.out.ext hx4)
  have HBR4 := Lib.hid (HBR3.out.ext hx4)
  have HBP4 := Lib.hid (HBP3.out.ext hx4)
  have HE4 := Lib.hid (HE3.out.trans hx4)
  clear hx4
  clear cY0 cY1 cY2 cY3 cY4
  obtain ⟨⟨cX0, cX1, cX2, cX3, cX4⟩, -⟩ := cells5 HBX4.out
  obtain ⟨⟨cY0, cY1, cY2, cY3, cY4⟩, -⟩ := cells5 HBY4.out
  obtain ⟨⟨cP0, cP1, cP2, cP3⟩, -⟩ := cells4 HBP4.out
  go_wp2_with fail
  refine (HNW.out _).mono ?_
  rintro e w5 ⟨rfl, hx5⟩
  have HBX5 := Lib.hid (HBX4.out.ext hx5)
  have HBY5 := Lib.hid (HBY4.out.ext hx5)
  have HBR5 := Lib.hid (HBR4.out.ext hx5)
  have HBP5 := Lib.hid (HBP4.out.ext hx5)
  have HE5 := Lib.hid (HE4.out.trans hx5)
  clear hx5
  clear cX0 cX1 cX2 cX3 cX4
  clear cY0 cY1 cY2 cY3 cY4
  clear cP0 cP1 cP2 cP3
  obtain ⟨⟨cR0, cR1, cR2, cR3, cR4⟩, fR0, fR1, fR2, fR3, fR4⟩ := cells5 HBR5.out
  go_wp2
  have HBB : Hid (Blk (put5 w5 (w.heap.size + 2) (.int .i64 z.n.a) (.int .i64 z.n.b) (.int .i64 z.n.c) (.int .i64 z.n.d) (.int .i64 z.e)) (w.heap.size + 2) 83 #[.int .i64 z.n.a, .int .i64 z.n.b, .int .i64 z.n.c, .int .i64 z.n.d, .int .i64 z.e]) := HBR5.out.put5 _ _ _ _ _
  refine bodyPost_ret (v := .tuple #[.agg #[.int .i64 z.n.a, .int .i64 z.n.b, .int .i64 z.n.c, .int .i64 z.n.d, .int .i64 z.e], .bool true]) ?_ rfl ?_
  rotate_left
  · exact ⟨by rw [HZ.out], ext_put5 (g := w.heap.size + 2) HE5.out (by omega) _ _ _ _ _⟩
  · exact ret_pair rfl _ _ _ _ _ _ _ rfl rfl HBB.out Try.underlying83 rfl Try.sizeDOmega
end Go.Proofs.Ytofbmkpfliofeab
