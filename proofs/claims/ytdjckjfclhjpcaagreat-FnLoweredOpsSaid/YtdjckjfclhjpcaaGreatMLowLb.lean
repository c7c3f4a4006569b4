/-
 Helper text (no claim of its own): what a gate other than H makes of a state. Printed by gen_alf.py.
-/
import Derived.Test.YtdjckjfclhjpcaaGreatMLowLa
import Derived.Test.YtdjckjfclhjpcaaGreatDrawD
import Derived.Test.YtdjckjfclhjpcaaGreatLif
/-
 Helper text (no claim of its own): sums and products of amplitudes, by the reference. Printed by gen_am.py or gen_an.py.
-/
namespace Go.Proofs.YtdjckjfclhjpcaaGreat
open Go.ChangeShapes Go.WideShapes Go.ChangeAt Go.RowKit Go.Deep
set_option linter.unusedVariables false
set_option linter.unusedSimpArgs false
set_option maxRecDepth 100000 in
set_option maxHeartbeats 8000000 in
theorem AddDOmega_yes {K : Nat} (x y : Dw) (w : World) (hx : dok x = true) (hy : dok y = true) (hxK : x.e.toNat ≤ K) (hyK : y.e.toNat ≤ K) (hK : K ≤ 60) (nx : near 1073741824 (lift K x)) (ny : near 1073741824 (lift K y)) (ns : near 1073741824 (zadd (lift K x) (lift K y))) :
  Calls Tryz.prog 86 #[x.val, y.val] w fun e w' => e = .returned (.tuple #[(addD x y).1.val, .bool true]) ∧ Ext w w' := by
 obtain ⟨x1, x2, x3, x4⟩ := dok_iff.1 hx
 obtain ⟨y1, y2, y3, y4⟩ := dok_iff.1 hy
 obtain ⟨m, hm⟩ : ∃ m : Nat, mx x.e y.e = m := ⟨(mx x.e y.e).toNat, by unfold mx; split <;> omega⟩
 have hmx : x.e ≤ m ∧ y.e ≤ m ∧ (m : Int) ≤ K := by rw [← hm]; unfold mx; split <;> omega
 have hm2 : (if y.e < x.e then x.e else y.e) = m := by rw [← hm]; unfold mx; split <;> split <;> omega
 obtain ⟨i, hi⟩ : ∃ i : Nat, ((m : Int) - x.e) = i := ⟨((m : Int) - x.e).toNat, by omega⟩
 obtain ⟨j, hj⟩ : ∃ j : Nat, ((m : Int) - y.e) = j := ⟨((m : Int) - y.e).toNat, by omega⟩
 have ex : lift K x = up (K - m) (up i x.n) := by unfold lift; rw [← up_more]; congr 1; omega
 have ey : lift K y = up (K - m) (up j y.n) := by unfold lift; rw [← up_more]; congr 1; omega
 rw [ex] at nx ns
 rw [ey] at ny ns
 rw [← up_add] at ns
 have ax := near_of_up _ nx
 have ay := near_of_up _ ny
 have an := near_of_up _ ns
 have hadd : addD x y = (⟨(nwL m (zadd (up i x.n) (up j y.n))).1, (nwL m (zadd (up i x.n) (up j y.n))).2⟩, true) := by
  rw [addD_y hx hy, hm, hi, hj]
  unfold addK
  rw [Int.toNat_natCast, Int.toNat_natCast, zup_up _ ax, zup_up _ ay]
  have e : zAdd (up i x.n) (up j y.n) = (zadd (up i x.n) (up j y.n), true) := by
   rw [zAdd_y (zok_near.2 ax) (zok_near.2 ay), zif_y (zok_near.2 an)]
  simp only [e, Bool.and_self, if_true]
  rw [newD_y (zok_near.2 an) (by omega) (by omega) (by rw [Int.toNat_natCast]; have := (nwL_is m (zok_near.2 an)).1; omega), Int.toNat_natCast]
 obtain ⟨z, hz⟩ : ∃ z, (addD x y).1 = z := ⟨_, rfl⟩
 have HNW : Hid (∀ w', Calls Tryz.prog 101 #[(zadd (up i x.n) (up j y.n)).val, .int .i64 m] w' fun e w'' => e = .returned (.tuple #[z.val, .bool true]) ∧ Ext w' w'') := fun w' => by
  rw [← hz, hadd]
  exact NewDOmega_yes _ m w' (zok_near.2 an) (by omega) (by have := (nwL_is m (zok_near.2 an)).1; omega)
 have HUA : Hid (∀ w', Calls Tryz.prog 102 #[x.n.val, .int .i64 i] w' fun e w'' => e = .returned (.tuple #[(up i x.n).val, .bool true]) ∧ Ext w' w'') := fun w' => l3Up_yes _ i w' (by omega) ax
 have HUB : Hid (∀ w', Calls Tryz.prog 102 #[y.n.val, .int .i64 j] w' fun e w'' => e = .returned (.tuple #[(up j y.n).val, .bool true]) ∧ Ext w' w'') := fun w' => l3Up_yes _ j w' (by omega) ay
 have HUS : Hid (∀ w', Calls Tryz.prog 103 #[(up i x.n).val, (up j y.n).val] w' fun e w'' => e = .returned (.tuple #[(zadd (up i x.n) (up j y.n)).val, .bool true]) ∧ Ext w' w'') := fun w' => AddZOmega_yes _ _ w' (zok_near.2 ax) (zok_near.2 ay) (zok_near.2 an)
 have HMAX : Hid (∀ w', Calls Tryz.prog 71 #[.int .i64 x.e, .int .i64 y.e] w' fun e w'' => e = .returned (.int .i64 m) ∧ w' = w'') := fun w' => by rw [← hm2]; exact l1Max_any _ _ w'
 obtain ⟨s, hs⟩ : ∃ s, zadd (up i x.n) (up j y.n) = s := ⟨_, rfl⟩
 rw [hs] at HNW HUS
 obtain ⟨a, ha⟩ : ∃ a, up i x.n = a := ⟨_, rfl⟩
 obtain ⟨b, hb⟩ : ∃ b, up j y.n = b := ⟨_, rfl⟩
 rw [ha] at HUA HUS
 rw [hb] at HUB HUS
 have HZ := Lib.hid hz
 have hwx : IntKind.i64.wrap ((m : Int) - x.e) = (i : Int) := by rw [IntWalk.i64_in _ (by omega), hi]
 have hwy : IntKind.i64.wrap ((m : Int) - y.e) = (j : Int) := by rw [IntWalk.i64_in _ (by omega), hj]
 have HX0 := Lib.hid hx
 have HY0 := Lib.hid hy
 clear hx hy hz hadd ax ay an nx ny ns ex ey hi hj hm hm2 hmx x1 x2 x3 x4 y1 y2 y3 y4 hs ha hb hxK hyK hK
 go_enter Tryz.func86, Tryz.ntmps86
 go_wp2_with fail
 refine (IsValidDOmega_yes x _ HX0.out).mono ?_
 rintro e w1 ⟨rfl, hx1⟩
 have HBX1 : Hid (Blk w1 (w.heap.size) 91 #[.int .i64 x.n.a, .int .i64 x.n.b, .int .i64 x.n.c, .int .i64 x.n.d, .int .i64 x.e]) := ((((Blk.newAt (b := w.heap.size) rfl).alloc _).alloc _)).ext hx1
 have HBY1 : Hid (Blk w1 (w.heap.size + 1) 91 #[.int .i64 y.n.a, .int .i64 y.n.b, .int .i64 y.n.c, .int .i64 y.n.d, .int .i64 y.e]) := (((Blk.newAt (b := w.heap.size + 1) (by simp)).alloc _)).ext hx1
 have HBR1 : Hid (Blk w1 (w.heap.size + 2) 91 #[.int .i64 0, .int .i64 0, .int .i64 0, .int .i64 0, .int .i64 0]) := ((Blk.newAt (b := w.heap.size + 2) (by simp))).ext hx1
 have HE1 : Hid (Ext w w1) := Ext.trans (by exact xx) hx1
 clear hx1
 obtain ⟨⟨cY0, cY1, cY2, cY3, cY4⟩, -⟩ := cells5 HBY1.out
 go_wp2_with fail
 refine (IsValidDOmega_yes y _ HY0.out).mono ?_
 rintro e w2 ⟨rfl, hx2⟩
 have HBX2 := Lib.hid (HBX1.out.ext hx2)
 have HBY2 := Lib.hid (HBY1.out.ext hx2)
 have HBR2 := Lib.hid (HBR1.out.ext hx2)
 have HE2 := Lib.hid (HE1.out.trans hx2)
 clear hx2
 clear cY0 cY1 cY2 cY3 cY4
 obtain ⟨⟨cX0, cX1, cX2, cX3, cX4⟩, -⟩ := cells5 HBX2.out
 obtain ⟨⟨cY0, cY1, cY2, cY3, cY4⟩, -⟩ := cells5 HBY2.out
 go_wp2_with fail
 refine (HMAX.out _).mono ?_
 rintro e w' ⟨rfl, rfl⟩
 go_wp2_with fail
 refine (HUA.out _).mono ?_
 rintro e w3 ⟨rfl, hx3⟩
 have HBX3 := Lib.hid (HBX2.out.ext hx3)
 have HBY3 := Lib.hid (HBY2.out.ext hx3)
 have HBR3 := Lib.hid (HBR2.out.ext hx3)
 have HE3 := Lib.hid (HE2.out.trans hx3)
 clear hx3
 clear cX0 cX1 cX2 cX3 cX4
 clear cY0 cY1 cY2 cY3 cY4
 go_upto_region 5 with (fail)
 have HBX4 : Hid (Blk (w3.alloc (.cells #[.int .i64 a.a, .int .i64 a.b, .int .i64 a.c, .int .i64 a.d] 89)) (w.heap.size) 91 #[.int .i64 x.n.a, .int .i64 x.n.b, .int .i64 x.n.c, .int .i64 x.n.d, .int .i64 x.e]) := HBX3.out.alloc _
 have HBY4 : Hid (Blk (w3.alloc (.cells #[.int .i64 a.a, .int .i64 a.b, .int .i64 a.c, .int .i64 a.d] 89)) (w.heap.size + 1) 91 #[.int .i64 y.n.a, .int .i64 y.n.b, .int .i64 y.n.c, .int .i64 y.n.d, .int .i64 y.e]) := HBY3.out.alloc _
 have HBR4 : Hid (Blk (w3.alloc (.cells #[.int .i64 a.a, .int .i64 a.b, .int .i64 a.c, .int .i64 a.d] 89)) (w.heap.size + 2) 91 #[.int .i64 0, .int .i64 0, .int .i64 0, .int .i64 0, .int .i64 0]) := HBR3.out.alloc _
 have HBA4 : Hid (Blk (w3.alloc (.cells #[.int .i64 a.a, .int .i64 a.b, .int .i64 a.c, .int .i64 a.d] 89)) w3.heap.size 89 #[.int .i64 a.a, .int .i64 a.b, .int .i64 a.c, .int .i64 a.d]) := Blk.new _ _ _
 have HE4 : Hid (Ext w (w3.alloc (.cells #[.int .i64 a.a, .int .i64 a.b, .int .i64 a.c, .int .i64 a.d] 89))) := HE3.out.alloc _
 have hs4 : w.heap.size + 3 ≤ w3.heap.size := by have := (HBR3).out.lt; omega
 obtain ⟨bA, hbA⟩ : ∃ b, b = w3.heap.size := ⟨_, rfl⟩
 rw [← hbA] at HBA4 hs4 ⊢
 generalize w3.alloc (.cells #[.int .i64 a.a, .int .i64 a.b, .int .i64 a.c, .int .i64 a.d] 89) = w4 at *
 clear hbA
 obtain ⟨⟨cY0, cY1, cY2, cY3, cY4⟩, -⟩ := cells5 HBY4.out
 go_wp2_with fail
 refine (HUB.out _).mono ?_
 rintro e w5 ⟨rfl, hx5⟩
 have HBX5 := Lib.hid (HBX4.out.ext hx5)
 have HBY5 := Lib.hid (HBY4.out.ext hx5)
 have HBR5 := Lib.hid (HBR4.out.ext hx5)
 have HBA5 := Lib.hid (HBA4.out.ext hx5)
 have HE5 := Lib.hid (HE4.out.trans hx5)
 clear hx5
 clear cY0 cY1 cY2 cY3 cY4
 go_upto_region 6 with (fail)
 have HBX6 : Hid (Blk (w5.alloc (.cells #[.int .i64 b.a, .int .i64 b.b, .int .i64 b.c, .int .i64 b.d] 89)) (w.heap.size) 91 #[.int .i64 x.n.a, .int .i64 x.n.b, .int .i64 x.n.c, .int .i64 x.n.d, .int .i64 x.e]) := HBX5.out.alloc _
 have HBY6 : Hid (Blk (w5.alloc (.cells #[.int .i64 b.a, .int .i64 b.b, .int .i64 b.c, .int .i64 b.d] 89)) (w.heap.size + 1) 91 #[.int .i64 y.n.a, .int .i64 y.n.b, .int .i64 y.n.c, .int .i64 y.n.d, .int .i64 y.e]) := HBY5.out.alloc _
 have HBR6 : Hid (Blk (w5.alloc (.cells #[.int .i64 b.a, .int .i64 b.b, .int .i64 b.c, .int .i64 b.d] 89)) (w.heap.size + 2) 91 #[.int .i64 0, .int .i64 0, .int .i64 0, .int .i64 0, .int .i64 0]) := HBR5.out.alloc _
 have HBA6 : Hid (Blk (w5.alloc (.cells #[.int .i64 b.a, .int .i64 b.b, .int .i64 b.c, .int .i64 b.d] 89)) (bA) 89 #[.int .i64 a.a, .int .i64 a.b, .int .i64 a.c, .int .i64 a.d]) := HBA5.out.alloc _
 have HBB6 : Hid (Blk (w5.alloc (.cells #[.int .i64 b.a, .int .i64 b.b, .int .i64 b.c, .int .i64 b.d] 89)) w5.heap.size 89 #[.int .i64 b.a, .int .i64 b.b, .int .i64 b.c, .int .i64 b.d]) := Blk.new _ _ _
 have HE6 : Hid (Ext w (w5.alloc (.cells #[.int .i64 b.a, .int .i64 b.b, .int .i64 b.c, .int .i64 b.d] 89))) := HE5.out.alloc _
 have hs6 : w.heap.size + 3 ≤ w5.heap.size := by have := (HBR5).out.lt; omega
 obtain ⟨bB, hbB⟩ : ∃ b, b = w5.heap.size := ⟨_, rfl⟩
 rw [← hbB] at HBB6 hs6 ⊢
 generalize w5.alloc (.cells #[.int .i64 b.a, .int .i64 b.b, .int .i64 b.c, .int .i64 b.d] 89) = w6 at *
 clear hbB
 obtain ⟨⟨cA0, cA1, cA2, cA3⟩, -⟩ := cells4 HBA6.out
 obtain ⟨⟨cB0, cB1, cB2, cB3⟩, -⟩ := cells4 HBB6.out
 go_wp2_with fail
 refine (HUS.out _).mono ?_
 rintro e w7 ⟨rfl, hx7⟩
 have HBX7 := Lib.hid (HBX6.out.ext hx7)
 have HBY7 := Lib.hid (HBY6.out.ext hx7)
 have HBR7 := Lib.hid (HBR6.out.ext hx7)
 have HBA7 := Lib.hid (HBA6.out.ext hx7)
 have HBB7 := Lib.hid (HBB6.out.ext hx7)
 have HE7 := Lib.hid (HE6.out.trans hx7)
 clear hx7
 clear cA0 cA1 cA2 cA3
 clear cB0 cB1 cB2 cB3
 go_upto_region 7 with (fail)
 have HBX8 : Hid (Blk (w7.alloc (.cells #[.int .i64 s.a, .int .i64 s.b, .int .i64 s.c, .int .i64 s.d] 89)) (w.heap.size) 91 #[.int .i64 x.n.a, .int .i64 x.n.b, .int .i64 x.n.c, .int .i64 x.n.d, .int .i64 x.e]) := HBX7.out.alloc _
 have HBY8 : Hid (Blk (w7.alloc (.cells #[.int .i64 s.a, .int .i64 s.b, .int .i64 s.c, .int .i64 s.d] 89)) (w.heap.size + 1) 91 #[.int .i64 y.n.a, .int .i64 y.n.b, .int .i64 y.n.c, .int .i64 y.n.d, .int .i64 y.e]) := HBY7.out.alloc _
 have HBR8 : Hid (Blk (w7.alloc (.cells #[.int .i64 s.a, .int .i64 s.b, .int .i64 s.c, .int .i64 s.d] 89)) (w.heap.size + 2) 91 #[.int .i64 0, .int .i64 0, .int .i64 0, .int .i64 0, .int .i64 0]) := HBR7.out.alloc _
 have HBA8 : Hid (Blk (w7.alloc (.cells #[.int .i64 s.a, .int .i64 s.b, .int .i64 s.c, .int .i64 s.d] 89)) (bA) 89 #[.int .i64 a.a, .int .i64 a.b, .int .i64 a.c, .int .i64 a.d]) := HBA7.out.alloc _
 have HBB8 : Hid (Blk (w7.alloc (.cells #[.int .i64 s.a, .int .i64 s.b, .int .i64 s.c, .int .i64 s.d] 89)) (bB) 89 #[.int .i64 b.a, .int .i64 b.b, .int .i64 b.c, .int .i64 b.d]) := HBB7.out.alloc _
 have HBS8 : Hid (Blk (w7.alloc (.cells #[.int .i64 s.a, .int .i64 s.b, .int .i64 s.c, .int .i64 s.d] 89)) w7.heap.size 89 #[.int .i64 s.a, .int .i64 s.b, .int .i64 s.c, .int .i64 s.d]) := Blk.new _ _ _
 have HE8 : Hid (Ext w (w7.alloc (.cells #[.int .i64 s.a, .int .i64 s.b, .int .i64 s.c, .int .i64 s.d] 89))) := HE7.out.alloc _
 have hs8 : w.heap.size + 3 ≤ w7.heap.size := by have := (HBR7).out.lt; omega
 obtain ⟨bS, hbS⟩ : ∃ b, b = w7.heap.size := ⟨_, rfl⟩
 rw [← hbS] at HBS8 hs8 ⊢
 generalize w7.alloc (.cells #[.int .i64 s.a, .int .i64 s.b, .int .i64 s.c, .int .i64 s.d] 89) = w8 at *
 clear hbS
 obtain ⟨⟨cS0, cS1, cS2, cS3⟩, -⟩ := cells4 HBS8.out
 go_wp2_with fail
 refine (HNW.out _).mono ?_
 rintro e w9 ⟨rfl, hx9⟩
 have HBX9 := Lib.hid (HBX8.out.ext hx9)
 have HBY9 := Lib.hid (HBY8.out.ext hx9)
 have HBR9 := Lib.hid (HBR8.out.ext hx9)
 have HBA9 := Lib.hid (HBA8.out.ext hx9)
 have HBB9 := Lib.hid (HBB8.out.ext hx9)
 have HBS9 := Lib.hid (HBS8.out.ext hx9)
 have HE9 := Lib.hid (HE8.out.trans hx9)
 clear hx9
 clear cS0 cS1 cS2 cS3
 obtain ⟨⟨cR0, cR1, cR2, cR3, cR4⟩, fR0, fR1, fR2, fR3, fR4⟩ := cells5 HBR9.out
 go_wp2
 have HBB : Hid (Blk (put5 w9 (w.heap.size + 2) (.int .i64 z.n.a) (.int .i64 z.n.b) (.int .i64 z.n.c) (.int .i64 z.n.d) (.int .i64 z.e)) (w.heap.size + 2) 91 #[.int .i64 z.n.a, .int .i64 z.n.b, .int .i64 z.n.c, .int .i64 z.n.d, .int .i64 z.e]) := HBR9.out.put5 _ _ _ _ _
 refine bodyPost_ret (v := .tuple #[.agg #[.int .i64 z.n.a, .int .i64 z.n.b, .int .i64 z.n.c, .int .i64 z.n.d, .int .i64 z.e], .bool true]) ?_ rfl ?_
 rotate_left
 ·exact ⟨by rw [HZ.out], ext_put5 (g := w.heap.size + 2) HE9.out (by omega) _ _ _ _ _⟩
 ·exact ret_pair rfl _ _ _ _ _ _ _ rfl rfl HBB.out Tryz.underlying91 rfl Tryz.sizeDOmega
set_option maxRecDepth 100000 in
set_option maxHeartbeats 8000000 in
theorem MulDOmega_yes (x y : Dw) (w : World) (hx : dok x = true) (hy : dok y = true) (hz : zok (zmul x.n y.n) = true) (he : x.e + y.e ≤ 60) :
  Calls Tryz.prog 85 #[x.val, y.val] w fun e w' => e = .returned (.tuple #[(mulD x y).1.val, .bool true]) ∧ Ext w w' := by
 obtain ⟨x1, x2, x3, x4⟩ := dok_iff.1 hx
 obtain ⟨y1, y2, y3, y4⟩ := dok_iff.1 hy
 obtain ⟨k, hk⟩ : ∃ k : Nat, x.e + y.e = k := ⟨(x.e + y.e).toNat, by omega⟩
 have hmul : mulD x y = (⟨(nwL k (zmul x.n y.n)).1, (nwL k (zmul x.n y.n)).2⟩, true) := by
  have hm : zMul x.n y.n = (zmul x.n y.n, true) := by rw [zMul_y x1 y1]; exact zif_y hz
  rw [mulD_y hx hy (by rw [hm]), hm, hk]
  rw [newD_y hz (by omega) (by omega) (by rw [Int.toNat_natCast]; have := (nwL_is k hz).1; omega), Int.toNat_natCast]
 obtain ⟨z, hzz⟩ : ∃ z, (mulD x y).1 = z := ⟨_, rfl⟩
 have HNW : Hid (∀ w', Calls Tryz.prog 101 #[(zmul x.n y.n).val, .int .i64 k] w' fun e w'' => e = .returned (.tuple #[z.val, .bool true]) ∧ Ext w' w'') := fun w' => by
  rw [← hzz, hmul]
  exact NewDOmega_yes _ k w' hz (by omega) (by have := (nwL_is k hz).1; omega)
 have HMZ : Hid (∀ w', Calls Tryz.prog 100 #[x.n.val, y.n.val] w' fun e w'' => e = .returned (.tuple #[(zmul x.n y.n).val, .bool true]) ∧ Ext w' w'') := fun w' => MulZOmega_yes _ _ w' x1 y1 hz
 obtain ⟨p, hp⟩ : ∃ p, zmul x.n y.n = p := ⟨_, rfl⟩
 rw [hp] at HNW HMZ
 have HZ := Lib.hid hzz
 have hwk : IntKind.i64.wrap (x.e + y.e) = (k : Int) := by rw [IntWalk.i64_in _ (by omega), hk]
 have HX0 := Lib.hid hx
 have HY0 := Lib.hid hy
 clear hx hy hz he hmul hzz hp hk x1 x2 x3 x4 y1 y2 y3 y4
 go_enter Tryz.func85, Tryz.ntmps85
 go_wp2_with fail
 refine (HMZ.out _).mono ?_
 rintro e w1 ⟨rfl, hx1⟩
 have HBX1 : Hid (Blk w1 (w.heap.size) 91 #[.int .i64 x.n.a, .int .i64 x.n.b, .int .i64 x.n.c, .int .i64 x.n.d, .int .i64 x.e]) := ((((Blk.newAt (b := w.heap.size) rfl).alloc _).alloc _)).ext hx1
 have HBY1 : Hid (Blk w1 (w.heap.size + 1) 91 #[.int .i64 y.n.a, .int .i64 y.n.b, .int .i64 y.n.c, .int .i64 y.n.d, .int .i64 y.e]) := (((Blk.newAt (b := w.heap.size + 1) (by simp)).alloc _)).ext hx1
 have HBR1 : Hid (Blk w1 (w.heap.size + 2) 91 #[.int .i64 0, .int .i64 0, .int .i64 0, .int .i64 0, .int .i64 0]) := ((Blk.newAt (b := w.heap.size + 2) (by simp))).ext hx1
 have HE1 : Hid (Ext w w1) := Ext.trans (by exact xx) hx1
 clear hx1
 go_upto_region 2 with (fail)
 have HBX2 : Hid (Blk (w1.alloc (.cells #[.int .i64 p.a, .int .i64 p.b, .int .i64 p.c, .int .i64 p.d] 89)) (w.heap.size) 91 #[.int .i64 x.n.a, .int .i64 x.n.b, .int .i64 x.n.c, .int .i64 x.n.d, .int .i64 x.e]) := HBX1.out.alloc _
 have HBY2 : Hid (Blk (w1.alloc (.cells #[.int .i64 p.a, .int .i64 p.b, .int .i64 p.c, .int .i64 p.d] 89)) (w.heap.size + 1) 91 #[.int .i64 y.n.a, .int .i64 y.n.b, .int .i64 y.n.c, .int .i64 y.n.d, .int .i64 y.e]) := HBY1.out.alloc _
 have HBR2 : Hid (Blk (w1.alloc (.cells #[.int .i64 p.a, .int .i64 p.b, .int .i64 p.c, .int .i64 p.d] 89)) (w.heap.size + 2) 91 #[.int .i64 0, .int .i64 0, .int .i64 0, .int .i64 0, .int .i64 0]) := HBR1.out.alloc _
 have HBP2 : Hid (Blk (w1.alloc (.cells #[.int .i64 p.a, .int .i64 p.b, .int .i64 p.c, .int .i64 p.d] 89)) w1.heap.size 89 #[.int .i64 p.a, .int .i64 p.b, .int .i64 p.c, .int .i64 p.d]) := Blk.new _ _ _
 have HE2 : Hid (Ext w (w1.alloc (.cells #[.int .i64 p.a, .int .i64 p.b, .int .i64 p.c, .int .i64 p.d] 89))) := HE1.out.alloc _
 have hs2 : w.heap.size + 3 ≤ w1.heap.size := by have := (HBR1).out.lt; omega
 obtain ⟨bP, hbP⟩ : ∃ b, b = w1.heap.size := ⟨_, rfl⟩
 rw [← hbP] at HBP2 hs2 ⊢
 generalize w1.alloc (.cells #[.int .i64 p.a, .int .i64 p.b, .int .i64 p.c, .int .i64 p.d] 89) = w2 at *
 clear hbP
 obtain ⟨⟨cX0, cX1, cX2, cX3, cX4⟩, -⟩ := cells5 HBX2.out
 go_wp2_with fail
 refine (IsValidDOmega_yes x _ HX0.out).mono ?_
 rintro e w3 ⟨rfl, hx3⟩
 have HBX3 := Lib.hid (HBX2.out.ext hx3)
 have HBY3 := Lib.hid (HBY2.out.ext hx3)
 have HBR3 := Lib.hid (HBR2.out.ext hx3)
 have HBP3 := Lib.hid (HBP2.out.ext hx3)
 have HE3 := Lib.hid (HE2.out.trans hx3)
 clear hx3
 clear cX0 cX1 cX2 cX3 cX4
 obtain ⟨⟨cY0, cY1, cY2, cY3, cY4⟩, -⟩ := cells5 HBY3.out
 go_wp2_with fail
 refine (IsValidDOmega_yes y _ HY0.out).mono ?_
 rintro e w4 ⟨rfl, hx4⟩
 have HBX4 := Lib.hid (HBX3.out.ext hx4)
 have HBY4 := Lib.hid (HBY3.out.ext hx4)
 have HBR4 := Lib.hid (HBR3.out.ext hx4)
 have HBP4 := Lib.hid (HBP3.out.ext hx4)
 have HE4 := Lib.hid (HE3.out.trans hx4)
 clear hx4
 clear cY0 cY1 cY2 cY3 cY4
 obtain ⟨⟨cX0, cX1, cX2, cX3, cX4⟩, -⟩ := cells5 HBX4.out
 obtain ⟨⟨cY0, cY1, cY2, cY3, cY4⟩, -⟩ := cells5 HBY4.out
 obtain ⟨⟨cP0, cP1, cP2, cP3⟩, -⟩ := cells4 HBP4.out
 go_wp2_with fail
 refine (HNW.out _).mono ?_
 rintro e w5 ⟨rfl, hx5⟩
 have HBX5 := Lib.hid (HBX4.out.ext hx5)
 have HBY5 := Lib.hid (HBY4.out.ext hx5)
 have HBR5 := Lib.hid (HBR4.out.ext hx5)
 have HBP5 := Lib.hid (HBP4.out.ext hx5)
 have HE5 := Lib.hid (HE4.out.trans hx5)
 clear hx5
 clear cX0 cX1 cX2 cX3 cX4
 clear cY0 cY1 cY2 cY3 cY4
 clear cP0 cP1 cP2 cP3
 obtain ⟨⟨cR0, cR1, cR2, cR3, cR4⟩, fR0, fR1, fR2, fR3, fR4⟩ := cells5 HBR5.out
 go_wp2
 have HBB : Hid (Blk (put5 w5 (w.heap.size + 2) (.int .i64 z.n.a) (.int .i64 z.n.b) (.int .i64 z.n.c) (.int .i64 z.n.d) (.int .i64 z.e)) (w.heap.size + 2) 91 #[.int .i64 z.n.a, .int .i64 z.n.b, .int .i64 z.n.c, .int .i64 z.n.d, .int .i64 z.e]) := HBR5.out.put5 _ _ _ _ _
 refine bodyPost_ret (v := .tuple #[.agg #[.int .i64 z.n.a, .int .i64 z.n.b, .int .i64 z.n.c, .int .i64 z.n.d, .int .i64 z.e], .bool true]) ?_ rfl ?_
 rotate_left
 ·exact ⟨by rw [HZ.out], ext_put5 (g := w.heap.size + 2) HE5.out (by omega) _ _ _ _ _⟩
 ·exact ret_pair rfl _ _ _ _ _ _ _ rfl rfl HBB.out Tryz.underlying91 rfl Tryz.sizeDOmega
end Go.Proofs.YtdjckjfclhjpcaaGreat
/-
 Helper text (no claim of its own): states: comparison, times one, by the reference. Printed by gen_am.py or gen_an.py.
-/
namespace Go.Proofs.YtdjckjfclhjpcaaGreat
open Go.ChangeShapes Go.WideShapes Go.ChangeAt Go.RowKit Go.Deep
set_option linter.unusedVariables false
set_option linter.unusedSimpArgs false
theorem Tryz.stoodZOmega : Tryz.prog.stoodInHeld 89 = false := by kernel_rfl
theorem Tryz.stoodDOmega : Tryz.prog.stoodInHeld 91 = false := by kernel_rfl
theorem Tryz.eqgDOmega : Tryz.prog.eqGuardType Tryz.prog.depth 91 = false := by kernel_rfl
def eqD (x y : Dw) : Bool := x.n.a == y.n.a && x.n.b == y.n.b && x.n.c == y.n.c && x.n.d == y.n.d && x.e == y.e
theorem eqD_self (x : Dw) : eqD x x = true := by simp [eqD]
set_option maxRecDepth 100000 in
set_option maxHeartbeats 1000000 in
theorem eqIn_dw (x y : Dw) (w : World) : (Op.equalIn 10000 91 x.val y.val).run Tryz.prog w = .ok (eqD x y) w := by
 have h1 := Tryz.stoodZOmega
 have h2 := Tryz.stoodDOmega
 unfold eqD
 go_simp
 by_cases e1 : x.n.a = y.n.a <;> by_cases e2 : x.n.b = y.n.b <;> by_cases e3 : x.n.c = y.n.c <;> by_cases e4 : x.n.d = y.n.d <;> by_cases e5 : x.e = y.e <;> simp [*]
end Go.Proofs.YtdjckjfclhjpcaaGreat
/-
 Helper text (no claim of its own): a gate on a state, by the reference. Printed by gen_am.py or gen_an.py.
-/
namespace Go.Proofs.YtdjckjfclhjpcaaGreat
open Go.ChangeShapes Go.WideShapes Go.ChangeAt Go.RowKit Go.Deep
set_option linter.unusedVariables false
set_option linter.unusedSimpArgs false
/-- A state that a call returned, in a block of its own. -/
def TT (w : World) (b l : Nat) (vs : List Dw) : Prop := (∃ cs, Blk w b 91 cs) ∧ Rd w w.heap.size 5 (some ⟨b, 0, none⟩) l (scells vs)
theorem TT.ext {w w' : World} {b l : Nat} {vs : List Dw} (h : TT w b l vs) (hx : Ext w w') : TT w' b l vs := by
 obtain ⟨⟨cs, h1⟩, h2⟩ := h
 exact ⟨⟨cs, h1.ext hx⟩, h2.ext hx⟩
def TOut (l : Nat) (vs : List Dw) (v : Value) (w : World) : Prop := ∃ b c, v = .slice (some ⟨b, 0, none⟩) l c ∧ TT w b l vs
theorem SB.tout {w : World} {b : Nat} {vs : List Dw} (h : SB w b vs) (m c : Nat) (hm : vs.length = m) : TOut m vs (.slice (some ⟨b, 0, none⟩) m c) w := by
 subst hm
 refine ⟨b, c, rfl, ?_, h.rd⟩
 obtain ⟨cs, h1, -⟩ := h
 exact ⟨cs, h1⟩
/-- How a gate works on a state, step by step: the state that is built ahead of the k-th sending from place i. -/
structure Run (g : Gt) (vs : List Dw) (o : Nat → Nat → List Dw) : Prop where
 start : o 0 0 = List.replicate vs.length d0
 zero : ∀ i x, vs[i]? = some x → eqD x d0 = true → o (i + 1) 0 = o i 0
 step : ∀ i x k s, vs[i]? = some x → eqD x d0 = false → (sent g i)[k]? = some s → ∃ z y y' : Dw, (∀ w, Calls Tryz.prog 85 #[x.val, s.2.val] w fun e w' => e = .returned (.tuple #[z.val, .bool true]) ∧ Ext w w') ∧ s.1 < vs.length ∧ (o i k)[s.1]? = some y ∧ (∀ w, Calls Tryz.prog 86 #[y.val, z.val] w fun e w' => e = .returned (.tuple #[y'.val, .bool true]) ∧ Ext w w') ∧ o i (k + 1) = (o i k).set s.1 y'
 next : ∀ i x, vs[i]? = some x → eqD x d0 = false → o (i + 1) 0 = o i (sent g i).length
theorem SN.ext {w w' : World} {b : Nat} {l : List (Nat × Dw)} (h : SN w b l) (hx : Ext w w') : SN w' b l := Blk.ext h hx
theorem SN.put {w : World} {b bo i : Nat} {l : List (Nat × Dw)} {x : Dw} (h : SN w b l) (hb : b ≠ bo) : SN (put5at w bo i x) b l := far_put5at h hb i x
def GB (w W : World) (g : Gt) : Prop := Blk W w.heap.size 38 #[.int .i64 g.k, .int .i64 g.a, .int .i64 g.b, .int .i64 g.c] ∧ Ext w W
theorem GB.ext {w W W' : World} {g : Gt} (h : GB w W g) (hx : Ext W W') : GB w W' g := ⟨h.1.ext hx, h.2.trans hx⟩
theorem GB.put {w W : World} {g : Gt} {b i : Nat} {x : Dw} (h : GB w W g) (hb : w.heap.size < b) : GB w (put5at W b i x) g := ⟨far_put5at h.1 (by omega) i x, ext_put5at h.2 (by omega) i x⟩
theorem made_zero {n : Nat} (h1 : 1 ≤ n) (h4 : n ≤ 4) : ∃ cs : Array Value, (∀ w : World, (Instr.makeSlice 66 (.int .i64 ((2 ^ n : Nat) : Int)) (.int .i64 ((2 ^ n : Nat) : Int))).run Tryz.prog w = .ok (.slice (some ⟨w.heap.size, 0, none⟩) (2 ^ n) (2 ^ n)) (w.alloc (.cells cs 91))) ∧ cs.toList = scells (List.replicate (2 ^ n) d0) := by
 rcases (show n = 1 ∨ n = 2 ∨ n = 3 ∨ n = 4 by omega) with rfl | rfl | rfl | rfl
 ·exact ⟨#[.int .i64 0, .int .i64 0, .int .i64 0, .int .i64 0, .int .i64 0, .int .i64 0, .int .i64 0, .int .i64 0, .int .i64 0, .int .i64 0], fun _ => by kernel_rfl, rfl⟩
 ·exact ⟨#[.int .i64 0, .int .i64 0, .int .i64 0, .int .i64 0, .int .i64 0, .int .i64 0, .int .i64 0, .int .i64 0, .int .i64 0, .int .i64 0, .int .i64 0, .int .i64 0, .int .i64 0, .int .i64 0, .int .i64 0, .int .i64 0, .int .i64 0, .int .i64 0, .int .i64 0, .int .i64 0], fun _ => by kernel_rfl, rfl⟩
 ·exact ⟨#[.int .i64 0, .int .i64 0, .int .i64 0, .int .i64 0, .int .i64 0, .int .i64 0, .int .i64 0, .int .i64 0, .int .i64 0, .int .i64 0, .int .i64 0, .int .i64 0, .int .i64 0, .int .i64 0, .int .i64 0, .int .i64 0, .int .i64 0, .int .i64 0, .int .i64 0, .int .i64 0, .int .i64 0, .int .i64 0, .int .i64 0, .int .i64 0, .int .i64 0, .int .i64 0, .int .i64 0, .int .i64 0, .int .i64 0, .int .i64 0, .int .i64 0, .int .i64 0, .int .i64 0, .int .i64 0, .int .i64 0, .int .i64 0, .int .i64 0, .int .i64 0, .int .i64 0, .int .i64 0], fun _ => by kernel_rfl, rfl⟩
 ·exact ⟨#[.int .i64 0, .int .i64 0, .int .i64 0, .int .i64 0, .int .i64 0, .int .i64 0, .int .i64 0, .int .i64 0, .int .i64 0, .int .i64 0, .int .i64 0, .int .i64 0, .int .i64 0, .int .i64 0, .int .i64 0, .int .i64 0, .int .i64 0, .int .i64 0, .int .i64 0, .int .i64 0, .int .i64 0, .int .i64 0, .int .i64 0, .int .i64 0, .int .i64 0, .int .i64 0, .int .i64 0, .int .i64 0, .int .i64 0, .int .i64 0, .int .i64 0, .int .i64 0, .int .i64 0, .int .i64 0, .int .i64 0, .int .i64 0, .int .i64 0, .int .i64 0, .int .i64 0, .int .i64 0, .int .i64 0, .int .i64 0, .int .i64 0, .int .i64 0, .int .i64 0, .int .i64 0, .int .i64 0, .int .i64 0, .int .i64 0, .int .i64 0, .int .i64 0, .int .i64 0, .int .i64 0, .int .i64 0, .int .i64 0, .int .i64 0, .int .i64 0, .int .i64 0, .int .i64 0, .int .i64 0, .int .i64 0, .int .i64 0, .int .i64 0, .int .i64 0, .int .i64 0, .int .i64 0, .int .i64 0, .int .i64 0, .int .i64 0, .int .i64 0, .int .i64 0, .int .i64 0, .int .i64 0, .int .i64 0, .int .i64 0, .int .i64 0, .int .i64 0, .int .i64 0, .int .i64 0, .int .i64 0], fun _ => by kernel_rfl, rfl⟩
set_option maxRecDepth 100000 in
set_option maxHeartbeats 8000000 in
theorem ApplyGate_run {n : Nat} (h1 : 1 ≤ n) (h4 : n ≤ 4) (g : Gt) (hg : vg g n = true) (A : Option Addr) (c : Nat) (vs : List Dw) (w : World) (h : Rd w w.heap.size 5 A vs.length (scells vs)) (hl : vs.length = 2 ^ n) (hd : ∀ x ∈ vs, dok x = true) (o : Nat → Nat → List Dw) (hr : Run g vs o) (hol : ∀ i k, (o i k).length = vs.length) :
  Calls Tryz.prog 63 #[g.val, .slice A vs.length c] w fun e w' => (∃ v, e = .returned (.tuple #[v, .bool true]) ∧ TOut vs.length (o vs.length 0) v w') ∧ Ext w w' := by
 have HV : Hid (∀ w', Ext w w' → Calls Tryz.prog 82 #[.slice A vs.length c] w' fun e w'' => e = .returned (.bool true) ∧ Ext w' w'') := fun w' hx => IsValidState_yes h1 h4 A c vs w' (h.ext hx) hl hd
 have HQC : Hid (∀ w', Calls Tryz.prog 83 #[.slice A vs.length c] w' fun e w'' => e = .returned (.int .i64 n) ∧ w' = w'') := fun w' => by rw [hl]; exact QubitCount_any h1 h4 A c w'
 have HVG : Hid (∀ w', Calls Tryz.prog 61 #[g.val, .int .i64 n] w' fun e w'' => e = .returned (.bool true) ∧ Ext w' w'') := fun w' => by
  have := spec_IsValidGate_any g n w'
  rw [hg] at this
  exact this
 obtain ⟨cs0, hmk, hcs0⟩ := made_zero h1 h4
 have hl16 : vs.length ≤ 16 := by rw [hl]; rcases (show n = 1 ∨ n = 2 ∨ n = 3 ∨ n = 4 by omega) with rfl | rfl | rfl | rfl <;> decide
 have HGO : Hid (∀ (i : Nat) (w' : World), i < 16 → Calls Tryz.prog 84 #[g.val, .int .i64 i] w' fun e w'' => NOut (sent g i) e w'' ∧ Ext w' w'') := fun i w' hi => Goes_any hg i hi w'
 have HRUN := Lib.hid hr
 have HST := Lib.hid hr.start
 have HOLL := Lib.hid hol
 rw [← hl] at hmk hcs0
 obtain ⟨l, hgl⟩ : ∃ l, vs.length = l := ⟨_, rfl⟩
 have HLEN := Lib.hid hgl
 unfold Hid at HST
 rw [hgl] at h HV HQC hl16 hmk hcs0 HST ⊢
 replace HST := Lib.hid HST
 have HOL : Hid (∀ i k, (o i k).length = l) := fun i k => (HOLL.out i k).trans hgl
 clear hl hd hgl h1 h4 hg hr hol HOLL
 go_enter Tryz.func63, Tryz.ntmps63
 go_upto_region 1 with (fail)
 have HGB : Hid (GB w (w.alloc (.cells #[.int .i64 g.k, .int .i64 g.a, .int .i64 g.b, .int .i64 g.c] 38)) g) := ⟨Blk.new _ _ _, xx⟩
 have hs0 : (w.alloc (.cells #[.int .i64 g.k, .int .i64 g.a, .int .i64 g.b, .int .i64 g.c] 38)).heap.size = w.heap.size + 1 := by simp
 generalize w.alloc (.cells #[.int .i64 g.k, .int .i64 g.a, .int .i64 g.b, .int .i64 g.c] 38) = w0 at *
 have HK : Hid (∀ w', Ext w0 w' → (w'.cell? ⟨w.heap.size, 0, none⟩ = some (.int .i64 g.k) ∧ w'.cell? ⟨w.heap.size, 1, none⟩ = some (.int .i64 g.a) ∧ w'.cell? ⟨w.heap.size, 2, none⟩ = some (.int .i64 g.b) ∧ w'.cell? ⟨w.heap.size, 3, none⟩ = some (.int .i64 g.c))) := fun w' hx => (cells4 (HGB.out.1.ext hx)).1
 refine wp_region_held_drew (S := fun w' => (w'.cell? ⟨w.heap.size, 0, none⟩ = some (.int .i64 g.k) ∧ w'.cell? ⟨w.heap.size, 1, none⟩ = some (.int .i64 g.a) ∧ w'.cell? ⟨w.heap.size, 2, none⟩ = some (.int .i64 g.b) ∧ w'.cell? ⟨w.heap.size, 3, none⟩ = some (.int .i64 g.c))) (by kernel_rfl) (HK.out _ (Ext.refl w0).drew) (fun hHeld => ?_)
 (refine tk 0 (v := ?_) ?_ ?_; rotate_left; · (intro w hSw; (try dsimp only at hSw); go_simp; all_goals with_reducible rfl))
 (try simp only [Act.put, L1, L2, L3, L4, L5, L6])
 refine wpAnyH_ready (rs := [1]) (by kernel_rfl) (by simp) ?_
 refine AllReadyH.cons rfl (fun K hK => ?_) AllReadyH.nil
 go_simp
 refine (HV.out _ (HGB.out.2.trans (Ext.refl w0).drew)).mono ?_
 rintro e v1 ⟨rfl, hy1⟩
 have HY1 : Hid (Ext w0 v1) := Ext.trans (Ext.refl w0).drew hy1
 clear hy1
 refine hK.out _ _ (HK.out _ HY1.out) (fun hHeld => ?_)
 clear hK K
 (try simp only [Act.put, L1, L2, L3, L4, L5, L6])
 (refine tk 2 (v := ?_) ?_ ?_; rotate_left; · (intro w hSw; (try dsimp only at hSw); go_simp; all_goals with_reducible rfl))
 (try simp only [Act.put, L1, L2, L3, L4, L5, L6])
 (refine tk 3 (v := ?_) ?_ ?_; rotate_left; · (intro w hSw; (try dsimp only at hSw); go_simp; all_goals with_reducible rfl))
 (try simp only [Act.put, L1, L2, L3, L4, L5, L6])
 (refine tk 4 (v := ?_) ?_ ?_; rotate_left; · (intro w hSw; (try dsimp only at hSw); go_simp; all_goals with_reducible rfl))
 (try simp only [Act.put, L1, L2, L3, L4, L5, L6])
 (refine tk 5 (v := ?_) ?_ ?_; rotate_left; · (intro w hSw; (try dsimp only at hSw); go_simp; all_goals with_reducible rfl))
 (try simp only [Act.put, L1, L2, L3, L4, L5, L6])
 refine wpAnyH_ready (rs := [6]) (by kernel_rfl) (by simp) ?_
 refine AllReadyH.cons rfl (fun K hK => ?_) AllReadyH.nil
 go_simp
 refine (HQC.out _).mono ?_
 rintro e v2 ⟨rfl, rfl⟩
 refine hK.out _ _ (HK.out _ HY1.out) (fun hHeld => ?_)
 clear hK K
 (try simp only [Act.put, L1, L2, L3, L4, L5, L6])
 refine wpAnyH_ready (rs := [7]) (by kernel_rfl) (by simp) ?_
 refine AllReadyH.cons rfl (fun K hK => ?_) AllReadyH.nil
 go_simp
 refine (HVG.out _).mono ?_
 rintro e v2 ⟨rfl, hy2⟩
 have HY2 : Hid (Ext w0 v2) := HY1.out.trans hy2
 clear hy2
 refine hK.out _ _ (HK.out _ HY2.out) (fun hHeld => ?_)
 clear hK K
 (try simp only [Act.put, L1, L2, L3, L4, L5, L6])
 (refine tk 8 (v := ?_) ?_ ?_; rotate_left; · (intro w hSw; (try dsimp only at hSw); go_simp; all_goals with_reducible rfl))
 (try simp only [Act.put, L1, L2, L3, L4, L5, L6])
 (refine tk 9 (v := ?_) ?_ ?_; rotate_left; · (intro w hSw; (try dsimp only at hSw); go_simp; all_goals with_reducible rfl))
 (try simp only [Act.put, L1, L2, L3, L4, L5, L6])
 (refine wpAnyH_done (by kernel_rfl) ?_ _)
 clear hHeld

 have HGB2 := Lib.hid (HGB.out.ext HY2.out)
 have hs2 : w.heap.size < v2.heap.size := by have := HY2.out.size; omega
 clear HK HY1 HY2 HGB hs0
 go_upto_region 4 with (fail)
 have HSB : Hid (SB (v2.alloc (.cells cs0 91)) v2.heap.size (o 0 0)) := by unfold Hid; rw [HST.out]; exact ⟨cs0, Blk.new _ _ _, hcs0⟩
 have HGB3 : Hid (GB w (v2.alloc (.cells cs0 91)) g) := HGB2.out.ext ((Ext.refl _).alloc _)
 have HBO : Hid (w.heap.size < v2.heap.size) := hs2
 clear hs2 hmk hcs0 HGB2
 generalize v2.alloc (.cells cs0 91) = w3 at *
 generalize v2.heap.size = bo at *
 go_wp2
 go_loopw [7] (fun iv wr => ∃ i : Nat, iv = .int .i64 i ∧ i ≤ l ∧ Hid (SB wr bo (o i 0)) ∧ Hid (GB w wr g)) (fun i _ => l - (intOf i).toNat)
 case atStart => exact ⟨0, rfl, Nat.zero_le _, HSB, HGB3⟩
 case round =>
  obtain ⟨i, rfl, hi, HSBi, HGBi⟩ := hrel
  clear HSB HGB3
  by_cases hlt : i < l
  ·have HIT : Hid (i < l ∧ l ≤ 16) := ⟨hlt, hl16⟩
   have hi1 : IntKind.i64.wrap ((i : Int) + 1) = ((i + 1 : Nat) : Int) := by rw [IntWalk.i64_in _ (by omega)]; rfl
   have hi2 : wrap64 ((i : Int) + 1) = ((i + 1 : Nat) : Int) := by unfold wrap64; omega
   obtain ⟨b, oo, x, rfl, hb, hx, x0, x1, x2, x3, x4⟩ := dw_at (h.up HGBi.out.2 (Nat.le_refl _)) hlt
   have HX0 := Lib.hid hx
   clear hx hb
   have HE := Tryz.eqgDOmega
   cases hz : eqD x d0 with
   | true =>
    have HN := (show ∀ w, (Op.equalIn 10000 91 x.val (.agg #[.int .i64 0, .int .i64 0, .int .i64 0, .int .i64 0, .int .i64 0])).run Tryz.prog w = .ok true w from fun w => by rw [show (Value.agg #[.int .i64 0, .int .i64 0, .int .i64 0, .int .i64 0, .int .i64 0]) = d0.val from rfl, eqIn_dw, hz])
    have HNX : Hid (o (i + 1) 0 = o i 0) := HRUN.out.zero i x HX0.out hz
    clear hz
    go_wp2
    go_roundw
    case rel => exact ⟨i + 1, by first | rfl | rw [hi1] | rw [hi2], by have := HIT.out; omega, by rw [HNX.out]; exact HSBi, HGBi⟩
    case measure => simp [intOf, hi2]; have := HIT.out; omega
   | false =>
    have HN := (show ∀ w, (Op.equalIn 10000 91 x.val (.agg #[.int .i64 0, .int .i64 0, .int .i64 0, .int .i64 0, .int .i64 0])).run Tryz.prog w = .ok false w from fun w => by rw [show (Value.agg #[.int .i64 0, .int .i64 0, .int .i64 0, .int .i64 0, .int .i64 0]) = d0.val from rfl, eqIn_dw, hz])
    have HNEXT : Hid (o (i + 1) 0 = o i (sent g i).length) := HRUN.out.next i x HX0.out hz
    have HSTEP : Hid (∀ k s, (sent g i)[k]? = some s → _) := fun k s hs => HRUN.out.step i x k s HX0.out hz hs
    clear hz
    go_upto_region 8 with (fail)
    clear x0 x1 x2 x3 x4 HN HE
    obtain ⟨⟨g0, g1, g2, g3⟩, -⟩ := cells4 HGBi.out.1
    go_wp2_with fail
    refine (HGO.out i _ (by omega)).mono ?_
    rintro e w4 ⟨⟨b1, rfl, hn4⟩, hx4⟩
    have HSN4 : Hid (SN w4 b1 (sent g i)) := hn4
    have HSB4 := Lib.hid (HSBi.out.ext hx4)
    have HGB4 := Lib.hid (HGBi.out.ext hx4)
    clear hn4 hx4 HSBi HGBi g0 g1 g2 g3
    obtain ⟨m, hm⟩ : ∃ m, (sent g i).length = m := ⟨_, rfl⟩
    have HM : Hid ((sent g i).length = m ∧ m ≤ 2) := ⟨hm, by rw [← hm]; exact sent_len g i⟩
    rw [hm]
    clear hm
    go_wp2
    go_loopw [9] (fun kv wr => ∃ k : Nat, kv = .int .i64 k ∧ k ≤ m ∧ Hid (SB wr bo (o i k)) ∧ Hid (SN wr b1 (sent g i)) ∧ Hid (GB w wr g)) (fun i _ => m - (intOf i).toNat)
    case atStart => exact ⟨0, rfl, Nat.zero_le _, HSB4, HSN4, HGB4⟩
    case round =>
     obtain ⟨k, rfl, hk, HSO0, HSN0, HGB0⟩ := hrel
     clear HSB4 HSN4 HGB4
     by_cases hkt : k < m
     ·have HKT : Hid (k < m ∧ m ≤ 2) := ⟨hkt, HM.out.2⟩
      have hj1 : IntKind.i64.wrap ((k : Int) + 1) = ((k + 1 : Nat) : Int) := by rw [IntWalk.i64_in _ (by have := HM.out.2; omega)]; rfl
      have hj2 : wrap64 ((k : Int) + 1) = ((k + 1 : Nat) : Int) := by have := HM.out.2; unfold wrap64; omega
      obtain ⟨s, hs⟩ : ∃ s, (sent g i)[k]? = some s := ⟨_, List.getElem?_eq_getElem (by rw [HM.out.1]; exact hkt)⟩
      have HS0 := Lib.hid hs
      obtain ⟨z, y, y', hcm, hat, hy, hca, hnx⟩ := HSTEP.out k s hs
      have HCM := Lib.hid hcm
      have HCA := Lib.hid hca
      have HAT : Hid (s.1 < l) := by have h5 := HLEN.out; rw [h5] at hat; exact hat
      have HY0 := Lib.hid hy
      have HNX := Lib.hid hnx
      clear hs hcm hca hat hy hnx
      have HK : Hid (∀ w', Ext wr w' → (w'.cell? ⟨b, oo + i * 5, none⟩ = some (.int .i64 x.n.a) ∧ w'.cell? ⟨b, oo + i * 5 + 1, none⟩ = some (.int .i64 x.n.b) ∧ w'.cell? ⟨b, oo + i * 5 + 2, none⟩ = some (.int .i64 x.n.c) ∧ w'.cell? ⟨b, oo + i * 5 + 3, none⟩ = some (.int .i64 x.n.d) ∧ w'.cell? ⟨b, oo + i * 5 + 4, none⟩ = some (.int .i64 x.e)) ∧ (w'.cell? ⟨b1, k * 6, none⟩ = some (.int .i64 s.1) ∧ w'.cell? ⟨b1, k * 6 + 1, none⟩ = some (.int .i64 s.2.n.a) ∧ w'.cell? ⟨b1, k * 6 + 2, none⟩ = some (.int .i64 s.2.n.b) ∧ w'.cell? ⟨b1, k * 6 + 3, none⟩ = some (.int .i64 s.2.n.c) ∧ w'.cell? ⟨b1, k * 6 + 4, none⟩ = some (.int .i64 s.2.n.d) ∧ w'.cell? ⟨b1, k * 6 + 5, none⟩ = some (.int .i64 s.2.e))) := fun w' hx => ⟨state_at (h.up (HGB0.out.2.trans hx) (Nat.le_refl _)) HIT.out.1 HX0.out, SN.at_ (HSN0.out.ext hx) HS0.out⟩
      go_upto_region 12 with (fail)
      refine wp_region_held_drew (S := fun w' => (w'.cell? ⟨b, oo + i * 5, none⟩ = some (.int .i64 x.n.a) ∧ w'.cell? ⟨b, oo + i * 5 + 1, none⟩ = some (.int .i64 x.n.b) ∧ w'.cell? ⟨b, oo + i * 5 + 2, none⟩ = some (.int .i64 x.n.c) ∧ w'.cell? ⟨b, oo + i * 5 + 3, none⟩ = some (.int .i64 x.n.d) ∧ w'.cell? ⟨b, oo + i * 5 + 4, none⟩ = some (.int .i64 x.e)) ∧ (w'.cell? ⟨b1, k * 6, none⟩ = some (.int .i64 s.1) ∧ w'.cell? ⟨b1, k * 6 + 1, none⟩ = some (.int .i64 s.2.n.a) ∧ w'.cell? ⟨b1, k * 6 + 2, none⟩ = some (.int .i64 s.2.n.b) ∧ w'.cell? ⟨b1, k * 6 + 3, none⟩ = some (.int .i64 s.2.n.c) ∧ w'.cell? ⟨b1, k * 6 + 4, none⟩ = some (.int .i64 s.2.n.d) ∧ w'.cell? ⟨b1, k * 6 + 5, none⟩ = some (.int .i64 s.2.e))) (by kernel_rfl) (HK.out _ (Ext.refl wr).drew) (fun hHeld => ?_)
      (refine tk 0 (v := ?_) ?_ ?_; rotate_left; · (intro w hSw; (try dsimp only at hSw); go_simp; all_goals with_reducible rfl))
      (try simp only [Act.put, L1, L2, L3, L4, L5, L6])
      (refine tk 1 (v := ?_) ?_ ?_; rotate_left; · (intro w hSw; (try dsimp only at hSw); go_simp; all_goals with_reducible rfl))
      (try simp only [Act.put, L1, L2, L3, L4, L5, L6])
      (refine tk 2 (v := ?_) ?_ ?_; rotate_left; · (intro w hSw; (try dsimp only at hSw); go_simp; all_goals with_reducible rfl))
      (try simp only [Act.put, L1, L2, L3, L4, L5, L6])
      (refine tk 3 (v := ?_) ?_ ?_; rotate_left; · (intro w hSw; (try dsimp only at hSw); go_simp; all_goals with_reducible rfl))
      (try simp only [Act.put, L1, L2, L3, L4, L5, L6])
      (refine tk 4 (v := ?_) ?_ ?_; rotate_left; · (intro w hSw; (try dsimp only at hSw); go_simp; all_goals with_reducible rfl))
      (try simp only [Act.put, L1, L2, L3, L4, L5, L6])
      (refine tk 5 (v := ?_) ?_ ?_; rotate_left; · (intro w hSw; (try dsimp only at hSw); go_simp; all_goals with_reducible rfl))
      (try simp only [Act.put, L1, L2, L3, L4, L5, L6])
      (refine tk 6 (v := ?_) ?_ ?_; rotate_left; · (intro w hSw; (try dsimp only at hSw); go_simp; all_goals with_reducible rfl))
      (try simp only [Act.put, L1, L2, L3, L4, L5, L6])
      (refine tk 7 (v := ?_) ?_ ?_; rotate_left; · (intro w hSw; (try dsimp only at hSw); go_simp; all_goals with_reducible rfl))
      (try simp only [Act.put, L1, L2, L3, L4, L5, L6])
      (refine tk 8 (v := ?_) ?_ ?_; rotate_left; · (intro w hSw; (try dsimp only at hSw); go_simp; all_goals with_reducible rfl))
      (try simp only [Act.put, L1, L2, L3, L4, L5, L6])
      refine wpAnyH_ready (rs := [9, 13]) (by kernel_rfl) (by simp) ?_
      refine AllReadyH.cons rfl (fun K hK => ?_) (AllReadyH.cons rfl (fun K hK => ?_) AllReadyH.nil)
      ·go_simp
       refine (HCM.out _).mono ?_
       rintro e v15 ⟨rfl, hy5⟩
       have HY5 : Hid (Ext wr v15) := Ext.trans (Ext.refl wr).drew hy5
       clear hy5
       refine hK.out _ _ (HK.out _ (HY5.out)) (fun hHeld => ?_)
       clear hK K
       (try simp only [Act.put, L1, L2, L3, L4, L5, L6])
       (refine tk 10 (v := ?_) ?_ ?_; rotate_left; · (intro w hSw; (try dsimp only at hSw); go_simp; all_goals with_reducible rfl))
       (try simp only [Act.put, L1, L2, L3, L4, L5, L6])
       (refine tk 11 (v := ?_) ?_ ?_; rotate_left; · (intro w hSw; (try dsimp only at hSw); go_simp; all_goals with_reducible rfl))
       (try simp only [Act.put, L1, L2, L3, L4, L5, L6])
       (refine tk 12 (v := ?_) ?_ ?_; rotate_left; · (intro w hSw; (try dsimp only at hSw); go_simp; all_goals with_reducible rfl))
       (try simp only [Act.put, L1, L2, L3, L4, L5, L6])
       refine wpAnyH_ready (rs := [13]) (by kernel_rfl) (by simp) ?_
       refine AllReadyH.cons rfl (fun K hK => ?_) AllReadyH.nil
       go_simp
       have HX16 : Hid (Ext wr (v15.alloc (.cells #[.int .i64 0, .int .i64 0, .int .i64 0, .int .i64 0, .int .i64 0] 91))) := HY5.out.alloc _
       have HB16 : Hid (Blk (v15.alloc (.cells #[.int .i64 0, .int .i64 0, .int .i64 0, .int .i64 0, .int .i64 0] 91)) v15.heap.size 91 #[.int .i64 0, .int .i64 0, .int .i64 0, .int .i64 0, .int .i64 0]) := Blk.new _ _ _
       have hs16 : wr.heap.size ≤ v15.heap.size := HY5.out.size
       refine hK.out _ _ (HK.out _ (HX16.out)) (fun hHeld => ?_)
       clear hK K
       (try simp only [Act.put, L1, L2, L3, L4, L5, L6])
       generalize v15.alloc (.cells #[.int .i64 0, .int .i64 0, .int .i64 0, .int .i64 0, .int .i64 0] 91) = w16 at *
       generalize v15.heap.size = s1 at *
       clear HY5
       refine wpAnyH_ready (rs := [14]) (by kernel_rfl) (by simp) ?_
       refine AllReadyH.cons rfl (fun K hK => ?_) AllReadyH.nil
       obtain ⟨⟨q0, q1, q2, q3, q4⟩, f0, f1, f2, f3, f4⟩ := cells5 HB16.out
       go_simp
       have HX17 : Hid (Ext wr (((((w16.setCell ⟨s1, 0, none⟩ (.int .i64 z.n.a)).setCell ⟨s1, 1, none⟩ (.int .i64 z.n.b)).setCell ⟨s1, 2, none⟩ (.int .i64 z.n.c)).setCell ⟨s1, 3, none⟩ (.int .i64 z.n.d)).setCell ⟨s1, 4, none⟩ (.int .i64 z.e))) := ext_put5 (g := s1) HX16.out hs16 _ _ _ _ _
       have HB17 : Hid (Blk (((((w16.setCell ⟨s1, 0, none⟩ (.int .i64 z.n.a)).setCell ⟨s1, 1, none⟩ (.int .i64 z.n.b)).setCell ⟨s1, 2, none⟩ (.int .i64 z.n.c)).setCell ⟨s1, 3, none⟩ (.int .i64 z.n.d)).setCell ⟨s1, 4, none⟩ (.int .i64 z.e)) s1 91 #[.int .i64 z.n.a, .int .i64 z.n.b, .int .i64 z.n.c, .int .i64 z.n.d, .int .i64 z.e]) := HB16.out.put5 _ _ _ _ _
       refine hK.out _ _ (HK.out _ (HX17.out)) (fun hHeld => ?_)
       clear hK K
       (try simp only [Act.put, L1, L2, L3, L4, L5, L6])
       (refine tk 15 (v := ?_) ?_ ?_; rotate_left; · (intro w hSw; (try dsimp only at hSw); go_simp; all_goals with_reducible rfl))
       (try simp only [Act.put, L1, L2, L3, L4, L5, L6])
       (refine wpAnyH_done (by kernel_rfl) ?_ _)
       clear q0 q1 q2 q3 q4 f0 f1 f2 f3 f4 hHeld
       generalize (((((w16.setCell ⟨s1, 0, none⟩ (.int .i64 z.n.a)).setCell ⟨s1, 1, none⟩ (.int .i64 z.n.b)).setCell ⟨s1, 2, none⟩ (.int .i64 z.n.c)).setCell ⟨s1, 3, none⟩ (.int .i64 z.n.d)).setCell ⟨s1, 4, none⟩ (.int .i64 z.e)) = w17 at *
       clear HX16 HB16 HK
       have HSO1 := Lib.hid (HSO0.out.ext HX17.out)
       have HSN1 := Lib.hid (HSN0.out.ext HX17.out)
       have HGB1 := Lib.hid (HGB0.out.ext HX17.out)
       clear HX17
       have HK : Hid (∀ w', Ext w17 w' → (w'.cell? ⟨b1, k * 6, none⟩ = some (.int .i64 s.1) ∧ w'.cell? ⟨b1, k * 6 + 1, none⟩ = some (.int .i64 s.2.n.a) ∧ w'.cell? ⟨b1, k * 6 + 2, none⟩ = some (.int .i64 s.2.n.b) ∧ w'.cell? ⟨b1, k * 6 + 3, none⟩ = some (.int .i64 s.2.n.c) ∧ w'.cell? ⟨b1, k * 6 + 4, none⟩ = some (.int .i64 s.2.n.d) ∧ w'.cell? ⟨b1, k * 6 + 5, none⟩ = some (.int .i64 s.2.e)) ∧ (w'.cell? ⟨bo, s.1 * 5, none⟩ = some (.int .i64 y.n.a) ∧ w'.cell? ⟨bo, s.1 * 5 + 1, none⟩ = some (.int .i64 y.n.b) ∧ w'.cell? ⟨bo, s.1 * 5 + 2, none⟩ = some (.int .i64 y.n.c) ∧ w'.cell? ⟨bo, s.1 * 5 + 3, none⟩ = some (.int .i64 y.n.d) ∧ w'.cell? ⟨bo, s.1 * 5 + 4, none⟩ = some (.int .i64 y.e)) ∧ (w'.cell? ⟨s1, 0, none⟩ = some (.int .i64 z.n.a) ∧ w'.cell? ⟨s1, 1, none⟩ = some (.int .i64 z.n.b) ∧ w'.cell? ⟨s1, 2, none⟩ = some (.int .i64 z.n.c) ∧ w'.cell? ⟨s1, 3, none⟩ = some (.int .i64 z.n.d) ∧ w'.cell? ⟨s1, 4, none⟩ = some (.int .i64 z.e))) := fun w' hx => ⟨SN.at_ (HSN1.out.ext hx) HS0.out, (SB.at_ (HSO1.out.ext hx) HY0.out).1, (cells5 (HB17.out.ext hx)).1⟩
       have HBO1 : Hid (bo < w17.heap.size) := by obtain ⟨cs, hcs, -⟩ := HSO1.out; exact hcs.lt
       have hat : s.1 < l := HAT.out
       go_upto_region 13 with (fail)
       refine wp_region_held_drew (S := fun w' => (w'.cell? ⟨b1, k * 6, none⟩ = some (.int .i64 s.1) ∧ w'.cell? ⟨b1, k * 6 + 1, none⟩ = some (.int .i64 s.2.n.a) ∧ w'.cell? ⟨b1, k * 6 + 2, none⟩ = some (.int .i64 s.2.n.b) ∧ w'.cell? ⟨b1, k * 6 + 3, none⟩ = some (.int .i64 s.2.n.c) ∧ w'.cell? ⟨b1, k * 6 + 4, none⟩ = some (.int .i64 s.2.n.d) ∧ w'.cell? ⟨b1, k * 6 + 5, none⟩ = some (.int .i64 s.2.e)) ∧ (w'.cell? ⟨bo, s.1 * 5, none⟩ = some (.int .i64 y.n.a) ∧ w'.cell? ⟨bo, s.1 * 5 + 1, none⟩ = some (.int .i64 y.n.b) ∧ w'.cell? ⟨bo, s.1 * 5 + 2, none⟩ = some (.int .i64 y.n.c) ∧ w'.cell? ⟨bo, s.1 * 5 + 3, none⟩ = some (.int .i64 y.n.d) ∧ w'.cell? ⟨bo, s.1 * 5 + 4, none⟩ = some (.int .i64 y.e)) ∧ (w'.cell? ⟨s1, 0, none⟩ = some (.int .i64 z.n.a) ∧ w'.cell? ⟨s1, 1, none⟩ = some (.int .i64 z.n.b) ∧ w'.cell? ⟨s1, 2, none⟩ = some (.int .i64 z.n.c) ∧ w'.cell? ⟨s1, 3, none⟩ = some (.int .i64 z.n.d) ∧ w'.cell? ⟨s1, 4, none⟩ = some (.int .i64 z.e))) (by kernel_rfl) (HK.out _ (Ext.refl w17).drew) (fun hHeld => ?_)
       (refine tk 0 (v := ?_) ?_ ?_; rotate_left; · (intro w hSw; (try dsimp only at hSw); go_simp; all_goals with_reducible rfl))
       (try simp only [Act.put, L1, L2, L3, L4, L5, L6])
       (refine tk 1 (v := ?_) ?_ ?_; rotate_left; · (intro w hSw; (try dsimp only at hSw); go_simp; all_goals with_reducible rfl))
       (try simp only [Act.put, L1, L2, L3, L4, L5, L6])
       (refine tk 2 (v := ?_) ?_ ?_; rotate_left; · (intro w hSw; (try dsimp only at hSw); go_simp; all_goals with_reducible rfl))
       (try simp only [Act.put, L1, L2, L3, L4, L5, L6])
       (refine tk 3 (v := ?_) ?_ ?_; rotate_left; · (intro w hSw; (try dsimp only at hSw); go_simp; all_goals with_reducible rfl))
       (try simp only [Act.put, L1, L2, L3, L4, L5, L6])
       (refine tk 4 (v := ?_) ?_ ?_; rotate_left; · (intro w hSw; (try dsimp only at hSw); go_simp; all_goals with_reducible rfl))
       (try simp only [Act.put, L1, L2, L3, L4, L5, L6])
       (refine tk 5 (v := ?_) ?_ ?_; rotate_left; · (intro w hSw; (try dsimp only at hSw); go_simp; all_goals with_reducible rfl))
       (try simp only [Act.put, L1, L2, L3, L4, L5, L6])
       (refine tk 6 (v := ?_) ?_ ?_; rotate_left; · (intro w hSw; (try dsimp only at hSw); go_simp; all_goals with_reducible rfl))
       (try simp only [Act.put, L1, L2, L3, L4, L5, L6])
       (refine tk 7 (v := ?_) ?_ ?_; rotate_left; · (intro w hSw; (try dsimp only at hSw); go_simp; all_goals with_reducible rfl))
       (try simp only [Act.put, L1, L2, L3, L4, L5, L6])
       (refine tk 8 (v := ?_) ?_ ?_; rotate_left; · (intro w hSw; (try dsimp only at hSw); go_simp; all_goals with_reducible rfl))
       (try simp only [Act.put, L1, L2, L3, L4, L5, L6])
       refine wpAnyH_ready (rs := [9, 13]) (by kernel_rfl) (by simp) ?_
       refine AllReadyH.cons rfl (fun K hK => ?_) (AllReadyH.cons rfl (fun K hK => ?_) AllReadyH.nil)
       ·go_simp
        refine (HCA.out _).mono ?_
        rintro e v25 ⟨rfl, hy5⟩
        have HY5 : Hid (Ext w17 v25) := Ext.trans (Ext.refl w17).drew hy5
        clear hy5
        refine hK.out _ _ (HK.out _ (HY5.out)) (fun hHeld => ?_)
        clear hK K
        (try simp only [Act.put, L1, L2, L3, L4, L5, L6])
        (refine tk 10 (v := ?_) ?_ ?_; rotate_left; · (intro w hSw; (try dsimp only at hSw); go_simp; all_goals with_reducible rfl))
        (try simp only [Act.put, L1, L2, L3, L4, L5, L6])
        (refine tk 11 (v := ?_) ?_ ?_; rotate_left; · (intro w hSw; (try dsimp only at hSw); go_simp; all_goals with_reducible rfl))
        (try simp only [Act.put, L1, L2, L3, L4, L5, L6])
        (refine tk 12 (v := ?_) ?_ ?_; rotate_left; · (intro w hSw; (try dsimp only at hSw); go_simp; all_goals with_reducible rfl))
        (try simp only [Act.put, L1, L2, L3, L4, L5, L6])
        refine wpAnyH_ready (rs := [13]) (by kernel_rfl) (by simp) ?_
        refine AllReadyH.cons rfl (fun K hK => ?_) AllReadyH.nil
        go_simp
        have HX26 : Hid (Ext w17 (v25.alloc (.cells #[.int .i64 0, .int .i64 0, .int .i64 0, .int .i64 0, .int .i64 0] 91))) := HY5.out.alloc _
        have HB26 : Hid (Blk (v25.alloc (.cells #[.int .i64 0, .int .i64 0, .int .i64 0, .int .i64 0, .int .i64 0] 91)) v25.heap.size 91 #[.int .i64 0, .int .i64 0, .int .i64 0, .int .i64 0, .int .i64 0]) := Blk.new _ _ _
        have hs26 : w17.heap.size ≤ v25.heap.size := HY5.out.size
        refine hK.out _ _ (HK.out _ (HX26.out)) (fun hHeld => ?_)
        clear hK K
        (try simp only [Act.put, L1, L2, L3, L4, L5, L6])
        generalize v25.alloc (.cells #[.int .i64 0, .int .i64 0, .int .i64 0, .int .i64 0, .int .i64 0] 91) = w26 at *
        generalize v25.heap.size = s2 at *
        clear HY5
        refine wpAnyH_ready (rs := [14]) (by kernel_rfl) (by simp) ?_
        refine AllReadyH.cons rfl (fun K hK => ?_) AllReadyH.nil
        obtain ⟨⟨q0, q1, q2, q3, q4⟩, f0, f1, f2, f3, f4⟩ := cells5 HB26.out
        go_simp
        have HX27 : Hid (Ext w17 (((((w26.setCell ⟨s2, 0, none⟩ (.int .i64 y'.n.a)).setCell ⟨s2, 1, none⟩ (.int .i64 y'.n.b)).setCell ⟨s2, 2, none⟩ (.int .i64 y'.n.c)).setCell ⟨s2, 3, none⟩ (.int .i64 y'.n.d)).setCell ⟨s2, 4, none⟩ (.int .i64 y'.e))) := ext_put5 (g := s2) HX26.out hs26 _ _ _ _ _
        have HB27 : Hid (Blk (((((w26.setCell ⟨s2, 0, none⟩ (.int .i64 y'.n.a)).setCell ⟨s2, 1, none⟩ (.int .i64 y'.n.b)).setCell ⟨s2, 2, none⟩ (.int .i64 y'.n.c)).setCell ⟨s2, 3, none⟩ (.int .i64 y'.n.d)).setCell ⟨s2, 4, none⟩ (.int .i64 y'.e)) s2 91 #[.int .i64 y'.n.a, .int .i64 y'.n.b, .int .i64 y'.n.c, .int .i64 y'.n.d, .int .i64 y'.e]) := HB26.out.put5 _ _ _ _ _
        refine hK.out _ _ (HK.out _ (HX27.out)) (fun hHeld => ?_)
        clear hK K
        (try simp only [Act.put, L1, L2, L3, L4, L5, L6])
        (refine tk 15 (v := ?_) ?_ ?_; rotate_left; · (intro w hSw; (try dsimp only at hSw); go_simp; all_goals with_reducible rfl))
        (try simp only [Act.put, L1, L2, L3, L4, L5, L6])
        (refine wpAnyH_done (by kernel_rfl) ?_ _)
        clear q0 q1 q2 q3 q4 f0 f1 f2 f3 f4 hHeld
        generalize (((((w26.setCell ⟨s2, 0, none⟩ (.int .i64 y'.n.a)).setCell ⟨s2, 1, none⟩ (.int .i64 y'.n.b)).setCell ⟨s2, 2, none⟩ (.int .i64 y'.n.c)).setCell ⟨s2, 3, none⟩ (.int .i64 y'.n.d)).setCell ⟨s2, 4, none⟩ (.int .i64 y'.e)) = w27 at *
        clear HX26 HB26 HK
        obtain ⟨⟨t0, t1, t2, t3, t4⟩, -⟩ := cells5 HB27.out
        go_upto_region 16 with (fail)
        clear t0 t1 t2 t3 t4
        have HSO := Lib.hid (HSO1.out.ext HX27.out)
        have HSN := Lib.hid (HSN1.out.ext HX27.out)
        have HGB := Lib.hid (HGB1.out.ext HX27.out)
        have hne1 : b1 ≠ bo := by obtain ⟨cs, hcs, -⟩ := HSO.out; exact SN.ne HSN.out hcs
        have hne2 : s2 ≠ bo := by have := HBO1.out; omega
        have HK : Hid (∀ w', Ext w27 w' → w'.cell? ⟨b1, k * 6, none⟩ = some (.int .i64 s.1) ∧ (w'.cell? ⟨s2, 0, none⟩ = some (.int .i64 y'.n.a) ∧ w'.cell? ⟨s2, 1, none⟩ = some (.int .i64 y'.n.b) ∧ w'.cell? ⟨s2, 2, none⟩ = some (.int .i64 y'.n.c) ∧ w'.cell? ⟨s2, 3, none⟩ = some (.int .i64 y'.n.d) ∧ w'.cell? ⟨s2, 4, none⟩ = some (.int .i64 y'.e))) := fun w' hx => ⟨(SN.at_ (HSN.out.ext hx) HS0.out).1, (cells5 (HB27.out.ext hx)).1⟩
        refine wp_region_held_drew (S := fun w' => w'.cell? ⟨b1, k * 6, none⟩ = some (.int .i64 s.1) ∧ (w'.cell? ⟨s2, 0, none⟩ = some (.int .i64 y'.n.a) ∧ w'.cell? ⟨s2, 1, none⟩ = some (.int .i64 y'.n.b) ∧ w'.cell? ⟨s2, 2, none⟩ = some (.int .i64 y'.n.c) ∧ w'.cell? ⟨s2, 3, none⟩ = some (.int .i64 y'.n.d) ∧ w'.cell? ⟨s2, 4, none⟩ = some (.int .i64 y'.e))) (by kernel_rfl) (HK.out _ (Ext.refl w27).drew) (fun hHeld => ?_)
        (refine tk 0 (v := ?_) ?_ ?_; rotate_left; · (intro w hSw; (try dsimp only at hSw); go_simp; all_goals with_reducible rfl))
        (try simp only [Act.put, L1, L2, L3, L4, L5, L6])
        (refine tk 1 (v := ?_) ?_ ?_; rotate_left; · (intro w hSw; (try dsimp only at hSw); go_simp; all_goals with_reducible rfl))
        (try simp only [Act.put, L1, L2, L3, L4, L5, L6])
        (refine tk 2 (v := ?_) ?_ ?_; rotate_left; · (intro w hSw; (try dsimp only at hSw); go_simp; all_goals with_reducible rfl))
        (try simp only [Act.put, L1, L2, L3, L4, L5, L6])
        (refine tk 3 (v := ?_) ?_ ?_; rotate_left; · (intro w hSw; (try dsimp only at hSw); go_simp; all_goals with_reducible rfl))
        (try simp only [Act.put, L1, L2, L3, L4, L5, L6])
        (refine tk 4 (v := ?_) ?_ ?_; rotate_left; · (intro w hSw; (try dsimp only at hSw); go_simp; all_goals with_reducible rfl))
        (try simp only [Act.put, L1, L2, L3, L4, L5, L6])
        (refine tk 5 (v := ?_) ?_ ?_; rotate_left; · (intro w hSw; (try dsimp only at hSw); go_simp; all_goals with_reducible rfl))
        (try simp only [Act.put, L1, L2, L3, L4, L5, L6])
        (refine tk 6 (v := ?_) ?_ ?_; rotate_left; · (intro w hSw; (try dsimp only at hSw); go_simp; all_goals with_reducible rfl))
        (try simp only [Act.put, L1, L2, L3, L4, L5, L6])
        (refine tk 7 (v := ?_) ?_ ?_; rotate_left; · (intro w hSw; (try dsimp only at hSw); go_simp; all_goals with_reducible rfl))
        (try simp only [Act.put, L1, L2, L3, L4, L5, L6])
        refine wpAnyH_ready (rs := [8]) (by kernel_rfl) (by simp) ?_
        refine AllReadyH.cons rfl (fun K hK => ?_) AllReadyH.nil
        obtain ⟨⟨c0, c1, c2, c3, c4⟩, f0, f1, f2, f3, f4⟩ := HSO.out.at_ HY0.out
        go_simp
        refine hK.out _ _ ⟨(SN.at_ (SN.ext (SN.put (i := s.1) (x := y') HSN.out hne1) (Ext.refl _).drew) HS0.out).1, (cells5 (Blk.ext (far_put5at (i := s.1) (x := y') HB27.out hne2) (Ext.refl _).drew)).1⟩ (fun hHeld => ?_)
        clear hK K
        (try simp only [Act.put, L1, L2, L3, L4, L5, L6])
        (refine wpAnyH_done (by kernel_rfl) ?_ _)
        have HSO8 : Hid (SB (((((w27.setCell ⟨bo, s.1 * 5, none⟩ (.int .i64 y'.n.a)).setCell ⟨bo, s.1 * 5 + 1, none⟩ (.int .i64 y'.n.b)).setCell ⟨bo, s.1 * 5 + 2, none⟩ (.int .i64 y'.n.c)).setCell ⟨bo, s.1 * 5 + 3, none⟩ (.int .i64 y'.n.d)).setCell ⟨bo, s.1 * 5 + 4, none⟩ (.int .i64 y'.e)).drew bo (o i (k + 1))) := by
         unfold Hid
         rw [HNX.out]
         exact SB.ext (HSO.out.put (by rw [HOL.out]; exact HAT.out) y') (Ext.refl _).drew
        have HSN8 : Hid (SN (((((w27.setCell ⟨bo, s.1 * 5, none⟩ (.int .i64 y'.n.a)).setCell ⟨bo, s.1 * 5 + 1, none⟩ (.int .i64 y'.n.b)).setCell ⟨bo, s.1 * 5 + 2, none⟩ (.int .i64 y'.n.c)).setCell ⟨bo, s.1 * 5 + 3, none⟩ (.int .i64 y'.n.d)).setCell ⟨bo, s.1 * 5 + 4, none⟩ (.int .i64 y'.e)).drew b1 (sent g i)) := SN.ext (SN.put (i := s.1) (x := y') HSN.out hne1) (Ext.refl _).drew
        have HGB8 : Hid (GB w (((((w27.setCell ⟨bo, s.1 * 5, none⟩ (.int .i64 y'.n.a)).setCell ⟨bo, s.1 * 5 + 1, none⟩ (.int .i64 y'.n.b)).setCell ⟨bo, s.1 * 5 + 2, none⟩ (.int .i64 y'.n.c)).setCell ⟨bo, s.1 * 5 + 3, none⟩ (.int .i64 y'.n.d)).setCell ⟨bo, s.1 * 5 + 4, none⟩ (.int .i64 y'.e)).drew g) := GB.ext (HGB.out.put (i := s.1) (x := y') HBO.out) (Ext.refl _).drew
        clear c0 c1 c2 c3 c4 f0 f1 f2 f3 f4 hHeld HSO HSN HGB HK
        generalize (((((w27.setCell ⟨bo, s.1 * 5, none⟩ (.int .i64 y'.n.a)).setCell ⟨bo, s.1 * 5 + 1, none⟩ (.int .i64 y'.n.b)).setCell ⟨bo, s.1 * 5 + 2, none⟩ (.int .i64 y'.n.c)).setCell ⟨bo, s.1 * 5 + 3, none⟩ (.int .i64 y'.n.d)).setCell ⟨bo, s.1 * 5 + 4, none⟩ (.int .i64 y'.e)).drew = w8 at *
        go_wp2
        go_roundw
        case rel => exact ⟨k + 1, by first | rfl | rw [hj1] | rw [hj2], by have := HKT.out; omega, HSO8, HSN8, HGB8⟩
        case measure => simp [intOf, hj2]; have := HKT.out; omega
       ·go_simp
        refine hK.out _ _ (HK.out _ (((Ext.refl w17).alloc _).drew)) (fun hHeld => ?_)
        clear hK K
        (try simp only [Act.put, L1, L2, L3, L4, L5, L6])
        refine wpAnyH_ready (rs := [9]) (by kernel_rfl) (by simp) ?_
        refine AllReadyH.cons rfl (fun K hK => ?_) AllReadyH.nil
        go_simp
        refine (HCA.out _).mono ?_
        rintro e w26 ⟨rfl, hy5⟩
        have HX26 : Hid (Ext w17 w26) := Ext.trans ((Ext.refl w17).alloc (.cells #[.int .i64 0, .int .i64 0, .int .i64 0, .int .i64 0, .int .i64 0] 91)).drew hy5
        have HB26 : Hid (Blk w26 w17.heap.size 91 #[.int .i64 0, .int .i64 0, .int .i64 0, .int .i64 0, .int .i64 0]) := ((Blk.new w17 91 #[.int .i64 0, .int .i64 0, .int .i64 0, .int .i64 0, .int .i64 0]).ext ((Ext.refl _).drew)).ext hy5
        have hs26 : w17.heap.size ≤ w17.heap.size := Nat.le_refl _
        clear hy5
        refine hK.out _ _ (HK.out _ (HX26.out)) (fun hHeld => ?_)
        clear hK K
        (try simp only [Act.put, L1, L2, L3, L4, L5, L6])
        (refine tk 10 (v := ?_) ?_ ?_; rotate_left; · (intro w hSw; (try dsimp only at hSw); go_simp; all_goals with_reducible rfl))
        (try simp only [Act.put, L1, L2, L3, L4, L5, L6])
        (refine tk 11 (v := ?_) ?_ ?_; rotate_left; · (intro w hSw; (try dsimp only at hSw); go_simp; all_goals with_reducible rfl))
        (try simp only [Act.put, L1, L2, L3, L4, L5, L6])
        (refine tk 12 (v := ?_) ?_ ?_; rotate_left; · (intro w hSw; (try dsimp only at hSw); go_simp; all_goals with_reducible rfl))
        (try simp only [Act.put, L1, L2, L3, L4, L5, L6])
        obtain ⟨s2, hs⟩ : ∃ s, s = w17.heap.size := ⟨_, rfl⟩
        rw [← hs] at HB26 ⊢
        replace hs26 : w17.heap.size ≤ s2 := by rw [hs]; exact Nat.le_refl _
        clear hs
        refine wpAnyH_ready (rs := [14]) (by kernel_rfl) (by simp) ?_
        refine AllReadyH.cons rfl (fun K hK => ?_) AllReadyH.nil
        obtain ⟨⟨q0, q1, q2, q3, q4⟩, f0, f1, f2, f3, f4⟩ := cells5 HB26.out
        go_simp
        have HX27 : Hid (Ext w17 (((((w26.setCell ⟨s2, 0, none⟩ (.int .i64 y'.n.a)).setCell ⟨s2, 1, none⟩ (.int .i64 y'.n.b)).setCell ⟨s2, 2, none⟩ (.int .i64 y'.n.c)).setCell ⟨s2, 3, none⟩ (.int .i64 y'.n.d)).setCell ⟨s2, 4, none⟩ (.int .i64 y'.e))) := ext_put5 (g := s2) HX26.out hs26 _ _ _ _ _
        have HB27 : Hid (Blk (((((w26.setCell ⟨s2, 0, none⟩ (.int .i64 y'.n.a)).setCell ⟨s2, 1, none⟩ (.int .i64 y'.n.b)).setCell ⟨s2, 2, none⟩ (.int .i64 y'.n.c)).setCell ⟨s2, 3, none⟩ (.int .i64 y'.n.d)).setCell ⟨s2, 4, none⟩ (.int .i64 y'.e)) s2 91 #[.int .i64 y'.n.a, .int .i64 y'.n.b, .int .i64 y'.n.c, .int .i64 y'.n.d, .int .i64 y'.e]) := HB26.out.put5 _ _ _ _ _
        refine hK.out _ _ (HK.out _ (HX27.out)) (fun hHeld => ?_)
        clear hK K
        (try simp only [Act.put, L1, L2, L3, L4, L5, L6])
        (refine tk 15 (v := ?_) ?_ ?_; rotate_left; · (intro w hSw; (try dsimp only at hSw); go_simp; all_goals with_reducible rfl))
        (try simp only [Act.put, L1, L2, L3, L4, L5, L6])
        (refine wpAnyH_done (by kernel_rfl) ?_ _)
        clear q0 q1 q2 q3 q4 f0 f1 f2 f3 f4 hHeld
        generalize (((((w26.setCell ⟨s2, 0, none⟩ (.int .i64 y'.n.a)).setCell ⟨s2, 1, none⟩ (.int .i64 y'.n.b)).setCell ⟨s2, 2, none⟩ (.int .i64 y'.n.c)).setCell ⟨s2, 3, none⟩ (.int .i64 y'.n.d)).setCell ⟨s2, 4, none⟩ (.int .i64 y'.e)) = w27 at *
        clear HX26 HB26 HK
        obtain ⟨⟨t0, t1, t2, t3, t4⟩, -⟩ := cells5 HB27.out
        go_upto_region 16 with (fail)
        clear t0 t1 t2 t3 t4
        have HSO := Lib.hid (HSO1.out.ext HX27.out)
        have HSN := Lib.hid (HSN1.out.ext HX27.out)
        have HGB := Lib.hid (HGB1.out.ext HX27.out)
        have hne1 : b1 ≠ bo := by obtain ⟨cs, hcs, -⟩ := HSO.out; exact SN.ne HSN.out hcs
        have hne2 : s2 ≠ bo := by have := HBO1.out; omega
        have HK : Hid (∀ w', Ext w27 w' → w'.cell? ⟨b1, k * 6, none⟩ = some (.int .i64 s.1) ∧ (w'.cell? ⟨s2, 0, none⟩ = some (.int .i64 y'.n.a) ∧ w'.cell? ⟨s2, 1, none⟩ = some (.int .i64 y'.n.b) ∧ w'.cell? ⟨s2, 2, none⟩ = some (.int .i64 y'.n.c) ∧ w'.cell? ⟨s2, 3, none⟩ = some (.int .i64 y'.n.d) ∧ w'.cell? ⟨s2, 4, none⟩ = some (.int .i64 y'.e))) := fun w' hx => ⟨(SN.at_ (HSN.out.ext hx) HS0.out).1, (cells5 (HB27.out.ext hx)).1⟩
        refine wp_region_held_drew (S := fun w' => w'.cell? ⟨b1, k * 6, none⟩ = some (.int .i64 s.1) ∧ (w'.cell? ⟨s2, 0, none⟩ = some (.int .i64 y'.n.a) ∧ w'.cell? ⟨s2, 1, none⟩ = some (.int .i64 y'.n.b) ∧ w'.cell? ⟨s2, 2, none⟩ = some (.int .i64 y'.n.c) ∧ w'.cell? ⟨s2, 3, none⟩ = some (.int .i64 y'.n.d) ∧ w'.cell? ⟨s2, 4, none⟩ = some (.int .i64 y'.e))) (by kernel_rfl) (HK.out _ (Ext.refl w27).drew) (fun hHeld => ?_)
        (refine tk 0 (v := ?_) ?_ ?_; rotate_left; · (intro w hSw; (try dsimp only at hSw); go_simp; all_goals with_reducible rfl))
        (try simp only [Act.put, L1, L2, L3, L4, L5, L6])
        (refine tk 1 (v := ?_) ?_ ?_; rotate_left; · (intro w hSw; (try dsimp only at hSw); go_simp; all_goals with_reducible rfl))
        (try simp only [Act.put, L1, L2, L3, L4, L5, L6])
        (refine tk 2 (v := ?_) ?_ ?_; rotate_left; · (intro w hSw; (try dsimp only at hSw); go_simp; all_goals with_reducible rfl))
        (try simp only [Act.put, L1, L2, L3, L4, L5, L6])
        (refine tk 3 (v := ?_) ?_ ?_; rotate_left; · (intro w hSw; (try dsimp only at hSw); go_simp; all_goals with_reducible rfl))
        (try simp only [Act.put, L1, L2, L3, L4, L5, L6])
        (refine tk 4 (v := ?_) ?_ ?_; rotate_left; · (intro w hSw; (try dsimp only at hSw); go_simp; all_goals with_reducible rfl))
        (try simp only [Act.put, L1, L2, L3, L4, L5, L6])
        (refine tk 5 (v := ?_) ?_ ?_; rotate_left; · (intro w hSw; (try dsimp only at hSw); go_simp; all_goals with_reducible rfl))
        (try simp only [Act.put, L1, L2, L3, L4, L5, L6])
        (refine tk 6 (v := ?_) ?_ ?_; rotate_left; · (intro w hSw; (try dsimp only at hSw); go_simp; all_goals with_reducible rfl))
        (try simp only [Act.put, L1, L2, L3, L4, L5, L6])
        (refine tk 7 (v := ?_) ?_ ?_; rotate_left; · (intro w hSw; (try dsimp only at hSw); go_simp; all_goals with_reducible rfl))
        (try simp only [Act.put, L1, L2, L3, L4, L5, L6])
        refine wpAnyH_ready (rs := [8]) (by kernel_rfl) (by simp) ?_
        refine AllReadyH.cons rfl (fun K hK => ?_) AllReadyH.nil
        obtain ⟨⟨c0, c1, c2, c3, c4⟩, f0, f1, f2, f3, f4⟩ := HSO.out.at_ HY0.out
        go_simp
        refine hK.out _ _ ⟨(SN.at_ (SN.ext (SN.put (i := s.1) (x := y') HSN.out hne1) (Ext.refl _).drew) HS0.out).1, (cells5 (Blk.ext (far_put5at (i := s.1) (x := y') HB27.out hne2) (Ext.refl _).drew)).1⟩ (fun hHeld => ?_)
        clear hK K
        (try simp only [Act.put, L1, L2, L3, L4, L5, L6])
        (refine wpAnyH_done (by kernel_rfl) ?_ _)
        have HSO8 : Hid (SB (((((w27.setCell ⟨bo, s.1 * 5, none⟩ (.int .i64 y'.n.a)).setCell ⟨bo, s.1 * 5 + 1, none⟩ (.int .i64 y'.n.b)).setCell ⟨bo, s.1 * 5 + 2, none⟩ (.int .i64 y'.n.c)).setCell ⟨bo, s.1 * 5 + 3, none⟩ (.int .i64 y'.n.d)).setCell ⟨bo, s.1 * 5 + 4, none⟩ (.int .i64 y'.e)).drew bo (o i (k + 1))) := by
         unfold Hid
         rw [HNX.out]
         exact SB.ext (HSO.out.put (by rw [HOL.out]; exact HAT.out) y') (Ext.refl _).drew
        have HSN8 : Hid (SN (((((w27.setCell ⟨bo, s.1 * 5, none⟩ (.int .i64 y'.n.a)).setCell ⟨bo, s.1 * 5 + 1, none⟩ (.int .i64 y'.n.b)).setCell ⟨bo, s.1 * 5 + 2, none⟩ (.int .i64 y'.n.c)).setCell ⟨bo, s.1 * 5 + 3, none⟩ (.int .i64 y'.n.d)).setCell ⟨bo, s.1 * 5 + 4, none⟩ (.int .i64 y'.e)).drew b1 (sent g i)) := SN.ext (SN.put (i := s.1) (x := y') HSN.out hne1) (Ext.refl _).drew
        have HGB8 : Hid (GB w (((((w27.setCell ⟨bo, s.1 * 5, none⟩ (.int .i64 y'.n.a)).setCell ⟨bo, s.1 * 5 + 1, none⟩ (.int .i64 y'.n.b)).setCell ⟨bo, s.1 * 5 + 2, none⟩ (.int .i64 y'.n.c)).setCell ⟨bo, s.1 * 5 + 3, none⟩ (.int .i64 y'.n.d)).setCell ⟨bo, s.1 * 5 + 4, none⟩ (.int .i64 y'.e)).drew g) := GB.ext (HGB.out.put (i := s.1) (x := y') HBO.out) (Ext.refl _).drew
        clear c0 c1 c2 c3 c4 f0 f1 f2 f3 f4 hHeld HSO HSN HGB HK
        generalize (((((w27.setCell ⟨bo, s.1 * 5, none⟩ (.int .i64 y'.n.a)).setCell ⟨bo, s.1 * 5 + 1, none⟩ (.int .i64 y'.n.b)).setCell ⟨bo, s.1 * 5 + 2, none⟩ (.int .i64 y'.n.c)).setCell ⟨bo, s.1 * 5 + 3, none⟩ (.int .i64 y'.n.d)).setCell ⟨bo, s.1 * 5 + 4, none⟩ (.int .i64 y'.e)).drew = w8 at *
        go_wp2
        go_roundw
        case rel => exact ⟨k + 1, by first | rfl | rw [hj1] | rw [hj2], by have := HKT.out; omega, HSO8, HSN8, HGB8⟩
        case measure => simp [intOf, hj2]; have := HKT.out; omega
      ·go_simp
       refine hK.out _ _ (HK.out _ (((Ext.refl wr).alloc _).drew)) (fun hHeld => ?_)
       clear hK K
       (try simp only [Act.put, L1, L2, L3, L4, L5, L6])
       refine wpAnyH_ready (rs := [9]) (by kernel_rfl) (by simp) ?_
       refine AllReadyH.cons rfl (fun K hK => ?_) AllReadyH.nil
       go_simp
       refine (HCM.out _).mono ?_
       rintro e w16 ⟨rfl, hy5⟩
       have HX16 : Hid (Ext wr w16) := Ext.trans ((Ext.refl wr).alloc (.cells #[.int .i64 0, .int .i64 0, .int .i64 0, .int .i64 0, .int .i64 0] 91)).drew hy5
       have HB16 : Hid (Blk w16 wr.heap.size 91 #[.int .i64 0, .int .i64 0, .int .i64 0, .int .i64 0, .int .i64 0]) := ((Blk.new wr 91 #[.int .i64 0, .int .i64 0, .int .i64 0, .int .i64 0, .int .i64 0]).ext ((Ext.refl _).drew)).ext hy5
       have hs16 : wr.heap.size ≤ wr.heap.size := Nat.le_refl _
       clear hy5
       refine hK.out _ _ (HK.out _ (HX16.out)) (fun hHeld => ?_)
       clear hK K
       (try simp only [Act.put, L1, L2, L3, L4, L5, L6])
       (refine tk 10 (v := ?_) ?_ ?_; rotate_left; · (intro w hSw; (try dsimp only at hSw); go_simp; all_goals with_reducible rfl))
       (try simp only [Act.put, L1, L2, L3, L4, L5, L6])
       (refine tk 11 (v := ?_) ?_ ?_; rotate_left; · (intro w hSw; (try dsimp only at hSw); go_simp; all_goals with_reducible rfl))
       (try simp only [Act.put, L1, L2, L3, L4, L5, L6])
       (refine tk 12 (v := ?_) ?_ ?_; rotate_left; · (intro w hSw; (try dsimp only at hSw); go_simp; all_goals with_reducible rfl))
       (try simp only [Act.put, L1, L2, L3, L4, L5, L6])
       obtain ⟨s1, hs⟩ : ∃ s, s = wr.heap.size := ⟨_, rfl⟩
       rw [← hs] at HB16 ⊢
       replace hs16 : wr.heap.size ≤ s1 := by rw [hs]; exact Nat.le_refl _
       clear hs
       refine wpAnyH_ready (rs := [14]) (by kernel_rfl) (by simp) ?_
       refine AllReadyH.cons rfl (fun K hK => ?_) AllReadyH.nil
       obtain ⟨⟨q0, q1, q2, q3, q4⟩, f0, f1, f2, f3, f4⟩ := cells5 HB16.out
       go_simp
       have HX17 : Hid (Ext wr (((((w16.setCell ⟨s1, 0, none⟩ (.int .i64 z.n.a)).setCell ⟨s1, 1, none⟩ (.int .i64 z.n.b)).setCell ⟨s1, 2, none⟩ (.int .i64 z.n.c)).setCell ⟨s1, 3, none⟩ (.int .i64 z.n.d)).setCell ⟨s1, 4, none⟩ (.int .i64 z.e))) := ext_put5 (g := s1) HX16.out hs16 _ _ _ _ _
       have HB17 : Hid (Blk (((((w16.setCell ⟨s1, 0, none⟩ (.int .i64 z.n.a)).setCell ⟨s1, 1, none⟩ (.int .i64 z.n.b)).setCell ⟨s1, 2, none⟩ (.int .i64 z.n.c)).setCell ⟨s1, 3, none⟩ (.int .i64 z.n.d)).setCell ⟨s1, 4, none⟩ (.int .i64 z.e)) s1 91 #[.int .i64 z.n.a, .int .i64 z.n.b, .int .i64 z.n.c, .int .i64 z.n.d, .int .i64 z.e]) := HB16.out.put5 _ _ _ _ _
       refine hK.out _ _ (HK.out _ (HX17.out)) (fun hHeld => ?_)
       clear hK K
       (try simp only [Act.put, L1, L2, L3, L4, L5, L6])
       (refine tk 15 (v := ?_) ?_ ?_; rotate_left; · (intro w hSw; (try dsimp only at hSw); go_simp; all_goals with_reducible rfl))
       (try simp only [Act.put, L1, L2, L3, L4, L5, L6])
       (refine wpAnyH_done (by kernel_rfl) ?_ _)
       clear q0 q1 q2 q3 q4 f0 f1 f2 f3 f4 hHeld
       generalize (((((w16.setCell ⟨s1, 0, none⟩ (.int .i64 z.n.a)).setCell ⟨s1, 1, none⟩ (.int .i64 z.n.b)).setCell ⟨s1, 2, none⟩ (.int .i64 z.n.c)).setCell ⟨s1, 3, none⟩ (.int .i64 z.n.d)).setCell ⟨s1, 4, none⟩ (.int .i64 z.e)) = w17 at *
       clear HX16 HB16 HK
       have HSO1 := Lib.hid (HSO0.out.ext HX17.out)
       have HSN1 := Lib.hid (HSN0.out.ext HX17.out)
       have HGB1 := Lib.hid (HGB0.out.ext HX17.out)
       clear HX17
       have HK : Hid (∀ w', Ext w17 w' → (w'.cell? ⟨b1, k * 6, none⟩ = some (.int .i64 s.1) ∧ w'.cell? ⟨b1, k * 6 + 1, none⟩ = some (.int .i64 s.2.n.a) ∧ w'.cell? ⟨b1, k * 6 + 2, none⟩ = some (.int .i64 s.2.n.b) ∧ w'.cell? ⟨b1, k * 6 + 3, none⟩ = some (.int .i64 s.2.n.c) ∧ w'.cell? ⟨b1, k * 6 + 4, none⟩ = some (.int .i64 s.2.n.d) ∧ w'.cell? ⟨b1, k * 6 + 5, none⟩ = some (.int .i64 s.2.e)) ∧ (w'.cell? ⟨bo, s.1 * 5, none⟩ = some (.int .i64 y.n.a) ∧ w'.cell? ⟨bo, s.1 * 5 + 1, none⟩ = some (.int .i64 y.n.b) ∧ w'.cell? ⟨bo, s.1 * 5 + 2, none⟩ = some (.int .i64 y.n.c) ∧ w'.cell? ⟨bo, s.1 * 5 + 3, none⟩ = some (.int .i64 y.n.d) ∧ w'.cell? ⟨bo, s.1 * 5 + 4, none⟩ = some (.int .i64 y.e)) ∧ (w'.cell? ⟨s1, 0, none⟩ = some (.int .i64 z.n.a) ∧ w'.cell? ⟨s1, 1, none⟩ = some (.int .i64 z.n.b) ∧ w'.cell? ⟨s1, 2, none⟩ = some (.int .i64 z.n.c) ∧ w'.cell? ⟨s1, 3, none⟩ = some (.int .i64 z.n.d) ∧ w'.cell? ⟨s1, 4, none⟩ = some (.int .i64 z.e))) := fun w' hx => ⟨SN.at_ (HSN1.out.ext hx) HS0.out, (SB.at_ (HSO1.out.ext hx) HY0.out).1, (cells5 (HB17.out.ext hx)).1⟩
       have HBO1 : Hid (bo < w17.heap.size) := by obtain ⟨cs, hcs, -⟩ := HSO1.out; exact hcs.lt
       have hat : s.1 < l := HAT.out
       go_upto_region 13 with (fail)
       refine wp_region_held_drew (S := fun w' => (w'.cell? ⟨b1, k * 6, none⟩ = some (.int .i64 s.1) ∧ w'.cell? ⟨b1, k * 6 + 1, none⟩ = some (.int .i64 s.2.n.a) ∧ w'.cell? ⟨b1, k * 6 + 2, none⟩ = some (.int .i64 s.2.n.b) ∧ w'.cell? ⟨b1, k * 6 + 3, none⟩ = some (.int .i64 s.2.n.c) ∧ w'.cell? ⟨b1, k * 6 + 4, none⟩ = some (.int .i64 s.2.n.d) ∧ w'.cell? ⟨b1, k * 6 + 5, none⟩ = some (.int .i64 s.2.e)) ∧ (w'.cell? ⟨bo, s.1 * 5, none⟩ = some (.int .i64 y.n.a) ∧ w'.cell? ⟨bo, s.1 * 5 + 1, none⟩ = some (.int .i64 y.n.b) ∧ w'.cell? ⟨bo, s.1 * 5 + 2, none⟩ = some (.int .i64 y.n.c) ∧ w'.cell? ⟨bo, s.1 * 5 + 3, none⟩ = some (.int .i64 y.n.d) ∧ w'.cell? ⟨bo, s.1 * 5 + 4, none⟩ = some (.int .i64 y.e)) ∧ (w'.cell? ⟨s1, 0, none⟩ = some (.int .i64 z.n.a) ∧ w'.cell? ⟨s1, 1, none⟩ = some (.int .i64 z.n.b) ∧ w'.cell? ⟨s1, 2, none⟩ = some (.int .i64 z.n.c) ∧ w'.cell? ⟨s1, 3, none⟩ = some (.int .i64 z.n.d) ∧ w'.cell? ⟨s1, 4, none⟩ = some (.int .i64 z.e))) (by kernel_rfl) (HK.out _ (Ext.refl w17).drew) (fun hHeld => ?_)
       (refine tk 0 (v := ?_) ?_ ?_; rotate_left; · (intro w hSw; (try dsimp only at hSw); go_simp; all_goals with_reducible rfl))
       (try simp only [Act.put, L1, L2, L3, L4, L5, L6])
       (refine tk 1 (v := ?_) ?_ ?_; rotate_left; · (intro w hSw; (try dsimp only at hSw); go_simp; all_goals with_reducible rfl))
       (try simp only [Act.put, L1, L2, L3, L4, L5, L6])
       (refine tk 2 (v := ?_) ?_ ?_; rotate_left; · (intro w hSw; (try dsimp only at hSw); go_simp; all_goals with_reducible rfl))
       (try simp only [Act.put, L1, L2, L3, L4, L5, L6])
       (refine tk 3 (v := ?_) ?_ ?_; rotate_left; · (intro w hSw; (try dsimp only at hSw); go_simp; all_goals with_reducible rfl))
       (try simp only [Act.put, L1, L2, L3, L4, L5, L6])
       (refine tk 4 (v := ?_) ?_ ?_; rotate_left; · (intro w hSw; (try dsimp only at hSw); go_simp; all_goals with_reducible rfl))
       (try simp only [Act.put, L1, L2, L3, L4, L5, L6])
       (refine tk 5 (v := ?_) ?_ ?_; rotate_left; · (intro w hSw; (try dsimp only at hSw); go_simp; all_goals with_reducible rfl))
       (try simp only [Act.put, L1, L2, L3, L4, L5, L6])
       (refine tk 6 (v := ?_) ?_ ?_; rotate_left; · (intro w hSw; (try dsimp only at hSw); go_simp; all_goals with_reducible rfl))
       (try simp only [Act.put, L1, L2, L3, L4, L5, L6])
       (refine tk 7 (v := ?_) ?_ ?_; rotate_left; · (intro w hSw; (try dsimp only at hSw); go_simp; all_goals with_reducible rfl))
       (try simp only [Act.put, L1, L2, L3, L4, L5, L6])
       (refine tk 8 (v := ?_) ?_ ?_; rotate_left; · (intro w hSw; (try dsimp only at hSw); go_simp; all_goals with_reducible rfl))
       (try simp only [Act.put, L1, L2, L3, L4, L5, L6])
       refine wpAnyH_ready (rs := [9, 13]) (by kernel_rfl) (by simp) ?_
       refine AllReadyH.cons rfl (fun K hK => ?_) (AllReadyH.cons rfl (fun K hK => ?_) AllReadyH.nil)
       ·go_simp
        refine (HCA.out _).mono ?_
        rintro e v25 ⟨rfl, hy5⟩
        have HY5 : Hid (Ext w17 v25) := Ext.trans (Ext.refl w17).drew hy5
        clear hy5
        refine hK.out _ _ (HK.out _ (HY5.out)) (fun hHeld => ?_)
        clear hK K
        (try simp only [Act.put, L1, L2, L3, L4, L5, L6])
        (refine tk 10 (v := ?_) ?_ ?_; rotate_left; · (intro w hSw; (try dsimp only at hSw); go_simp; all_goals with_reducible rfl))
        (try simp only [Act.put, L1, L2, L3, L4, L5, L6])
        (refine tk 11 (v := ?_) ?_ ?_; rotate_left; · (intro w hSw; (try dsimp only at hSw); go_simp; all_goals with_reducible rfl))
        (try simp only [Act.put, L1, L2, L3, L4, L5, L6])
        (refine tk 12 (v := ?_) ?_ ?_; rotate_left; · (intro w hSw; (try dsimp only at hSw); go_simp; all_goals with_reducible rfl))
        (try simp only [Act.put, L1, L2, L3, L4, L5, L6])
        refine wpAnyH_ready (rs := [13]) (by kernel_rfl) (by simp) ?_
        refine AllReadyH.cons rfl (fun K hK => ?_) AllReadyH.nil
        go_simp
        have HX26 : Hid (Ext w17 (v25.alloc (.cells #[.int .i64 0, .int .i64 0, .int .i64 0, .int .i64 0, .int .i64 0] 91))) := HY5.out.alloc _
        have HB26 : Hid (Blk (v25.alloc (.cells #[.int .i64 0, .int .i64 0, .int .i64 0, .int .i64 0, .int .i64 0] 91)) v25.heap.size 91 #[.int .i64 0, .int .i64 0, .int .i64 0, .int .i64 0, .int .i64 0]) := Blk.new _ _ _
        have hs26 : w17.heap.size ≤ v25.heap.size := HY5.out.size
        refine hK.out _ _ (HK.out _ (HX26.out)) (fun hHeld => ?_)
        clear hK K
        (try simp only [Act.put, L1, L2, L3, L4, L5, L6])
        generalize v25.alloc (.cells #[.int .i64 0, .int .i64 0, .int .i64 0, .int .i64 0, .int .i64 0] 91) = w26 at *
        generalize v25.heap.size = s2 at *
        clear HY5
        refine wpAnyH_ready (rs := [14]) (by kernel_rfl) (by simp) ?_
        refine AllReadyH.cons rfl (fun K hK => ?_) AllReadyH.nil
        obtain ⟨⟨q0, q1, q2, q3, q4⟩, f0, f1, f2, f3, f4⟩ := cells5 HB26.out
        go_simp
        have HX27 : Hid (Ext w17 (((((w26.setCell ⟨s2, 0, none⟩ (.int .i64 y'.n.a)).setCell ⟨s2, 1, none⟩ (.int .i64 y'.n.b)).setCell ⟨s2, 2, none⟩ (.int .i64 y'.n.c)).setCell ⟨s2, 3, none⟩ (.int .i64 y'.n.d)).setCell ⟨s2, 4, none⟩ (.int .i64 y'.e))) := ext_put5 (g := s2) HX26.out hs26 _ _ _ _ _
        have HB27 : Hid (Blk (((((w26.setCell ⟨s2, 0, none⟩ (.int .i64 y'.n.a)).setCell ⟨s2, 1, none⟩ (.int .i64 y'.n.b)).setCell ⟨s2, 2, none⟩ (.int .i64 y'.n.c)).setCell ⟨s2, 3, none⟩ (.int .i64 y'.n.d)).setCell ⟨s2, 4, none⟩ (.int .i64 y'.e)) s2 91 #[.int .i64 y'.n.a, .int .i64 y'.n.b, .int .i64 y'.n.c, .int .i64 y'.n.d, .int .i64 y'.e]) := HB26.out.put5 _ _ _ _ _
        refine hK.out _ _ (HK.out _ (HX27.out)) (fun hHeld => ?_)
        clear hK K
        (try simp only [Act.put, L1, L2, L3, L4, L5, L6])
        (refine tk 15 (v := ?_) ?_ ?_; rotate_left; · (intro w hSw; (try dsimp only at hSw); go_simp; all_goals with_reducible rfl))
        (try simp only [Act.put, L1, L2, L3, L4, L5, L6])
        (refine wpAnyH_done (by kernel_rfl) ?_ _)
        clear q0 q1 q2 q3 q4 f0 f1 f2 f3 f4 hHeld
        generalize (((((w26.setCell ⟨s2, 0, none⟩ (.int .i64 y'.n.a)).setCell ⟨s2, 1, none⟩ (.int .i64 y'.n.b)).setCell ⟨s2, 2, none⟩ (.int .i64 y'.n.c)).setCell ⟨s2, 3, none⟩ (.int .i64 y'.n.d)).setCell ⟨s2, 4, none⟩ (.int .i64 y'.e)) = w27 at *
        clear HX26 HB26 HK
        obtain ⟨⟨t0, t1, t2, t3, t4⟩, -⟩ := cells5 HB27.out
        go_upto_region 16 with (fail)
        clear t0 t1 t2 t3 t4
        have HSO := Lib.hid (HSO1.out.ext HX27.out)
        have HSN := Lib.hid (HSN1.out.ext HX27.out)
        have HGB := Lib.hid (HGB1.out.ext HX27.out)
        have hne1 : b1 ≠ bo := by obtain ⟨cs, hcs, -⟩ := HSO.out; exact SN.ne HSN.out hcs
        have hne2 : s2 ≠ bo := by have := HBO1.out; omega
        have HK : Hid (∀ w', Ext w27 w' → w'.cell? ⟨b1, k * 6, none⟩ = some (.int .i64 s.1) ∧ (w'.cell? ⟨s2, 0, none⟩ = some (.int .i64 y'.n.a) ∧ w'.cell? ⟨s2, 1, none⟩ = some (.int .i64 y'.n.b) ∧ w'.cell? ⟨s2, 2, none⟩ = some (.int .i64 y'.n.c) ∧ w'.cell? ⟨s2, 3, none⟩ = some (.int .i64 y'.n.d) ∧ w'.cell? ⟨s2, 4, none⟩ = some (.int .i64 y'.e))) := fun w' hx => ⟨(SN.at_ (HSN.out.ext hx) HS0.out).1, (cells5 (HB27.out.ext hx)).1⟩
        refine wp_region_held_drew (S := fun w' => w'.cell? ⟨b1, k * 6, none⟩ = some (.int .i64 s.1) ∧ (w'.cell? ⟨s2, 0, none⟩ = some (.int .i64 y'.n.a) ∧ w'.cell? ⟨s2, 1, none⟩ = some (.int .i64 y'.n.b) ∧ w'.cell? ⟨s2, 2, none⟩ = some (.int .i64 y'.n.c) ∧ w'.cell? ⟨s2, 3, none⟩ = some (.int .i64 y'.n.d) ∧ w'.cell? ⟨s2, 4, none⟩ = some (.int .i64 y'.e))) (by kernel_rfl) (HK.out _ (Ext.refl w27).drew) (fun hHeld => ?_)
        (refine tk 0 (v := ?_) ?_ ?_; rotate_left; · (intro w hSw; (try dsimp only at hSw); go_simp; all_goals with_reducible rfl))
        (try simp only [Act.put, L1, L2, L3, L4, L5, L6])
        (refine tk 1 (v := ?_) ?_ ?_; rotate_left; · (intro w hSw; (try dsimp only at hSw); go_simp; all_goals with_reducible rfl))
        (try simp only [Act.put, L1, L2, L3, L4, L5, L6])
        (refine tk 2 (v := ?_) ?_ ?_; rotate_left; · (intro w hSw; (try dsimp only at hSw); go_simp; all_goals with_reducible rfl))
        (try simp only [Act.put, L1, L2, L3, L4, L5, L6])
        (refine tk 3 (v := ?_) ?_ ?_; rotate_left; · (intro w hSw; (try dsimp only at hSw); go_simp; all_goals with_reducible rfl))
        (try simp only [Act.put, L1, L2, L3, L4, L5, L6])
        (refine tk 4 (v := ?_) ?_ ?_; rotate_left; · (intro w hSw; (try dsimp only at hSw); go_simp; all_goals with_reducible rfl))
        (try simp only [Act.put, L1, L2, L3, L4, L5, L6])
        (refine tk 5 (v := ?_) ?_ ?_; rotate_left; · (intro w hSw; (try dsimp only at hSw); go_simp; all_goals with_reducible rfl))
        (try simp only [Act.put, L1, L2, L3, L4, L5, L6])
        (refine tk 6 (v := ?_) ?_ ?_; rotate_left; · (intro w hSw; (try dsimp only at hSw); go_simp; all_goals with_reducible rfl))
        (try simp only [Act.put, L1, L2, L3, L4, L5, L6])
        (refine tk 7 (v := ?_) ?_ ?_; rotate_left; · (intro w hSw; (try dsimp only at hSw); go_simp; all_goals with_reducible rfl))
        (try simp only [Act.put, L1, L2, L3, L4, L5, L6])
        refine wpAnyH_ready (rs := [8]) (by kernel_rfl) (by simp) ?_
        refine AllReadyH.cons rfl (fun K hK => ?_) AllReadyH.nil
        obtain ⟨⟨c0, c1, c2, c3, c4⟩, f0, f1, f2, f3, f4⟩ := HSO.out.at_ HY0.out
        go_simp
        refine hK.out _ _ ⟨(SN.at_ (SN.ext (SN.put (i := s.1) (x := y') HSN.out hne1) (Ext.refl _).drew) HS0.out).1, (cells5 (Blk.ext (far_put5at (i := s.1) (x := y') HB27.out hne2) (Ext.refl _).drew)).1⟩ (fun hHeld => ?_)
        clear hK K
        (try simp only [Act.put, L1, L2, L3, L4, L5, L6])
        (refine wpAnyH_done (by kernel_rfl) ?_ _)
        have HSO8 : Hid (SB (((((w27.setCell ⟨bo, s.1 * 5, none⟩ (.int .i64 y'.n.a)).setCell ⟨bo, s.1 * 5 + 1, none⟩ (.int .i64 y'.n.b)).setCell ⟨bo, s.1 * 5 + 2, none⟩ (.int .i64 y'.n.c)).setCell ⟨bo, s.1 * 5 + 3, none⟩ (.int .i64 y'.n.d)).setCell ⟨bo, s.1 * 5 + 4, none⟩ (.int .i64 y'.e)).drew bo (o i (k + 1))) := by
         unfold Hid
         rw [HNX.out]
         exact SB.ext (HSO.out.put (by rw [HOL.out]; exact HAT.out) y') (Ext.refl _).drew
        have HSN8 : Hid (SN (((((w27.setCell ⟨bo, s.1 * 5, none⟩ (.int .i64 y'.n.a)).setCell ⟨bo, s.1 * 5 + 1, none⟩ (.int .i64 y'.n.b)).setCell ⟨bo, s.1 * 5 + 2, none⟩ (.int .i64 y'.n.c)).setCell ⟨bo, s.1 * 5 + 3, none⟩ (.int .i64 y'.n.d)).setCell ⟨bo, s.1 * 5 + 4, none⟩ (.int .i64 y'.e)).drew b1 (sent g i)) := SN.ext (SN.put (i := s.1) (x := y') HSN.out hne1) (Ext.refl _).drew
        have HGB8 : Hid (GB w (((((w27.setCell ⟨bo, s.1 * 5, none⟩ (.int .i64 y'.n.a)).setCell ⟨bo, s.1 * 5 + 1, none⟩ (.int .i64 y'.n.b)).setCell ⟨bo, s.1 * 5 + 2, none⟩ (.int .i64 y'.n.c)).setCell ⟨bo, s.1 * 5 + 3, none⟩ (.int .i64 y'.n.d)).setCell ⟨bo, s.1 * 5 + 4, none⟩ (.int .i64 y'.e)).drew g) := GB.ext (HGB.out.put (i := s.1) (x := y') HBO.out) (Ext.refl _).drew
        clear c0 c1 c2 c3 c4 f0 f1 f2 f3 f4 hHeld HSO HSN HGB HK
        generalize (((((w27.setCell ⟨bo, s.1 * 5, none⟩ (.int .i64 y'.n.a)).setCell ⟨bo, s.1 * 5 + 1, none⟩ (.int .i64 y'.n.b)).setCell ⟨bo, s.1 * 5 + 2, none⟩ (.int .i64 y'.n.c)).setCell ⟨bo, s.1 * 5 + 3, none⟩ (.int .i64 y'.n.d)).setCell ⟨bo, s.1 * 5 + 4, none⟩ (.int .i64 y'.e)).drew = w8 at *
        go_wp2
        go_roundw
        case rel => exact ⟨k + 1, by first | rfl | rw [hj1] | rw [hj2], by have := HKT.out; omega, HSO8, HSN8, HGB8⟩
        case measure => simp [intOf, hj2]; have := HKT.out; omega
       ·go_simp
        refine hK.out _ _ (HK.out _ (((Ext.refl w17).alloc _).drew)) (fun hHeld => ?_)
        clear hK K
        (try simp only [Act.put, L1, L2, L3, L4, L5, L6])
        refine wpAnyH_ready (rs := [9]) (by kernel_rfl) (by simp) ?_
        refine AllReadyH.cons rfl (fun K hK => ?_) AllReadyH.nil
        go_simp
        refine (HCA.out _).mono ?_
        rintro e w26 ⟨rfl, hy5⟩
        have HX26 : Hid (Ext w17 w26) := Ext.trans ((Ext.refl w17).alloc (.cells #[.int .i64 0, .int .i64 0, .int .i64 0, .int .i64 0, .int .i64 0] 91)).drew hy5
        have HB26 : Hid (Blk w26 w17.heap.size 91 #[.int .i64 0, .int .i64 0, .int .i64 0, .int .i64 0, .int .i64 0]) := ((Blk.new w17 91 #[.int .i64 0, .int .i64 0, .int .i64 0, .int .i64 0, .int .i64 0]).ext ((Ext.refl _).drew)).ext hy5
        have hs26 : w17.heap.size ≤ w17.heap.size := Nat.le_refl _
        clear hy5
        refine hK.out _ _ (HK.out _ (HX26.out)) (fun hHeld => ?_)
        clear hK K
        (try simp only [Act.put, L1, L2, L3, L4, L5, L6])
        (refine tk 10 (v := ?_) ?_ ?_; rotate_left; · (intro w hSw; (try dsimp only at hSw); go_simp; all_goals with_reducible rfl))
        (try simp only [Act.put, L1, L2, L3, L4, L5, L6])
        (refine tk 11 (v := ?_) ?_ ?_; rotate_left; · (intro w hSw; (try dsimp only at hSw); go_simp; all_goals with_reducible rfl))
        (try simp only [Act.put, L1, L2, L3, L4, L5, L6])
        (refine tk 12 (v := ?_) ?_ ?_; rotate_left; · (intro w hSw; (try dsimp only at hSw); go_simp; all_goals with_reducible rfl))
        (try simp only [Act.put, L1, L2, L3, L4, L5, L6])
        obtain ⟨s2, hs⟩ : ∃ s, s = w17.heap.size := ⟨_, rfl⟩
        rw [← hs] at HB26 ⊢
        replace hs26 : w17.heap.size ≤ s2 := by rw [hs]; exact Nat.le_refl _
        clear hs
        refine wpAnyH_ready (rs := [14]) (by kernel_rfl) (by simp) ?_
        refine AllReadyH.cons rfl (fun K hK => ?_) AllReadyH.nil
        obtain ⟨⟨q0, q1, q2, q3, q4⟩, f0, f1, f2, f3, f4⟩ := cells5 HB26.out
        go_simp
        have HX27 : Hid (Ext w17 (((((w26.setCell ⟨s2, 0, none⟩ (.int .i64 y'.n.a)).setCell ⟨s2, 1, none⟩ (.int .i64 y'.n.b)).setCell ⟨s2, 2, none⟩ (.int .i64 y'.n.c)).setCell ⟨s2, 3, none⟩ (.int .i64 y'.n.d)).setCell ⟨s2, 4, none⟩ (.int .i64 y'.e))) := ext_put5 (g := s2) HX26.out hs26 _ _ _ _ _
        have HB27 : Hid (Blk (((((w26.setCell ⟨s2, 0, none⟩ (.int .i64 y'.n.a)).setCell ⟨s2, 1, none⟩ (.int .i64 y'.n.b)).setCell ⟨s2, 2, none⟩ (.int .i64 y'.n.c)).setCell ⟨s2, 3, none⟩ (.int .i64 y'.n.d)).setCell ⟨s2, 4, none⟩ (.int .i64 y'.e)) s2 91 #[.int .i64 y'.n.a, .int .i64 y'.n.b, .int .i64 y'.n.c, .int .i64 y'.n.d, .int .i64 y'.e]) := HB26.out.put5 _ _ _ _ _
        refine hK.out _ _ (HK.out _ (HX27.out)) (fun hHeld => ?_)
        clear hK K
        (try simp only [Act.put, L1, L2, L3, L4, L5, L6])
        (refine tk 15 (v := ?_) ?_ ?_; rotate_left; · (intro w hSw; (try dsimp only at hSw); go_simp; all_goals with_reducible rfl))
        (try simp only [Act.put, L1, L2, L3, L4, L5, L6])
        (refine wpAnyH_done (by kernel_rfl) ?_ _)
        clear q0 q1 q2 q3 q4 f0 f1 f2 f3 f4 hHeld
        generalize (((((w26.setCell ⟨s2, 0, none⟩ (.int .i64 y'.n.a)).setCell ⟨s2, 1, none⟩ (.int .i64 y'.n.b)).setCell ⟨s2, 2, none⟩ (.int .i64 y'.n.c)).setCell ⟨s2, 3, none⟩ (.int .i64 y'.n.d)).setCell ⟨s2, 4, none⟩ (.int .i64 y'.e)) = w27 at *
        clear HX26 HB26 HK
        obtain ⟨⟨t0, t1, t2, t3, t4⟩, -⟩ := cells5 HB27.out
        go_upto_region 16 with (fail)
        clear t0 t1 t2 t3 t4
        have HSO := Lib.hid (HSO1.out.ext HX27.out)
        have HSN := Lib.hid (HSN1.out.ext HX27.out)
        have HGB := Lib.hid (HGB1.out.ext HX27.out)
        have hne1 : b1 ≠ bo := by obtain ⟨cs, hcs, -⟩ := HSO.out; exact SN.ne HSN.out hcs
        have hne2 : s2 ≠ bo := by have := HBO1.out; omega
        have HK : Hid (∀ w', Ext w27 w' → w'.cell? ⟨b1, k * 6, none⟩ = some (.int .i64 s.1) ∧ (w'.cell? ⟨s2, 0, none⟩ = some (.int .i64 y'.n.a) ∧ w'.cell? ⟨s2, 1, none⟩ = some (.int .i64 y'.n.b) ∧ w'.cell? ⟨s2, 2, none⟩ = some (.int .i64 y'.n.c) ∧ w'.cell? ⟨s2, 3, none⟩ = some (.int .i64 y'.n.d) ∧ w'.cell? ⟨s2, 4, none⟩ = some (.int .i64 y'.e))) := fun w' hx => ⟨(SN.at_ (HSN.out.ext hx) HS0.out).1, (cells5 (HB27.out.ext hx)).1⟩
        refine wp_region_held_drew (S := fun w' => w'.cell? ⟨b1, k * 6, none⟩ = some (.int .i64 s.1) ∧ (w'.cell? ⟨s2, 0, none⟩ = some (.int .i64 y'.n.a) ∧ w'.cell? ⟨s2, 1, none⟩ = some (.int .i64 y'.n.b) ∧ w'.cell? ⟨s2, 2, none⟩ = some (.int .i64 y'.n.c) ∧ w'.cell? ⟨s2, 3, none⟩ = some (.int .i64 y'.n.d) ∧ w'.cell? ⟨s2, 4, none⟩ = some (.int .i64 y'.e))) (by kernel_rfl) (HK.out _ (Ext.refl w27).drew) (fun hHeld => ?_)
        (refine tk 0 (v := ?_) ?_ ?_; rotate_left; · (intro w hSw; (try dsimp only at hSw); go_simp; all_goals with_reducible rfl))
        (try simp only [Act.put, L1, L2, L3, L4, L5, L6])
        (refine tk 1 (v := ?_) ?_ ?_; rotate_left; · (intro w hSw; (try dsimp only at hSw); go_simp; all_goals with_reducible rfl))
        (try simp only [Act.put, L1, L2, L3, L4, L5, L6])
        (refine tk 2 (v := ?_) ?_ ?_; rotate_left; · (intro w hSw; (try dsimp only at hSw); go_simp; all_goals with_reducible rfl))
        (try simp only [Act.put, L1, L2, L3, L4, L5, L6])
        (refine tk 3 (v := ?_) ?_ ?_; rotate_left; · (intro w hSw; (try dsimp only at hSw); go_simp; all_goals with_reducible rfl))
        (try simp only [Act.put, L1, L2, L3, L4, L5, L6])
        (refine tk 4 (v := ?_) ?_ ?_; rotate_left; · (intro w hSw; (try dsimp only at hSw); go_simp; all_goals with_reducible rfl))
        (try simp only [Act.put, L1, L2, L3, L4, L5, L6])
        (refine tk 5 (v := ?_) ?_ ?_; rotate_left; · (intro w hSw; (try dsimp only at hSw); go_simp; all_goals with_reducible rfl))
        (try simp only [Act.put, L1, L2, L3, L4, L5, L6])
        (refine tk 6 (v := ?_) ?_ ?_; rotate_left; · (intro w hSw; (try dsimp only at hSw); go_simp; all_goals with_reducible rfl))
        (try simp only [Act.put, L1, L2, L3, L4, L5, L6])
        (refine tk 7 (v := ?_) ?_ ?_; rotate_left; · (intro w hSw; (try dsimp only at hSw); go_simp; all_goals with_reducible rfl))
        (try simp only [Act.put, L1, L2, L3, L4, L5, L6])
        refine wpAnyH_ready (rs := [8]) (by kernel_rfl) (by simp) ?_
        refine AllReadyH.cons rfl (fun K hK => ?_) AllReadyH.nil
        obtain ⟨⟨c0, c1, c2, c3, c4⟩, f0, f1, f2, f3, f4⟩ := HSO.out.at_ HY0.out
        go_simp
        refine hK.out _ _ ⟨(SN.at_ (SN.ext (SN.put (i := s.1) (x := y') HSN.out hne1) (Ext.refl _).drew) HS0.out).1, (cells5 (Blk.ext (far_put5at (i := s.1) (x := y') HB27.out hne2) (Ext.refl _).drew)).1⟩ (fun hHeld => ?_)
        clear hK K
        (try simp only [Act.put, L1, L2, L3, L4, L5, L6])
        (refine wpAnyH_done (by kernel_rfl) ?_ _)
        have HSO8 : Hid (SB (((((w27.setCell ⟨bo, s.1 * 5, none⟩ (.int .i64 y'.n.a)).setCell ⟨bo, s.1 * 5 + 1, none⟩ (.int .i64 y'.n.b)).setCell ⟨bo, s.1 * 5 + 2, none⟩ (.int .i64 y'.n.c)).setCell ⟨bo, s.1 * 5 + 3, none⟩ (.int .i64 y'.n.d)).setCell ⟨bo, s.1 * 5 + 4, none⟩ (.int .i64 y'.e)).drew bo (o i (k + 1))) := by
         unfold Hid
         rw [HNX.out]
         exact SB.ext (HSO.out.put (by rw [HOL.out]; exact HAT.out) y') (Ext.refl _).drew
        have HSN8 : Hid (SN (((((w27.setCell ⟨bo, s.1 * 5, none⟩ (.int .i64 y'.n.a)).setCell ⟨bo, s.1 * 5 + 1, none⟩ (.int .i64 y'.n.b)).setCell ⟨bo, s.1 * 5 + 2, none⟩ (.int .i64 y'.n.c)).setCell ⟨bo, s.1 * 5 + 3, none⟩ (.int .i64 y'.n.d)).setCell ⟨bo, s.1 * 5 + 4, none⟩ (.int .i64 y'.e)).drew b1 (sent g i)) := SN.ext (SN.put (i := s.1) (x := y') HSN.out hne1) (Ext.refl _).drew
        have HGB8 : Hid (GB w (((((w27.setCell ⟨bo, s.1 * 5, none⟩ (.int .i64 y'.n.a)).setCell ⟨bo, s.1 * 5 + 1, none⟩ (.int .i64 y'.n.b)).setCell ⟨bo, s.1 * 5 + 2, none⟩ (.int .i64 y'.n.c)).setCell ⟨bo, s.1 * 5 + 3, none⟩ (.int .i64 y'.n.d)).setCell ⟨bo, s.1 * 5 + 4, none⟩ (.int .i64 y'.e)).drew g) := GB.ext (HGB.out.put (i := s.1) (x := y') HBO.out) (Ext.refl _).drew
        clear c0 c1 c2 c3 c4 f0 f1 f2 f3 f4 hHeld HSO HSN HGB HK
        generalize (((((w27.setCell ⟨bo, s.1 * 5, none⟩ (.int .i64 y'.n.a)).setCell ⟨bo, s.1 * 5 + 1, none⟩ (.int .i64 y'.n.b)).setCell ⟨bo, s.1 * 5 + 2, none⟩ (.int .i64 y'.n.c)).setCell ⟨bo, s.1 * 5 + 3, none⟩ (.int .i64 y'.n.d)).setCell ⟨bo, s.1 * 5 + 4, none⟩ (.int .i64 y'.e)).drew = w8 at *
        go_wp2
        go_roundw
        case rel => exact ⟨k + 1, by first | rfl | rw [hj1] | rw [hj2], by have := HKT.out; omega, HSO8, HSN8, HGB8⟩
        case measure => simp [intOf, hj2]; have := HKT.out; omega
     ·have hkm : k = m := by omega
      have HNX : Hid (o (i + 1) 0 = o i k) := by unfold Hid; rw [hkm, HNEXT.out, HM.out.1]
      clear hkm
      go_wp2
      go_roundw
      case rel => exact ⟨i + 1, by first | rfl | rw [hi1] | rw [hi2], by have := HIT.out; omega, by rw [HNX.out]; exact HSO0, HGB0⟩
      case measure => simp [intOf, hi2]; have := HIT.out; omega
  ·have hil : i = l := by omega
   subst hil
   go_wp2
   go_ret2
   exact ⟨⟨_, rfl, SB.tout HSBi.out _ _ (HOL.out _ _)⟩, HGBi.out.2⟩
end Go.Proofs.YtdjckjfclhjpcaaGreat
/-
 Helper text (no claim of its own): gates on a state, by the reference. Printed by gen_am.py or gen_an.py.
-/
namespace Go.Proofs.YtdjckjfclhjpcaaGreat
open Go.ChangeShapes Go.WideShapes Go.ChangeAt Go.RowKit Go.Deep
set_option linter.unusedVariables false
set_option linter.unusedSimpArgs false
/-- A gate takes a state to a state. -/
def Acts (l : Nat) (g : Gt) (vs vs' : List Dw) : Prop := ∀ (A : Option Addr) (c : Nat) (w : World), Rd w w.heap.size 5 A l (scells vs) → Calls Tryz.prog 63 #[g.val, .slice A l c] w fun e w' => (∃ v, e = .returned (.tuple #[v, .bool true]) ∧ TOut l vs' v w') ∧ Ext w w'
end Go.Proofs.YtdjckjfclhjpcaaGreat
/-
 Helper text (no claim of its own): a run of a gate out of sums. Printed by gen_alf.py.
-/
namespace Go.Proofs.YtdjckjfclhjpcaaGreat
open Go.ChangeShapes Go.WideShapes Go.ChangeAt Go.RowKit Go.Deep
set_option linter.unusedVariables false
set_option linter.unusedSimpArgs false
/-- A state of n qubits at the K-th power of the root of 2, its coefficients at most M. -/
structure St (n K : Nat) (M : Int) (vs : List Dw) : Prop where
 len : vs.length = 2 ^ n
 ok : ∀ x ∈ vs, dok x = true ∧ x.e.toNat ≤ K ∧ near M (lift K x)
def Lf (K : Nat) (vs : List Dw) (j : Nat) : Zw := lift K (vs.getD j d0)
theorem d0_ok : dok d0 = true := by rfl
theorem up_zero (k : Nat) : up k z0 = z0 := by
 induction k with
 | zero => rfl
 | succ k ih => exact ih
theorem lift_d0 (K : Nat) : lift K d0 = z0 := up_zero _
theorem St.get {n K : Nat} {M : Int} {vs : List Dw} (h : St n K M vs) {j : Nat} (hj : j < 2 ^ n) : ∃ x, vs[j]? = some x ∧ dok x = true ∧ x.e.toNat ≤ K ∧ near M (lift K x) ∧ Lf K vs j = lift K x := by
 have hl : j < vs.length := by rw [h.len]; exact hj
 refine ⟨vs[j], List.getElem?_eq_getElem hl, ?_⟩
 obtain ⟨h1, h2, h3⟩ := h.ok vs[j] (List.getElem_mem hl)
 exact ⟨h1, h2, h3, by unfold Lf; rw [List.getD_eq_getElem?_getD, List.getElem?_eq_getElem hl]; rfl⟩
theorem St.mono {n K J : Nat} {M N : Int} {vs : List Dw} (h : St n K M vs) (hn : ∀ u : Zw, near M u → near N (up J u)) : St n (K + J) N vs :=
 ⟨h.len, fun x hx => by
  obtain ⟨h1, h2, h3⟩ := h.ok x hx
  exact ⟨h1, by omega, by rw [lift_more h2]; exact hn _ h3⟩⟩
/-- States are equal where they are at a common power. -/
theorem St.eq {n K : Nat} {M N : Int} {vs us : List Dw} (h : St n K M vs) (k : St n K N us) (he : ∀ j, j < 2 ^ n → Lf K vs j = Lf K us j) : vs = us := by
 apply List.ext_getElem?
 intro j
 by_cases hj : j < 2 ^ n
 ·obtain ⟨x, x1, x2, x3, x4, x5⟩ := h.get hj
  obtain ⟨y, y1, y2, y3, y4, y5⟩ := k.get hj
  have := he j hj
  rw [x5, y5] at this
  rw [x1, y1, lift_inj x2 y2 x3 y3 this]
 ·rw [List.getElem?_eq_none (by rw [h.len]; omega), List.getElem?_eq_none (by rw [k.len]; omega)]
/-- The amplitude in canonical form. -/
def cano (K : Nat) (u : Zw) : Dw := (newD u K).1
theorem cano_is {K : Nat} {u : Zw} (hu : near 1073741824 u) (hK : K ≤ 60) : dok (cano K u) = true ∧ (cano K u).e.toNat ≤ K ∧ lift K (cano K u) = u := by
 obtain ⟨z, h1, h2, h3, h4⟩ := newD_lift (zok_near.2 hu) hK
 unfold cano
 rw [h1]
 refine ⟨h2, h3, ?_⟩
 rw [h4 K (Nat.le_refl _), Nat.sub_self]
 rfl
theorem cano_eq {K : Nat} {u : Zw} {z : Dw} (hK : K ≤ 60) (hz : dok z = true) (hzK : z.e.toNat ≤ K) (h : lift K z = u) (hu : near 1073741824 u) : z = cano K u := by
 obtain ⟨h1, h2, h3⟩ := cano_is hu hK
 exact lift_inj hz h1 hzK h2 (h.trans h3.symm)
theorem near_z0 {M : Int} (h : 0 ≤ M) : near M z0 := by unfold near z0; simp only; omega
theorem cano_z0 {K : Nat} (hK : K ≤ 60) : cano K z0 = d0 := (cano_eq hK d0_ok (Nat.zero_le _) (lift_d0 K) (near_z0 (by decide))).symm
theorem eqD_d0 {x : Dw} (h : eqD x d0 = true) : x = d0 := by
 unfold eqD at h
 simp only [Bool.and_eq_true, beq_iff_eq] at h
 exact Dw.eq (Zw.eq h.1.1.1.1 h.1.1.1.2 h.1.1.2 h.1.2) h.2
theorem zadd_z0 (u : Zw) : zadd u z0 = u := by apply Zw.eq <;> simp only [zadd, z0] <;> omega
theorem z0_zadd (u : Zw) : zadd z0 u = u := by apply Zw.eq <;> simp only [zadd, z0] <;> omega
theorem rot_z0 {j : Nat} (hj : j < 8) : rot j z0 = z0 := by
 rcases lt8 hj with rfl | rfl | rfl | rfl | rfl | rfl | rfl | rfl <;> rfl
/-- A product that a gate needs: the amplitude x times y, seen at a power. -/
def MulOk (K' : Nat) (x y : Dw) (u : Zw) : Prop := dok y = true ∧ zok (zmul x.n y.n) = true ∧ x.e + y.e ≤ 60 ∧ dok (mulD x y).1 = true ∧ (mulD x y).1.e.toNat ≤ K' ∧ lift K' (mulD x y).1 = u
theorem mulOk_ph {K j : Nat} {x : Dw} (hj : j < 8) (hx : dok x = true) (hK : x.e.toNat ≤ K) : MulOk K x (ph j) (rot j (lift K x)) := by
 obtain ⟨h1, h2⟩ := mulD_ph hj hx
 obtain ⟨x1, x2, x3, x4⟩ := dok_iff.1 hx
 refine ⟨ph_ok j, zok_near.2 (rot_near hj (zok_near.1 x1)), by show x.e + 0 ≤ 60; omega, ?_, ?_, ?_⟩ <;> rw [h1]
 ·exact h2
 ·exact hK
 ·exact lift_ph hj
theorem mulOk_h {K j : Nat} {x : Dw} (hj : j = 0 ∨ j = 4) (hx : dok x = true) (hK : x.e.toNat ≤ K) (h59 : K ≤ 59) : MulOk (K + 1) x ⟨zw j, 1⟩ (rot j (lift K x)) := by
 obtain ⟨x1, x2, x3, x4⟩ := dok_iff.1 hx
 obtain ⟨z, h1, h2, h3, h4⟩ := mulD_h hj hx (by omega)
 refine ⟨by rcases hj with rfl | rfl <;> rfl, zok_near.2 (rot_near (by omega) (zok_near.1 x1)), by show x.e + 1 ≤ 60; omega, ?_, ?_, ?_⟩ <;> rw [h1]
 ·exact h2
 ·show z.e.toNat ≤ K + 1; omega
 ·exact h4 K hK
/-- A run out of what is added where. -/
theorem run_of {n K K' : Nat} {M : Int} {g : Gt} {vs : List Dw} (hs : St n K M vs) (hK : K' ≤ 60) (c : Nat → Nat → Nat → Zw)
  (c0 : ∀ j, j < 2 ^ n → c 0 0 j = z0) (cz : ∀ i, i < 2 ^ n → Lf K vs i = z0 → ∀ j, j < 2 ^ n → c (i + 1) 0 j = c i 0 j)
  (cs : ∀ i k s x, i < 2 ^ n → (sent g i)[k]? = some s → vs[i]? = some x → s.1 < 2 ^ n ∧ ∃ u, MulOk K' x s.2 u ∧ near 1073741824 u ∧ ∀ j, j < 2 ^ n → c i (k + 1) j = if j = s.1 then zadd (c i k j) u else c i k j)
  (cn : ∀ i, i < 2 ^ n → ∀ j, j < 2 ^ n → c (i + 1) 0 j = c i (sent g i).length j) (cb : ∀ i k j, near 1073741824 (c i k j)) :
  Run g vs (fun i k => (List.range (2 ^ n)).map fun j => cano K' (c i k j)) := by
 have hi : ∀ {i : Nat} {x : Dw}, vs[i]? = some x → i < 2 ^ n := fun hx => by rw [← hs.len]; exact (List.getElem?_eq_some_iff.1 hx).1
 have hmap : ∀ {f h : Nat → Dw}, (∀ j, j < 2 ^ n → f j = h j) → (List.range (2 ^ n)).map f = (List.range (2 ^ n)).map h := fun he => List.map_congr_left fun j hj => he j (List.mem_range.1 hj)
 constructor
 ·rw [hs.len]
  apply List.ext_getElem?
  intro j
  by_cases hj : j < 2 ^ n
  ·rw [List.getElem?_map, List.getElem?_range hj, List.getElem?_replicate, if_pos hj]
   show some (cano K' (c 0 0 j)) = _
   rw [c0 j hj, cano_z0 hK]
  ·rw [List.getElem?_eq_none (by rw [List.length_map, List.length_range]; omega), List.getElem?_eq_none (by rw [List.length_replicate]; omega)]
 ·intro i x hx hz
  refine hmap fun j hj => ?_
  obtain ⟨y, y1, y2, y3, y4, y5⟩ := hs.get (hi hx)
  rw [hx] at y1
  obtain rfl := Option.some.inj y1
  rw [eqD_d0 hz, lift_d0] at y5
  rw [cz i (hi hx) y5 j hj]
 ·intro i x k s hx hz hk
  obtain ⟨h1, u, hm, hu, hc⟩ := cs i k s x (hi hx) hk hx
  obtain ⟨m1, m2, m3, m4, m5, m6⟩ := hm
  obtain ⟨y, y1, y2, y3, y4, y5⟩ := hs.get (hi hx)
  rw [hx] at y1
  obtain rfl := Option.some.inj y1
  obtain ⟨p1, p2, p3⟩ := cano_is (cb i k s.1) hK
  have hnew := hc s.1 h1
  rw [if_pos rfl] at hnew
  have hsum : near 1073741824 (zadd (lift K' (cano K' (c i k s.1))) (lift K' (mulD x s.2).1)) := by rw [p3, m6, ← hnew]; exact cb i (k + 1) s.1
  have hadd := addD_lift p1 m4 p2 m5 hK (by rw [p3]; exact cb i k s.1) (by rw [m6]; exact hu) hsum
  obtain ⟨z, z1, z2, z3, z4⟩ := hadd
  refine ⟨(mulD x s.2).1, cano K' (c i k s.1), (addD (cano K' (c i k s.1)) (mulD x s.2).1).1, fun w => MulDOmega_yes x s.2 w y2 m1 m2 m3, by rw [hs.len]; exact h1, ?_, fun w => AddDOmega_yes _ _ w p1 m4 p2 m5 hK (by rw [p3]; exact cb i k s.1) (by rw [m6]; exact hu) hsum, ?_⟩
  ·rw [List.getElem?_map, List.getElem?_range h1]; rfl
  ·apply List.ext_getElem?
   intro j
   rw [List.getElem?_set]
   by_cases hj : j < 2 ^ n
   ·rw [List.getElem?_map, List.getElem?_range hj]
    show some (cano K' (c i (k + 1) j)) = _
    by_cases hjs : s.1 = j
    ·subst hjs
     rw [if_pos rfl, if_pos (by rw [List.length_map, List.length_range]; exact hj), z1]
     congr 1
     refine (cano_eq hK z2 z3 ?_ (cb i (k + 1) s.1)).symm
     rw [z4, p3, m6, hnew]
    ·rw [if_neg hjs, List.getElem?_map, List.getElem?_range hj, hc j hj, if_neg (fun e => hjs e.symm)]
     rfl
   ·rw [if_neg (by omega), List.getElem?_eq_none (by rw [List.length_map, List.length_range]; omega), List.getElem?_eq_none (by rw [List.length_map, List.length_range]; omega)]
 ·intro i x hx hz
  exact hmap fun j hj => by rw [cn i (hi hx) j hj]
end Go.Proofs.YtdjckjfclhjpcaaGreat
namespace Go.Proofs.YtdjckjfclhjpcaaGreat
open Go.ChangeShapes Go.WideShapes Go.ChangeAt Go.RowKit Go.Deep
set_option linter.unusedVariables false
set_option linter.unusedSimpArgs false
/-- Where a gate other than H sends an amplitude, and times which power. -/
def sgN : Nat → Nat → Nat → Nat → Nat → Nat
 | 1, a, b, c, i => qfl i a
 | 2, a, b, c, i => qfl i a
 | 3, a, b, c, i => i
 | 5, a, b, c, i => i
 | 6, a, b, c, i => i
 | 7, a, b, c, i => i
 | 8, a, b, c, i => i
 | 9, a, b, c, i => if bt i a then qfl i b else i
 | 10, a, b, c, i => i
 | 11, a, b, c, i => if bt i a != bt i b then qfl (qfl i a) b else i
 | 12, a, b, c, i => if bt i a && bt i b then qfl i c else i
 | _, _, _, _, i => i
def pgN : Nat → Nat → Nat → Nat → Nat → Nat
 | 1, a, b, c, i => 0
 | 2, a, b, c, i => (if bt i a then 6 else 2)
 | 3, a, b, c, i => (if bt i a then 4 else 0)
 | 5, a, b, c, i => (if bt i a then 2 else 0)
 | 6, a, b, c, i => (if bt i a then 6 else 0)
 | 7, a, b, c, i => (if bt i a then 1 else 0)
 | 8, a, b, c, i => (if bt i a then 7 else 0)
 | 9, a, b, c, i => 0
 | 10, a, b, c, i => (if bt i a && bt i b then 4 else 0)
 | 11, a, b, c, i => 0
 | 12, a, b, c, i => 0
 | _, _, _, _, _ => 0
def invN : Nat → Nat
 | 5 => 6
 | 6 => 5
 | 7 => 8
 | 8 => 7
 | k => k
def kindsN : List Nat := [1, 2, 3, 5, 6, 7, 8, 9, 10, 11, 12]
def fineN (k a b c : Nat) : Bool := (k < 9 || a != b) && (k != 12 || (a != c && b != c))
theorem chk_sg : (List.range 5).all (fun n => (List.range n).all fun a => (List.range n).all fun b => (List.range n).all fun c => kindsN.all fun k => !fineN k a b c || (List.range (2 ^ n)).all fun i => decide (sgN k a b c i < 2 ^ n) && (sgN k a b c (sgN k a b c i) == i) && decide (pgN k a b c i < 8) && (sgN (invN k) a b c i == sgN k a b c i) && ((pgN (invN k) a b c (sgN k a b c i) + pgN k a b c i) % 8 == 0)) = true := by kernel_rfl
theorem chk_h : (List.range 5).all (fun n => (List.range n).all fun a => (List.range (2 ^ n)).all fun i => decide (qlo i a < 2 ^ n) && decide (qhi i a < 2 ^ n) && (qlo (qlo i a) a == qlo i a) && (qhi (qlo i a) a == qhi i a) && (qlo (qhi i a) a == qlo i a) && (qhi (qhi i a) a == qhi i a) && (bt (qlo i a) a == false) && (bt (qhi i a) a == true) && (i == if bt i a then qhi i a else qlo i a)) = true := by kernel_rfl
theorem of_all {f : Nat → Bool} {m i : Nat} (h : (List.range m).all f = true) (hi : i < m) : f i = true := List.all_eq_true.1 h i (List.mem_range.2 hi)
theorem sg_facts {n k a b c : Nat} (hn : n ≤ 4) (hk : k ∈ kindsN) (ha : a < n) (hb : b < n) (hc : c < n) (hf : fineN k a b c = true) {i : Nat} (hi : i < 2 ^ n) :
  sgN k a b c i < 2 ^ n ∧ sgN k a b c (sgN k a b c i) = i ∧ pgN k a b c i < 8 ∧ sgN (invN k) a b c i = sgN k a b c i ∧ (pgN (invN k) a b c (sgN k a b c i) + pgN k a b c i) % 8 = 0 := by
 have h1 := List.all_eq_true.1 (of_all (of_all (of_all (of_all chk_sg (show n < 5 by omega)) ha) hb) hc) k hk
 rw [hf, Bool.not_true, Bool.false_or] at h1
 have h2 := of_all h1 hi
 simp only [Bool.and_eq_true, decide_eq_true_eq, beq_iff_eq] at h2
 exact ⟨h2.1.1.1.1, h2.1.1.1.2, h2.1.1.2, h2.1.2, h2.2⟩
theorem h_facts {n a : Nat} (hn : n ≤ 4) (ha : a < n) {i : Nat} (hi : i < 2 ^ n) :
  qlo i a < 2 ^ n ∧ qhi i a < 2 ^ n ∧ qlo (qlo i a) a = qlo i a ∧ qhi (qlo i a) a = qhi i a ∧ qlo (qhi i a) a = qlo i a ∧ qhi (qhi i a) a = qhi i a ∧ bt (qlo i a) a = false ∧ bt (qhi i a) a = true ∧ (i = if bt i a then qhi i a else qlo i a) := by
 have h1 := of_all (of_all (of_all chk_h (show n < 5 by omega)) ha) hi
 simp only [Bool.and_eq_true, decide_eq_true_eq, beq_iff_eq] at h1
 exact ⟨h1.1.1.1.1.1.1.1.1, h1.1.1.1.1.1.1.1.2, h1.1.1.1.1.1.1.2, h1.1.1.1.1.1.2, h1.1.1.1.1.2, h1.1.1.1.2, h1.1.1.2, h1.1.2, h1.2⟩
theorem sent_perm {g : Gt} {k a b c : Nat} (hk : k ∈ kindsN) (hg : g = ⟨k, a, b, c⟩) (i : Nat) : sent g i = [(sgN k a b c i, ph (pgN k a b c i))] := by
 subst hg
 simp only [kindsN, List.mem_cons, List.not_mem_nil, or_false] at hk
 rcases hk with rfl | rfl | rfl | rfl | rfl | rfl | rfl | rfl | rfl | rfl | rfl <;> rfl
theorem sent_h {g : Gt} {a b c : Nat} (hg : g = ⟨4, a, b, c⟩) (i : Nat) : sent g i = [(qlo i a, ⟨zw 0, 1⟩), (qhi i a, ⟨zw (if bt i a then 4 else 0), 1⟩)] := by
 subst hg
 rfl
/-- A valid gate in naturals. -/
theorem vg_nat {g : Gt} {n : Nat} (h : vg g n = true) : ∃ k a b c : Nat, g = ⟨k, a, b, c⟩ ∧ (1 ≤ n ∧ n ≤ 4) ∧ (k = 4 ∨ k ∈ kindsN) ∧ a < n ∧ b < n ∧ c < n ∧ fineN k a b c = true := by
 obtain ⟨⟨n1, n4⟩, ⟨k1, k12⟩, ⟨a0, a3⟩, ⟨b0, b3⟩, ⟨c0, c3⟩, h9, h12⟩ := vg_all h
 obtain ⟨gk, ga, gb, gc⟩ := g
 simp only at k1 k12 a0 a3 b0 b3 c0 c3 h9 h12
 obtain ⟨k, rfl⟩ : ∃ k : Nat, gk = k := ⟨gk.toNat, by omega⟩
 obtain ⟨a, rfl⟩ : ∃ k : Nat, ga = k := ⟨ga.toNat, by omega⟩
 obtain ⟨b, rfl⟩ : ∃ k : Nat, gb = k := ⟨gb.toNat, by omega⟩
 obtain ⟨c, rfl⟩ : ∃ k : Nat, gc = k := ⟨gc.toNat, by omega⟩
 refine ⟨k, a, b, c, rfl, by omega, ?_, by omega, by omega, by omega, ?_⟩
 ·simp only [kindsN, List.mem_cons, List.not_mem_nil, or_false]
  omega
 ·unfold fineN
  simp only [Bool.and_eq_true, Bool.or_eq_true, decide_eq_true_eq, bne_iff_ne]
  omega
/-- What a gate other than H makes of a state. -/
theorem acts_perm {n K : Nat} {M : Int} {vs : List Dw} {k a b c : Nat} (hn : 1 ≤ n ∧ n ≤ 4) (hk : k ∈ kindsN) (ha : a < n) (hb : b < n) (hc : c < n) (hf : fineN k a b c = true) (hg : vg ⟨k, a, b, c⟩ n = true) (hs : St n K M vs) (hK : K ≤ 60) (hM : 0 ≤ M ∧ M ≤ 1073741824) :
  ∃ us, Acts (2 ^ n) ⟨k, a, b, c⟩ vs us ∧ St n K M us ∧ ∀ j, j < 2 ^ n → Lf K us j = rot (pgN k a b c (sgN k a b c j)) (Lf K vs (sgN k a b c j)) := by
 have hfa := fun {i : Nat} (hi : i < 2 ^ n) => sg_facts hn.2 hk ha hb hc hf hi
 have hnL : ∀ {i : Nat}, i < 2 ^ n → near M (Lf K vs i) := fun hi => by
  obtain ⟨x, x1, x2, x3, x4, x5⟩ := hs.get hi
  rw [x5]; exact x4
 let cc : Nat → Nat → Nat → Zw := fun i t j => if j < 2 ^ n ∧ sgN k a b c j < i + t then rot (pgN k a b c (sgN k a b c j)) (Lf K vs (sgN k a b c j)) else z0
 have hcb : ∀ i t j, near M (cc i t j) := fun i t j => by
  show near M (if j < 2 ^ n ∧ sgN k a b c j < i + t then rot (pgN k a b c (sgN k a b c j)) (Lf K vs (sgN k a b c j)) else z0)
  split
  ·rename_i h
   have h2 := hfa (hfa h.1).1
   exact rot_near h2.2.2.1 (hnL (hfa h.1).1)
  ·exact near_z0 hM.1
 have hrun := run_of (g := ⟨k, a, b, c⟩) hs hK cc (fun j hj => if_neg (by omega)) (fun i hi hz j hj => by
   show (if j < 2 ^ n ∧ sgN k a b c j < i + 1 + 0 then rot (pgN k a b c (sgN k a b c j)) (Lf K vs (sgN k a b c j)) else z0) = if j < 2 ^ n ∧ sgN k a b c j < i + 0 then rot (pgN k a b c (sgN k a b c j)) (Lf K vs (sgN k a b c j)) else z0
   by_cases h1 : sgN k a b c j < i
   ·rw [if_pos ⟨hj, by omega⟩, if_pos ⟨hj, by omega⟩]
   ·rw [if_neg (show ¬ (j < 2 ^ n ∧ sgN k a b c j < i + 0) by omega)]
    split
    ·have e : sgN k a b c j = i := by omega
     rw [e, hz]
     exact rot_z0 (hfa hi).2.2.1
    ·rfl) (fun i t s x hi hst hx => by
   rw [sent_perm hk rfl] at hst
   have ht : t = 0 := by have := (List.getElem?_eq_some_iff.1 hst).1; simpa using this
   subst ht
   obtain rfl := Option.some.inj hst
   obtain ⟨y, y1, y2, y3, y4, y5⟩ := hs.get hi
   rw [hx] at y1
   obtain rfl := Option.some.inj y1
   have hfi := hfa hi
   refine ⟨hfi.1, _, mulOk_ph hfi.2.2.1 y2 y3, near_le (rot_near hfi.2.2.1 y4) hM.2, fun j hj => ?_⟩
   show (if j < 2 ^ n ∧ sgN k a b c j < i + (0 + 1) then rot (pgN k a b c (sgN k a b c j)) (Lf K vs (sgN k a b c j)) else z0) = if j = sgN k a b c i then zadd (if j < 2 ^ n ∧ sgN k a b c j < i + 0 then rot (pgN k a b c (sgN k a b c j)) (Lf K vs (sgN k a b c j)) else z0) (rot (pgN k a b c i) (lift K x)) else if j < 2 ^ n ∧ sgN k a b c j < i + 0 then rot (pgN k a b c (sgN k a b c j)) (Lf K vs (sgN k a b c j)) else z0
   by_cases hji : j = sgN k a b c i
   ·have e : sgN k a b c j = i := by rw [hji]; exact hfi.2.1
    rw [if_pos hji, if_pos ⟨hj, by omega⟩, if_neg (by omega), e, z0_zadd, y5]
   ·have e : sgN k a b c j ≠ i := fun e => hji (by rw [← e]; exact (hfa hj).2.1.symm)
    rw [if_neg hji]
    by_cases h1 : sgN k a b c j < i
    ·rw [if_pos ⟨hj, by omega⟩, if_pos ⟨hj, by omega⟩]
    ·rw [if_neg (by omega), if_neg (by omega)]) (fun i hi j hj => by
   rw [sent_perm hk rfl]
   show (if j < 2 ^ n ∧ sgN k a b c j < i + 1 + 0 then _ else _) = if j < 2 ^ n ∧ sgN k a b c j < i + 1 then _ else _
   rfl) (fun i t j => near_le (hcb i t j) hM.2)
 have hcn : ∀ j, j < 2 ^ n → cc (2 ^ n) 0 j = rot (pgN k a b c (sgN k a b c j)) (Lf K vs (sgN k a b c j)) := fun j hj => if_pos ⟨hj, by have := (hfa hj).1; omega⟩
 refine ⟨(List.range (2 ^ n)).map fun j => cano K (cc (2 ^ n) 0 j), fun A cap w hr => ?_, ⟨by rw [List.length_map, List.length_range], fun x hx => ?_⟩, fun j hj => ?_⟩
 ·have h := ApplyGate_run hn.1 hn.2 ⟨k, a, b, c⟩ hg A cap vs w (by rw [hs.len]; exact hr) hs.len (fun x hx => (hs.ok x hx).1) _ hrun (fun i t => by rw [List.length_map, List.length_range, hs.len])
  rw [hs.len] at h
  exact h
 ·obtain ⟨j, -, rfl⟩ := List.mem_map.1 hx
  obtain ⟨h1, h2, h3⟩ := cano_is (near_le (hcb (2 ^ n) 0 j) hM.2) hK
  exact ⟨h1, h2, by rw [h3]; exact hcb _ _ _⟩
 ·unfold Lf
  rw [List.getD_eq_getElem?_getD, List.getElem?_map, List.getElem?_range hj]
  show lift K (cano K (cc (2 ^ n) 0 j)) = _
  rw [(cano_is (near_le (hcb (2 ^ n) 0 j) hM.2) hK).2.2]
  exact hcn j hj
end Go.Proofs.YtdjckjfclhjpcaaGreat
