/-
 Helper text (no claim of its own): the ring of amplitudes as the program reckons in it (plain Lean).
-/
import Derived.Test.YtdjckjfclhjpcaaGreatIn
namespace Go.Proofs.YtdjckjfclhjpcaaGreat
open Go.ChangeShapes Go.WideShapes Go.ChangeAt Go.RowKit Go.Deep
structure Zw where
 a : Int
 b : Int
 c : Int
 d : Int
abbrev Zw.val (x : Zw) : Value := .agg #[.int .i64 x.a, .int .i64 x.b, .int .i64 x.c, .int .i64 x.d]
def z0 : Zw := ⟨0, 0, 0, 0⟩
def nr (n : Int) : Bool := decide (-1073741824 ≤ n) && decide (n ≤ 1073741824)
def zok (x : Zw) : Bool := nr x.a && nr x.b && nr x.c && nr x.d
theorem nr_iff {n : Int} : nr n = true ↔ -1073741824 ≤ n ∧ n ≤ 1073741824 := by unfold nr; simp
theorem zok_iff {x : Zw} : zok x = true ↔ (-1073741824 ≤ x.a ∧ x.a ≤ 1073741824) ∧ (-1073741824 ≤ x.b ∧ x.b ≤ 1073741824) ∧ (-1073741824 ≤ x.c ∧ x.c ≤ 1073741824) ∧ (-1073741824 ≤ x.d ∧ x.d ≤ 1073741824) := by
 unfold zok
 simp only [Bool.and_eq_true, nr_iff, and_assoc]
def zadd (x y : Zw) : Zw := ⟨x.a + y.a, x.b + y.b, x.c + y.c, x.d + y.d⟩
def zmul (x y : Zw) : Zw := ⟨x.a * y.a - x.b * y.d - x.c * y.c - x.d * y.b, x.a * y.b + x.b * y.a - x.c * y.d - x.d * y.c, x.a * y.c + x.b * y.b + x.c * y.a - x.d * y.d, x.a * y.d + x.b * y.c + x.c * y.b + x.d * y.a⟩
def zif (x : Zw) : Zw × Bool := if zok x = true then (x, true) else (z0, false)
theorem zif_y {x : Zw} (h : zok x = true) : zif x = (x, true) := if_pos h
def zAdd (x y : Zw) : Zw × Bool := if (zok x && zok y) = true then zif (zadd x y) else (z0, false)
def zMul (x y : Zw) : Zw × Bool := if (zok x && zok y) = true then zif (zmul x y) else (z0, false)
theorem zAdd_y {x y : Zw} (hx : zok x = true) (hy : zok y = true) : zAdd x y = zif (zadd x y) := if_pos (by rw [hx, hy]; rfl)
theorem zMul_y {x y : Zw} (hx : zok x = true) (hy : zok y = true) : zMul x y = zif (zmul x y) := if_pos (by rw [hx, hy]; rfl)
/-- Divided by the root of 2. -/
def zrt (x : Zw) : Zw := ⟨x.b - x.d, x.a + x.c, x.b + x.d, x.c - x.a⟩
def zhalf (x : Zw) : Zw := ⟨x.a.tdiv 2, x.b.tdiv 2, x.c.tdiv 2, x.d.tdiv 2⟩
def ev (n : Int) : Bool := n.tmod 2 == 0
def zev (x : Zw) : Bool := ev x.a && ev x.b && ev x.c && ev x.d
def zDiv (x : Zw) : Zw × Bool := if (zok x && zev (zrt x)) = true then (zhalf (zrt x), true) else (z0, false)
theorem zDiv_n {x : Zw} (h : zok x = false ∨ zev (zrt x) = false) : zDiv x = (z0, false) := if_neg (by rcases h with h | h <;> simp [h])
theorem zDiv_y {x : Zw} (h : zok x = true) (h' : zev (zrt x) = true) : zDiv x = (zhalf (zrt x), true) := if_pos (by rw [h, h']; rfl)

structure Dw where
 n : Zw
 e : Int
abbrev Dw.val (x : Dw) : Value := .agg #[.int .i64 x.n.a, .int .i64 x.n.b, .int .i64 x.n.c, .int .i64 x.n.d, .int .i64 x.e]
def d0 : Dw := ⟨z0, 0⟩
def ex60 (e : Int) : Bool := decide (0 ≤ e) && decide (e ≤ 60)
def dok (x : Dw) : Bool := zok x.n && ex60 x.e && (x.e == 0 || !(zDiv x.n).2)
/-- Divided by the root of 2 as often as it goes, at most k times. -/
def nwL : Nat → Zw → Zw × Nat
 | 0, n => (n, 0)
 | k + 1, n => if (zDiv n).2 = true then nwL k (zDiv n).1 else (n, k + 1)
theorem nwL_y {k : Nat} {n : Zw} (h : (zDiv n).2 = true) : nwL (k + 1) n = nwL k (zDiv n).1 := if_pos h
theorem nwL_n {k : Nat} {n : Zw} (h : (zDiv n).2 = false) : nwL (k + 1) n = (n, k + 1) := if_neg (by simp [h])
def newD (n : Zw) (k : Int) : Dw × Bool := if (zok n && decide (0 ≤ k) && decide (k ≤ 120) && decide ((nwL k.toNat n).2 ≤ 60)) = true then (⟨(nwL k.toNat n).1, (nwL k.toNat n).2⟩, true) else (d0, false)
theorem newD_y {n : Zw} {k : Int} (h : zok n = true) (h0 : 0 ≤ k) (h1 : k ≤ 120) (h2 : (nwL k.toNat n).2 ≤ 60) : newD n k = (⟨(nwL k.toNat n).1, (nwL k.toNat n).2⟩, true) := by
 refine if_pos ?_
 simp [h, h0, h1, h2]
def zrootc : Zw := ⟨0, 1, 0, -1⟩
/-- Times the root of 2, k times. -/
def zup : Nat → Zw → Zw × Bool
 | 0, n => (n, true)
 | k + 1, n => if (zMul n zrootc).2 = true then zup k (zMul n zrootc).1 else (z0, false)
theorem zup_y {k : Nat} {n : Zw} (h : (zMul n zrootc).2 = true) : zup (k + 1) n = zup k (zMul n zrootc).1 := if_pos h
def addK (x y : Zw) (i j : Nat) (k : Int) : Dw × Bool := if ((zup i x).2 && (zup j y).2 && (zAdd (zup i x).1 (zup j y).1).2) = true then newD (zAdd (zup i x).1 (zup j y).1).1 k else (d0, false)
def mx (a b : Int) : Int := if a < b then b else a
def addD (x y : Dw) : Dw × Bool := if (dok x && dok y) = true then addK x.n y.n (mx x.e y.e - x.e).toNat (mx x.e y.e - y.e).toNat (mx x.e y.e) else (d0, false)
theorem addD_y {x y : Dw} (hx : dok x = true) (hy : dok y = true) : addD x y = addK x.n y.n (mx x.e y.e - x.e).toNat (mx x.e y.e - y.e).toNat (mx x.e y.e) := if_pos (by rw [hx, hy]; rfl)
def mulD (x y : Dw) : Dw × Bool := if (dok x && dok y && (zMul x.n y.n).2) = true then newD (zMul x.n y.n).1 (x.e + y.e) else (d0, false)
theorem mulD_y {x y : Dw} (hx : dok x = true) (hy : dok y = true) (hm : (zMul x.n y.n).2 = true) : mulD x y = newD (zMul x.n y.n).1 (x.e + y.e) := if_pos (by rw [hx, hy, hm]; rfl)
/-- Products of near numbers are far from the ends of the int's range. -/
theorem prod_near {x y : Int} (hx : -1073741824 ≤ x ∧ x ≤ 1073741824) (hy : -1073741824 ≤ y ∧ y ≤ 1073741824) : -1152921504606846976 ≤ x * y ∧ x * y ≤ 1152921504606846976 := by
 have h1 : x.natAbs ≤ 1073741824 := by omega
 have h2 : y.natAbs ≤ 1073741824 := by omega
 have h3 : (x * y).natAbs ≤ 1073741824 * 1073741824 := by rw [Int.natAbs_mul]; exact Nat.mul_le_mul h1 h2
 omega
end Go.Proofs.YtdjckjfclhjpcaaGreat
