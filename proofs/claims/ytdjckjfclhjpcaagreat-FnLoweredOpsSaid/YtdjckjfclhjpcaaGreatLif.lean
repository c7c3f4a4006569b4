/-
 Helper text (no claim of its own): amplitudes at a common power of the root of 2 (plain Lean).
-/
import Derived.Test.YtdjckjfclhjpcaaGreatDw
namespace Go.Proofs.YtdjckjfclhjpcaaGreat
open Go.ChangeShapes Go.WideShapes Go.ChangeAt Go.RowKit Go.Deep
set_option linter.unusedVariables false
theorem Zw.eq {x y : Zw} (ha : x.a = y.a) (hb : x.b = y.b) (hc : x.c = y.c) (hd : x.d = y.d) : x = y := by
 cases x; cases y; simp only at ha hb hc hd; subst ha hb hc hd; rfl
theorem Zw.eqs {x y : Zw} (h : x = y) : x.a = y.a ∧ x.b = y.b ∧ x.c = y.c ∧ x.d = y.d := by subst h; exact ⟨rfl, rfl, rfl, rfl⟩
/-- Times the root of 2, k times. -/
def up : Nat → Zw → Zw
 | 0, x => x
 | k + 1, x => up k (zrt x)
theorem zmul_root (x : Zw) : zmul x zrootc = zrt x := by
 apply Zw.eq <;> simp only [zmul, zrootc, zrt] <;> omega
theorem zrt_zrt (x : Zw) : zrt (zrt x) = ⟨2 * x.a, 2 * x.b, 2 * x.c, 2 * x.d⟩ := by
 apply Zw.eq <;> simp only [zrt] <;> omega
def near (M : Int) (x : Zw) : Prop := (-M ≤ x.a ∧ x.a ≤ M) ∧ (-M ≤ x.b ∧ x.b ≤ M) ∧ (-M ≤ x.c ∧ x.c ≤ M) ∧ (-M ≤ x.d ∧ x.d ≤ M)
theorem near_dn {M : Int} {x : Zw} (h : near M (zrt x)) : near M x := by
 unfold near zrt at *
 simp only at h
 omega
theorem near_root {M : Int} {x : Zw} (h : near M x) : near (2 * M) (zrt x) := by
 unfold near zrt at *
 simp only
 omega
theorem near_le {M N : Int} {x : Zw} (h : near M x) (hl : M ≤ N) : near N x := by unfold near at *; omega
theorem near_add {M N : Int} {x y : Zw} (h : near M x) (k : near N y) : near (M + N) (zadd x y) := by
 unfold near zadd at *
 simp only
 omega
theorem zok_near {x : Zw} : zok x = true ↔ near 1073741824 x := zok_iff
theorem up_succ (k : Nat) : ∀ x : Zw, up (k + 1) x = zrt (up k x) := by
 induction k with
 | zero => exact fun x => rfl
 | succ k ih => exact fun x => ih (zrt x)
theorem up_more (i j : Nat) : ∀ x : Zw, up (i + j) x = up j (up i x) := by
 induction j with
 | zero => exact fun x => rfl
 | succ j ih => exact fun x => by rw [← Nat.add_assoc, up_succ, ih, ← up_succ]
theorem near_of_up {M : Int} (k : Nat) : ∀ {x : Zw}, near M (up k x) → near M x := by
 induction k with
 | zero => exact fun h => h
 | succ k ih => exact fun h => near_dn (ih h)
theorem near_mid {M : Int} {j k : Nat} {x : Zw} (hj : j ≤ k) (h : near M (up k x)) : near M (up j x) := by
 obtain ⟨i, rfl⟩ := Nat.exists_eq_add_of_le hj
 rw [up_more] at h
 exact near_of_up i h
theorem zrt_inj {x y : Zw} (h : zrt x = zrt y) : x = y := by
 obtain ⟨h1, h2, h3, h4⟩ := Zw.eqs h
 simp only [zrt] at h1 h2 h3 h4
 apply Zw.eq <;> omega
theorem up_inj (k : Nat) : ∀ {x y : Zw}, up k x = up k y → x = y := by
 induction k with
 | zero => exact fun h => h
 | succ k ih => exact fun h => zrt_inj (ih h)
theorem zrt_add (x y : Zw) : zrt (zadd x y) = zadd (zrt x) (zrt y) := by
 apply Zw.eq <;> simp only [zrt, zadd] <;> omega
theorem up_add (k : Nat) : ∀ x y : Zw, up k (zadd x y) = zadd (up k x) (up k y) := by
 induction k with
 | zero => exact fun x y => rfl
 | succ k ih => exact fun x y => by show up k (zrt (zadd x y)) = _; rw [zrt_add, ih]; rfl
theorem ev_half {n : Int} (h : ev n = true) : n = 2 * n.tdiv 2 := by
 unfold ev at h
 rw [beq_iff_eq] at h
 have := Int.mul_tdiv_add_tmod n 2
 omega
theorem ev_two (m : Int) : ev (2 * m) = true := by
 unfold ev
 rw [beq_iff_eq]
 exact Int.mul_tmod_right 2 m
theorem div_root {x : Zw} (h : (zDiv x).2 = true) : zrt (zDiv x).1 = x := by
 unfold zDiv at h ⊢
 split at h
 ·rename_i hc
  rw [if_pos hc]
  rw [Bool.and_eq_true] at hc
  have hz := hc.2
  unfold zev at hz
  simp only [Bool.and_eq_true] at hz
  obtain ⟨⟨⟨h1, h2⟩, h3⟩, h4⟩ := hz
  replace h1 := ev_half h1
  replace h2 := ev_half h2
  replace h3 := ev_half h3
  replace h4 := ev_half h4
  simp only [zrt] at h1 h2 h3 h4
  apply Zw.eq <;> simp only [zrt, zhalf] <;> omega
 ·cases h
theorem root_div {y : Zw} (h : zok (zrt y) = true) : (zDiv (zrt y)).2 = true := by
 rw [zDiv_y h]
 rw [zrt_zrt]
 unfold zev
 simp only [ev_two, Bool.and_self]
theorem nwL_is (k : Nat) : ∀ {n : Zw}, zok n = true → (nwL k n).2 ≤ k ∧ up (k - (nwL k n).2) (nwL k n).1 = n ∧ ((nwL k n).2 = 0 ∨ (zDiv (nwL k n).1).2 = false) ∧ zok (nwL k n).1 = true := by
 induction k with
 | zero => exact fun h => ⟨Nat.le_refl _, rfl, Or.inl rfl, h⟩
 | succ k ih =>
  intro n h
  cases hd : (zDiv n).2
  ·rw [nwL_n hd]
   exact ⟨Nat.le_refl _, by rw [Nat.sub_self]; rfl, Or.inr hd, h⟩
  ·rw [nwL_y hd]
   have hr := div_root hd
   have hk : zok (zDiv n).1 = true := zok_near.2 (near_dn (by rw [hr]; exact zok_near.1 h))
   obtain ⟨h1, h2, h3, h4⟩ := ih hk
   refine ⟨by omega, ?_, h3, h4⟩
   rw [show k + 1 - (nwL k (zDiv n).1).2 = (k - (nwL k (zDiv n).1).2) + 1 by omega, up_succ, h2, hr]
theorem dok_iff {x : Dw} : dok x = true ↔ zok x.n = true ∧ 0 ≤ x.e ∧ x.e ≤ 60 ∧ (x.e = 0 ∨ (zDiv x.n).2 = false) := by
 unfold dok ex60
 simp only [Bool.and_eq_true, decide_eq_true_eq, Bool.or_eq_true, beq_iff_eq, Bool.not_eq_true', and_assoc]
/-- The amplitude at the K-th power of the root of 2. -/
def lift (K : Nat) (x : Dw) : Zw := up (K - x.e.toNat) x.n
theorem Dw.eq {x y : Dw} (h : x.n = y.n) (k : x.e = y.e) : x = y := by
 cases x; cases y; simp only at h k; subst h k; rfl
theorem lift_more {K J : Nat} {x : Dw} (h : x.e.toNat ≤ K) : lift (K + J) x = up J (lift K x) := by
 unfold lift
 rw [← up_more]
 congr 1
 omega
theorem lift_le {K : Nat} {x y : Dw} (hx : dok x = true) (hy : dok y = true) (hxK : x.e.toNat ≤ K) (hyK : y.e.toNat ≤ K) (hl : x.e ≤ y.e) (h : lift K x = lift K y) : x = y := by
 obtain ⟨x1, x2, x3, x4⟩ := dok_iff.1 hx
 obtain ⟨y1, y2, y3, y4⟩ := dok_iff.1 hy
 have e : lift K x = up (K - y.e.toNat) (up (y.e.toNat - x.e.toNat) x.n) := by
  unfold lift
  rw [← up_more]
  congr 1
  omega
 rw [e] at h
 have hn : up (y.e.toNat - x.e.toNat) x.n = y.n := up_inj _ h
 rcases Nat.eq_zero_or_pos (y.e.toNat - x.e.toNat) with h0 | h0
 ·rw [h0] at hn
  exact Dw.eq hn (by omega)
 ·obtain ⟨j, hj⟩ := Nat.exists_eq_add_of_le h0
  rw [show y.e.toNat - x.e.toNat = j + 1 by omega, up_succ] at hn
  have := root_div (y := up j x.n) (by rw [hn]; exact y1)
  rw [hn] at this
  rcases y4 with y4 | y4
  ·omega
  ·rw [this] at y4; cases y4
theorem lift_inj {K : Nat} {x y : Dw} (hx : dok x = true) (hy : dok y = true) (hxK : x.e.toNat ≤ K) (hyK : y.e.toNat ≤ K) (h : lift K x = lift K y) : x = y := by
 by_cases hl : x.e ≤ y.e
 ·exact lift_le hx hy hxK hyK hl h
 ·exact (lift_le hy hx hyK hxK (by omega) h.symm).symm
theorem newD_lift {n : Zw} {k : Nat} (h : zok n = true) (hk : k ≤ 60) : ∃ z, newD n k = (z, true) ∧ dok z = true ∧ z.e.toNat ≤ k ∧ ∀ K, k ≤ K → lift K z = up (K - k) n := by
 obtain ⟨h1, h2, h3, h4⟩ := nwL_is k h
 have e : newD n k = (⟨(nwL k n).1, (nwL k n).2⟩, true) := newD_y h (by omega) (by omega) (by rw [Int.toNat_natCast]; omega)
 refine ⟨_, e, dok_iff.2 ⟨h4, by show (0 : Int) ≤ ((nwL k n).2 : Int); omega, by show ((nwL k n).2 : Int) ≤ 60; omega, ?_⟩, by rw [Int.toNat_natCast]; exact h1, fun K hK => ?_⟩
 ·rcases h3 with h3 | h3
  ·left; show ((nwL k n).2 : Int) = 0; rw [h3]; rfl
  ·exact Or.inr h3
 ·unfold lift
  rw [Int.toNat_natCast]
  rw [show K - (nwL k n).2 = (k - (nwL k n).2) + (K - k) by omega, up_more, h2]
theorem zup_up (k : Nat) : ∀ {n : Zw}, near 1073741824 (up k n) → zup k n = (up k n, true) := by
 induction k with
 | zero => exact fun _ => rfl
 | succ k ih =>
  intro n h
  have h0 : near 1073741824 (zrt n) := near_of_up k h
  have hm : zMul n zrootc = (zrt n, true) := by
   rw [zMul_y (zok_near.2 (near_dn h0)) rfl, zmul_root, zif_y (zok_near.2 h0)]
  rw [zup_y (by rw [hm]), hm]
  exact ih h
theorem addD_lift {K : Nat} {x y : Dw} (hx : dok x = true) (hy : dok y = true) (hxK : x.e.toNat ≤ K) (hyK : y.e.toNat ≤ K) (hK : K ≤ 60) (nx : near 1073741824 (lift K x)) (ny : near 1073741824 (lift K y)) (ns : near 1073741824 (zadd (lift K x) (lift K y))) :
  ∃ z, addD x y = (z, true) ∧ dok z = true ∧ z.e.toNat ≤ K ∧ lift K z = zadd (lift K x) (lift K y) := by
 obtain ⟨x1, x2, x3, x4⟩ := dok_iff.1 hx
 obtain ⟨y1, y2, y3, y4⟩ := dok_iff.1 hy
 obtain ⟨m, hm⟩ : ∃ m : Nat, mx x.e y.e = m := ⟨(mx x.e y.e).toNat, by unfold mx; split <;> omega⟩
 have hmx : x.e ≤ m ∧ y.e ≤ m ∧ (m : Int) ≤ K := by rw [← hm]; unfold mx; split <;> omega
 have ex : lift K x = up (K - m) (up ((m : Int) - x.e).toNat x.n) := by unfold lift; rw [← up_more]; congr 1; omega
 have ey : lift K y = up (K - m) (up ((m : Int) - y.e).toNat y.n) := by unfold lift; rw [← up_more]; congr 1; omega
 rw [ex] at nx ns ⊢
 rw [ey] at ny ns ⊢
 rw [← up_add] at ns ⊢
 have ax := near_of_up _ nx
 have ay := near_of_up _ ny
 have an := near_of_up _ ns
 obtain ⟨z, h1, h2, h3, h4⟩ := newD_lift (zok_near.2 an) (k := m) (by omega)
 refine ⟨z, ?_, h2, by omega, h4 K (by omega)⟩
 rw [addD_y hx hy, hm]
 unfold addK
 rw [zup_up _ ax, zup_up _ ay]
 have e : zAdd (up ((m : Int) - x.e).toNat x.n) (up ((m : Int) - y.e).toNat y.n) = (zadd (up ((m : Int) - x.e).toNat x.n) (up ((m : Int) - y.e).toNat y.n), true) := by
  rw [zAdd_y (zok_near.2 ax) (zok_near.2 ay), zif_y (zok_near.2 an)]
 simp only [e, Bool.and_self, if_true]
 exact h1
/-- The powers of the eighth root. -/
def zw : Nat → Zw
 | 0 => ⟨1, 0, 0, 0⟩
 | 1 => ⟨0, 1, 0, 0⟩
 | 2 => ⟨0, 0, 1, 0⟩
 | 3 => ⟨0, 0, 0, 1⟩
 | 4 => ⟨-1, 0, 0, 0⟩
 | 5 => ⟨0, -1, 0, 0⟩
 | 6 => ⟨0, 0, -1, 0⟩
 | _ => ⟨0, 0, 0, -1⟩
def ph (j : Nat) : Dw := ⟨zw j, 0⟩
def rot (j : Nat) (x : Zw) : Zw := zmul x (zw j)
theorem lt8 {j : Nat} (h : j < 8) : j = 0 ∨ j = 1 ∨ j = 2 ∨ j = 3 ∨ j = 4 ∨ j = 5 ∨ j = 6 ∨ j = 7 := by omega
theorem rot_near {M : Int} {j : Nat} {x : Zw} (hj : j < 8) (h : near M x) : near M (rot j x) := by
 unfold near at *
 rcases lt8 hj with rfl | rfl | rfl | rfl | rfl | rfl | rfl | rfl <;> simp only [rot, zmul, zw] <;> omega
theorem rot_zrt {j : Nat} {x : Zw} (hj : j < 8) : rot j (zrt x) = zrt (rot j x) := by
 rcases lt8 hj with rfl | rfl | rfl | rfl | rfl | rfl | rfl | rfl <;> apply Zw.eq <;> simp only [rot, zmul, zw, zrt] <;> omega
theorem rot_up {j : Nat} (hj : j < 8) (k : Nat) : ∀ x : Zw, rot j (up k x) = up k (rot j x) := by
 induction k with
 | zero => exact fun x => rfl
 | succ k ih => exact fun x => by show rot j (up k (zrt x)) = up k (zrt (rot j x)); rw [ih, rot_zrt hj]
theorem rot_rot {i j : Nat} {x : Zw} (hi : i < 8) (hj : j < 8) (h : (i + j) % 8 = 0) : rot i (rot j x) = x := by
 rcases lt8 hj with rfl | rfl | rfl | rfl | rfl | rfl | rfl | rfl <;> rcases lt8 hi with rfl | rfl | rfl | rfl | rfl | rfl | rfl | rfl <;> first | (exfalso; omega) | (apply Zw.eq <;> simp only [rot, zmul, zw] <;> omega)
theorem rot_0 (x : Zw) : rot 0 x = x := by apply Zw.eq <;> simp only [rot, zmul, zw] <;> omega
theorem rot_add {j : Nat} {x y : Zw} (hj : j < 8) : rot j (zadd x y) = zadd (rot j x) (rot j y) := by
 rcases lt8 hj with rfl | rfl | rfl | rfl | rfl | rfl | rfl | rfl <;> apply Zw.eq <;> simp only [rot, zmul, zw, zadd] <;> omega
theorem rot_div {j : Nat} {x : Zw} (hj : j < 8) (hx : zok x = true) (h : (zDiv x).2 = false) : (zDiv (rot j x)).2 = false := by
 cases hd : (zDiv (rot j x)).2
 ·rfl
 ·have hr := div_root hd
  have e : x = zrt (rot ((8 - j) % 8) (zDiv (rot j x)).1) := by
   rw [← rot_zrt (by omega), hr, rot_rot (by omega) hj (by omega)]
  have := root_div (y := rot ((8 - j) % 8) (zDiv (rot j x)).1) (by rw [← e]; exact hx)
  rw [← e, h] at this
  cases this
theorem zw_ok (j : Nat) : zok (zw j) = true := by
 unfold zw
 split <;> rfl
theorem ph_ok (j : Nat) : dok (ph j) = true := dok_iff.2 ⟨zw_ok j, Int.le_refl 0, by show (0 : Int) ≤ 60; decide, Or.inl rfl⟩
theorem mulD_ph {j : Nat} {x : Dw} (hj : j < 8) (hx : dok x = true) : mulD x (ph j) = (⟨rot j x.n, x.e⟩, true) ∧ dok ⟨rot j x.n, x.e⟩ = true := by
 obtain ⟨x1, x2, x3, x4⟩ := dok_iff.1 hx
 have hr : zok (rot j x.n) = true := zok_near.2 (rot_near hj (zok_near.1 x1))
 have hm : zMul x.n (ph j).n = (rot j x.n, true) := by
  show zMul x.n (zw j) = _
  rw [zMul_y x1 (zw_ok j)]
  exact zif_y hr
 have hn : nwL x.e.toNat (rot j x.n) = (rot j x.n, x.e.toNat) := by
  rcases x4 with x4 | x4
  ·rw [x4]; rfl
  ·cases hk : x.e.toNat with
   | zero => rfl
   | succ k => exact nwL_n (rot_div hj x1 x4)
 constructor
 ·rw [mulD_y hx (ph_ok j) (by rw [hm]), hm]
  show newD (rot j x.n) (x.e + 0) = _
  rw [Int.add_zero, newD_y hr x2 (by omega) (by rw [hn]; show x.e.toNat ≤ 60; omega), hn]
  show ((⟨rot j x.n, (x.e.toNat : Int)⟩ : Dw), true) = _
  rw [Int.toNat_of_nonneg x2]
 ·exact dok_iff.2 ⟨hr, x2, x3, x4.imp id (rot_div hj x1)⟩
theorem lift_ph {j K : Nat} {x : Dw} (hj : j < 8) : lift K ⟨rot j x.n, x.e⟩ = rot j (lift K x) := by
 unfold lift
 rw [rot_up hj]
/-- One through the root of 2. -/
def hp : Dw := ⟨⟨1, 0, 0, 0⟩, 1⟩
def hm : Dw := ⟨⟨-1, 0, 0, 0⟩, 1⟩
theorem mulD_h {j : Nat} {x : Dw} (hj : j = 0 ∨ j = 4) (hx : dok x = true) (he : x.e ≤ 59) : ∃ z, mulD x ⟨zw j, 1⟩ = (z, true) ∧ dok z = true ∧ z.e.toNat ≤ x.e.toNat + 1 ∧ ∀ K, x.e.toNat ≤ K → lift (K + 1) z = rot j (lift K x) := by
 have hj8 : j < 8 := by omega
 obtain ⟨x1, x2, x3, x4⟩ := dok_iff.1 hx
 have hr : zok (rot j x.n) = true := zok_near.2 (rot_near hj8 (zok_near.1 x1))
 have hq : dok ⟨zw j, 1⟩ = true := by rcases hj with rfl | rfl <;> rfl
 have hmm : zMul x.n (zw j) = (rot j x.n, true) := by
  rw [zMul_y x1 (zw_ok j)]
  exact zif_y hr
 obtain ⟨z, h1, h2, h3, h4⟩ := newD_lift hr (k := x.e.toNat + 1) (by omega)
 refine ⟨z, ?_, h2, h3, fun K hK => ?_⟩
 ·rw [mulD_y hx hq (by show (zMul x.n (zw j)).2 = true; rw [hmm])]
  show newD (zMul x.n (zw j)).1 (x.e + 1) = _
  rw [hmm, ← h1]
  congr 1
  omega
 ·rw [h4 (K + 1) (by omega)]
  unfold lift
  rw [rot_up hj8]
  congr 1
  omega
end Go.Proofs.YtdjckjfclhjpcaaGreat
