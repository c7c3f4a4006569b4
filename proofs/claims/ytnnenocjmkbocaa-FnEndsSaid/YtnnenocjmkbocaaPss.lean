/-
  Helper text (no claim of its own): one step of a path, by the program and by the reference.
-/
import Derived.Test.YtnnenocjmkbocaaSvg
import Derived.Laws.BitsAllLaws
import Derived.Laws.BitsLemmas
namespace Go.Proofs.Ytnnenocjmkbocaa
open Go.ChangeShapes Go.WideShapes Go.ChangeAt Go.RowKit Go.Deep
def bt (i a : Int) : Int := bits .and .i64 (i / 2 ^ a.toNat) 1
theorem and_one (x : Int) : bits .and .i64 x 1 = 0 ∨ bits .and .i64 x 1 = 1 := by
  have h : bits .and .i64 x 1 = IntKind.i64.wrap ((BitVec.ofInt 64 x &&& BitVec.ofInt 64 1).toNat : Int) := rfl
  rw [h, BitVec.toNat_and]
  have e1 : (BitVec.ofInt 64 1).toNat = 1 := rfl
  rw [e1, Nat.and_one_is_mod]
  rcases Nat.mod_two_eq_zero_or_one (BitVec.ofInt 64 x).toNat with e | e <;> rw [e]
  · exact .inl rfl
  · exact .inr rfl
theorem bt01 (i a : Int) : bt i a = 0 ∨ bt i a = 1 := and_one _
theorem tmod8 (n : Int) : (0 ≤ n ∧ n.tmod 8 = n % 8) ∨ (n < 0 ∧ n.tmod 8 = -((-n) % 8)) := by
  rcases Int.lt_or_le n 0 with h | h
  · right
    refine ⟨h, ?_⟩
    have h1 := Int.neg_tmod (-n) 8
    rw [Int.neg_neg] at h1
    rw [h1, Int.tmod_eq_emod_of_nonneg (by omega)]
  · exact .inl ⟨h, Int.tmod_eq_emod_of_nonneg h⟩
theorem mod8_any (n : Int) (w : World) (h : I64 n) : Calls Try.prog 133 #[.int .i64 n] w fun e w' => e = .returned (.int .i64 (n % 8)) ∧ w = w' := by
  obtain ⟨h1, h2⟩ := h
  have ht := tmod8 n
  have e1 : Hid ((n.tmod 8 + 8) % 8 = n % 8) := by unfold Hid; omega
  have b1 : -8 < n.tmod 8 := by omega
  have b2 : n.tmod 8 < 8 := by omega
  clear ht
  go_enter Try.func133, Try.ntmps133
  go_wp2
  go_ret
  exact ⟨ret_int e1.out, rfl⟩
theorem l32Rest_any (n : Int) (w : World) (h : I64 n) : Calls Try.prog 131 #[.int .i64 n] w fun e w' => e = .returned (.int .i64 (n % 8)) ∧ w = w' := by
  obtain ⟨h1, h2⟩ := h
  have ht := tmod8 n
  have b1 : -8 < n.tmod 8 := by omega
  have b2 : n.tmod 8 < 8 := by omega
  by_cases hm : n.tmod 8 < 0
  · have e1 : Hid (n.tmod 8 + 8 = n % 8) := by unfold Hid; omega
    clear ht
    go_enter Try.func131, Try.ntmps131
    go_wp2
    go_ret
    exact ⟨ret_int e1.out, rfl⟩
  · have e1 : Hid (n.tmod 8 = n % 8) := by unfold Hid; omega
    clear ht
    go_enter Try.func131, Try.ntmps131
    go_wp2
    go_ret
    exact ⟨ret_int e1.out, rfl⟩
/-- The phase of a step (in eighths), and where it leads. -/
def psP (g : Gt) (i bit : Int) : Int :=
  if g.k = 2 then 2 + 4 * bt i g.a else if g.k = 3 then 4 * bt i g.a else if g.k = 4 then 4 * bt i g.a * bit else if g.k = 5 then 2 * bt i g.a else if g.k = 6 then 6 * bt i g.a
  else if g.k = 7 then bt i g.a else if g.k = 8 then 7 * bt i g.a else if g.k = 10 then 4 * bt i g.a * bt i g.b else 0
def xr (x y : Int) : Int := bits .xor .i64 x y
def P2 (a : Int) : Int := wrap64 (2 ^ a.toNat)
def psT (g : Gt) (i bit : Int) : Int :=
  if g.k = 1 ∨ g.k = 2 then xr i (P2 g.a)
  else if g.k = 4 then bits .or .i64 (bits .andNot .i64 i (P2 g.a)) (wrap64 (bit * 2 ^ g.a.toNat))
  else if g.k = 9 then (if bt i g.a = 1 then xr i (P2 g.b) else i)
  else if g.k = 11 then (if bt i g.a = bt i g.b then i else xr (xr i (P2 g.a)) (P2 g.b))
  else if g.k = 12 then (if bt i g.a = 1 ∧ bt i g.b = 1 then xr i (P2 g.c) else i)
  else i
theorem xor0 (i : Int) (h : I64 i) : bits .xor .i64 i 0 = i := by
  have e : bits .xor .i64 i 0 = IntKind.i64.wrap ((BitVec.ofInt 64 i ^^^ BitVec.ofInt 64 0).toNat : Int) := rfl
  obtain ⟨h1, h2⟩ := h
  rw [e]
  have e2 : (BitVec.ofInt 64 0) = 0#64 := rfl
  rw [e2, BitVec.xor_zero, IntKind.wrap_i64, BitVec.toNat_ofInt]
  omega
theorem ret_two {a b c d : Int} (h : a = c) (h' : b = d) : Ending.returned (.tuple #[.int .i64 a, .int .i64 b]) = .returned (.tuple #[.int .i64 c, .int .i64 d]) := by rw [h, h']
theorem wrap8 (n : Int) : wrap64 n % 8 = n % 8 := by unfold wrap64; omega
theorem wrapI (n : Int) : I64 (wrap64 n) := by unfold wrap64 I64; omega
set_option maxRecDepth 100000 in
set_option maxHeartbeats 8000000 in
theorem moved_any (g : Gt) (i : Int) (w : World) (hI : I64 i) (ha : 0 ≤ g.a) (ha' : g.a ≤ 3) (hb : 0 ≤ g.b) (hb' : g.b ≤ 3) (hc : 0 ≤ g.c) (hc' : g.c ≤ 3) (hk1 : 1 ≤ g.k) (hk12 : g.k ≤ 12) (hk4 : g.k ≠ 4) :
    Calls Try.prog 134 #[g.val, .int .i64 i] w fun e w' => e = .returned (.tuple #[.int .i64 (psT g i 0), .int .i64 (psP g i 0)]) ∧ Ext w w' := by
  have HI := Lib.hid hI
  obtain ⟨hI1, hI2⟩ := hI
  rcases (by omega : g.k = 1 ∨ g.k = 2 ∨ g.k = 3 ∨ g.k = 5 ∨ g.k = 6 ∨ g.k = 7 ∨ g.k = 8 ∨ g.k = 9 ∨ g.k = 10 ∨ g.k = 11 ∨ g.k = 12) with hk | hk | hk | hk | hk | hk | hk | hk | hk | hk | hk
  · skip
    have HT : Hid (psT g i 0 = xr i (P2 g.a)) := by unfold Hid psT; simp [hk]
    have HP : Hid (psP g i 0 = 0) := by unfold Hid psP; simp [hk]
    clear hk1 hk12 hk4
    go_enter Try.func134, Try.ntmps134
    go_wp2
    go_ret2
    exact ⟨ret_two (by first | exact HT.out.symm | exact (xor0 i HI.out).trans HT.out.symm | (rw [HT.out]; simp)) (by first | exact HP.out.symm | (rw [HP.out]; simp)), (by repeat (first | exact Ext.refl _ | assumption | refine Ext.alloc ?_ _ | refine Ext.drewN ?_ _ | refine Ext.drew ?_))⟩
  · rcases and_one (i / 2 ^ g.a.toNat) with hA | hA
    · skip
      have tA : bt i g.a = 0 := hA
      have HT : Hid (psT g i 0 = xr i (P2 g.a)) := by unfold Hid psT; simp [hk]
      have HP : Hid (psP g i 0 = 2) := by unfold Hid psP; simp [hk, tA]
      clear hk1 hk12 hk4 tA
      go_enter Try.func134, Try.ntmps134
      go_wp2
      go_ret2
      exact ⟨ret_two (by first | exact HT.out.symm | exact (xor0 i HI.out).trans HT.out.symm | (rw [HT.out]; simp)) (by first | exact HP.out.symm | (rw [HP.out]; simp)), (by repeat (first | exact Ext.refl _ | assumption | refine Ext.alloc ?_ _ | refine Ext.drewN ?_ _ | refine Ext.drew ?_))⟩
    · skip
      have tA : bt i g.a = 1 := hA
      have HT : Hid (psT g i 0 = xr i (P2 g.a)) := by unfold Hid psT; simp [hk]
      have HP : Hid (psP g i 0 = 6) := by unfold Hid psP; simp [hk, tA]
      clear hk1 hk12 hk4 tA
      go_enter Try.func134, Try.ntmps134
      go_wp2
      go_ret2
      exact ⟨ret_two (by first | exact HT.out.symm | exact (xor0 i HI.out).trans HT.out.symm | (rw [HT.out]; simp)) (by first | exact HP.out.symm | (rw [HP.out]; simp)), (by repeat (first | exact Ext.refl _ | assumption | refine Ext.alloc ?_ _ | refine Ext.drewN ?_ _ | refine Ext.drew ?_))⟩
  · rcases and_one (i / 2 ^ g.a.toNat) with hA | hA
    · skip
      have tA : bt i g.a = 0 := hA
      have HT : Hid (psT g i 0 = i) := by unfold Hid psT; simp [hk]
      have HP : Hid (psP g i 0 = 0) := by unfold Hid psP; simp [hk, tA]
      clear hk1 hk12 hk4 tA
      go_enter Try.func134, Try.ntmps134
      go_wp2
      go_ret2
      exact ⟨ret_two (by first | exact HT.out.symm | exact (xor0 i HI.out).trans HT.out.symm | (rw [HT.out]; simp)) (by first | exact HP.out.symm | (rw [HP.out]; simp)), (by repeat (first | exact Ext.refl _ | assumption | refine Ext.alloc ?_ _ | refine Ext.drewN ?_ _ | refine Ext.drew ?_))⟩
    · skip
      have tA : bt i g.a = 1 := hA
      have HT : Hid (psT g i 0 = i) := by unfold Hid psT; simp [hk]
      have HP : Hid (psP g i 0 = 4) := by unfold Hid psP; simp [hk, tA]
      clear hk1 hk12 hk4 tA
      go_enter Try.func134, Try.ntmps134
      go_wp2
      go_ret2
      exact ⟨ret_two (by first | exact HT.out.symm | exact (xor0 i HI.out).trans HT.out.symm | (rw [HT.out]; simp)) (by first | exact HP.out.symm | (rw [HP.out]; simp)), (by repeat (first | exact Ext.refl _ | assumption | refine Ext.alloc ?_ _ | refine Ext.drewN ?_ _ | refine Ext.drew ?_))⟩
  · rcases and_one (i / 2 ^ g.a.toNat) with hA | hA
    · skip
      have tA : bt i g.a = 0 := hA
      have HT : Hid (psT g i 0 = i) := by unfold Hid psT; simp [hk]
      have HP : Hid (psP g i 0 = 0) := by unfold Hid psP; simp [hk, tA]
      clear hk1 hk12 hk4 tA
      go_enter Try.func134, Try.ntmps134
      go_wp2
      go_ret2
      exact ⟨ret_two (by first | exact HT.out.symm | exact (xor0 i HI.out).trans HT.out.symm | (rw [HT.out]; simp)) (by first | exact HP.out.symm | (rw [HP.out]; simp)), (by repeat (first | exact Ext.refl _ | assumption | refine Ext.alloc ?_ _ | refine Ext.drewN ?_ _ | refine Ext.drew ?_))⟩
    · skip
      have tA : bt i g.a = 1 := hA
      have HT : Hid (psT g i 0 = i) := by unfold Hid psT; simp [hk]
      have HP : Hid (psP g i 0 = 2) := by unfold Hid psP; simp [hk, tA]
      clear hk1 hk12 hk4 tA
      go_enter Try.func134, Try.ntmps134
      go_wp2
      go_ret2
      exact ⟨ret_two (by first | exact HT.out.symm | exact (xor0 i HI.out).trans HT.out.symm | (rw [HT.out]; simp)) (by first | exact HP.out.symm | (rw [HP.out]; simp)), (by repeat (first | exact Ext.refl _ | assumption | refine Ext.alloc ?_ _ | refine Ext.drewN ?_ _ | refine Ext.drew ?_))⟩
  · rcases and_one (i / 2 ^ g.a.toNat) with hA | hA
    · skip
      have tA : bt i g.a = 0 := hA
      have HT : Hid (psT g i 0 = i) := by unfold Hid psT; simp [hk]
      have HP : Hid (psP g i 0 = 0) := by unfold Hid psP; simp [hk, tA]
      clear hk1 hk12 hk4 tA
      go_enter Try.func134, Try.ntmps134
      go_wp2
      go_ret2
      exact ⟨ret_two (by first | exact HT.out.symm | exact (xor0 i HI.out).trans HT.out.symm | (rw [HT.out]; simp)) (by first | exact HP.out.symm | (rw [HP.out]; simp)), (by repeat (first | exact Ext.refl _ | assumption | refine Ext.alloc ?_ _ | refine Ext.drewN ?_ _ | refine Ext.drew ?_))⟩
    · skip
      have tA : bt i g.a = 1 := hA
      have HT : Hid (psT g i 0 = i) := by unfold Hid psT; simp [hk]
      have HP : Hid (psP g i 0 = 6) := by unfold Hid psP; simp [hk, tA]
      clear hk1 hk12 hk4 tA
      go_enter Try.func134, Try.ntmps134
      go_wp2
      go_ret2
      exact ⟨ret_two (by first | exact HT.out.symm | exact (xor0 i HI.out).trans HT.out.symm | (rw [HT.out]; simp)) (by first | exact HP.out.symm | (rw [HP.out]; simp)), (by repeat (first | exact Ext.refl _ | assumption | refine Ext.alloc ?_ _ | refine Ext.drewN ?_ _ | refine Ext.drew ?_))⟩
  · rcases and_one (i / 2 ^ g.a.toNat) with hA | hA
    · skip
      have tA : bt i g.a = 0 := hA
      have HT : Hid (psT g i 0 = i) := by unfold Hid psT; simp [hk]
      have HP : Hid (psP g i 0 = 0) := by unfold Hid psP; simp [hk, tA]
      clear hk1 hk12 hk4 tA
      go_enter Try.func134, Try.ntmps134
      go_wp2
      go_ret2
      exact ⟨ret_two (by first | exact HT.out.symm | exact (xor0 i HI.out).trans HT.out.symm | (rw [HT.out]; simp)) (by first | exact HP.out.symm | (rw [HP.out]; simp)), (by repeat (first | exact Ext.refl _ | assumption | refine Ext.alloc ?_ _ | refine Ext.drewN ?_ _ | refine Ext.drew ?_))⟩
    · skip
      have tA : bt i g.a = 1 := hA
      have HT : Hid (psT g i 0 = i) := by unfold Hid psT; simp [hk]
      have HP : Hid (psP g i 0 = 1) := by unfold Hid psP; simp [hk, tA]
      clear hk1 hk12 hk4 tA
      go_enter Try.func134, Try.ntmps134
      go_wp2
      go_ret2
      exact ⟨ret_two (by first | exact HT.out.symm | exact (xor0 i HI.out).trans HT.out.symm | (rw [HT.out]; simp)) (by first | exact HP.out.symm | (rw [HP.out]; simp)), (by repeat (first | exact Ext.refl _ | assumption | refine Ext.alloc ?_ _ | refine Ext.drewN ?_ _ | refine Ext.drew ?_))⟩
  · rcases and_one (i / 2 ^ g.a.toNat) with hA | hA
    · skip
      have tA : bt i g.a = 0 := hA
      have HT : Hid (psT g i 0 = i) := by unfold Hid psT; simp [hk]
      have HP : Hid (psP g i 0 = 0) := by unfold Hid psP; simp [hk, tA]
      clear hk1 hk12 hk4 tA
      go_enter Try.func134, Try.ntmps134
      go_wp2
      go_ret2
      exact ⟨ret_two (by first | exact HT.out.symm | exact (xor0 i HI.out).trans HT.out.symm | (rw [HT.out]; simp)) (by first | exact HP.out.symm | (rw [HP.out]; simp)), (by repeat (first | exact Ext.refl _ | assumption | refine Ext.alloc ?_ _ | refine Ext.drewN ?_ _ | refine Ext.drew ?_))⟩
    · skip
      have tA : bt i g.a = 1 := hA
      have HT : Hid (psT g i 0 = i) := by unfold Hid psT; simp [hk]
      have HP : Hid (psP g i 0 = 7) := by unfold Hid psP; simp [hk, tA]
      clear hk1 hk12 hk4 tA
      go_enter Try.func134, Try.ntmps134
      go_wp2
      go_ret2
      exact ⟨ret_two (by first | exact HT.out.symm | exact (xor0 i HI.out).trans HT.out.symm | (rw [HT.out]; simp)) (by first | exact HP.out.symm | (rw [HP.out]; simp)), (by repeat (first | exact Ext.refl _ | assumption | refine Ext.alloc ?_ _ | refine Ext.drewN ?_ _ | refine Ext.drew ?_))⟩
  · rcases and_one (i / 2 ^ g.a.toNat) with hA | hA
    · skip
      have tA : bt i g.a = 0 := hA
      have HT : Hid (psT g i 0 = i) := by unfold Hid psT; simp [hk, tA]
      have HP : Hid (psP g i 0 = 0) := by unfold Hid psP; simp [hk]
      clear hk1 hk12 hk4 tA
      go_enter Try.func134, Try.ntmps134
      go_wp2
      go_ret2
      exact ⟨ret_two (by first | exact HT.out.symm | exact (xor0 i HI.out).trans HT.out.symm | (rw [HT.out]; simp)) (by first | exact HP.out.symm | (rw [HP.out]; simp)), (by repeat (first | exact Ext.refl _ | assumption | refine Ext.alloc ?_ _ | refine Ext.drewN ?_ _ | refine Ext.drew ?_))⟩
    · skip
      have tA : bt i g.a = 1 := hA
      have HT : Hid (psT g i 0 = xr i (P2 g.b)) := by unfold Hid psT; simp [hk, tA]
      have HP : Hid (psP g i 0 = 0) := by unfold Hid psP; simp [hk]
      clear hk1 hk12 hk4 tA
      go_enter Try.func134, Try.ntmps134
      go_wp2
      go_ret2
      exact ⟨ret_two (by first | exact HT.out.symm | exact (xor0 i HI.out).trans HT.out.symm | (rw [HT.out]; simp)) (by first | exact HP.out.symm | (rw [HP.out]; simp)), (by repeat (first | exact Ext.refl _ | assumption | refine Ext.alloc ?_ _ | refine Ext.drewN ?_ _ | refine Ext.drew ?_))⟩
  · rcases and_one (i / 2 ^ g.a.toNat) with hA | hA <;> rcases and_one (i / 2 ^ g.b.toNat) with hB | hB
    · skip
      have tA : bt i g.a = 0 := hA
      have tB : bt i g.b = 0 := hB
      have HT : Hid (psT g i 0 = i) := by unfold Hid psT; simp [hk]
      have HP : Hid (psP g i 0 = 0) := by unfold Hid psP; simp [hk, tA, tB]
      clear hk1 hk12 hk4 tA tB
      go_enter Try.func134, Try.ntmps134
      go_wp2
      go_ret2
      exact ⟨ret_two (by first | exact HT.out.symm | exact (xor0 i HI.out).trans HT.out.symm | (rw [HT.out]; simp)) (by first | exact HP.out.symm | (rw [HP.out]; simp)), (by repeat (first | exact Ext.refl _ | assumption | refine Ext.alloc ?_ _ | refine Ext.drewN ?_ _ | refine Ext.drew ?_))⟩
    · skip
      have tA : bt i g.a = 0 := hA
      have tB : bt i g.b = 1 := hB
      have HT : Hid (psT g i 0 = i) := by unfold Hid psT; simp [hk]
      have HP : Hid (psP g i 0 = 0) := by unfold Hid psP; simp [hk, tA, tB]
      clear hk1 hk12 hk4 tA tB
      go_enter Try.func134, Try.ntmps134
      go_wp2
      go_ret2
      exact ⟨ret_two (by first | exact HT.out.symm | exact (xor0 i HI.out).trans HT.out.symm | (rw [HT.out]; simp)) (by first | exact HP.out.symm | (rw [HP.out]; simp)), (by repeat (first | exact Ext.refl _ | assumption | refine Ext.alloc ?_ _ | refine Ext.drewN ?_ _ | refine Ext.drew ?_))⟩
    · skip
      have tA : bt i g.a = 1 := hA
      have tB : bt i g.b = 0 := hB
      have HT : Hid (psT g i 0 = i) := by unfold Hid psT; simp [hk]
      have HP : Hid (psP g i 0 = 0) := by unfold Hid psP; simp [hk, tA, tB]
      clear hk1 hk12 hk4 tA tB
      go_enter Try.func134, Try.ntmps134
      go_wp2
      go_ret2
      exact ⟨ret_two (by first | exact HT.out.symm | exact (xor0 i HI.out).trans HT.out.symm | (rw [HT.out]; simp)) (by first | exact HP.out.symm | (rw [HP.out]; simp)), (by repeat (first | exact Ext.refl _ | assumption | refine Ext.alloc ?_ _ | refine Ext.drewN ?_ _ | refine Ext.drew ?_))⟩
    · skip
      have tA : bt i g.a = 1 := hA
      have tB : bt i g.b = 1 := hB
      have HT : Hid (psT g i 0 = i) := by unfold Hid psT; simp [hk]
      have HP : Hid (psP g i 0 = 4) := by unfold Hid psP; simp [hk, tA, tB]
      clear hk1 hk12 hk4 tA tB
      go_enter Try.func134, Try.ntmps134
      go_wp2
      go_ret2
      exact ⟨ret_two (by first | exact HT.out.symm | exact (xor0 i HI.out).trans HT.out.symm | (rw [HT.out]; simp)) (by first | exact HP.out.symm | (rw [HP.out]; simp)), (by repeat (first | exact Ext.refl _ | assumption | refine Ext.alloc ?_ _ | refine Ext.drewN ?_ _ | refine Ext.drew ?_))⟩
  · rcases and_one (i / 2 ^ g.a.toNat) with hA | hA <;> rcases and_one (i / 2 ^ g.b.toNat) with hB | hB
    · skip
      have tA : bt i g.a = 0 := hA
      have tB : bt i g.b = 0 := hB
      have HT : Hid (psT g i 0 = i) := by unfold Hid psT; simp [hk, tA, tB]
      have HP : Hid (psP g i 0 = 0) := by unfold Hid psP; simp [hk]
      clear hk1 hk12 hk4 tA tB
      go_enter Try.func134, Try.ntmps134
      go_wp2
      go_ret2
      exact ⟨ret_two (by first | exact HT.out.symm | exact (xor0 i HI.out).trans HT.out.symm | (rw [HT.out]; simp)) (by first | exact HP.out.symm | (rw [HP.out]; simp)), (by repeat (first | exact Ext.refl _ | assumption | refine Ext.alloc ?_ _ | refine Ext.drewN ?_ _ | refine Ext.drew ?_))⟩
    · skip
      have tA : bt i g.a = 0 := hA
      have tB : bt i g.b = 1 := hB
      have HT : Hid (psT g i 0 = xr (xr i (P2 g.a)) (P2 g.b)) := by unfold Hid psT; simp [hk, tA, tB]
      have HP : Hid (psP g i 0 = 0) := by unfold Hid psP; simp [hk]
      clear hk1 hk12 hk4 tA tB
      go_enter Try.func134, Try.ntmps134
      go_wp2
      go_quiet (fail)
      go_wp2
      go_ret2
      exact ⟨ret_two (by first | exact HT.out.symm | exact (xor0 i HI.out).trans HT.out.symm | (rw [HT.out]; simp)) (by first | exact HP.out.symm | (rw [HP.out]; simp)), (by repeat (first | exact Ext.refl _ | assumption | refine Ext.alloc ?_ _ | refine Ext.drewN ?_ _ | refine Ext.drew ?_))⟩
    · skip
      have tA : bt i g.a = 1 := hA
      have tB : bt i g.b = 0 := hB
      have HT : Hid (psT g i 0 = xr (xr i (P2 g.a)) (P2 g.b)) := by unfold Hid psT; simp [hk, tA, tB]
      have HP : Hid (psP g i 0 = 0) := by unfold Hid psP; simp [hk]
      clear hk1 hk12 hk4 tA tB
      go_enter Try.func134, Try.ntmps134
      go_wp2
      go_quiet (fail)
      go_wp2
      go_ret2
      exact ⟨ret_two (by first | exact HT.out.symm | exact (xor0 i HI.out).trans HT.out.symm | (rw [HT.out]; simp)) (by first | exact HP.out.symm | (rw [HP.out]; simp)), (by repeat (first | exact Ext.refl _ | assumption | refine Ext.alloc ?_ _ | refine Ext.drewN ?_ _ | refine Ext.drew ?_))⟩
    · skip
      have tA : bt i g.a = 1 := hA
      have tB : bt i g.b = 1 := hB
      have HT : Hid (psT g i 0 = i) := by unfold Hid psT; simp [hk, tA, tB]
      have HP : Hid (psP g i 0 = 0) := by unfold Hid psP; simp [hk]
      clear hk1 hk12 hk4 tA tB
      go_enter Try.func134, Try.ntmps134
      go_wp2
      go_ret2
      exact ⟨ret_two (by first | exact HT.out.symm | exact (xor0 i HI.out).trans HT.out.symm | (rw [HT.out]; simp)) (by first | exact HP.out.symm | (rw [HP.out]; simp)), (by repeat (first | exact Ext.refl _ | assumption | refine Ext.alloc ?_ _ | refine Ext.drewN ?_ _ | refine Ext.drew ?_))⟩
  · rcases and_one (i / 2 ^ g.a.toNat) with hA | hA <;> rcases and_one (i / 2 ^ g.b.toNat) with hB | hB
    · skip
      have tA : bt i g.a = 0 := hA
      have tB : bt i g.b = 0 := hB
      have HT : Hid (psT g i 0 = i) := by unfold Hid psT; simp [hk, tA, tB]
      have HP : Hid (psP g i 0 = 0) := by unfold Hid psP; simp [hk]
      clear hk1 hk12 hk4 tA tB
      go_enter Try.func134, Try.ntmps134
      go_wp2
      go_ret2
      exact ⟨ret_two (by first | exact HT.out.symm | exact (xor0 i HI.out).trans HT.out.symm | (rw [HT.out]; simp)) (by first | exact HP.out.symm | (rw [HP.out]; simp)), (by repeat (first | exact Ext.refl _ | assumption | refine Ext.alloc ?_ _ | refine Ext.drewN ?_ _ | refine Ext.drew ?_))⟩
    · skip
      have tA : bt i g.a = 0 := hA
      have tB : bt i g.b = 1 := hB
      have HT : Hid (psT g i 0 = i) := by unfold Hid psT; simp [hk, tA, tB]
      have HP : Hid (psP g i 0 = 0) := by unfold Hid psP; simp [hk]
      clear hk1 hk12 hk4 tA tB
      go_enter Try.func134, Try.ntmps134
      go_wp2
      go_ret2
      exact ⟨ret_two (by first | exact HT.out.symm | exact (xor0 i HI.out).trans HT.out.symm | (rw [HT.out]; simp)) (by first | exact HP.out.symm | (rw [HP.out]; simp)), (by repeat (first | exact Ext.refl _ | assumption | refine Ext.alloc ?_ _ | refine Ext.drewN ?_ _ | refine Ext.drew ?_))⟩
    · skip
      have tA : bt i g.a = 1 := hA
      have tB : bt i g.b = 0 := hB
      have HT : Hid (psT g i 0 = i) := by unfold Hid psT; simp [hk, tA, tB]
      have HP : Hid (psP g i 0 = 0) := by unfold Hid psP; simp [hk]
      clear hk1 hk12 hk4 tA tB
      go_enter Try.func134, Try.ntmps134
      go_wp2
      go_ret2
      exact ⟨ret_two (by first | exact HT.out.symm | exact (xor0 i HI.out).trans HT.out.symm | (rw [HT.out]; simp)) (by first | exact HP.out.symm | (rw [HP.out]; simp)), (by repeat (first | exact Ext.refl _ | assumption | refine Ext.alloc ?_ _ | refine Ext.drewN ?_ _ | refine Ext.drew ?_))⟩
    · skip
      have tA : bt i g.a = 1 := hA
      have tB : bt i g.b = 1 := hB
      have HT : Hid (psT g i 0 = xr i (P2 g.c)) := by unfold Hid psT; simp [hk, tA, tB]
      have HP : Hid (psP g i 0 = 0) := by unfold Hid psP; simp [hk]
      clear hk1 hk12 hk4 tA tB
      go_enter Try.func134, Try.ntmps134
      go_wp2
      go_ret2
      exact ⟨ret_two (by first | exact HT.out.symm | exact (xor0 i HI.out).trans HT.out.symm | (rw [HT.out]; simp)) (by first | exact HP.out.symm | (rw [HP.out]; simp)), (by repeat (first | exact Ext.refl _ | assumption | refine Ext.alloc ?_ _ | refine Ext.drewN ?_ _ | refine Ext.drew ?_))⟩
end Go.Proofs.Ytnnenocjmkbocaa
