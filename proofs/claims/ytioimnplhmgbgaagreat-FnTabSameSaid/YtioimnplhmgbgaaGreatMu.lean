/-
 Helper text (no claim of its own): products of Paulis, whether two commute, whether one is hermitian, by the program and by the reference. Printed by gen_mu.py.
-/
import Derived.Test.YtioimnplhmgbgaaGreatPon
import Derived.Test.YtioimnplhmgbgaaGreatRet
namespace Go.Proofs.YtioimnplhmgbgaaGreat
open Go.ChangeShapes Go.WideShapes Go.ChangeAt Go.RowKit Go.Deep
set_option linter.unusedSimpArgs false
set_option linter.unusedVariables false
theorem Tryz.sizePauliR : (Tryz.prog.info? 66).map (·.size) = some 4 := by kernel_rfl
/-- What a product returns. -/
def MulRes (a b : Pa) (e : Ending) : Prop := e = .returned (.tuple #[(mulR a b).val, .bool (vPa a && vPa b && a.n == b.n)])
theorem herm_sum {a b : Int} (h : 0 ≤ a) (k : 0 ≤ b) : (a % 2 == b % 2) = ((a + b) % 2 == 0) := by
 by_cases e : a % 2 = b % 2
 ·have : (a + b) % 2 = 0 := by omega
  rw [beq_iff_eq.2 e, beq_iff_eq.2 this]
 ·have : ¬ (a + b) % 2 = 0 := by omega
  rw [beq_eq_false_iff_ne.2 e, beq_eq_false_iff_ne.2 this]
theorem mulR_no {a b : Pa} (h : (vPa a && vPa b && a.n == b.n) = false) : mulR a b = P0 := by unfold mulR; rw [h]; rfl
theorem mulR_yes {a b : Pa} (h : (vPa a && vPa b && a.n == b.n) = true) : mulR a b = mulP a b := by unfold mulR; rw [if_pos h]
theorem mulRes_no {a b : Pa} {e : Ending} (h : (vPa a && vPa b && a.n == b.n) = false) (he : e = .returned (.tuple #[P0.val, .bool false])) : MulRes a b e := by
 unfold MulRes; rw [he, mulR_no h, h]
theorem mulRes_yes {a b : Pa} {e : Ending} (h : (vPa a && vPa b && a.n == b.n) = true) (he : e = .returned (.tuple #[(mulP a b).val, .bool true])) : MulRes a b e := by
 unfold MulRes; rw [he, mulR_yes h, h]
set_option maxRecDepth 100000 in
set_option maxHeartbeats 8000000 in
theorem impl_MulPauli_any (a b : Pa) (w : World) : Calls Tryz.prog 63 #[a.val, b.val] w fun e w' => MulRes a b e ∧ Ext w w' := by
 go_enter Tryz.func63, Tryz.ntmps63
 go_wp2_with fail
 refine (impl_IsValidPauli_any a _).mono ?_
 rintro e w1 ⟨rfl, hx1⟩
 have HR1 : Hid (Blk w1 (w.heap.size + 2) 66 #[.int .i64 0, .int .i64 0, .int .i64 0, .int .i64 0]) := (Blk.newAt (b := w.heap.size + 2) (by simp)).ext hx1
 have HA1 : Hid (Blk w1 w.heap.size 66 #[.int .i64 a.n, .int .i64 a.x, .int .i64 a.z, .int .i64 a.p]) := (((Blk.new w _ _).alloc _).alloc _).ext hx1
 have HB1 : Hid (Blk w1 (w.heap.size + 1) 66 #[.int .i64 b.n, .int .i64 b.x, .int .i64 b.z, .int .i64 b.p]) := ((Blk.newAt (b := w.heap.size + 1) (by simp)).alloc _).ext hx1
 have HX1 : Hid (Ext w w1) := Ext.trans (by exact xx) hx1
 clear hx1
 cases ha : vPa a
 ·have HN : Hid ((vPa a && vPa b && a.n == b.n) = false) := by unfold Hid; rw [ha]; rfl
  clear ha
  obtain ⟨⟨a0, a1, a2, a3⟩, z0, z1, z2, z3⟩ := cells4 HR1.out
  go_wp2
  exact bodyPost_ret (v := .tuple #[P0.val, .bool false]) (ret_pair rfl _ _ _ _ _ _ _ rfl rfl (HR1.out.put4 (.int .i64 0) (.int .i64 0) (.int .i64 0) (.int .i64 0)) Tryz.underlying66 rfl Tryz.sizePauliR) rfl ⟨mulRes_no HN.out rfl, ext_put4 (g := w.heap.size + 1 + 1) HX1.out (by omega) _ _ _ _⟩
 have HVA := Lib.hid ha
 clear ha
 obtain ⟨⟨b0, b1, b2, b3⟩, _⟩ := cells4 HB1.out
 go_wp2_with fail
 refine (impl_IsValidPauli_any b _).mono ?_
 rintro e w2 ⟨rfl, hx2⟩
 clear b0 b1 b2 b3
 have HR2 := Lib.hid (HR1.out.ext hx2)
 have HA2 := Lib.hid (HA1.out.ext hx2)
 have HB2 := Lib.hid (HB1.out.ext hx2)
 have HX2 := Lib.hid (HX1.out.trans hx2)
 clear hx2 HR1 HA1 HB1 HX1
 cases hb : vPa b
 ·have HN : Hid ((vPa a && vPa b && a.n == b.n) = false) := by unfold Hid; rw [hb, Bool.and_false]; rfl
  clear hb
  obtain ⟨⟨a0, a1, a2, a3⟩, z0, z1, z2, z3⟩ := cells4 HR2.out
  go_wp2
  exact bodyPost_ret (v := .tuple #[P0.val, .bool false]) (ret_pair rfl _ _ _ _ _ _ _ rfl rfl (HR2.out.put4 (.int .i64 0) (.int .i64 0) (.int .i64 0) (.int .i64 0)) Tryz.underlying66 rfl Tryz.sizePauliR) rfl ⟨mulRes_no HN.out rfl, ext_put4 (g := w.heap.size + 1 + 1) HX2.out (by omega) _ _ _ _⟩
 have HVB := Lib.hid hb
 clear hb
 obtain ⟨⟨b0, b1, b2, b3⟩, _⟩ := cells4 HB2.out
 obtain ⟨⟨c0, c1, c2, c3⟩, _⟩ := cells4 HA2.out
 cases hn : (a.n == b.n)
 ·have HN : Hid ((vPa a && vPa b && a.n == b.n) = false) := by unfold Hid; rw [hn, Bool.and_false]
  have hn' : (a.n != b.n) = true := by rw [bne, hn]; rfl
  clear hn
  obtain ⟨⟨a0, a1, a2, a3⟩, z0, z1, z2, z3⟩ := cells4 HR2.out
  go_wp2
  exact bodyPost_ret (v := .tuple #[P0.val, .bool false]) (ret_pair rfl _ _ _ _ _ _ _ rfl rfl (HR2.out.put4 (.int .i64 0) (.int .i64 0) (.int .i64 0) (.int .i64 0)) Tryz.underlying66 rfl Tryz.sizePauliR) rfl ⟨mulRes_no HN.out rfl, ext_put4 (g := w.heap.size + 1 + 1) HX2.out (by omega) _ _ _ _⟩
 have HN : Hid ((vPa a && vPa b && a.n == b.n) = true) := by unfold Hid; rw [HVA.out, HVB.out, hn]; rfl
 have hn' : (a.n != b.n) = false := by rw [bne, hn]; rfl
 clear hn
 obtain ⟨hax, haz, hap, _⟩ := vPa_nib HVA.out
 obtain ⟨hbx, hbz, hbp, _⟩ := vPa_nib HVB.out
 have hand := andI_nib haz hbx
 have hon := ones_le hand.1 hand.2
 have HO : Hid (∀ w', Calls Tryz.prog 85 #[.int .i64 (bits .and .i64 a.z b.x)] w' fun e w'' => e = .returned (.int .i64 (ones (andI a.z b.x))) ∧ w' = w'') := fun w' => impl_ones_any _ w' hand.1 hand.2
 have HE : Hid ((mulP a b).val = .agg #[.int .i64 a.n, .int .i64 (bits .xor .i64 a.x b.x), .int .i64 (bits .xor .i64 a.z b.z), .int .i64 ((a.p + b.p + 2 * ones (andI a.z b.x)) % 4)]) := rfl
 generalize ones (andI a.z b.x) = t at *
 have e1 : IntKind.i64.wrap (a.p + b.p) = a.p + b.p := IntWalk.i64_in _ (by omega)
 have e2 : IntKind.i64.wrap (2 * t) = 2 * t := IntWalk.i64_in _ (by omega)
 have e3 : IntKind.i64.wrap (a.p + b.p + 2 * t) = a.p + b.p + 2 * t := IntWalk.i64_in _ (by omega)
 have e4 : (a.p + b.p + 2 * t).tmod 4 = (a.p + b.p + 2 * t) % 4 := Int.tmod_eq_emod_of_nonneg (by omega)
 have e5 : IntKind.i64.wrap ((a.p + b.p + 2 * t) % 4) = (a.p + b.p + 2 * t) % 4 := IntWalk.i64_in _ (by omega)
 clear hax haz hap hbx hbz hbp hand hon
 have HK : Hid (∀ w', Ext w2 w' → ((w'.cell? ⟨w.heap.size, 0, none⟩ = some (.int .i64 a.n) ∧ w'.cell? ⟨w.heap.size, 1, none⟩ = some (.int .i64 a.x) ∧ w'.cell? ⟨w.heap.size, 2, none⟩ = some (.int .i64 a.z) ∧ w'.cell? ⟨w.heap.size, 3, none⟩ = some (.int .i64 a.p)) ∧ (w'.cell? ⟨w.heap.size + 1, 1, none⟩ = some (.int .i64 b.x) ∧ w'.cell? ⟨w.heap.size + 1, 2, none⟩ = some (.int .i64 b.z) ∧ w'.cell? ⟨w.heap.size + 1, 3, none⟩ = some (.int .i64 b.p)))) := fun w' hx => by
  obtain ⟨⟨q0, q1, q2, q3⟩, _⟩ := cells4 (HA2.out.ext hx)
  obtain ⟨⟨r0, r1, r2, r3⟩, _⟩ := cells4 (HB2.out.ext hx)
  exact ⟨⟨q0, q1, q2, q3⟩, r1, r2, r3⟩
 have HK2 : Hid (∀ v0 v1 v2 v3, ((((((w2.setCell ⟨w.heap.size + 1 + 1, 0, none⟩ v0).setCell ⟨w.heap.size + 1 + 1, 1, none⟩ v1).setCell ⟨w.heap.size + 1 + 1, 2, none⟩ v2).setCell ⟨w.heap.size + 1 + 1, 3, none⟩ v3).drew.cell? ⟨w.heap.size, 0, none⟩ = some (.int .i64 a.n) ∧ ((((w2.setCell ⟨w.heap.size + 1 + 1, 0, none⟩ v0).setCell ⟨w.heap.size + 1 + 1, 1, none⟩ v1).setCell ⟨w.heap.size + 1 + 1, 2, none⟩ v2).setCell ⟨w.heap.size + 1 + 1, 3, none⟩ v3).drew.cell? ⟨w.heap.size, 1, none⟩ = some (.int .i64 a.x) ∧ ((((w2.setCell ⟨w.heap.size + 1 + 1, 0, none⟩ v0).setCell ⟨w.heap.size + 1 + 1, 1, none⟩ v1).setCell ⟨w.heap.size + 1 + 1, 2, none⟩ v2).setCell ⟨w.heap.size + 1 + 1, 3, none⟩ v3).drew.cell? ⟨w.heap.size, 2, none⟩ = some (.int .i64 a.z) ∧ ((((w2.setCell ⟨w.heap.size + 1 + 1, 0, none⟩ v0).setCell ⟨w.heap.size + 1 + 1, 1, none⟩ v1).setCell ⟨w.heap.size + 1 + 1, 2, none⟩ v2).setCell ⟨w.heap.size + 1 + 1, 3, none⟩ v3).drew.cell? ⟨w.heap.size, 3, none⟩ = some (.int .i64 a.p)) ∧ (((((w2.setCell ⟨w.heap.size + 1 + 1, 0, none⟩ v0).setCell ⟨w.heap.size + 1 + 1, 1, none⟩ v1).setCell ⟨w.heap.size + 1 + 1, 2, none⟩ v2).setCell ⟨w.heap.size + 1 + 1, 3, none⟩ v3).drew.cell? ⟨w.heap.size + 1, 1, none⟩ = some (.int .i64 b.x) ∧ ((((w2.setCell ⟨w.heap.size + 1 + 1, 0, none⟩ v0).setCell ⟨w.heap.size + 1 + 1, 1, none⟩ v1).setCell ⟨w.heap.size + 1 + 1, 2, none⟩ v2).setCell ⟨w.heap.size + 1 + 1, 3, none⟩ v3).drew.cell? ⟨w.heap.size + 1, 2, none⟩ = some (.int .i64 b.z) ∧ ((((w2.setCell ⟨w.heap.size + 1 + 1, 0, none⟩ v0).setCell ⟨w.heap.size + 1 + 1, 1, none⟩ v1).setCell ⟨w.heap.size + 1 + 1, 2, none⟩ v2).setCell ⟨w.heap.size + 1 + 1, 3, none⟩ v3).drew.cell? ⟨w.heap.size + 1, 3, none⟩ = some (.int .i64 b.p)))) := fun v0 v1 v2 v3 => by
  obtain ⟨⟨q0, q1, q2, q3⟩, _⟩ := cells4 ((far_put4 (g := w.heap.size + 1 + 1) HA2.out (by omega) v0 v1 v2 v3).ext (Ext.refl _).drew)
  obtain ⟨⟨r0, r1, r2, r3⟩, _⟩ := cells4 ((far_put4 (g := w.heap.size + 1 + 1) HB2.out (by omega) v0 v1 v2 v3).ext (Ext.refl _).drew)
  exact ⟨⟨q0, q1, q2, q3⟩, r1, r2, r3⟩
 obtain ⟨⟨a0, a1, a2, a3⟩, z0, z1, z2, z3⟩ := cells4 HR2.out
 go_wp2
 go_region_held3 (fun w' => (w'.cell? ⟨w.heap.size, 0, none⟩ = some (.int .i64 a.n) ∧ w'.cell? ⟨w.heap.size, 1, none⟩ = some (.int .i64 a.x) ∧ w'.cell? ⟨w.heap.size, 2, none⟩ = some (.int .i64 a.z) ∧ w'.cell? ⟨w.heap.size, 3, none⟩ = some (.int .i64 a.p)) ∧ (w'.cell? ⟨w.heap.size + 1, 1, none⟩ = some (.int .i64 b.x) ∧ w'.cell? ⟨w.heap.size + 1, 2, none⟩ = some (.int .i64 b.z) ∧ w'.cell? ⟨w.heap.size + 1, 3, none⟩ = some (.int .i64 b.p)))
  (first | (go_keep; done) | (with_reducible exact HK2.out _ _ _ _) | (refine HK.out _ ?_; exact xx; done))
  (first | (go_at_call 85; (with_reducible refine (HO.out _).mono ?_); rintro e w5 ⟨rfl, rfl⟩; obtain ⟨⟨y0, y1, y2, y3⟩, x0, x1, x2, x3⟩ := cells4 (HR2.out.ext (Ext.refl w2).drew)))
 go_wp2
 exact bodyPost_ret (v := .tuple #[.agg #[.int .i64 a.n, .int .i64 (bits .xor .i64 a.x b.x), .int .i64 (bits .xor .i64 a.z b.z), .int .i64 ((a.p + b.p + 2 * t) % 4)], .bool true]) (ret_pair rfl _ _ _ _ _ _ _ rfl rfl ((HR2.out.put4 (.int .i64 a.n) (.int .i64 (bits .xor .i64 a.x b.x)) (.int .i64 (bits .xor .i64 a.z b.z)) (.int .i64 ((a.p + b.p + 2 * t) % 4))).ext (Ext.refl _).drew) Tryz.underlying66 rfl Tryz.sizePauliR) rfl ⟨mulRes_yes HN.out (by rw [HE.out]), (ext_put4 (g := w.heap.size + 1 + 1) HX2.out (by omega) _ _ _ _).drew⟩

set_option maxRecDepth 100000 in
set_option maxHeartbeats 4000000 in
theorem impl_PaulisCommute_any (a b : Pa) (w : World) (ha : vPa a = true) (hb : vPa b = true) : Calls Tryz.prog 59 #[a.val, b.val] w fun e w' => e = .returned (.bool (comm a b)) ∧ Ext w w' := by
 obtain ⟨hax, haz, hap, _⟩ := vPa_nib ha
 obtain ⟨hbx, hbz, hbp, _⟩ := vPa_nib hb
 have hand := andI_nib hax hbz
 have hon := ones_le hand.1 hand.2
 have hand' := andI_nib haz hbx
 have hon' := ones_le hand'.1 hand'.2
 have HO : Hid (∀ w', Calls Tryz.prog 85 #[.int .i64 (bits .and .i64 a.x b.z)] w' fun e w'' => e = .returned (.int .i64 (ones (andI a.x b.z))) ∧ w' = w'') := fun w' => impl_ones_any _ w' hand.1 hand.2
 have HP : Hid (∀ w', Calls Tryz.prog 85 #[.int .i64 (bits .and .i64 a.z b.x)] w' fun e w'' => e = .returned (.int .i64 (ones (andI a.z b.x))) ∧ w' = w'') := fun w' => impl_ones_any _ w' hand'.1 hand'.2
 have HE : Hid (comm a b = ((ones (andI a.x b.z) + ones (andI a.z b.x)) % 2 == 0)) := rfl
 generalize ones (andI a.x b.z) = s at *
 generalize ones (andI a.z b.x) = t at *
 have e1 : IntKind.i64.wrap (s + t) = s + t := IntWalk.i64_in _ (by omega)
 have e2 : (s + t).tmod 2 = (s + t) % 2 := Int.tmod_eq_emod_of_nonneg (by omega)
 have e3 : IntKind.i64.wrap ((s + t) % 2) = (s + t) % 2 := IntWalk.i64_in _ (by omega)
 clear hax haz hap hbx hbz hbp hand hon hand' hon' ha hb
 go_enter Tryz.func59, Tryz.ntmps59
 go_wp2
 have HA2 : Hid (Blk ((w.alloc (.cells #[.int .i64 a.n, .int .i64 a.x, .int .i64 a.z, .int .i64 a.p] 66)).alloc (.cells #[.int .i64 b.n, .int .i64 b.x, .int .i64 b.z, .int .i64 b.p] 66)) w.heap.size 66 #[.int .i64 a.n, .int .i64 a.x, .int .i64 a.z, .int .i64 a.p]) := (Blk.new w _ _).alloc _
 have HB2 : Hid (Blk ((w.alloc (.cells #[.int .i64 a.n, .int .i64 a.x, .int .i64 a.z, .int .i64 a.p] 66)).alloc (.cells #[.int .i64 b.n, .int .i64 b.x, .int .i64 b.z, .int .i64 b.p] 66)) (w.heap.size + 1) 66 #[.int .i64 b.n, .int .i64 b.x, .int .i64 b.z, .int .i64 b.p]) := Blk.newAt (b := w.heap.size + 1) (by simp)
 have HX2 : Hid (Ext w ((w.alloc (.cells #[.int .i64 a.n, .int .i64 a.x, .int .i64 a.z, .int .i64 a.p] 66)).alloc (.cells #[.int .i64 b.n, .int .i64 b.x, .int .i64 b.z, .int .i64 b.p] 66))) := xx
 generalize ((w.alloc (.cells #[.int .i64 a.n, .int .i64 a.x, .int .i64 a.z, .int .i64 a.p] 66)).alloc (.cells #[.int .i64 b.n, .int .i64 b.x, .int .i64 b.z, .int .i64 b.p] 66)) = w2 at *
 have HK : Hid (∀ w', Ext w2 w' → ((w'.cell? ⟨w.heap.size, 1, none⟩ = some (.int .i64 a.x) ∧ w'.cell? ⟨w.heap.size, 2, none⟩ = some (.int .i64 a.z)) ∧ (w'.cell? ⟨w.heap.size + 1, 1, none⟩ = some (.int .i64 b.x) ∧ w'.cell? ⟨w.heap.size + 1, 2, none⟩ = some (.int .i64 b.z)))) := fun w' hx => by
  obtain ⟨⟨q0, q1, q2, q3⟩, _⟩ := cells4 (HA2.out.ext hx)
  obtain ⟨⟨r0, r1, r2, r3⟩, _⟩ := cells4 (HB2.out.ext hx)
  exact ⟨⟨q1, q2⟩, r1, r2⟩
 obtain ⟨⟨q1, q2⟩, r1, r2⟩ := HK.out w2 (Ext.refl _)
 go_region_held3 (fun w' => (w'.cell? ⟨w.heap.size, 1, none⟩ = some (.int .i64 a.x) ∧ w'.cell? ⟨w.heap.size, 2, none⟩ = some (.int .i64 a.z)) ∧ (w'.cell? ⟨w.heap.size + 1, 1, none⟩ = some (.int .i64 b.x) ∧ w'.cell? ⟨w.heap.size + 1, 2, none⟩ = some (.int .i64 b.z)))
  (first | (go_keep; done) | (refine HK.out _ ?_; exact xx; done))
  (first | (go_at_call 85; (with_reducible refine (HO.out _).mono ?_); rintro e w5 ⟨rfl, rfl⟩) | (go_at_call 85; (with_reducible refine (HP.out _).mono ?_); rintro e w5 ⟨rfl, rfl⟩))
 all_goals
  go_wp2
  go_ret
  exact ⟨ret_bool HE.out.symm, HX2.out.drew⟩
set_option maxRecDepth 100000 in
set_option maxHeartbeats 4000000 in
theorem impl_IsHermitianPauli_any (p : Pa) (w : World) : Calls Tryz.prog 58 #[p.val] w fun e w' => e = .returned (.bool (herm p)) ∧ Ext w w' := by
 have HE : Hid (herm p = (vPa p && (p.p % 2 == ones (andI p.x p.z) % 2))) := rfl
 go_enter Tryz.func58, Tryz.ntmps58
 go_wp2
 have HA2 : Hid (Blk (w.alloc (.cells #[.int .i64 p.n, .int .i64 p.x, .int .i64 p.z, .int .i64 p.p] 66)) w.heap.size 66 #[.int .i64 p.n, .int .i64 p.x, .int .i64 p.z, .int .i64 p.p]) := Blk.new w _ _
 have HX2 : Hid (Ext w (w.alloc (.cells #[.int .i64 p.n, .int .i64 p.x, .int .i64 p.z, .int .i64 p.p] 66))) := xx
 generalize (w.alloc (.cells #[.int .i64 p.n, .int .i64 p.x, .int .i64 p.z, .int .i64 p.p] 66)) = w2 at *
 have HK : Hid (∀ w', Ext w2 w' → (w'.cell? ⟨w.heap.size, 0, none⟩ = some (.int .i64 p.n) ∧ w'.cell? ⟨w.heap.size, 1, none⟩ = some (.int .i64 p.x) ∧ w'.cell? ⟨w.heap.size, 2, none⟩ = some (.int .i64 p.z) ∧ w'.cell? ⟨w.heap.size, 3, none⟩ = some (.int .i64 p.p))) := fun w' hx => by
  obtain ⟨⟨q0, q1, q2, q3⟩, _⟩ := cells4 (HA2.out.ext hx)
  exact ⟨q0, q1, q2, q3⟩
 obtain ⟨q0, q1, q2, q3⟩ := HK.out w2 (Ext.refl _)
 cases hv : vPa p
 ·have HF : Hid (herm p = false) := by unfold Hid; rw [HE.out, hv]; rfl
  refine wp_region_held_drew (S := (fun w' => w'.cell? ⟨w.heap.size, 0, none⟩ = some (.int .i64 p.n) ∧ w'.cell? ⟨w.heap.size, 1, none⟩ = some (.int .i64 p.x) ∧ w'.cell? ⟨w.heap.size, 2, none⟩ = some (.int .i64 p.z) ∧ w'.cell? ⟨w.heap.size, 3, none⟩ = some (.int .i64 p.p))) (by kernel_rfl) (HK.out _ (Ext.refl w2).drew) (fun hHeld => ?_)
  (refine tk 0 (v := ?_) ?_ ?_; rotate_left; · (intro w hSw; (try dsimp only at hSw); go_simp; all_goals with_reducible rfl))
  (try simp only [Act.put, L1, L2, L3, L4, L5, L6])
  (refine wpAnyH_ready (rs := [1]) (by kernel_rfl) (by simp) ?_; refine AllReadyH.cons rfl (fun K hK => ?_) AllReadyH.nil; go_simp)
  refine (impl_IsValidPauli_any p _).mono ?_
  rintro e w3 ⟨rfl, hy3⟩
  replace hy3 : Ext w2 w3 := Ext.trans (Ext.refl w2).drew hy3
  rw [hv]
  refine hK.out _ _ (HK.out _ hy3) (fun hHeld => ?_)
  clear hK K
  (try simp only [Act.put, L1, L2, L3, L4, L5, L6])
  (refine tk 2 (v := ?_) ?_ ?_; rotate_left; · (intro w hSw; (try dsimp only at hSw); go_simp; all_goals with_reducible rfl))
  (try simp only [Act.put, L1, L2, L3, L4, L5, L6])
  (refine wpAnyH_take (i := 3) rfl (by kernel_rfl) (by kernel_rfl) (by kernel_rfl) (fun _ _ _ h => h) (Or.inr ⟨by first | kernel_rfl | rfl, rfl⟩) (by assumption) ?_; (try simp only [Act.put, L1, L2, L3, L4, L5, L6]))
  (refine wpAnyH_take (i := 4) rfl (by kernel_rfl) (by kernel_rfl) (by kernel_rfl) (fun _ _ _ h => h) (Or.inr ⟨by first | kernel_rfl | rfl, rfl⟩) (by assumption) ?_; (try simp only [Act.put, L1, L2, L3, L4, L5, L6]))
  (refine wpAnyH_take (i := 5) rfl (by kernel_rfl) (by kernel_rfl) (by kernel_rfl) (fun _ _ _ h => h) (Or.inr ⟨by first | kernel_rfl | rfl, rfl⟩) (by assumption) ?_; (try simp only [Act.put, L1, L2, L3, L4, L5, L6]))
  (refine wpAnyH_take (i := 6) rfl (by kernel_rfl) (by kernel_rfl) (by kernel_rfl) (fun _ _ _ h => h) (Or.inr ⟨by first | kernel_rfl | rfl, rfl⟩) (by assumption) ?_; (try simp only [Act.put, L1, L2, L3, L4, L5, L6]))
  (refine wpAnyH_take (i := 7) rfl (by kernel_rfl) (by kernel_rfl) (by kernel_rfl) (fun _ _ _ h => h) (Or.inr ⟨by first | kernel_rfl | rfl, rfl⟩) (by assumption) ?_; (try simp only [Act.put, L1, L2, L3, L4, L5, L6]))
  (refine wpAnyH_take (i := 8) rfl (by kernel_rfl) (by kernel_rfl) (by kernel_rfl) (fun _ _ _ h => h) (Or.inr ⟨by first | kernel_rfl | rfl, rfl⟩) (by assumption) ?_; (try simp only [Act.put, L1, L2, L3, L4, L5, L6]))
  (refine wpAnyH_take (i := 9) rfl (by kernel_rfl) (by kernel_rfl) (by kernel_rfl) (fun _ _ _ h => h) (Or.inr ⟨by first | kernel_rfl | rfl, rfl⟩) (by assumption) ?_; (try simp only [Act.put, L1, L2, L3, L4, L5, L6]))
  (refine wpAnyH_take (i := 10) rfl (by kernel_rfl) (by kernel_rfl) (by kernel_rfl) (fun _ _ _ h => h) (Or.inr ⟨by first | kernel_rfl | rfl, rfl⟩) (by assumption) ?_; (try simp only [Act.put, L1, L2, L3, L4, L5, L6]))
  (refine wpAnyH_take (i := 11) rfl (by kernel_rfl) (by kernel_rfl) (by kernel_rfl) (fun _ _ _ h => h) (Or.inr ⟨by first | kernel_rfl | rfl, rfl⟩) (by assumption) ?_; (try simp only [Act.put, L1, L2, L3, L4, L5, L6]))
  (refine wpAnyH_take (i := 12) rfl (by kernel_rfl) (by kernel_rfl) (by kernel_rfl) (fun _ _ _ h => h) (Or.inr ⟨by first | kernel_rfl | rfl, rfl⟩) (by assumption) ?_; (try simp only [Act.put, L1, L2, L3, L4, L5, L6]))
  (refine wpAnyH_take (i := 13) rfl (by kernel_rfl) (by kernel_rfl) (by kernel_rfl) (fun _ _ _ h => h) (Or.inr ⟨by first | kernel_rfl | rfl, rfl⟩) (by assumption) ?_; (try simp only [Act.put, L1, L2, L3, L4, L5, L6]))
  (refine tk 14 (v := ?_) ?_ ?_; rotate_left; · (intro w hSw; (try dsimp only at hSw); go_simp; all_goals with_reducible rfl))
  (try simp only [Act.put, L1, L2, L3, L4, L5, L6])
  (refine tk 15 (v := ?_) ?_ ?_; rotate_left; · (intro w hSw; (try dsimp only at hSw); go_simp; all_goals with_reducible rfl))
  (try simp only [Act.put, L1, L2, L3, L4, L5, L6])
  (refine wpAnyH_done (by kernel_rfl) ?_ _)
  go_wp2
  go_ret
  exact ⟨ret_bool HF.out.symm, HX2.out.trans hy3⟩
 have HV := Lib.hid hv
 obtain ⟨hax, haz, hap, _⟩ := vPa_nib hv
 have hand := andI_nib hax haz
 have hon := ones_le hand.1 hand.2
 have HO : Hid (∀ w', Calls Tryz.prog 85 #[.int .i64 (bits .and .i64 p.x p.z)] w' fun e w'' => e = .returned (.int .i64 (ones (andI p.x p.z))) ∧ w' = w'') := fun w' => impl_ones_any _ w' hand.1 hand.2
 rw [hv, Bool.true_and] at HE
 generalize ones (andI p.x p.z) = t at *
 have e1 : p.p.tmod 2 = p.p % 2 := Int.tmod_eq_emod_of_nonneg (by omega)
 have e2 : IntKind.i64.wrap (p.p % 2) = p.p % 2 := IntWalk.i64_in _ (by omega)
 have e3 : t.tmod 2 = t % 2 := Int.tmod_eq_emod_of_nonneg (by omega)
 have e4 : IntKind.i64.wrap (t % 2) = t % 2 := IntWalk.i64_in _ (by omega)
 clear hax haz hap hand hon
 have HCV : Hid (∀ w', Calls Tryz.prog 60 #[p.val] w' fun e w'' => e = .returned (.bool true) ∧ Ext w' w'') := fun w' => by have := impl_IsValidPauli_any p w'; rw [hv] at this; exact this
 clear hv
 go_region_held3 (fun w' => w'.cell? ⟨w.heap.size, 0, none⟩ = some (.int .i64 p.n) ∧ w'.cell? ⟨w.heap.size, 1, none⟩ = some (.int .i64 p.x) ∧ w'.cell? ⟨w.heap.size, 2, none⟩ = some (.int .i64 p.z) ∧ w'.cell? ⟨w.heap.size, 3, none⟩ = some (.int .i64 p.p))
  (first | (go_keep; done) | (refine HK.out _ ?_; first | assumption | exact Ext.trans (by assumption) (Ext.refl _).drew))
  (first | (go_at_call 60; (with_reducible refine (HCV.out _).mono ?_); rintro e w5 ⟨rfl, hy5⟩; replace hy5 : Ext w2 w5 := Ext.trans (Ext.refl w2).drew hy5) | (go_at_call 85; (with_reducible refine (HO.out _).mono ?_); rintro e w6 ⟨rfl, rfl⟩))
 all_goals
  go_wp2
  go_ret
  exact ⟨ret_bool HE.out.symm, HX2.out.trans hy5⟩

set_option maxRecDepth 100000 in
set_option maxHeartbeats 8000000 in
theorem spec_MulPauli_any (a b : Pa) (w : World) : Calls Tryz.prog 70 #[a.val, b.val] w fun e w' => MulRes a b e ∧ Ext w w' := by
 go_enter Tryz.func70, Tryz.ntmps70
 go_wp2_with fail
 refine (spec_IsValidPauli_any a _).mono ?_
 rintro e w1 ⟨rfl, hx1⟩
 have HR1 : Hid (Blk w1 (w.heap.size + 2) 66 #[.int .i64 0, .int .i64 0, .int .i64 0, .int .i64 0]) := (Blk.newAt (b := w.heap.size + 2) (by simp)).ext hx1
 have HA1 : Hid (Blk w1 w.heap.size 66 #[.int .i64 a.n, .int .i64 a.x, .int .i64 a.z, .int .i64 a.p]) := (((Blk.new w _ _).alloc _).alloc _).ext hx1
 have HB1 : Hid (Blk w1 (w.heap.size + 1) 66 #[.int .i64 b.n, .int .i64 b.x, .int .i64 b.z, .int .i64 b.p]) := ((Blk.newAt (b := w.heap.size + 1) (by simp)).alloc _).ext hx1
 have HX1 : Hid (Ext w w1) := Ext.trans (by exact xx) hx1
 clear hx1
 cases ha : vPa a
 ·have HN : Hid ((vPa a && vPa b && a.n == b.n) = false) := by unfold Hid; rw [ha]; rfl
  clear ha
  obtain ⟨⟨a0, a1, a2, a3⟩, z0, z1, z2, z3⟩ := cells4 HR1.out
  go_wp2
  exact bodyPost_ret (v := .tuple #[P0.val, .bool false]) (ret_pair rfl _ _ _ _ _ _ _ rfl rfl (HR1.out.put4 (.int .i64 0) (.int .i64 0) (.int .i64 0) (.int .i64 0)) Tryz.underlying66 rfl Tryz.sizePauliR) rfl ⟨mulRes_no HN.out rfl, ext_put4 (g := w.heap.size + 1 + 1) HX1.out (by omega) _ _ _ _⟩
 have HVA := Lib.hid ha
 clear ha
 obtain ⟨⟨b0, b1, b2, b3⟩, _⟩ := cells4 HB1.out
 go_wp2_with fail
 refine (spec_IsValidPauli_any b _).mono ?_
 rintro e w2 ⟨rfl, hx2⟩
 clear b0 b1 b2 b3
 have HR2 := Lib.hid (HR1.out.ext hx2)
 have HA2 := Lib.hid (HA1.out.ext hx2)
 have HB2 := Lib.hid (HB1.out.ext hx2)
 have HX2 := Lib.hid (HX1.out.trans hx2)
 clear hx2 HR1 HA1 HB1 HX1
 cases hb : vPa b
 ·have HN : Hid ((vPa a && vPa b && a.n == b.n) = false) := by unfold Hid; rw [hb, Bool.and_false]; rfl
  clear hb
  obtain ⟨⟨a0, a1, a2, a3⟩, z0, z1, z2, z3⟩ := cells4 HR2.out
  go_wp2
  exact bodyPost_ret (v := .tuple #[P0.val, .bool false]) (ret_pair rfl _ _ _ _ _ _ _ rfl rfl (HR2.out.put4 (.int .i64 0) (.int .i64 0) (.int .i64 0) (.int .i64 0)) Tryz.underlying66 rfl Tryz.sizePauliR) rfl ⟨mulRes_no HN.out rfl, ext_put4 (g := w.heap.size + 1 + 1) HX2.out (by omega) _ _ _ _⟩
 have HVB := Lib.hid hb
 clear hb
 obtain ⟨⟨b0, b1, b2, b3⟩, _⟩ := cells4 HB2.out
 obtain ⟨⟨c0, c1, c2, c3⟩, _⟩ := cells4 HA2.out
 cases hn : (a.n == b.n)
 ·have HN : Hid ((vPa a && vPa b && a.n == b.n) = false) := by unfold Hid; rw [hn, Bool.and_false]
  have hn' : (a.n != b.n) = true := by rw [bne, hn]; rfl
  clear hn
  obtain ⟨⟨a0, a1, a2, a3⟩, z0, z1, z2, z3⟩ := cells4 HR2.out
  go_wp2
  exact bodyPost_ret (v := .tuple #[P0.val, .bool false]) (ret_pair rfl _ _ _ _ _ _ _ rfl rfl (HR2.out.put4 (.int .i64 0) (.int .i64 0) (.int .i64 0) (.int .i64 0)) Tryz.underlying66 rfl Tryz.sizePauliR) rfl ⟨mulRes_no HN.out rfl, ext_put4 (g := w.heap.size + 1 + 1) HX2.out (by omega) _ _ _ _⟩
 have HN : Hid ((vPa a && vPa b && a.n == b.n) = true) := by unfold Hid; rw [HVA.out, HVB.out, hn]; rfl
 have hn' : (a.n != b.n) = false := by rw [bne, hn]; rfl
 clear hn
 obtain ⟨hax, haz, hap, _⟩ := vPa_nib HVA.out
 obtain ⟨hbx, hbz, hbp, _⟩ := vPa_nib HVB.out
 have hand := andI_nib haz hbx
 have hon := ones_le hand.1 hand.2
 have HO : Hid (∀ w', Calls Tryz.prog 86 #[.int .i64 (bits .and .i64 a.z b.x)] w' fun e w'' => e = .returned (.int .i64 (ones (andI a.z b.x))) ∧ w' = w'') := fun w' => spec_ones_any _ w' hand.1 hand.2
 have HE : Hid ((mulP a b).val = .agg #[.int .i64 a.n, .int .i64 (bits .xor .i64 a.x b.x), .int .i64 (bits .xor .i64 a.z b.z), .int .i64 ((a.p + b.p + 2 * ones (andI a.z b.x)) % 4)]) := rfl
 generalize ones (andI a.z b.x) = t at *
 have e1 : IntKind.i64.wrap (a.p + b.p) = a.p + b.p := IntWalk.i64_in _ (by omega)
 have e2 : IntKind.i64.wrap (2 * t) = 2 * t := IntWalk.i64_in _ (by omega)
 have e3 : IntKind.i64.wrap (a.p + b.p + 2 * t) = a.p + b.p + 2 * t := IntWalk.i64_in _ (by omega)
 have e4 : (a.p + b.p + 2 * t).tmod 4 = (a.p + b.p + 2 * t) % 4 := Int.tmod_eq_emod_of_nonneg (by omega)
 have e5 : IntKind.i64.wrap ((a.p + b.p + 2 * t) % 4) = (a.p + b.p + 2 * t) % 4 := IntWalk.i64_in _ (by omega)
 clear hax haz hap hbx hbz hbp hand hon
 have HK : Hid (∀ w', Ext w2 w' → ((w'.cell? ⟨w.heap.size, 0, none⟩ = some (.int .i64 a.n) ∧ w'.cell? ⟨w.heap.size, 1, none⟩ = some (.int .i64 a.x) ∧ w'.cell? ⟨w.heap.size, 2, none⟩ = some (.int .i64 a.z) ∧ w'.cell? ⟨w.heap.size, 3, none⟩ = some (.int .i64 a.p)) ∧ (w'.cell? ⟨w.heap.size + 1, 1, none⟩ = some (.int .i64 b.x) ∧ w'.cell? ⟨w.heap.size + 1, 2, none⟩ = some (.int .i64 b.z) ∧ w'.cell? ⟨w.heap.size + 1, 3, none⟩ = some (.int .i64 b.p)))) := fun w' hx => by
  obtain ⟨⟨q0, q1, q2, q3⟩, _⟩ := cells4 (HA2.out.ext hx)
  obtain ⟨⟨r0, r1, r2, r3⟩, _⟩ := cells4 (HB2.out.ext hx)
  exact ⟨⟨q0, q1, q2, q3⟩, r1, r2, r3⟩
 have HK2 : Hid (∀ v0 v1 v2 v3, ((((((w2.setCell ⟨w.heap.size + 1 + 1, 0, none⟩ v0).setCell ⟨w.heap.size + 1 + 1, 1, none⟩ v1).setCell ⟨w.heap.size + 1 + 1, 2, none⟩ v2).setCell ⟨w.heap.size + 1 + 1, 3, none⟩ v3).drew.cell? ⟨w.heap.size, 0, none⟩ = some (.int .i64 a.n) ∧ ((((w2.setCell ⟨w.heap.size + 1 + 1, 0, none⟩ v0).setCell ⟨w.heap.size + 1 + 1, 1, none⟩ v1).setCell ⟨w.heap.size + 1 + 1, 2, none⟩ v2).setCell ⟨w.heap.size + 1 + 1, 3, none⟩ v3).drew.cell? ⟨w.heap.size, 1, none⟩ = some (.int .i64 a.x) ∧ ((((w2.setCell ⟨w.heap.size + 1 + 1, 0, none⟩ v0).setCell ⟨w.heap.size + 1 + 1, 1, none⟩ v1).setCell ⟨w.heap.size + 1 + 1, 2, none⟩ v2).setCell ⟨w.heap.size + 1 + 1, 3, none⟩ v3).drew.cell? ⟨w.heap.size, 2, none⟩ = some (.int .i64 a.z) ∧ ((((w2.setCell ⟨w.heap.size + 1 + 1, 0, none⟩ v0).setCell ⟨w.heap.size + 1 + 1, 1, none⟩ v1).setCell ⟨w.heap.size + 1 + 1, 2, none⟩ v2).setCell ⟨w.heap.size + 1 + 1, 3, none⟩ v3).drew.cell? ⟨w.heap.size, 3, none⟩ = some (.int .i64 a.p)) ∧ (((((w2.setCell ⟨w.heap.size + 1 + 1, 0, none⟩ v0).setCell ⟨w.heap.size + 1 + 1, 1, none⟩ v1).setCell ⟨w.heap.size + 1 + 1, 2, none⟩ v2).setCell ⟨w.heap.size + 1 + 1, 3, none⟩ v3).drew.cell? ⟨w.heap.size + 1, 1, none⟩ = some (.int .i64 b.x) ∧ ((((w2.setCell ⟨w.heap.size + 1 + 1, 0, none⟩ v0).setCell ⟨w.heap.size + 1 + 1, 1, none⟩ v1).setCell ⟨w.heap.size + 1 + 1, 2, none⟩ v2).setCell ⟨w.heap.size + 1 + 1, 3, none⟩ v3).drew.cell? ⟨w.heap.size + 1, 2, none⟩ = some (.int .i64 b.z) ∧ ((((w2.setCell ⟨w.heap.size + 1 + 1, 0, none⟩ v0).setCell ⟨w.heap.size + 1 + 1, 1, none⟩ v1).setCell ⟨w.heap.size + 1 + 1, 2, none⟩ v2).setCell ⟨w.heap.size + 1 + 1, 3, none⟩ v3).drew.cell? ⟨w.heap.size + 1, 3, none⟩ = some (.int .i64 b.p)))) := fun v0 v1 v2 v3 => by
  obtain ⟨⟨q0, q1, q2, q3⟩, _⟩ := cells4 ((far_put4 (g := w.heap.size + 1 + 1) HA2.out (by omega) v0 v1 v2 v3).ext (Ext.refl _).drew)
  obtain ⟨⟨r0, r1, r2, r3⟩, _⟩ := cells4 ((far_put4 (g := w.heap.size + 1 + 1) HB2.out (by omega) v0 v1 v2 v3).ext (Ext.refl _).drew)
  exact ⟨⟨q0, q1, q2, q3⟩, r1, r2, r3⟩
 obtain ⟨⟨a0, a1, a2, a3⟩, z0, z1, z2, z3⟩ := cells4 HR2.out
 go_wp2
 go_region_held3 (fun w' => (w'.cell? ⟨w.heap.size, 0, none⟩ = some (.int .i64 a.n) ∧ w'.cell? ⟨w.heap.size, 1, none⟩ = some (.int .i64 a.x) ∧ w'.cell? ⟨w.heap.size, 2, none⟩ = some (.int .i64 a.z) ∧ w'.cell? ⟨w.heap.size, 3, none⟩ = some (.int .i64 a.p)) ∧ (w'.cell? ⟨w.heap.size + 1, 1, none⟩ = some (.int .i64 b.x) ∧ w'.cell? ⟨w.heap.size + 1, 2, none⟩ = some (.int .i64 b.z) ∧ w'.cell? ⟨w.heap.size + 1, 3, none⟩ = some (.int .i64 b.p)))
  (first | (go_keep; done) | (with_reducible exact HK2.out _ _ _ _) | (refine HK.out _ ?_; exact xx; done))
  (first | (go_at_call 86; (with_reducible refine (HO.out _).mono ?_); rintro e w5 ⟨rfl, rfl⟩; obtain ⟨⟨y0, y1, y2, y3⟩, x0, x1, x2, x3⟩ := cells4 (HR2.out.ext (Ext.refl w2).drew)))
 go_wp2
 exact bodyPost_ret (v := .tuple #[.agg #[.int .i64 a.n, .int .i64 (bits .xor .i64 a.x b.x), .int .i64 (bits .xor .i64 a.z b.z), .int .i64 ((a.p + b.p + 2 * t) % 4)], .bool true]) (ret_pair rfl _ _ _ _ _ _ _ rfl rfl ((HR2.out.put4 (.int .i64 a.n) (.int .i64 (bits .xor .i64 a.x b.x)) (.int .i64 (bits .xor .i64 a.z b.z)) (.int .i64 ((a.p + b.p + 2 * t) % 4))).ext (Ext.refl _).drew) Tryz.underlying66 rfl Tryz.sizePauliR) rfl ⟨mulRes_yes HN.out (by rw [HE.out]), (ext_put4 (g := w.heap.size + 1 + 1) HX2.out (by omega) _ _ _ _).drew⟩

set_option maxRecDepth 100000 in
set_option maxHeartbeats 4000000 in
theorem spec_PaulisCommute_any (a b : Pa) (w : World) (ha : vPa a = true) (hb : vPa b = true) : Calls Tryz.prog 67 #[a.val, b.val] w fun e w' => e = .returned (.bool (comm a b)) ∧ Ext w w' := by
 obtain ⟨hax, haz, hap, _⟩ := vPa_nib ha
 obtain ⟨hbx, hbz, hbp, _⟩ := vPa_nib hb
 have hand := andI_nib hax hbz
 have hon := ones_le hand.1 hand.2
 have hand' := andI_nib haz hbx
 have hon' := ones_le hand'.1 hand'.2
 have HO : Hid (∀ w', Calls Tryz.prog 86 #[.int .i64 (bits .and .i64 a.x b.z)] w' fun e w'' => e = .returned (.int .i64 (ones (andI a.x b.z))) ∧ w' = w'') := fun w' => spec_ones_any _ w' hand.1 hand.2
 have HP : Hid (∀ w', Calls Tryz.prog 86 #[.int .i64 (bits .and .i64 a.z b.x)] w' fun e w'' => e = .returned (.int .i64 (ones (andI a.z b.x))) ∧ w' = w'') := fun w' => spec_ones_any _ w' hand'.1 hand'.2
 have HE : Hid (comm a b = ((ones (andI a.x b.z) + ones (andI a.z b.x)) % 2 == 0)) := rfl
 generalize ones (andI a.x b.z) = s at *
 generalize ones (andI a.z b.x) = t at *
 have e1 : IntKind.i64.wrap (s + t) = s + t := IntWalk.i64_in _ (by omega)
 have e2 : (s + t).tmod 2 = (s + t) % 2 := Int.tmod_eq_emod_of_nonneg (by omega)
 have e3 : IntKind.i64.wrap ((s + t) % 2) = (s + t) % 2 := IntWalk.i64_in _ (by omega)
 clear hax haz hap hbx hbz hbp hand hon hand' hon' ha hb
 go_enter Tryz.func67, Tryz.ntmps67
 go_wp2
 have HA2 : Hid (Blk ((w.alloc (.cells #[.int .i64 a.n, .int .i64 a.x, .int .i64 a.z, .int .i64 a.p] 66)).alloc (.cells #[.int .i64 b.n, .int .i64 b.x, .int .i64 b.z, .int .i64 b.p] 66)) w.heap.size 66 #[.int .i64 a.n, .int .i64 a.x, .int .i64 a.z, .int .i64 a.p]) := (Blk.new w _ _).alloc _
 have HB2 : Hid (Blk ((w.alloc (.cells #[.int .i64 a.n, .int .i64 a.x, .int .i64 a.z, .int .i64 a.p] 66)).alloc (.cells #[.int .i64 b.n, .int .i64 b.x, .int .i64 b.z, .int .i64 b.p] 66)) (w.heap.size + 1) 66 #[.int .i64 b.n, .int .i64 b.x, .int .i64 b.z, .int .i64 b.p]) := Blk.newAt (b := w.heap.size + 1) (by simp)
 have HX2 : Hid (Ext w ((w.alloc (.cells #[.int .i64 a.n, .int .i64 a.x, .int .i64 a.z, .int .i64 a.p] 66)).alloc (.cells #[.int .i64 b.n, .int .i64 b.x, .int .i64 b.z, .int .i64 b.p] 66))) := xx
 generalize ((w.alloc (.cells #[.int .i64 a.n, .int .i64 a.x, .int .i64 a.z, .int .i64 a.p] 66)).alloc (.cells #[.int .i64 b.n, .int .i64 b.x, .int .i64 b.z, .int .i64 b.p] 66)) = w2 at *
 have HK : Hid (∀ w', Ext w2 w' → ((w'.cell? ⟨w.heap.size, 1, none⟩ = some (.int .i64 a.x) ∧ w'.cell? ⟨w.heap.size, 2, none⟩ = some (.int .i64 a.z)) ∧ (w'.cell? ⟨w.heap.size + 1, 1, none⟩ = some (.int .i64 b.x) ∧ w'.cell? ⟨w.heap.size + 1, 2, none⟩ = some (.int .i64 b.z)))) := fun w' hx => by
  obtain ⟨⟨q0, q1, q2, q3⟩, _⟩ := cells4 (HA2.out.ext hx)
  obtain ⟨⟨r0, r1, r2, r3⟩, _⟩ := cells4 (HB2.out.ext hx)
  exact ⟨⟨q1, q2⟩, r1, r2⟩
 obtain ⟨⟨q1, q2⟩, r1, r2⟩ := HK.out w2 (Ext.refl _)
 go_region_held3 (fun w' => (w'.cell? ⟨w.heap.size, 1, none⟩ = some (.int .i64 a.x) ∧ w'.cell? ⟨w.heap.size, 2, none⟩ = some (.int .i64 a.z)) ∧ (w'.cell? ⟨w.heap.size + 1, 1, none⟩ = some (.int .i64 b.x) ∧ w'.cell? ⟨w.heap.size + 1, 2, none⟩ = some (.int .i64 b.z)))
  (first | (go_keep; done) | (refine HK.out _ ?_; exact xx; done))
  (first | (go_at_call 86; (with_reducible refine (HO.out _).mono ?_); rintro e w5 ⟨rfl, rfl⟩) | (go_at_call 86; (with_reducible refine (HP.out _).mono ?_); rintro e w5 ⟨rfl, rfl⟩))
 all_goals
  go_wp2
  go_ret
  exact ⟨ret_bool HE.out.symm, HX2.out.drew⟩
set_option maxRecDepth 100000 in
set_option maxHeartbeats 4000000 in
theorem spec_IsHermitianPauli_any (p : Pa) (w : World) : Calls Tryz.prog 66 #[p.val] w fun e w' => e = .returned (.bool (herm p)) ∧ Ext w w' := by
 have HE : Hid (herm p = (vPa p && (p.p % 2 == ones (andI p.x p.z) % 2))) := rfl
 go_enter Tryz.func66, Tryz.ntmps66
 go_wp2
 have HA2 : Hid (Blk (w.alloc (.cells #[.int .i64 p.n, .int .i64 p.x, .int .i64 p.z, .int .i64 p.p] 66)) w.heap.size 66 #[.int .i64 p.n, .int .i64 p.x, .int .i64 p.z, .int .i64 p.p]) := Blk.new w _ _
 have HX2 : Hid (Ext w (w.alloc (.cells #[.int .i64 p.n, .int .i64 p.x, .int .i64 p.z, .int .i64 p.p] 66))) := xx
 generalize (w.alloc (.cells #[.int .i64 p.n, .int .i64 p.x, .int .i64 p.z, .int .i64 p.p] 66)) = w2 at *
 have HK : Hid (∀ w', Ext w2 w' → (w'.cell? ⟨w.heap.size, 0, none⟩ = some (.int .i64 p.n) ∧ w'.cell? ⟨w.heap.size, 1, none⟩ = some (.int .i64 p.x) ∧ w'.cell? ⟨w.heap.size, 2, none⟩ = some (.int .i64 p.z) ∧ w'.cell? ⟨w.heap.size, 3, none⟩ = some (.int .i64 p.p))) := fun w' hx => by
  obtain ⟨⟨q0, q1, q2, q3⟩, _⟩ := cells4 (HA2.out.ext hx)
  exact ⟨q0, q1, q2, q3⟩
 obtain ⟨q0, q1, q2, q3⟩ := HK.out w2 (Ext.refl _)
 cases hv : vPa p
 ·have HF : Hid (herm p = false) := by unfold Hid; rw [HE.out, hv]; rfl
  refine wp_region_held_drew (S := (fun w' => w'.cell? ⟨w.heap.size, 0, none⟩ = some (.int .i64 p.n) ∧ w'.cell? ⟨w.heap.size, 1, none⟩ = some (.int .i64 p.x) ∧ w'.cell? ⟨w.heap.size, 2, none⟩ = some (.int .i64 p.z) ∧ w'.cell? ⟨w.heap.size, 3, none⟩ = some (.int .i64 p.p))) (by kernel_rfl) (HK.out _ (Ext.refl w2).drew) (fun hHeld => ?_)
  (refine tk 0 (v := ?_) ?_ ?_; rotate_left; · (intro w hSw; (try dsimp only at hSw); go_simp; all_goals with_reducible rfl))
  (try simp only [Act.put, L1, L2, L3, L4, L5, L6])
  (refine wpAnyH_ready (rs := [1]) (by kernel_rfl) (by simp) ?_; refine AllReadyH.cons rfl (fun K hK => ?_) AllReadyH.nil; go_simp)
  refine (spec_IsValidPauli_any p _).mono ?_
  rintro e w3 ⟨rfl, hy3⟩
  replace hy3 : Ext w2 w3 := Ext.trans (Ext.refl w2).drew hy3
  rw [hv]
  refine hK.out _ _ (HK.out _ hy3) (fun hHeld => ?_)
  clear hK K
  (try simp only [Act.put, L1, L2, L3, L4, L5, L6])
  (refine tk 2 (v := ?_) ?_ ?_; rotate_left; · (intro w hSw; (try dsimp only at hSw); go_simp; all_goals with_reducible rfl))
  (try simp only [Act.put, L1, L2, L3, L4, L5, L6])
  (refine wpAnyH_take (i := 3) rfl (by kernel_rfl) (by kernel_rfl) (by kernel_rfl) (fun _ _ _ h => h) (Or.inr ⟨by first | kernel_rfl | rfl, rfl⟩) (by assumption) ?_; (try simp only [Act.put, L1, L2, L3, L4, L5, L6]))
  (refine wpAnyH_take (i := 4) rfl (by kernel_rfl) (by kernel_rfl) (by kernel_rfl) (fun _ _ _ h => h) (Or.inr ⟨by first | kernel_rfl | rfl, rfl⟩) (by assumption) ?_; (try simp only [Act.put, L1, L2, L3, L4, L5, L6]))
  (refine wpAnyH_take (i := 5) rfl (by kernel_rfl) (by kernel_rfl) (by kernel_rfl) (fun _ _ _ h => h) (Or.inr ⟨by first | kernel_rfl | rfl, rfl⟩) (by assumption) ?_; (try simp only [Act.put, L1, L2, L3, L4, L5, L6]))
  (refine wpAnyH_take (i := 6) rfl (by kernel_rfl) (by kernel_rfl) (by kernel_rfl) (fun _ _ _ h => h) (Or.inr ⟨by first | kernel_rfl | rfl, rfl⟩) (by assumption) ?_; (try simp only [Act.put, L1, L2, L3, L4, L5, L6]))
  (refine wpAnyH_take (i := 7) rfl (by kernel_rfl) (by kernel_rfl) (by kernel_rfl) (fun _ _ _ h => h) (Or.inr ⟨by first | kernel_rfl | rfl, rfl⟩) (by assumption) ?_; (try simp only [Act.put, L1, L2, L3, L4, L5, L6]))
  (refine wpAnyH_take (i := 8) rfl (by kernel_rfl) (by kernel_rfl) (by kernel_rfl) (fun _ _ _ h => h) (Or.inr ⟨by first | kernel_rfl | rfl, rfl⟩) (by assumption) ?_; (try simp only [Act.put, L1, L2, L3, L4, L5, L6]))
  (refine wpAnyH_take (i := 9) rfl (by kernel_rfl) (by kernel_rfl) (by kernel_rfl) (fun _ _ _ h => h) (Or.inr ⟨by first | kernel_rfl | rfl, rfl⟩) (by assumption) ?_; (try simp only [Act.put, L1, L2, L3, L4, L5, L6]))
  (refine wpAnyH_take (i := 10) rfl (by kernel_rfl) (by kernel_rfl) (by kernel_rfl) (fun _ _ _ h => h) (Or.inr ⟨by first | kernel_rfl | rfl, rfl⟩) (by assumption) ?_; (try simp only [Act.put, L1, L2, L3, L4, L5, L6]))
  (refine wpAnyH_take (i := 11) rfl (by kernel_rfl) (by kernel_rfl) (by kernel_rfl) (fun _ _ _ h => h) (Or.inr ⟨by first | kernel_rfl | rfl, rfl⟩) (by assumption) ?_; (try simp only [Act.put, L1, L2, L3, L4, L5, L6]))
  (refine wpAnyH_take (i := 12) rfl (by kernel_rfl) (by kernel_rfl) (by kernel_rfl) (fun _ _ _ h => h) (Or.inr ⟨by first | kernel_rfl | rfl, rfl⟩) (by assumption) ?_; (try simp only [Act.put, L1, L2, L3, L4, L5, L6]))
  (refine wpAnyH_take (i := 13) rfl (by kernel_rfl) (by kernel_rfl) (by kernel_rfl) (fun _ _ _ h => h) (Or.inr ⟨by first | kernel_rfl | rfl, rfl⟩) (by assumption) ?_; (try simp only [Act.put, L1, L2, L3, L4, L5, L6]))
  (refine tk 14 (v := ?_) ?_ ?_; rotate_left; · (intro w hSw; (try dsimp only at hSw); go_simp; all_goals with_reducible rfl))
  (try simp only [Act.put, L1, L2, L3, L4, L5, L6])
  (refine tk 15 (v := ?_) ?_ ?_; rotate_left; · (intro w hSw; (try dsimp only at hSw); go_simp; all_goals with_reducible rfl))
  (try simp only [Act.put, L1, L2, L3, L4, L5, L6])
  (refine wpAnyH_done (by kernel_rfl) ?_ _)
  go_wp2
  go_ret
  exact ⟨ret_bool HF.out.symm, HX2.out.trans hy3⟩
 have HV := Lib.hid hv
 obtain ⟨hax, haz, hap, _⟩ := vPa_nib hv
 have hand := andI_nib hax haz
 have hon := ones_le hand.1 hand.2
 have HO : Hid (∀ w', Calls Tryz.prog 86 #[.int .i64 (bits .and .i64 p.x p.z)] w' fun e w'' => e = .returned (.int .i64 (ones (andI p.x p.z))) ∧ w' = w'') := fun w' => spec_ones_any _ w' hand.1 hand.2
 rw [hv, Bool.true_and] at HE
 generalize ones (andI p.x p.z) = t at *
 have e1 : IntKind.i64.wrap (p.p + t) = p.p + t := IntWalk.i64_in _ (by omega)
 have e2 : (p.p + t).tmod 2 = (p.p + t) % 2 := Int.tmod_eq_emod_of_nonneg (by omega)
 have e3 : IntKind.i64.wrap ((p.p + t) % 2) = (p.p + t) % 2 := IntWalk.i64_in _ (by omega)
 rw [herm_sum hap.1 hon.1] at HE
 clear hax haz hap hand hon
 have HCV : Hid (∀ w', Calls Tryz.prog 68 #[p.val] w' fun e w'' => e = .returned (.bool true) ∧ Ext w' w'') := fun w' => by have := spec_IsValidPauli_any p w'; rw [hv] at this; exact this
 clear hv
 go_region_held3 (fun w' => w'.cell? ⟨w.heap.size, 0, none⟩ = some (.int .i64 p.n) ∧ w'.cell? ⟨w.heap.size, 1, none⟩ = some (.int .i64 p.x) ∧ w'.cell? ⟨w.heap.size, 2, none⟩ = some (.int .i64 p.z) ∧ w'.cell? ⟨w.heap.size, 3, none⟩ = some (.int .i64 p.p))
  (first | (go_keep; done) | (refine HK.out _ ?_; first | assumption | exact Ext.trans (by assumption) (Ext.refl _).drew))
  (first | (go_at_call 68; (with_reducible refine (HCV.out _).mono ?_); rintro e w5 ⟨rfl, hy5⟩; replace hy5 : Ext w2 w5 := Ext.trans (Ext.refl w2).drew hy5) | (go_at_call 86; (with_reducible refine (HO.out _).mono ?_); rintro e w6 ⟨rfl, rfl⟩))
 all_goals
  go_wp2
  go_ret
  exact ⟨ret_bool HE.out.symm, HX2.out.trans hy5⟩

end Go.Proofs.YtioimnplhmgbgaaGreat
