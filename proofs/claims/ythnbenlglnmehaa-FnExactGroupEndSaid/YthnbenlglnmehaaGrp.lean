/-
  For every list of ops and every index, the law FnExactGroupEnd returns true: the program's GroupEnd and the reference's return the same number, and the list is left alone. No condition.
-/
import Derived.Test.YthnbenlglnmehaaOp
import Derived.Test.YthnbenlglnmehaaIn
namespace Go.Proofs.Ythnbenlglnmehaa
open Go.ChangeShapes Go.WideShapes Go.ChangeAt Go.RowKit Go.Deep
def grpRun (xs : List Oq) (c : Int) (k : Nat) : Nat := k + ((xs.drop k).takeWhile (fun o => o.k == 1 && o.cond == c)).length
theorem grpRun_end (xs : List Oq) (c : Int) (k : Nat) (h : xs.length ≤ k) : grpRun xs c k = k := by
  unfold grpRun; rw [List.drop_eq_nil_of_le h]; rfl
theorem grpRun_step {xs : List Oq} {c : Int} {k : Nat} {o : Oq} (h : xs[k]? = some o) (h1 : (o.k == 1) = true) (h2 : (o.cond == c) = true) : grpRun xs c k = grpRun xs c (k + 1) := by
  obtain ⟨hk, rfl⟩ := List.getElem?_eq_some_iff.1 h
  unfold grpRun
  rw [List.drop_eq_getElem_cons hk, List.takeWhile_cons, h1, h2]
  simp; omega
theorem grpRun_stop {xs : List Oq} {c : Int} {k : Nat} {o : Oq} (h : xs[k]? = some o) (h1 : (o.k == 1 && o.cond == c) = false) : grpRun xs c k = k := by
  obtain ⟨hk, rfl⟩ := List.getElem?_eq_some_iff.1 h
  unfold grpRun
  rw [List.drop_eq_getElem_cons hk, List.takeWhile_cons, h1]
  simp
theorem grpRun_le (xs : List Oq) (c : Int) (k : Nat) (h : k ≤ xs.length) : grpRun xs c k ≤ xs.length := by
  unfold grpRun
  have := (List.takeWhile_sublist (l := xs.drop k) (fun o => o.k == 1 && o.cond == c)).length_le
  rw [List.length_drop] at this
  omega
/-- What GroupEnd returns. -/
def grpEnd (xs : List Oq) (i : Int) : Int :=
  if 0 ≤ i ∧ i < xs.length then match xs[i.toNat]? with
    | some o => if (o.k == 1) = true then (grpRun xs o.cond (i.toNat + 1) : Nat) else i
    | none => i
  else i
theorem grpEnd_out {xs : List Oq} {i : Int} (h : ¬ (0 ≤ i ∧ i < xs.length)) : grpEnd xs i = i := if_neg h
theorem grpEnd_no {xs : List Oq} {i : Nat} {o : Oq} (h : xs[i]? = some o) (hk : (o.k == 1) = false) : grpEnd xs i = i := by
  have hi := (List.getElem?_eq_some_iff.1 h).1
  unfold grpEnd
  rw [if_pos (by omega), Int.toNat_natCast, h]
  simp [hk]
theorem grpEnd_yes {xs : List Oq} {i : Nat} {o : Oq} (h : xs[i]? = some o) (hk : (o.k == 1) = true) : grpEnd xs i = grpRun xs o.cond (i + 1) := by
  have hi := (List.getElem?_eq_some_iff.1 h).1
  unfold grpEnd
  rw [if_pos (by omega), Int.toNat_natCast, h]
  simp [hk]

set_option maxRecDepth 100000 in
set_option maxHeartbeats 1000000 in
theorem spec_GroupEnd_any (A : Option Addr) (n c : Nat) (xs : List Oq) (i : Int) (w : World) (h : Rd w w.heap.size 8 A n (ocells xs)) (hn : n ≤ 1048576) (hi : I64 i) :
    Calls Try.prog 22 #[.slice A n c, .int .i64 i] w fun e w' => e = .returned (.int .i64 (grpEnd xs i)) ∧ Ext w w' := by
  obtain ⟨hi1, hi2⟩ := hi
  have hlen := Lib.hid (h.len Oq.cells_len (by omega))
  by_cases hin : 0 ≤ i ∧ i < n
  · obtain ⟨hi0, hin⟩ := hin
    obtain ⟨j, rfl⟩ := Int.eq_ofNat_of_zero_le hi0
    have hj : j < n := by omega
    obtain ⟨b, o, x, rfl, hb, hg, h0, h1, h2, h3, h4, h5, h6, h7⟩ := op_at h hj
    have HG := Lib.hid hg
    clear hg h1 h2 h3 h4 h5 h6
    cases hk : (x.k == 1)
    · have hk' : (x.k != 1) = true := by simp [bne, hk]
      have HE := Lib.hid (grpEnd_no HG.out hk)
      go_enter Try.func22, Try.ntmps22
      go_wp2_with fail
      refine (l1In_yes _ _ _ _ (by omega) (by omega)).mono ?_
      rintro e w' ⟨rfl, rfl⟩
      go_wp2
      go_ret
      exact ⟨ret_int HE.out.symm, Ext.refl _⟩
    · have hk' : (x.k != 1) = false := by simp [bne, hk]
      have HE := Lib.hid (grpEnd_yes HG.out hk)
      go_enter Try.func22, Try.ntmps22
      go_wp2_with fail
      refine (l1In_yes _ _ _ _ (by omega) (by omega)).mono ?_
      rintro e w' ⟨rfl, rfl⟩
      go_wp2
      go_loopw [5] (fun t wr => ∃ k : Nat, k ≤ n ∧ t = .int .i64 k ∧ Hid (grpRun xs x.cond (j + 1) = grpRun xs x.cond k) ∧ ∃ q, wr = w.drewN q) (fun t _ => n - (intOf t).toNat)
      case atStart => exact ⟨j + 1, by omega, by go_num, Lib.hid rfl, 0, rfl⟩
      case round =>
        obtain ⟨k, hkn, rfl, HR, q, rfl⟩ := hrel
        by_cases hlt : k < n
        · obtain ⟨b', o', y, e', hb', hg', r0, r1, r2, r3, r4, r5, r6, r7⟩ := op_at h hlt
          injection e' with e'; injection e' with e1 e2; subst e1 e2
          have HG' := Lib.hid hg'
          clear hg' r1 r2 r3 r4 r5 r6
          cases hy : (y.k == 1)
          · have HS := Lib.hid (grpRun_stop (c := x.cond) HG'.out (by rw [hy]; rfl))
            go_wp2
            go_quiet (fail)
            go_wp2
            go_ret
            exact ⟨ret_int (by rw [HE.out, HR.out, HS.out]), (by repeat (first | exact Ext.refl _ | assumption | refine Ext.alloc ?_ _ | refine Ext.drewN ?_ _ | refine Ext.drew ?_))⟩
          · cases hz : (y.cond == x.cond)
            · have HS := Lib.hid (grpRun_stop (c := x.cond) HG'.out (by rw [hy, hz]; rfl))
              go_wp2
              go_quiet (fail)
              go_wp2
              go_ret
              exact ⟨ret_int (by rw [HE.out, HR.out, HS.out]), (by repeat (first | exact Ext.refl _ | assumption | refine Ext.alloc ?_ _ | refine Ext.drewN ?_ _ | refine Ext.drew ?_))⟩
            · have HS := Lib.hid (grpRun_step HG'.out hy hz)
              go_wp2
              go_quiet (fail)
              go_wp2
              go_roundw
              case rel => exact ⟨k + 1, by omega, by go_num, Lib.hid (HR.out.trans HS.out), _, rfl⟩
              case measure => simp [intOf]; omega
        · have hd : decide ((k : Int) < n) = false := by simp; omega
          have HS := Lib.hid (grpRun_end xs x.cond k (by rw [hlen.out]; omega))
          go_wp2
          go_quiet (fail)
          go_wp2
          go_ret
          exact ⟨ret_int (by rw [HE.out, HR.out, HS.out]), (by repeat (first | exact Ext.refl _ | assumption | refine Ext.alloc ?_ _ | refine Ext.drewN ?_ _ | refine Ext.drew ?_))⟩
  · have HE := Lib.hid (grpEnd_out (xs := xs) (i := i) (by rw [hlen.out]; exact hin))
    go_enter Try.func22, Try.ntmps22
    go_wp2_with fail
    refine (l1In_no _ _ _ _ (by omega)).mono ?_
    rintro e w' ⟨rfl, rfl⟩
    go_wp2
    go_ret
    exact ⟨ret_int HE.out.symm, Ext.refl _⟩

set_option maxRecDepth 100000 in
set_option maxHeartbeats 1000000 in
theorem impl_GroupEnd_any (A : Option Addr) (n c : Nat) (xs : List Oq) (i : Int) (w : World) (h : Rd w w.heap.size 8 A n (ocells xs)) (hn : n ≤ 1048576) (hi : I64 i) :
    Calls Try.prog 24 #[.slice A n c, .int .i64 i] w fun e w' => e = .returned (.int .i64 (grpEnd xs i)) ∧ Ext w w' := by
  obtain ⟨hi1, hi2⟩ := hi
  have hlen := Lib.hid (h.len Oq.cells_len (by omega))
  by_cases hin : 0 ≤ i ∧ i < n
  · obtain ⟨hi0, hin⟩ := hin
    obtain ⟨j, rfl⟩ := Int.eq_ofNat_of_zero_le hi0
    have hj : j < n := by omega
    obtain ⟨b, o, x, rfl, hb, hg, h0, h1, h2, h3, h4, h5, h6, h7⟩ := op_at h hj
    have HG := Lib.hid hg
    clear hg h1 h2 h3 h4 h5 h6
    cases hk : (x.k == 1)
    · have hk' : (x.k != 1) = true := by simp [bne, hk]
      have HE := Lib.hid (grpEnd_no HG.out hk)
      go_enter Try.func24, Try.ntmps24
      go_wp2
      go_ret
      exact ⟨ret_int HE.out.symm, Ext.refl _⟩
    · have hk' : (x.k != 1) = false := by simp [bne, hk]
      have HE := Lib.hid (grpEnd_yes HG.out hk)
      have hd2 : decide (n ≤ j) = false := by simp; omega
      go_enter Try.func24, Try.ntmps24
      go_wp2
      go_loopw [5] (fun t wr => ∃ k : Nat, k ≤ n ∧ t = .int .i64 k ∧ Hid (grpRun xs x.cond (j + 1) = grpRun xs x.cond k) ∧ ∃ q, wr = w.drewN q) (fun t _ => n - (intOf t).toNat)
      case atStart => exact ⟨j + 1, by omega, by go_num, Lib.hid rfl, 0, rfl⟩
      case round =>
        obtain ⟨k, hkn, rfl, HR, q, rfl⟩ := hrel
        by_cases hlt : k < n
        · obtain ⟨b', o', y, e', hb', hg', r0, r1, r2, r3, r4, r5, r6, r7⟩ := op_at h hlt
          injection e' with e'; injection e' with e1 e2; subst e1 e2
          have HG' := Lib.hid hg'
          clear hg' r1 r2 r3 r4 r5 r6
          cases hy : (y.k == 1)
          · have hy' : (y.k != 1) = true := by simp [bne, hy]
            have HS := Lib.hid (grpRun_stop (c := x.cond) HG'.out (by rw [hy]; rfl))
            go_wp2
            go_quiet (fail)
            go_wp2
            go_ret
            exact ⟨ret_int (by rw [HE.out, HR.out, HS.out]), (by repeat (first | exact Ext.refl _ | assumption | refine Ext.alloc ?_ _ | refine Ext.drewN ?_ _ | refine Ext.drew ?_))⟩
          · have hy' : (y.k != 1) = false := by simp [bne, hy]
            cases hz : (y.cond == x.cond)
            · have hz' : (y.cond != x.cond) = true := by simp [bne, hz]
              have HS := Lib.hid (grpRun_stop (c := x.cond) HG'.out (by rw [hy, hz]; rfl))
              go_wp2
              go_quiet (fail)
              go_wp2
              go_ret
              exact ⟨ret_int (by rw [HE.out, HR.out, HS.out]), (by repeat (first | exact Ext.refl _ | assumption | refine Ext.alloc ?_ _ | refine Ext.drewN ?_ _ | refine Ext.drew ?_))⟩
            · have hz' : (y.cond != x.cond) = false := by simp [bne, hz]
              have HS := Lib.hid (grpRun_step HG'.out hy hz)
              go_wp2
              go_quiet (fail)
              go_wp2
              go_roundw
              case rel => exact ⟨k + 1, by omega, by go_num, Lib.hid (HR.out.trans HS.out), _, rfl⟩
              case measure => simp [intOf]; omega
        · have HS := Lib.hid (grpRun_end xs x.cond k (by rw [hlen.out]; omega))
          obtain rfl : k = n := by omega
          go_wp2
          go_ret
          exact ⟨ret_int (by rw [HE.out, HR.out, HS.out]), (by repeat (first | exact Ext.refl _ | assumption | refine Ext.alloc ?_ _ | refine Ext.drewN ?_ _ | refine Ext.drew ?_))⟩
  · have HE := Lib.hid (grpEnd_out (xs := xs) (i := i) (by rw [hlen.out]; exact hin))
    by_cases hi0 : i < 0
    · go_enter Try.func24, Try.ntmps24
      go_wp2
      go_ret
      exact ⟨ret_int HE.out.symm, Ext.refl _⟩
    · have hd : decide (i < 0) = false := by simp; omega
      have hge : (n : Int) ≤ i := by omega
      clear hin hi0
      go_enter Try.func24, Try.ntmps24
      go_wp2
      go_ret
      exact ⟨ret_int HE.out.symm, Ext.refl _⟩

namespace fnExactGroupEnd
set_option maxHeartbeats 400000 in
theorem walk (A : Option Addr) (n c : Nat) (gs : List Oq) (i : Int) (w : World) (h : Rd w w.heap.size 8 A n (ocells gs)) (hm : n ≤ maxLen) (hi : I64 i) :
    Calls Try.prog 5 #[.slice A n c, .int .i64 i] w fun e w' => e = .returned (.bool true) ∧ Ext w w' := by
  go_enter Try.func5, Try.ntmps5
  go_wp2_with fail
  refine (szOpS_any A n c _ _ (by omega) (by omega) hm).mono ?_
  rintro e w0 ⟨rfl, rfl⟩
  by_cases hn : n ≤ 1048576
  · rw [szF_ge (by omega)]
    go_wp2_with fail
    refine (toOpS_any A n c gs _ h hn).mono ?_
    rintro e w1 ⟨v1, rfl, ho1, hx1⟩
    obtain ⟨A1, c1, rfl, hr1⟩ := own_slice ho1
    go_wp2_with fail
    refine (spec_GroupEnd_any A1 n c1 gs i _ hr1 hn hi).mono ?_
    rintro e w2 ⟨rfl, hx2⟩
    have hx02 := hx1.trans hx2
    go_wp2_with fail
    refine (toOpS_any A n c gs _ (h.ext hx02) hn).mono ?_
    rintro e w3 ⟨v3, rfl, ho3, hx3⟩
    obtain ⟨A3, c3, rfl, hr3⟩ := own_slice ho3
    go_wp2_with fail
    refine (impl_GroupEnd_any A3 n c3 gs i _ hr3 hn hi).mono ?_
    rintro e w4 ⟨rfl, hx4⟩
    have hx04 := (hx02.trans hx3).trans hx4
    go_wp2_with fail
    refine (toOpS_any A n c gs _ (h.ext hx04) hn).mono ?_
    rintro e w5 ⟨v5, rfl, ho5, hx5⟩
    obtain ⟨A5, c5, rfl, hr5⟩ := own_slice ho5
    go_wp2_with fail
    refine (eqOpS_any A3 A5 n n c3 c5 gs gs _ ((hr3.ext hx4).ext hx5) hr5 (by omega) (by omega)).mono ?_
    rintro e w6 ⟨rfl, hx6⟩
    rw [eqL_self eqO eqO_self]
    go_wp2
    go_ret
    exact ⟨rfl, (hx04.trans hx5).trans hx6⟩
  · rw [szF_lt (by omega)]
    go_wp2
    go_ret
    exact ⟨rfl, Ext.refl _⟩
set_option maxRecDepth 100000 in
theorem lifted (os : Os) (started : os.Started) (H : Type) (enc : TypeId × Value → H) :
    ReturnsInHanded {} Try.checked os 5 .any (Rows.fnExactGroupEndSpec.pre6 enc Try.prog Try.f5 Rows.fnExactGroupEndRow.domain false) (Rows.fnExactGroupEndSpec.post enc Try.prog Try.f5 false true false false) := by
  refine returnsInHanded_of_change (C := Try.checked) own started (by kernel_rfl) Try.func5
    (ChangeSpec.witness6 (enc := enc) (C := Try.checked) false ⟨#[], #[.slice none 0 0, .int .i64 0], []⟩ 8 (by kernel_rfl) (by kernel_rfl) (by kernel_rfl) (by kernel_rfl)) ?_
  intro W base args ds gs before hval0 hW hcnd _
  have hval : ∀ (j : Nat) t v, Try.f5.params[j]? = some t → args[j]? = some v → Value.okWide Try.prog W .any base t v := hval0
  have hW' := hW
  obtain ⟨p, q, hA0, hV, rfl, hfz, hnd⟩ := hW
  have hA : DataW.TrodAll enc Try.prog W 0 (fun _ => true) true Try.f5.params.toList args.toList ds p := hA0
  rw [Try.params5] at hA hval
  obtain ⟨v0, vs0, d0, ds0, p0, q0, hargs, rfl, rfl, h0, r0⟩ := trodAll_cons hA
  obtain ⟨v1, vs1, d1, ds1, p1, q1, rfl, rfl, rfl, h1, r1⟩ := trodAll_cons r0
  obtain ⟨rfl, rfl, rfl⟩ := trodAll_nil r1
  obtain rfl : args = #[v0, v1] := by cases args; simp_all
  clear hA0 hval0 hfz hnd hV hcnd
  obtain ⟨A, n, c, gs, rfl, hnc, hcm, hr, hok⟩ := open_lops (hval 0 _ v0 rfl rfl) h0
  obtain ⟨i, rfl, rfl, rfl, w1⟩ := open_int Try.underlying3 (hval 1 _ v1 rfl rfl) h1
  refine (walk A n c gs i W hr (by omega) (wf_i64 w1)).mono fun e W' ⟨he, hx⟩ => ?_
  subst he
  exact ⟨_, rfl, law_post rfl (by rw [Try.params5]; decide +kernel) rfl hW' rfl rfl rfl hx⟩

theorem over : Rows.fnExactGroupEndRow.holds Try.pinned (OpenSpec.ofChange Rows.fnExactGroupEndSpec) :=
  OpenClaim.holds_of_wide 5 Try.f5 rfl rfl rfl rfl rfl rfl rfl ⟨rfl, rfl, rfl, rfl, rfl⟩ rfl rfl rfl rfl rfl (by kernel_rfl) Try.func5 (by kernel_rfl)
    (of_decide_eq_true (by kernel_rfl)) (by unfold Func.isWrapper; first | (rw [if_pos (by decide +kernel)]; kernel_rfl) | (rw [if_neg (by decide +kernel)]; exact ⟨rfl, rfl⟩))
    (fun os started H enc _ => lifted os started H enc)

/-- The statement. -/
theorem proved : Rows.FnExactGroupEndSaid := over
#print axioms proved

end fnExactGroupEnd
end Go.Proofs.Ythnbenlglnmehaa
