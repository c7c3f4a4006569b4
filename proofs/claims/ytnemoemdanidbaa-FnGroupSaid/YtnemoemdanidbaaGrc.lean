/-
  Helper text (no claim of its own): the end of a group, by the program and by the reference.
-/
import Derived.Test.YtnemoemdanidbaaOp
import Derived.Test.YtnemoemdanidbaaIn
namespace Go.Proofs.Ytnemoemdanidbaa
open Go.ChangeShapes Go.WideShapes Go.ChangeAt Go.RowKit Go.Deep
def grpRun (xs : List Oq) (c : Int) (k : Nat) : Nat := k + ((xs.drop k).takeWhile (fun o => o.k == 1 && o.cond == c)).length
theorem grpRun_end (xs : List Oq) (c : Int) (k : Nat) (h : xs.length ≤ k) : grpRun xs c k = k := by
  unfold grpRun; rw [List.drop_eq_nil_of_le h]; rfl
theorem grpRun_step {xs : List Oq} {c : Int} {k : Nat} {o : Oq} (h : xs[k]? = some o) (h1 : (o.k == 1) = true) (h2 : (o.cond == c) = true) : grpRun xs c k = grpRun xs c (k + 1) := by
  obtain ⟨hk, rfl⟩ := List.getElem?_eq_some_iff.1 h
  unfold grpRun
  rw [List.drop_eq_getElem_cons hk, List.takeWhile_cons, h1, h2]
  simp; omega
theorem grpRun_stop {xs : List Oq} {c : Int} {k : Nat} {o : Oq} (h : xs[k]? = some o) (h1 : (o.k == 1 && o.cond == c) = false) : grpRun xs c k = k := by
  obtain ⟨hk, rfl⟩ := List.getElem?_eq_some_iff.1 h
  unfold grpRun
  rw [List.drop_eq_getElem_cons hk, List.takeWhile_cons, h1]
  simp
theorem grpRun_le (xs : List Oq) (c : Int) (k : Nat) (h : k ≤ xs.length) : grpRun xs c k ≤ xs.length := by
  unfold grpRun
  have := (List.takeWhile_sublist (l := xs.drop k) (fun o => o.k == 1 && o.cond == c)).length_le
  rw [List.length_drop] at this
  omega
/-- What GroupEnd returns. -/
def grpEnd (xs : List Oq) (i : Int) : Int :=
  if 0 ≤ i ∧ i < xs.length then match xs[i.toNat]? with
    | some o => if (o.k == 1) = true then (grpRun xs o.cond (i.toNat + 1) : Nat) else i
    | none => i
  else i
theorem grpEnd_out {xs : List Oq} {i : Int} (h : ¬ (0 ≤ i ∧ i < xs.length)) : grpEnd xs i = i := if_neg h
theorem grpEnd_no {xs : List Oq} {i : Nat} {o : Oq} (h : xs[i]? = some o) (hk : (o.k == 1) = false) : grpEnd xs i = i := by
  have hi := (List.getElem?_eq_some_iff.1 h).1
  unfold grpEnd
  rw [if_pos (by omega), Int.toNat_natCast, h]
  simp [hk]
theorem grpEnd_yes {xs : List Oq} {i : Nat} {o : Oq} (h : xs[i]? = some o) (hk : (o.k == 1) = true) : grpEnd xs i = grpRun xs o.cond (i + 1) := by
  have hi := (List.getElem?_eq_some_iff.1 h).1
  unfold grpEnd
  rw [if_pos (by omega), Int.toNat_natCast, h]
  simp [hk]

set_option maxRecDepth 100000 in
set_option maxHeartbeats 1000000 in
theorem spec_GroupEnd_any (A : Option Addr) (n c : Nat) (xs : List Oq) (i : Int) (w : World) (h : Rd w w.heap.size 8 A n (ocells xs)) (hn : n ≤ 1048576) (hi : I64 i) :
    Calls Try.prog 11 #[.slice A n c, .int .i64 i] w fun e w' => e = .returned (.int .i64 (grpEnd xs i)) ∧ Ext w w' := by
  obtain ⟨hi1, hi2⟩ := hi
  have hlen := Lib.hid (h.len Oq.cells_len (by omega))
  by_cases hin : 0 ≤ i ∧ i < n
  · obtain ⟨hi0, hin⟩ := hin
    obtain ⟨j, rfl⟩ := Int.eq_ofNat_of_zero_le hi0
    have hj : j < n := by omega
    obtain ⟨b, o, x, rfl, hb, hg, h0, h1, h2, h3, h4, h5, h6, h7⟩ := op_at h hj
    have HG := Lib.hid hg
    clear hg h1 h2 h3 h4 h5 h6
    cases hk : (x.k == 1)
    · have hk' : (x.k != 1) = true := by simp [bne, hk]
      have HE := Lib.hid (grpEnd_no HG.out hk)
      go_enter Try.func11, Try.ntmps11
      go_wp2_with fail
      refine (l1In_yes _ _ _ _ (by omega) (by omega)).mono ?_
      rintro e w' ⟨rfl, rfl⟩
      go_wp2
      go_ret
      exact ⟨ret_int HE.out.symm, Ext.refl _⟩
    · have hk' : (x.k != 1) = false := by simp [bne, hk]
      have HE := Lib.hid (grpEnd_yes HG.out hk)
      go_enter Try.func11, Try.ntmps11
      go_wp2_with fail
      refine (l1In_yes _ _ _ _ (by omega) (by omega)).mono ?_
      rintro e w' ⟨rfl, rfl⟩
      go_wp2
      go_loopw [5] (fun t wr => ∃ k : Nat, k ≤ n ∧ t = .int .i64 k ∧ Hid (grpRun xs x.cond (j + 1) = grpRun xs x.cond k) ∧ ∃ q, wr = w.drewN q) (fun t _ => n - (intOf t).toNat)
      case atStart => exact ⟨j + 1, by omega, by go_num, Lib.hid rfl, 0, rfl⟩
      case round =>
        obtain ⟨k, hkn, rfl, HR, q, rfl⟩ := hrel
        by_cases hlt : k < n
        · obtain ⟨b', o', y, e', hb', hg', r0, r1, r2, r3, r4, r5, r6, r7⟩ := op_at h hlt
          injection e' with e'; injection e' with e1 e2; subst e1 e2
          have HG' := Lib.hid hg'
          clear hg' r1 r2 r3 r4 r5 r6
          cases hy : (y.k == 1)
          · have HS := Lib.hid (grpRun_stop (c := x.cond) HG'.out (by rw [hy]; rfl))
            go_wp2
            go_quiet (fail)
            go_wp2
            go_ret
            exact ⟨ret_int (by rw [HE.out, HR.out, HS.out]), (by repeat (first | exact Ext.refl _ | assumption | refine Ext.alloc ?_ _ | refine Ext.drewN ?_ _ | refine Ext.drew ?_))⟩
          · cases hz : (y.cond == x.cond)
            · have HS := Lib.hid (grpRun_stop (c := x.cond) HG'.out (by rw [hy, hz]; rfl))
              go_wp2
              go_quiet (fail)
              go_wp2
              go_ret
              exact ⟨ret_int (by rw [HE.out, HR.out, HS.out]), (by repeat (first | exact Ext.refl _ | assumption | refine Ext.alloc ?_ _ | refine Ext.drewN ?_ _ | refine Ext.drew ?_))⟩
            · have HS := Lib.hid (grpRun_step HG'.out hy hz)
              go_wp2
              go_quiet (fail)
              go_wp2
              go_roundw
              case rel => exact ⟨k + 1, by omega, by go_num, Lib.hid (HR.out.trans HS.out), _, rfl⟩
              case measure => simp [intOf]; omega
        · have hd : decide ((k : Int) < n) = false := by simp; omega
          have HS := Lib.hid (grpRun_end xs x.cond k (by rw [hlen.out]; omega))
          go_wp2
          go_quiet (fail)
          go_wp2
          go_ret
          exact ⟨ret_int (by rw [HE.out, HR.out, HS.out]), (by repeat (first | exact Ext.refl _ | assumption | refine Ext.alloc ?_ _ | refine Ext.drewN ?_ _ | refine Ext.drew ?_))⟩
  · have HE := Lib.hid (grpEnd_out (xs := xs) (i := i) (by rw [hlen.out]; exact hin))
    go_enter Try.func11, Try.ntmps11
    go_wp2_with fail
    refine (l1In_no _ _ _ _ (by omega)).mono ?_
    rintro e w' ⟨rfl, rfl⟩
    go_wp2
    go_ret
    exact ⟨ret_int HE.out.symm, Ext.refl _⟩

set_option maxRecDepth 100000 in
set_option maxHeartbeats 1000000 in
theorem impl_GroupEnd_any (A : Option Addr) (n c : Nat) (xs : List Oq) (i : Int) (w : World) (h : Rd w w.heap.size 8 A n (ocells xs)) (hn : n ≤ 1048576) (hi : I64 i) :
    Calls Try.prog 10 #[.slice A n c, .int .i64 i] w fun e w' => e = .returned (.int .i64 (grpEnd xs i)) ∧ Ext w w' := by
  obtain ⟨hi1, hi2⟩ := hi
  have hlen := Lib.hid (h.len Oq.cells_len (by omega))
  by_cases hin : 0 ≤ i ∧ i < n
  · obtain ⟨hi0, hin⟩ := hin
    obtain ⟨j, rfl⟩ := Int.eq_ofNat_of_zero_le hi0
    have hj : j < n := by omega
    obtain ⟨b, o, x, rfl, hb, hg, h0, h1, h2, h3, h4, h5, h6, h7⟩ := op_at h hj
    have HG := Lib.hid hg
    clear hg h1 h2 h3 h4 h5 h6
    cases hk : (x.k == 1)
    · have hk' : (x.k != 1) = true := by simp [bne, hk]
      have HE := Lib.hid (grpEnd_no HG.out hk)
      go_enter Try.func10, Try.ntmps10
      go_wp2
      go_ret
      exact ⟨ret_int HE.out.symm, Ext.refl _⟩
    · have hk' : (x.k != 1) = false := by simp [bne, hk]
      have HE := Lib.hid (grpEnd_yes HG.out hk)
      have hd2 : decide (n ≤ j) = false := by simp; omega
      go_enter Try.func10, Try.ntmps10
      go_wp2
      go_loopw [5] (fun t wr => ∃ k : Nat, k ≤ n ∧ t = .int .i64 k ∧ Hid (grpRun xs x.cond (j + 1) = grpRun xs x.cond k) ∧ ∃ q, wr = w.drewN q) (fun t _ => n - (intOf t).toNat)
      case atStart => exact ⟨j + 1, by omega, by go_num, Lib.hid rfl, 0, rfl⟩
      case round =>
        obtain ⟨k, hkn, rfl, HR, q, rfl⟩ := hrel
        by_cases hlt : k < n
        · obtain ⟨b', o', y, e', hb', hg', r0, r1, r2, r3, r4, r5, r6, r7⟩ := op_at h hlt
          injection e' with e'; injection e' with e1 e2; subst e1 e2
          have HG' := Lib.hid hg'
          clear hg' r1 r2 r3 r4 r5 r6
          cases hy : (y.k == 1)
          · have hy' : (y.k != 1) = true := by simp [bne, hy]
            have HS := Lib.hid (grpRun_stop (c := x.cond) HG'.out (by rw [hy]; rfl))
            go_wp2
            go_quiet (fail)
            go_wp2
            go_ret
            exact ⟨ret_int (by rw [HE.out, HR.out, HS.out]), (by repeat (first | exact Ext.refl _ | assumption | refine Ext.alloc ?_ _ | refine Ext.drewN ?_ _ | refine Ext.drew ?_))⟩
          · have hy' : (y.k != 1) = false := by simp [bne, hy]
            cases hz : (y.cond == x.cond)
            · have hz' : (y.cond != x.cond) = true := by simp [bne, hz]
              have HS := Lib.hid (grpRun_stop (c := x.cond) HG'.out (by rw [hy, hz]; rfl))
              go_wp2
              go_quiet (fail)
              go_wp2
              go_ret
              exact ⟨ret_int (by rw [HE.out, HR.out, HS.out]), (by repeat (first | exact Ext.refl _ | assumption | refine Ext.alloc ?_ _ | refine Ext.drewN ?_ _ | refine Ext.drew ?_))⟩
            · have hz' : (y.cond != x.cond) = false := by simp [bne, hz]
              have HS := Lib.hid (grpRun_step HG'.out hy hz)
              go_wp2
              go_quiet (fail)
              go_wp2
              go_roundw
              case rel => exact ⟨k + 1, by omega, by go_num, Lib.hid (HR.out.trans HS.out), _, rfl⟩
              case measure => simp [intOf]; omega
        · have HS := Lib.hid (grpRun_end xs x.cond k (by rw [hlen.out]; omega))
          obtain rfl : k = n := by omega
          go_wp2
          go_ret
          exact ⟨ret_int (by rw [HE.out, HR.out, HS.out]), (by repeat (first | exact Ext.refl _ | assumption | refine Ext.alloc ?_ _ | refine Ext.drewN ?_ _ | refine Ext.drew ?_))⟩
  · have HE := Lib.hid (grpEnd_out (xs := xs) (i := i) (by rw [hlen.out]; exact hin))
    by_cases hi0 : i < 0
    · go_enter Try.func10, Try.ntmps10
      go_wp2
      go_ret
      exact ⟨ret_int HE.out.symm, Ext.refl _⟩
    · have hd : decide (i < 0) = false := by simp; omega
      have hge : (n : Int) ≤ i := by omega
      clear hin hi0
      go_enter Try.func10, Try.ntmps10
      go_wp2
      go_ret
      exact ⟨ret_int HE.out.symm, Ext.refl _⟩
theorem grpRun_in {xs : List Oq} {c : Int} {j m : Nat} (h1 : j ≤ m) (h2 : m < grpRun xs c j) : ∃ o, xs[m]? = some o ∧ (o.k == 1) = true ∧ (o.cond == c) = true := by
  unfold grpRun at h2
  have h3 : m - j < ((xs.drop j).takeWhile (fun o => o.k == 1 && o.cond == c)).length := by omega
  have h4 := List.getElem_mem h3
  have h5 := List.all_eq_true.1 List.all_takeWhile _ h4
  have h6 : ((xs.drop j).takeWhile (fun o => o.k == 1 && o.cond == c))[m - j]? = xs[m]? := by
    have e := List.takeWhile_append_dropWhile (p := fun o : Oq => o.k == 1 && o.cond == c) (l := xs.drop j)
    have e2 : (xs.drop j)[m - j]? = xs[m]? := by rw [List.getElem?_drop]; congr 1; omega
    rw [← e2]
    conv => rhs; rw [← e]
    rw [List.getElem?_append_left h3]
  rw [List.getElem?_eq_getElem h3] at h6
  refine ⟨_, h6.symm, ?_⟩
  simpa using h5
theorem grpRun_out {xs : List Oq} {c : Int} {j : Nat} (hj : j ≤ xs.length) (h : grpRun xs c j ≠ xs.length) : ∃ o, xs[grpRun xs c j]? = some o ∧ (o.k == 1 && o.cond == c) = false := by
  have hle := grpRun_le xs c j hj
  have hlt : grpRun xs c j < xs.length := by omega
  refine ⟨xs[grpRun xs c j], List.getElem?_eq_getElem hlt, ?_⟩
  have e := List.takeWhile_append_dropWhile (p := fun o : Oq => o.k == 1 && o.cond == c) (l := xs.drop j)
  have hl : ((xs.drop j).takeWhile (fun o => o.k == 1 && o.cond == c)).length = grpRun xs c j - j := by unfold grpRun; omega
  have hge : j ≤ grpRun xs c j := by unfold grpRun; omega
  have hd : (xs.drop j).dropWhile (fun o => o.k == 1 && o.cond == c) ≠ [] := by
    intro h0
    rw [h0, List.append_nil] at e
    rw [e, List.length_drop] at hl
    omega
  have hh := List.head_dropWhile_not (fun o : Oq => o.k == 1 && o.cond == c) hd
  have e3 : some ((xs.drop j).dropWhile (fun o => o.k == 1 && o.cond == c) |>.head hd) = some xs[grpRun xs c j] := by
    rw [← List.head?_eq_some_head, ← List.getElem?_eq_getElem hlt]
    have e2 : (xs.drop j)[grpRun xs c j - j]? = xs[grpRun xs c j]? := by rw [List.getElem?_drop]; congr 1; omega
    rw [← e2]
    conv => rhs; rw [← e]
    rw [List.getElem?_append_right (by rw [hl]; omega), hl, Nat.sub_self, List.head?_eq_getElem?]
  injection e3 with e3
  rw [e3] at hh
  simpa using hh
theorem grpRun_ge (xs : List Oq) (c : Int) (j : Nat) : j ≤ grpRun xs c j := by unfold grpRun; omega
end Go.Proofs.Ytnemoemdanidbaa
