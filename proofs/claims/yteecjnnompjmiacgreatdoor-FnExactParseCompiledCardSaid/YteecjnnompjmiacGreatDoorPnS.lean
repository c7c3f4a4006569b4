/-
  Helper text (no claim of its own): a number read out of a text, by the reference: what the small digits are read as, and that it ends at every text.
-/
import Derived.Test.YteecjnnompjmiacGreatDoorFii
namespace Go.Proofs.YteecjnnompjmiacGreatDoor
open Go.ChangeShapes Go.WideShapes Go.ChangeAt Go.RowKit Go.Deep
set_option linter.unusedVariables false
set_option linter.unusedSimpArgs false
/-- A number and whether there was one. -/
def NumRes (Q : Int → Bool → Prop) (e : Ending) : Prop := ∃ (n : Int) (ok : Bool), e = .returned (.tuple #[.int .i64 n, .bool ok]) ∧ Q n ok
theorem numRes {Q : Int → Bool → Prop} {e : Ending} (n : Int) (ok : Bool) (h : e = .returned (.tuple #[.int .i64 n, .bool ok])) (q : Q n ok) : NumRes Q e := ⟨n, ok, h, q⟩
/-- What is known of a number read: small digits are read as what they say. -/
def PN (t : ByteArray) (n : Int) (ok : Bool) : Prop := 0 ≤ n ∧ n ≤ 999999 ∧ ∀ d : Int, 0 ≤ d → d ≤ 4 → t = dig d → n = d ∧ ok = true
theorem neg_parts (y : Int) (hy : y ≤ 0) : ∃ (d : Nat) (y2 : Int), d ≤ 9 ∧ y.tmod 10 = -(d : Int) ∧ y.tdiv 10 = y2 ∧ y2 ≤ 0 ∧ y = 10 * y2 - d := by
  obtain ⟨k, rfl⟩ : ∃ k : Nat, y = -(k : Int) := ⟨(-y).toNat, by omega⟩
  refine ⟨k % 10, -((k / 10 : Nat) : Int), by omega, ?_, ?_, by omega, by omega⟩
  · rw [Int.neg_tmod]; rfl
  · rw [Int.neg_tdiv]; rfl
set_option maxRecDepth 100000 in
set_option maxHeartbeats 4000000 in
theorem spec_FormatInt_neg (z : Int) (hz : -1000000000 ≤ z) (hz0 : z < 0) (w : World) : Calls Tryz.prog 29 #[.int .i64 z] w fun e w' => (∃ t, e = .returned (.string t)) ∧ Ext w w' := by
  have hne : (z == 0) = false := by simp; omega
  go_enter Tryz.func29, Tryz.ntmps29
  go_wp2
  go_loopw [0, 4] (fun n out wr => ∃ (y : Int) (l : List UInt8), n = .int .i64 y ∧ y ≤ 0 ∧ out = .string ⟨l.toArray⟩ ∧ l.length - y ≤ 1000000000 ∧ Ext w wr) (fun n _ _ => (-(intOf n)).toNat)
  case atStart => exact ⟨z, [], rfl, by omega, rfl, by simp; omega, Ext.refl _⟩
  case round =>
    obtain ⟨y, l, rfl, hy, rfl, hl, hx⟩ := hrel
    by_cases hk : y = 0
    · subst hk
      have hj := join1 45 l (by omega)
      go_wp2
      go_ret
      exact ⟨⟨_, rfl⟩, hx⟩
    · have hk' : (y != 0) = true := by simp; omega
      obtain ⟨d, y2, hd9, hmod, hdiv, hy2, hyy⟩ := neg_parts y hy
      have HW : Hid (wrap64 y2 = y2) := by unfold Hid wrap64; omega
      have HM : Hid ((-(intOf (Value.int .i64 y2))).toNat < (-(intOf (Value.int .i64 y))).toNat) := by unfold Hid; simp [intOf]; omega
      have HL : Hid (((l.length + 1 : Nat) : Int) - y2 ≤ 1000000000) := by unfold Hid; omega
      clear hyy
      rcases (by omega : d = 0 ∨ d = 1 ∨ d = 2 ∨ d = 3 ∨ d = 4 ∨ d = 5 ∨ d = 6 ∨ d = 7 ∨ d = 8 ∨ d = 9) with rfl | rfl | rfl | rfl | rfl | rfl | rfl | rfl | rfl | rfl
      · have hcv := conv1 48 48 rfl
        have hj := join1 48 l (by omega)
        have hmod : y.tmod 10 = 0 := hmod
        go_wp2
        go_roundw
        case rel => exact ⟨y2, _, by rw [HW.out], hy2, rfl, HL.out, hx.alloc _⟩
        case measure => rw [HW.out]; exact HM.out
      · have hcv := conv1 49 49 rfl
        have hj := join1 49 l (by omega)
        have hmod : y.tmod 10 = -1 := hmod
        go_wp2
        go_roundw
        case rel => exact ⟨y2, _, by rw [HW.out], hy2, rfl, HL.out, hx.alloc _⟩
        case measure => rw [HW.out]; exact HM.out
      · have hcv := conv1 50 50 rfl
        have hj := join1 50 l (by omega)
        have hmod : y.tmod 10 = -2 := hmod
        go_wp2
        go_roundw
        case rel => exact ⟨y2, _, by rw [HW.out], hy2, rfl, HL.out, hx.alloc _⟩
        case measure => rw [HW.out]; exact HM.out
      · have hcv := conv1 51 51 rfl
        have hj := join1 51 l (by omega)
        have hmod : y.tmod 10 = -3 := hmod
        go_wp2
        go_roundw
        case rel => exact ⟨y2, _, by rw [HW.out], hy2, rfl, HL.out, hx.alloc _⟩
        case measure => rw [HW.out]; exact HM.out
      · have hcv := conv1 52 52 rfl
        have hj := join1 52 l (by omega)
        have hmod : y.tmod 10 = -4 := hmod
        go_wp2
        go_roundw
        case rel => exact ⟨y2, _, by rw [HW.out], hy2, rfl, HL.out, hx.alloc _⟩
        case measure => rw [HW.out]; exact HM.out
      · have hcv := conv1 53 53 rfl
        have hj := join1 53 l (by omega)
        have hmod : y.tmod 10 = -5 := hmod
        go_wp2
        go_roundw
        case rel => exact ⟨y2, _, by rw [HW.out], hy2, rfl, HL.out, hx.alloc _⟩
        case measure => rw [HW.out]; exact HM.out
      · have hcv := conv1 54 54 rfl
        have hj := join1 54 l (by omega)
        have hmod : y.tmod 10 = -6 := hmod
        go_wp2
        go_roundw
        case rel => exact ⟨y2, _, by rw [HW.out], hy2, rfl, HL.out, hx.alloc _⟩
        case measure => rw [HW.out]; exact HM.out
      · have hcv := conv1 55 55 rfl
        have hj := join1 55 l (by omega)
        have hmod : y.tmod 10 = -7 := hmod
        go_wp2
        go_roundw
        case rel => exact ⟨y2, _, by rw [HW.out], hy2, rfl, HL.out, hx.alloc _⟩
        case measure => rw [HW.out]; exact HM.out
      · have hcv := conv1 56 56 rfl
        have hj := join1 56 l (by omega)
        have hmod : y.tmod 10 = -8 := hmod
        go_wp2
        go_roundw
        case rel => exact ⟨y2, _, by rw [HW.out], hy2, rfl, HL.out, hx.alloc _⟩
        case measure => rw [HW.out]; exact HM.out
      · have hcv := conv1 57 57 rfl
        have hj := join1 57 l (by omega)
        have hmod : y.tmod 10 = -9 := hmod
        go_wp2
        go_roundw
        case rel => exact ⟨y2, _, by rw [HW.out], hy2, rfl, HL.out, hx.alloc _⟩
        case measure => rw [HW.out]; exact HM.out
/-! ### the digits, each walked -/
set_option maxRecDepth 100000 in
set_option maxHeartbeats 4000000 in
theorem spec_ParseNumber_dig (d : Int) (h0 : 0 ≤ d) (h4 : d ≤ 4) (w : World) : Calls Tryz.prog 11 #[.string (dig d)] w fun e w' => e = .returned (.tuple #[.int .i64 d, .bool true]) ∧ Ext w w' := by
  rcases (by omega : d = 0 ∨ d = 1 ∨ d = 2 ∨ d = 3 ∨ d = 4) with rfl | rfl | rfl | rfl | rfl
  · have HL : Hid (∀ w', Calls Tryz.prog 24 #[.string (dig 0), .int .i64 6] w' fun e w'' => e = .returned (.tuple #[.int .i64 0, .bool true]) ∧ Ext w' w'') := by
      intro w'
      have hsz : (dig 0).size = 1 := rfl
      have hb : ((dig 0)[0]'(by decide)) = 48 := rfl
      go_enter Tryz.func24, Tryz.ntmps24
      go_wp2
      go_loopw [8, 9] (fun n i wr => ((n = .int .i64 0 ∧ i = .int .i64 0) ∨ (n = .int .i64 0 ∧ i = .int .i64 1)) ∧ Ext w' wr) (fun _ i _ => 1 - (intOf i).toNat)
      case atStart => exact ⟨.inl ⟨rfl, rfl⟩, Ext.refl _⟩
      case round =>
        obtain ⟨⟨rfl, rfl⟩ | ⟨rfl, rfl⟩, hx⟩ := hrel
        · go_wp2
          go_roundw
          case rel => exact ⟨.inr ⟨rfl, rfl⟩, hx⟩
          case measure => simp [intOf]
        · go_wp2_with (go_at_call 29; refine (spec_FormatInt_small 0 ⟨by omega, by omega⟩ _).mono ?_; rintro e w5 ⟨rfl, hy5⟩)
          go_ret2
          exact ⟨rfl, hx.trans hy5⟩
    go_enter Tryz.func11, Tryz.ntmps11
    go_wp2_with (go_at_call 24; refine (HL.out _).mono ?_; rintro e w5 ⟨rfl, hy5⟩)
    go_ret2
    exact ⟨rfl, hy5⟩
  · have HL : Hid (∀ w', Calls Tryz.prog 24 #[.string (dig 1), .int .i64 6] w' fun e w'' => e = .returned (.tuple #[.int .i64 1, .bool true]) ∧ Ext w' w'') := by
      intro w'
      have hsz : (dig 1).size = 1 := rfl
      have hb : ((dig 1)[0]'(by decide)) = 49 := rfl
      go_enter Tryz.func24, Tryz.ntmps24
      go_wp2
      go_loopw [8, 9] (fun n i wr => ((n = .int .i64 0 ∧ i = .int .i64 0) ∨ (n = .int .i64 1 ∧ i = .int .i64 1)) ∧ Ext w' wr) (fun _ i _ => 1 - (intOf i).toNat)
      case atStart => exact ⟨.inl ⟨rfl, rfl⟩, Ext.refl _⟩
      case round =>
        obtain ⟨⟨rfl, rfl⟩ | ⟨rfl, rfl⟩, hx⟩ := hrel
        · go_wp2
          go_roundw
          case rel => exact ⟨.inr ⟨rfl, rfl⟩, hx⟩
          case measure => simp [intOf]
        · go_wp2_with (go_at_call 29; refine (spec_FormatInt_small 1 ⟨by omega, by omega⟩ _).mono ?_; rintro e w5 ⟨rfl, hy5⟩)
          go_ret2
          exact ⟨rfl, hx.trans hy5⟩
    go_enter Tryz.func11, Tryz.ntmps11
    go_wp2_with (go_at_call 24; refine (HL.out _).mono ?_; rintro e w5 ⟨rfl, hy5⟩)
    go_ret2
    exact ⟨rfl, hy5⟩
  · have HL : Hid (∀ w', Calls Tryz.prog 24 #[.string (dig 2), .int .i64 6] w' fun e w'' => e = .returned (.tuple #[.int .i64 2, .bool true]) ∧ Ext w' w'') := by
      intro w'
      have hsz : (dig 2).size = 1 := rfl
      have hb : ((dig 2)[0]'(by decide)) = 50 := rfl
      go_enter Tryz.func24, Tryz.ntmps24
      go_wp2
      go_loopw [8, 9] (fun n i wr => ((n = .int .i64 0 ∧ i = .int .i64 0) ∨ (n = .int .i64 2 ∧ i = .int .i64 1)) ∧ Ext w' wr) (fun _ i _ => 1 - (intOf i).toNat)
      case atStart => exact ⟨.inl ⟨rfl, rfl⟩, Ext.refl _⟩
      case round =>
        obtain ⟨⟨rfl, rfl⟩ | ⟨rfl, rfl⟩, hx⟩ := hrel
        · go_wp2
          go_roundw
          case rel => exact ⟨.inr ⟨rfl, rfl⟩, hx⟩
          case measure => simp [intOf]
        · go_wp2_with (go_at_call 29; refine (spec_FormatInt_small 2 ⟨by omega, by omega⟩ _).mono ?_; rintro e w5 ⟨rfl, hy5⟩)
          go_ret2
          exact ⟨rfl, hx.trans hy5⟩
    go_enter Tryz.func11, Tryz.ntmps11
    go_wp2_with (go_at_call 24; refine (HL.out _).mono ?_; rintro e w5 ⟨rfl, hy5⟩)
    go_ret2
    exact ⟨rfl, hy5⟩
  · have HL : Hid (∀ w', Calls Tryz.prog 24 #[.string (dig 3), .int .i64 6] w' fun e w'' => e = .returned (.tuple #[.int .i64 3, .bool true]) ∧ Ext w' w'') := by
      intro w'
      have hsz : (dig 3).size = 1 := rfl
      have hb : ((dig 3)[0]'(by decide)) = 51 := rfl
      go_enter Tryz.func24, Tryz.ntmps24
      go_wp2
      go_loopw [8, 9] (fun n i wr => ((n = .int .i64 0 ∧ i = .int .i64 0) ∨ (n = .int .i64 3 ∧ i = .int .i64 1)) ∧ Ext w' wr) (fun _ i _ => 1 - (intOf i).toNat)
      case atStart => exact ⟨.inl ⟨rfl, rfl⟩, Ext.refl _⟩
      case round =>
        obtain ⟨⟨rfl, rfl⟩ | ⟨rfl, rfl⟩, hx⟩ := hrel
        · go_wp2
          go_roundw
          case rel => exact ⟨.inr ⟨rfl, rfl⟩, hx⟩
          case measure => simp [intOf]
        · go_wp2_with (go_at_call 29; refine (spec_FormatInt_small 3 ⟨by omega, by omega⟩ _).mono ?_; rintro e w5 ⟨rfl, hy5⟩)
          go_ret2
          exact ⟨rfl, hx.trans hy5⟩
    go_enter Tryz.func11, Tryz.ntmps11
    go_wp2_with (go_at_call 24; refine (HL.out _).mono ?_; rintro e w5 ⟨rfl, hy5⟩)
    go_ret2
    exact ⟨rfl, hy5⟩
  · have HL : Hid (∀ w', Calls Tryz.prog 24 #[.string (dig 4), .int .i64 6] w' fun e w'' => e = .returned (.tuple #[.int .i64 4, .bool true]) ∧ Ext w' w'') := by
      intro w'
      have hsz : (dig 4).size = 1 := rfl
      have hb : ((dig 4)[0]'(by decide)) = 52 := rfl
      go_enter Tryz.func24, Tryz.ntmps24
      go_wp2
      go_loopw [8, 9] (fun n i wr => ((n = .int .i64 0 ∧ i = .int .i64 0) ∨ (n = .int .i64 4 ∧ i = .int .i64 1)) ∧ Ext w' wr) (fun _ i _ => 1 - (intOf i).toNat)
      case atStart => exact ⟨.inl ⟨rfl, rfl⟩, Ext.refl _⟩
      case round =>
        obtain ⟨⟨rfl, rfl⟩ | ⟨rfl, rfl⟩, hx⟩ := hrel
        · go_wp2
          go_roundw
          case rel => exact ⟨.inr ⟨rfl, rfl⟩, hx⟩
          case measure => simp [intOf]
        · go_wp2_with (go_at_call 29; refine (spec_FormatInt_small 4 ⟨by omega, by omega⟩ _).mono ?_; rintro e w5 ⟨rfl, hy5⟩)
          go_ret2
          exact ⟨rfl, hx.trans hy5⟩
    go_enter Tryz.func11, Tryz.ntmps11
    go_wp2_with (go_at_call 24; refine (HL.out _).mono ?_; rintro e w5 ⟨rfl, hy5⟩)
    go_ret2
    exact ⟨rfl, hy5⟩
/-! ### every text -/
theorem pn_dig (d : Int) (h0 : 0 ≤ d) (h4 : d ≤ 4) : PN (dig d) d true := by
  refine ⟨h0, by omega, fun d' h0' h4' he => ⟨?_, rfl⟩⟩
  have e1 : UInt8.ofNat (48 + d.toNat) = UInt8.ofNat (48 + d'.toNat) := by
    have := congrArg (fun b : ByteArray => b.data.toList) he
    simpa [dig] using this
  have e2 := congrArg UInt8.toNat e1
  rw [UInt8.toNat_ofNat', UInt8.toNat_ofNat'] at e2
  omega
theorem byte_get (s : ByteArray) (k : Nat) (h : k < s.size) : s[k].toNat ≤ 255 := by have := s[k].toNat_lt; omega
set_option maxRecDepth 100000 in
set_option maxHeartbeats 4000000 in
theorem spec_l1Read_some (s : ByteArray) (hs : s.size ≤ 2000000) (w : World) : Calls Tryz.prog 24 #[.string s, .int .i64 6] w fun e w' => NumRes (fun n _ => n ≤ 999999 ∧ -999999 ≤ n) e ∧ Ext w w' := by
  go_enter Tryz.func24, Tryz.ntmps24
  by_cases h0 : s.size = 0
  · have h0' : ¬ ((0 : Int) < (s.size : Int)) := by omega
    have hz' : (s.size : Int) < 1 := by omega
    go_wp2
    go_ret2
    exact ⟨numRes (0) false rfl ⟨by omega, by omega⟩, Ext.refl _⟩
  have h0' : ((0 : Int) < (s.size : Int)) := by omega
  have h00 : 0 < s.size := by omega
  by_cases hm : s[0] = 45
  · have hmb : ((s[0].toNat : Int) == 45) = true := by rw [hm]; rfl
    obtain ⟨t, ht⟩ : ∃ t, s.extract 1 s.size = t := ⟨_, rfl⟩
    have hts : t.size = s.size - 1 := by rw [← ht, ByteArray.size_extract]; omega
    clear hm
    by_cases hz : t.size < 1
    · have hz' : (t.size : Int) < 1 := by omega
      go_wp2
      go_ret2
      exact ⟨numRes (0) false rfl ⟨by omega, by omega⟩, Ext.refl _⟩
    have hz' : ¬ ((t.size : Int) < 1) := by omega
    by_cases hq : 6 < t.size
    · have hq' : (6 : Int) < (t.size : Int) := by omega
      go_wp2
      go_ret2
      exact ⟨numRes (0) false rfl ⟨by omega, by omega⟩, Ext.refl _⟩
    have hq' : ¬ ((6 : Int) < (t.size : Int)) := by omega
    go_wp2
    go_loopw [8, 9] (fun nv iv wr => ∃ n k : Nat, nv = .int .i64 n ∧ iv = .int .i64 k ∧ k ≤ t.size ∧ Hid (n < 10 ^ k) ∧ Ext w wr) (fun _ i _ => t.size - (intOf i).toNat)
    case atStart => exact ⟨0, 0, rfl, rfl, Nat.zero_le _, by unfold Hid; decide, Ext.refl _⟩
    case round =>
      obtain ⟨n, k, rfl, rfl, hk, HN, hx⟩ := hrel
      have hk0 : (0 : Int) ≤ (k : Int) := by omega
      have h6 : n < 1000000 := Nat.lt_of_lt_of_le HN.out (Nat.le_trans (Nat.pow_le_pow_right (by decide) (show k ≤ 6 by omega)) (by decide))
      by_cases hlt : k < t.size
      · have hki : (k : Int) < (t.size : Int) := by omega
        have h5 : n < 100000 := Nat.lt_of_lt_of_le HN.out (Nat.le_trans (Nat.pow_le_pow_right (by decide) (show k ≤ 5 by omega)) (by decide))
        have hb255 := byte_get t k hlt
        obtain ⟨b, hb⟩ : ∃ b : Nat, t[k].toNat = b := ⟨_, rfl⟩
        by_cases h48 : b < 48
        · have h48' : (b : Int) < 48 := by omega
          go_wp2
          go_ret2
          exact ⟨numRes (0) false rfl ⟨by omega, by omega⟩, hx⟩
        have h48' : ¬ ((b : Int) < 48) := by omega
        by_cases h57 : 57 < b
        · have h57' : (57 : Int) < (b : Int) := by omega
          go_wp2
          go_ret2
          exact ⟨numRes (0) false rfl ⟨by omega, by omega⟩, hx⟩
        have h57' : ¬ ((57 : Int) < (b : Int)) := by omega
        have HM : Hid (10 * n + (b - 48) < 10 ^ (k + 1)) := by unfold Hid; have := HN.out; rw [Nat.pow_succ]; omega
        have u1 : ((b : Int) - 48) % 256 = ((b - 48 : Nat) : Int) := by omega
        go_wp2
        go_roundw
        case rel => exact ⟨10 * n + (b - 48), k + 1, by go_num, by go_num, by omega, HM, hx⟩
        case measure => simp [intOf]; omega
      · have hki : ¬ ((k : Int) < (t.size : Int)) := by omega
        have hwn : wrap64 (-(n : Int)) = -(n : Int) := by unfold wrap64; omega
        have HC : Hid (∀ w', Calls Tryz.prog 29 #[.int .i64 (-(n : Int))] w' fun e w'' => (∃ t, e = .returned (.string t)) ∧ Ext w' w'') := by
          intro w'
          rcases Nat.eq_zero_or_pos n with rfl | hp
          · refine (spec_FormatInt_nat 0 (by omega) w').mono ?_
            rintro e w'' ⟨rfl, h⟩
            exact ⟨⟨_, rfl⟩, h⟩
          · exact spec_FormatInt_neg _ (by omega) (by omega) w'
        go_wp2_with fail
        refine (HC.out _).mono ?_
        rintro e w5 ⟨⟨tt, rfl⟩, hy5⟩
        obtain ⟨q, hq⟩ : ∃ q, (ByteArray.toList (tt) == s.toList) = q := ⟨_, rfl⟩
        cases q
        · go_wp2
          go_ret2
          exact ⟨numRes (0) false rfl ⟨by omega, by omega⟩, hx.trans hy5⟩
        · go_wp2
          go_ret2
          exact ⟨numRes (-(n : Int)) true rfl ⟨by omega, by omega⟩, hx.trans hy5⟩
  · have hmb : ((s[0].toNat : Int) == 45) = false := by
      simp
      intro h
      exact hm (UInt8.toNat_inj.1 (by rw [show s[0].toNat = 45 by omega]; rfl))
    clear hm
    by_cases hz : s.size < 1
    · have hz' : (s.size : Int) < 1 := by omega
      go_wp2
      go_ret2
      exact ⟨numRes (0) false rfl ⟨by omega, by omega⟩, Ext.refl _⟩
    have hz' : ¬ ((s.size : Int) < 1) := by omega
    by_cases hq : 6 < s.size
    · have hq' : (6 : Int) < (s.size : Int) := by omega
      go_wp2
      go_ret2
      exact ⟨numRes (0) false rfl ⟨by omega, by omega⟩, Ext.refl _⟩
    have hq' : ¬ ((6 : Int) < (s.size : Int)) := by omega
    go_wp2
    go_loopw [8, 9] (fun nv iv wr => ∃ n k : Nat, nv = .int .i64 n ∧ iv = .int .i64 k ∧ k ≤ s.size ∧ Hid (n < 10 ^ k) ∧ Ext w wr) (fun _ i _ => s.size - (intOf i).toNat)
    case atStart => exact ⟨0, 0, rfl, rfl, Nat.zero_le _, by unfold Hid; decide, Ext.refl _⟩
    case round =>
      obtain ⟨n, k, rfl, rfl, hk, HN, hx⟩ := hrel
      have hk0 : (0 : Int) ≤ (k : Int) := by omega
      have h6 : n < 1000000 := Nat.lt_of_lt_of_le HN.out (Nat.le_trans (Nat.pow_le_pow_right (by decide) (show k ≤ 6 by omega)) (by decide))
      by_cases hlt : k < s.size
      · have hki : (k : Int) < (s.size : Int) := by omega
        have h5 : n < 100000 := Nat.lt_of_lt_of_le HN.out (Nat.le_trans (Nat.pow_le_pow_right (by decide) (show k ≤ 5 by omega)) (by decide))
        have hb255 := byte_get s k hlt
        obtain ⟨b, hb⟩ : ∃ b : Nat, s[k].toNat = b := ⟨_, rfl⟩
        by_cases h48 : b < 48
        · have h48' : (b : Int) < 48 := by omega
          go_wp2
          go_ret2
          exact ⟨numRes (0) false rfl ⟨by omega, by omega⟩, hx⟩
        have h48' : ¬ ((b : Int) < 48) := by omega
        by_cases h57 : 57 < b
        · have h57' : (57 : Int) < (b : Int) := by omega
          go_wp2
          go_ret2
          exact ⟨numRes (0) false rfl ⟨by omega, by omega⟩, hx⟩
        have h57' : ¬ ((57 : Int) < (b : Int)) := by omega
        have HM : Hid (10 * n + (b - 48) < 10 ^ (k + 1)) := by unfold Hid; have := HN.out; rw [Nat.pow_succ]; omega
        have u1 : ((b : Int) - 48) % 256 = ((b - 48 : Nat) : Int) := by omega
        go_wp2
        go_roundw
        case rel => exact ⟨10 * n + (b - 48), k + 1, by go_num, by go_num, by omega, HM, hx⟩
        case measure => simp [intOf]; omega
      · have hki : ¬ ((k : Int) < (s.size : Int)) := by omega
        go_wp2_with fail
        refine (spec_FormatInt_nat n (by omega) _).mono ?_
        rintro e w5 ⟨rfl, hy5⟩
        obtain ⟨q, hq⟩ : ∃ q, (ByteArray.toList (num n) == s.toList) = q := ⟨_, rfl⟩
        cases q
        · go_wp2
          go_ret2
          exact ⟨numRes (0) false rfl ⟨by omega, by omega⟩, hx.trans hy5⟩
        · go_wp2
          go_ret2
          exact ⟨numRes (n) true rfl ⟨by omega, by omega⟩, hx.trans hy5⟩
set_option maxRecDepth 100000 in
set_option maxHeartbeats 4000000 in
theorem spec_ParseNumber_any (s : ByteArray) (hs : s.size ≤ 2000000) (w : World) : Calls Tryz.prog 11 #[.string s] w fun e w' => NumRes (PN s) e ∧ Ext w w' := by
  by_cases hd : ∃ d : Int, 0 ≤ d ∧ d ≤ 4 ∧ s = dig d
  · obtain ⟨d, h0, h4, rfl⟩ := hd
    refine (spec_ParseNumber_dig d h0 h4 w).mono ?_
    rintro e w' ⟨rfl, hx⟩
    exact ⟨numRes d true rfl (pn_dig d h0 h4), hx⟩
  · have HD : Hid (∀ n ok, 0 ≤ n → n ≤ 999999 → PN s n ok) := fun n ok h0 h9 => ⟨h0, h9, fun d h0 h4 he => absurd ⟨d, h0, h4, he⟩ hd⟩
    clear hd
    go_enter Tryz.func11, Tryz.ntmps11
    go_wp2_with fail
    refine (spec_l1Read_some s hs _).mono ?_
    rintro e w2 ⟨⟨n, ok, rfl, h9, h9'⟩, hx⟩
    cases ok
    · go_wp2
      go_ret2
      exact ⟨numRes 0 false rfl (HD.out _ _ (by omega) (by omega)), hx⟩
    · by_cases hn : n < 0
      · go_wp2
        go_ret2
        exact ⟨numRes 0 false rfl (HD.out _ _ (by omega) (by omega)), hx⟩
      · go_wp2
        go_ret2
        exact ⟨numRes n true rfl (HD.out _ _ (by omega) (by omega)), hx⟩
end Go.Proofs.YteecjnnompjmiacGreatDoor
