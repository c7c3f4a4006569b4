/-
  Helper text (no claim of its own): a number read out of a text, by the program.
-/
import Derived.Test.YteecjnnompjmiacGreatDoorPw
import Derived.Test.YteecjnnompjmiacGreatDoorPnS
namespace Go.Proofs.YteecjnnompjmiacGreatDoor
open Go.ChangeShapes Go.WideShapes Go.ChangeAt Go.RowKit Go.Deep
set_option linter.unusedVariables false
set_option linter.unusedSimpArgs false
set_option maxRecDepth 100000 in
set_option maxHeartbeats 4000000 in
theorem impl_ParseNumber_dig (d : Int) (h0 : 0 ≤ d) (h4 : d ≤ 4) (w : World) : Calls Tryz.prog 32 #[.string (dig d)] w fun e w' => e = .returned (.tuple #[.int .i64 d, .bool true]) ∧ Ext w w' := by
  rcases (by omega : d = 0 ∨ d = 1 ∨ d = 2 ∨ d = 3 ∨ d = 4) with rfl | rfl | rfl | rfl | rfl
  · have HA : Hid (∀ w', Calls Tryz.prog 66 #[.string (dig 0)] w' fun e w'' => e = .returned (.tuple #[.int .i64 0, .nilIface]) ∧ Ext w' w'') := by
      intro w'
      refine (Tryz.strconv_Atoi (dig 0) 0 (by decide) (by rfl) w').mono ?_
      rintro e w'' ⟨rfl, t, rfl⟩
      exact ⟨rfl, bytesWorld_ext _ _ _⟩
    have HI : Hid (∀ w', Calls Tryz.prog 57 #[.int .i64 0] w' fun e w'' => e = .returned (.string (dig 0)) ∧ Ext w' w'') := by
      intro w'
      refine (Tryz.strconv_Itoa_small 0 (by decide) w').mono ?_
      rintro e w'' ⟨rfl, rfl⟩
      exact ⟨ret_str (by rw [dec_lt (by decide)]; rfl), Ext.refl _⟩
    have HL : Hid (∀ w', Calls Tryz.prog 48 #[.string (dig 0), .int .i64 0, .int .i64 999999] w' fun e w'' => e = .returned (.tuple #[.int .i64 0, .bool true]) ∧ Ext w' w'') := by
      intro w'
      go_enter Tryz.func48, Tryz.ntmps48
      go_wp2_with fail
      refine (HA.out _).mono ?_
      rintro e w2 ⟨rfl, hx⟩
      have hq : ((dig 0).toList == (dig 0).toList) = true := by simp
      go_wp2_with (go_at_call 57; (with_reducible refine (HI.out _).mono ?_); rintro e w3 ⟨rfl, hx3⟩)
      go_ret2
      exact ⟨rfl, hx.trans hx3⟩
    go_enter Tryz.func32, Tryz.ntmps32
    go_wp2_with (go_at_call 48; refine (HL.out _).mono ?_; rintro e w5 ⟨rfl, hy5⟩)
    go_ret2
    exact ⟨rfl, hy5⟩
  · have HA : Hid (∀ w', Calls Tryz.prog 66 #[.string (dig 1)] w' fun e w'' => e = .returned (.tuple #[.int .i64 1, .nilIface]) ∧ Ext w' w'') := by
      intro w'
      refine (Tryz.strconv_Atoi (dig 1) 1 (by decide) (by rfl) w').mono ?_
      rintro e w'' ⟨rfl, t, rfl⟩
      exact ⟨rfl, bytesWorld_ext _ _ _⟩
    have HI : Hid (∀ w', Calls Tryz.prog 57 #[.int .i64 1] w' fun e w'' => e = .returned (.string (dig 1)) ∧ Ext w' w'') := by
      intro w'
      refine (Tryz.strconv_Itoa_small 1 (by decide) w').mono ?_
      rintro e w'' ⟨rfl, rfl⟩
      exact ⟨ret_str (by rw [dec_lt (by decide)]; rfl), Ext.refl _⟩
    have HL : Hid (∀ w', Calls Tryz.prog 48 #[.string (dig 1), .int .i64 0, .int .i64 999999] w' fun e w'' => e = .returned (.tuple #[.int .i64 1, .bool true]) ∧ Ext w' w'') := by
      intro w'
      go_enter Tryz.func48, Tryz.ntmps48
      go_wp2_with fail
      refine (HA.out _).mono ?_
      rintro e w2 ⟨rfl, hx⟩
      have hq : ((dig 1).toList == (dig 1).toList) = true := by simp
      go_wp2_with (go_at_call 57; (with_reducible refine (HI.out _).mono ?_); rintro e w3 ⟨rfl, hx3⟩)
      go_ret2
      exact ⟨rfl, hx.trans hx3⟩
    go_enter Tryz.func32, Tryz.ntmps32
    go_wp2_with (go_at_call 48; refine (HL.out _).mono ?_; rintro e w5 ⟨rfl, hy5⟩)
    go_ret2
    exact ⟨rfl, hy5⟩
  · have HA : Hid (∀ w', Calls Tryz.prog 66 #[.string (dig 2)] w' fun e w'' => e = .returned (.tuple #[.int .i64 2, .nilIface]) ∧ Ext w' w'') := by
      intro w'
      refine (Tryz.strconv_Atoi (dig 2) 2 (by decide) (by rfl) w').mono ?_
      rintro e w'' ⟨rfl, t, rfl⟩
      exact ⟨rfl, bytesWorld_ext _ _ _⟩
    have HI : Hid (∀ w', Calls Tryz.prog 57 #[.int .i64 2] w' fun e w'' => e = .returned (.string (dig 2)) ∧ Ext w' w'') := by
      intro w'
      refine (Tryz.strconv_Itoa_small 2 (by decide) w').mono ?_
      rintro e w'' ⟨rfl, rfl⟩
      exact ⟨ret_str (by rw [dec_lt (by decide)]; rfl), Ext.refl _⟩
    have HL : Hid (∀ w', Calls Tryz.prog 48 #[.string (dig 2), .int .i64 0, .int .i64 999999] w' fun e w'' => e = .returned (.tuple #[.int .i64 2, .bool true]) ∧ Ext w' w'') := by
      intro w'
      go_enter Tryz.func48, Tryz.ntmps48
      go_wp2_with fail
      refine (HA.out _).mono ?_
      rintro e w2 ⟨rfl, hx⟩
      have hq : ((dig 2).toList == (dig 2).toList) = true := by simp
      go_wp2_with (go_at_call 57; (with_reducible refine (HI.out _).mono ?_); rintro e w3 ⟨rfl, hx3⟩)
      go_ret2
      exact ⟨rfl, hx.trans hx3⟩
    go_enter Tryz.func32, Tryz.ntmps32
    go_wp2_with (go_at_call 48; refine (HL.out _).mono ?_; rintro e w5 ⟨rfl, hy5⟩)
    go_ret2
    exact ⟨rfl, hy5⟩
  · have HA : Hid (∀ w', Calls Tryz.prog 66 #[.string (dig 3)] w' fun e w'' => e = .returned (.tuple #[.int .i64 3, .nilIface]) ∧ Ext w' w'') := by
      intro w'
      refine (Tryz.strconv_Atoi (dig 3) 3 (by decide) (by rfl) w').mono ?_
      rintro e w'' ⟨rfl, t, rfl⟩
      exact ⟨rfl, bytesWorld_ext _ _ _⟩
    have HI : Hid (∀ w', Calls Tryz.prog 57 #[.int .i64 3] w' fun e w'' => e = .returned (.string (dig 3)) ∧ Ext w' w'') := by
      intro w'
      refine (Tryz.strconv_Itoa_small 3 (by decide) w').mono ?_
      rintro e w'' ⟨rfl, rfl⟩
      exact ⟨ret_str (by rw [dec_lt (by decide)]; rfl), Ext.refl _⟩
    have HL : Hid (∀ w', Calls Tryz.prog 48 #[.string (dig 3), .int .i64 0, .int .i64 999999] w' fun e w'' => e = .returned (.tuple #[.int .i64 3, .bool true]) ∧ Ext w' w'') := by
      intro w'
      go_enter Tryz.func48, Tryz.ntmps48
      go_wp2_with fail
      refine (HA.out _).mono ?_
      rintro e w2 ⟨rfl, hx⟩
      have hq : ((dig 3).toList == (dig 3).toList) = true := by simp
      go_wp2_with (go_at_call 57; (with_reducible refine (HI.out _).mono ?_); rintro e w3 ⟨rfl, hx3⟩)
      go_ret2
      exact ⟨rfl, hx.trans hx3⟩
    go_enter Tryz.func32, Tryz.ntmps32
    go_wp2_with (go_at_call 48; refine (HL.out _).mono ?_; rintro e w5 ⟨rfl, hy5⟩)
    go_ret2
    exact ⟨rfl, hy5⟩
  · have HA : Hid (∀ w', Calls Tryz.prog 66 #[.string (dig 4)] w' fun e w'' => e = .returned (.tuple #[.int .i64 4, .nilIface]) ∧ Ext w' w'') := by
      intro w'
      refine (Tryz.strconv_Atoi (dig 4) 4 (by decide) (by rfl) w').mono ?_
      rintro e w'' ⟨rfl, t, rfl⟩
      exact ⟨rfl, bytesWorld_ext _ _ _⟩
    have HI : Hid (∀ w', Calls Tryz.prog 57 #[.int .i64 4] w' fun e w'' => e = .returned (.string (dig 4)) ∧ Ext w' w'') := by
      intro w'
      refine (Tryz.strconv_Itoa_small 4 (by decide) w').mono ?_
      rintro e w'' ⟨rfl, rfl⟩
      exact ⟨ret_str (by rw [dec_lt (by decide)]; rfl), Ext.refl _⟩
    have HL : Hid (∀ w', Calls Tryz.prog 48 #[.string (dig 4), .int .i64 0, .int .i64 999999] w' fun e w'' => e = .returned (.tuple #[.int .i64 4, .bool true]) ∧ Ext w' w'') := by
      intro w'
      go_enter Tryz.func48, Tryz.ntmps48
      go_wp2_with fail
      refine (HA.out _).mono ?_
      rintro e w2 ⟨rfl, hx⟩
      have hq : ((dig 4).toList == (dig 4).toList) = true := by simp
      go_wp2_with (go_at_call 57; (with_reducible refine (HI.out _).mono ?_); rintro e w3 ⟨rfl, hx3⟩)
      go_ret2
      exact ⟨rfl, hx.trans hx3⟩
    go_enter Tryz.func32, Tryz.ntmps32
    go_wp2_with (go_at_call 48; refine (HL.out _).mono ?_; rintro e w5 ⟨rfl, hy5⟩)
    go_ret2
    exact ⟨rfl, hy5⟩
set_option maxRecDepth 100000 in
set_option maxHeartbeats 4000000 in
theorem impl_parse_some (s : ByteArray) (hs : s.size ≤ 2000000000000) (w : World) (hw : PW w) : Calls Tryz.prog 48 #[.string s, .int .i64 0, .int .i64 999999] w fun e w' => NumRes (fun n _ => n ≤ 999999 ∧ 0 ≤ n) e ∧ Ext w w' := by
  have HC : Hid (∀ w', Ext w w' → Calls Tryz.prog 66 #[.string s] w' fun e w'' => AtoiEnd e ∧ Ext w' w'') := fun w' hx => atoi_any s hs w' (hw.ext hx)
  have HP : Hid (∀ w', Ext w w' → Pow w') := fun w' hx => pow_ext hw.pow hx
  clear hw
  go_enter Tryz.func48, Tryz.ntmps48
  go_wp2_with fail
  refine (HC.out _ (by repeat (first | exact Ext.refl _ | assumption | refine Ext.alloc ?_ _ | refine Ext.drewN ?_ _ | refine Ext.drew ?_))).mono ?_
  rintro e w2 ⟨⟨n, er, rfl, b0, b1, hr⟩, hx⟩
  rcases hr with rfl | ⟨t, p, rfl⟩
  · by_cases hn : n < 0
    · go_wp2
      go_ret2
      exact ⟨numRes 0 false rfl ⟨by omega, by omega⟩, hx⟩
    by_cases h9 : 999999 < n
    · go_wp2
      go_ret2
      exact ⟨numRes 0 false rfl ⟨by omega, by omega⟩, hx⟩
    have HI : Hid (∀ w', Ext w2 w' → Calls Tryz.prog 57 #[.int .i64 n] w' fun e w'' => (∃ t, e = .returned (.string t)) ∧ Ext w' w'') := by
      intro w' hx'
      refine (Tryz.strconv_Itoa n b0 b1 w' (HP.out _ (hx.trans hx'))).mono ?_
      rintro e w'' ⟨rfl, k, os, rfl⟩
      exact ⟨⟨_, rfl⟩, ((Ext.refl _).drewN _).growN _⟩
    go_wp2_with (go_at_call 57; (with_reducible refine (HI.out _ (Ext.refl _)).mono ?_); rintro e w3 ⟨⟨tt, rfl⟩, hx3⟩; obtain ⟨q, hq⟩ : ∃ q, (tt.toList == s.toList) = q := ⟨_, rfl⟩; cases q)
    · go_ret2
      exact ⟨numRes 0 false rfl ⟨by omega, by omega⟩, hx.trans hx3⟩
    · go_ret2
      exact ⟨numRes n true rfl ⟨by omega, by omega⟩, hx.trans hx3⟩
  · go_wp2
    go_ret2
    exact ⟨numRes 0 false rfl ⟨by omega, by omega⟩, hx⟩
set_option maxRecDepth 100000 in
set_option maxHeartbeats 4000000 in
theorem impl_ParseNumber_any (s : ByteArray) (hs : s.size ≤ 2000000000000) (w : World) (hw : PW w) : Calls Tryz.prog 32 #[.string s] w fun e w' => NumRes (PN s) e ∧ Ext w w' := by
  by_cases hd : ∃ d : Int, 0 ≤ d ∧ d ≤ 4 ∧ s = dig d
  · obtain ⟨d, h0, h4, rfl⟩ := hd
    refine (impl_ParseNumber_dig d h0 h4 w).mono ?_
    rintro e w' ⟨rfl, hx⟩
    exact ⟨numRes d true rfl (pn_dig d h0 h4), hx⟩
  · have HD : Hid (∀ n ok, 0 ≤ n → n ≤ 999999 → PN s n ok) := fun n ok h0 h9 => ⟨h0, h9, fun d h0 h4 he => absurd ⟨d, h0, h4, he⟩ hd⟩
    clear hd
    go_enter Tryz.func32, Tryz.ntmps32
    go_wp2_with fail
    refine (impl_parse_some s hs _ hw).mono ?_
    rintro e w2 ⟨⟨n, ok, rfl, h9, h0⟩, hx⟩
    go_wp2
    go_ret2
    exact ⟨numRes n ok rfl (HD.out _ _ (by omega) (by omega)), hx⟩
end Go.Proofs.YteecjnnompjmiacGreatDoor
