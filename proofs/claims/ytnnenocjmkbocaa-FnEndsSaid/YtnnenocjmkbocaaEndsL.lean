/-
  For every code, the law FnEnds returns true: a path through a concatenation of gates is a path through both parts. No condition.
-/
import Derived.Test.YtnnenocjmkbocaaEnds
import Derived.Test.YtnnenocjmkbocaaDrawP
namespace Go.Proofs.Ytnnenocjmkbocaa
open Go.ChangeShapes Go.WideShapes Go.ChangeAt Go.RowKit Go.Deep
set_option linter.unusedVariables false
namespace fnEnds
set_option maxRecDepth 100000 in
set_option maxHeartbeats 4000000 in
theorem walk (A : Option Addr) (n c : Nat) (bs : List Int) (w : World) (h : Rd w w.heap.size 1 A n (u8cs bs)) (hm : n ≤ maxLen) (hb : ∀ g ∈ bs, 0 ≤ g ∧ g ≤ 255) :
    Calls Try.prog 9 #[.slice A n c] w fun e w' => e = .returned (.bool true) ∧ Ext w w' := by
  go_enter Try.func9, Try.ntmps9
  go_wp2_with fail
  refine (big_any A n c _ hm).mono ?_
  rintro e w0 ⟨rfl, rfl⟩
  by_cases hbig : 1048576 < n
  · have hd : decide (1048576 < n) = true := by simpa using hbig
    go_wp2
    go_ret
    exact ⟨rfl, Ext.refl _⟩
  have hd : decide (1048576 < n) = false := by simpa using hbig
  go_wp2_with fail
  refine (DrawPathEnd_any A n c bs _ h (by omega)).mono ?_
  rintro e w1 ⟨L, len, cap, gs, N, i, ch, rfl, hlen, hlc, hcm, hr1, hN, hi, hch, hx1⟩
  have hlg := Lib.hid (hr1.len Gt.cells_len (by omega))
  have h1 := h.up hx1 (Nat.le_refl _)
  clear hd
  go_wp2_with fail
  refine (impl_PathEnd_any L len cap gs N i ch _ hr1 (by omega) hi hch).mono ?_
  rintro e w2 ⟨rfl, hy2⟩
  have hx2 := hx1.trans hy2
  go_wp2_with fail
  refine (spec_PathEnd_any L len cap gs N i ch _ (hr1.ext hy2) (by omega) hi hch).mono ?_
  rintro e w3 ⟨rfl, hy3⟩
  have hx3 := hx2.trans hy3
  have hr3 := (hr1.ext hy2).ext hy3
  have h3 := (h.ext hx1).ext (hy2.trans hy3)
  clear hy2 hy3 hx2
  obtain ⟨a0, ha0⟩ : ∃ a0, a0 = peI gs N i ch := ⟨_, rfl⟩
  obtain ⟨k0, hk0⟩ : ∃ k0, k0 = peJ gs N i ch := ⟨_, rfl⟩
  rw [← ha0, ← hk0]
  have HA := Lib.hid ha0
  have HK := Lib.hid hk0
  clear ha0 hk0
  go_wp2_with fail
  refine (impl_HadamardCount_any L len cap gs _ hr3 (by omega)).mono ?_
  rintro e w4 ⟨rfl, hy4⟩
  go_wp2_with fail
  refine (spec_HadamardCount_any L len cap gs _ (hr3.ext hy4) (by omega)).mono ?_
  rintro e w5 ⟨rfl, hy5⟩
  have hx5 := (hx3.trans hy4).trans hy5
  have hr5 := (hr3.ext hy4).ext hy5
  have h5 := (h3.ext hy4).ext hy5
  clear hy4 hy5 hx3 hr3 h3 hr1 h1
  go_wp2_with fail
  refine (at0_any A n c 3 bs _ h5 hb (by omega) (by omega)).mono ?_
  rintro e w5 ⟨x, rfl, hx, rfl⟩
  obtain ⟨m, em, hml⟩ : ∃ m : Nat, (x : Int) % ((len : Int) + 1) = (m : Int) ∧ m ≤ len := ⟨x % (len + 1), by norm_cast, by have := Nat.mod_lt x (show 0 < len + 1 by omega); omega⟩
  have EM := Lib.hid em
  clear em
  by_cases hc : ch < 0
  · have hP := pe_no (i := i) (by unfold peOk; simp; omega : peOk gs N ch = false)
    obtain rfl : a0 = i := HA.out.trans hP.1
    obtain rfl : k0 = 0 := HK.out.trans hP.2
    clear hP
    go_wp2
    go_ret
    exact ⟨rfl, hx5⟩
  have hc0 : 0 ≤ ch := by omega
  go_wp2_with fail
  refine (impl_HadamardCount_any L len cap gs _ hr5 (by omega)).mono ?_
  rintro e w6 ⟨rfl, hy6⟩
  have hx6 := hx5.trans hy6
  have hr6 := hr5.ext hy6
  clear hy6 hr5 h5 hx5
  obtain ⟨hcn, hHC⟩ : ∃ hcn : Nat, hcn = cntK 4 gs := ⟨_, rfl⟩
  rw [← hHC]
  have HC := Lib.hid hHC
  have hcl : hcn ≤ len := by
    rw [hHC]
    have := cntK_le 4 gs len
    rwa [List.take_of_length_le (by rw [hlg.out]; omega)] at this
  clear hHC
  by_cases h60 : 60 < hcn
  · go_wp2
    all_goals
      go_ret
      exact ⟨rfl, hx6⟩
  go_wp2
  rw [EM.out]
  go_loopw [12] (fun j wr => ∃ k : Nat, k ≤ len ∧ j = .int .i64 k ∧ Hid (vgAll (gs.take k) N = true) ∧ Ext w6 wr) (fun j _ => len - (intOf j).toNat)
  case atStart => exact ⟨0, Nat.zero_le _, rfl, Lib.hid (by simp [vgAll]), Ext.refl _⟩
  case round =>
    obtain ⟨k, hk, rfl, HQ, hy⟩ := hrel
    by_cases hlt : k < len
    · obtain ⟨b, o, g, rfl, hb, hg, r0, r1, r2, r3⟩ := gate_at (hr6.ext hy) hlt
      have HG := Lib.hid hg
      clear hg
      go_wp2_with fail
      refine (spec_IsValidGate_any g N _).mono ?_
      rintro e w7 ⟨rfl, hy7⟩
      clear r0 r1 r2 r3
      cases hv : vg g N
      · have hP := pe_no (i := i) (by unfold peOk; rw [vgAll_no HG.out hv]; rfl : peOk gs N ch = false)
        obtain rfl : a0 = i := HA.out.trans hP.1
        obtain rfl : k0 = 0 := HK.out.trans hP.2
        clear hP
        go_wp2
        go_ret
        exact ⟨rfl, (hx6.trans hy).trans hy7⟩
      · have HF := Lib.hid (vgAll_snoc HG.out HQ.out hv)
        go_wp2
        go_roundw
        case rel => exact ⟨k + 1, by omega, by go_num, HF, hy.trans hy7⟩
        case measure => simp [intOf]; omega
    · rw [List.take_of_length_le (by rw [hlg.out]; omega)] at HQ
      have hrt := Rd.take_ Gt.cells_len (by omega) (hr6.ext hy) hml
      have hrd := Rd.drop_ Gt.cells_len (by omega) (hr6.ext hy) hml hlc
      have hxr := hx6.trans hy
      obtain ⟨a1, ha1⟩ : ∃ a1, a1 = peI (gs.take m) N i ch := ⟨_, rfl⟩
      obtain ⟨k1, hk1⟩ : ∃ k1, k1 = peJ (gs.take m) N i ch := ⟨_, rfl⟩
      have HA1 := Lib.hid ha1
      have HK1 := Lib.hid hk1
      clear ha1 hk1 h
      have hm4 : m ≤ 71 := by omega
      unfold maxLen at hcm
      go_wp2_with fail
      refine (impl_PathEnd_any L m cap (gs.take m) N i ch _ hrt (by omega) hi hch).mono ?_
      rintro e w8 ⟨rfl, hy8⟩
      rw [← HA1.out, ← HK1.out]
      have hr8 := hrt.ext hy8
      have hrd8 := hrd.ext hy8
      have hcnt := cntK_le 4 gs m
      obtain ⟨h1, hh1⟩ : ∃ h1 : Nat, h1 = cntK 4 (gs.take m) := ⟨_, rfl⟩
      have HH1 := Lib.hid hh1
      rw [← hh1] at hcnt
      clear hh1
      have ha1I : I64 a1 := by rw [HA1.out]; exact peI_I hi
      have hs1 : I64 (ch / 2 ^ h1) := shr_I hch
      have q6 : h1 ≤ 60 := by
        have e1 := cntK_app 4 (gs.take m) (gs.drop m)
        rw [List.take_append_drop, ← HC.out, ← HH1.out] at e1
        omega
      have q5 : (h1 : Int) ≤ 60 := by omega
      have q7 : (0 : Int) ≤ (h1 : Int) := by omega
      have q8 : (h1 : Int) < 64 := by omega
      have q1 : (0 : Int) ≤ (m : Int) := by omega
      have q9 : ¬ ((h1 : Int) < 0) := by omega
      have e9 : IntKind.u64.wrap (h1 : Int) = (h1 : Int) := IntWalk.u64_in _ (by omega)
      have e10 : IntKind.i64.wrap (ch / 2 ^ h1) = ch / 2 ^ h1 := IntWalk.i64_in _ hs1
      have q2 : (m : Int) ≤ (len : Int) := by omega
      have q3 : (m : Int) ≤ (cap : Int) := by omega
      have q4 : (len : Int) ≤ (cap : Int) := by omega
      have HCC : Hid (Calls Try.prog 51 #[.slice L m cap] w8.drew fun e w' => e = .returned (.int .i64 h1) ∧ Ext w8.drew w') := by
        unfold Hid
        rw [HH1.out]
        exact spec_HadamardCount_any L m cap (gs.take m) _ (hr8.ext (Ext.refl w8).drew) (by omega)
      have hcat := pe_cat (gs.take m) (gs.drop m) N i ch (by rw [List.take_append_drop]; exact HQ.out) hc0 (by rw [List.take_append_drop, ← HC.out]; omega)
      rw [List.take_append_drop, ← HA1.out, ← HK1.out, ← HH1.out, ← HA.out, ← HK.out] at hcat
      obtain ⟨hB, hJ, u1, u2, u3, u4⟩ := hcat
      obtain ⟨q, hq⟩ : ∃ q, q = peJ (gs.drop m) N a1 (ch / 2 ^ h1) := ⟨_, rfl⟩
      rw [← hq] at hJ u3 u4
      have HB := Lib.hid hB
      have HQ1 := Lib.hid hq
      have HJ : Hid (((k1 + q) % 8 == k0) = true) := by unfold Hid; rw [hJ]; simp
      clear hB hq hJ
      by_cases hcap : cap = m
      · rw [if_pos hcap, show len - m = 0 from by omega] at hrd8
        subst hcap
        go_wp2
        go_region_held3 (fun _ => True) (trivial)
          (first
            | (go_at_call 51; (refine HCC.out.mono ?_); rintro e w9 ⟨rfl, hy9⟩; have hx9 := Ext.trans (Ext.refl w8).drew hy9; have hrd9 := hrd8.ext hx9)
            | (go_at_call 17; (with_reducible refine (impl_PathEnd_any _ 0 _ (gs.drop cap) N a1 (ch / 2 ^ h1) _ hrd9 (by omega) ha1I hs1).mono ?_); rintro e w10 ⟨rfl, hy10⟩; have hx10 := hx9.trans hy10))
        rw [HB.out, ← HQ1.out]
        have hj := HJ.out
        clear e9 e10
        go_wp2
        go_ret
        exact ⟨rfl, (hxr.trans hy8).trans hx10⟩
      · rw [if_neg hcap] at hrd8
        go_wp2
        go_region_held3 (fun _ => True) (trivial)
          (first
            | (go_at_call 51; (refine HCC.out.mono ?_); rintro e w9 ⟨rfl, hy9⟩; have hx9 := Ext.trans (Ext.refl w8).drew hy9; have hrd9 := hrd8.ext hx9)
            | (go_at_call 17; (with_reducible refine (impl_PathEnd_any _ (len - m) _ (gs.drop m) N a1 (ch / 2 ^ h1) _ hrd9 (by omega) ha1I hs1).mono ?_); rintro e w10 ⟨rfl, hy10⟩; have hx10 := hx9.trans hy10))
        rw [HB.out, ← HQ1.out]
        have hj := HJ.out
        clear e9 e10
        go_wp2
        go_ret
        exact ⟨rfl, (hxr.trans hy8).trans hx10⟩
set_option maxRecDepth 100000 in
theorem lifted (os : Os) (started : os.Started) (H : Type) (enc : TypeId × Value → H) :
    ReturnsInHanded {} Try.checked os 9 .any (Rows.fnEndsSpec.pre6 enc Try.prog Try.f9 Rows.fnEndsRow.domain false) (Rows.fnEndsSpec.post enc Try.prog Try.f9 false true false false) := by
  refine returnsInHanded_of_change (C := Try.checked) own started (by kernel_rfl) Try.func9
    (ChangeSpec.witness6 (enc := enc) (C := Try.checked) false ⟨#[], #[.slice none 0 0], []⟩ 8 (by kernel_rfl) (by kernel_rfl) (by kernel_rfl) (by kernel_rfl)) ?_
  intro W base args ds gs before hval0 hW hcnd _
  have hval : ∀ (j : Nat) t v, Try.f9.params[j]? = some t → args[j]? = some v → Value.okWide Try.prog W .any base t v := hval0
  have hW' := hW
  obtain ⟨p, q, hA0, hV, rfl, hfz, hnd⟩ := hW
  have hA : DataW.TrodAll enc Try.prog W 0 (fun _ => true) true Try.f9.params.toList args.toList ds p := hA0
  rw [Try.params9] at hA hval
  obtain ⟨v0, vs0, d0, ds0, p0, q0, hargs, rfl, rfl, h0, r0⟩ := trodAll_cons hA
  obtain ⟨rfl, rfl, rfl⟩ := trodAll_nil r0
  obtain rfl : args = #[v0] := by cases args; simp_all
  clear hA0 hval0 hfz hnd hV hcnd
  obtain ⟨A, n, c, bs, rfl, hnc0, hcm0, hr0, hok0⟩ := open_lbytes (hval 0 _ v0 rfl rfl) h0
  refine (walk A n c bs W hr0 (by omega) hok0).mono fun e W' ⟨he, hx⟩ => ?_
  subst he
  exact ⟨_, rfl, law_post rfl (by rw [Try.params9]; decide +kernel) rfl hW' rfl rfl rfl hx⟩

theorem over : Rows.fnEndsRow.holds Try.pinned (OpenSpec.ofChange Rows.fnEndsSpec) :=
  OpenClaim.holds_of_wide 9 Try.f9 rfl rfl rfl rfl rfl rfl rfl ⟨rfl, rfl, rfl, rfl, rfl⟩ rfl rfl rfl rfl rfl (by kernel_rfl) Try.func9 (by kernel_rfl)
    (of_decide_eq_true (by kernel_rfl)) (by unfold Func.isWrapper; first | (rw [if_pos (by decide +kernel)]; kernel_rfl) | (rw [if_neg (by decide +kernel)]; exact ⟨rfl, rfl⟩))
    (fun os started H enc _ => lifted os started H enc)

/-- The statement. -/
theorem proved : Rows.FnEndsSaid := over
#print axioms proved

end fnEnds
end Go.Proofs.Ytnnenocjmkbocaa
