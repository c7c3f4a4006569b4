/-
  For every code, the law FnGroup returns true: a group has a single condition and is maximal. No condition.
-/
import Derived.Test.YtnemoemdanidbaaGrc
import Derived.Test.YtnemoemdanidbaaDrawK
import Derived.Test.YtnemoemdanidbaaDrawP
namespace Go.Proofs.Ytnemoemdanidbaa
open Go.ChangeShapes Go.WideShapes Go.ChangeAt Go.RowKit Go.Deep
set_option linter.unusedVariables false
namespace fnGroup
/-- What DrawGroupEnd hands back. -/
def DrewGe (w : World) (e : Ending) (w' : World) : Prop :=
  ∃ (A : Option Addr) (len cap : Nat) (xs : List Oq) (i : Int), e = .returned (.tuple #[.slice A len cap, .int .i64 i]) ∧ len ≤ 129 ∧ Rd w' w'.heap.size 8 A len (ocells xs) ∧ (-1 ≤ i ∧ i ≤ 129) ∧ Ext w w'
set_option maxRecDepth 100000 in
set_option maxHeartbeats 1000000 in
theorem DrawGroupEnd_any (A : Option Addr) (n c : Nat) (bs : List Int) (w : World) (h : Rd w w.heap.size 1 A n (u8cs bs)) (hn : n ≤ 1048576) :
    Calls Try.prog 9 #[.slice A n c] w (DrewGe w) := by
  have hfld : ∀ (a b c d : Value) (w : World), (Instr.field 74 (.agg #[a, b, c, d]) 3).run Try.prog w = .ok d w := fun a b c d w => by kernel_rfl
  go_enter Try.func9, Try.ntmps9
  go_wp2_with fail
  refine (l1New_any A n c bs _ h hn).mono ?_
  rintro e w1 ⟨rfl, hC1, hx1⟩
  obtain ⟨g, hg⟩ : ∃ g, g = w.heap.size := ⟨_, rfl⟩
  rw [← hg] at hC1 ⊢
  have hgw : w.heap.size ≤ g := by omega
  clear hg
  go_wp2_with fail
  refine (l21Bent_any g 8 (by omega) _ hC1).mono ?_
  rintro e w2 ⟨N, I, B, A2, len, cap, xs, rfl, _, hlen, ho2, hC2, hG2⟩
  have hx2 : Ext w w2 := hx1.grown hG2 (fun k hk => by injection hk; omega)
  have hg1 : g < w1.heap.size := hC1.lt
  have hg2 : g < w2.heap.size := hC2.lt
  go_wp2_with fail
  refine (l1PickInt_any g _ 6 _ [0, 1, 2, 5, (len : Int), -1] _ (hC2.alloc _) (rd_newN w2 _ _ _ 6 1 _ rfl rfl rfl) (by intro b o e; injection e with e; injection e with e1; omega) (by omega)).mono ?_
  rintro e w3 ⟨q, rfl, hq, hC3, hG3⟩
  have hq2 : -1 ≤ q ∧ q ≤ 129 := by simp at hq; omega
  have hx3 : Ext w w3 := (hx2.alloc _).grown hG3 (fun k hk => by injection hk; omega)
  have ho3 := own_kept (own_ext ho2 ((Ext.refl w2).alloc _)) hG3 (fun k hk => by injection hk; omega)
  have HR := Lib.hid (Rd.own ho3)
  clear ho2 ho3 hq
  go_wp2
  exact bodyPost_ret (v := .tuple #[.slice A2 len cap, .int .i64 q]) (by simp [results, Try.results9, go_sem]) rfl ⟨A2, len, cap, xs, q, rfl, by omega, HR.out, hq2, hx3⟩
set_option maxRecDepth 100000 in
set_option maxHeartbeats 4000000 in
theorem walk (A : Option Addr) (n c : Nat) (bs : List Int) (w : World) (h : Rd w w.heap.size 1 A n (u8cs bs)) (hm : n ≤ maxLen) (hb : ∀ g ∈ bs, 0 ≤ g ∧ g ≤ 255) :
    Calls Try.prog 3 #[.slice A n c] w fun e w' => e = .returned (.bool true) ∧ Ext w w' := by
  go_enter Try.func3, Try.ntmps3
  go_wp2_with fail
  refine (big_any A n c _ hm).mono ?_
  rintro e w0 ⟨rfl, rfl⟩
  by_cases hbig : 1048576 < n
  · have hd : decide (1048576 < n) = true := by simpa using hbig
    go_wp2
    go_ret
    exact ⟨rfl, Ext.refl _⟩
  have hd : decide (1048576 < n) = false := by simpa using hbig
  go_wp2_with fail
  refine (DrawGroupEnd_any A n c bs _ h (by omega)).mono ?_
  rintro e w1 ⟨L, len, cap, xs, i, rfl, hlen, hr1, hi, hx1⟩
  obtain ⟨hi1, hi2⟩ := hi
  have HLG := Lib.hid (hr1.len Oq.cells_len (by omega))
  clear hd
  obtain ⟨k, hk⟩ : ∃ k, k = grpEnd xs i := ⟨_, rfl⟩
  have HK := Lib.hid hk
  clear hk
  go_wp2_with fail
  refine (impl_GroupEnd_any L len cap xs i _ hr1 (by omega) (by unfold I64; omega)).mono ?_
  rintro e w2 ⟨rfl, hy2⟩
  rw [← HK.out]
  go_wp2_with fail
  refine (spec_GroupEnd_any L len cap xs i _ (hr1.ext hy2) (by omega) (by unfold I64; omega)).mono ?_
  rintro e w3 ⟨rfl, hy3⟩
  rw [← HK.out]
  have hx3 := (hx1.trans hy2).trans hy3
  have hr3 := (hr1.ext hy2).ext hy3
  clear hr1 hy2 hy3 hx1
  by_cases hin : 0 ≤ i ∧ i < len
  · obtain ⟨hi0, hil⟩ := hin
    obtain ⟨j, rfl⟩ := Int.eq_ofNat_of_zero_le hi0
    have hj : j < len := by omega
    obtain ⟨b, o, x, rfl, hbb, hx, r0, r1, r2, r3, r4, r5, r6, r7⟩ := op_at hr3 hj
    have HX := Lib.hid hx
    clear hx r1 r2 r3 r4 r5 r6
    cases hk1 : (x.k == 1)
    · have hk1' : (x.k != 1) = true := by simp [bne, hk1]
      obtain rfl : k = (j : Int) := HK.out.trans (grpEnd_no HX.out hk1)
      go_wp2
      go_ret
      exact ⟨rfl, hx3⟩
    · have hk1' : (x.k != 1) = false := by simp [bne, hk1]
      have hke := HK.out.trans (grpEnd_yes HX.out hk1)
      have hge := grpRun_ge xs x.cond (j + 1)
      have hle : grpRun xs x.cond (j + 1) ≤ len := by rw [← HLG.out]; exact grpRun_le xs _ _ (by rw [HLG.out]; omega)
      obtain ⟨m, hmm⟩ : ∃ m, m = grpRun xs x.cond (j + 1) := ⟨_, rfl⟩
      rw [← hmm] at hke hge hle
      have HM := Lib.hid hmm
      clear hmm
      obtain rfl : k = (m : Int) := hke
      have d1 : decide ((j : Int) < 0) = false := by simp
      have d2 : decide (len ≤ j) = false := by simp [hj]
      go_wp2
      go_loopw [6] (fun v wr => ∃ q : Nat, j ≤ q ∧ q ≤ m ∧ v = .int .i64 q ∧ ∃ z, wr = w3.drewN z) (fun v _ => m - (intOf v).toNat)
      case atStart => exact ⟨j, Nat.le_refl _, by omega, rfl, 0, rfl⟩
      case round =>
        obtain ⟨q, hq1, hq2, rfl, z, rfl⟩ := hrel
        by_cases hlt : q < m
        · have hok : ∃ y, xs[q]? = some y ∧ (y.k == 1) = true ∧ (y.cond == x.cond) = true := by
            by_cases hqj : q = j
            · subst hqj
              exact ⟨x, HX.out, hk1, by simp⟩
            · exact grpRun_in (j := j + 1) (by omega) (by rw [← HM.out]; exact hlt)
          obtain ⟨b', o', y, e1, hb', hy, s0, s1, s2, s3, s4, s5, s6, s7⟩ := op_at hr3 (show q < len by omega)
          injection e1 with e1
          injection e1 with e1 e2
          subst e1 e2
          obtain ⟨y', hy', hyk, hyc⟩ := hok
          rw [hy] at hy'
          injection hy' with hy'
          subst hy'
          have hyk' : (y.k != 1) = false := by simp [bne, hyk]
          have hyc' : (y.cond != x.cond) = false := by simp [bne, hyc]
          clear hy s1 s2 s3 s4 s5 s6
          go_wp2
          go_quiet (fail)
          go_wp2
          go_roundw
          case rel => first | exact ⟨q + 1, by omega, by omega, by go_num, _, rfl⟩ | ((repeat apply Exists.intro); exact ⟨⟨q + 1, by omega, by omega, by go_num, _, rfl⟩, rfl⟩)
          case measure => simp [intOf]; omega
        · obtain rfl : q = m := by omega
          have hmj : j < q := by omega
          by_cases hml : q = len
          · subst hml
            go_wp2
            go_quiet (fail)
            go_wp2
            go_ret
            exact ⟨rfl, (by repeat (first | exact Ext.refl _ | assumption | refine Ext.alloc ?_ _ | refine Ext.drewN ?_ _ | refine Ext.drew ?_))⟩
          · have hout := grpRun_out (xs := xs) (c := x.cond) (j := j + 1) (by rw [HLG.out]; omega) (by rw [← HM.out, HLG.out]; exact hml)
            rw [← HM.out] at hout
            obtain ⟨b', o', y, e1, hb', hy, s0, s1, s2, s3, s4, s5, s6, s7⟩ := op_at hr3 (show q < len by omega)
            injection e1 with e1
            injection e1 with e1 e2
            subst e1 e2
            obtain ⟨y', hy', hyo⟩ := hout
            rw [hy] at hy'
            injection hy' with hy'
            subst hy'
            have hne : ((q : Int) == (len : Int)) = false := by simp; omega
            clear hy s1 s2 s3 s4 s5 s6
            cases hyk : (y.k == 1)
            · have hyk' : (y.k != 1) = true := by simp [bne, hyk]
              clear hyo
              go_wp2
              go_quiet (fail)
              go_wp2
              go_ret
              exact ⟨rfl, (by repeat (first | exact Ext.refl _ | assumption | refine Ext.alloc ?_ _ | refine Ext.drewN ?_ _ | refine Ext.drew ?_))⟩
            · have hyk' : (y.k != 1) = false := by simp [bne, hyk]
              have hyc' : (y.cond != x.cond) = true := by rw [hyk] at hyo; simpa [bne] using hyo
              clear hyo
              go_wp2
              go_quiet (fail)
              go_wp2
              go_ret
              exact ⟨rfl, (by repeat (first | exact Ext.refl _ | assumption | refine Ext.alloc ?_ _ | refine Ext.drewN ?_ _ | refine Ext.drew ?_))⟩
  · obtain rfl : k = i := HK.out.trans (grpEnd_out (by rw [HLG.out]; exact hin))
    by_cases h0 : k < 0
    · go_wp2
      go_ret
      exact ⟨rfl, hx3⟩
    · have hge : (len : Int) ≤ k := by omega
      go_wp2
      go_ret
      exact ⟨rfl, hx3⟩
set_option maxRecDepth 100000 in
theorem lifted (os : Os) (started : os.Started) (H : Type) (enc : TypeId × Value → H) :
    ReturnsInHanded {} Try.checked os 3 .any (Rows.fnGroupSpec.pre6 enc Try.prog Try.f3 Rows.fnGroupRow.domain false) (Rows.fnGroupSpec.post enc Try.prog Try.f3 false true false false) := by
  refine returnsInHanded_of_change (C := Try.checked) own started (by kernel_rfl) Try.func3
    (ChangeSpec.witness6 (enc := enc) (C := Try.checked) false ⟨#[], #[.slice none 0 0], []⟩ 8 (by kernel_rfl) (by kernel_rfl) (by kernel_rfl) (by kernel_rfl)) ?_
  intro W base args ds gs before hval0 hW hcnd _
  have hval : ∀ (j : Nat) t v, Try.f3.params[j]? = some t → args[j]? = some v → Value.okWide Try.prog W .any base t v := hval0
  have hW' := hW
  obtain ⟨p, q, hA0, hV, rfl, hfz, hnd⟩ := hW
  have hA : DataW.TrodAll enc Try.prog W 0 (fun _ => true) true Try.f3.params.toList args.toList ds p := hA0
  rw [Try.params3] at hA hval
  obtain ⟨v0, vs0, d0, ds0, p0, q0, hargs, rfl, rfl, h0, r0⟩ := trodAll_cons hA
  obtain ⟨rfl, rfl, rfl⟩ := trodAll_nil r0
  obtain rfl : args = #[v0] := by cases args; simp_all
  clear hA0 hval0 hfz hnd hV hcnd
  obtain ⟨A, n, c, bs, rfl, hnc0, hcm0, hr0, hok0⟩ := open_lbytes (hval 0 _ v0 rfl rfl) h0
  refine (walk A n c bs W hr0 (by omega) hok0).mono fun e W' ⟨he, hx⟩ => ?_
  subst he
  exact ⟨_, rfl, law_post rfl (by rw [Try.params3]; decide +kernel) rfl hW' rfl rfl rfl hx⟩

theorem over : Rows.fnGroupRow.holds Try.pinned (OpenSpec.ofChange Rows.fnGroupSpec) :=
  OpenClaim.holds_of_wide 3 Try.f3 rfl rfl rfl rfl rfl rfl rfl ⟨rfl, rfl, rfl, rfl, rfl⟩ rfl rfl rfl rfl rfl (by kernel_rfl) Try.func3 (by kernel_rfl)
    (of_decide_eq_true (by kernel_rfl)) (by unfold Func.isWrapper; first | (rw [if_pos (by decide +kernel)]; kernel_rfl) | (rw [if_neg (by decide +kernel)]; exact ⟨rfl, rfl⟩))
    (fun os started H enc _ => lifted os started H enc)

/-- The statement. -/
theorem proved : Rows.FnGroupSaid := over
#print axioms proved

end fnGroup
end Go.Proofs.Ytnemoemdanidbaa
