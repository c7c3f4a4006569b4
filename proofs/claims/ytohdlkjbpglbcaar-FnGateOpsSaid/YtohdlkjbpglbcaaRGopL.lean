/-
  For every code, the law FnGateOps returns true: GateOps contains the gates in order with the given condition. No condition.
-/
import Derived.Test.YtohdlkjbpglbcaaRGops
import Derived.Test.YtohdlkjbpglbcaaROpg
import Derived.Test.YtohdlkjbpglbcaaRCmq
import Derived.Test.YtohdlkjbpglbcaaRDrawP
namespace Go.Proofs.YtohdlkjbpglbcaaR
open Go.ChangeShapes Go.WideShapes Go.ChangeAt Go.RowKit Go.Deep
set_option linter.unusedVariables false
theorem opGates_gops (gs : List Gt) (c : Int) : opGates (gops gs c) = gs := by
  unfold opGates gops
  induction gs with
  | nil => rfl
  | cons g l ih => simp [gop] at ih ⊢; exact ih
namespace fnGateOps
/-- What DrawGateOps hands back. -/
def DrewGo (w : World) (e : Ending) (w' : World) : Prop :=
  ∃ (A : Option Addr) (len cap : Nat) (gs : List Gt) (q : Int), e = .returned (.tuple #[.slice A len cap, .int .i64 q]) ∧ len ≤ 4 ∧ Rd w' w'.heap.size 4 A len (gcells gs) ∧ Ext w w'
set_option maxRecDepth 100000 in
set_option maxHeartbeats 1000000 in
theorem DrawGateOps_any (A : Option Addr) (n c : Nat) (bs : List Int) (w : World) (h : Rd w w.heap.size 1 A n (u8cs bs)) (hn : n ≤ 1048576) :
    Calls Try.prog 7 #[.slice A n c] w (DrewGo w) := by
  have hfld : ∀ (a b : Value) (w : World), (Instr.field 45 (.agg #[a, b]) 1).run Try.prog w = .ok b w := fun a b w => by kernel_rfl
  go_enter Try.func7, Try.ntmps7
  go_wp2_with fail
  refine (l1New_any A n c bs _ h hn).mono ?_
  rintro e w1 ⟨rfl, hC1, hx1⟩
  obtain ⟨g, hg⟩ : ∃ g, g = w.heap.size := ⟨_, rfl⟩
  rw [← hg] at hC1 ⊢
  have hgw : w.heap.size ≤ g := by omega
  clear hg
  go_wp2_with fail
  refine (l11Right_any g 3 4 (by omega) (by omega) _ hC1).mono ?_
  rintro e w2 ⟨A2, len, cap, gs, rfl, hlen, ho2, hC2, hG2⟩
  have hx2 : Ext w w2 := hx1.grown hG2 (fun k hk => by injection hk; omega)
  have hg1 : g < w1.heap.size := hC1.lt
  go_wp2_with fail
  refine (l1Below_any g 4 _ hC2 (by omega)).mono ?_
  rintro e w3 ⟨q, rfl, _, hC3, hG3⟩
  have hx3 : Ext w w3 := hx2.grown hG3 (fun k hk => by injection hk; omega)
  have ho3 := own_kept ho2 hG3 (fun k hk => by injection hk; omega)
  have HR := Lib.hid (Rd.own ho3)
  clear ho2 ho3
  go_wp2
  exact bodyPost_ret (v := .tuple #[.slice A2 len cap, .int .i64 q]) (by simp [results, Try.results7, go_sem]) rfl ⟨A2, len, cap, gs, q, rfl, hlen, HR.out, hx3⟩
set_option maxRecDepth 100000 in
set_option maxHeartbeats 4000000 in
theorem walk (A : Option Addr) (n c : Nat) (bs : List Int) (w : World) (h : Rd w w.heap.size 1 A n (u8cs bs)) (hm : n ≤ maxLen) (hb : ∀ g ∈ bs, 0 ≤ g ∧ g ≤ 255) :
    Calls Try.prog 3 #[.slice A n c] w fun e w' => e = .returned (.bool true) ∧ Ext w w' := by
  go_enter Try.func3, Try.ntmps3
  go_wp2_with fail
  refine (big_any A n c _ hm).mono ?_
  rintro e w0 ⟨rfl, rfl⟩
  by_cases hbig : 1048576 < n
  · have hd : decide (1048576 < n) = true := by simpa using hbig
    go_wp2
    go_ret
    exact ⟨rfl, Ext.refl _⟩
  have hd : decide (1048576 < n) = false := by simpa using hbig
  go_wp2_with fail
  refine (DrawGateOps_any A n c bs _ h (by omega)).mono ?_
  rintro e w1 ⟨L, len, cap, gs, q, rfl, hlen, hr1, hx1⟩
  have hgl := hr1.len Gt.cells_len (by omega)
  have HL : Hid ((gops gs q).length = len) := by unfold Hid; rw [gops_len, hgl]
  have HLG := Lib.hid hgl
  clear hd hgl
  go_wp2_with fail
  refine (impl_GateOps_any L len cap gs q _ hr1 (by omega)).mono ?_
  rintro e w2 ⟨v2, rfl, ho2, hy2⟩
  obtain ⟨A2, c2, rfl, hr2⟩ := own_slice ho2
  rw [HL.out] at hr2 ⊢
  clear ho2
  have hx2 := hx1.trans hy2
  have hl2 := hr1.ext hy2
  go_wp2_with fail
  refine (spec_GateOps_any L len cap gs q _ hl2 (by omega)).mono ?_
  rintro e w3 ⟨v3, rfl, ho3, hy3⟩
  obtain ⟨A3, c3, rfl, hr3⟩ := own_slice ho3
  rw [HL.out] at hr3 ⊢
  clear ho3
  have hx3 := hx2.trans hy3
  go_wp2_with fail
  refine (sameOps_any A2 A3 len len c2 c3 _ _ _ (hr2.ext hy3) hr3 (by omega) (by omega)).mono ?_
  rintro e w4 ⟨rfl, hy4⟩
  rw [eqL_self eqO eqO_self]
  have hx4 := hx3.trans hy4
  have hr4 := (hr2.ext hy3).ext hy4
  have hl4 := (hl2.ext hy3).ext hy4
  clear hr2 hr3 hl2 hr1
  go_wp2
  go_loopw [6] (fun j wr => ∃ k : Nat, k ≤ len ∧ j = .int .i64 k ∧ ∃ z, wr = w4.drewN z) (fun j _ => len - (intOf j).toNat)
  case atStart => exact ⟨0, Nat.zero_le _, rfl, 0, rfl⟩
  case round =>
    obtain ⟨k, hk, rfl, z, rfl⟩ := hrel
    by_cases hlt : k < len
    · obtain ⟨b, o, x, rfl, hbb, hx, r0, r1, r2, r3, r4, r5, r6, r7⟩ := op_at hr4 hlt
      obtain ⟨b', o', g, rfl, hb', hg, s0, s1, s2, s3⟩ := gate_at hl4 hlt
      obtain rfl : x = gop q g := by
        unfold gops at hx
        rw [List.getElem?_map, hg] at hx
        simpa using hx.symm
      clear hx hg
      have t1 : w4.cell? ⟨b, o + k * 8 + 1, none⟩ = some (.int .i64 g.k) := r1
      have t2 : w4.cell? ⟨b, o + k * 8 + 2, none⟩ = some (.int .i64 g.a) := r2
      have t3 : w4.cell? ⟨b, o + k * 8 + 3, none⟩ = some (.int .i64 g.b) := r3
      have t4 : w4.cell? ⟨b, o + k * 8 + 4, none⟩ = some (.int .i64 g.c) := r4
      have t7 : w4.cell? ⟨b, o + k * 8 + 7, none⟩ = some (.int .i64 q) := r7
      clear r0 r1 r2 r3 r4 r5 r6 r7
      have HN := (show ∀ w, (Op.equalIn 10000 31 g.val g.val).run Try.prog w = .ok true w from fun w => by rw [eqIn_gate, eqG_self])
      have HE := Try.eqgGate
      have hqq : (q != q) = false := by simp
      go_wp2
      go_quiet (fail)
      go_wp2
      go_roundw
      case rel => exact ⟨k + 1, by omega, by go_num, _, rfl⟩
      case measure => simp [intOf]; omega
    · have hxz : Ext w4 (w4.drewN z) := (Ext.refl w4).drewN z
      go_wp2_with fail
      refine (impl_OpGates_any A2 len c2 (gops gs q) _ (hr4.ext hxz) (by omega)).mono ?_
      rintro e w5 ⟨v5, rfl, ho5, hy5⟩
      obtain ⟨A5, c5, rfl, hr5⟩ := own_slice ho5
      rw [opGates_gops, HLG.out] at hr5 ⊢
      go_wp2_with fail
      refine (sameGates_any A5 L len len c5 cap gs gs _ hr5 ((hl4.ext hxz).ext hy5) (by omega) (by omega)).mono ?_
      rintro e w6 ⟨rfl, hy6⟩
      rw [eqL_self eqG eqG_self]
      go_wp2
      go_ret
      exact ⟨rfl, ((hx4.trans hxz).trans hy5).trans hy6⟩
set_option maxRecDepth 100000 in
theorem lifted (os : Os) (started : os.Started) (H : Type) (enc : TypeId × Value → H) :
    ReturnsInHanded {} Try.checked os 3 .any (Rows.fnGateOpsSpec.pre6 enc Try.prog Try.f3 Rows.fnGateOpsRow.domain false) (Rows.fnGateOpsSpec.post enc Try.prog Try.f3 false true false false) := by
  refine returnsInHanded_of_change (C := Try.checked) own started (by kernel_rfl) Try.func3
    (ChangeSpec.witness6 (enc := enc) (C := Try.checked) false ⟨#[], #[.slice none 0 0], []⟩ 8 (by kernel_rfl) (by kernel_rfl) (by kernel_rfl) (by kernel_rfl)) ?_
  intro W base args ds gs before hval0 hW hcnd _
  have hval : ∀ (j : Nat) t v, Try.f3.params[j]? = some t → args[j]? = some v → Value.okWide Try.prog W .any base t v := hval0
  have hW' := hW
  obtain ⟨p, q, hA0, hV, rfl, hfz, hnd⟩ := hW
  have hA : DataW.TrodAll enc Try.prog W 0 (fun _ => true) true Try.f3.params.toList args.toList ds p := hA0
  rw [Try.params3] at hA hval
  obtain ⟨v0, vs0, d0, ds0, p0, q0, hargs, rfl, rfl, h0, r0⟩ := trodAll_cons hA
  obtain ⟨rfl, rfl, rfl⟩ := trodAll_nil r0
  obtain rfl : args = #[v0] := by cases args; simp_all
  clear hA0 hval0 hfz hnd hV hcnd
  obtain ⟨A, n, c, bs, rfl, hnc0, hcm0, hr0, hok0⟩ := open_lbytes (hval 0 _ v0 rfl rfl) h0
  refine (walk A n c bs W hr0 (by omega) hok0).mono fun e W' ⟨he, hx⟩ => ?_
  subst he
  exact ⟨_, rfl, law_post rfl (by rw [Try.params3]; decide +kernel) rfl hW' rfl rfl rfl hx⟩

theorem over : Rows.fnGateOpsRow.holds Try.pinned (OpenSpec.ofChange Rows.fnGateOpsSpec) :=
  OpenClaim.holds_of_wide 3 Try.f3 rfl rfl rfl rfl rfl rfl rfl ⟨rfl, rfl, rfl, rfl, rfl⟩ rfl rfl rfl rfl rfl (by kernel_rfl) Try.func3 (by kernel_rfl)
    (of_decide_eq_true (by kernel_rfl)) (by unfold Func.isWrapper; first | (rw [if_pos (by decide +kernel)]; kernel_rfl) | (rw [if_neg (by decide +kernel)]; exact ⟨rfl, rfl⟩))
    (fun os started H enc _ => lifted os started H enc)

/-- The statement. -/
theorem proved : Rows.FnGateOpsSaid := over
#print axioms proved

end fnGateOps
end Go.Proofs.YtohdlkjbpglbcaaR
