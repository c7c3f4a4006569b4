/-
  For every code, the law FnControlOps returns true: controlled ops contain the controlled gates with the same conditions. No condition.
-/
import Derived.Test.YtnemoemdanidbaaCto
import Derived.Test.YtnemoemdanidbaaDrawL
import Derived.Test.YtnemoemdanidbaaOpg
import Derived.Test.YtnemoemdanidbaaCmq
namespace Go.Proofs.Ytnemoemdanidbaa
open Go.ChangeShapes Go.WideShapes Go.ChangeAt Go.RowKit Go.Deep
set_option linter.unusedVariables false
namespace fnControlOps
theorem opGates_gops (gs : List Gt) (c : Int) : opGates (gops gs c) = gs := by
  unfold opGates gops
  induction gs with
  | nil => rfl
  | cons g gs ih => simp only [List.map_cons, gop, List.filter_cons]; simpa [gop] using ih
theorem opGates_app (xs ys : List Oq) : opGates (xs ++ ys) = opGates xs ++ opGates ys := by simp [opGates]
theorem opGates_1 {o : Oq} (h : (o.k == 1) = true) : opGates [o] = [o.g] := by simp [opGates, h]
theorem opGates_n {o : Oq} (h : (o.k == 1) = false) : opGates [o] = [] := by simp [opGates, h]
theorem plain (q : Int) (xs : List Oq) : (opGates xs).all (ctlOk q) = xs.all (ctoOk q) ∧ opGates (xs.flatMap (ctoR q)) = (opGates xs).flatMap (ctlR q) := by
  induction xs with
  | nil => simp [opGates]
  | cons o xs ih =>
    rw [show o :: xs = [o] ++ xs from rfl, opGates_app, List.flatMap_append, opGates_app, List.all_append, List.all_append, List.flatMap_append, ih.1, ih.2]
    cases h : (o.k == 1)
    · rw [opGates_n h]; simp [cto_n h, opGates_n h]
    · rw [opGates_1 h]; simp [cto_1 h, opGates_gops]
theorem plainR (q : Int) (xs : List Oq) (h : xs.all (ctoOk q) = true) : opGates (allR (ctoOk q) (ctoR q) xs) = allR (ctlOk q) (ctlR q) (opGates xs) := by
  rw [allR_yes h, allR_yes (by rw [(plain q xs).1]; exact h), (plain q xs).2]
theorem allR_len {α β : Type} {m : Nat} (ok : α → Bool) (f : α → List β) (hf : ∀ x, (f x).length ≤ m) (xs : List α) : (allR ok f xs).length ≤ m * xs.length := by
  unfold allR
  split
  · exact fm_len f hf xs
  · simp
set_option maxRecDepth 100000 in
set_option maxHeartbeats 4000000 in
theorem walk (A : Option Addr) (n c : Nat) (bs : List Int) (w : World) (h : Rd w w.heap.size 1 A n (u8cs bs)) (hm : n ≤ maxLen) (hb : ∀ g ∈ bs, 0 ≤ g ∧ g ≤ 255) :
    Calls Try.prog 4 #[.slice A n c] w fun e w' => e = .returned (.bool true) ∧ Ext w w' := by
  go_enter Try.func4, Try.ntmps4
  go_wp2_with fail
  refine (big_any A n c _ hm).mono ?_
  rintro e w0 ⟨rfl, rfl⟩
  by_cases hbig : 1048576 < n
  · have hd : decide (1048576 < n) = true := by simpa using hbig
    go_wp2
    go_ret
    exact ⟨rfl, Ext.refl _⟩
  have hd : decide (1048576 < n) = false := by simpa using hbig
  go_wp2_with fail
  refine (DrawControlledOps_any A n c bs _ h (by omega)).mono ?_
  rintro e w1 ⟨q, L, len, cap, xs, rfl, hlen, hr1, hq, hx1⟩
  obtain ⟨hq1, hq2⟩ := hq
  have HLG := Lib.hid (hr1.len Oq.cells_len (by omega))
  clear hd
  go_wp2_with fail
  refine (impl_ControlledOps_any q L len cap xs _ hr1 (by omega)).mono ?_
  rintro e w2 ⟨v2, rfl, ho2, hy2⟩
  have hx2 := hx1.trans hy2
  have hr2 := hr1.ext hy2
  go_wp2_with fail
  refine (spec_ControlledOps_any q L len cap xs _ hr2 (by omega)).mono ?_
  rintro e w3 ⟨v3, rfl, ho3, hy3⟩
  have hx3 := hx2.trans hy3
  have hr3 := hr2.ext hy3
  obtain ⟨A2, c2, rfl, k2⟩ := own_slice ho2
  obtain ⟨A3, c3, rfl, k3⟩ := own_slice ho3
  have k2 := k2.ext hy3
  have hle : (allR (ctoOk q) (ctoR q) xs).length ≤ 7 * 126 := Nat.le_trans (allR_len _ _ (ctoR_len q) xs) (by rw [HLG.out]; omega)
  have HP1 := Lib.hid (plain q xs).1
  have HP2 := Lib.hid (plainR q xs)
  clear ho2 ho3 hr1 hr2 hx1 hx2 hy2 hy3
  generalize hR : allR (ctoOk q) (ctoR q) xs = R at *
  clear hR
  generalize hB : xs.all (ctoOk q) = B at *
  clear hB
  have hbb : (B != B) = false := by cases B <;> rfl
  go_wp2_with fail
  refine (sameOps_any A2 A3 _ _ c2 c3 R R _ k2 k3 (by omega) (by omega)).mono ?_
  rintro e w4 ⟨rfl, hy4⟩
  rw [eqL_self _ eqO_self]
  have hx4 := hx3.trans hy4
  have hr4 := hr3.ext hy4
  have k2 := k2.ext hy4
  go_wp2_with fail
  refine (spec_OpGates_any L len cap xs _ hr4 (by omega)).mono ?_
  rintro e w5 ⟨v5, rfl, ho5, hy5⟩
  obtain ⟨A5, c5, rfl, k5⟩ := own_slice ho5
  have hx5 := hx4.trans hy5
  have k2 := k2.ext hy5
  have hgl : (opGates xs).length ≤ 126 := by
    have := opGates_len xs len
    rw [List.take_of_length_le (by rw [HLG.out]; omega)] at this
    omega
  go_wp2_with fail
  refine (impl_ControlledGates_any q A5 _ c5 (opGates xs) _ k5 (by omega)).mono ?_
  rintro e w6 ⟨v6, rfl, ho6, hy6⟩
  obtain ⟨A6, c6, rfl, k6⟩ := own_slice ho6
  have hx6 := hx5.trans hy6
  have k2 := k2.ext hy6
  rw [HP1.out]
  have hbc : (B == B) = true := by cases B <;> rfl
  cases B
  · go_wp2
    go_ret
    exact ⟨rfl, hx6⟩
  · have HR := Lib.hid (HP2.out rfl)
    rw [← HR.out] at k6
    have hgl2 : (opGates R).length ≤ R.length := by
      have := opGates_len R R.length
      rwa [List.take_length] at this
    go_wp2_with fail
    refine (impl_OpGates_any A2 _ c2 R _ k2 (by omega)).mono ?_
    rintro e w7 ⟨v7, rfl, ho7, hy7⟩
    obtain ⟨A7, c7, rfl, k7⟩ := own_slice ho7
    have hx7 := hx6.trans hy7
    have k6 := k6.ext hy7
    rw [← HR.out]
    go_wp2_with fail
    refine (sameGates_any A7 A6 _ _ c7 c6 (opGates R) (opGates R) _ k7 k6 (by omega) (by omega)).mono ?_
    rintro e w8 ⟨rfl, hy8⟩
    rw [eqL_self _ eqG_self]
    go_wp2
    go_ret
    exact ⟨rfl, hx7.trans hy8⟩
set_option maxRecDepth 100000 in
theorem lifted (os : Os) (started : os.Started) (H : Type) (enc : TypeId × Value → H) :
    ReturnsInHanded {} Try.checked os 4 .any (Rows.fnControlOpsSpec.pre6 enc Try.prog Try.f4 Rows.fnControlOpsRow.domain false) (Rows.fnControlOpsSpec.post enc Try.prog Try.f4 false true false false) := by
  refine returnsInHanded_of_change (C := Try.checked) own started (by kernel_rfl) Try.func4
    (ChangeSpec.witness6 (enc := enc) (C := Try.checked) false ⟨#[], #[.slice none 0 0], []⟩ 8 (by kernel_rfl) (by kernel_rfl) (by kernel_rfl) (by kernel_rfl)) ?_
  intro W base args ds gs before hval0 hW hcnd _
  have hval : ∀ (j : Nat) t v, Try.f4.params[j]? = some t → args[j]? = some v → Value.okWide Try.prog W .any base t v := hval0
  have hW' := hW
  obtain ⟨p, q, hA0, hV, rfl, hfz, hnd⟩ := hW
  have hA : DataW.TrodAll enc Try.prog W 0 (fun _ => true) true Try.f4.params.toList args.toList ds p := hA0
  rw [Try.params4] at hA hval
  obtain ⟨v0, vs0, d0, ds0, p0, q0, hargs, rfl, rfl, h0, r0⟩ := trodAll_cons hA
  obtain ⟨rfl, rfl, rfl⟩ := trodAll_nil r0
  obtain rfl : args = #[v0] := by cases args; simp_all
  clear hA0 hval0 hfz hnd hV hcnd
  obtain ⟨A, n, c, bs, rfl, hnc0, hcm0, hr0, hok0⟩ := open_lbytes (hval 0 _ v0 rfl rfl) h0
  refine (walk A n c bs W hr0 (by omega) hok0).mono fun e W' ⟨he, hx⟩ => ?_
  subst he
  exact ⟨_, rfl, law_post rfl (by rw [Try.params4]; decide +kernel) rfl hW' rfl rfl rfl hx⟩

theorem over : Rows.fnControlOpsRow.holds Try.pinned (OpenSpec.ofChange Rows.fnControlOpsSpec) :=
  OpenClaim.holds_of_wide 4 Try.f4 rfl rfl rfl rfl rfl rfl rfl ⟨rfl, rfl, rfl, rfl, rfl⟩ rfl rfl rfl rfl rfl (by kernel_rfl) Try.func4 (by kernel_rfl)
    (of_decide_eq_true (by kernel_rfl)) (by unfold Func.isWrapper; first | (rw [if_pos (by decide +kernel)]; kernel_rfl) | (rw [if_neg (by decide +kernel)]; exact ⟨rfl, rfl⟩))
    (fun os started H enc _ => lifted os started H enc)

/-- The statement. -/
theorem proved : Rows.FnControlOpsSaid := over
#print axioms proved

end fnControlOps
end Go.Proofs.Ytnemoemdanidbaa
