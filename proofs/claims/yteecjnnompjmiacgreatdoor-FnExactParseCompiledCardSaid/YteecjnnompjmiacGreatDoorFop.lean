/-
  Helper text (no claim of its own): the text of an operation, by the program and by the reference. Printed by gen_fop.py.
-/
import Derived.Test.YteecjnnompjmiacGreatDoorFgt
namespace Go.Proofs.YteecjnnompjmiacGreatDoor
open Go.ChangeShapes Go.WideShapes Go.ChangeAt Go.RowKit Go.Deep
set_option linter.unusedVariables false
set_option linter.unusedSimpArgs false
theorem inB_out {x lo hi : Int} (h : inB x lo hi = true) : lo ≤ x ∧ x ≤ hi := by
  unfold inB at h
  simp at h
  exact h
theorem vOp_facts {o : Oq} {n bits : Int} (h : vOp o n bits = true) : (o.k = 1 ∧ vg o.g n = true ∧ 0 ≤ o.cond ∧ o.cond ≤ bits) ∨ (o.k = 2 ∧ (0 ≤ o.q ∧ o.q ≤ n - 1) ∧ 0 ≤ o.bit ∧ o.bit ≤ bits - 1) ∨ (o.k = 3 ∧ 0 ≤ o.q ∧ o.q ≤ n - 1) := by
  have hn : inB n 1 4 = true := by
    cases e : inB n 1 4
    · rw [vOp_n e] at h; cases h
    · rfl
  have hb : inB bits 0 3 = true := by
    cases e : inB bits 0 3
    · rw [vOp_b e] at h; cases h
    · rfl
  by_cases h1 : o.k = 1
  · rw [vOp_1 hn hb h1] at h
    simp only [Bool.and_eq_true] at h
    have := inB_out h.2
    exact .inl ⟨h1, h.1.2, this.1, this.2⟩
  by_cases h2 : o.k = 2
  · rw [vOp_2 hn hb h2] at h
    simp only [Bool.and_eq_true] at h
    exact .inr (.inl ⟨h2, inB_out h.1.2, inB_out h.2⟩)
  by_cases h3 : o.k = 3
  · rw [vOp_3 hn hb h3] at h
    simp only [Bool.and_eq_true] at h
    exact .inr (.inr ⟨h3, inB_out h.2⟩)
  · rw [vOp_0 h1 h2 h3] at h; cases h
theorem otx_no {o : Oq} (h : vOp o 4 3 = false) : otx o = ⟨#[]⟩ := by unfold otx; rw [if_neg (by rw [h]; decide)]
theorem otx_2 {o : Oq} (h : vOp o 4 3 = true) (hk : o.k = 2) : otx o = ⟨#[109, 101, 97, 115, 117, 114, 101, 32]⟩ ++ dig o.q ++ ⟨#[32]⟩ ++ dig o.bit := by unfold otx; rw [if_pos h, if_pos hk]; rfl
theorem otx_3 {o : Oq} (h : vOp o 4 3 = true) (hk : o.k = 3) : otx o = ⟨#[99, 108, 101, 97, 110, 32]⟩ ++ dig o.q := by unfold otx; rw [if_pos h, if_neg (by omega), if_pos hk]; rfl
theorem otx_1c {o : Oq} (h : vOp o 4 3 = true) (hk : o.k = 1) (hc : 0 < o.cond) : otx o = ⟨#[105, 102, 32]⟩ ++ dig (o.cond - 1) ++ ⟨#[32]⟩ ++ gtx o.g := by unfold otx; rw [if_pos h, if_neg (by omega), if_neg (by omega), if_pos hc]; rfl
theorem otx_1n {o : Oq} (h : vOp o 4 3 = true) (hk : o.k = 1) (hc : ¬ 0 < o.cond) : otx o = gtx o.g := by unfold otx; rw [if_pos h, if_neg (by omega), if_neg (by omega), if_neg hc]
set_option maxRecDepth 100000 in
set_option maxHeartbeats 8000000 in
theorem spec_FormatOp_any (o : Oq) (w : World) : Calls Tryz.prog 26 #[o.val] w fun e w' => e = .returned (.string (otx o)) ∧ Ext w w' := by
  have es1 : (⟨#[32]⟩ : ByteArray).size = 1 := rfl
  have es2 : (⟨#[109, 101, 97, 115, 117, 114, 101, 32]⟩ : ByteArray).size = 8 := rfl
  have es3 : (⟨#[99, 108, 101, 97, 110, 32]⟩ : ByteArray).size = 6 := rfl
  have es4 : (⟨#[105, 102, 32]⟩ : ByteArray).size = 3 := rfl
  go_enter Tryz.func26, Tryz.ntmps26
  go_upto_region 1 with (fail)
  have hB0 : Blk (w.alloc (.cells #[.int .i64 o.k, .int .i64 o.g.k, .int .i64 o.g.a, .int .i64 o.g.b, .int .i64 o.g.c, .int .i64 o.q, .int .i64 o.bit, .int .i64 o.cond] 39)) w.heap.size 39 #[.int .i64 o.k, .int .i64 o.g.k, .int .i64 o.g.a, .int .i64 o.g.b, .int .i64 o.g.c, .int .i64 o.q, .int .i64 o.bit, .int .i64 o.cond] := Blk.new _ _ _
  have hX0 : Ext w (w.alloc (.cells #[.int .i64 o.k, .int .i64 o.g.k, .int .i64 o.g.a, .int .i64 o.g.b, .int .i64 o.g.c, .int .i64 o.q, .int .i64 o.bit, .int .i64 o.cond] 39)) := (Ext.refl w).alloc _
  generalize (w.alloc (.cells #[.int .i64 o.k, .int .i64 o.g.k, .int .i64 o.g.a, .int .i64 o.g.b, .int .i64 o.g.c, .int .i64 o.q, .int .i64 o.bit, .int .i64 o.cond] 39)) = Wb at *
  have HB0 := Lib.hid hB0
  have d0 : Wb.cell? ⟨w.heap.size, 0, none⟩ = some (.int .i64 o.k) := hB0.cell 0
  have d1 : Wb.cell? ⟨w.heap.size, 1, none⟩ = some (.int .i64 o.g.k) := hB0.cell 1
  have d2 : Wb.cell? ⟨w.heap.size, 2, none⟩ = some (.int .i64 o.g.a) := hB0.cell 2
  have d3 : Wb.cell? ⟨w.heap.size, 3, none⟩ = some (.int .i64 o.g.b) := hB0.cell 3
  have d4 : Wb.cell? ⟨w.heap.size, 4, none⟩ = some (.int .i64 o.g.c) := hB0.cell 4
  have d5 : Wb.cell? ⟨w.heap.size, 5, none⟩ = some (.int .i64 o.q) := hB0.cell 5
  have d6 : Wb.cell? ⟨w.heap.size, 6, none⟩ = some (.int .i64 o.bit) := hB0.cell 6
  have d7 : Wb.cell? ⟨w.heap.size, 7, none⟩ = some (.int .i64 o.cond) := hB0.cell 7
  clear hB0
  go_wp2_with fail
  refine (spec_IsValidOp_any o 4 3 _).mono ?_
  rintro e w1 ⟨rfl, hx1⟩
  clear d0 d1 d2 d3 d4 d5 d6 d7
  cases hv : vOp o 4 3
  · have HF := Lib.hid (otx_no hv)
    clear hv es1 es2 es3 es4
    go_wp2
    go_ret
    exact ⟨ret_str HF.out.symm, hX0.trans hx1⟩
  rcases vOp_facts hv with ⟨hk, hvg, hc0, hc3⟩ | ⟨hk, ⟨hq0, hq3⟩, hb0, hb3⟩ | ⟨hk, hq0, hq3⟩
  · have hz := gtx_size o.g
    have HFG : Hid (∀ w', Ext w1 w' → Calls Tryz.prog 42 #[o.g.val] w' fun e w'' => e = .returned (.string (gtx o.g)) ∧ Ext w' w'') := fun w' q => spec_FormatGate_any o.g _
    by_cases hc : 0 < o.cond
    · have HF := Lib.hid (otx_1c hv hk hc)
      generalize gtx o.g = gt at *
      clear hv hvg
      have HCM : Hid (0 ≤ o.cond - 1 ∧ o.cond - 1 ≤ 4) := ⟨by omega, by omega⟩
      have HWR : Hid (IntKind.i64.wrap (o.cond - 1) = o.cond - 1) := IntWalk.i64_in _ (by omega)
      have j1 : ∀ w', (Op.stringOp .add ((⟨#[105, 102, 32]⟩ : ByteArray)) (dig (o.cond - 1))).run Tryz.prog w' = .ok (.string (((⟨#[105, 102, 32]⟩ : ByteArray)) ++ (dig (o.cond - 1)))) w' := fun w' => run_string_add_sum w' _ _ (by simp only [ByteArray.size_append, dig_size, es1, es2, es3, es4]; omega)
      have j2 : ∀ w', (Op.stringOp .add (((⟨#[105, 102, 32]⟩ : ByteArray)) ++ dig (o.cond - 1)) ((⟨#[32]⟩ : ByteArray))).run Tryz.prog w' = .ok (.string ((((⟨#[105, 102, 32]⟩ : ByteArray)) ++ dig (o.cond - 1)) ++ ((⟨#[32]⟩ : ByteArray)))) w' := fun w' => run_string_add_sum w' _ _ (by simp only [ByteArray.size_append, dig_size, es1, es2, es3, es4]; omega)
      have j3 : ∀ w', (Op.stringOp .add (((⟨#[105, 102, 32]⟩ : ByteArray)) ++ dig (o.cond - 1) ++ ((⟨#[32]⟩ : ByteArray))) gt).run Tryz.prog w' = .ok (.string ((((⟨#[105, 102, 32]⟩ : ByteArray)) ++ dig (o.cond - 1) ++ ((⟨#[32]⟩ : ByteArray))) ++ gt)) w' := fun w' => run_string_add_sum w' _ _ (by simp only [ByteArray.size_append, dig_size, es1, es2, es3, es4]; omega)
      have d0 : w1.cell? ⟨w.heap.size, 0, none⟩ = some (.int .i64 o.k) := (HB0.out.ext hx1).cell 0
      have d1 : w1.cell? ⟨w.heap.size, 1, none⟩ = some (.int .i64 o.g.k) := (HB0.out.ext hx1).cell 1
      have d2 : w1.cell? ⟨w.heap.size, 2, none⟩ = some (.int .i64 o.g.a) := (HB0.out.ext hx1).cell 2
      have d3 : w1.cell? ⟨w.heap.size, 3, none⟩ = some (.int .i64 o.g.b) := (HB0.out.ext hx1).cell 3
      have d4 : w1.cell? ⟨w.heap.size, 4, none⟩ = some (.int .i64 o.g.c) := (HB0.out.ext hx1).cell 4
      have d7 : w1.cell? ⟨w.heap.size, 7, none⟩ = some (.int .i64 o.cond) := (HB0.out.ext hx1).cell 7
      clear es1 es2 es3 es4 hz
      have HK : Hid (∀ w', Ext w1 w' → w'.cell? ⟨w.heap.size, 1, none⟩ = some (.int .i64 o.g.k) ∧ w'.cell? ⟨w.heap.size, 2, none⟩ = some (.int .i64 o.g.a) ∧ w'.cell? ⟨w.heap.size, 3, none⟩ = some (.int .i64 o.g.b) ∧ w'.cell? ⟨w.heap.size, 4, none⟩ = some (.int .i64 o.g.c) ∧ w'.cell? ⟨w.heap.size, 7, none⟩ = some (.int .i64 o.cond)) := fun w' q => ⟨(HB0.out.ext (hx1.trans q)).cell 1, (HB0.out.ext (hx1.trans q)).cell 2, (HB0.out.ext (hx1.trans q)).cell 3, (HB0.out.ext (hx1.trans q)).cell 4, (HB0.out.ext (hx1.trans q)).cell 7⟩
      go_wp2
      go_region_held3 (fun w' => w'.cell? ⟨w.heap.size, 1, none⟩ = some (.int .i64 o.g.k) ∧ w'.cell? ⟨w.heap.size, 2, none⟩ = some (.int .i64 o.g.a) ∧ w'.cell? ⟨w.heap.size, 3, none⟩ = some (.int .i64 o.g.b) ∧ w'.cell? ⟨w.heap.size, 4, none⟩ = some (.int .i64 o.g.c) ∧ w'.cell? ⟨w.heap.size, 7, none⟩ = some (.int .i64 o.cond))
        (first | go_keep | exact HK.out _ (by assumption))
        (first
          | (go_at_call 29; rw [HWR.out]; (with_reducible refine (spec_FormatInt_small (o.cond - 1) HCM.out _).mono ?_); rintro e w5 ⟨rfl, hy5⟩; replace hy5 : Ext w1 w5 := Ext.trans (Ext.refl w1).drew hy5)
          | (go_at_call 42; (with_reducible refine (HFG.out _ hy5).mono ?_); rintro e w6 ⟨rfl, hy6⟩; replace hy6 : Ext w1 w6 := hy5.trans hy6))
      go_wp2
      go_ret
      exact ⟨ret_str HF.out.symm, hX0.trans (hx1.trans hy6)⟩
    · have HF := Lib.hid (otx_1n hv hk hc)
      generalize gtx o.g = gt at *
      clear hv hvg es1 es2 es3 es4
      have d0 : w1.cell? ⟨w.heap.size, 0, none⟩ = some (.int .i64 o.k) := (HB0.out.ext hx1).cell 0
      have d1 : w1.cell? ⟨w.heap.size, 1, none⟩ = some (.int .i64 o.g.k) := (HB0.out.ext hx1).cell 1
      have d2 : w1.cell? ⟨w.heap.size, 2, none⟩ = some (.int .i64 o.g.a) := (HB0.out.ext hx1).cell 2
      have d3 : w1.cell? ⟨w.heap.size, 3, none⟩ = some (.int .i64 o.g.b) := (HB0.out.ext hx1).cell 3
      have d4 : w1.cell? ⟨w.heap.size, 4, none⟩ = some (.int .i64 o.g.c) := (HB0.out.ext hx1).cell 4
      have d7 : w1.cell? ⟨w.heap.size, 7, none⟩ = some (.int .i64 o.cond) := (HB0.out.ext hx1).cell 7
      go_wp2_with fail
      refine (HFG.out _ (Ext.refl _)).mono ?_
      rintro e w6 ⟨rfl, hy6⟩
      go_wp2
      go_ret
      exact ⟨ret_str HF.out.symm, hX0.trans (hx1.trans hy6)⟩
  · have HF := Lib.hid (otx_2 hv hk)
    clear hv
    have j1 : ∀ w', (Op.stringOp .add ((⟨#[109, 101, 97, 115, 117, 114, 101, 32]⟩ : ByteArray)) (dig o.q)).run Tryz.prog w' = .ok (.string (((⟨#[109, 101, 97, 115, 117, 114, 101, 32]⟩ : ByteArray)) ++ (dig o.q))) w' := fun w' => run_string_add_sum w' _ _ (by simp only [ByteArray.size_append, dig_size, es1, es2, es3, es4]; omega)
    have j2 : ∀ w', (Op.stringOp .add (((⟨#[109, 101, 97, 115, 117, 114, 101, 32]⟩ : ByteArray)) ++ dig o.q) ((⟨#[32]⟩ : ByteArray))).run Tryz.prog w' = .ok (.string ((((⟨#[109, 101, 97, 115, 117, 114, 101, 32]⟩ : ByteArray)) ++ dig o.q) ++ ((⟨#[32]⟩ : ByteArray)))) w' := fun w' => run_string_add_sum w' _ _ (by simp only [ByteArray.size_append, dig_size, es1, es2, es3, es4]; omega)
    have j3 : ∀ w', (Op.stringOp .add (((⟨#[109, 101, 97, 115, 117, 114, 101, 32]⟩ : ByteArray)) ++ dig o.q ++ ((⟨#[32]⟩ : ByteArray))) (dig o.bit)).run Tryz.prog w' = .ok (.string ((((⟨#[109, 101, 97, 115, 117, 114, 101, 32]⟩ : ByteArray)) ++ dig o.q ++ ((⟨#[32]⟩ : ByteArray))) ++ (dig o.bit))) w' := fun w' => run_string_add_sum w' _ _ (by simp only [ByteArray.size_append, dig_size, es1, es2, es3, es4]; omega)
    have d0 : w1.cell? ⟨w.heap.size, 0, none⟩ = some (.int .i64 o.k) := (HB0.out.ext hx1).cell 0
    have d5 : w1.cell? ⟨w.heap.size, 5, none⟩ = some (.int .i64 o.q) := (HB0.out.ext hx1).cell 5
    have d6 : w1.cell? ⟨w.heap.size, 6, none⟩ = some (.int .i64 o.bit) := (HB0.out.ext hx1).cell 6
    clear es1 es2 es3 es4
    have HK : Hid (∀ w', Ext w1 w' → w'.cell? ⟨w.heap.size, 5, none⟩ = some (.int .i64 o.q) ∧ w'.cell? ⟨w.heap.size, 6, none⟩ = some (.int .i64 o.bit)) := fun w' q => ⟨(HB0.out.ext (hx1.trans q)).cell 5, (HB0.out.ext (hx1.trans q)).cell 6⟩
    go_wp2
    go_region_held3 (fun w' => w'.cell? ⟨w.heap.size, 5, none⟩ = some (.int .i64 o.q) ∧ w'.cell? ⟨w.heap.size, 6, none⟩ = some (.int .i64 o.bit))
      (first | go_keep | exact HK.out _ (by assumption))
      (first
        | (go_at_call 29; (with_reducible refine (spec_FormatInt_small o.q ⟨by omega, by omega⟩ _).mono ?_); rintro e w5 ⟨rfl, hy5⟩; replace hy5 : Ext w1 w5 := Ext.trans (Ext.refl w1).drew hy5)
        | (go_at_call 29; (with_reducible refine (spec_FormatInt_small o.bit ⟨by omega, by omega⟩ _).mono ?_); rintro e w6 ⟨rfl, hy6⟩; replace hy6 : Ext w1 w6 := hy5.trans hy6))
    go_wp2
    go_ret
    exact ⟨ret_str HF.out.symm, hX0.trans (hx1.trans hy6)⟩
  · have HF := Lib.hid (otx_3 hv hk)
    clear hv
    have j1 : ∀ w', (Op.stringOp .add ((⟨#[99, 108, 101, 97, 110, 32]⟩ : ByteArray)) (dig o.q)).run Tryz.prog w' = .ok (.string (((⟨#[99, 108, 101, 97, 110, 32]⟩ : ByteArray)) ++ (dig o.q))) w' := fun w' => run_string_add_sum w' _ _ (by simp only [ByteArray.size_append, dig_size, es1, es2, es3, es4]; omega)
    have d0 : w1.cell? ⟨w.heap.size, 0, none⟩ = some (.int .i64 o.k) := (HB0.out.ext hx1).cell 0
    have d5 : w1.cell? ⟨w.heap.size, 5, none⟩ = some (.int .i64 o.q) := (HB0.out.ext hx1).cell 5
    clear es1 es2 es3 es4
    go_wp2_with fail
    refine (spec_FormatInt_small o.q ⟨by omega, by omega⟩ _).mono ?_
    rintro e w6 ⟨rfl, hy6⟩
    go_wp2
    go_ret
    exact ⟨ret_str HF.out.symm, hX0.trans (hx1.trans hy6)⟩
set_option maxRecDepth 100000 in
set_option maxHeartbeats 8000000 in
theorem impl_FormatOp_any (o : Oq) (w : World) (hg : GN w) : Calls Tryz.prog 35 #[o.val] w fun e w' => e = .returned (.string (otx o)) ∧ Ext w w' := by
  have HGN := Lib.hid hg
  clear hg
  have es1 : (⟨#[32]⟩ : ByteArray).size = 1 := rfl
  have es2 : (⟨#[109, 101, 97, 115, 117, 114, 101, 32]⟩ : ByteArray).size = 8 := rfl
  have es3 : (⟨#[99, 108, 101, 97, 110, 32]⟩ : ByteArray).size = 6 := rfl
  have es4 : (⟨#[105, 102, 32]⟩ : ByteArray).size = 3 := rfl
  go_enter Tryz.func35, Tryz.ntmps35
  go_upto_region 1 with (fail)
  have hB0 : Blk (w.alloc (.cells #[.int .i64 o.k, .int .i64 o.g.k, .int .i64 o.g.a, .int .i64 o.g.b, .int .i64 o.g.c, .int .i64 o.q, .int .i64 o.bit, .int .i64 o.cond] 39)) w.heap.size 39 #[.int .i64 o.k, .int .i64 o.g.k, .int .i64 o.g.a, .int .i64 o.g.b, .int .i64 o.g.c, .int .i64 o.q, .int .i64 o.bit, .int .i64 o.cond] := Blk.new _ _ _
  have hX0 : Ext w (w.alloc (.cells #[.int .i64 o.k, .int .i64 o.g.k, .int .i64 o.g.a, .int .i64 o.g.b, .int .i64 o.g.c, .int .i64 o.q, .int .i64 o.bit, .int .i64 o.cond] 39)) := (Ext.refl w).alloc _
  generalize (w.alloc (.cells #[.int .i64 o.k, .int .i64 o.g.k, .int .i64 o.g.a, .int .i64 o.g.b, .int .i64 o.g.c, .int .i64 o.q, .int .i64 o.bit, .int .i64 o.cond] 39)) = Wb at *
  have HB0 := Lib.hid hB0
  have d0 : Wb.cell? ⟨w.heap.size, 0, none⟩ = some (.int .i64 o.k) := hB0.cell 0
  have d1 : Wb.cell? ⟨w.heap.size, 1, none⟩ = some (.int .i64 o.g.k) := hB0.cell 1
  have d2 : Wb.cell? ⟨w.heap.size, 2, none⟩ = some (.int .i64 o.g.a) := hB0.cell 2
  have d3 : Wb.cell? ⟨w.heap.size, 3, none⟩ = some (.int .i64 o.g.b) := hB0.cell 3
  have d4 : Wb.cell? ⟨w.heap.size, 4, none⟩ = some (.int .i64 o.g.c) := hB0.cell 4
  have d5 : Wb.cell? ⟨w.heap.size, 5, none⟩ = some (.int .i64 o.q) := hB0.cell 5
  have d6 : Wb.cell? ⟨w.heap.size, 6, none⟩ = some (.int .i64 o.bit) := hB0.cell 6
  have d7 : Wb.cell? ⟨w.heap.size, 7, none⟩ = some (.int .i64 o.cond) := hB0.cell 7
  clear hB0
  go_wp2_with fail
  refine (impl_IsValidOp_any o 4 3 _).mono ?_
  rintro e w1 ⟨rfl, hx1⟩
  clear d0 d1 d2 d3 d4 d5 d6 d7
  cases hv : vOp o 4 3
  · have HF := Lib.hid (otx_no hv)
    clear hv es1 es2 es3 es4
    go_wp2
    go_ret
    exact ⟨ret_str HF.out.symm, hX0.trans hx1⟩
  rcases vOp_facts hv with ⟨hk, hvg, hc0, hc3⟩ | ⟨hk, ⟨hq0, hq3⟩, hb0, hb3⟩ | ⟨hk, hq0, hq3⟩
  · have hz := gtx_size o.g
    have HFG : Hid (∀ w', Ext w1 w' → Calls Tryz.prog 52 #[o.g.val] w' fun e w'' => e = .returned (.string (gtx o.g)) ∧ Ext w' w'') := fun w' q => impl_FormatGate_any o.g _ (HGN.out.ext (hX0.trans (hx1.trans q)))
    by_cases hc : 0 < o.cond
    · have HF := Lib.hid (otx_1c hv hk hc)
      generalize gtx o.g = gt at *
      clear hv hvg
      have HCM : Hid (0 ≤ o.cond - 1 ∧ o.cond - 1 ≤ 4) := ⟨by omega, by omega⟩
      have HWR : Hid (IntKind.i64.wrap (o.cond - 1) = o.cond - 1) := IntWalk.i64_in _ (by omega)
      have j1 : ∀ w', (Op.stringOp .add ((⟨#[105, 102, 32]⟩ : ByteArray)) (dig (o.cond - 1))).run Tryz.prog w' = .ok (.string (((⟨#[105, 102, 32]⟩ : ByteArray)) ++ (dig (o.cond - 1)))) w' := fun w' => run_string_add_sum w' _ _ (by simp only [ByteArray.size_append, dig_size, es1, es2, es3, es4]; omega)
      have j2 : ∀ w', (Op.stringOp .add (((⟨#[105, 102, 32]⟩ : ByteArray)) ++ dig (o.cond - 1)) ((⟨#[32]⟩ : ByteArray))).run Tryz.prog w' = .ok (.string ((((⟨#[105, 102, 32]⟩ : ByteArray)) ++ dig (o.cond - 1)) ++ ((⟨#[32]⟩ : ByteArray)))) w' := fun w' => run_string_add_sum w' _ _ (by simp only [ByteArray.size_append, dig_size, es1, es2, es3, es4]; omega)
      have j3 : ∀ w', (Op.stringOp .add (((⟨#[105, 102, 32]⟩ : ByteArray)) ++ dig (o.cond - 1) ++ ((⟨#[32]⟩ : ByteArray))) gt).run Tryz.prog w' = .ok (.string ((((⟨#[105, 102, 32]⟩ : ByteArray)) ++ dig (o.cond - 1) ++ ((⟨#[32]⟩ : ByteArray))) ++ gt)) w' := fun w' => run_string_add_sum w' _ _ (by simp only [ByteArray.size_append, dig_size, es1, es2, es3, es4]; omega)
      have d0 : w1.cell? ⟨w.heap.size, 0, none⟩ = some (.int .i64 o.k) := (HB0.out.ext hx1).cell 0
      have d1 : w1.cell? ⟨w.heap.size, 1, none⟩ = some (.int .i64 o.g.k) := (HB0.out.ext hx1).cell 1
      have d2 : w1.cell? ⟨w.heap.size, 2, none⟩ = some (.int .i64 o.g.a) := (HB0.out.ext hx1).cell 2
      have d3 : w1.cell? ⟨w.heap.size, 3, none⟩ = some (.int .i64 o.g.b) := (HB0.out.ext hx1).cell 3
      have d4 : w1.cell? ⟨w.heap.size, 4, none⟩ = some (.int .i64 o.g.c) := (HB0.out.ext hx1).cell 4
      have d7 : w1.cell? ⟨w.heap.size, 7, none⟩ = some (.int .i64 o.cond) := (HB0.out.ext hx1).cell 7
      clear es1 es2 es3 es4 hz
      have HK : Hid (∀ w', Ext w1 w' → w'.cell? ⟨w.heap.size, 1, none⟩ = some (.int .i64 o.g.k) ∧ w'.cell? ⟨w.heap.size, 2, none⟩ = some (.int .i64 o.g.a) ∧ w'.cell? ⟨w.heap.size, 3, none⟩ = some (.int .i64 o.g.b) ∧ w'.cell? ⟨w.heap.size, 4, none⟩ = some (.int .i64 o.g.c) ∧ w'.cell? ⟨w.heap.size, 7, none⟩ = some (.int .i64 o.cond)) := fun w' q => ⟨(HB0.out.ext (hx1.trans q)).cell 1, (HB0.out.ext (hx1.trans q)).cell 2, (HB0.out.ext (hx1.trans q)).cell 3, (HB0.out.ext (hx1.trans q)).cell 4, (HB0.out.ext (hx1.trans q)).cell 7⟩
      go_wp2
      go_region_held3 (fun w' => w'.cell? ⟨w.heap.size, 1, none⟩ = some (.int .i64 o.g.k) ∧ w'.cell? ⟨w.heap.size, 2, none⟩ = some (.int .i64 o.g.a) ∧ w'.cell? ⟨w.heap.size, 3, none⟩ = some (.int .i64 o.g.b) ∧ w'.cell? ⟨w.heap.size, 4, none⟩ = some (.int .i64 o.g.c) ∧ w'.cell? ⟨w.heap.size, 7, none⟩ = some (.int .i64 o.cond))
        (first | go_keep | exact HK.out _ (by assumption))
        (first
          | (go_at_call 38; rw [HWR.out]; (with_reducible refine (impl_FormatInt_small (o.cond - 1) HCM.out _).mono ?_); rintro e w5 ⟨rfl, hy5⟩; replace hy5 : Ext w1 w5 := Ext.trans (Ext.refl w1).drew hy5)
          | (go_at_call 52; (with_reducible refine (HFG.out _ hy5).mono ?_); rintro e w6 ⟨rfl, hy6⟩; replace hy6 : Ext w1 w6 := hy5.trans hy6))
      go_wp2
      go_ret
      exact ⟨ret_str HF.out.symm, hX0.trans (hx1.trans hy6)⟩
    · have HF := Lib.hid (otx_1n hv hk hc)
      generalize gtx o.g = gt at *
      clear hv hvg es1 es2 es3 es4
      have d0 : w1.cell? ⟨w.heap.size, 0, none⟩ = some (.int .i64 o.k) := (HB0.out.ext hx1).cell 0
      have d1 : w1.cell? ⟨w.heap.size, 1, none⟩ = some (.int .i64 o.g.k) := (HB0.out.ext hx1).cell 1
      have d2 : w1.cell? ⟨w.heap.size, 2, none⟩ = some (.int .i64 o.g.a) := (HB0.out.ext hx1).cell 2
      have d3 : w1.cell? ⟨w.heap.size, 3, none⟩ = some (.int .i64 o.g.b) := (HB0.out.ext hx1).cell 3
      have d4 : w1.cell? ⟨w.heap.size, 4, none⟩ = some (.int .i64 o.g.c) := (HB0.out.ext hx1).cell 4
      have d7 : w1.cell? ⟨w.heap.size, 7, none⟩ = some (.int .i64 o.cond) := (HB0.out.ext hx1).cell 7
      go_wp2_with fail
      refine (HFG.out _ (Ext.refl _)).mono ?_
      rintro e w6 ⟨rfl, hy6⟩
      go_wp2
      go_ret
      exact ⟨ret_str HF.out.symm, hX0.trans (hx1.trans hy6)⟩
  · have HF := Lib.hid (otx_2 hv hk)
    clear hv
    have j1 : ∀ w', (Op.stringOp .add ((⟨#[109, 101, 97, 115, 117, 114, 101, 32]⟩ : ByteArray)) (dig o.q)).run Tryz.prog w' = .ok (.string (((⟨#[109, 101, 97, 115, 117, 114, 101, 32]⟩ : ByteArray)) ++ (dig o.q))) w' := fun w' => run_string_add_sum w' _ _ (by simp only [ByteArray.size_append, dig_size, es1, es2, es3, es4]; omega)
    have j2 : ∀ w', (Op.stringOp .add (((⟨#[109, 101, 97, 115, 117, 114, 101, 32]⟩ : ByteArray)) ++ dig o.q) ((⟨#[32]⟩ : ByteArray))).run Tryz.prog w' = .ok (.string ((((⟨#[109, 101, 97, 115, 117, 114, 101, 32]⟩ : ByteArray)) ++ dig o.q) ++ ((⟨#[32]⟩ : ByteArray)))) w' := fun w' => run_string_add_sum w' _ _ (by simp only [ByteArray.size_append, dig_size, es1, es2, es3, es4]; omega)
    have j3 : ∀ w', (Op.stringOp .add (((⟨#[109, 101, 97, 115, 117, 114, 101, 32]⟩ : ByteArray)) ++ dig o.q ++ ((⟨#[32]⟩ : ByteArray))) (dig o.bit)).run Tryz.prog w' = .ok (.string ((((⟨#[109, 101, 97, 115, 117, 114, 101, 32]⟩ : ByteArray)) ++ dig o.q ++ ((⟨#[32]⟩ : ByteArray))) ++ (dig o.bit))) w' := fun w' => run_string_add_sum w' _ _ (by simp only [ByteArray.size_append, dig_size, es1, es2, es3, es4]; omega)
    have d0 : w1.cell? ⟨w.heap.size, 0, none⟩ = some (.int .i64 o.k) := (HB0.out.ext hx1).cell 0
    have d5 : w1.cell? ⟨w.heap.size, 5, none⟩ = some (.int .i64 o.q) := (HB0.out.ext hx1).cell 5
    have d6 : w1.cell? ⟨w.heap.size, 6, none⟩ = some (.int .i64 o.bit) := (HB0.out.ext hx1).cell 6
    clear es1 es2 es3 es4
    have HK : Hid (∀ w', Ext w1 w' → w'.cell? ⟨w.heap.size, 5, none⟩ = some (.int .i64 o.q) ∧ w'.cell? ⟨w.heap.size, 6, none⟩ = some (.int .i64 o.bit)) := fun w' q => ⟨(HB0.out.ext (hx1.trans q)).cell 5, (HB0.out.ext (hx1.trans q)).cell 6⟩
    go_wp2
    go_region_held3 (fun w' => w'.cell? ⟨w.heap.size, 5, none⟩ = some (.int .i64 o.q) ∧ w'.cell? ⟨w.heap.size, 6, none⟩ = some (.int .i64 o.bit))
      (first | go_keep | exact HK.out _ (by assumption))
      (first
        | (go_at_call 38; (with_reducible refine (impl_FormatInt_small o.q ⟨by omega, by omega⟩ _).mono ?_); rintro e w5 ⟨rfl, hy5⟩; replace hy5 : Ext w1 w5 := Ext.trans (Ext.refl w1).drew hy5)
        | (go_at_call 38; (with_reducible refine (impl_FormatInt_small o.bit ⟨by omega, by omega⟩ _).mono ?_); rintro e w6 ⟨rfl, hy6⟩; replace hy6 : Ext w1 w6 := hy5.trans hy6))
    go_wp2
    go_ret
    exact ⟨ret_str HF.out.symm, hX0.trans (hx1.trans hy6)⟩
  · have HF := Lib.hid (otx_3 hv hk)
    clear hv
    have j1 : ∀ w', (Op.stringOp .add ((⟨#[99, 108, 101, 97, 110, 32]⟩ : ByteArray)) (dig o.q)).run Tryz.prog w' = .ok (.string (((⟨#[99, 108, 101, 97, 110, 32]⟩ : ByteArray)) ++ (dig o.q))) w' := fun w' => run_string_add_sum w' _ _ (by simp only [ByteArray.size_append, dig_size, es1, es2, es3, es4]; omega)
    have d0 : w1.cell? ⟨w.heap.size, 0, none⟩ = some (.int .i64 o.k) := (HB0.out.ext hx1).cell 0
    have d5 : w1.cell? ⟨w.heap.size, 5, none⟩ = some (.int .i64 o.q) := (HB0.out.ext hx1).cell 5
    clear es1 es2 es3 es4
    go_wp2_with fail
    refine (impl_FormatInt_small o.q ⟨by omega, by omega⟩ _).mono ?_
    rintro e w6 ⟨rfl, hy6⟩
    go_wp2
    go_ret
    exact ⟨ret_str HF.out.symm, hX0.trans (hx1.trans hy6)⟩
end Go.Proofs.YteecjnnompjmiacGreatDoor
