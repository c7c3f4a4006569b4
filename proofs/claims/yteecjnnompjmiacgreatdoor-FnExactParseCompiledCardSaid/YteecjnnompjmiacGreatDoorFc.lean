/-
  Helper text (no claim of its own): the text of a compiled result, by the program and by the reference. Printed by gen_fc.py.
-/
import Derived.Test.YteecjnnompjmiacGreatDoorRow
import Derived.Test.YteecjnnompjmiacGreatDoorIvc
namespace Go.Proofs.YteecjnnompjmiacGreatDoor
open Go.ChangeShapes Go.WideShapes Go.ChangeAt Go.RowKit Go.Deep
set_option linter.unusedVariables false
set_option linter.unusedSimpArgs false
theorem perm_mem {p : List Int} (h : perm p = true) : ∀ q ∈ p, 0 ≤ q ∧ q ≤ 4 := by
  intro q hq
  have hl := (perm_range h).2
  unfold perm at h
  rw [Bool.and_eq_true] at h
  have hG := h.1
  obtain ⟨i, hi⟩ := List.mem_iff_getElem?.1 hq
  have hil := (List.getElem?_eq_some_iff.1 hi).1
  unfold permG at hG
  have := List.all_eq_true.1 hG i (List.mem_range.2 hil)
  unfold okP at this
  rw [List.getD_eq_getElem?_getD, hi] at this
  simp at this
  omega
theorem vC_facts {x : Cm} (h : vC x = true) : x.st.length ≤ 4 ∧ (∀ q ∈ x.st, 0 ≤ q ∧ q ≤ 4) ∧ x.fin.length ≤ 4 ∧ (∀ q ∈ x.fin, 0 ≤ q ∧ q ≤ 4) ∧ x.ops.length ≤ 1200 ∧ 0 ≤ x.bits ∧ x.bits ≤ 4 := by
  unfold vC at h
  simp only [Bool.and_eq_true, decide_eq_true_eq] at h
  obtain ⟨⟨⟨⟨⟨⟨⟨h1, h2⟩, _⟩, _⟩, h5⟩, h6⟩, _⟩, _⟩ := h
  have hb := inB_out h6
  exact ⟨(perm_range h1).2, perm_mem h1, (perm_range h2).2, perm_mem h2, h5, hb.1, by omega⟩
/-- The lines ahead of the operations. -/
def hdl (x : Cm) : List ByteArray := [rowS ⟨#[111, 110]⟩ x.st, ⟨#[98, 105, 116, 115, 32]⟩ ++ dig x.bits]
def linesK (x : Cm) (k : Nat) : List ByteArray := hdl x ++ (x.ops.take k).map otx
def lines (x : Cm) : List ByteArray := hdl x ++ x.ops.map otx ++ [rowS ⟨#[97, 116]⟩ x.fin]
def ctx (x : Cm) : ByteArray := if vC x = true then jn ⟨#[10]⟩ (lines x) else ⟨#[]⟩
theorem ctx_no {x : Cm} (h : vC x = false) : ctx x = ⟨#[]⟩ := by unfold ctx; rw [if_neg (by rw [h]; decide)]
theorem ctx_yes {x : Cm} (h : vC x = true) : ctx x = jn ⟨#[10]⟩ (lines x) := by unfold ctx; rw [if_pos h]
theorem linesK_snoc {x : Cm} {k : Nat} {o : Oq} (h : x.ops[k]? = some o) : linesK x (k + 1) = linesK x k ++ [otx o] := by
  unfold linesK
  rw [take_snoc h, List.map_append, List.append_assoc]
  rfl
theorem linesK_all {x : Cm} : linesK x x.ops.length ++ [rowS ⟨#[97, 116]⟩ x.fin] = lines x := by
  unfold linesK lines
  rw [List.take_length]
theorem lines_small {x : Cm} (h : vC x = true) : ∀ l ∈ lines x, l.size ≤ 1000 := by
  obtain ⟨h1, _, h3, _⟩ := vC_facts h
  have e1 : (⟨#[111, 110]⟩ : ByteArray).size = 2 := rfl
  have e2 : (⟨#[98, 105, 116, 115, 32]⟩ : ByteArray).size = 5 := rfl
  have e3 : (⟨#[97, 116]⟩ : ByteArray).size = 2 := rfl
  intro l hl
  unfold lines hdl at hl
  rw [List.mem_append, List.mem_append] at hl
  rcases hl with (hl | hl) | hl
  · rw [List.mem_cons, List.mem_singleton] at hl
    rcases hl with rfl | rfl
    · rw [rowS_size, e1]; omega
    · rw [ByteArray.size_append, e2, dig_size]; omega
  · obtain ⟨o, _, rfl⟩ := List.mem_map.1 hl
    have := otx_size o
    omega
  · rw [List.mem_singleton] at hl
    subst hl
    rw [rowS_size, e3]; omega
theorem lines_len (x : Cm) : (lines x).length = 2 + x.ops.length + 1 := by
  unfold lines hdl
  rw [List.length_append, List.length_append, List.length_map]
  rfl
set_option maxRecDepth 100000 in
set_option maxHeartbeats 8000000 in
theorem spec_FormatCompiled_cap (A1 A2 A3 : Option Addr) (c1 c2 c3 : Nat) (x : Cm) (w : World) (h1 : Rd w w.heap.size 8 A1 x.ops.length (ocells x.ops)) (h2 : Rd w w.heap.size 1 A2 x.st.length (icells x.st)) (h3 : Rd w w.heap.size 1 A3 x.fin.length (icells x.fin)) (k2 : x.st.length ≤ c2) (k3 : x.fin.length ≤ c3) (hs : x.small) :
    Calls Tryz.prog 13 #[.agg #[.int .i64 x.n, .int .i64 x.bits, .slice A1 x.ops.length c1, .slice A2 x.st.length c2, .slice A3 x.fin.length c3]] w fun e w' => e = .returned (.string (ctx x)) ∧ Ext w w' := by
  have HV : Hid (∀ w', Ext w w' → Calls Tryz.prog 27 #[.agg #[.int .i64 x.n, .int .i64 x.bits, .slice A1 x.ops.length c1, .slice A2 x.st.length c2, .slice A3 x.fin.length c3]] w' fun e w'' => e = .returned (.bool (vC x)) ∧ Ext w' w'') := fun w' q => spec_IsValidCompiled_any A1 A2 A3 c1 c2 c3 x w' (h1.ext q) (by have := hs.1; omega) (h2.ext q) (h3.ext q) (by have := hs.2.1; omega) (by have := hs.2.2; omega) k2 k3
  have H1 := Lib.hid h1
  have H2 := Lib.hid h2
  have H3 := Lib.hid h3
  clear h1 h2 h3 hs k2 k3
  go_enter Tryz.func13, Tryz.ntmps13
  go_upto_region 1 with (fail)
  have hB0 : Blk (w.alloc (.cells #[.int .i64 x.n, .int .i64 x.bits, .slice A1 x.ops.length c1, .slice A2 x.st.length c2, .slice A3 x.fin.length c3] 25)) w.heap.size 25 #[.int .i64 x.n, .int .i64 x.bits, .slice A1 x.ops.length c1, .slice A2 x.st.length c2, .slice A3 x.fin.length c3] := Blk.new _ _ _
  have hX0 : Ext w (w.alloc (.cells #[.int .i64 x.n, .int .i64 x.bits, .slice A1 x.ops.length c1, .slice A2 x.st.length c2, .slice A3 x.fin.length c3] 25)) := (Ext.refl w).alloc _
  generalize (w.alloc (.cells #[.int .i64 x.n, .int .i64 x.bits, .slice A1 x.ops.length c1, .slice A2 x.st.length c2, .slice A3 x.fin.length c3] 25)) = Wb at *
  have HB0 := Lib.hid hB0
  have d0 : Wb.cell? ⟨w.heap.size, 0, none⟩ = some (.int .i64 x.n) := hB0.cell 0
  have d1 : Wb.cell? ⟨w.heap.size, 1, none⟩ = some (.int .i64 x.bits) := hB0.cell 1
  have d2 : Wb.cell? ⟨w.heap.size, 2, none⟩ = some (.slice A1 x.ops.length c1) := hB0.cell 2
  have d3 : Wb.cell? ⟨w.heap.size, 3, none⟩ = some (.slice A2 x.st.length c2) := hB0.cell 3
  have d4 : Wb.cell? ⟨w.heap.size, 4, none⟩ = some (.slice A3 x.fin.length c3) := hB0.cell 4
  clear hB0
  go_wp2_with fail
  refine (HV.out _ hX0).mono ?_
  rintro e w1 ⟨rfl, hx1⟩
  clear d0 d1 d2 d3 d4
  cases hv : vC x
  · have HF := Lib.hid (ctx_no hv)
    clear hv
    go_wp2
    go_ret
    exact ⟨ret_str HF.out.symm, hX0.trans hx1⟩
  have HF := Lib.hid (ctx_yes hv)
  have HSM := Lib.hid (lines_small hv)
  obtain ⟨hl2, hm2, hl3, hm3, hl1, hb0, hb4⟩ := vC_facts hv
  have HM2 := Lib.hid hm2
  have HM3 := Lib.hid hm3
  have hX1 := hX0.trans hx1
  have hB1 := HB0.out.ext hx1
  clear hv hm2 hm3 HB0 hX0 hx1
  have HB1 := Lib.hid hB1
  have HLA := Lib.hid (@linesK_all x)
  have HLL := Lib.hid (lines_len x)
  have d1 : w1.cell? ⟨w.heap.size, 1, none⟩ = some (.int .i64 x.bits) := hB1.cell 1
  have d3 : w1.cell? ⟨w.heap.size, 3, none⟩ = some (.slice A2 x.st.length c2) := hB1.cell 3
  have e5 : (⟨#[98, 105, 116, 115, 32]⟩ : ByteArray).size = 5 := rfl
  have j5 : ∀ w', (Op.stringOp .add (⟨#[98, 105, 116, 115, 32]⟩ : ByteArray) (dig x.bits)).run Tryz.prog w' = .ok (.string (⟨#[98, 105, 116, 115, 32]⟩ ++ dig x.bits)) w' := fun w' => run_string_add_sum w' _ _ (by rw [dig_size, e5]; omega)
  have HK : Hid (∀ w', Ext w1 w' → w'.cell? ⟨w.heap.size, 1, none⟩ = some (.int .i64 x.bits) ∧ w'.cell? ⟨w.heap.size, 3, none⟩ = some (.slice A2 x.st.length c2)) := fun w' q => ⟨(HB1.out.ext q).cell 1, (HB1.out.ext q).cell 3⟩
  clear hB1
  go_wp2
  go_region_held3 (fun w' => w'.cell? ⟨w.heap.size, 1, none⟩ = some (.int .i64 x.bits) ∧ w'.cell? ⟨w.heap.size, 3, none⟩ = some (.slice A2 x.st.length c2))
    (first | go_keep | exact HK.out _ (by assumption))
    (first
      | (go_at_call 28; (with_reducible refine (l45Row_any ⟨#[111, 110]⟩ A2 _ c2 x.st _ (H2.out.ext (hX1.trans (Ext.refl w1).drew)) hl2 HM2.out (by decide)).mono ?_); rintro e w5 ⟨rfl, hy5⟩; replace hy5 : Ext w1 w5 := Ext.trans (Ext.refl w1).drew hy5)
      | (go_at_call 29; (with_reducible refine (spec_FormatInt_small x.bits ⟨hb0, hb4⟩ _).mono ?_); rintro e w6 ⟨rfl, hy6⟩; replace hy6 : Ext w1 w6 := hy5.trans hy6))
  clear HK d1 d3 j5
  have ho : (w6.alloc (.cells #[.string (rowS ⟨#[111, 110]⟩ x.st), .string (⟨#[98, 105, 116, 115, 32]⟩ ++ dig x.bits)] 9)).ownsRow w1.heap.size 9 1 (.slice (some ⟨w6.heap.size, 0, none⟩) 2 2) (2 + 0) (scells (linesK x 0)) := own_lit hy6 _ _ 1 2 _ _ rfl (by unfold linesK hdl; rfl) rfl (by omega)
  have hx7 : Ext w1 (w6.alloc (.cells #[.string (rowS ⟨#[111, 110]⟩ x.st), .string (⟨#[98, 105, 116, 115, 32]⟩ ++ dig x.bits)] 9)) := hy6.alloc _
  go_upto_region 4 with (fail)
  generalize (w6.alloc (.cells #[.string (rowS ⟨#[111, 110]⟩ x.st), .string (⟨#[98, 105, 116, 115, 32]⟩ ++ dig x.bits)] 9)) = w7 at *
  generalize (Value.slice (some ⟨w6.heap.size, 0, none⟩) 2 2) = v7 at *
  clear hy6 hy5
  go_wp2
  go_loopw [3, 4] (fun v i wr => ∃ k : Nat, k ≤ x.ops.length ∧ i = .int .i64 k ∧ wr.ownsRow w1.heap.size 9 1 v (2 + k) (scells (linesK x k)) ∧ Ext w1 wr) (fun _ i _ => x.ops.length - (intOf i).toNat)
  case atStart => exact ⟨0, Nat.zero_le _, rfl, ho, hx7⟩
  case round =>
    obtain ⟨k, hk, rfl, hown, hx⟩ := hrel
    have hB := HB1.out.ext hx
    have d2 : wr.cell? ⟨w.heap.size, 2, none⟩ = some (.slice A1 x.ops.length c1) := hB.cell 2
    have d4 : wr.cell? ⟨w.heap.size, 4, none⟩ = some (.slice A3 x.fin.length c3) := hB.cell 4
    clear hB
    by_cases hlt : k < x.ops.length
    · obtain ⟨b, o, y, hA, hb, hy, r0, r1, r2, r3, r4, r5, r6, r7⟩ := op_at (H1.out.ext (hX1.trans hx)) hlt
      have HS := Lib.hid (linesK_snoc hy)
      rw [hA] at d2
      clear hy hA
      have hk0 : (0 : Int) ≤ (k : Int) := by omega
      have hkn : (k : Int) < (x.ops.length : Int) := by omega
      go_wp2_with fail
      refine (spec_FormatOp_any y _).mono ?_
      rintro e w8 ⟨rfl, hx8⟩
      clear r0 r1 r2 r3 r4 r5 r6 r7 d2 d4
      go_wp2_with (at_builtin; refine appStr (w0 := w1) rfl _ _ rfl _ _ (linesK x k) rfl (own_ext hown hx8) (hx.trans hx8) (otx y) _ _ rfl rfl (by omega) ?_; intro v9 w9 ho9 hx9 hg9 hb9)
      go_roundw
      case rel => exact ⟨k + 1, by omega, by go_num, by rw [HS.out]; exact ho9, hx9⟩
      case measure => simp [intOf]; omega
    · obtain rfl : k = x.ops.length := by omega
      clear hlt
      go_wp2_with fail
      refine (l45Row_any ⟨#[97, 116]⟩ A3 _ c3 x.fin _ (H3.out.ext (hX1.trans hx)) hl3 HM3.out (by decide)).mono ?_
      rintro e w8 ⟨rfl, hx8⟩
      clear d2 d4
      go_wp2_with (at_builtin; refine appStr (w0 := w1) rfl _ _ rfl _ _ (linesK x x.ops.length) rfl (own_ext hown hx8) (hx.trans hx8) (rowS ⟨#[97, 116]⟩ x.fin) _ _ rfl rfl (by omega) ?_; intro v9 w9 ho9 hx9 hg9 hb9)
      rw [HLA.out] at ho9
      obtain ⟨A9, c9, rfl, hr9⟩ := own_slice ho9
      refine (spec_Join_any A9 _ c9 (lines x) ⟨#[10]⟩ _ hr9 (by omega) HSM.out (by decide)).mono ?_
      rintro e w10 ⟨rfl, hx10⟩
      go_wp2
      go_ret
      exact ⟨ret_str HF.out.symm, hX1.trans (hx9.trans hx10)⟩
theorem spec_FormatCompiled_own {b0 b1 b2 b3 : Nat} (v : Value) (x : Cm) (w : World) (h : CmOwn w b0 b1 b2 b3 v x) (hs : x.small) : Calls Tryz.prog 13 #[v] w fun e w' => e = .returned (.string (ctx x)) ∧ Ext w w' := by
  obtain ⟨A1, A2, A3, c1, c2, c3, rfl, h1, _, h2, _, h3, _⟩ := h
  exact spec_FormatCompiled_cap A1 A2 A3 c1 c2 c3 x w (Rd.own h1) (Rd.own h2) (Rd.own h3) (own_cap h2) (own_cap h3) hs
set_option maxRecDepth 100000 in
set_option maxHeartbeats 8000000 in
theorem impl_FormatCompiled_at (v : Value) (x : Cm) (w : World) (h : CmAt w w.heap.size v x) (hs : x.small) (hg : GN w) : Calls Tryz.prog 17 #[v] w fun e w' => e = .returned (.string (ctx x)) ∧ Ext w w' := by
  obtain ⟨A1, A2, A3, c1, c2, c3, rfl, z1, z2, z3⟩ := id h
  have HV : Hid (∀ w', Ext w w' → Calls Tryz.prog 36 #[.agg #[.int .i64 x.n, .int .i64 x.bits, .slice A1 x.ops.length c1, .slice A2 x.st.length c2, .slice A3 x.fin.length c3]] w' fun e w'' => e = .returned (.bool (vC x)) ∧ Ext w' w'') := fun w' q => impl_IsValidCompiled_at _ x w' ⟨A1, A2, A3, c1, c2, c3, rfl, z1.ext q, z2.ext q, z3.ext q⟩ hs
  have hat := h
  clear z1 z2 z3
  have HGN := Lib.hid hg
  clear hg
  obtain ⟨_, _, _, _, _, _, e, h1, h2, h3⟩ := hat
  simp only [Value.agg.injEq, Array.mk.injEq, List.cons.injEq, Value.slice.injEq, true_and, and_true] at e
  obtain ⟨⟨rfl, rfl⟩, ⟨rfl, rfl⟩, rfl, rfl⟩ := e
  have H1 := Lib.hid h1
  have H2 := Lib.hid h2
  have H3 := Lib.hid h3
  clear h h1 h2 h3 hs
  go_enter Tryz.func17, Tryz.ntmps17
  go_upto_region 1 with (fail)
  have hB0 : Blk (w.alloc (.cells #[.int .i64 x.n, .int .i64 x.bits, .slice A1 x.ops.length c1, .slice A2 x.st.length c2, .slice A3 x.fin.length c3] 25)) w.heap.size 25 #[.int .i64 x.n, .int .i64 x.bits, .slice A1 x.ops.length c1, .slice A2 x.st.length c2, .slice A3 x.fin.length c3] := Blk.new _ _ _
  have hX0 : Ext w (w.alloc (.cells #[.int .i64 x.n, .int .i64 x.bits, .slice A1 x.ops.length c1, .slice A2 x.st.length c2, .slice A3 x.fin.length c3] 25)) := (Ext.refl w).alloc _
  generalize (w.alloc (.cells #[.int .i64 x.n, .int .i64 x.bits, .slice A1 x.ops.length c1, .slice A2 x.st.length c2, .slice A3 x.fin.length c3] 25)) = Wb at *
  have HB0 := Lib.hid hB0
  have d0 : Wb.cell? ⟨w.heap.size, 0, none⟩ = some (.int .i64 x.n) := hB0.cell 0
  have d1 : Wb.cell? ⟨w.heap.size, 1, none⟩ = some (.int .i64 x.bits) := hB0.cell 1
  have d2 : Wb.cell? ⟨w.heap.size, 2, none⟩ = some (.slice A1 x.ops.length c1) := hB0.cell 2
  have d3 : Wb.cell? ⟨w.heap.size, 3, none⟩ = some (.slice A2 x.st.length c2) := hB0.cell 3
  have d4 : Wb.cell? ⟨w.heap.size, 4, none⟩ = some (.slice A3 x.fin.length c3) := hB0.cell 4
  clear hB0
  go_wp2_with fail
  refine (HV.out _ hX0).mono ?_
  rintro e w1 ⟨rfl, hx1⟩
  clear d0 d1 d2 d3 d4
  cases hv : vC x
  · have HF := Lib.hid (ctx_no hv)
    clear hv
    go_wp2
    go_ret
    exact ⟨ret_str HF.out.symm, hX0.trans hx1⟩
  have HF := Lib.hid (ctx_yes hv)
  have HSM := Lib.hid (lines_small hv)
  obtain ⟨hl2, hm2, hl3, hm3, hl1, hb0, hb4⟩ := vC_facts hv
  have HM2 := Lib.hid hm2
  have HM3 := Lib.hid hm3
  have hX1 := hX0.trans hx1
  have hB1 := HB0.out.ext hx1
  clear hv hm2 hm3 HB0 hX0 hx1
  have HB1 := Lib.hid hB1
  have HLA := Lib.hid (@linesK_all x)
  have HLL := Lib.hid (lines_len x)
  have d1 : w1.cell? ⟨w.heap.size, 1, none⟩ = some (.int .i64 x.bits) := hB1.cell 1
  have d3 : w1.cell? ⟨w.heap.size, 3, none⟩ = some (.slice A2 x.st.length c2) := hB1.cell 3
  have e5 : (⟨#[98, 105, 116, 115, 32]⟩ : ByteArray).size = 5 := rfl
  have j5 : ∀ w', (Op.stringOp .add (⟨#[98, 105, 116, 115, 32]⟩ : ByteArray) (dig x.bits)).run Tryz.prog w' = .ok (.string (⟨#[98, 105, 116, 115, 32]⟩ ++ dig x.bits)) w' := fun w' => run_string_add_sum w' _ _ (by rw [dig_size, e5]; omega)
  have jO : ∀ w', (Op.stringOp .add (⟨#[111, 110]⟩ : ByteArray) (rowS ⟨#[]⟩ x.st)).run Tryz.prog w' = .ok (.string (rowS ⟨#[111, 110]⟩ x.st)) w' := fun w' => (run_string_add_sum w' _ _ (by rw [rowS_size]; have e0 : (⟨#[]⟩ : ByteArray).size = 0 := rfl; have e6 : (⟨#[111, 110]⟩ : ByteArray).size = 2 := rfl; omega)).trans (by rw [rowS_app]; rfl)
  have jA : ∀ w', (Op.stringOp .add (⟨#[97, 116]⟩ : ByteArray) (rowS ⟨#[]⟩ x.fin)).run Tryz.prog w' = .ok (.string (rowS ⟨#[97, 116]⟩ x.fin)) w' := fun w' => (run_string_add_sum w' _ _ (by rw [rowS_size]; have e0 : (⟨#[]⟩ : ByteArray).size = 0 := rfl; have e6 : (⟨#[97, 116]⟩ : ByteArray).size = 2 := rfl; omega)).trans (by rw [rowS_app]; rfl)
  have JA := Lib.hid jA
  clear jA
  have HK : Hid (∀ w', Ext w1 w' → w'.cell? ⟨w.heap.size, 1, none⟩ = some (.int .i64 x.bits) ∧ w'.cell? ⟨w.heap.size, 3, none⟩ = some (.slice A2 x.st.length c2)) := fun w' q => ⟨(HB1.out.ext q).cell 1, (HB1.out.ext q).cell 3⟩
  clear hB1
  go_wp2
  go_region_held3 (fun w' => w'.cell? ⟨w.heap.size, 1, none⟩ = some (.int .i64 x.bits) ∧ w'.cell? ⟨w.heap.size, 3, none⟩ = some (.slice A2 x.st.length c2))
    (first | go_keep | exact HK.out _ (by assumption))
    (first
      | (go_at_call 37; (with_reducible refine (impl_spaced_any A2 _ c2 x.st _ (H2.out.ext (hX1.trans (Ext.refl w1).drew)) hl2 HM2.out).mono ?_); rintro e w5 ⟨rfl, hy5⟩; replace hy5 : Ext w1 w5 := Ext.trans (Ext.refl w1).drew hy5)
      | (go_at_call 38; (with_reducible refine (impl_FormatInt_small x.bits ⟨hb0, hb4⟩ _).mono ?_); rintro e w6 ⟨rfl, hy6⟩; replace hy6 : Ext w1 w6 := hy5.trans hy6))
  clear HK d1 d3 j5 jO
  have ho : (w6.alloc (.cells #[.string (rowS ⟨#[111, 110]⟩ x.st), .string (⟨#[98, 105, 116, 115, 32]⟩ ++ dig x.bits)] 9)).ownsRow w1.heap.size 9 1 (.slice (some ⟨w6.heap.size, 0, none⟩) 2 2) (2 + 0) (scells (linesK x 0)) := own_lit hy6 _ _ 1 2 _ _ rfl (by unfold linesK hdl; rfl) rfl (by omega)
  have hx7 : Ext w1 (w6.alloc (.cells #[.string (rowS ⟨#[111, 110]⟩ x.st), .string (⟨#[98, 105, 116, 115, 32]⟩ ++ dig x.bits)] 9)) := hy6.alloc _
  go_upto_region 4 with (fail)
  generalize (w6.alloc (.cells #[.string (rowS ⟨#[111, 110]⟩ x.st), .string (⟨#[98, 105, 116, 115, 32]⟩ ++ dig x.bits)] 9)) = w7 at *
  generalize (Value.slice (some ⟨w6.heap.size, 0, none⟩) 2 2) = v7 at *
  clear hy6 hy5
  have d2 : w7.cell? ⟨w.heap.size, 2, none⟩ = some (.slice A1 x.ops.length c1) := (HB1.out.ext hx7).cell 2
  go_wp2
  go_loopw [3, 21] (fun v i wr => ∃ k : Nat, k ≤ x.ops.length ∧ i = .int .i64 k ∧ wr.ownsRow w1.heap.size 9 1 v (2 + k) (scells (linesK x k)) ∧ Ext w1 wr) (fun _ i _ => x.ops.length - (intOf i).toNat)
  case atStart => exact ⟨0, Nat.zero_le _, rfl, ho, hx7⟩
  case round =>
    clear d2
    obtain ⟨k, hk, rfl, hown, hx⟩ := hrel
    have hB := HB1.out.ext hx
    have d4 : wr.cell? ⟨w.heap.size, 4, none⟩ = some (.slice A3 x.fin.length c3) := hB.cell 4
    clear hB
    by_cases hlt : k < x.ops.length
    · obtain ⟨b, o, y, rfl, hb, hy, r0, r1, r2, r3, r4, r5, r6, r7⟩ := op_at (H1.out.ext (hX1.trans hx)) hlt
      have HS := Lib.hid (linesK_snoc hy)
      clear hy
      have hk0 : (0 : Int) ≤ (k : Int) := by omega
      have hkn : (k : Int) < (x.ops.length : Int) := by omega
      go_wp2_with fail
      refine (impl_FormatOp_any y _ (HGN.out.ext (hX1.trans (hx.alloc _)))).mono ?_
      rintro e w8 ⟨rfl, hx8⟩
      replace hx8 : Ext wr w8 := Ext.trans ((Ext.refl wr).alloc _) hx8
      clear r0 r1 r2 r3 r4 r5 r6 r7 d4
      go_wp2_with (at_builtin; refine appStr (w0 := w1) rfl _ _ rfl _ _ (linesK x k) rfl (own_ext hown hx8) (hx.trans hx8) (otx y) _ _ rfl rfl (by omega) ?_; intro v9 w9 ho9 hx9 hg9 hb9)
      go_roundw
      case rel => exact ⟨k + 1, by omega, by go_num, by rw [HS.out]; exact ho9, hx9⟩
      case measure => simp [intOf]; omega
    · obtain rfl : k = x.ops.length := by omega
      clear hlt
      have jA := JA.out
      go_wp2_with fail
      refine (impl_spaced_any A3 _ c3 x.fin _ (H3.out.ext (hX1.trans hx)) hl3 HM3.out).mono ?_
      rintro e w8 ⟨rfl, hx8⟩
      clear d4
      go_wp2_with (at_builtin; refine appStr (w0 := w1) rfl _ _ rfl _ _ (linesK x x.ops.length) rfl (own_ext hown hx8) (hx.trans hx8) (rowS ⟨#[97, 116]⟩ x.fin) _ _ rfl rfl (by omega) ?_; intro v9 w9 ho9 hx9 hg9 hb9)
      rw [HLA.out] at ho9
      refine (impl_Join_own _ _ _ (lines x) ⟨#[10]⟩ _ ho9 (by omega) (by omega) HSM.out (by decide)).mono ?_
      rintro e w10 ⟨rfl, hx10⟩
      go_wp2
      go_ret
      exact ⟨ret_str HF.out.symm, hX1.trans (hx9.trans hx10)⟩
end Go.Proofs.YteecjnnompjmiacGreatDoor
