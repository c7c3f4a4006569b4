/-
  Helper text (no claim of its own): the text of a gate, by the program and by the reference. Printed by gen_fgt.py.
-/
import Derived.Test.YteecjnnompjmiacGreatDoorGn
import Derived.Test.YteecjnnompjmiacGreatDoorGq
namespace Go.Proofs.YteecjnnompjmiacGreatDoor
open Go.ChangeShapes Go.WideShapes Go.ChangeAt Go.RowKit Go.Deep
set_option linter.unusedVariables false
theorem vg_q {g : Gt} {n : Int} (h : vg g n = true) {k : Nat} {q : Int} (hq : (qus g)[k]? = some q) : 0 ≤ q ∧ q ≤ n - 1 := by
  have hlt : k < (qus g).length := (List.getElem?_eq_some_iff.1 hq).1
  rw [qus_len] at hlt
  have hq' : (qs g)[k]? = some q := by
    unfold qus at hq
    rw [List.getElem?_take_of_lt hlt] at hq
    exact hq
  rcases (by omega : (0 ≤ q ∧ q ≤ n - 1) ∨ (q < 0 ∨ n - 1 < q)) with h1 | h1
  · exact h1
  · have := vg_bad hq' (okI_out (n := n) (i := k) (by omega) h1)
    rw [this] at h
    cases h
theorem gtx_no {g : Gt} (h : vg g 4 = false) : gtx g = ⟨#[]⟩ := by unfold gtx; rw [if_neg (by rw [h]; decide)]
theorem gtx_yes {g : Gt} (h : vg g 4 = true) : gtx g = rowS (gnm g.k) (qus g) := by unfold gtx; rw [if_pos h]
theorem joins2 (s : ByteArray) (q : Int) (hs : s.size ≤ 100000000) :
    (∀ w, (Op.stringOp .add s ⟨#[32]⟩).run Tryz.prog w = .ok (.string (s ++ ⟨#[32]⟩)) w) ∧ (∀ w, (Op.stringOp .add (s ++ ⟨#[32]⟩) (dig q)).run Tryz.prog w = .ok (.string (s ++ ⟨#[32]⟩ ++ dig q)) w) := by
  have e1 : (⟨#[32]⟩ : ByteArray).size = 1 := rfl
  exact ⟨fun w => run_string_add_sum w _ _ (by rw [e1]; omega), fun w => run_string_add_sum w _ _ (by rw [ByteArray.size_append, e1, dig_size]; omega)⟩
set_option maxRecDepth 100000 in
set_option maxHeartbeats 4000000 in
theorem spec_FormatGate_any (g : Gt) (w : World) : Calls Tryz.prog 42 #[g.val] w fun e w' => e = .returned (.string (gtx g)) ∧ Ext w w' := by
  go_enter Tryz.func42, Tryz.ntmps42
  go_upto_region 1 with (fail)
  have hB0 : Blk (w.alloc (.cells #[.int .i64 g.k, .int .i64 g.a, .int .i64 g.b, .int .i64 g.c] 37)) w.heap.size 37 #[.int .i64 g.k, .int .i64 g.a, .int .i64 g.b, .int .i64 g.c] := Blk.new _ _ _
  have hX0 : Ext w (w.alloc (.cells #[.int .i64 g.k, .int .i64 g.a, .int .i64 g.b, .int .i64 g.c] 37)) := (Ext.refl w).alloc _
  generalize (w.alloc (.cells #[.int .i64 g.k, .int .i64 g.a, .int .i64 g.b, .int .i64 g.c] 37)) = Wb at *
  have HB0 := Lib.hid hB0
  have d0 : Wb.cell? ⟨w.heap.size, 0, none⟩ = some (.int .i64 g.k) := hB0.cell 0
  have d1 : Wb.cell? ⟨w.heap.size, 1, none⟩ = some (.int .i64 g.a) := hB0.cell 1
  have d2 : Wb.cell? ⟨w.heap.size, 2, none⟩ = some (.int .i64 g.b) := hB0.cell 2
  have d3 : Wb.cell? ⟨w.heap.size, 3, none⟩ = some (.int .i64 g.c) := hB0.cell 3
  clear hB0
  go_wp2_with fail
  refine (spec_IsValidGate_any g 4 _).mono ?_
  rintro e w1 ⟨rfl, hx1⟩
  clear d0 d1 d2 d3
  cases hv : vg g 4
  · have HF := Lib.hid (gtx_no hv)
    clear hv
    go_wp2
    go_ret
    exact ⟨ret_str HF.out.symm, hX0.trans hx1⟩
  have HF := Lib.hid (gtx_yes hv)
  have HV := Lib.hid hv
  clear hv
  have d0 : w1.cell? ⟨w.heap.size, 0, none⟩ = some (.int .i64 g.k) := (HB0.out.ext hx1).cell 0
  have d1 : w1.cell? ⟨w.heap.size, 1, none⟩ = some (.int .i64 g.a) := (HB0.out.ext hx1).cell 1
  have d2 : w1.cell? ⟨w.heap.size, 2, none⟩ = some (.int .i64 g.b) := (HB0.out.ext hx1).cell 2
  have d3 : w1.cell? ⟨w.heap.size, 3, none⟩ = some (.int .i64 g.c) := (HB0.out.ext hx1).cell 3
  go_wp2_with fail
  refine (spec_GateName_any g.k _).mono ?_
  rintro e w2 ⟨rfl, hx2⟩
  replace hx2 := hx1.trans hx2
  clear d0 d1 d2 d3
  clear hx1
  have d0 : w2.cell? ⟨w.heap.size, 0, none⟩ = some (.int .i64 g.k) := (HB0.out.ext hx2).cell 0
  have d1 : w2.cell? ⟨w.heap.size, 1, none⟩ = some (.int .i64 g.a) := (HB0.out.ext hx2).cell 1
  have d2 : w2.cell? ⟨w.heap.size, 2, none⟩ = some (.int .i64 g.b) := (HB0.out.ext hx2).cell 2
  have d3 : w2.cell? ⟨w.heap.size, 3, none⟩ = some (.int .i64 g.c) := (HB0.out.ext hx2).cell 3
  go_wp2_with fail
  refine (spec_GateQubits_any g _).mono ?_
  rintro e w3 ⟨v3, rfl, ho3, hx3⟩
  obtain ⟨A3, c3, rfl, hr3⟩ := own_slice ho3
  clear ho3
  replace hx3 := hx2.trans hx3
  clear d0 d1 d2 d3
  clear hx2
  have hl3 := qus_len3 g
  have hns := gnm_size g.k
  have HQ : Hid (∀ {k : Nat} {q : Int}, (qus g)[k]? = some q → 0 ≤ q ∧ q ≤ 4) := fun {k q} h => ⟨(vg_q HV.out h).1, by have := (vg_q HV.out h).2; omega⟩
  generalize hqs : qus g = qq at *
  generalize hnm : gnm g.k = nm at *
  have HQS := Lib.hid hqs
  have HNM := Lib.hid hnm
  clear hqs hnm
  obtain ⟨len, hlen⟩ : ∃ len, len = qq.length := ⟨_, rfl⟩
  rw [← hlen] at hl3 hr3 ⊢
  have HL := Lib.hid hlen
  have HR := Lib.hid hr3
  clear hlen hr3
  go_wp2
  go_loopw [3, 5] (fun s i wr => ∃ k : Nat, k ≤ len ∧ i = .int .i64 k ∧ s = .string (rowS nm (qq.take k)) ∧ Ext w3 wr) (fun _ i _ => len - (intOf i).toNat)
  case atStart => exact ⟨0, Nat.zero_le _, rfl, rfl, Ext.refl _⟩
  case round =>
    obtain ⟨k, hk, rfl, rfl, hx⟩ := hrel
    by_cases hlt : k < len
    · obtain ⟨b, o, q, rfl, hb, hq, r0⟩ := int_at (HR.out.ext hx) hlt
      have HS := Lib.hid (rowS_snoc nm hq)
      obtain ⟨q0, q4⟩ := HQ.out hq
      clear hq
      have hk0 : (0 : Int) ≤ (k : Int) := by omega
      have hkn : (k : Int) < (len : Int) := by omega
      have hsz := rowS_size nm (qq.take k)
      have htl : (qq.take k).length ≤ k := List.length_take_le _ _
      generalize hss : rowS nm (qq.take k) = ss at *
      clear hss
      obtain ⟨j1, j2⟩ := joins2 ss q (by omega)
      clear hsz htl
      go_wp2_with fail
      refine (spec_FormatInt_small q ⟨by omega, by omega⟩ _).mono ?_
      rintro e w5 ⟨rfl, hy5⟩
      replace hy5 := hx.trans hy5
      go_wp2
      go_roundw
      case rel => exact ⟨k + 1, by omega, by go_num, by rw [HS.out], hy5⟩
      case measure => simp [intOf]; omega
    · rw [List.take_of_length_le (by have := HL.out; omega)]
      have hge : ¬ ((k : Int) < (len : Int)) := by omega
      go_wp2
      go_ret
      exact ⟨ret_str (by rw [HF.out]), hX0.trans (hx3.trans hx)⟩
set_option maxRecDepth 100000 in
set_option maxHeartbeats 4000000 in
theorem impl_FormatGate_any (g : Gt) (w : World) (hg : GN w) : Calls Tryz.prog 52 #[g.val] w fun e w' => e = .returned (.string (gtx g)) ∧ Ext w w' := by
  have HGN := Lib.hid hg
  clear hg
  go_enter Tryz.func52, Tryz.ntmps52
  go_upto_region 1 with (fail)
  have hB0 : Blk (w.alloc (.cells #[.int .i64 g.k, .int .i64 g.a, .int .i64 g.b, .int .i64 g.c] 37)) w.heap.size 37 #[.int .i64 g.k, .int .i64 g.a, .int .i64 g.b, .int .i64 g.c] := Blk.new _ _ _
  have hX0 : Ext w (w.alloc (.cells #[.int .i64 g.k, .int .i64 g.a, .int .i64 g.b, .int .i64 g.c] 37)) := (Ext.refl w).alloc _
  generalize (w.alloc (.cells #[.int .i64 g.k, .int .i64 g.a, .int .i64 g.b, .int .i64 g.c] 37)) = Wb at *
  have HB0 := Lib.hid hB0
  have d0 : Wb.cell? ⟨w.heap.size, 0, none⟩ = some (.int .i64 g.k) := hB0.cell 0
  have d1 : Wb.cell? ⟨w.heap.size, 1, none⟩ = some (.int .i64 g.a) := hB0.cell 1
  have d2 : Wb.cell? ⟨w.heap.size, 2, none⟩ = some (.int .i64 g.b) := hB0.cell 2
  have d3 : Wb.cell? ⟨w.heap.size, 3, none⟩ = some (.int .i64 g.c) := hB0.cell 3
  clear hB0
  go_wp2_with fail
  refine (impl_IsValidGate_any g 4 _).mono ?_
  rintro e w1 ⟨rfl, hx1⟩
  clear d0 d1 d2 d3
  cases hv : vg g 4
  · have HF := Lib.hid (gtx_no hv)
    clear hv
    go_wp2
    go_ret
    exact ⟨ret_str HF.out.symm, hX0.trans hx1⟩
  have HF := Lib.hid (gtx_yes hv)
  have HV := Lib.hid hv
  clear hv
  have d0 : w1.cell? ⟨w.heap.size, 0, none⟩ = some (.int .i64 g.k) := (HB0.out.ext hx1).cell 0
  have d1 : w1.cell? ⟨w.heap.size, 1, none⟩ = some (.int .i64 g.a) := (HB0.out.ext hx1).cell 1
  have d2 : w1.cell? ⟨w.heap.size, 2, none⟩ = some (.int .i64 g.b) := (HB0.out.ext hx1).cell 2
  have d3 : w1.cell? ⟨w.heap.size, 3, none⟩ = some (.int .i64 g.c) := (HB0.out.ext hx1).cell 3
  go_wp2_with fail
  refine (impl_GateName_any g.k _ (HGN.out.ext (hX0.trans hx1))).mono ?_
  rintro e w2 ⟨rfl, hx2⟩
  replace hx2 := hx1.trans hx2
  clear d0 d1 d2 d3
  clear hx1
  have d0 : w2.cell? ⟨w.heap.size, 0, none⟩ = some (.int .i64 g.k) := (HB0.out.ext hx2).cell 0
  have d1 : w2.cell? ⟨w.heap.size, 1, none⟩ = some (.int .i64 g.a) := (HB0.out.ext hx2).cell 1
  have d2 : w2.cell? ⟨w.heap.size, 2, none⟩ = some (.int .i64 g.b) := (HB0.out.ext hx2).cell 2
  have d3 : w2.cell? ⟨w.heap.size, 3, none⟩ = some (.int .i64 g.c) := (HB0.out.ext hx2).cell 3
  go_wp2_with fail
  refine (impl_GateQubits_any g _).mono ?_
  rintro e w3 ⟨A3, c3, rfl, hr3, hx3⟩
  replace hx3 := hx2.trans hx3
  clear d0 d1 d2 d3
  clear hx2
  have hl3 := qus_len3 g
  have hns := gnm_size g.k
  have HQ : Hid (∀ {k : Nat} {q : Int}, (qus g)[k]? = some q → 0 ≤ q ∧ q ≤ 4) := fun {k q} h => ⟨(vg_q HV.out h).1, by have := (vg_q HV.out h).2; omega⟩
  generalize hqs : qus g = qq at *
  generalize hnm : gnm g.k = nm at *
  have HQS := Lib.hid hqs
  have HNM := Lib.hid hnm
  clear hqs hnm
  obtain ⟨len, hlen⟩ : ∃ len, len = qq.length := ⟨_, rfl⟩
  rw [← hlen] at hl3 hr3 ⊢
  have HL := Lib.hid hlen
  have HR := Lib.hid hr3
  clear hlen hr3
  go_wp2
  go_loopw [3, 15] (fun s i wr => ∃ k : Nat, k ≤ len ∧ i = .int .i64 k ∧ s = .string (rowS nm (qq.take k)) ∧ Ext w3 wr) (fun _ i _ => len - (intOf i).toNat)
  case atStart => exact ⟨0, Nat.zero_le _, rfl, rfl, Ext.refl _⟩
  case round =>
    obtain ⟨k, hk, rfl, rfl, hx⟩ := hrel
    by_cases hlt : k < len
    · obtain ⟨b, o, q, rfl, hb, hq, r0⟩ := int_at (HR.out.ext hx) hlt
      have HS := Lib.hid (rowS_snoc nm hq)
      obtain ⟨q0, q4⟩ := HQ.out hq
      clear hq
      have hk0 : (0 : Int) ≤ (k : Int) := by omega
      have hkn : (k : Int) < (len : Int) := by omega
      have hsz := rowS_size nm (qq.take k)
      have htl : (qq.take k).length ≤ k := List.length_take_le _ _
      generalize hss : rowS nm (qq.take k) = ss at *
      clear hss
      obtain ⟨j1, j2⟩ := joins2 ss q (by omega)
      clear hsz htl
      go_wp2_with fail
      refine (impl_FormatInt_small q ⟨by omega, by omega⟩ _).mono ?_
      rintro e w5 ⟨rfl, hy5⟩
      replace hy5 := hx.trans hy5
      go_wp2
      go_roundw
      case rel => exact ⟨k + 1, by omega, by go_num, by rw [HS.out], hy5⟩
      case measure => simp [intOf]; omega
    · rw [List.take_of_length_le (by have := HL.out; omega)]
      have hge : ¬ ((k : Int) < (len : Int)) := by omega
      go_wp2
      go_ret
      exact ⟨ret_str (by rw [HF.out]), hX0.trans (hx3.trans hx)⟩
end Go.Proofs.YteecjnnompjmiacGreatDoor
