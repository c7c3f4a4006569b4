/-
  Helper text (no claim of its own): the report, by the reference. Printed by gen_spr.py.
-/
import Derived.Test.YtngpkboocpaikabDoorImr
import Derived.Test.YtngpkboocpaikabDoorFii
namespace Go.Proofs.YtngpkboocpaikabDoor
open Go.ChangeShapes Go.WideShapes Go.ChangeAt Go.RowKit Go.Deep
set_option linter.unusedVariables false
set_option linter.unusedSimpArgs false
set_option maxRecDepth 100000 in
set_option maxHeartbeats 1000000 in
theorem spec_OpGates_big (A : Option Addr) (n c : Nat) (xs : List Oq) (w : World) (h : Rd w w.heap.size 8 A n (ocells xs)) (hn : n ≤ 16000000) :
    Calls Tryd.prog 14 #[.slice A n c] w fun e w' => ∃ v, e = .returned v ∧ w'.ownsRow w.heap.size 59 4 v (opGates xs).length (gcells (opGates xs)) ∧ Ext w w' := by
  have hlen := Lib.hid (h.len Oq.cells_len (by omega))
  go_enter Tryd.func14, Tryd.ntmps14
  go_wp2
  go_loopw [3, 4] (fun v i wr => ∃ k : Nat, k ≤ n ∧ i = .int .i64 k ∧ wr.ownsRow w.heap.size 59 4 v (opGates (xs.take k)).length (gcells (opGates (xs.take k))) ∧ Ext w wr) (fun _ i _ => n - (intOf i).toNat)
  case atStart => exact ⟨0, Nat.zero_le _, rfl, own_empty w w _ _ (Ext.refl _), (by repeat (first | exact Ext.refl _ | assumption | refine Ext.alloc ?_ _ | refine Ext.drewN ?_ _ | refine Ext.drew ?_))⟩
  case round =>
    obtain ⟨k, hk, rfl, hown, hx⟩ := hrel
    by_cases hlt : k < n
    · obtain ⟨b, o, x, rfl, hb, hg, h0, h1, h2, h3, h4, h5, h6, h7⟩ := op_at (h.ext hx) hlt
      have HG := Lib.hid hg
      clear hg
      have hle := opGates_len xs k
      cases hk1 : (x.k == 1)
      · have HS := Lib.hid (opGates_no HG.out hk1)
        go_wp2
        go_roundw
        case rel => exact ⟨k + 1, by omega, by go_num, by rw [HS.out]; exact hown, hx⟩
        case measure => simp [intOf]; omega
      · have HS := Lib.hid (opGates_yes HG.out hk1)
        go_wp2_with (at_builtin; refine appGate rfl _ _ rfl _ _ (opGates (xs.take k)) rfl hown hx x.g _ _ rfl rfl (by omega) ?_; intro v1 w1 hown1 hx1 hg1 hb1)
        go_roundw
        case rel => exact ⟨k + 1, by omega, by go_num, by rw [HS.out, List.length_append]; exact hown1, hx1⟩
        case measure => simp [intOf]; omega
    · rw [List.take_of_length_le (by rw [hlen.out]; omega)] at hown
      go_wp2
      go_ret
      exact ⟨_, rfl, hown, hx⟩


/-- The report as the reference joins it. -/
def spt (n0 m0 n1 m1 n2 m2 : ByteArray) : ByteArray := (⟨#[103, 97, 116, 101, 115, 32]⟩ : ByteArray) ++ n0 ++ ⟨#[32]⟩ ++ m0 ++ ⟨#[32, 116, 32]⟩ ++ n1 ++ ⟨#[32]⟩ ++ m1 ++ ⟨#[32, 116, 119, 111, 32]⟩ ++ n2 ++ ⟨#[32]⟩ ++ m2
theorem spt_rep (f g : Nat → Nat) : spt (num (f 0)) (num (g 0)) (num (f 1)) (num (g 1)) (num (f 2)) (num (g 2)) = rep f g 3 := by
  have e1 : (⟨#[103, 97, 116, 101, 115, 32]⟩ : ByteArray) = ⟨#[]⟩ ++ wrd 0 ++ ⟨#[32]⟩ := rfl
  have e2 : (⟨#[32, 116, 32]⟩ : ByteArray) = wrd 1 ++ ⟨#[32]⟩ := rfl
  have e3 : (⟨#[32, 116, 119, 111, 32]⟩ : ByteArray) = wrd 2 ++ ⟨#[32]⟩ := rfl
  show spt (num (f 0)) (num (g 0)) (num (f 1)) (num (g 1)) (num (f 2)) (num (g 2)) = ⟨#[]⟩ ++ wrd 0 ++ ⟨#[32]⟩ ++ num (f 0) ++ ⟨#[32]⟩ ++ num (g 0) ++ wrd 1 ++ ⟨#[32]⟩ ++ num (f 1) ++ ⟨#[32]⟩ ++ num (g 1) ++ wrd 2 ++ ⟨#[32]⟩ ++ num (f 2) ++ ⟨#[32]⟩ ++ num (g 2)
  unfold spt
  rw [e1, e2, e3]
  generalize wrd 0 = a
  generalize wrd 1 = b
  generalize wrd 2 = c
  simp only [ByteArray.append_assoc]
set_option maxRecDepth 100000 in
set_option maxHeartbeats 4000000 in
theorem spec_FormatReport_any (v u : Value) (x : Rt) (y : Cm) (w : World) (h : RtAt w w.heap.size v x) (h' : CmAt w w.heap.size u y) (hx : x.ops.length ≤ 1048576) (hy : y.ops.length ≤ 1048576) :
    Calls Tryd.prog 6 #[v, u] w fun e w' => e = .returned (.string (rep (pick (decG (opGates x.ops)).length (tcnt (decG (opGates x.ops))) (cntP isTwo (decG (opGates x.ops)))) (pick (opGates y.ops).length (tcnt (opGates y.ops)) (cntP isTwo (opGates y.ops))) 3)) ∧ Ext w w' := by
  obtain ⟨A1, c1, rfl, h1⟩ := h
  obtain ⟨B1, B2, B3, d1, d2, d3, rfl, k1, k2, k3⟩ := h'
  clear k2 k3
  have H1 := Lib.hid h1
  have K1 := Lib.hid k1
  have HLX : Hid (∃ m, x.ops.length = m) := ⟨_, rfl⟩
  clear h1 k1
  have hd0 : (decOps x.ops).length ≤ 15 * x.ops.length := by
    have := decOps_take x.ops x.ops.length
    rw [List.take_length] at this
    omega
  have hdl : (decG (opGates x.ops)).length ≤ 15 * (opGates x.ops).length := decG_len _
  have hol : (opGates x.ops).length ≤ x.ops.length := by
    have := opGates_len x.ops x.ops.length
    rw [List.take_length] at this
    exact this
  have hol6 : (opGates y.ops).length ≤ y.ops.length := by
    have := opGates_len y.ops y.ops.length
    rw [List.take_length] at this
    exact this
  rw [← spt_rep]
  show Calls Tryd.prog 6 _ w fun e w' => e = .returned (.string (spt (num (decG (opGates x.ops)).length) (num (opGates y.ops).length) (num (tcnt (decG (opGates x.ops)))) (num (tcnt (opGates y.ops))) (num (cntP isTwo (decG (opGates x.ops)))) (num (cntP isTwo (opGates y.ops))))) ∧ Ext w w'
  go_enter Tryd.func6, Tryd.ntmps6
  go_upto_region 1 with (fail)
  have hB0 : Blk (w.alloc (.cells #[.int .i64 x.n, .int .i64 x.inn, .int .i64 x.bits, .slice A1 x.ops.length c1] 33)) w.heap.size 33 #[.int .i64 x.n, .int .i64 x.inn, .int .i64 x.bits, .slice A1 x.ops.length c1] := Blk.new _ _ _
  have hs : (w.alloc (.cells #[.int .i64 x.n, .int .i64 x.inn, .int .i64 x.bits, .slice A1 x.ops.length c1] 33)).heap.size = w.heap.size + 1 := Array.size_push _
  have hX0 : Ext w (w.alloc (.cells #[.int .i64 x.n, .int .i64 x.inn, .int .i64 x.bits, .slice A1 x.ops.length c1] 33)) := (Ext.refl w).alloc _
  generalize (w.alloc (.cells #[.int .i64 x.n, .int .i64 x.inn, .int .i64 x.bits, .slice A1 x.ops.length c1] 33)) = W1 at *
  have hB1 : Blk (W1.alloc (.cells #[.int .i64 y.n, .int .i64 y.bits, .slice B1 y.ops.length d1, .slice B2 y.st.length d2, .slice B3 y.fin.length d3] 36)) W1.heap.size 36 #[.int .i64 y.n, .int .i64 y.bits, .slice B1 y.ops.length d1, .slice B2 y.st.length d2, .slice B3 y.fin.length d3] := Blk.new _ _ _
  rw [hs] at hB1
  replace hB0 := hB0.ext ((Ext.refl W1).alloc (.cells #[.int .i64 y.n, .int .i64 y.bits, .slice B1 y.ops.length d1, .slice B2 y.st.length d2, .slice B3 y.fin.length d3] 36))
  replace hX0 := hX0.alloc (.cells #[.int .i64 y.n, .int .i64 y.bits, .slice B1 y.ops.length d1, .slice B2 y.st.length d2, .slice B3 y.fin.length d3] 36)
  clear hs
  generalize (W1.alloc (.cells #[.int .i64 y.n, .int .i64 y.bits, .slice B1 y.ops.length d1, .slice B2 y.st.length d2, .slice B3 y.fin.length d3] 36)) = Wb at *
  have HB1 := Lib.hid hB1
  clear HLX
  have q3 : Wb.cell? ⟨w.heap.size, 3, none⟩ = some (.slice A1 x.ops.length c1) := hB0.cell 3
  clear hB0 hB1
  go_wp2_with fail
  refine (spec_DecomposeOps_any A1 _ c1 x.ops _ (H1.out.ext hX0) hx).mono ?_
  rintro e w2 ⟨v2, rfl, ho2, hx2⟩
  obtain ⟨A2, c2, rfl, hr2⟩ := own_slice ho2
  clear q3
  go_wp2_with fail
  refine (spec_OpGates_big A2 _ c2 (decOps x.ops) _ hr2 (by omega)).mono ?_
  rintro e w3 ⟨v3, rfl, ho3, hx3⟩
  rw [opGates_decOps] at ho3
  obtain ⟨A3, c3, rfl, hr3⟩ := own_slice ho3
  have hX3 : Ext Wb w3 := hx2.trans hx3
  clear ho2 ho3 hr2 hx2 hx3
  have htx : tcnt (decG (opGates x.ops)) ≤ 2 * (decG (opGates x.ops)).length := by
    have h7 := cntP_len (isK 7) (decG (opGates x.ops))
    have h8 := cntP_len (isK 8) (decG (opGates x.ops))
    unfold tcnt
    omega
  have hdx := cntP_len isTwo (decG (opGates x.ops))
  have hc1 := cntP_len isTwo (opGates y.ops)
  have hty : tcnt (opGates y.ops) ≤ 2 * (opGates y.ops).length := by
    have h7 := cntP_len (isK 7) (opGates y.ops)
    have h8 := cntP_len (isK 8) (opGates y.ops)
    unfold tcnt
    omega
  have HR3 := Lib.hid hr3
  clear hr3
  have q2 : w3.cell? ⟨w.heap.size + 1, 2, none⟩ = some (.slice B1 y.ops.length d1) := (HB1.out.ext hX3).cell 2
  generalize hf0 : (decG (opGates x.ops)).length = f0 at *
  go_upto_region 2 with (fail)
  have hB5 : Blk (w3.alloc (.cells #[.int .i64 0, .slice A3 f0 c3] 47)) w3.heap.size 47 #[.int .i64 0, .slice A3 f0 c3] := Blk.new _ _ _
  have hX5 : Ext Wb (w3.alloc (.cells #[.int .i64 0, .slice A3 f0 c3] 47)) := hX3.alloc _
  have hR5 := HR3.out.ext ((Ext.refl w3).alloc (.cells #[.int .i64 0, .slice A3 f0 c3] 47))
  have q2 : (w3.alloc (.cells #[.int .i64 0, .slice A3 f0 c3] 47)).cell? ⟨w.heap.size + 1, 2, none⟩ = some (.slice B1 y.ops.length d1) := (HB1.out.ext hX5).cell 2
  generalize (w3.alloc (.cells #[.int .i64 0, .slice A3 f0 c3] 47)) = W5 at *
  generalize w3.heap.size = b5 at *
  clear hX3 HR3
  have HR5 := Lib.hid hR5
  clear hR5
  go_wp2_with fail
  refine (spec_OpGates_any B1 _ d1 y.ops _ (K1.out.ext (hX0.trans hX5)) hy).mono ?_
  rintro e w6 ⟨v6, rfl, ho6, hx6⟩
  obtain ⟨A6, c6, rfl, hr6⟩ := own_slice ho6
  clear q2 ho6
  have HR6 := Lib.hid hr6
  clear hr6
  generalize hg0 : (opGates y.ops).length = g0 at *
  go_upto_region 3 with (fail)
  have hB8 : Blk (w6.alloc (.cells #[.int .i64 0, .slice A6 g0 c6] 47)) w6.heap.size 47 #[.int .i64 0, .slice A6 g0 c6] := Blk.new _ _ _
  have hX8 : Ext W5 (w6.alloc (.cells #[.int .i64 0, .slice A6 g0 c6] 47)) := hx6.alloc _
  have hR8 := HR6.out.ext ((Ext.refl w6).alloc (.cells #[.int .i64 0, .slice A6 g0 c6] 47))
  have hR7 := HR5.out.ext hX8
  generalize (w6.alloc (.cells #[.int .i64 0, .slice A6 g0 c6] 47)) = WW at *
  generalize w6.heap.size = b8 at *
  replace hB5 := hB5.ext hX8
  have hXW : Ext w WW := hX0.trans (hX5.trans hX8)
  clear HR5 HR6 hx6
  have HF0 : Hid (∀ w', Ext WW w' → Calls Tryd.prog 16 #[.int .i64 f0] w' fun e w'' => e = .returned (.string (num f0)) ∧ Ext w' w'') := fun w' q => spec_FormatInt_nat f0 (by omega) w'
  have HG0 : Hid (∀ w', Ext WW w' → Calls Tryd.prog 16 #[.int .i64 g0] w' fun e w'' => e = .returned (.string (num g0)) ∧ Ext w' w'') := fun w' q => spec_FormatInt_nat g0 (by omega) w'
  have HF1 : Hid (∀ w', Ext WW w' → Calls Tryd.prog 16 #[.int .i64 (tcnt (decG (opGates x.ops)))] w' fun e w'' => e = .returned (.string (num (tcnt (decG (opGates x.ops))))) ∧ Ext w' w'') := fun w' q => spec_FormatInt_nat _ (by omega) w'
  have HG1 : Hid (∀ w', Ext WW w' → Calls Tryd.prog 16 #[.int .i64 (tcnt (opGates y.ops))] w' fun e w'' => e = .returned (.string (num (tcnt (opGates y.ops)))) ∧ Ext w' w'') := fun w' q => spec_FormatInt_nat _ (by omega) w'
  have HF2 : Hid (∀ w', Ext WW w' → Calls Tryd.prog 16 #[.int .i64 (cntP isTwo (decG (opGates x.ops)))] w' fun e w'' => e = .returned (.string (num (cntP isTwo (decG (opGates x.ops))))) ∧ Ext w' w'') := fun w' q => spec_FormatInt_nat _ (by omega) w'
  have HG2 : Hid (∀ w', Ext WW w' → Calls Tryd.prog 16 #[.int .i64 (cntP isTwo (opGates y.ops))] w' fun e w'' => e = .returned (.string (num (cntP isTwo (opGates y.ops)))) ∧ Ext w' w'') := fun w' q => spec_FormatInt_nat _ (by omega) w'
  have HT1 : Hid (∀ w', Ext WW w' → Calls Tryd.prog 17 #[.agg #[.int .i64 0, .slice A3 f0 c3]] w' fun e w'' => e = .returned (.int .i64 (tcnt (decG (opGates x.ops)))) ∧ Ext w' w'') := fun w' q => spec_TCount_any 0 A3 f0 c3 (decG (opGates x.ops)) w' (hR7.ext q) (by omega)
  have HW1 : Hid (∀ w', Ext WW w' → Calls Tryd.prog 18 #[.agg #[.int .i64 0, .slice A3 f0 c3]] w' fun e w'' => e = .returned (.int .i64 (cntP isTwo (decG (opGates x.ops)))) ∧ Ext w' w'') := fun w' q => spec_TwoQubitCount_any 0 A3 f0 c3 (decG (opGates x.ops)) w' (hR7.ext q) (by omega)
  have HT2 : Hid (∀ w', Ext WW w' → Calls Tryd.prog 17 #[.agg #[.int .i64 0, .slice A6 g0 c6]] w' fun e w'' => e = .returned (.int .i64 (tcnt (opGates y.ops))) ∧ Ext w' w'') := fun w' q => spec_TCount_any 0 A6 g0 c6 (opGates y.ops) w' (hR8.ext q) (by omega)
  have HW2 : Hid (∀ w', Ext WW w' → Calls Tryd.prog 18 #[.agg #[.int .i64 0, .slice A6 g0 c6]] w' fun e w'' => e = .returned (.int .i64 (cntP isTwo (opGates y.ops))) ∧ Ext w' w'') := fun w' q => spec_TwoQubitCount_any 0 A6 g0 c6 (opGates y.ops) w' (hR8.ext q) (by omega)
  clear hR7 hR8 H1 K1 HB1
  have hn0 := num_size f0 (by omega)
  have hn1 := num_size g0 (by omega)
  have hn2 := num_size (tcnt (decG (opGates x.ops))) (by omega)
  have hn3 := num_size (tcnt (opGates y.ops)) (by omega)
  have hn4 := num_size (cntP isTwo (decG (opGates x.ops))) (by omega)
  have hn5 := num_size (cntP isTwo (opGates y.ops)) (by omega)
  have q0 : WW.cell? ⟨b5, 0, none⟩ = some (.int .i64 0) := hB5.cell 0
  have q1 : WW.cell? ⟨b5, 1, none⟩ = some (.slice A3 f0 c3) := hB5.cell 1
  have q2 : WW.cell? ⟨b8, 0, none⟩ = some (.int .i64 0) := hB8.cell 0
  have q3 : WW.cell? ⟨b8, 1, none⟩ = some (.slice A6 g0 c6) := hB8.cell 1
  have HK : Hid (∀ w', Ext WW w' → w'.cell? ⟨b5, 0, none⟩ = some (.int .i64 0) ∧ w'.cell? ⟨b5, 1, none⟩ = some (.slice A3 f0 c3) ∧ w'.cell? ⟨b8, 0, none⟩ = some (.int .i64 0) ∧ w'.cell? ⟨b8, 1, none⟩ = some (.slice A6 g0 c6)) := fun w' q => ⟨(hB5.ext q).cell 0, (hB5.ext q).cell 1, (hB8.ext q).cell 0, (hB8.ext q).cell 1⟩
  clear hB5 hB8 htx hdx hc1 hty hd0 hol hol6 hX0 hX5 hX8 
  generalize hf1 : tcnt (decG (opGates x.ops)) = f1 at *
  replace hf1 := Lib.hid hf1
  generalize hg1 : tcnt (opGates y.ops) = g1 at *
  replace hg1 := Lib.hid hg1
  generalize hf2 : cntP isTwo (decG (opGates x.ops)) = f2 at *
  replace hf2 := Lib.hid hf2
  generalize hg2 : cntP isTwo (opGates y.ops) = g2 at *
  replace hg2 := Lib.hid hg2
  generalize hN0 : num f0 = n0 at *
  replace hN0 := Lib.hid hN0
  generalize hM0 : num g0 = m0 at *
  replace hM0 := Lib.hid hM0
  generalize hN1 : num f1 = n1 at *
  replace hN1 := Lib.hid hN1
  generalize hM1 : num g1 = m1 at *
  replace hM1 := Lib.hid hM1
  generalize hN2 : num f2 = n2 at *
  replace hN2 := Lib.hid hN2
  generalize hM2 : num g2 = m2 at *
  replace hM2 := Lib.hid hM2
  have es : (⟨#[32]⟩ : ByteArray).size = 1 := rfl
  have es1 : (⟨#[103, 97, 116, 101, 115, 32]⟩ : ByteArray).size = 6 := rfl
  have es2 : (⟨#[32, 116, 32]⟩ : ByteArray).size = 3 := rfl
  have es3 : (⟨#[32, 116, 119, 111, 32]⟩ : ByteArray).size = 5 := rfl
  have j1 : ∀ w', (Op.stringOp .add (⟨#[103, 97, 116, 101, 115, 32]⟩ : ByteArray) n0).run Tryd.prog w' = .ok (.string ((⟨#[103, 97, 116, 101, 115, 32]⟩ : ByteArray) ++ n0)) w' := fun w' => run_string_add_sum w' _ _ (by simp only [ByteArray.size_append, es, es1, es2, es3]; omega)
  have j2 : ∀ w', (Op.stringOp .add ((⟨#[103, 97, 116, 101, 115, 32]⟩ : ByteArray) ++ n0) ⟨#[32]⟩).run Tryd.prog w' = .ok (.string ((⟨#[103, 97, 116, 101, 115, 32]⟩ : ByteArray) ++ n0 ++ ⟨#[32]⟩)) w' := fun w' => run_string_add_sum w' _ _ (by simp only [ByteArray.size_append, es, es1, es2, es3]; omega)
  have j3 : ∀ w', (Op.stringOp .add ((⟨#[103, 97, 116, 101, 115, 32]⟩ : ByteArray) ++ n0 ++ ⟨#[32]⟩) m0).run Tryd.prog w' = .ok (.string ((⟨#[103, 97, 116, 101, 115, 32]⟩ : ByteArray) ++ n0 ++ ⟨#[32]⟩ ++ m0)) w' := fun w' => run_string_add_sum w' _ _ (by simp only [ByteArray.size_append, es, es1, es2, es3]; omega)
  have j4 : ∀ w', (Op.stringOp .add ((⟨#[103, 97, 116, 101, 115, 32]⟩ : ByteArray) ++ n0 ++ ⟨#[32]⟩ ++ m0) ⟨#[32, 116, 32]⟩).run Tryd.prog w' = .ok (.string ((⟨#[103, 97, 116, 101, 115, 32]⟩ : ByteArray) ++ n0 ++ ⟨#[32]⟩ ++ m0 ++ ⟨#[32, 116, 32]⟩)) w' := fun w' => run_string_add_sum w' _ _ (by simp only [ByteArray.size_append, es, es1, es2, es3]; omega)
  have j5 : ∀ w', (Op.stringOp .add ((⟨#[103, 97, 116, 101, 115, 32]⟩ : ByteArray) ++ n0 ++ ⟨#[32]⟩ ++ m0 ++ ⟨#[32, 116, 32]⟩) n1).run Tryd.prog w' = .ok (.string ((⟨#[103, 97, 116, 101, 115, 32]⟩ : ByteArray) ++ n0 ++ ⟨#[32]⟩ ++ m0 ++ ⟨#[32, 116, 32]⟩ ++ n1)) w' := fun w' => run_string_add_sum w' _ _ (by simp only [ByteArray.size_append, es, es1, es2, es3]; omega)
  have j6 : ∀ w', (Op.stringOp .add ((⟨#[103, 97, 116, 101, 115, 32]⟩ : ByteArray) ++ n0 ++ ⟨#[32]⟩ ++ m0 ++ ⟨#[32, 116, 32]⟩ ++ n1) ⟨#[32]⟩).run Tryd.prog w' = .ok (.string ((⟨#[103, 97, 116, 101, 115, 32]⟩ : ByteArray) ++ n0 ++ ⟨#[32]⟩ ++ m0 ++ ⟨#[32, 116, 32]⟩ ++ n1 ++ ⟨#[32]⟩)) w' := fun w' => run_string_add_sum w' _ _ (by simp only [ByteArray.size_append, es, es1, es2, es3]; omega)
  have j7 : ∀ w', (Op.stringOp .add ((⟨#[103, 97, 116, 101, 115, 32]⟩ : ByteArray) ++ n0 ++ ⟨#[32]⟩ ++ m0 ++ ⟨#[32, 116, 32]⟩ ++ n1 ++ ⟨#[32]⟩) m1).run Tryd.prog w' = .ok (.string ((⟨#[103, 97, 116, 101, 115, 32]⟩ : ByteArray) ++ n0 ++ ⟨#[32]⟩ ++ m0 ++ ⟨#[32, 116, 32]⟩ ++ n1 ++ ⟨#[32]⟩ ++ m1)) w' := fun w' => run_string_add_sum w' _ _ (by simp only [ByteArray.size_append, es, es1, es2, es3]; omega)
  have j8 : ∀ w', (Op.stringOp .add ((⟨#[103, 97, 116, 101, 115, 32]⟩ : ByteArray) ++ n0 ++ ⟨#[32]⟩ ++ m0 ++ ⟨#[32, 116, 32]⟩ ++ n1 ++ ⟨#[32]⟩ ++ m1) ⟨#[32, 116, 119, 111, 32]⟩).run Tryd.prog w' = .ok (.string ((⟨#[103, 97, 116, 101, 115, 32]⟩ : ByteArray) ++ n0 ++ ⟨#[32]⟩ ++ m0 ++ ⟨#[32, 116, 32]⟩ ++ n1 ++ ⟨#[32]⟩ ++ m1 ++ ⟨#[32, 116, 119, 111, 32]⟩)) w' := fun w' => run_string_add_sum w' _ _ (by simp only [ByteArray.size_append, es, es1, es2, es3]; omega)
  have j9 : ∀ w', (Op.stringOp .add ((⟨#[103, 97, 116, 101, 115, 32]⟩ : ByteArray) ++ n0 ++ ⟨#[32]⟩ ++ m0 ++ ⟨#[32, 116, 32]⟩ ++ n1 ++ ⟨#[32]⟩ ++ m1 ++ ⟨#[32, 116, 119, 111, 32]⟩) n2).run Tryd.prog w' = .ok (.string ((⟨#[103, 97, 116, 101, 115, 32]⟩ : ByteArray) ++ n0 ++ ⟨#[32]⟩ ++ m0 ++ ⟨#[32, 116, 32]⟩ ++ n1 ++ ⟨#[32]⟩ ++ m1 ++ ⟨#[32, 116, 119, 111, 32]⟩ ++ n2)) w' := fun w' => run_string_add_sum w' _ _ (by simp only [ByteArray.size_append, es, es1, es2, es3]; omega)
  have j10 : ∀ w', (Op.stringOp .add ((⟨#[103, 97, 116, 101, 115, 32]⟩ : ByteArray) ++ n0 ++ ⟨#[32]⟩ ++ m0 ++ ⟨#[32, 116, 32]⟩ ++ n1 ++ ⟨#[32]⟩ ++ m1 ++ ⟨#[32, 116, 119, 111, 32]⟩ ++ n2) ⟨#[32]⟩).run Tryd.prog w' = .ok (.string ((⟨#[103, 97, 116, 101, 115, 32]⟩ : ByteArray) ++ n0 ++ ⟨#[32]⟩ ++ m0 ++ ⟨#[32, 116, 32]⟩ ++ n1 ++ ⟨#[32]⟩ ++ m1 ++ ⟨#[32, 116, 119, 111, 32]⟩ ++ n2 ++ ⟨#[32]⟩)) w' := fun w' => run_string_add_sum w' _ _ (by simp only [ByteArray.size_append, es, es1, es2, es3]; omega)
  have j11 : ∀ w', (Op.stringOp .add ((⟨#[103, 97, 116, 101, 115, 32]⟩ : ByteArray) ++ n0 ++ ⟨#[32]⟩ ++ m0 ++ ⟨#[32, 116, 32]⟩ ++ n1 ++ ⟨#[32]⟩ ++ m1 ++ ⟨#[32, 116, 119, 111, 32]⟩ ++ n2 ++ ⟨#[32]⟩) m2).run Tryd.prog w' = .ok (.string ((⟨#[103, 97, 116, 101, 115, 32]⟩ : ByteArray) ++ n0 ++ ⟨#[32]⟩ ++ m0 ++ ⟨#[32, 116, 32]⟩ ++ n1 ++ ⟨#[32]⟩ ++ m1 ++ ⟨#[32, 116, 119, 111, 32]⟩ ++ n2 ++ ⟨#[32]⟩ ++ m2)) w' := fun w' => run_string_add_sum w' _ _ (by simp only [ByteArray.size_append, es, es1, es2, es3]; omega)
  clear hn0 hn1 hn2 hn3 hn4 hn5 es es1 es2 es3
  go_wp2
  go_region_held3 (fun w' => w'.cell? ⟨b5, 0, none⟩ = some (.int .i64 0) ∧ w'.cell? ⟨b5, 1, none⟩ = some (.slice A3 f0 c3) ∧ w'.cell? ⟨b8, 0, none⟩ = some (.int .i64 0) ∧ w'.cell? ⟨b8, 1, none⟩ = some (.slice A6 g0 c6))
    (first | go_keep | exact HK.out _ (by assumption))
    (first
      | (go_at_call 16; (with_reducible refine (HF0.out _ (Ext.refl WW).drew).mono ?_); rintro e w5 ⟨rfl, hy6⟩; replace hy5 : Ext WW w5 := Ext.trans (Ext.refl WW).drew hy6; clear hy6)
      | (go_at_call 16; (with_reducible refine (HG0.out _ hy5).mono ?_); rintro e w5 ⟨rfl, hy6⟩; replace hy5 : Ext WW w5 := Ext.trans hy5 hy6; clear hy6)
      | (go_at_call 17; (with_reducible refine (HT1.out _ hy5).mono ?_); rintro e w5 ⟨rfl, hy6⟩; replace hy5 : Ext WW w5 := Ext.trans hy5 hy6; clear hy6)
      | (go_at_call 16; (with_reducible refine (HF1.out _ hy5).mono ?_); rintro e w5 ⟨rfl, hy6⟩; replace hy5 : Ext WW w5 := Ext.trans hy5 hy6; clear hy6)
      | (go_at_call 17; (with_reducible refine (HT2.out _ hy5).mono ?_); rintro e w5 ⟨rfl, hy6⟩; replace hy5 : Ext WW w5 := Ext.trans hy5 hy6; clear hy6)
      | (go_at_call 16; (with_reducible refine (HG1.out _ hy5).mono ?_); rintro e w5 ⟨rfl, hy6⟩; replace hy5 : Ext WW w5 := Ext.trans hy5 hy6; clear hy6)
      | (go_at_call 18; (with_reducible refine (HW1.out _ hy5).mono ?_); rintro e w5 ⟨rfl, hy6⟩; replace hy5 : Ext WW w5 := Ext.trans hy5 hy6; clear hy6)
      | (go_at_call 16; (with_reducible refine (HF2.out _ hy5).mono ?_); rintro e w5 ⟨rfl, hy6⟩; replace hy5 : Ext WW w5 := Ext.trans hy5 hy6; clear hy6)
      | (go_at_call 18; (with_reducible refine (HW2.out _ hy5).mono ?_); rintro e w5 ⟨rfl, hy6⟩; replace hy5 : Ext WW w5 := Ext.trans hy5 hy6; clear hy6)
      | (go_at_call 16; (with_reducible refine (HG2.out _ hy5).mono ?_); rintro e w5 ⟨rfl, hy6⟩; replace hy5 : Ext WW w5 := Ext.trans hy5 hy6; clear hy6))
  clear j1 j2 j3 j4 j5 j6 j7 j8 j9 j10 j11
  go_wp2
  go_ret
  exact ⟨ret_str (by unfold spt; rw [hf0, hg0, hf1.out, hg1.out, hf2.out, hg2.out, hN0.out, hM0.out, hN1.out, hM1.out, hN2.out, hM2.out]), hXW.trans hy5⟩
end Go.Proofs.YtngpkboocpaikabDoor
