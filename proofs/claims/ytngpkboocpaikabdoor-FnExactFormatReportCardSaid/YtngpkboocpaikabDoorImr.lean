/-
  Helper text (no claim of its own): the report, by the program.
-/
import Derived.Test.YtngpkboocpaikabDoorRt
import Derived.Test.YtngpkboocpaikabDoorCm
import Derived.Test.YtngpkboocpaikabDoorFig
import Derived.Test.YtngpkboocpaikabDoorFim
import Derived.Test.YtngpkboocpaikabDoorIdg
import Derived.Test.YtngpkboocpaikabDoorOpg
import Derived.Lib.ItoaLen
namespace Go.Proofs.YtngpkboocpaikabDoor
open Go.ChangeShapes Go.WideShapes Go.ChangeAt Go.RowKit Go.Deep
set_option linter.unusedVariables false
/-- The words of the report. -/
def wrd (k : Nat) : ByteArray := if k = 0 then ⟨#[103, 97, 116, 101, 115]⟩ else if k = 1 then ⟨#[32, 116]⟩ else ⟨#[32, 116, 119, 111]⟩
/-- The report's text up to word k. -/
def rep (f g : Nat → Nat) : Nat → ByteArray
  | 0 => ⟨#[]⟩
  | k + 1 => rep f g k ++ wrd k ++ ⟨#[32]⟩ ++ num (f k) ++ ⟨#[32]⟩ ++ num (g k)
theorem num_size (m : Nat) (hm : m ≤ 1000000000) : (num m).size ≤ 21 := by
  have h := Lib.itoa_length_le (m : Int) (by omega) (by omega)
  rw [Lib.itoa_nonneg] at h
  unfold num
  simpa [ByteArray.size] using h
def pick (a b c : Nat) (k : Nat) : Nat := if k = 0 then a else if k = 1 then b else c
set_option maxRecDepth 100000 in
set_option maxHeartbeats 4000000 in
theorem impl_FormatReport_any (v u : Value) (x : Rt) (y : Cm) (w : World) (h : RtAt w w.heap.size v x) (h' : CmAt w w.heap.size u y) (hx : x.ops.length ≤ 1048576) (hy : y.ops.length ≤ 1048576) (hp : Pow w) (g : Nat) (hg : Tryd.prog.globalNamed "internal/strconv.uint64pow10" = some g) :
    Calls Tryd.prog 9 #[v, u] w fun e w' => e = .returned (.string (rep (pick (decG (opGates x.ops)).length (tcnt (decG (opGates x.ops))) (cntP isTwo (decG (opGates x.ops)))) (pick (opGates y.ops).length (tcnt (opGates y.ops)) (cntP isTwo (opGates y.ops))) 3)) ∧ Ext w w' := by
  obtain ⟨A1, c1, rfl, h1⟩ := h
  obtain ⟨B1, B2, B3, d1, d2, d3, rfl, k1, k2, k3⟩ := h'
  clear k2 k3
  have H1 := Lib.hid h1
  have K1 := Lib.hid k1
  have HP := Lib.hid hp
  have HG := Lib.hid hg
  have HLX : Hid (∃ m, x.ops.length = m) := ⟨_, rfl⟩
  clear h1 k1 hp hg
  go_enter Tryd.func9, Tryd.ntmps9
  go_upto_region 1 with (fail)
  have hB0 : Blk (w.alloc (.cells #[.int .i64 x.n, .int .i64 x.inn, .int .i64 x.bits, .slice A1 x.ops.length c1] 33)) w.heap.size 33 #[.int .i64 x.n, .int .i64 x.inn, .int .i64 x.bits, .slice A1 x.ops.length c1] := Blk.new _ _ _
  have hs : (w.alloc (.cells #[.int .i64 x.n, .int .i64 x.inn, .int .i64 x.bits, .slice A1 x.ops.length c1] 33)).heap.size = w.heap.size + 1 := Array.size_push _
  have hX0 : Ext w (w.alloc (.cells #[.int .i64 x.n, .int .i64 x.inn, .int .i64 x.bits, .slice A1 x.ops.length c1] 33)) := (Ext.refl w).alloc _
  generalize (w.alloc (.cells #[.int .i64 x.n, .int .i64 x.inn, .int .i64 x.bits, .slice A1 x.ops.length c1] 33)) = W1 at *
  have hB1 : Blk (W1.alloc (.cells #[.int .i64 y.n, .int .i64 y.bits, .slice B1 y.ops.length d1, .slice B2 y.st.length d2, .slice B3 y.fin.length d3] 36)) W1.heap.size 36 #[.int .i64 y.n, .int .i64 y.bits, .slice B1 y.ops.length d1, .slice B2 y.st.length d2, .slice B3 y.fin.length d3] := Blk.new _ _ _
  rw [hs] at hB1
  replace hB0 := hB0.ext ((Ext.refl W1).alloc (.cells #[.int .i64 y.n, .int .i64 y.bits, .slice B1 y.ops.length d1, .slice B2 y.st.length d2, .slice B3 y.fin.length d3] 36))
  replace hX0 := hX0.alloc (.cells #[.int .i64 y.n, .int .i64 y.bits, .slice B1 y.ops.length d1, .slice B2 y.st.length d2, .slice B3 y.fin.length d3] 36)
  clear hs
  generalize (W1.alloc (.cells #[.int .i64 y.n, .int .i64 y.bits, .slice B1 y.ops.length d1, .slice B2 y.st.length d2, .slice B3 y.fin.length d3] 36)) = Wb at *
  have HB0 := Lib.hid hB0
  have HB1 := Lib.hid hB1
  clear HLX
  have q3 : Wb.cell? ⟨w.heap.size, 3, none⟩ = some (.slice A1 x.ops.length c1) := hB0.cell 3
  clear hB0 hB1
  go_wp2_with fail
  refine (impl_OpGates_any A1 _ c1 x.ops _ (H1.out.ext hX0) hx).mono ?_
  rintro e w2 ⟨v2, rfl, ho2, hx2⟩
  obtain ⟨A2, c2, rfl, hr2⟩ := own_slice ho2
  clear q3
  go_wp2_with fail
  refine (impl_DecomposeGates_any A2 _ c2 (opGates x.ops) _ hr2 ?_).mono ?_
  · have := opGates_len x.ops x.ops.length
    rw [List.take_length] at this
    omega
  rintro e w3 ⟨v3, rfl, ho3, hx3⟩
  obtain ⟨A3, c3, rfl, hr3⟩ := own_slice ho3
  have hdl : (decG (opGates x.ops)).length ≤ 15 * (opGates x.ops).length := decG_len _
  have hol : (opGates x.ops).length ≤ x.ops.length := by
    have := opGates_len x.ops x.ops.length
    rw [List.take_length] at this
    exact this
  go_wp2_with fail
  refine (impl_figures_any A3 _ c3 (decG (opGates x.ops)) _ hr3 (by omega)).mono ?_
  rintro e w4 ⟨rfl, hx4⟩
  have hX4 : Ext Wb w4 := hx2.trans (hx3.trans hx4)
  clear ho2 ho3 hr2 hr3 hx2 hx3 hx4
  have q2 : w4.cell? ⟨w.heap.size + 1, 2, none⟩ = some (.slice B1 y.ops.length d1) := (HB1.out.ext hX4).cell 2
  go_upto_region 2 with (fail)
  have htx : tcnt (decG (opGates x.ops)) ≤ 2 * (decG (opGates x.ops)).length := by
    have h7 := cntP_len (isK 7) (decG (opGates x.ops))
    have h8 := cntP_len (isK 8) (decG (opGates x.ops))
    unfold tcnt
    omega
  have hdx := cntP_len isTwo (decG (opGates x.ops))
  generalize hf0 : (decG (opGates x.ops)).length = f0 at *
  generalize hf1 : tcnt (decG (opGates x.ops)) = f1 at *
  generalize hf2 : cntP isTwo (decG (opGates x.ops)) = f2 at *
  have hB5 : Blk (w4.alloc (.cells #[.int .i64 f0, .int .i64 f1, .int .i64 f2] 52)) w4.heap.size 52 #[.int .i64 f0, .int .i64 f1, .int .i64 f2] := Blk.new _ _ _
  have hX5 : Ext Wb (w4.alloc (.cells #[.int .i64 f0, .int .i64 f1, .int .i64 f2] 52)) := hX4.alloc _
  have q2 : (w4.alloc (.cells #[.int .i64 f0, .int .i64 f1, .int .i64 f2] 52)).cell? ⟨w.heap.size + 1, 2, none⟩ = some (.slice B1 y.ops.length d1) := (HB1.out.ext hX5).cell 2
  generalize (w4.alloc (.cells #[.int .i64 f0, .int .i64 f1, .int .i64 f2] 52)) = W5 at *
  generalize w4.heap.size = b5 at *
  clear hX4
  go_wp2_with fail
  refine (impl_OpGates_any B1 _ d1 y.ops _ (K1.out.ext (hX0.trans hX5)) hy).mono ?_
  rintro e w6 ⟨v6, rfl, ho6, hx6⟩
  obtain ⟨A6, c6, rfl, hr6⟩ := own_slice ho6
  have hol6 : (opGates y.ops).length ≤ y.ops.length := by
    have := opGates_len y.ops y.ops.length
    rw [List.take_length] at this
    exact this
  clear q2
  go_wp2_with fail
  refine (impl_figures_any A6 _ c6 (opGates y.ops) _ hr6 (by omega)).mono ?_
  rintro e w7 ⟨rfl, hx7⟩
  have hX7 : Ext W5 w7 := hx6.trans hx7
  clear ho6 hr6 hx6 hx7
  go_upto_region 3 with (fail)
  have hc1 := cntP_len isTwo (opGates y.ops)
  have hty : tcnt (opGates y.ops) ≤ 2 * (opGates y.ops).length := by
    have h7 := cntP_len (isK 7) (opGates y.ops)
    have h8 := cntP_len (isK 8) (opGates y.ops)
    unfold tcnt
    omega
  have hdy := cntP_len isTwo (opGates y.ops)
  generalize hg0 : (opGates y.ops).length = g0 at *
  generalize hg1 : tcnt (opGates y.ops) = g1 at *
  generalize hg2 : cntP isTwo (opGates y.ops) = g2 at *
  have hB8 : Blk (w7.alloc (.cells #[.int .i64 g0, .int .i64 g1, .int .i64 g2] 52)) w7.heap.size 52 #[.int .i64 g0, .int .i64 g1, .int .i64 g2] := Blk.new _ _ _
  have hX8 : Ext W5 (w7.alloc (.cells #[.int .i64 g0, .int .i64 g1, .int .i64 g2] 52)) := hX7.alloc _
  generalize (w7.alloc (.cells #[.int .i64 g0, .int .i64 g1, .int .i64 g2] 52)) = W8 at *
  generalize w7.heap.size = b8 at *
  replace hB5 := hB5.ext hX8
  clear hX7 HB0 HB1 H1 K1
  go_upto_region 5 with (fail)
  have hB9 : Blk (W8.alloc (.cells #[.string ⟨#[103, 97, 116, 101, 115]⟩, .string ⟨#[32, 116]⟩, .string ⟨#[32, 116, 119, 111]⟩] 9)) W8.heap.size 9 #[.string ⟨#[103, 97, 116, 101, 115]⟩, .string ⟨#[32, 116]⟩, .string ⟨#[32, 116, 119, 111]⟩] := Blk.new _ _ _
  replace hB5 := hB5.alloc (.cells #[.string ⟨#[103, 97, 116, 101, 115]⟩, .string ⟨#[32, 116]⟩, .string ⟨#[32, 116, 119, 111]⟩] 9)
  replace hB8 := hB8.alloc (.cells #[.string ⟨#[103, 97, 116, 101, 115]⟩, .string ⟨#[32, 116]⟩, .string ⟨#[32, 116, 119, 111]⟩] 9)
  replace hX8 : Ext W5 (W8.alloc (.cells #[.string ⟨#[103, 97, 116, 101, 115]⟩, .string ⟨#[32, 116]⟩, .string ⟨#[32, 116, 119, 111]⟩] 9)) := hX8.alloc _
  generalize (W8.alloc (.cells #[.string ⟨#[103, 97, 116, 101, 115]⟩, .string ⟨#[32, 116]⟩, .string ⟨#[32, 116, 119, 111]⟩] 9)) = W9 at *
  generalize W8.heap.size = b9 at *
  have hX9 : Ext w W9 := hX0.trans (hX5.trans hX8)
  have hPW : Pow W9 := HP.out.ext hX9 g HG.out
  go_loopw [7, 21] (fun t i wr => ∃ k : Nat, k ≤ 3 ∧ t = .string (rep (pick f0 f1 f2) (pick g0 g1 g2) k) ∧ i = .int .i64 k ∧ (rep (pick f0 f1 f2) (pick g0 g1 g2) k).size ≤ 60 * k ∧ Ext W9 wr) (fun _ i _ => 3 - (intOf i).toNat)
  case atStart => exact ⟨0, by omega, rfl, rfl, (show (0 : Nat) ≤ 60 * 0 from Nat.le_refl _), Ext.refl _⟩
  case round =>
    obtain ⟨k, hk, rfl, rfl, hrs, hx⟩ := hrel
    obtain rfl | rfl | rfl | rfl : k = 0 ∨ k = 1 ∨ k = 2 ∨ k = 3 := by omega
    · skip
      have p5 : wr.cell? ⟨b5, 0, none⟩ = some (.int .i64 f0) := (hB5.ext hx).cell 0
      have p8 : wr.cell? ⟨b8, 0, none⟩ = some (.int .i64 g0) := (hB8.ext hx).cell 0
      have p9 : wr.cell? ⟨b9, 0, none⟩ = some (.string (wrd 0)) := (hB9.ext hx).cell 0
      have hws : (wrd 0).size ≤ 5 := by decide
      have hn5 := num_size f0 (by omega)
      have hn8 := num_size g0 (by omega)
      have HCf : Hid (∀ w', Ext W9 w' → Calls Tryd.prog 24 #[.int .i64 f0] w' fun e w'' => e = .returned (.string (num f0)) ∧ Ext w' w'') := fun w' q => impl_FormatInt_nat f0 (by omega) w' (hPW.ext q g HG.out)
      have HCg : Hid (∀ w', Ext W9 w' → Calls Tryd.prog 24 #[.int .i64 g0] w' fun e w'' => e = .returned (.string (num g0)) ∧ Ext w' w'') := fun w' q => impl_FormatInt_nat g0 (by omega) w' (hPW.ext q g HG.out)
      have HR : Hid (rep (pick f0 f1 f2) (pick g0 g1 g2) (0 + 1) = rep (pick f0 f1 f2) (pick g0 g1 g2) 0 ++ wrd 0 ++ ⟨#[32]⟩ ++ num f0 ++ ⟨#[32]⟩ ++ num g0) := rfl
      generalize wrd 0 = wd at *
      generalize rep (pick f0 f1 f2) (pick g0 g1 g2) 0 = rt at *
      have HK : Hid (∀ w', Ext wr w' → w'.cell? ⟨b5, 0, none⟩ = some (.int .i64 f0) ∧ w'.cell? ⟨b8, 0, none⟩ = some (.int .i64 g0)) := fun w' q => ⟨((hB5.ext hx).ext q).cell 0, ((hB8.ext hx).ext q).cell 0⟩
      generalize num f0 = nf at *
      generalize num g0 = ng at *
      have es : (⟨#[32]⟩ : ByteArray).size = 1 := rfl
      have j1 : ∀ w', (Op.stringOp .add rt wd).run Tryd.prog w' = .ok (.string (rt ++ wd)) w' := fun w' => run_string_add_sum w' _ _ (by omega)
      have j2 : ∀ w', (Op.stringOp .add (rt ++ wd) ⟨#[32]⟩).run Tryd.prog w' = .ok (.string (rt ++ wd ++ ⟨#[32]⟩)) w' := fun w' => run_string_add_sum w' _ _ (by simp only [ByteArray.size_append, es]; omega)
      have j3 : ∀ w', (Op.stringOp .add (rt ++ wd ++ ⟨#[32]⟩) nf).run Tryd.prog w' = .ok (.string (rt ++ wd ++ ⟨#[32]⟩ ++ nf)) w' := fun w' => run_string_add_sum w' _ _ (by simp only [ByteArray.size_append, es]; omega)
      have j4 : ∀ w', (Op.stringOp .add (rt ++ wd ++ ⟨#[32]⟩ ++ nf) ⟨#[32]⟩).run Tryd.prog w' = .ok (.string (rt ++ wd ++ ⟨#[32]⟩ ++ nf ++ ⟨#[32]⟩)) w' := fun w' => run_string_add_sum w' _ _ (by simp only [ByteArray.size_append, es]; omega)
      have j5 : ∀ w', (Op.stringOp .add (rt ++ wd ++ ⟨#[32]⟩ ++ nf ++ ⟨#[32]⟩) ng).run Tryd.prog w' = .ok (.string (rt ++ wd ++ ⟨#[32]⟩ ++ nf ++ ⟨#[32]⟩ ++ ng)) w' := fun w' => run_string_add_sum w' _ _ (by simp only [ByteArray.size_append, es]; omega)
      go_wp2
      go_region_held3 (fun w' => w'.cell? ⟨b5, 0, none⟩ = some (.int .i64 f0) ∧ w'.cell? ⟨b8, 0, none⟩ = some (.int .i64 g0))
        (first | go_keep | exact HK.out _ (by assumption))
        (first
          | (go_at_call 24; (with_reducible refine (HCf.out _ (hx.trans (Ext.refl wr).drew)).mono ?_); rintro e w5 ⟨rfl, hy5⟩; replace hy5 : Ext wr w5 := Ext.trans (Ext.refl wr).drew hy5)
          | (go_at_call 24; (with_reducible refine (HCg.out _ (hx.trans hy5)).mono ?_); rintro e w6 ⟨rfl, hy6⟩; replace hy6 : Ext wr w6 := hy5.trans hy6))
      clear j1 j2 j3 j4 j5
      go_wp2
      go_roundw
      case rel => exact ⟨0 + 1, by omega, by rw [← HR.out], by go_num, by rw [HR.out]; simp only [ByteArray.size_append, es]; omega, hx.trans hy6⟩
      case measure => simp [intOf]
    · skip
      have p5 : wr.cell? ⟨b5, 1, none⟩ = some (.int .i64 f1) := (hB5.ext hx).cell 1
      have p8 : wr.cell? ⟨b8, 1, none⟩ = some (.int .i64 g1) := (hB8.ext hx).cell 1
      have p9 : wr.cell? ⟨b9, 1, none⟩ = some (.string (wrd 1)) := (hB9.ext hx).cell 1
      have hws : (wrd 1).size ≤ 5 := by decide
      have hn5 := num_size f1 (by omega)
      have hn8 := num_size g1 (by omega)
      have HCf : Hid (∀ w', Ext W9 w' → Calls Tryd.prog 24 #[.int .i64 f1] w' fun e w'' => e = .returned (.string (num f1)) ∧ Ext w' w'') := fun w' q => impl_FormatInt_nat f1 (by omega) w' (hPW.ext q g HG.out)
      have HCg : Hid (∀ w', Ext W9 w' → Calls Tryd.prog 24 #[.int .i64 g1] w' fun e w'' => e = .returned (.string (num g1)) ∧ Ext w' w'') := fun w' q => impl_FormatInt_nat g1 (by omega) w' (hPW.ext q g HG.out)
      have HR : Hid (rep (pick f0 f1 f2) (pick g0 g1 g2) (1 + 1) = rep (pick f0 f1 f2) (pick g0 g1 g2) 1 ++ wrd 1 ++ ⟨#[32]⟩ ++ num f1 ++ ⟨#[32]⟩ ++ num g1) := rfl
      generalize wrd 1 = wd at *
      generalize rep (pick f0 f1 f2) (pick g0 g1 g2) 1 = rt at *
      have HK : Hid (∀ w', Ext wr w' → w'.cell? ⟨b5, 1, none⟩ = some (.int .i64 f1) ∧ w'.cell? ⟨b8, 1, none⟩ = some (.int .i64 g1)) := fun w' q => ⟨((hB5.ext hx).ext q).cell 1, ((hB8.ext hx).ext q).cell 1⟩
      generalize num f1 = nf at *
      generalize num g1 = ng at *
      have es : (⟨#[32]⟩ : ByteArray).size = 1 := rfl
      have j1 : ∀ w', (Op.stringOp .add rt wd).run Tryd.prog w' = .ok (.string (rt ++ wd)) w' := fun w' => run_string_add_sum w' _ _ (by omega)
      have j2 : ∀ w', (Op.stringOp .add (rt ++ wd) ⟨#[32]⟩).run Tryd.prog w' = .ok (.string (rt ++ wd ++ ⟨#[32]⟩)) w' := fun w' => run_string_add_sum w' _ _ (by simp only [ByteArray.size_append, es]; omega)
      have j3 : ∀ w', (Op.stringOp .add (rt ++ wd ++ ⟨#[32]⟩) nf).run Tryd.prog w' = .ok (.string (rt ++ wd ++ ⟨#[32]⟩ ++ nf)) w' := fun w' => run_string_add_sum w' _ _ (by simp only [ByteArray.size_append, es]; omega)
      have j4 : ∀ w', (Op.stringOp .add (rt ++ wd ++ ⟨#[32]⟩ ++ nf) ⟨#[32]⟩).run Tryd.prog w' = .ok (.string (rt ++ wd ++ ⟨#[32]⟩ ++ nf ++ ⟨#[32]⟩)) w' := fun w' => run_string_add_sum w' _ _ (by simp only [ByteArray.size_append, es]; omega)
      have j5 : ∀ w', (Op.stringOp .add (rt ++ wd ++ ⟨#[32]⟩ ++ nf ++ ⟨#[32]⟩) ng).run Tryd.prog w' = .ok (.string (rt ++ wd ++ ⟨#[32]⟩ ++ nf ++ ⟨#[32]⟩ ++ ng)) w' := fun w' => run_string_add_sum w' _ _ (by simp only [ByteArray.size_append, es]; omega)
      go_wp2
      go_region_held3 (fun w' => w'.cell? ⟨b5, 1, none⟩ = some (.int .i64 f1) ∧ w'.cell? ⟨b8, 1, none⟩ = some (.int .i64 g1))
        (first | go_keep | exact HK.out _ (by assumption))
        (first
          | (go_at_call 24; (with_reducible refine (HCf.out _ (hx.trans (Ext.refl wr).drew)).mono ?_); rintro e w5 ⟨rfl, hy5⟩; replace hy5 : Ext wr w5 := Ext.trans (Ext.refl wr).drew hy5)
          | (go_at_call 24; (with_reducible refine (HCg.out _ (hx.trans hy5)).mono ?_); rintro e w6 ⟨rfl, hy6⟩; replace hy6 : Ext wr w6 := hy5.trans hy6))
      clear j1 j2 j3 j4 j5
      go_wp2
      go_roundw
      case rel => exact ⟨1 + 1, by omega, by rw [← HR.out], by go_num, by rw [HR.out]; simp only [ByteArray.size_append, es]; omega, hx.trans hy6⟩
      case measure => simp [intOf]
    · skip
      have p5 : wr.cell? ⟨b5, 2, none⟩ = some (.int .i64 f2) := (hB5.ext hx).cell 2
      have p8 : wr.cell? ⟨b8, 2, none⟩ = some (.int .i64 g2) := (hB8.ext hx).cell 2
      have p9 : wr.cell? ⟨b9, 2, none⟩ = some (.string (wrd 2)) := (hB9.ext hx).cell 2
      have hws : (wrd 2).size ≤ 5 := by decide
      have hn5 := num_size f2 (by omega)
      have hn8 := num_size g2 (by omega)
      have HCf : Hid (∀ w', Ext W9 w' → Calls Tryd.prog 24 #[.int .i64 f2] w' fun e w'' => e = .returned (.string (num f2)) ∧ Ext w' w'') := fun w' q => impl_FormatInt_nat f2 (by omega) w' (hPW.ext q g HG.out)
      have HCg : Hid (∀ w', Ext W9 w' → Calls Tryd.prog 24 #[.int .i64 g2] w' fun e w'' => e = .returned (.string (num g2)) ∧ Ext w' w'') := fun w' q => impl_FormatInt_nat g2 (by omega) w' (hPW.ext q g HG.out)
      have HR : Hid (rep (pick f0 f1 f2) (pick g0 g1 g2) (2 + 1) = rep (pick f0 f1 f2) (pick g0 g1 g2) 2 ++ wrd 2 ++ ⟨#[32]⟩ ++ num f2 ++ ⟨#[32]⟩ ++ num g2) := rfl
      generalize wrd 2 = wd at *
      generalize rep (pick f0 f1 f2) (pick g0 g1 g2) 2 = rt at *
      have HK : Hid (∀ w', Ext wr w' → w'.cell? ⟨b5, 2, none⟩ = some (.int .i64 f2) ∧ w'.cell? ⟨b8, 2, none⟩ = some (.int .i64 g2)) := fun w' q => ⟨((hB5.ext hx).ext q).cell 2, ((hB8.ext hx).ext q).cell 2⟩
      generalize num f2 = nf at *
      generalize num g2 = ng at *
      have es : (⟨#[32]⟩ : ByteArray).size = 1 := rfl
      have j1 : ∀ w', (Op.stringOp .add rt wd).run Tryd.prog w' = .ok (.string (rt ++ wd)) w' := fun w' => run_string_add_sum w' _ _ (by omega)
      have j2 : ∀ w', (Op.stringOp .add (rt ++ wd) ⟨#[32]⟩).run Tryd.prog w' = .ok (.string (rt ++ wd ++ ⟨#[32]⟩)) w' := fun w' => run_string_add_sum w' _ _ (by simp only [ByteArray.size_append, es]; omega)
      have j3 : ∀ w', (Op.stringOp .add (rt ++ wd ++ ⟨#[32]⟩) nf).run Tryd.prog w' = .ok (.string (rt ++ wd ++ ⟨#[32]⟩ ++ nf)) w' := fun w' => run_string_add_sum w' _ _ (by simp only [ByteArray.size_append, es]; omega)
      have j4 : ∀ w', (Op.stringOp .add (rt ++ wd ++ ⟨#[32]⟩ ++ nf) ⟨#[32]⟩).run Tryd.prog w' = .ok (.string (rt ++ wd ++ ⟨#[32]⟩ ++ nf ++ ⟨#[32]⟩)) w' := fun w' => run_string_add_sum w' _ _ (by simp only [ByteArray.size_append, es]; omega)
      have j5 : ∀ w', (Op.stringOp .add (rt ++ wd ++ ⟨#[32]⟩ ++ nf ++ ⟨#[32]⟩) ng).run Tryd.prog w' = .ok (.string (rt ++ wd ++ ⟨#[32]⟩ ++ nf ++ ⟨#[32]⟩ ++ ng)) w' := fun w' => run_string_add_sum w' _ _ (by simp only [ByteArray.size_append, es]; omega)
      go_wp2
      go_region_held3 (fun w' => w'.cell? ⟨b5, 2, none⟩ = some (.int .i64 f2) ∧ w'.cell? ⟨b8, 2, none⟩ = some (.int .i64 g2))
        (first | go_keep | exact HK.out _ (by assumption))
        (first
          | (go_at_call 24; (with_reducible refine (HCf.out _ (hx.trans (Ext.refl wr).drew)).mono ?_); rintro e w5 ⟨rfl, hy5⟩; replace hy5 : Ext wr w5 := Ext.trans (Ext.refl wr).drew hy5)
          | (go_at_call 24; (with_reducible refine (HCg.out _ (hx.trans hy5)).mono ?_); rintro e w6 ⟨rfl, hy6⟩; replace hy6 : Ext wr w6 := hy5.trans hy6))
      clear j1 j2 j3 j4 j5
      go_wp2
      go_roundw
      case rel => exact ⟨2 + 1, by omega, by rw [← HR.out], by go_num, by rw [HR.out]; simp only [ByteArray.size_append, es]; omega, hx.trans hy6⟩
      case measure => simp [intOf]
    · go_wp2
      go_ret
      exact ⟨by first | rfl | (rw [hf0, hf1, hf2, hg0, hg1, hg2]; rfl), hX9.trans hx⟩
end Go.Proofs.YtngpkboocpaikabDoor
