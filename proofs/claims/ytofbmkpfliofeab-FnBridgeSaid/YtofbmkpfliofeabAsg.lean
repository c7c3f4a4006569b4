/-
  Helper text (no claim of its own): where an amplitude goes, by the reference. Printed by gen_am.py or gen_an.py.
-/
import Derived.Test.YtofbmkpfliofeabAsu
import Derived.Test.YtofbmkpfliofeabGate
namespace Go.Proofs.Ytofbmkpfliofeab
open Go.ChangeShapes Go.WideShapes Go.ChangeAt Go.RowKit Go.Deep
set_option linter.unusedVariables false
set_option linter.unusedSimpArgs false
/-- A bit, and places beside a place. -/
def bt (i q : Nat) : Bool := i / 2 ^ q % 2 == 1
def qlo (i q : Nat) : Nat := if bt i q then i - 2 ^ q else i
def qhi (i q : Nat) : Nat := if bt i q then i else i + 2 ^ q
def qfl (i q : Nat) : Nat := if bt i q then i - 2 ^ q else i + 2 ^ q
theorem chk_and : (List.range 16).all (fun i => (List.range 4).all fun q => (bits BinOp.and IntKind.i64 ((i : Int) / 2 ^ q) 1 == 1) == bt i q) = true := by kernel_rfl
theorem chk_xor : (List.range 32).all (fun i => (List.range 4).all fun q => bits BinOp.xor IntKind.i64 (i : Int) (wrap64 (2 ^ q)) == (qfl i q : Int)) = true := by kernel_rfl
theorem chk_xor2 : (List.range 16).all (fun i => (List.range 4).all fun q => bits BinOp.xor IntKind.i64 (i : Int) (IntKind.i64.wrap (2 ^ min (IntKind.u64.wrap (q : Int)).toNat 64)) == (qfl i q : Int)) = true := by kernel_rfl
theorem chk_lo : (List.range 16).all (fun i => (List.range 4).all fun q => bits BinOp.andNot IntKind.i64 (i : Int) (wrap64 (2 ^ q)) == (qlo i q : Int)) = true := by kernel_rfl
theorem chk_hi : (List.range 16).all (fun i => (List.range 4).all fun q => bits BinOp.or IntKind.i64 (qlo i q : Int) (wrap64 (2 ^ q)) == (qhi i q : Int)) = true := by kernel_rfl
theorem chk_fl : (List.range 16).all (fun i => (List.range 4).all fun q => decide (qfl i q < 32)) = true := by kernel_rfl
theorem of_chk {m : Nat} {f : Nat → Nat → Bool} (h : (List.range m).all (fun i => (List.range 4).all fun q => f i q) = true) {i q : Nat} (hi : i < m) (hq : q < 4) : f i q = true := by
  have := List.all_eq_true.1 h i (List.mem_range.2 hi)
  exact List.all_eq_true.1 this q (List.mem_range.2 hq)
theorem and_bt {i q : Nat} (hi : i < 16) (hq : q < 4) : (bits BinOp.and IntKind.i64 ((i : Int) / 2 ^ q) 1 == 1) = bt i q := beq_iff_eq.1 (of_chk chk_and hi hq)
theorem xor_fl {i q : Nat} (hi : i < 32) (hq : q < 4) : bits BinOp.xor IntKind.i64 (i : Int) (wrap64 (2 ^ q)) = (qfl i q : Int) := beq_iff_eq.1 (of_chk chk_xor hi hq)
theorem xor_fl2 {i q : Nat} (hi : i < 16) (hq : q < 4) : bits BinOp.xor IntKind.i64 (i : Int) (IntKind.i64.wrap (2 ^ min (IntKind.u64.wrap (q : Int)).toNat 64)) = (qfl i q : Int) := beq_iff_eq.1 (of_chk chk_xor2 hi hq)
theorem not_lo {i q : Nat} (hi : i < 16) (hq : q < 4) : bits BinOp.andNot IntKind.i64 (i : Int) (wrap64 (2 ^ q)) = (qlo i q : Int) := beq_iff_eq.1 (of_chk chk_lo hi hq)
theorem or_hi {i q : Nat} (h : i < 16) (hq : q < 4) : bits BinOp.or IntKind.i64 (qlo i q : Int) (wrap64 (2 ^ q)) = (qhi i q : Int) := beq_iff_eq.1 (of_chk chk_hi h hq)
theorem fl_32 {i q : Nat} (hi : i < 16) (hq : q < 4) : qfl i q < 32 := of_decide_eq_true (of_chk chk_fl hi hq)
def ncells (s : Nat × Dw) : List Value := .int .i64 s.1 :: s.2.cells
theorem ncells_len (s : Nat × Dw) : (ncells s).length = 6 := rfl
/-- Where an amplitude goes, in a block of its own. -/
def SN (w : World) (b : Nat) (l : List (Nat × Dw)) : Prop := Blk w b 108 (l.flatMap ncells).toArray
/-- What a call returned. -/
def NOut (l : List (Nat × Dw)) (e : Ending) (w : World) : Prop := ∃ b, e = .returned (.slice (some ⟨b, 0, none⟩) l.length l.length) ∧ SN w b l
set_option maxRecDepth 100000 in
set_option maxHeartbeats 8000000 in
theorem l10Flip_any (i q : Nat) (hi : i < 16) (hq : q < 4) (t : Bool) (w : World) : Calls Try.prog 83 #[.int .i64 i, .int .i64 q, .bool t] w fun e w' => NOut [(if t then qfl i q else i, ph 0)] e w' ∧ Ext w w' := by
  have hx := xor_fl (show i < 32 by omega) hq
  cases t
  · go_enter Try.func83, Try.ntmps83
    go_wp2_with fail
    refine (PhaseFactor_0 _).mono ?_
    rintro e w1 ⟨rfl, hx1⟩
    go_wp2
    go_ret
    exact ⟨⟨_, rfl, Blk.new _ _ _⟩, hx1.alloc _⟩
  · go_enter Try.func83, Try.ntmps83
    go_wp2_with fail
    refine (PhaseFactor_0 _).mono ?_
    rintro e w1 ⟨rfl, hx1⟩
    go_wp2
    go_ret
    exact ⟨⟨_, rfl, Blk.new _ _ _⟩, hx1.alloc _⟩
set_option maxRecDepth 100000 in
set_option maxHeartbeats 8000000 in
theorem l10Phase_any (i j : Nat) (hj : j < 8) (t : Bool) (w : World) : Calls Try.prog 84 #[.int .i64 i, .bool t, .int .i64 j] w fun e w' => NOut [(i, ph (if t then j else 0))] e w' ∧ Ext w w' := by
  cases t
  · go_enter Try.func84, Try.ntmps84
    go_wp2_with fail
    refine (PhaseFactor_0 _).mono ?_
    rintro e w1 ⟨rfl, hx1⟩
    go_wp2
    go_ret
    exact ⟨⟨_, rfl, Blk.new _ _ _⟩, hx1.alloc _⟩
  · go_enter Try.func84, Try.ntmps84
    go_wp2_with fail
    refine (PhaseFactor_any hj _).mono ?_
    rintro e w1 ⟨rfl, hx1⟩
    go_wp2
    go_ret
    exact ⟨⟨_, rfl, Blk.new _ _ _⟩, hx1.alloc _⟩
set_option maxRecDepth 100000 in
set_option maxHeartbeats 8000000 in
theorem Goes_1 (a b c i : Nat) (hi : i < 16) (ha : a < 4) (hb : b < 4) (hc : c < 4) (w : World) : Calls Try.prog 75 #[.agg #[.int .i64 1, .int .i64 a, .int .i64 b, .int .i64 c], .int .i64 i] w fun e w' => NOut [(qfl i a, ph 0)] e w' ∧ Ext w w' := by
  have hA := and_bt hi ha
  have hB := and_bt hi hb
  generalize bt i a = ta at *
  generalize bt i b = tb at *
  go_enter Try.func75, Try.ntmps75
  go_wp2_with fail
  refine (l10Flip_any i a hi ha true _).mono ?_
  rintro e w1 ⟨⟨b1, rfl, hn⟩, hx1⟩
  go_wp2
  go_ret
  exact ⟨⟨_, rfl, hn⟩, Ext.trans (by repeat (first | exact Ext.refl _ | assumption | refine Ext.alloc ?_ _ | refine Ext.drewN ?_ _ | refine Ext.drew ?_)) hx1⟩
set_option maxRecDepth 100000 in
set_option maxHeartbeats 8000000 in
theorem Goes_3 (a b c i : Nat) (hi : i < 16) (ha : a < 4) (hb : b < 4) (hc : c < 4) (w : World) : Calls Try.prog 75 #[.agg #[.int .i64 3, .int .i64 a, .int .i64 b, .int .i64 c], .int .i64 i] w fun e w' => NOut [(i, ph (if bt i a then 4 else 0))] e w' ∧ Ext w w' := by
  have hA := and_bt hi ha
  have hB := and_bt hi hb
  generalize bt i a = ta at *
  generalize bt i b = tb at *
  cases ta
  · go_enter Try.func75, Try.ntmps75
    go_wp2_with fail
    refine (l10Phase_any i 4 (by omega) false _).mono ?_
    rintro e w1 ⟨⟨b1, rfl, hn⟩, hx1⟩
    go_wp2
    go_ret
    exact ⟨⟨_, rfl, hn⟩, Ext.trans (by repeat (first | exact Ext.refl _ | assumption | refine Ext.alloc ?_ _ | refine Ext.drewN ?_ _ | refine Ext.drew ?_)) hx1⟩
  · go_enter Try.func75, Try.ntmps75
    go_wp2_with fail
    refine (l10Phase_any i 4 (by omega) true _).mono ?_
    rintro e w1 ⟨⟨b1, rfl, hn⟩, hx1⟩
    go_wp2
    go_ret
    exact ⟨⟨_, rfl, hn⟩, Ext.trans (by repeat (first | exact Ext.refl _ | assumption | refine Ext.alloc ?_ _ | refine Ext.drewN ?_ _ | refine Ext.drew ?_)) hx1⟩
set_option maxRecDepth 100000 in
set_option maxHeartbeats 8000000 in
theorem Goes_5 (a b c i : Nat) (hi : i < 16) (ha : a < 4) (hb : b < 4) (hc : c < 4) (w : World) : Calls Try.prog 75 #[.agg #[.int .i64 5, .int .i64 a, .int .i64 b, .int .i64 c], .int .i64 i] w fun e w' => NOut [(i, ph (if bt i a then 2 else 0))] e w' ∧ Ext w w' := by
  have hA := and_bt hi ha
  have hB := and_bt hi hb
  generalize bt i a = ta at *
  generalize bt i b = tb at *
  cases ta
  · go_enter Try.func75, Try.ntmps75
    go_wp2_with fail
    refine (l10Phase_any i 2 (by omega) false _).mono ?_
    rintro e w1 ⟨⟨b1, rfl, hn⟩, hx1⟩
    go_wp2
    go_ret
    exact ⟨⟨_, rfl, hn⟩, Ext.trans (by repeat (first | exact Ext.refl _ | assumption | refine Ext.alloc ?_ _ | refine Ext.drewN ?_ _ | refine Ext.drew ?_)) hx1⟩
  · go_enter Try.func75, Try.ntmps75
    go_wp2_with fail
    refine (l10Phase_any i 2 (by omega) true _).mono ?_
    rintro e w1 ⟨⟨b1, rfl, hn⟩, hx1⟩
    go_wp2
    go_ret
    exact ⟨⟨_, rfl, hn⟩, Ext.trans (by repeat (first | exact Ext.refl _ | assumption | refine Ext.alloc ?_ _ | refine Ext.drewN ?_ _ | refine Ext.drew ?_)) hx1⟩
set_option maxRecDepth 100000 in
set_option maxHeartbeats 8000000 in
theorem Goes_6 (a b c i : Nat) (hi : i < 16) (ha : a < 4) (hb : b < 4) (hc : c < 4) (w : World) : Calls Try.prog 75 #[.agg #[.int .i64 6, .int .i64 a, .int .i64 b, .int .i64 c], .int .i64 i] w fun e w' => NOut [(i, ph (if bt i a then 6 else 0))] e w' ∧ Ext w w' := by
  have hA := and_bt hi ha
  have hB := and_bt hi hb
  generalize bt i a = ta at *
  generalize bt i b = tb at *
  cases ta
  · go_enter Try.func75, Try.ntmps75
    go_wp2_with fail
    refine (l10Phase_any i 6 (by omega) false _).mono ?_
    rintro e w1 ⟨⟨b1, rfl, hn⟩, hx1⟩
    go_wp2
    go_ret
    exact ⟨⟨_, rfl, hn⟩, Ext.trans (by repeat (first | exact Ext.refl _ | assumption | refine Ext.alloc ?_ _ | refine Ext.drewN ?_ _ | refine Ext.drew ?_)) hx1⟩
  · go_enter Try.func75, Try.ntmps75
    go_wp2_with fail
    refine (l10Phase_any i 6 (by omega) true _).mono ?_
    rintro e w1 ⟨⟨b1, rfl, hn⟩, hx1⟩
    go_wp2
    go_ret
    exact ⟨⟨_, rfl, hn⟩, Ext.trans (by repeat (first | exact Ext.refl _ | assumption | refine Ext.alloc ?_ _ | refine Ext.drewN ?_ _ | refine Ext.drew ?_)) hx1⟩
set_option maxRecDepth 100000 in
set_option maxHeartbeats 8000000 in
theorem Goes_7 (a b c i : Nat) (hi : i < 16) (ha : a < 4) (hb : b < 4) (hc : c < 4) (w : World) : Calls Try.prog 75 #[.agg #[.int .i64 7, .int .i64 a, .int .i64 b, .int .i64 c], .int .i64 i] w fun e w' => NOut [(i, ph (if bt i a then 1 else 0))] e w' ∧ Ext w w' := by
  have hA := and_bt hi ha
  have hB := and_bt hi hb
  generalize bt i a = ta at *
  generalize bt i b = tb at *
  cases ta
  · go_enter Try.func75, Try.ntmps75
    go_wp2_with fail
    refine (l10Phase_any i 1 (by omega) false _).mono ?_
    rintro e w1 ⟨⟨b1, rfl, hn⟩, hx1⟩
    go_wp2
    go_ret
    exact ⟨⟨_, rfl, hn⟩, Ext.trans (by repeat (first | exact Ext.refl _ | assumption | refine Ext.alloc ?_ _ | refine Ext.drewN ?_ _ | refine Ext.drew ?_)) hx1⟩
  · go_enter Try.func75, Try.ntmps75
    go_wp2_with fail
    refine (l10Phase_any i 1 (by omega) true _).mono ?_
    rintro e w1 ⟨⟨b1, rfl, hn⟩, hx1⟩
    go_wp2
    go_ret
    exact ⟨⟨_, rfl, hn⟩, Ext.trans (by repeat (first | exact Ext.refl _ | assumption | refine Ext.alloc ?_ _ | refine Ext.drewN ?_ _ | refine Ext.drew ?_)) hx1⟩
set_option maxRecDepth 100000 in
set_option maxHeartbeats 8000000 in
theorem Goes_8 (a b c i : Nat) (hi : i < 16) (ha : a < 4) (hb : b < 4) (hc : c < 4) (w : World) : Calls Try.prog 75 #[.agg #[.int .i64 8, .int .i64 a, .int .i64 b, .int .i64 c], .int .i64 i] w fun e w' => NOut [(i, ph (if bt i a then 7 else 0))] e w' ∧ Ext w w' := by
  have hA := and_bt hi ha
  have hB := and_bt hi hb
  generalize bt i a = ta at *
  generalize bt i b = tb at *
  cases ta
  · go_enter Try.func75, Try.ntmps75
    go_wp2_with fail
    refine (l10Phase_any i 7 (by omega) false _).mono ?_
    rintro e w1 ⟨⟨b1, rfl, hn⟩, hx1⟩
    go_wp2
    go_ret
    exact ⟨⟨_, rfl, hn⟩, Ext.trans (by repeat (first | exact Ext.refl _ | assumption | refine Ext.alloc ?_ _ | refine Ext.drewN ?_ _ | refine Ext.drew ?_)) hx1⟩
  · go_enter Try.func75, Try.ntmps75
    go_wp2_with fail
    refine (l10Phase_any i 7 (by omega) true _).mono ?_
    rintro e w1 ⟨⟨b1, rfl, hn⟩, hx1⟩
    go_wp2
    go_ret
    exact ⟨⟨_, rfl, hn⟩, Ext.trans (by repeat (first | exact Ext.refl _ | assumption | refine Ext.alloc ?_ _ | refine Ext.drewN ?_ _ | refine Ext.drew ?_)) hx1⟩
set_option maxRecDepth 100000 in
set_option maxHeartbeats 8000000 in
theorem Goes_9 (a b c i : Nat) (hi : i < 16) (ha : a < 4) (hb : b < 4) (hc : c < 4) (w : World) : Calls Try.prog 75 #[.agg #[.int .i64 9, .int .i64 a, .int .i64 b, .int .i64 c], .int .i64 i] w fun e w' => NOut [(if bt i a then qfl i b else i, ph 0)] e w' ∧ Ext w w' := by
  have hA := and_bt hi ha
  have hB := and_bt hi hb
  generalize bt i a = ta at *
  generalize bt i b = tb at *
  cases ta
  · go_enter Try.func75, Try.ntmps75
    go_wp2_with fail
    refine (l10Flip_any i b hi hb false _).mono ?_
    rintro e w1 ⟨⟨b1, rfl, hn⟩, hx1⟩
    go_wp2
    go_ret
    exact ⟨⟨_, rfl, hn⟩, Ext.trans (by repeat (first | exact Ext.refl _ | assumption | refine Ext.alloc ?_ _ | refine Ext.drewN ?_ _ | refine Ext.drew ?_)) hx1⟩
  · go_enter Try.func75, Try.ntmps75
    go_wp2_with fail
    refine (l10Flip_any i b hi hb true _).mono ?_
    rintro e w1 ⟨⟨b1, rfl, hn⟩, hx1⟩
    go_wp2
    go_ret
    exact ⟨⟨_, rfl, hn⟩, Ext.trans (by repeat (first | exact Ext.refl _ | assumption | refine Ext.alloc ?_ _ | refine Ext.drewN ?_ _ | refine Ext.drew ?_)) hx1⟩
set_option maxRecDepth 100000 in
set_option maxHeartbeats 8000000 in
theorem Goes_10 (a b c i : Nat) (hi : i < 16) (ha : a < 4) (hb : b < 4) (hc : c < 4) (w : World) : Calls Try.prog 75 #[.agg #[.int .i64 10, .int .i64 a, .int .i64 b, .int .i64 c], .int .i64 i] w fun e w' => NOut [(i, ph (if bt i a && bt i b then 4 else 0))] e w' ∧ Ext w w' := by
  have hA := and_bt hi ha
  have hB := and_bt hi hb
  generalize bt i a = ta at *
  generalize bt i b = tb at *
  cases ta
  · go_enter Try.func75, Try.ntmps75
    go_wp2_with fail
    refine (l10Phase_any i 4 (by omega) false _).mono ?_
    rintro e w1 ⟨⟨b1, rfl, hn⟩, hx1⟩
    go_wp2
    go_ret
    exact ⟨⟨_, rfl, hn⟩, Ext.trans (by repeat (first | exact Ext.refl _ | assumption | refine Ext.alloc ?_ _ | refine Ext.drewN ?_ _ | refine Ext.drew ?_)) hx1⟩
  · cases tb
    · go_enter Try.func75, Try.ntmps75
      go_wp2_with fail
      refine (l10Phase_any i 4 (by omega) false _).mono ?_
      rintro e w1 ⟨⟨b1, rfl, hn⟩, hx1⟩
      go_wp2
      go_ret
      exact ⟨⟨_, rfl, hn⟩, Ext.trans (by repeat (first | exact Ext.refl _ | assumption | refine Ext.alloc ?_ _ | refine Ext.drewN ?_ _ | refine Ext.drew ?_)) hx1⟩
    · go_enter Try.func75, Try.ntmps75
      go_wp2_with fail
      refine (l10Phase_any i 4 (by omega) true _).mono ?_
      rintro e w1 ⟨⟨b1, rfl, hn⟩, hx1⟩
      go_wp2
      go_ret
      exact ⟨⟨_, rfl, hn⟩, Ext.trans (by repeat (first | exact Ext.refl _ | assumption | refine Ext.alloc ?_ _ | refine Ext.drewN ?_ _ | refine Ext.drew ?_)) hx1⟩
set_option maxRecDepth 100000 in
set_option maxHeartbeats 8000000 in
theorem Goes_12 (a b c i : Nat) (hi : i < 16) (ha : a < 4) (hb : b < 4) (hc : c < 4) (w : World) : Calls Try.prog 75 #[.agg #[.int .i64 12, .int .i64 a, .int .i64 b, .int .i64 c], .int .i64 i] w fun e w' => NOut [(if bt i a && bt i b then qfl i c else i, ph 0)] e w' ∧ Ext w w' := by
  have hA := and_bt hi ha
  have hB := and_bt hi hb
  generalize bt i a = ta at *
  generalize bt i b = tb at *
  cases ta
  · go_enter Try.func75, Try.ntmps75
    go_wp2_with fail
    refine (l10Flip_any i c hi hc false _).mono ?_
    rintro e w1 ⟨⟨b1, rfl, hn⟩, hx1⟩
    go_wp2
    go_ret
    exact ⟨⟨_, rfl, hn⟩, Ext.trans (by repeat (first | exact Ext.refl _ | assumption | refine Ext.alloc ?_ _ | refine Ext.drewN ?_ _ | refine Ext.drew ?_)) hx1⟩
  · cases tb
    · go_enter Try.func75, Try.ntmps75
      go_wp2_with fail
      refine (l10Flip_any i c hi hc false _).mono ?_
      rintro e w1 ⟨⟨b1, rfl, hn⟩, hx1⟩
      go_wp2
      go_ret
      exact ⟨⟨_, rfl, hn⟩, Ext.trans (by repeat (first | exact Ext.refl _ | assumption | refine Ext.alloc ?_ _ | refine Ext.drewN ?_ _ | refine Ext.drew ?_)) hx1⟩
    · go_enter Try.func75, Try.ntmps75
      go_wp2_with fail
      refine (l10Flip_any i c hi hc true _).mono ?_
      rintro e w1 ⟨⟨b1, rfl, hn⟩, hx1⟩
      go_wp2
      go_ret
      exact ⟨⟨_, rfl, hn⟩, Ext.trans (by repeat (first | exact Ext.refl _ | assumption | refine Ext.alloc ?_ _ | refine Ext.drewN ?_ _ | refine Ext.drew ?_)) hx1⟩
set_option maxRecDepth 100000 in
set_option maxHeartbeats 8000000 in
theorem Goes_11 (a b c i : Nat) (hi : i < 16) (ha : a < 4) (hb : b < 4) (hc : c < 4) (w : World) : Calls Try.prog 75 #[.agg #[.int .i64 11, .int .i64 a, .int .i64 b, .int .i64 c], .int .i64 i] w fun e w' => NOut [(if bt i a != bt i b then qfl (qfl i a) b else i, ph 0)] e w' ∧ Ext w w' := by
  have hA := and_bt hi ha
  have hB := and_bt hi hb
  have hxa := xor_fl (show i < 32 by omega) ha
  have hxb := xor_fl (fl_32 hi ha) hb
  generalize bt i a = ta at *
  generalize bt i b = tb at *
  cases ta <;> cases tb
  · go_enter Try.func75, Try.ntmps75
    go_wp2_with fail
    refine (PhaseFactor_0 _).mono ?_
    rintro e w1 ⟨rfl, hx1⟩
    go_wp2
    go_ret
    exact ⟨⟨_, rfl, Blk.new _ _ _⟩, (Ext.trans (by repeat (first | exact Ext.refl _ | assumption | refine Ext.alloc ?_ _ | refine Ext.drewN ?_ _ | refine Ext.drew ?_)) hx1).alloc _⟩
  · go_enter Try.func75, Try.ntmps75
    go_wp2_with fail
    refine (PhaseFactor_0 _).mono ?_
    rintro e w1 ⟨rfl, hx1⟩
    go_wp2
    go_ret
    exact ⟨⟨_, rfl, Blk.new _ _ _⟩, (Ext.trans (by repeat (first | exact Ext.refl _ | assumption | refine Ext.alloc ?_ _ | refine Ext.drewN ?_ _ | refine Ext.drew ?_)) hx1).alloc _⟩
  · go_enter Try.func75, Try.ntmps75
    go_wp2_with fail
    refine (PhaseFactor_0 _).mono ?_
    rintro e w1 ⟨rfl, hx1⟩
    go_wp2
    go_ret
    exact ⟨⟨_, rfl, Blk.new _ _ _⟩, (Ext.trans (by repeat (first | exact Ext.refl _ | assumption | refine Ext.alloc ?_ _ | refine Ext.drewN ?_ _ | refine Ext.drew ?_)) hx1).alloc _⟩
  · go_enter Try.func75, Try.ntmps75
    go_wp2_with fail
    refine (PhaseFactor_0 _).mono ?_
    rintro e w1 ⟨rfl, hx1⟩
    go_wp2
    go_ret
    exact ⟨⟨_, rfl, Blk.new _ _ _⟩, (Ext.trans (by repeat (first | exact Ext.refl _ | assumption | refine Ext.alloc ?_ _ | refine Ext.drewN ?_ _ | refine Ext.drew ?_)) hx1).alloc _⟩
set_option maxRecDepth 100000 in
set_option maxHeartbeats 8000000 in
theorem Goes_2 (a b c i : Nat) (hi : i < 16) (ha : a < 4) (hb : b < 4) (hc : c < 4) (w : World) : Calls Try.prog 75 #[.agg #[.int .i64 2, .int .i64 a, .int .i64 b, .int .i64 c], .int .i64 i] w fun e w' => NOut [(qfl i a, ph (if bt i a then 6 else 2))] e w' ∧ Ext w w' := by
  have hA := and_bt hi ha
  have hB := and_bt hi hb
  have HXA := Lib.hid (xor_fl2 hi ha)
  generalize bt i a = ta at *
  generalize bt i b = tb at *
  cases ta
  · go_enter Try.func75, Try.ntmps75
    go_upto_region 10 with (fail)
    have HB : Hid (Blk (w.alloc (.cells #[.int .i64 2, .int .i64 a, .int .i64 b, .int .i64 c] 43)) w.heap.size 43 #[.int .i64 2, .int .i64 a, .int .i64 b, .int .i64 c]) := Blk.new _ _ _
    have HE : Hid (Ext w (w.alloc (.cells #[.int .i64 2, .int .i64 a, .int .i64 b, .int .i64 c] 43))) := (by repeat (first | exact Ext.refl _ | assumption | refine Ext.alloc ?_ _ | refine Ext.drewN ?_ _ | refine Ext.drew ?_))
    generalize w.alloc (.cells #[.int .i64 2, .int .i64 a, .int .i64 b, .int .i64 c] 43) = w1 at *
    have HK : Hid (∀ w', Ext w1 w' → w'.cell? ⟨w.heap.size, 1, none⟩ = some (.int .i64 a)) := fun w' hx => (HB.out.ext hx).cell 1
    refine wp_region_held_drew (S := fun w' => w'.cell? ⟨w.heap.size, 1, none⟩ = some (.int .i64 a)) (by kernel_rfl) (HK.out _ (Ext.refl w1).drew) (fun hHeld => ?_)
    (refine wpAnyH_take (i := 0) (v := ?_) rfl (by kernel_rfl) (by kernel_rfl) (by kernel_rfl) (fun _ _ _ h => h) (Or.inl ⟨by rfl, ?_⟩) (by assumption) ?_; rotate_left; · (intro w hSw; (try dsimp only at hSw); go_simp; all_goals with_reducible rfl); (try simp only [Act.put, List.getElem_toArray, List.getElem_cons_zero, List.getElem_cons_succ, List.setIfInBounds_toArray, List.set_cons_zero, List.set_cons_succ]))
    (try simp only [Act.put, List.getElem_toArray, List.getElem_cons_zero, List.getElem_cons_succ, List.setIfInBounds_toArray, List.set_cons_zero, List.set_cons_succ])
    (refine wpAnyH_take (i := 1) (v := ?_) rfl (by kernel_rfl) (by kernel_rfl) (by kernel_rfl) (fun _ _ _ h => h) (Or.inl ⟨by rfl, ?_⟩) (by assumption) ?_; rotate_left; · (intro w hSw; (try dsimp only at hSw); go_simp; all_goals with_reducible rfl); (try simp only [Act.put, List.getElem_toArray, List.getElem_cons_zero, List.getElem_cons_succ, List.setIfInBounds_toArray, List.set_cons_zero, List.set_cons_succ]))
    (try simp only [Act.put, List.getElem_toArray, List.getElem_cons_zero, List.getElem_cons_succ, List.setIfInBounds_toArray, List.set_cons_zero, List.set_cons_succ])
    (refine wpAnyH_take (i := 2) (v := ?_) rfl (by kernel_rfl) (by kernel_rfl) (by kernel_rfl) (fun _ _ _ h => h) (Or.inl ⟨by rfl, ?_⟩) (by assumption) ?_; rotate_left; · (intro w hSw; (try dsimp only at hSw); go_simp; all_goals with_reducible rfl); (try simp only [Act.put, List.getElem_toArray, List.getElem_cons_zero, List.getElem_cons_succ, List.setIfInBounds_toArray, List.set_cons_zero, List.set_cons_succ]))
    (try simp only [Act.put, List.getElem_toArray, List.getElem_cons_zero, List.getElem_cons_succ, List.setIfInBounds_toArray, List.set_cons_zero, List.set_cons_succ])
    (refine wpAnyH_take (i := 3) (v := ?_) rfl (by kernel_rfl) (by kernel_rfl) (by kernel_rfl) (fun _ _ _ h => h) (Or.inl ⟨by rfl, ?_⟩) (by assumption) ?_; rotate_left; · (intro w hSw; (try dsimp only at hSw); go_simp; all_goals with_reducible rfl); (try simp only [Act.put, List.getElem_toArray, List.getElem_cons_zero, List.getElem_cons_succ, List.setIfInBounds_toArray, List.set_cons_zero, List.set_cons_succ]))
    (try simp only [Act.put, List.getElem_toArray, List.getElem_cons_zero, List.getElem_cons_succ, List.setIfInBounds_toArray, List.set_cons_zero, List.set_cons_succ])
    (refine wpAnyH_take (i := 4) (v := ?_) rfl (by kernel_rfl) (by kernel_rfl) (by kernel_rfl) (fun _ _ _ h => h) (Or.inl ⟨by rfl, ?_⟩) (by assumption) ?_; rotate_left; · (intro w hSw; (try dsimp only at hSw); go_simp; all_goals with_reducible rfl); (try simp only [Act.put, List.getElem_toArray, List.getElem_cons_zero, List.getElem_cons_succ, List.setIfInBounds_toArray, List.set_cons_zero, List.set_cons_succ]))
    (try simp only [Act.put, List.getElem_toArray, List.getElem_cons_zero, List.getElem_cons_succ, List.setIfInBounds_toArray, List.set_cons_zero, List.set_cons_succ])
    (refine wpAnyH_take (i := 5) (v := ?_) rfl (by kernel_rfl) (by kernel_rfl) (by kernel_rfl) (fun _ _ _ h => h) (Or.inl ⟨by rfl, ?_⟩) (by assumption) ?_; rotate_left; · (intro w hSw; (try dsimp only at hSw); go_simp; all_goals with_reducible rfl); (try simp only [Act.put, List.getElem_toArray, List.getElem_cons_zero, List.getElem_cons_succ, List.setIfInBounds_toArray, List.set_cons_zero, List.set_cons_succ]))
    (try simp only [Act.put, List.getElem_toArray, List.getElem_cons_zero, List.getElem_cons_succ, List.setIfInBounds_toArray, List.set_cons_zero, List.set_cons_succ])
    (refine wpAnyH_take (i := 6) (v := ?_) rfl (by kernel_rfl) (by kernel_rfl) (by kernel_rfl) (fun _ _ _ h => h) (Or.inl ⟨by rfl, ?_⟩) (by assumption) ?_; rotate_left; · (intro w hSw; (try dsimp only at hSw); go_simp; all_goals with_reducible rfl); (try simp only [Act.put, List.getElem_toArray, List.getElem_cons_zero, List.getElem_cons_succ, List.setIfInBounds_toArray, List.set_cons_zero, List.set_cons_succ]))
    (try simp only [Act.put, List.getElem_toArray, List.getElem_cons_zero, List.getElem_cons_succ, List.setIfInBounds_toArray, List.set_cons_zero, List.set_cons_succ])
    refine wpAnyH_ready (rs := [7]) (by kernel_rfl) (by simp) ?_
    refine AllReadyH.cons rfl (fun K hK => ?_) AllReadyH.nil
    go_simp
    refine (PhaseFactor_2 _).mono ?_
    rintro e v5 ⟨rfl, hy5⟩
    have HY5 : Hid (Ext w1 v5) := Ext.trans (Ext.refl w1).drew hy5
    clear hy5
    refine hK.out _ _ (HK.out _ HY5.out) (fun hHeld => ?_)
    clear hK K
    (try simp only [Act.put, List.getElem_toArray, List.getElem_cons_zero, List.getElem_cons_succ, List.setIfInBounds_toArray, List.set_cons_zero, List.set_cons_succ])
    (refine wpAnyH_take (i := 8) (v := ?_) rfl (by kernel_rfl) (by kernel_rfl) (by kernel_rfl) (fun _ _ _ h => h) (Or.inl ⟨by rfl, ?_⟩) (by assumption) ?_; rotate_left; · (intro w hSw; (try dsimp only at hSw); go_simp; all_goals with_reducible rfl); (try simp only [Act.put, List.getElem_toArray, List.getElem_cons_zero, List.getElem_cons_succ, List.setIfInBounds_toArray, List.set_cons_zero, List.set_cons_succ]))
    (try simp only [Act.put, List.getElem_toArray, List.getElem_cons_zero, List.getElem_cons_succ, List.setIfInBounds_toArray, List.set_cons_zero, List.set_cons_succ])
    refine wpAnyH_ready (rs := [9]) (by kernel_rfl) (by simp) ?_
    refine AllReadyH.cons rfl (fun K hK => ?_) AllReadyH.nil
    go_simp
    rw [HXA.out]
    refine hK.out _ _ (HK.out _ (HY5.out.alloc _)) (fun hHeld => ?_)
    clear hK K
    (try simp only [Act.put, List.getElem_toArray, List.getElem_cons_zero, List.getElem_cons_succ, List.setIfInBounds_toArray, List.set_cons_zero, List.set_cons_succ])
    (refine wpAnyH_take (i := 10) (v := ?_) rfl (by kernel_rfl) (by kernel_rfl) (by kernel_rfl) (fun _ _ _ h => h) (Or.inl ⟨by rfl, ?_⟩) (by assumption) ?_; rotate_left; · (intro w hSw; (try dsimp only at hSw); go_simp; all_goals with_reducible rfl); (try simp only [Act.put, List.getElem_toArray, List.getElem_cons_zero, List.getElem_cons_succ, List.setIfInBounds_toArray, List.set_cons_zero, List.set_cons_succ]))
    (refine wpAnyH_done (by kernel_rfl) ?_ _)
    go_wp2
    go_ret
    exact ⟨⟨_, rfl, Blk.new _ _ _⟩, (HE.out.trans HY5.out).alloc _⟩
  · go_enter Try.func75, Try.ntmps75
    go_upto_region 10 with (fail)
    have HB : Hid (Blk (w.alloc (.cells #[.int .i64 2, .int .i64 a, .int .i64 b, .int .i64 c] 43)) w.heap.size 43 #[.int .i64 2, .int .i64 a, .int .i64 b, .int .i64 c]) := Blk.new _ _ _
    have HE : Hid (Ext w (w.alloc (.cells #[.int .i64 2, .int .i64 a, .int .i64 b, .int .i64 c] 43))) := (by repeat (first | exact Ext.refl _ | assumption | refine Ext.alloc ?_ _ | refine Ext.drewN ?_ _ | refine Ext.drew ?_))
    generalize w.alloc (.cells #[.int .i64 2, .int .i64 a, .int .i64 b, .int .i64 c] 43) = w1 at *
    have HK : Hid (∀ w', Ext w1 w' → w'.cell? ⟨w.heap.size, 1, none⟩ = some (.int .i64 a)) := fun w' hx => (HB.out.ext hx).cell 1
    refine wp_region_held_drew (S := fun w' => w'.cell? ⟨w.heap.size, 1, none⟩ = some (.int .i64 a)) (by kernel_rfl) (HK.out _ (Ext.refl w1).drew) (fun hHeld => ?_)
    (refine wpAnyH_take (i := 0) (v := ?_) rfl (by kernel_rfl) (by kernel_rfl) (by kernel_rfl) (fun _ _ _ h => h) (Or.inl ⟨by rfl, ?_⟩) (by assumption) ?_; rotate_left; · (intro w hSw; (try dsimp only at hSw); go_simp; all_goals with_reducible rfl); (try simp only [Act.put, List.getElem_toArray, List.getElem_cons_zero, List.getElem_cons_succ, List.setIfInBounds_toArray, List.set_cons_zero, List.set_cons_succ]))
    (try simp only [Act.put, List.getElem_toArray, List.getElem_cons_zero, List.getElem_cons_succ, List.setIfInBounds_toArray, List.set_cons_zero, List.set_cons_succ])
    (refine wpAnyH_take (i := 1) (v := ?_) rfl (by kernel_rfl) (by kernel_rfl) (by kernel_rfl) (fun _ _ _ h => h) (Or.inl ⟨by rfl, ?_⟩) (by assumption) ?_; rotate_left; · (intro w hSw; (try dsimp only at hSw); go_simp; all_goals with_reducible rfl); (try simp only [Act.put, List.getElem_toArray, List.getElem_cons_zero, List.getElem_cons_succ, List.setIfInBounds_toArray, List.set_cons_zero, List.set_cons_succ]))
    (try simp only [Act.put, List.getElem_toArray, List.getElem_cons_zero, List.getElem_cons_succ, List.setIfInBounds_toArray, List.set_cons_zero, List.set_cons_succ])
    (refine wpAnyH_take (i := 2) (v := ?_) rfl (by kernel_rfl) (by kernel_rfl) (by kernel_rfl) (fun _ _ _ h => h) (Or.inl ⟨by rfl, ?_⟩) (by assumption) ?_; rotate_left; · (intro w hSw; (try dsimp only at hSw); go_simp; all_goals with_reducible rfl); (try simp only [Act.put, List.getElem_toArray, List.getElem_cons_zero, List.getElem_cons_succ, List.setIfInBounds_toArray, List.set_cons_zero, List.set_cons_succ]))
    (try simp only [Act.put, List.getElem_toArray, List.getElem_cons_zero, List.getElem_cons_succ, List.setIfInBounds_toArray, List.set_cons_zero, List.set_cons_succ])
    (refine wpAnyH_take (i := 3) (v := ?_) rfl (by kernel_rfl) (by kernel_rfl) (by kernel_rfl) (fun _ _ _ h => h) (Or.inl ⟨by rfl, ?_⟩) (by assumption) ?_; rotate_left; · (intro w hSw; (try dsimp only at hSw); go_simp; all_goals with_reducible rfl); (try simp only [Act.put, List.getElem_toArray, List.getElem_cons_zero, List.getElem_cons_succ, List.setIfInBounds_toArray, List.set_cons_zero, List.set_cons_succ]))
    (try simp only [Act.put, List.getElem_toArray, List.getElem_cons_zero, List.getElem_cons_succ, List.setIfInBounds_toArray, List.set_cons_zero, List.set_cons_succ])
    (refine wpAnyH_take (i := 4) (v := ?_) rfl (by kernel_rfl) (by kernel_rfl) (by kernel_rfl) (fun _ _ _ h => h) (Or.inl ⟨by rfl, ?_⟩) (by assumption) ?_; rotate_left; · (intro w hSw; (try dsimp only at hSw); go_simp; all_goals with_reducible rfl); (try simp only [Act.put, List.getElem_toArray, List.getElem_cons_zero, List.getElem_cons_succ, List.setIfInBounds_toArray, List.set_cons_zero, List.set_cons_succ]))
    (try simp only [Act.put, List.getElem_toArray, List.getElem_cons_zero, List.getElem_cons_succ, List.setIfInBounds_toArray, List.set_cons_zero, List.set_cons_succ])
    (refine wpAnyH_take (i := 5) (v := ?_) rfl (by kernel_rfl) (by kernel_rfl) (by kernel_rfl) (fun _ _ _ h => h) (Or.inl ⟨by rfl, ?_⟩) (by assumption) ?_; rotate_left; · (intro w hSw; (try dsimp only at hSw); go_simp; all_goals with_reducible rfl); (try simp only [Act.put, List.getElem_toArray, List.getElem_cons_zero, List.getElem_cons_succ, List.setIfInBounds_toArray, List.set_cons_zero, List.set_cons_succ]))
    (try simp only [Act.put, List.getElem_toArray, List.getElem_cons_zero, List.getElem_cons_succ, List.setIfInBounds_toArray, List.set_cons_zero, List.set_cons_succ])
    (refine wpAnyH_take (i := 6) (v := ?_) rfl (by kernel_rfl) (by kernel_rfl) (by kernel_rfl) (fun _ _ _ h => h) (Or.inl ⟨by rfl, ?_⟩) (by assumption) ?_; rotate_left; · (intro w hSw; (try dsimp only at hSw); go_simp; all_goals with_reducible rfl); (try simp only [Act.put, List.getElem_toArray, List.getElem_cons_zero, List.getElem_cons_succ, List.setIfInBounds_toArray, List.set_cons_zero, List.set_cons_succ]))
    (try simp only [Act.put, List.getElem_toArray, List.getElem_cons_zero, List.getElem_cons_succ, List.setIfInBounds_toArray, List.set_cons_zero, List.set_cons_succ])
    refine wpAnyH_ready (rs := [7]) (by kernel_rfl) (by simp) ?_
    refine AllReadyH.cons rfl (fun K hK => ?_) AllReadyH.nil
    go_simp
    refine (PhaseFactor_6 _).mono ?_
    rintro e v5 ⟨rfl, hy5⟩
    have HY5 : Hid (Ext w1 v5) := Ext.trans (Ext.refl w1).drew hy5
    clear hy5
    refine hK.out _ _ (HK.out _ HY5.out) (fun hHeld => ?_)
    clear hK K
    (try simp only [Act.put, List.getElem_toArray, List.getElem_cons_zero, List.getElem_cons_succ, List.setIfInBounds_toArray, List.set_cons_zero, List.set_cons_succ])
    (refine wpAnyH_take (i := 8) (v := ?_) rfl (by kernel_rfl) (by kernel_rfl) (by kernel_rfl) (fun _ _ _ h => h) (Or.inl ⟨by rfl, ?_⟩) (by assumption) ?_; rotate_left; · (intro w hSw; (try dsimp only at hSw); go_simp; all_goals with_reducible rfl); (try simp only [Act.put, List.getElem_toArray, List.getElem_cons_zero, List.getElem_cons_succ, List.setIfInBounds_toArray, List.set_cons_zero, List.set_cons_succ]))
    (try simp only [Act.put, List.getElem_toArray, List.getElem_cons_zero, List.getElem_cons_succ, List.setIfInBounds_toArray, List.set_cons_zero, List.set_cons_succ])
    refine wpAnyH_ready (rs := [9]) (by kernel_rfl) (by simp) ?_
    refine AllReadyH.cons rfl (fun K hK => ?_) AllReadyH.nil
    go_simp
    rw [HXA.out]
    refine hK.out _ _ (HK.out _ (HY5.out.alloc _)) (fun hHeld => ?_)
    clear hK K
    (try simp only [Act.put, List.getElem_toArray, List.getElem_cons_zero, List.getElem_cons_succ, List.setIfInBounds_toArray, List.set_cons_zero, List.set_cons_succ])
    (refine wpAnyH_take (i := 10) (v := ?_) rfl (by kernel_rfl) (by kernel_rfl) (by kernel_rfl) (fun _ _ _ h => h) (Or.inl ⟨by rfl, ?_⟩) (by assumption) ?_; rotate_left; · (intro w hSw; (try dsimp only at hSw); go_simp; all_goals with_reducible rfl); (try simp only [Act.put, List.getElem_toArray, List.getElem_cons_zero, List.getElem_cons_succ, List.setIfInBounds_toArray, List.set_cons_zero, List.set_cons_succ]))
    (refine wpAnyH_done (by kernel_rfl) ?_ _)
    go_wp2
    go_ret
    exact ⟨⟨_, rfl, Blk.new _ _ _⟩, (HE.out.trans HY5.out).alloc _⟩
set_option maxRecDepth 100000 in
set_option maxHeartbeats 8000000 in
theorem Goes_4 (a b c i : Nat) (hi : i < 16) (ha : a < 4) (hb : b < 4) (hc : c < 4) (w : World) : Calls Try.prog 75 #[.agg #[.int .i64 4, .int .i64 a, .int .i64 b, .int .i64 c], .int .i64 i] w fun e w' => NOut [(qlo i a, ⟨zw 0, 1⟩), (qhi i a, ⟨zw (if bt i a then 4 else 0), 1⟩)] e w' ∧ Ext w w' := by
  have hA := and_bt hi ha
  have hB := and_bt hi hb
  have hla := not_lo hi ha
  have hha := or_hi hi ha
  generalize bt i a = ta at *
  generalize bt i b = tb at *
  cases ta
  · go_enter Try.func75, Try.ntmps75
    go_wp2_with fail
    refine (InvSqrt2_1 _).mono ?_
    rintro e w1 ⟨rfl, hx1⟩
    have HB1 : Hid (Blk w1 w.heap.size 43 #[.int .i64 4, .int .i64 a, .int .i64 b, .int .i64 c]) := (Blk.new w _ _).ext hx1
    have HE1 : Hid (Ext w w1) := Ext.trans (by repeat (first | exact Ext.refl _ | assumption | refine Ext.alloc ?_ _ | refine Ext.drewN ?_ _ | refine Ext.drew ?_)) hx1
    clear hx1
    go_upto_region 33 with (fail)
    have HB2 : Hid (Blk (w1.alloc (.cells #[.int .i64 1, .int .i64 0, .int .i64 0, .int .i64 0, .int .i64 1] 83)) w.heap.size 43 #[.int .i64 4, .int .i64 a, .int .i64 b, .int .i64 c]) := HB1.out.alloc _
    have HH2 : Hid (Blk (w1.alloc (.cells #[.int .i64 1, .int .i64 0, .int .i64 0, .int .i64 0, .int .i64 1] 83)) w1.heap.size 83 #[.int .i64 1, .int .i64 0, .int .i64 0, .int .i64 0, .int .i64 1]) := Blk.new _ _ _
    have HE2 : Hid (Ext w (w1.alloc (.cells #[.int .i64 1, .int .i64 0, .int .i64 0, .int .i64 0, .int .i64 1] 83))) := HE1.out.alloc _
    have HN1 : Hid (w.heap.size < w1.heap.size) := by have := HB1.out.lt; exact this
    clear HB1 HE1
    generalize w1.alloc (.cells #[.int .i64 1, .int .i64 0, .int .i64 0, .int .i64 0, .int .i64 1] 83) = w2 at *
    generalize w1.heap.size = s1 at *
    obtain ⟨⟨h0, h1, h2, h3, h4⟩, -⟩ := cells5 HH2.out
    go_upto_region 34 with (fail)
    have HB3 : Hid (Blk (w2.alloc (.cells #[.int .i64 1, .int .i64 0, .int .i64 0, .int .i64 0, .int .i64 1] 83)) w.heap.size 43 #[.int .i64 4, .int .i64 a, .int .i64 b, .int .i64 c]) := HB2.out.alloc _
    have HH3 : Hid (Blk (w2.alloc (.cells #[.int .i64 1, .int .i64 0, .int .i64 0, .int .i64 0, .int .i64 1] 83)) s1 83 #[.int .i64 1, .int .i64 0, .int .i64 0, .int .i64 0, .int .i64 1]) := HH2.out.alloc _
    have HO3 : Hid (Blk (w2.alloc (.cells #[.int .i64 1, .int .i64 0, .int .i64 0, .int .i64 0, .int .i64 1] 83)) w2.heap.size 83 #[.int .i64 1, .int .i64 0, .int .i64 0, .int .i64 0, .int .i64 1]) := Blk.new _ _ _
    have HE3 : Hid (Ext w (w2.alloc (.cells #[.int .i64 1, .int .i64 0, .int .i64 0, .int .i64 0, .int .i64 1] 83))) := HE2.out.alloc _
    have HN3 : Hid (w.heap.size < s1 ∧ s1 < w2.heap.size ∧ w.heap.size < w2.heap.size) := by
      have h5 := HH2.out.lt
      have h6 := HN1.out
      exact ⟨h6, h5, by omega⟩
    clear h0 h1 h2 h3 h4 HB2 HH2 HE2
    generalize w2.alloc (.cells #[.int .i64 1, .int .i64 0, .int .i64 0, .int .i64 0, .int .i64 1] 83) = w3 at *
    generalize w2.heap.size = s2 at *
    obtain ⟨⟨h0, h1, h2, h3, h4⟩, -⟩ := cells5 HH3.out
    obtain ⟨⟨o0, o1, o2, o3, o4⟩, -⟩ := cells5 HO3.out
    have g1 : w3.cell? ⟨w.heap.size, 1, none⟩ = some (.int .i64 a) := HB3.out.cell 1
    go_wp2
    go_ret
    exact ⟨⟨_, rfl, Blk.new _ _ _⟩, HE3.out.alloc _⟩
  · go_enter Try.func75, Try.ntmps75
    go_wp2_with fail
    refine (InvSqrt2_1 _).mono ?_
    rintro e w1 ⟨rfl, hx1⟩
    have HB1 : Hid (Blk w1 w.heap.size 43 #[.int .i64 4, .int .i64 a, .int .i64 b, .int .i64 c]) := (Blk.new w _ _).ext hx1
    have HE1 : Hid (Ext w w1) := Ext.trans (by repeat (first | exact Ext.refl _ | assumption | refine Ext.alloc ?_ _ | refine Ext.drewN ?_ _ | refine Ext.drew ?_)) hx1
    clear hx1
    go_upto_region 33 with (fail)
    have HB2 : Hid (Blk (w1.alloc (.cells #[.int .i64 1, .int .i64 0, .int .i64 0, .int .i64 0, .int .i64 1] 83)) w.heap.size 43 #[.int .i64 4, .int .i64 a, .int .i64 b, .int .i64 c]) := HB1.out.alloc _
    have HH2 : Hid (Blk (w1.alloc (.cells #[.int .i64 1, .int .i64 0, .int .i64 0, .int .i64 0, .int .i64 1] 83)) w1.heap.size 83 #[.int .i64 1, .int .i64 0, .int .i64 0, .int .i64 0, .int .i64 1]) := Blk.new _ _ _
    have HE2 : Hid (Ext w (w1.alloc (.cells #[.int .i64 1, .int .i64 0, .int .i64 0, .int .i64 0, .int .i64 1] 83))) := HE1.out.alloc _
    have HN1 : Hid (w.heap.size < w1.heap.size) := by have := HB1.out.lt; exact this
    clear HB1 HE1
    generalize w1.alloc (.cells #[.int .i64 1, .int .i64 0, .int .i64 0, .int .i64 0, .int .i64 1] 83) = w2 at *
    generalize w1.heap.size = s1 at *
    obtain ⟨⟨h0, h1, h2, h3, h4⟩, -⟩ := cells5 HH2.out
    go_upto_region 34 with (fail)
    have HB3 : Hid (Blk (w2.alloc (.cells #[.int .i64 1, .int .i64 0, .int .i64 0, .int .i64 0, .int .i64 1] 83)) w.heap.size 43 #[.int .i64 4, .int .i64 a, .int .i64 b, .int .i64 c]) := HB2.out.alloc _
    have HH3 : Hid (Blk (w2.alloc (.cells #[.int .i64 1, .int .i64 0, .int .i64 0, .int .i64 0, .int .i64 1] 83)) s1 83 #[.int .i64 1, .int .i64 0, .int .i64 0, .int .i64 0, .int .i64 1]) := HH2.out.alloc _
    have HO3 : Hid (Blk (w2.alloc (.cells #[.int .i64 1, .int .i64 0, .int .i64 0, .int .i64 0, .int .i64 1] 83)) w2.heap.size 83 #[.int .i64 1, .int .i64 0, .int .i64 0, .int .i64 0, .int .i64 1]) := Blk.new _ _ _
    have HE3 : Hid (Ext w (w2.alloc (.cells #[.int .i64 1, .int .i64 0, .int .i64 0, .int .i64 0, .int .i64 1] 83))) := HE2.out.alloc _
    have HN3 : Hid (w.heap.size < s1 ∧ s1 < w2.heap.size ∧ w.heap.size < w2.heap.size) := by
      have h5 := HH2.out.lt
      have h6 := HN1.out
      exact ⟨h6, h5, by omega⟩
    clear h0 h1 h2 h3 h4 HB2 HH2 HE2
    generalize w2.alloc (.cells #[.int .i64 1, .int .i64 0, .int .i64 0, .int .i64 0, .int .i64 1] 83) = w3 at *
    generalize w2.heap.size = s2 at *
    obtain ⟨⟨h0, h1, h2, h3, h4⟩, -⟩ := cells5 HH3.out
    go_wp2_with fail
    refine (NegDOmega_1 _).mono ?_
    rintro e w4 ⟨rfl, hx4⟩
    clear h0 h1 h2 h3 h4
    have HB4 := Lib.hid (HB3.out.ext hx4)
    have HH4 := Lib.hid (HH3.out.ext hx4)
    have HO4 := Lib.hid (HO3.out.ext hx4)
    have HE4 := Lib.hid (HE3.out.trans hx4)
    clear hx4 HB3 HH3 HO3 HE3
    obtain ⟨⟨h0, h1, h2, h3, h4⟩, f0, f1, f2, f3, f4⟩ := cells5 HO4.out
    go_upto_region 36 with (fail)
    have HB5 : Hid (Blk (((((w4.setCell ⟨s2, 0, none⟩ (.int .i64 (-1))).setCell ⟨s2, 1, none⟩ (.int .i64 0)).setCell ⟨s2, 2, none⟩ (.int .i64 0)).setCell ⟨s2, 3, none⟩ (.int .i64 0)).setCell ⟨s2, 4, none⟩ (.int .i64 1)) w.heap.size 43 #[.int .i64 4, .int .i64 a, .int .i64 b, .int .i64 c]) := far_put5 HB4.out (by have := HN3.out; omega) _ _ _ _ _
    have HH5 : Hid (Blk (((((w4.setCell ⟨s2, 0, none⟩ (.int .i64 (-1))).setCell ⟨s2, 1, none⟩ (.int .i64 0)).setCell ⟨s2, 2, none⟩ (.int .i64 0)).setCell ⟨s2, 3, none⟩ (.int .i64 0)).setCell ⟨s2, 4, none⟩ (.int .i64 1)) s1 83 #[.int .i64 1, .int .i64 0, .int .i64 0, .int .i64 0, .int .i64 1]) := far_put5 HH4.out (by have := HN3.out; omega) _ _ _ _ _
    have HO5 : Hid (Blk (((((w4.setCell ⟨s2, 0, none⟩ (.int .i64 (-1))).setCell ⟨s2, 1, none⟩ (.int .i64 0)).setCell ⟨s2, 2, none⟩ (.int .i64 0)).setCell ⟨s2, 3, none⟩ (.int .i64 0)).setCell ⟨s2, 4, none⟩ (.int .i64 1)) s2 83 #[.int .i64 (-1), .int .i64 0, .int .i64 0, .int .i64 0, .int .i64 1]) := HO4.out.put5 _ _ _ _ _
    have HE5 : Hid (Ext w (((((w4.setCell ⟨s2, 0, none⟩ (.int .i64 (-1))).setCell ⟨s2, 1, none⟩ (.int .i64 0)).setCell ⟨s2, 2, none⟩ (.int .i64 0)).setCell ⟨s2, 3, none⟩ (.int .i64 0)).setCell ⟨s2, 4, none⟩ (.int .i64 1))) := ext_put5 (g := s2) HE4.out (by have := HN3.out; omega) _ _ _ _ _
    clear h0 h1 h2 h3 h4 f0 f1 f2 f3 f4 HB4 HH4 HO4 HE4
    generalize ((((w4.setCell ⟨s2, 0, none⟩ (.int .i64 (-1))).setCell ⟨s2, 1, none⟩ (.int .i64 0)).setCell ⟨s2, 2, none⟩ (.int .i64 0)).setCell ⟨s2, 3, none⟩ (.int .i64 0)).setCell ⟨s2, 4, none⟩ (.int .i64 1) = w5 at *
    obtain ⟨⟨h0, h1, h2, h3, h4⟩, -⟩ := cells5 HH5.out
    obtain ⟨⟨o0, o1, o2, o3, o4⟩, -⟩ := cells5 HO5.out
    have g1 : w5.cell? ⟨w.heap.size, 1, none⟩ = some (.int .i64 a) := HB5.out.cell 1
    go_wp2
    go_ret
    exact ⟨⟨_, rfl, Blk.new _ _ _⟩, HE5.out.alloc _⟩
end Go.Proofs.Ytofbmkpfliofeab
