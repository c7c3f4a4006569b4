/-
  Helper text (no claim of its own): the end of a path, by the program and by the reference.
-/
import Derived.Test.YtnnenocjmkbocaaPst
namespace Go.Proofs.Ytnnenocjmkbocaa
open Go.ChangeShapes Go.WideShapes Go.ChangeAt Go.RowKit Go.Deep
theorem xrI (x y : Int) : I64 (xr x y) := by
  have e : xr x y = IntKind.i64.wrap ((BitVec.ofInt 64 x ^^^ BitVec.ofInt 64 y).toNat : Int) := rfl
  rw [e, w64]; exact wrapI _
theorem orI (x y : Int) : I64 (bits .or .i64 x y) := by
  have e : bits .or .i64 x y = IntKind.i64.wrap ((BitVec.ofInt 64 x ||| BitVec.ofInt 64 y).toNat : Int) := rfl
  rw [e, w64]; exact wrapI _
theorem iteI {p : Prop} [Decidable p] {a b : Int} (ha : I64 a) (hb : I64 b) : I64 (if p then a else b) := by split <;> assumption
theorem psI_I {g : Gt} {i bit : Int} (h : I64 i) : I64 (psI g i bit) := by
  unfold psI psT
  exact iteI (iteI (xrI _ _) (iteI (orI _ _) (iteI (iteI (xrI _ _) h) (iteI (iteI h (xrI _ _)) (iteI (iteI (xrI _ _) h) h))))) h
theorem psJ_I {g : Gt} {i k bit : Int} : I64 (psJ g i k bit) := by
  unfold psJ I64
  split <;> omega
def vgAll (gs : List Gt) (n : Int) : Bool := gs.all (vg · n)
theorem vgAll_no {gs : List Gt} {n : Int} {k : Nat} {g : Gt} (h : gs[k]? = some g) (hg : vg g n = false) : vgAll gs n = false := by
  unfold vgAll
  rw [Bool.eq_false_iff]
  intro ha
  rw [List.all_eq_true] at ha
  rw [ha g (List.mem_of_getElem? h)] at hg
  cases hg
theorem vgAll_snoc {gs : List Gt} {n : Int} {k : Nat} {g : Gt} (h : gs[k]? = some g) (hk : vgAll (gs.take k) n = true) (hg : vg g n = true) : vgAll (gs.take (k + 1)) n = true := by
  unfold vgAll at *
  rw [take_snoc h, List.all_append, hk]
  simp [hg]
structure Ps where
  i : Int
  j : Int
  h : Nat
def peB (c : Int) (s : Ps) (g : Gt) : Int := if (g.k == 4) = true then (if s.h < 62 then bt c s.h else 0) else 0
def peS (c : Int) (s : Ps) (g : Gt) : Ps := ⟨psI g s.i (peB c s g), psJ g s.i s.j (peB c s g), if (g.k == 4) = true then s.h + 1 else s.h⟩
def peL (c : Int) (gs : List Gt) (i : Int) : Ps := gs.foldl (peS c) ⟨i, 0, 0⟩
theorem peL_snoc {c i : Int} {gs : List Gt} {k : Nat} {g : Gt} (h : gs[k]? = some g) : peL c (gs.take (k + 1)) i = peS c (peL c (gs.take k) i) g := by
  unfold peL; rw [take_snoc h, List.foldl_append]; rfl
theorem peL_h (c i : Int) (gs : List Gt) (k : Nat) (hk : k ≤ gs.length) : (peL c (gs.take k) i).h ≤ k := by
  induction k with
  | zero => simp [peL]
  | succ k ih =>
    have hg : gs[k]? = some gs[k] := List.getElem?_eq_getElem (by omega)
    rw [peL_snoc hg]
    have := ih (by omega)
    unfold peS
    simp only
    split <;> omega
def peOk (gs : List Gt) (n c : Int) : Bool := vgAll gs n && decide (0 ≤ c)
def peI (gs : List Gt) (n i c : Int) : Int := if peOk gs n c = true then (peL c gs i).i else i
def peJ (gs : List Gt) (n i c : Int) : Int := if peOk gs n c = true then (peL c gs i).j else 0
theorem pe_no {gs : List Gt} {n i c : Int} (h : peOk gs n c = false) : peI gs n i c = i ∧ peJ gs n i c = 0 := by
  unfold peI peJ; rw [if_neg (by simp [h]), if_neg (by simp [h])]; exact ⟨rfl, rfl⟩
theorem pe_yes {gs : List Gt} {n i c : Int} (h : peOk gs n c = true) : peI gs n i c = (peL c gs i).i ∧ peJ gs n i c = (peL c gs i).j := by
  unfold peI peJ; rw [if_pos h, if_pos h]; exact ⟨rfl, rfl⟩
theorem peB_4 {c : Int} {s : Ps} {g : Gt} (h : (g.k == 4) = true) (hh : s.h < 62) : peB c s g = bt c s.h := by unfold peB; rw [if_pos h, if_pos hh]
theorem peB_4n {c : Int} {s : Ps} {g : Gt} (h : (g.k == 4) = true) (hh : ¬ s.h < 62) : peB c s g = 0 := by unfold peB; rw [if_pos h, if_neg hh]
theorem peB_n {c : Int} {s : Ps} {g : Gt} (h : (g.k == 4) = false) : peB c s g = 0 := by unfold peB; rw [if_neg (by simp [h])]

set_option maxRecDepth 100000 in
set_option maxHeartbeats 1000000 in
theorem l44Right_any (A : Option Addr) (n c : Nat) (gs : List Gt) (m : Int) (w : World) (h : Rd w w.heap.size 4 A n (gcells gs)) (hn : n ≤ 100000000) :
    Calls Try.prog 75 #[.slice A n c, .int .i64 m] w fun e w' => e = .returned (.bool (vgAll gs m)) ∧ Ext w w' := by
  have hlen := Lib.hid (h.len Gt.cells_len (by omega))
  go_enter Try.func75, Try.ntmps75
  go_wp2
  go_loopw [5] (fun i wr => ∃ k : Nat, k ≤ n ∧ i = .int .i64 k ∧ Hid (vgAll (gs.take k) m = true) ∧ Ext w wr) (fun i _ => n - (intOf i).toNat)
  case atStart => exact ⟨0, Nat.zero_le _, rfl, Lib.hid (by simp [vgAll]), (by repeat (first | exact Ext.refl _ | assumption | refine Ext.alloc ?_ _ | refine Ext.drewN ?_ _ | refine Ext.drew ?_))⟩
  case round =>
    obtain ⟨k, hk, rfl, HQ, hx⟩ := hrel
    by_cases hlt : k < n
    · obtain ⟨b, o, g, rfl, hb, hg, r0, r1, r2, r3⟩ := gate_at (h.ext hx) hlt
      have HG := Lib.hid hg
      clear hg
      go_wp2_with fail
      refine (spec_IsValidGate_any g m _).mono ?_
      rintro e w1 ⟨rfl, hy1⟩
      have hx1 := hx.trans hy1
      clear r0 r1 r2 r3
      cases hv : vg g m
      · have HF := Lib.hid (vgAll_no HG.out hv)
        go_wp2
        go_ret
        exact ⟨ret_bool HF.out.symm, hx1⟩
      · have HF := Lib.hid (vgAll_snoc HG.out HQ.out hv)
        go_wp2
        go_roundw
        case rel => exact ⟨k + 1, by omega, by go_num, HF, hx1⟩
        case measure => simp [intOf]; omega
    · rw [List.take_of_length_le (by rw [hlen.out]; omega)] at HQ
      go_wp2
      go_ret
      exact ⟨ret_bool HQ.out.symm, hx⟩

set_option maxRecDepth 100000 in
set_option maxHeartbeats 4000000 in
theorem spec_PathEnd_any (A : Option Addr) (n c : Nat) (gs : List Gt) (m i ch : Int) (w : World) (h : Rd w w.heap.size 4 A n (gcells gs)) (hn : n ≤ 100000000) (hI : I64 i) (hC : I64 ch) :
    Calls Try.prog 15 #[.slice A n c, .int .i64 m, .int .i64 i, .int .i64 ch] w fun e w' => e = .returned (.tuple #[.int .i64 (peI gs m i ch), .int .i64 (peJ gs m i ch)]) ∧ Ext w w' := by
  have hlen := Lib.hid (h.len Gt.cells_len (by omega))
  have HI := Lib.hid hI
  obtain ⟨hC1, hC2⟩ := hC
  clear hI
  go_enter Try.func15, Try.ntmps15
  go_wp2_with fail
  refine (l44Right_any A n c gs m _ h hn).mono ?_
  rintro e w1 ⟨rfl, hx1⟩
  cases hv : vgAll gs m
  · have HP := Lib.hid (pe_no (i := i) (by unfold peOk; rw [hv]; rfl : peOk gs m ch = false))
    go_wp2
    go_ret2
    exact ⟨ret_two HP.out.1.symm HP.out.2.symm, hx1⟩
  by_cases hc0 : ch < 0
  · have HP := Lib.hid (pe_no (i := i) (by unfold peOk; rw [hv]; simp; omega : peOk gs m ch = false))
    go_wp2
    go_ret2
    exact ⟨ret_two HP.out.1.symm HP.out.2.symm, hx1⟩
  have HP := Lib.hid (pe_yes (i := i) (by unfold peOk; rw [hv]; simp; omega : peOk gs m ch = true))
  go_wp2
  go_loopw [10, 11, 12, 13] (fun a b h i' wr => ∃ k : Nat, k ≤ n ∧ i' = .int .i64 k ∧ a = .int .i64 (peL ch (gs.take k) i).i ∧ b = .int .i64 (peL ch (gs.take k) i).j ∧ h = .int .i64 (peL ch (gs.take k) i).h ∧ Hid (I64 (peL ch (gs.take k) i).i ∧ I64 (peL ch (gs.take k) i).j) ∧ Ext w wr) (fun _ _ _ i' _ => n - (intOf i').toNat)
  case atStart => exact ⟨0, Nat.zero_le _, rfl, rfl, rfl, rfl, Lib.hid ⟨HI.out, by unfold I64; simp [peL]⟩, hx1⟩
  case round =>
    obtain ⟨k, hk, rfl, rfl, rfl, rfl, HS, hx⟩ := hrel
    by_cases hlt : k < n
    · obtain ⟨b, o, g, rfl, hb, hg, r0, r1, r2, r3⟩ := gate_at (h.ext hx) hlt
      have HN := Lib.hid (peL_snoc (c := ch) (i := i) hg)
      have hh := peL_h ch i gs k (by rw [hlen.out]; omega)
      clear hg
      generalize peL ch (gs.take k) i = s at *
      have HZ : ∀ bit, Hid (bit = peB ch s g → (psI g s.i bit = (peS ch s g).i ∧ psJ g s.i s.j bit = (peS ch s g).j) ∧ (I64 (peS ch s g).i ∧ I64 (peS ch s g).j)) := by
        rintro bit rfl
        exact ⟨⟨rfl, rfl⟩, psI_I HS.out.1, psJ_I⟩
      cases h4 : (g.k == 4)
      · have HB := Lib.hid (peB_n (c := ch) (s := s) h4)
        have HH : Hid ((peS ch s g).h = s.h) := by unfold Hid peS; simp [h4]
        go_wp2_with (go_at_call 76; refine (spec_PathSumStep_any g s.i s.j _ _ HS.out.1 HS.out.2).mono ?_; rintro e w2 ⟨rfl, hy2⟩)
        go_roundw
        case rel => exact ⟨k + 1, by omega, by go_num, by rw [HN.out]; exact congrArg (Value.int .i64) ((HZ _).out HB.out.symm).1.1, by rw [HN.out]; exact congrArg (Value.int .i64) ((HZ _).out HB.out.symm).1.2, by rw [HN.out, HH.out], by rw [HN.out]; exact Lib.hid ((HZ _).out HB.out.symm).2, hx.trans hy2⟩
        case measure => simp [intOf]; omega
      · have HH : Hid ((peS ch s g).h = s.h + 1) := by unfold Hid peS; simp [h4]
        by_cases h62 : s.h < 62
        · have HB := Lib.hid (peB_4 (c := ch) (s := s) h4 h62)
          go_wp2_with (go_at_call 76; refine (spec_PathSumStep_any g s.i s.j _ _ HS.out.1 HS.out.2).mono ?_; rintro e w2 ⟨rfl, hy2⟩)
          go_roundw
          case rel => exact ⟨k + 1, by omega, by go_num, by rw [HN.out]; exact congrArg (Value.int .i64) ((HZ _).out HB.out.symm).1.1, by rw [HN.out]; exact congrArg (Value.int .i64) ((HZ _).out HB.out.symm).1.2, by rw [HN.out, HH.out]; go_num, by rw [HN.out]; exact Lib.hid ((HZ _).out HB.out.symm).2, hx.trans hy2⟩
          case measure => simp [intOf]; omega
        · have HB := Lib.hid (peB_4n (c := ch) (s := s) h4 h62)
          go_wp2_with (go_at_call 76; refine (spec_PathSumStep_any g s.i s.j _ _ HS.out.1 HS.out.2).mono ?_; rintro e w2 ⟨rfl, hy2⟩)
          go_roundw
          case rel => exact ⟨k + 1, by omega, by go_num, by rw [HN.out]; exact congrArg (Value.int .i64) ((HZ _).out HB.out.symm).1.1, by rw [HN.out]; exact congrArg (Value.int .i64) ((HZ _).out HB.out.symm).1.2, by rw [HN.out, HH.out]; go_num, by rw [HN.out]; exact Lib.hid ((HZ _).out HB.out.symm).2, hx.trans hy2⟩
          case measure => simp [intOf]; omega
    · rw [List.take_of_length_le (by rw [hlen.out]; omega)]
      go_wp2
      go_ret2
      exact ⟨ret_two HP.out.1.symm HP.out.2.symm, hx⟩

set_option maxRecDepth 100000 in
set_option maxHeartbeats 4000000 in
theorem impl_PathEnd_any (A : Option Addr) (n c : Nat) (gs : List Gt) (m i ch : Int) (w : World) (h : Rd w w.heap.size 4 A n (gcells gs)) (hn : n ≤ 100000000) (hI : I64 i) (hC : I64 ch) :
    Calls Try.prog 17 #[.slice A n c, .int .i64 m, .int .i64 i, .int .i64 ch] w fun e w' => e = .returned (.tuple #[.int .i64 (peI gs m i ch), .int .i64 (peJ gs m i ch)]) ∧ Ext w w' := by
  have hlen := Lib.hid (h.len Gt.cells_len (by omega))
  have HI := Lib.hid hI
  obtain ⟨hC1, hC2⟩ := hC
  clear hI
  go_enter Try.func17, Try.ntmps17
  go_wp2
  go_loopw [19] (fun i wr => ∃ k : Nat, k ≤ n ∧ i = .int .i64 k ∧ Hid (vgAll (gs.take k) m = true) ∧ Ext w wr) (fun i _ => n - (intOf i).toNat)
  case atStart => exact ⟨0, Nat.zero_le _, rfl, Lib.hid (by simp [vgAll]), (by repeat (first | exact Ext.refl _ | assumption | refine Ext.alloc ?_ _ | refine Ext.drewN ?_ _ | refine Ext.drew ?_))⟩
  case round =>
    obtain ⟨k, hk, rfl, HQ, hx⟩ := hrel
    by_cases hlt : k < n
    · obtain ⟨b, o, g, rfl, hb, hg, r0, r1, r2, r3⟩ := gate_at (h.ext hx) hlt
      have HG := Lib.hid hg
      clear hg
      go_wp2_with fail
      refine (impl_IsValidGate_any g m _).mono ?_
      rintro e w1 ⟨rfl, hy1⟩
      have hx1 := Ext.trans (hx.alloc _) hy1
      clear r0 r1 r2 r3
      cases hv : vg g m
      · have HF := Lib.hid (vgAll_no HG.out hv)
        have HP := Lib.hid (pe_no (i := i) (by unfold peOk; rw [HF.out]; rfl : peOk gs m ch = false))
        go_wp2
        go_ret2
        exact ⟨ret_two HP.out.1.symm HP.out.2.symm, hx1⟩
      · have HF := Lib.hid (vgAll_snoc HG.out HQ.out hv)
        go_wp2
        go_roundw
        case rel => exact ⟨k + 1, by omega, by go_num, HF, hx1⟩
        case measure => simp [intOf]; omega
    · rw [List.take_of_length_le (by rw [hlen.out]; omega)] at HQ
      have hx1 := hx
      clear hx
      by_cases hc0 : ch < 0
      · have HP := Lib.hid (pe_no (i := i) (by unfold peOk; rw [HQ.out]; simp; omega : peOk gs m ch = false))
        go_wp2
        go_ret2
        exact ⟨ret_two HP.out.1.symm HP.out.2.symm, hx1⟩
      have HP := Lib.hid (pe_yes (i := i) (by unfold peOk; rw [HQ.out]; simp; omega : peOk gs m ch = true))
      go_wp2
      go_loopw [2, 12, 13, 34] (fun a b h i' wr => ∃ k : Nat, k ≤ n ∧ i' = .int .i64 k ∧ a = .int .i64 (peL ch (gs.take k) i).i ∧ b = .int .i64 (peL ch (gs.take k) i).j ∧ h = .int .i64 (peL ch (gs.take k) i).h ∧ Hid (I64 (peL ch (gs.take k) i).i ∧ I64 (peL ch (gs.take k) i).j) ∧ Ext w wr) (fun _ _ _ i' _ => n - (intOf i').toNat)
      case atStart => exact ⟨0, Nat.zero_le _, rfl, rfl, rfl, rfl, Lib.hid ⟨HI.out, by unfold I64; simp [peL]⟩, hx1⟩
      case round =>
        clear hlt hk
        obtain ⟨k, hk, rfl, rfl, rfl, rfl, HS, hx⟩ := hrel
        by_cases hlt : k < n
        · obtain ⟨b, o, g, rfl, hb, hg, r0, r1, r2, r3⟩ := gate_at (h.ext hx) hlt
          have HN := Lib.hid (peL_snoc (c := ch) (i := i) hg)
          have hh := peL_h ch i gs k (by rw [hlen.out]; omega)
          clear hg
          generalize peL ch (gs.take k) i = s at *
          have HZ : ∀ bit, Hid (bit = peB ch s g → (psI g s.i bit = (peS ch s g).i ∧ psJ g s.i s.j bit = (peS ch s g).j) ∧ (I64 (peS ch s g).i ∧ I64 (peS ch s g).j)) := by
            rintro bit rfl
            exact ⟨⟨rfl, rfl⟩, psI_I HS.out.1, psJ_I⟩
          cases h4 : (g.k == 4)
          · have HB := Lib.hid (peB_n (c := ch) (s := s) h4)
            have HH : Hid ((peS ch s g).h = s.h) := by unfold Hid peS; simp [h4]
            go_wp2_with (go_at_call 78; refine (impl_PathSumStep_any g s.i s.j _ _ HS.out.1 HS.out.2).mono ?_; rintro e w2 ⟨rfl, hy2⟩)
            go_roundw
            case rel => exact ⟨k + 1, by omega, by go_num, by rw [HN.out]; exact congrArg (Value.int .i64) ((HZ _).out HB.out.symm).1.1, by rw [HN.out]; exact congrArg (Value.int .i64) ((HZ _).out HB.out.symm).1.2, by rw [HN.out, HH.out], by rw [HN.out]; exact Lib.hid ((HZ _).out HB.out.symm).2, Ext.trans (hx.alloc _) hy2⟩
            case measure => simp [intOf]; omega
          · have HH : Hid ((peS ch s g).h = s.h + 1) := by unfold Hid peS; simp [h4]
            by_cases h62 : s.h < 62
            · have HB := Lib.hid (peB_4 (c := ch) (s := s) h4 h62)
              go_wp2_with (go_at_call 78; refine (impl_PathSumStep_any g s.i s.j _ _ HS.out.1 HS.out.2).mono ?_; rintro e w2 ⟨rfl, hy2⟩)
              go_roundw
              case rel => exact ⟨k + 1, by omega, by go_num, by rw [HN.out]; exact congrArg (Value.int .i64) ((HZ _).out HB.out.symm).1.1, by rw [HN.out]; exact congrArg (Value.int .i64) ((HZ _).out HB.out.symm).1.2, by rw [HN.out, HH.out]; go_num, by rw [HN.out]; exact Lib.hid ((HZ _).out HB.out.symm).2, Ext.trans (hx.alloc _) hy2⟩
              case measure => simp [intOf]; omega
            · have HB := Lib.hid (peB_4n (c := ch) (s := s) h4 h62)
              go_wp2_with (go_at_call 78; refine (impl_PathSumStep_any g s.i s.j _ _ HS.out.1 HS.out.2).mono ?_; rintro e w2 ⟨rfl, hy2⟩)
              go_roundw
              case rel => exact ⟨k + 1, by omega, by go_num, by rw [HN.out]; exact congrArg (Value.int .i64) ((HZ _).out HB.out.symm).1.1, by rw [HN.out]; exact congrArg (Value.int .i64) ((HZ _).out HB.out.symm).1.2, by rw [HN.out, HH.out]; go_num, by rw [HN.out]; exact Lib.hid ((HZ _).out HB.out.symm).2, Ext.trans (hx.alloc _) hy2⟩
              case measure => simp [intOf]; omega
        · rw [List.take_of_length_le (by rw [hlen.out]; omega)]
          go_wp2
          go_ret2
          exact ⟨ret_two HP.out.1.symm HP.out.2.symm, hx⟩
end Go.Proofs.Ytnnenocjmkbocaa
