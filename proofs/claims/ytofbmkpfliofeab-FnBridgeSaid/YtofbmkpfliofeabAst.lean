/-
  Helper text (no claim of its own): states: validity, by the reference. Printed by gen_am.py or gen_an.py.
-/
import Derived.Test.YtofbmkpfliofeabAnp
import Derived.Test.YtofbmkpfliofeabDs
namespace Go.Proofs.Ytofbmkpfliofeab
open Go.ChangeShapes Go.WideShapes Go.ChangeAt Go.RowKit Go.Deep
set_option linter.unusedVariables false
set_option linter.unusedSimpArgs false
/-- A state in one block of its own. -/
def SB (w : World) (b : Nat) (vs : List Dw) : Prop := ∃ cs : Array Value, Blk w b 83 cs ∧ cs.toList = scells vs
theorem scells_len (vs : List Dw) : (scells vs).length = vs.length * 5 := flat_len Dw.cells_len vs
theorem SB.ext {w w' : World} {b : Nat} {vs : List Dw} (h : SB w b vs) (hx : Ext w w') : SB w' b vs := by
  obtain ⟨cs, h1, h2⟩ := h
  exact ⟨cs, h1.ext hx, h2⟩
theorem SB.at_ {w : World} {b i : Nat} {vs : List Dw} {x : Dw} (h : SB w b vs) (hx : vs[i]? = some x) :
    (w.cell? ⟨b, i * 5, none⟩ = some (.int .i64 x.n.a) ∧ w.cell? ⟨b, i * 5 + 1, none⟩ = some (.int .i64 x.n.b) ∧ w.cell? ⟨b, i * 5 + 2, none⟩ = some (.int .i64 x.n.c) ∧ w.cell? ⟨b, i * 5 + 3, none⟩ = some (.int .i64 x.n.d) ∧ w.cell? ⟨b, i * 5 + 4, none⟩ = some (.int .i64 x.e)) ∧
    (w.frozen? ⟨b, i * 5, none⟩ = false ∧ w.frozen? ⟨b, i * 5 + 1, none⟩ = false ∧ w.frozen? ⟨b, i * 5 + 2, none⟩ = false ∧ w.frozen? ⟨b, i * 5 + 3, none⟩ = false ∧ w.frozen? ⟨b, i * 5 + 4, none⟩ = false) := by
  obtain ⟨cs, h1, h2⟩ := h
  have hc : ∀ j u, j < 5 → x.cells[j]? = some u → w.cell? ⟨b, i * 5 + j, none⟩ = some u := fun j u hj hu => by
    rw [h1.cell, ← Array.getElem?_toList, h2, ← hu]
    exact flat_at Dw.cells_len vs i x hx j hj
  exact ⟨⟨hc 0 _ (by omega) rfl, hc 1 _ (by omega) rfl, hc 2 _ (by omega) rfl, hc 3 _ (by omega) rfl, hc 4 _ (by omega) rfl⟩, h1.frozen _, h1.frozen _, h1.frozen _, h1.frozen _, h1.frozen _⟩
/-- A place of a state is written. -/
def put5at (w : World) (b i : Nat) (x : Dw) : World := ((((w.setCell ⟨b, i * 5, none⟩ (.int .i64 x.n.a)).setCell ⟨b, i * 5 + 1, none⟩ (.int .i64 x.n.b)).setCell ⟨b, i * 5 + 2, none⟩ (.int .i64 x.n.c)).setCell ⟨b, i * 5 + 3, none⟩ (.int .i64 x.n.d)).setCell ⟨b, i * 5 + 4, none⟩ (.int .i64 x.e)
theorem scells_set (y : Dw) : ∀ (vs : List Dw) (i : Nat), i < vs.length → scells (vs.set i y) = (((((scells vs).set (i * 5) (.int .i64 y.n.a)).set (i * 5 + 1) (.int .i64 y.n.b)).set (i * 5 + 2) (.int .i64 y.n.c)).set (i * 5 + 3) (.int .i64 y.n.d)).set (i * 5 + 4) (.int .i64 y.e)
  | [], i, h => by simp at h
  | x :: vs, 0, h => rfl
  | x :: vs, i + 1, h => by
    have ih := scells_set y vs i (by simpa using h)
    have e : ∀ (j : Nat) (l : List Value) (u : Value), (x.cells ++ l).set ((i + 1) * 5 + j) u = x.cells ++ l.set (i * 5 + j) u := fun j l u => by
      rw [show (i + 1) * 5 + j = x.cells.length + (i * 5 + j) by rw [Dw.cells_len]; omega, List.set_append_right _ _ (Nat.le_add_right _ _), Nat.add_sub_cancel_left]
    have e0 : ∀ (l : List Value) (u : Value), (x.cells ++ l).set ((i + 1) * 5) u = x.cells ++ l.set (i * 5) u := fun l u => e 0 l u
    show x.cells ++ scells (vs.set i y) = (((((x.cells ++ scells vs).set ((i + 1) * 5) _).set ((i + 1) * 5 + 1) _).set ((i + 1) * 5 + 2) _).set ((i + 1) * 5 + 3) _).set ((i + 1) * 5 + 4) _
    rw [e0, e, e, e, e, ih]
theorem SB.put {w : World} {b i : Nat} {vs : List Dw} (h : SB w b vs) (hi : i < vs.length) (y : Dw) : SB (put5at w b i y) b (vs.set i y) := by
  obtain ⟨cs, h1, h2⟩ := h
  refine ⟨_, ((((h1.set_ (i * 5) (.int .i64 y.n.a)).set_ (i * 5 + 1) (.int .i64 y.n.b)).set_ (i * 5 + 2) (.int .i64 y.n.c)).set_ (i * 5 + 3) (.int .i64 y.n.d)).set_ (i * 5 + 4) (.int .i64 y.e), ?_⟩
  rw [scells_set y vs i hi]
  simp only [Array.toList_setIfInBounds, h2]
theorem ext_put5at {w0 w : World} (h : Ext w0 w) {b : Nat} (hb : w0.heap.size ≤ b) (i : Nat) (x : Dw) : Ext w0 (put5at w b i x) :=
  ((((h.setCell (p := ⟨b, _, none⟩) hb _).setCell (p := ⟨b, _, none⟩) hb _).setCell (p := ⟨b, _, none⟩) hb _).setCell (p := ⟨b, _, none⟩) hb _).setCell (p := ⟨b, _, none⟩) hb _
theorem far_put5at {w : World} {b k t : Nat} {cs : Array Value} (h : Blk w k t cs) (hb : k ≠ b) (i : Nat) (x : Dw) : Blk (put5at w b i x) k t cs :=
  ((((h.far (p := ⟨b, _, none⟩) hb _).far (p := ⟨b, _, none⟩) hb _).far (p := ⟨b, _, none⟩) hb _).far (p := ⟨b, _, none⟩) hb _).far (p := ⟨b, _, none⟩) hb _
theorem SB.rd {w : World} {b : Nat} {vs : List Dw} (h : SB w b vs) : Rd w w.heap.size 5 (some ⟨b, 0, none⟩) vs.length (scells vs) := by
  obtain ⟨cs, h1, h2⟩ := h
  refine ⟨scells_len vs, fun _ => ⟨b, 0, rfl, h1.lt, fun j u hu => ?_⟩⟩
  rw [Nat.zero_add, h1.cell, ← Array.getElem?_toList, h2, hu]
/-- A state that a call returned. -/
def SOut (vs : List Dw) (v : Value) (w : World) : Prop := ∃ (A : Option Addr) (c : Nat), v = .slice A vs.length c ∧ Rd w w.heap.size 5 A vs.length (scells vs)
theorem SB.out {w : World} {b : Nat} {vs : List Dw} (h : SB w b vs) (m c : Nat) (hm : vs.length = m) : SOut vs (.slice (some ⟨b, 0, none⟩) m c) w := by subst hm; exact ⟨_, _, rfl, h.rd⟩
theorem state_at {w : World} {B b o l i : Nat} {vs : List Dw} (h : Rd w B 5 (some ⟨b, o, none⟩) l (scells vs)) (hi : i < l) {x : Dw} (hx : vs[i]? = some x) :
    w.cell? ⟨b, o + i * 5, none⟩ = some (.int .i64 x.n.a) ∧ w.cell? ⟨b, o + i * 5 + 1, none⟩ = some (.int .i64 x.n.b) ∧ w.cell? ⟨b, o + i * 5 + 2, none⟩ = some (.int .i64 x.n.c) ∧ w.cell? ⟨b, o + i * 5 + 3, none⟩ = some (.int .i64 x.n.d) ∧ w.cell? ⟨b, o + i * 5 + 4, none⟩ = some (.int .i64 x.e) := by
  obtain ⟨b', o', x', he, -, hx', hc⟩ := dw_at h hi
  simp only [Option.some.injEq, Addr.mk.injEq] at he
  obtain ⟨rfl, rfl, -⟩ := he
  rw [hx] at hx'
  obtain rfl := Option.some.inj hx'
  exact hc
set_option maxRecDepth 100000 in
set_option maxHeartbeats 8000000 in
theorem QubitCount_1 (A : Option Addr) (c : Nat) (w : World) : Calls Try.prog 74 #[.slice A 2 c] w fun e w' => e = .returned (.int .i64 1) ∧ w = w' := by
  go_enter Try.func74, Try.ntmps74
  go_wp2
  go_loopw [3] (fun iv wr => ∃ k : Nat, iv = .int .i64 k ∧ 1 ≤ k ∧ k ≤ 1 ∧ w = wr) (fun i _ => 5 - (intOf i).toNat)
  case atStart => exact ⟨1, rfl, by omega, by omega, by first | trivial | rfl⟩
  case round =>
    obtain ⟨k, rfl, h1, h2, rfl⟩ := hrel
    obtain rfl : k = 1 := by omega
    · go_wp2
      go_ret
      exact ⟨rfl, rfl⟩
set_option maxRecDepth 100000 in
set_option maxHeartbeats 8000000 in
theorem QubitCount_2 (A : Option Addr) (c : Nat) (w : World) : Calls Try.prog 74 #[.slice A 4 c] w fun e w' => e = .returned (.int .i64 2) ∧ w = w' := by
  go_enter Try.func74, Try.ntmps74
  go_wp2
  go_loopw [3] (fun iv wr => ∃ k : Nat, iv = .int .i64 k ∧ 1 ≤ k ∧ k ≤ 2 ∧ w = wr) (fun i _ => 5 - (intOf i).toNat)
  case atStart => exact ⟨1, rfl, by omega, by omega, by first | trivial | rfl⟩
  case round =>
    obtain ⟨k, rfl, h1, h2, rfl⟩ := hrel
    rcases (show k = 1 ∨ k = 2 by omega) with rfl | rfl
    · go_wp2
      go_roundw
      case rel => exact ⟨2, rfl, by omega, by omega, by first | trivial | rfl⟩
      case measure => simp [intOf]
    · go_wp2
      go_ret
      exact ⟨rfl, rfl⟩
set_option maxRecDepth 100000 in
set_option maxHeartbeats 8000000 in
theorem QubitCount_3 (A : Option Addr) (c : Nat) (w : World) : Calls Try.prog 74 #[.slice A 8 c] w fun e w' => e = .returned (.int .i64 3) ∧ w = w' := by
  go_enter Try.func74, Try.ntmps74
  go_wp2
  go_loopw [3] (fun iv wr => ∃ k : Nat, iv = .int .i64 k ∧ 1 ≤ k ∧ k ≤ 3 ∧ w = wr) (fun i _ => 5 - (intOf i).toNat)
  case atStart => exact ⟨1, rfl, by omega, by omega, by first | trivial | rfl⟩
  case round =>
    obtain ⟨k, rfl, h1, h2, rfl⟩ := hrel
    rcases (show k = 1 ∨ k = 2 ∨ k = 3 by omega) with rfl | rfl | rfl
    · go_wp2
      go_roundw
      case rel => exact ⟨2, rfl, by omega, by omega, by first | trivial | rfl⟩
      case measure => simp [intOf]
    · go_wp2
      go_roundw
      case rel => exact ⟨3, rfl, by omega, by omega, by first | trivial | rfl⟩
      case measure => simp [intOf]
    · go_wp2
      go_ret
      exact ⟨rfl, rfl⟩
set_option maxRecDepth 100000 in
set_option maxHeartbeats 8000000 in
theorem QubitCount_4 (A : Option Addr) (c : Nat) (w : World) : Calls Try.prog 74 #[.slice A 16 c] w fun e w' => e = .returned (.int .i64 4) ∧ w = w' := by
  go_enter Try.func74, Try.ntmps74
  go_wp2
  go_loopw [3] (fun iv wr => ∃ k : Nat, iv = .int .i64 k ∧ 1 ≤ k ∧ k ≤ 4 ∧ w = wr) (fun i _ => 5 - (intOf i).toNat)
  case atStart => exact ⟨1, rfl, by omega, by omega, by first | trivial | rfl⟩
  case round =>
    obtain ⟨k, rfl, h1, h2, rfl⟩ := hrel
    rcases (show k = 1 ∨ k = 2 ∨ k = 3 ∨ k = 4 by omega) with rfl | rfl | rfl | rfl
    · go_wp2
      go_roundw
      case rel => exact ⟨2, rfl, by omega, by omega, by first | trivial | rfl⟩
      case measure => simp [intOf]
    · go_wp2
      go_roundw
      case rel => exact ⟨3, rfl, by omega, by omega, by first | trivial | rfl⟩
      case measure => simp [intOf]
    · go_wp2
      go_roundw
      case rel => exact ⟨4, rfl, by omega, by omega, by first | trivial | rfl⟩
      case measure => simp [intOf]
    · go_wp2
      go_ret
      exact ⟨rfl, rfl⟩
theorem QubitCount_any {n : Nat} (h1 : 1 ≤ n) (h4 : n ≤ 4) (A : Option Addr) (c : Nat) (w : World) : Calls Try.prog 74 #[.slice A (2 ^ n) c] w fun e w' => e = .returned (.int .i64 n) ∧ w = w' := by
  rcases (show n = 1 ∨ n = 2 ∨ n = 3 ∨ n = 4 by omega) with rfl | rfl | rfl | rfl
  · exact QubitCount_1 A c w
  · exact QubitCount_2 A c w
  · exact QubitCount_3 A c w
  · exact QubitCount_4 A c w
set_option maxRecDepth 100000 in
set_option maxHeartbeats 8000000 in
theorem IsValidState_yes {n : Nat} (h1 : 1 ≤ n) (h4 : n ≤ 4) (A : Option Addr) (c : Nat) (vs : List Dw) (w : World) (h : Rd w w.heap.size 5 A vs.length (scells vs)) (hl : vs.length = 2 ^ n) (hd : ∀ x ∈ vs, dok x = true) :
    Calls Try.prog 52 #[.slice A vs.length c] w fun e w' => e = .returned (.bool true) ∧ Ext w w' := by
  have HQ : Hid (∀ w', Calls Try.prog 74 #[.slice A vs.length c] w' fun e w'' => e = .returned (.int .i64 n) ∧ w' = w'') := fun w' => by rw [hl]; exact QubitCount_any h1 h4 A c w'
  have hl16 : vs.length ≤ 16 := by rw [hl]; rcases (show n = 1 ∨ n = 2 ∨ n = 3 ∨ n = 4 by omega) with rfl | rfl | rfl | rfl <;> decide
  have HD := Lib.hid hd
  obtain ⟨l, hgl⟩ : ∃ l, vs.length = l := ⟨_, rfl⟩
  rw [hgl] at h HQ hl16
  rw [hgl]
  have hn0 : (0 : Int) < (n : Int) := by omega
  have hn1 : (n : Int) > 0 := hn0
  clear hl hd hgl h1 h4
  go_enter Try.func52, Try.ntmps52
  go_wp2
  go_loopw [3] (fun iv wr => ∃ k : Nat, iv = .int .i64 k ∧ k ≤ l ∧ Ext w wr) (fun i _ => l - (intOf i).toNat)
  case atStart => exact ⟨0, rfl, Nat.zero_le _, Ext.refl _⟩
  case round =>
    obtain ⟨k, rfl, hk, hx⟩ := hrel
    by_cases hlt : k < l
    · obtain ⟨b, o, x, rfl, hb, hg, x0, x1, x2, x3, x4⟩ := dw_at (h.ext hx) hlt
      go_wp2_with fail
      refine (IsValidDOmega_yes x _ (HD.out x (List.mem_of_getElem? hg))).mono ?_
      rintro e w1 ⟨rfl, hx1⟩
      go_wp2
      go_roundw
      case rel => exact ⟨k + 1, by go_num, by omega, hx.trans hx1⟩
      case measure => simp [intOf]; omega
    · go_wp2_with fail
      refine (HQ.out _).mono ?_
      rintro e w1 ⟨rfl, rfl⟩
      go_wp2
      go_ret
      exact ⟨ret_bool (decide_eq_true (by omega)), hx⟩
end Go.Proofs.Ytofbmkpfliofeab
