/-
  Helper text (no claim of its own): the numbers of gates of a kind, of T gates and of two-qubit gates, by the program and by the reference.
-/
import Derived.Test.YtngpkboocpaikabDoorGate
import Derived.Test.YtngpkboocpaikabDoorArity
import Derived.Test.YtngpkboocpaikabDoorDec
namespace Go.Proofs.YtngpkboocpaikabDoor
open Go.ChangeShapes Go.WideShapes Go.ChangeAt Go.RowKit Go.Deep
set_option linter.unusedVariables false
set_option linter.unusedSimpArgs false
def cntP (f : Gt → Bool) (gs : List Gt) : Nat := (gs.filter f).length
theorem cntP_snoc (f : Gt → Bool) {gs : List Gt} {k : Nat} {g : Gt} (h : gs[k]? = some g) : cntP f (gs.take (k + 1)) = cntP f (gs.take k) + (if f g = true then 1 else 0) := by
  unfold cntP
  rw [take_snoc h, List.filter_append, List.length_append]
  by_cases e : f g = true <;> simp [e]
theorem cntP_le (f : Gt → Bool) (gs : List Gt) (k : Nat) : cntP f (gs.take k) ≤ k := by
  unfold cntP
  exact Nat.le_trans (List.length_filter_le _ _) (List.length_take_le _ _)
theorem cntP_len (f : Gt → Bool) (gs : List Gt) : cntP f gs ≤ gs.length := List.length_filter_le _ _
def isK (q : Int) (g : Gt) : Bool := g.k == q
def isTwo (g : Gt) : Bool := decide (2 ≤ ar g.k)
def tcnt (gs : List Gt) : Nat := cntP (isK 7) gs + cntP (isK 8) gs
set_option maxRecDepth 100000 in
set_option maxHeartbeats 2000000 in
theorem impl_CountGatesP_any (N q : Int) (A : Option Addr) (n c : Nat) (gs : List Gt) (w : World) (h : Rd w w.heap.size 4 A n (gcells gs)) (hn : n ≤ 100000000) :
    Calls Tryd.prog 41 #[.agg #[.int .i64 N, .slice A n c], .int .i64 q] w fun e w' => e = .returned (.int .i64 (cntP (isK q) gs)) ∧ Ext w w' := by
  go_enter Tryd.func41, Tryd.ntmps41
  go_wp2
  go_loopw [5, 11] (fun v i wr => ∃ k : Nat, k ≤ n ∧ i = .int .i64 k ∧ v = .int .i64 (cntP (isK q) (gs.take k)) ∧ Ext w wr) (fun _ i _ => n - (intOf i).toNat)
  case atStart => exact ⟨0, Nat.zero_le _, rfl, rfl, (by repeat (first | exact Ext.refl _ | assumption | refine Ext.alloc ?_ _ | refine Ext.drewN ?_ _ | refine Ext.drew ?_))⟩
  case round =>
    obtain ⟨k, hk, rfl, rfl, hx⟩ := hrel
    have hle := cntP_le (isK q) gs k
    by_cases hlt : k < n
    · obtain ⟨b, o, g, rfl, hb, hg, h0, h1, h2, h3⟩ := gate_at (h.ext hx) hlt
      have hs := Lib.hid (cntP_snoc (isK q) hg)
      clear hg
      cases hq : (g.k == q)
      · have hi : Hid (isK q g = false) := hq
        go_wp2
        go_roundw
        case rel => exact ⟨k + 1, by omega, by go_num, by rw [hs.out, hi.out]; go_num, hx.alloc _⟩
        case measure => simp [intOf]; omega
      · have hi : Hid (isK q g = true) := hq
        go_wp2
        go_roundw
        case rel => exact ⟨k + 1, by omega, by go_num, by rw [hs.out, hi.out]; go_num, hx.alloc _⟩
        case measure => simp [intOf]; omega
    · rw [List.take_of_length_le (by rw [h.len Gt.cells_len (by omega)]; omega)]
      go_wp2
      go_ret
      exact ⟨rfl, hx⟩
set_option maxRecDepth 100000 in
set_option maxHeartbeats 2000000 in
theorem spec_CountGatesP_any (N q : Int) (A : Option Addr) (n c : Nat) (gs : List Gt) (w : World) (h : Rd w w.heap.size 4 A n (gcells gs)) (hn : n ≤ 100000000) :
    Calls Tryd.prog 29 #[.agg #[.int .i64 N, .slice A n c], .int .i64 q] w fun e w' => e = .returned (.int .i64 (cntP (isK q) gs)) ∧ Ext w w' := by
  go_enter Tryd.func29, Tryd.ntmps29
  go_wp2
  go_loop [5, 6] (fun v i => ∃ k : Nat, k ≤ n ∧ i = .int .i64 k ∧ v = .int .i64 (cntP (isK q) (gs.take k))) (fun _ i => n - (intOf i).toNat)
  case atStart => exact ⟨0, Nat.zero_le _, rfl, rfl⟩
  case round =>
    obtain ⟨k, hk, rfl, rfl⟩ := hrel
    have hle := cntP_le (isK q) gs k
    by_cases hlt : k < n
    · obtain ⟨b, o, g, rfl, hb, hg, h0, h1, h2, h3⟩ := gate_at h hlt
      have hs := Lib.hid (cntP_snoc (isK q) hg)
      clear hg
      cases hq : (g.k == q)
      · have hi : Hid (isK q g = false) := hq
        go_wp2
        go_round
        case rel => exact ⟨k + 1, by omega, by go_num, by rw [hs.out, hi.out]; go_num⟩
        case measure => simp [intOf]; omega
      · have hi : Hid (isK q g = true) := hq
        go_wp2
        go_round
        case rel => exact ⟨k + 1, by omega, by go_num, by rw [hs.out, hi.out]; go_num⟩
        case measure => simp [intOf]; omega
    · rw [List.take_of_length_le (by rw [h.len Gt.cells_len (by omega)]; omega)]
      go_wp2
      go_ret
      exact ⟨rfl, (by repeat (first | exact Ext.refl _ | assumption | refine Ext.alloc ?_ _ | refine Ext.drewN ?_ _ | refine Ext.drew ?_))⟩
set_option maxRecDepth 100000 in
set_option maxHeartbeats 2000000 in
theorem impl_TCount_any (N : Int) (A : Option Addr) (n c : Nat) (gs : List Gt) (w : World) (h : Rd w w.heap.size 4 A n (gcells gs)) (hn : n ≤ 100000000) :
    Calls Tryd.prog 32 #[.agg #[.int .i64 N, .slice A n c]] w fun e w' => e = .returned (.int .i64 (tcnt gs)) ∧ Ext w w' := by
  have hl := h.len Gt.cells_len (by omega)
  have h7 := cntP_len (isK 7) gs
  have h8 := cntP_len (isK 8) gs
  have HT : Hid ((tcnt gs : Nat) = cntP (isK 7) gs + cntP (isK 8) gs) := rfl
  have HB0 : Hid (Blk (w.alloc (.cells #[.int .i64 N, .slice A n c] 47)) w.heap.size 47 #[.int .i64 N, .slice A n c]) := Blk.new _ _ _
  have HX0 : Hid (Ext w (w.alloc (.cells #[.int .i64 N, .slice A n c] 47))) := (Ext.refl w).alloc _
  have H := Lib.hid h
  rw [hl] at h7 h8
  clear hl h
  have HC7 : Hid (∀ w', Ext w w' → Calls Tryd.prog 41 #[.agg #[.int .i64 N, .slice A n c], .int .i64 7] w' fun e w'' => e = .returned (.int .i64 (cntP (isK 7) gs)) ∧ Ext w' w'') := fun w' hx => impl_CountGatesP_any N 7 A n c gs w' (H.out.ext hx) hn
  have HC8 : Hid (∀ w', Ext w w' → Calls Tryd.prog 41 #[.agg #[.int .i64 N, .slice A n c], .int .i64 8] w' fun e w'' => e = .returned (.int .i64 (cntP (isK 8) gs)) ∧ Ext w' w'') := fun w' hx => impl_CountGatesP_any N 8 A n c gs w' (H.out.ext hx) hn
  rw [HT.out]
  clear HT
  generalize cntP (isK 7) gs = c7 at *
  generalize cntP (isK 8) gs = c8 at *
  have hsum : IntKind.i64.wrap ((c7 : Int) + (c8 : Int)) = (c7 : Int) + (c8 : Int) := IntWalk.i64_in _ (by omega)
  have HSUM := Lib.hid hsum
  clear hsum
  go_enter Tryd.func32, Tryd.ntmps32
  go_upto_region 1 with (fail)
  have hB0 := HB0.out
  have hX0 := HX0.out
  clear HB0 HX0
  generalize (w.alloc (.cells #[.int .i64 N, .slice A n c] 47)) = Wb at *
  have q0 : Wb.cell? ⟨w.heap.size, 0, none⟩ = some (.int .i64 N) := hB0.cell 0
  have q1 : Wb.cell? ⟨w.heap.size, 1, none⟩ = some (.slice A n c) := hB0.cell 1
  have HK : Hid (∀ w', Ext Wb w' → w'.cell? ⟨w.heap.size, 0, none⟩ = some (.int .i64 N) ∧ w'.cell? ⟨w.heap.size, 1, none⟩ = some (.slice A n c)) := fun w' q => ⟨(hB0.ext q).cell 0, (hB0.ext q).cell 1⟩
  have hsum := HSUM.out
  go_wp2
  go_region_held3 (fun w' => w'.cell? ⟨w.heap.size, 0, none⟩ = some (.int .i64 N) ∧ w'.cell? ⟨w.heap.size, 1, none⟩ = some (.slice A n c))
    (first | go_keep | exact HK.out _ (by assumption))
    (first
      | (go_at_call 41; (with_reducible refine (HC7.out _ (hX0.trans (Ext.refl Wb).drew)).mono ?_); rintro e w5 ⟨rfl, hy5⟩; replace hy5 : Ext Wb w5 := Ext.trans (Ext.refl Wb).drew hy5)
      | (go_at_call 41; (with_reducible refine (HC8.out _ (hX0.trans hy5)).mono ?_); rintro e w6 ⟨rfl, hy6⟩; replace hy6 : Ext Wb w6 := hy5.trans hy6))
  clear hsum
  go_wp2
  go_ret
  exact ⟨by first | rfl | (rw [HSUM.out]; go_num), hX0.trans hy6⟩
set_option maxRecDepth 100000 in
set_option maxHeartbeats 2000000 in
theorem spec_TCount_any (N : Int) (A : Option Addr) (n c : Nat) (gs : List Gt) (w : World) (h : Rd w w.heap.size 4 A n (gcells gs)) (hn : n ≤ 100000000) :
    Calls Tryd.prog 17 #[.agg #[.int .i64 N, .slice A n c]] w fun e w' => e = .returned (.int .i64 (tcnt gs)) ∧ Ext w w' := by
  have hl := h.len Gt.cells_len (by omega)
  have h7 := cntP_len (isK 7) gs
  have h8 := cntP_len (isK 8) gs
  have HT : Hid ((tcnt gs : Nat) = cntP (isK 7) gs + cntP (isK 8) gs) := rfl
  have HB0 : Hid (Blk (w.alloc (.cells #[.int .i64 N, .slice A n c] 47)) w.heap.size 47 #[.int .i64 N, .slice A n c]) := Blk.new _ _ _
  have HX0 : Hid (Ext w (w.alloc (.cells #[.int .i64 N, .slice A n c] 47))) := (Ext.refl w).alloc _
  have H := Lib.hid h
  rw [hl] at h7 h8
  clear hl h
  have HC7 : Hid (∀ w', Ext w w' → Calls Tryd.prog 29 #[.agg #[.int .i64 N, .slice A n c], .int .i64 7] w' fun e w'' => e = .returned (.int .i64 (cntP (isK 7) gs)) ∧ Ext w' w'') := fun w' hx => spec_CountGatesP_any N 7 A n c gs w' (H.out.ext hx) hn
  have HC8 : Hid (∀ w', Ext w w' → Calls Tryd.prog 29 #[.agg #[.int .i64 N, .slice A n c], .int .i64 8] w' fun e w'' => e = .returned (.int .i64 (cntP (isK 8) gs)) ∧ Ext w' w'') := fun w' hx => spec_CountGatesP_any N 8 A n c gs w' (H.out.ext hx) hn
  rw [HT.out]
  clear HT
  generalize cntP (isK 7) gs = c7 at *
  generalize cntP (isK 8) gs = c8 at *
  have hsum : IntKind.i64.wrap ((c7 : Int) + (c8 : Int)) = (c7 : Int) + (c8 : Int) := IntWalk.i64_in _ (by omega)
  have HSUM := Lib.hid hsum
  clear hsum
  go_enter Tryd.func17, Tryd.ntmps17
  go_upto_region 1 with (fail)
  have hB0 := HB0.out
  have hX0 := HX0.out
  clear HB0 HX0
  generalize (w.alloc (.cells #[.int .i64 N, .slice A n c] 47)) = Wb at *
  have q0 : Wb.cell? ⟨w.heap.size, 0, none⟩ = some (.int .i64 N) := hB0.cell 0
  have q1 : Wb.cell? ⟨w.heap.size, 1, none⟩ = some (.slice A n c) := hB0.cell 1
  have HK : Hid (∀ w', Ext Wb w' → w'.cell? ⟨w.heap.size, 0, none⟩ = some (.int .i64 N) ∧ w'.cell? ⟨w.heap.size, 1, none⟩ = some (.slice A n c)) := fun w' q => ⟨(hB0.ext q).cell 0, (hB0.ext q).cell 1⟩
  have hsum := HSUM.out
  go_wp2
  go_region_held3 (fun w' => w'.cell? ⟨w.heap.size, 0, none⟩ = some (.int .i64 N) ∧ w'.cell? ⟨w.heap.size, 1, none⟩ = some (.slice A n c))
    (first | go_keep | exact HK.out _ (by assumption))
    (first
      | (go_at_call 29; (with_reducible refine (HC7.out _ (hX0.trans (Ext.refl Wb).drew)).mono ?_); rintro e w5 ⟨rfl, hy5⟩; replace hy5 : Ext Wb w5 := Ext.trans (Ext.refl Wb).drew hy5)
      | (go_at_call 29; (with_reducible refine (HC8.out _ (hX0.trans hy5)).mono ?_); rintro e w6 ⟨rfl, hy6⟩; replace hy6 : Ext Wb w6 := hy5.trans hy6))
  clear hsum
  go_wp2
  go_ret
  exact ⟨by first | rfl | (rw [HSUM.out]; go_num), hX0.trans hy6⟩
set_option maxRecDepth 100000 in
set_option maxHeartbeats 2000000 in
theorem impl_TwoQubitCount_any (N : Int) (A : Option Addr) (n c : Nat) (gs : List Gt) (w : World) (h : Rd w w.heap.size 4 A n (gcells gs)) (hn : n ≤ 100000000) :
    Calls Tryd.prog 33 #[.agg #[.int .i64 N, .slice A n c]] w fun e w' => e = .returned (.int .i64 (cntP isTwo gs)) ∧ Ext w w' := by
  go_enter Tryd.func33, Tryd.ntmps33
  go_wp2
  go_loopw [3, 9] (fun v i wr => ∃ k : Nat, k ≤ n ∧ i = .int .i64 k ∧ v = .int .i64 (cntP isTwo (gs.take k)) ∧ Ext w wr) (fun _ i _ => n - (intOf i).toNat)
  case atStart => exact ⟨0, Nat.zero_le _, rfl, rfl, (by repeat (first | exact Ext.refl _ | assumption | refine Ext.alloc ?_ _ | refine Ext.drewN ?_ _ | refine Ext.drew ?_))⟩
  case round =>
    obtain ⟨k, hk, rfl, rfl, hx⟩ := hrel
    have hle := cntP_le isTwo gs k
    by_cases hlt : k < n
    · obtain ⟨b, o, g, rfl, hb, hg, h0, h1, h2, h3⟩ := gate_at (h.ext hx) hlt
      have hs := Lib.hid (cntP_snoc isTwo hg)
      have har := ar_range g.k
      clear hg
      go_wp2_with fail
      refine (impl_Arity_any _ _).mono ?_
      rintro e w2 ⟨rfl, rfl⟩
      by_cases hq : 2 ≤ ar g.k
      · have hi : Hid (isTwo g = true) := by unfold Hid isTwo; simpa using hq
        go_wp2
        go_roundw
        case rel => exact ⟨k + 1, by omega, by go_num, by rw [hs.out, hi.out]; go_num, hx.alloc _⟩
        case measure => simp [intOf]; omega
      · have hi : Hid (isTwo g = false) := by unfold Hid isTwo; simpa using hq
        go_wp2
        go_roundw
        case rel => exact ⟨k + 1, by omega, by go_num, by rw [hs.out, hi.out]; go_num, hx.alloc _⟩
        case measure => simp [intOf]; omega
    · rw [List.take_of_length_le (by rw [h.len Gt.cells_len (by omega)]; omega)]
      go_wp2
      go_ret
      exact ⟨rfl, hx⟩
set_option maxRecDepth 100000 in
set_option maxHeartbeats 2000000 in
theorem spec_TwoQubitCount_any (N : Int) (A : Option Addr) (n c : Nat) (gs : List Gt) (w : World) (h : Rd w w.heap.size 4 A n (gcells gs)) (hn : n ≤ 100000000) :
    Calls Tryd.prog 18 #[.agg #[.int .i64 N, .slice A n c]] w fun e w' => e = .returned (.int .i64 (cntP isTwo gs)) ∧ Ext w w' := by
  go_enter Tryd.func18, Tryd.ntmps18
  go_wp2
  go_loop [3, 4] (fun v i => ∃ k : Nat, k ≤ n ∧ i = .int .i64 k ∧ v = .int .i64 (cntP isTwo (gs.take k))) (fun _ i => n - (intOf i).toNat)
  case atStart => exact ⟨0, Nat.zero_le _, rfl, rfl⟩
  case round =>
    obtain ⟨k, hk, rfl, rfl⟩ := hrel
    have hle := cntP_le isTwo gs k
    by_cases hlt : k < n
    · obtain ⟨b, o, g, rfl, hb, hg, h0, h1, h2, h3⟩ := gate_at h hlt
      have hs := Lib.hid (cntP_snoc isTwo hg)
      have har := ar_range g.k
      clear hg
      go_wp2_with fail
      refine (spec_Arity_any _ _).mono ?_
      rintro e w2 ⟨rfl, rfl⟩
      by_cases hq : 2 ≤ ar g.k
      · have hi : Hid (isTwo g = true) := by unfold Hid isTwo; simpa using hq
        have hq' : 1 < ar g.k := by omega
        go_wp2
        go_round
        case rel => exact ⟨k + 1, by omega, by go_num, by rw [hs.out, hi.out]; go_num⟩
        case measure => simp [intOf]; omega
      · have hi : Hid (isTwo g = false) := by unfold Hid isTwo; simpa using hq
        have hq' : ¬ 1 < ar g.k := by omega
        go_wp2
        go_round
        case rel => exact ⟨k + 1, by omega, by go_num, by rw [hs.out, hi.out]; go_num⟩
        case measure => simp [intOf]; omega
    · rw [List.take_of_length_le (by rw [h.len Gt.cells_len (by omega)]; omega)]
      go_wp2
      go_ret
      exact ⟨rfl, (by repeat (first | exact Ext.refl _ | assumption | refine Ext.alloc ?_ _ | refine Ext.drewN ?_ _ | refine Ext.drew ?_))⟩
end Go.Proofs.YtngpkboocpaikabDoor
