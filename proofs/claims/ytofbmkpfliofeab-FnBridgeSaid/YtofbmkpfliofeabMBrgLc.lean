/-
  Helper text (no claim of its own): circuits under new names of the qubits, by the program. Printed by gen_rel.py.
-/
import Derived.Test.YtofbmkpfliofeabDec
import Derived.Test.YtofbmkpfliofeabInt
import Derived.Test.YtofbmkpfliofeabIn
import Derived.Test.YtofbmkpfliofeabDrawC
import Derived.Test.YtofbmkpfliofeabBase
import Derived.Test.YtofbmkpfliofeabMBrgLb
import Derived.Test.YtofbmkpfliofeabAli
import Derived.Test.YtofbmkpfliofeabSval
import Derived.Test.YtofbmkpfliofeabValid
import Derived.Test.YtofbmkpfliofeabRet
import Derived.Test.YtofbmkpfliofeabSvg
import Derived.Test.YtofbmkpfliofeabGate
import Derived.Test.YtofbmkpfliofeabMBrgLa
/-
  Helper text (no claim of its own): a CX along a path, by the program and by the reference.
-/
namespace Go.Proofs.Ytofbmkpfliofeab
open Go.ChangeShapes Go.WideShapes Go.ChangeAt Go.RowKit Go.Deep
set_option linter.unusedVariables false
/-- A CX from the first to the last qubit of a path. -/
def lrL : List Int → List Gt
  | [] => []
  | [_] => []
  | [a, b] => [gcx a b]
  | a :: b :: c :: r => (gcx a b :: lrL (b :: c :: r)) ++ (gcx a b :: lrL (b :: c :: r))
def lr (way : List Int) : List Gt := if 2 ≤ way.length ∧ way.length ≤ 4 then lrL way else []
theorem lr_no {way : List Int} (h : way.length < 2 ∨ 4 < way.length) : lr way = [] := if_neg (by omega)
theorem lr_2 (a b : Int) : lr [a, b] = [gcx a b] := rfl
theorem lr_more {a b c : Int} {r : List Int} (h : r.length ≤ 1) : lr (a :: b :: c :: r) = (gcx a b :: lr (b :: c :: r)) ++ (gcx a b :: lr (b :: c :: r)) := by
  unfold lr
  rw [if_pos (by simp; omega), if_pos (by simp; omega)]
  rfl
theorem lr_len (way : List Int) : (lr way).length ≤ 10 := by
  unfold lr
  split
  · rename_i h
    match way, h with
    | [a, b], _ => simp [lrL]
    | [a, b, c], _ => simp [lrL]
    | [a, b, c, d], _ => simp [lrL]
    | a :: b :: c :: d :: e :: r, h => simp at h
  · simp
theorem rd_tail {w : World} {B n b o : Nat} {a : Int} {l : List Int} (h : Rd w B 1 (some ⟨b, o, none⟩) (n + 1) (icells (a :: l))) : Rd w B 1 (some ⟨b, o + 1, none⟩) n (icells l) := by
  have hl := h.1
  rw [flat_len icell_len] at hl
  refine ⟨by rw [flat_len icell_len]; simp at hl ⊢; omega, fun hn => ?_⟩
  obtain ⟨b', o', e, hb, hc⟩ := h.2 (by omega)
  injection e with e
  injection e with e1 e2
  subst e1 e2
  refine ⟨b, o + 1, rfl, hb, fun j u hu => ?_⟩
  have := hc (j + 1) u (by simpa [icell] using hu)
  rwa [show o + (j + 1) = o + 1 + j from by omega] at this
/-! ### impl -/
set_option maxRecDepth 100000 in
theorem copyGates_any (A : Option Addr) (n c : Nat) (gs : List Gt) (w : World) (h : Rd w w.heap.size 4 A n (gcells gs)) (hn : n ≤ 100000000) :
    Calls Try.prog 43 #[.slice A n c] w fun e w' => ∃ v, e = .returned v ∧ w'.ownsRow w.heap.size 43 4 v n (gcells gs) ∧ Ext w w' := by
  go_enter Try.func43, Try.ntmps43
  go_wp2_with (at_builtin; refine appGateS (w0 := w) rfl _ _ rfl _ 0 [] rfl (own_lit (by repeat (first | exact Ext.refl _ | assumption | refine Ext.alloc ?_ _ | refine Ext.drewN ?_ _ | refine Ext.drew ?_)) _ _ 4 0 #[] _ (by simp) rfl rfl (by omega)) (by repeat (first | exact Ext.refl _ | assumption | refine Ext.alloc ?_ _ | refine Ext.drewN ?_ _ | refine Ext.drew ?_)) A n c gs rfl (h.ext (by repeat (first | exact Ext.refl _ | assumption | refine Ext.alloc ?_ _ | refine Ext.drewN ?_ _ | refine Ext.drew ?_))) (by omega) ?_; intro v1 w1 ho1 hx1 hg1 hb1)
  go_ret
  exact ⟨_, rfl, by simpa using ho1, hx1⟩

/-- What LongRangeCX hands back. -/
def LrE (w : World) (way : List Int) (e : Ending) (w' : World) : Prop := ∃ v, e = .returned v ∧ w'.ownsRow w.heap.size 43 4 v (lr way).length (gcells (lr way)) ∧ Ext w w'
set_option maxRecDepth 100000 in
set_option maxHeartbeats 8000000 in
theorem impl_lr_step (A : Option Addr) (n c : Nat) (way : List Int) (w : World) (h : Rd w w.heap.size 1 A n (icells way)) (hn : n ≤ 100000000) (hc : n ≤ c)
    (ih : 2 ≤ n → ∀ (A' : Option Addr) (c' : Nat) (way' : List Int) (w' : World), Rd w' w'.heap.size 1 A' (n - 1) (icells way') → n - 1 ≤ c' → Calls Try.prog 17 #[.slice A' (n - 1) c'] w' (LrE w' way')) :
    Calls Try.prog 17 #[.slice A n c] w (LrE w way) := by
  have hlen := h.len icell_len (by omega)
  have HIH := Lib.hid ih
  clear ih
  by_cases hb : n < 2 ∨ 4 < n
  · have HF := Lib.hid (lr_no (way := way) (by omega))
    have HB : Hid ((n : Int) < 2 ∨ 4 < (n : Int)) := by unfold Hid; omega
    clear hb hlen
    go_enter Try.func17, Try.ntmps17
    go_wp2_with fail
    refine (in_no _ _ _ _ HB.out).mono ?_
    rintro e w1 ⟨rfl, rfl⟩
    go_wp2
    go_ret
    exact ⟨_, rfl, by rw [HF.out]; exact World.ownsRow_nil _ _ _ _, (by repeat (first | exact Ext.refl _ | assumption | refine Ext.alloc ?_ _ | refine Ext.drewN ?_ _ | refine Ext.drew ?_))⟩
  have hn2 : 2 ≤ n := by omega
  have hn4 : n ≤ 4 := by omega
  clear hb
  obtain ⟨a, t1, rfl, ht1⟩ := lenS (show way.length = (n - 1) + 1 by omega)
  obtain ⟨b, t2, rfl, ht2⟩ := lenS (show t1.length = (n - 2) + 1 by omega)
  obtain ⟨bl, ol, a', rfl, hbl, ha', ca⟩ := int_at h (show 0 < n by omega)
  obtain ⟨_, _, b', e2, _, hb', cb⟩ := int_at h (show 1 < n by omega)
  injection e2 with e2
  injection e2 with e3 e4
  subst e3 e4
  simp at ha' hb'
  subst ha' hb'
  rw [Nat.add_zero] at ca
  have HA := Lib.hid (And.intro ht1 ht2)
  clear hlen ht1 ht2
  have hn0n : 0 < n := by omega
  have hn1n : 1 < n := by omega
  have hn1i : (1 : Int) < (n : Int) := by omega
  have HQ : Hid (∀ w', Ext w w' → w'.cell? ⟨bl, ol, none⟩ = some (.int .i64 a) ∧ w'.cell? ⟨bl, ol + 1, none⟩ = some (.int .i64 b)) := fun w' z => ⟨(z.cell (p := ⟨bl, ol, none⟩) hbl).trans ca, (z.cell (p := ⟨bl, ol + 1, none⟩) hbl).trans cb⟩
  go_enter Try.func17, Try.ntmps17
  go_wp2_with fail
  refine (in_yes _ _ _ _ (by omega) (by omega)).mono ?_
  rintro e w1 ⟨rfl, rfl⟩
  go_wp2
  first | go_region_held3 (fun w' => w'.cell? ⟨bl, ol, none⟩ = some (.int .i64 a) ∧ w'.cell? ⟨bl, ol + 1, none⟩ = some (.int .i64 b))
    (first | (refine HQ.out _ ?_; assumption) | exact HQ.out _ (Ext.refl w).drew | go_keep | exact HQ.out _ (hz0.alloc _) | exact HQ.out _ ((((hz0.setCell (p := ⟨w.heap.size, 0, none⟩) (Nat.le_refl _) _).setCell (p := ⟨w.heap.size, 1, none⟩) (Nat.le_refl _) _).setCell (p := ⟨w.heap.size, 2, none⟩) (Nat.le_refl _) _).setCell (p := ⟨w.heap.size, 3, none⟩) (Nat.le_refl _) _) | exact HQ.out _ ((Ext.refl w).alloc _).drew | (refine HQ.out _ ?_; repeat (first | exact Ext.refl _ | assumption | refine Ext.alloc ?_ _ | refine Ext.drewN ?_ _ | refine Ext.drew ?_); done))
    (first
      | (go_at_call 42; (with_reducible refine (impl_cx_any (w0 := (w.alloc (.cells #[.int .i64 0, .int .i64 0, .int .i64 0, .int .i64 0] 43)).drew) _ _ _ (Ext.refl _)).mono ?_); rintro e w' ⟨rfl, hz1⟩; have hz0 : Ext w w' := Ext.trans (((Ext.refl w).alloc _).drew) hz1; have hB1 : Blk w' w.heap.size 43 #[.int .i64 0, .int .i64 0, .int .i64 0, .int .i64 0] := Blk.ext (w := (w.alloc (.cells #[.int .i64 0, .int .i64 0, .int .i64 0, .int .i64 0] 43)).drew) (Blk.new w _ _) hz1; have f0 := hB1.frozen 0; have f1 := hB1.frozen 1; have f2 := hB1.frozen 2; have f3 := hB1.frozen 3; have g0 : w'.cell? ⟨w.heap.size, 0, none⟩ = some (.int .i64 0) := hB1.cell 0; have g1 : w'.cell? ⟨w.heap.size, 1, none⟩ = some (.int .i64 0) := hB1.cell 1; have g2 : w'.cell? ⟨w.heap.size, 2, none⟩ = some (.int .i64 0) := hB1.cell 2; have g3 : w'.cell? ⟨w.heap.size, 3, none⟩ = some (.int .i64 0) := hB1.cell 3)
      | (go_at_call 42; (with_reducible refine (impl_cx_any (w0 := w) _ _ _ (Ext.refl w).drew).mono ?_); rintro e w' ⟨rfl, hz0⟩)) | fail
  all_goals
    first
      | (have hB3 : Blk ((((w'.setCell ⟨w.heap.size, 0, none⟩ (.int .i64 9)).setCell ⟨w.heap.size, 1, none⟩ (.int .i64 a)).setCell ⟨w.heap.size, 2, none⟩ (.int .i64 b)).setCell ⟨w.heap.size, 3, none⟩ (.int .i64 0)) w.heap.size 43 #[.int .i64 9, .int .i64 a, .int .i64 b, .int .i64 0] := Blk.set4 hB1 _ _ _ _
         have hx3 : Ext w ((((w'.setCell ⟨w.heap.size, 0, none⟩ (.int .i64 9)).setCell ⟨w.heap.size, 1, none⟩ (.int .i64 a)).setCell ⟨w.heap.size, 2, none⟩ (.int .i64 b)).setCell ⟨w.heap.size, 3, none⟩ (.int .i64 0)) := (((hz0.setCell (p := ⟨w.heap.size, 0, none⟩) (Nat.le_refl _) _).setCell (p := ⟨w.heap.size, 1, none⟩) (Nat.le_refl _) _).setCell (p := ⟨w.heap.size, 2, none⟩) (Nat.le_refl _) _).setCell (p := ⟨w.heap.size, 3, none⟩) (Nat.le_refl _) _
         clear f0 f1 f2 f3 g0 g1 g2 g3 hB1 hz1 hz0
         generalize ((((w'.setCell ⟨w.heap.size, 0, none⟩ (.int .i64 9)).setCell ⟨w.heap.size, 1, none⟩ (.int .i64 a)).setCell ⟨w.heap.size, 2, none⟩ (.int .i64 b)).setCell ⟨w.heap.size, 3, none⟩ (.int .i64 0)) = W3 at *
         generalize w.heap.size = fb at hB3 ⊢)
      | (have hB3 : Blk (w'.alloc (.cells #[.int .i64 9, .int .i64 a, .int .i64 b, .int .i64 0] 43)) w'.heap.size 43 #[.int .i64 9, .int .i64 a, .int .i64 b, .int .i64 0] := Blk.new _ _ _
         have hx3 : Ext w (w'.alloc (.cells #[.int .i64 9, .int .i64 a, .int .i64 b, .int .i64 0] 43)) := hz0.alloc _
         clear hz0
         generalize (w'.alloc (.cells #[.int .i64 9, .int .i64 a, .int .i64 b, .int .i64 0] 43)) = W3 at *
         generalize w'.heap.size = fb at hB3 ⊢)
    obtain ⟨⟨k0, k1, k2, k3⟩, _⟩ := blk4 hB3
    have HKF : Hid (∀ w'', Ext W3 w'' → w''.cell? ⟨fb, 0, none⟩ = some (.int .i64 9) ∧ w''.cell? ⟨fb, 1, none⟩ = some (.int .i64 a) ∧ w''.cell? ⟨fb, 2, none⟩ = some (.int .i64 b) ∧ w''.cell? ⟨fb, 3, none⟩ = some (.int .i64 0)) := fun w'' z => (blk4 (hB3.ext z)).1
    by_cases h22 : n = 2
    · have ht2 : t2 = [] := List.eq_nil_of_length_eq_zero (by have := HA.out.2; omega)
      subst ht2 h22
      go_wp2
      go_ret
      exact ⟨_, rfl, by rw [lr_2]; exact own_lit hx3 _ _ 4 1 #[.int .i64 9, .int .i64 a, .int .i64 b, .int .i64 0] (gcells [gcx a b]) rfl rfl rfl (by omega), hx3.alloc _⟩
    have hn22 : ((n : Int) == 2) = false := by rw [beq_eq_false_iff_ne]; omega
    have hn1b : ((1 : Int) ≤ (n : Int)) := by omega
    have hc1b : ((1 : Int) ≤ (c : Int)) := by omega
    have hc1n : 1 < c := by omega
    have hc1e : ¬ c = 1 := by omega
    obtain ⟨c3, t3, rfl, ht3⟩ := lenS (show t2.length = (n - 3) + 1 by have := HA.out.2; omega)
    have HM := Lib.hid (lr_more (a := a) (b := b) (c := c3) (r := t3) (by omega))
    have hll := lr_len (b :: c3 :: t3)
    have hRT : Hid (∀ w'', Ext w w'' → Rd w'' w''.heap.size 1 (some ⟨bl, ol + 1, none⟩) (n - 1) (icells (b :: c3 :: t3))) := fun w'' z => rd_tail (a := a) (by rw [show n - 1 + 1 = n by omega]; exact h.ext z)
    clear h22 ht3
    go_wp2
    first | go_region_held3 (fun w'' => w''.cell? ⟨fb, 0, none⟩ = some (.int .i64 9) ∧ w''.cell? ⟨fb, 1, none⟩ = some (.int .i64 a) ∧ w''.cell? ⟨fb, 2, none⟩ = some (.int .i64 b) ∧ w''.cell? ⟨fb, 3, none⟩ = some (.int .i64 0))
      (first | (refine HKF.out _ ?_; assumption) | exact HKF.out _ (Ext.refl W3).drew | go_keep | (refine HKF.out _ ?_; repeat (first | exact Ext.refl _ | assumption | refine Ext.alloc ?_ _ | refine Ext.drewN ?_ _ | refine Ext.drew ?_); done))
      (first
        | (go_at_call 17; refine (HIH.out hn2 _ _ (b :: c3 :: t3) _ (hRT.out _ (hx3.trans (by repeat (first | exact Ext.refl _ | assumption | refine Ext.alloc ?_ _ | refine Ext.drewN ?_ _ | refine Ext.drew ?_)))) (by omega)).mono ?_; rintro e w4 ⟨v4, rfl, ho4, hy4⟩; have hq4 : Ext W3 w4 := Ext.trans (by repeat (first | exact Ext.refl _ | assumption | refine Ext.alloc ?_ _ | refine Ext.drewN ?_ _ | refine Ext.drew ?_)) hy4; obtain ⟨A4, c4, rfl, hr4⟩ := own_slice ho4)
        | (refine stepGateS (w0 := w) (by rfl) _ _ (by rfl) _ 1 [gcx a b] (by rfl) (own_ext (own_lit hx3 W3.heap.size 43 4 1 #[.int .i64 9, .int .i64 a, .int .i64 b, .int .i64 0] _ rfl rfl rfl (by omega)) (Ext.trans ((Ext.refl _).drew) hy4)) (hx3.trans hq4) A4 _ c4 (lr (b :: c3 :: t3)) (by rfl) hr4 (by omega) ?_; intro v5 w5 ho5 hx5 hg5 hb5; have hz5 : Ext W3 w5 := hq4.grown hg5 (fun k hk => by simp [Value.ownBlock] at hk; omega))
        | (refine stepGateS (w0 := w) (by rfl) _ _ (by rfl) _ 1 [gcx a b] (by rfl) (own_lit (hx3.trans hq4) w4.heap.size 43 4 1 #[.int .i64 9, .int .i64 a, .int .i64 b, .int .i64 0] _ rfl rfl rfl (by omega)) ((hx3.trans hq4).alloc _) A4 _ c4 (lr (b :: c3 :: t3)) (by rfl) (hr4.ext ((Ext.refl w4).alloc _)) (by omega) ?_; intro v5 w5 ho5 hx5 hg5 hb5; have hz5 : Ext W3 w5 := (hq4.alloc _).grown hg5 (fun k hk => by have := hq4.size; simp [Value.ownBlock] at hk; omega))) | fail
    all_goals
      have hlen5 : 1 + (lr (b :: c3 :: t3)).length = (gcx a b :: lr (b :: c3 :: t3)).length := by simp [Nat.add_comm]
      have hl11 : (gcx a b :: lr (b :: c3 :: t3)).length ≤ 11 := by simp; omega
      rw [hlen5] at ho5
      replace ho5 : w5.ownsRow w.heap.size 43 4 v5 (gcx a b :: lr (b :: c3 :: t3)).length (gcells (gcx a b :: lr (b :: c3 :: t3))) := ho5
      generalize gcx a b :: lr (b :: c3 :: t3) = half at *
      obtain ⟨A5, c5, rfl, hr5⟩ := own_slice ho5
      clear hlen5 k0 k1 k2 k3 hg5 hb5 ho5
      go_wp2_with fail
      refine (copyGates_any A5 _ c5 half _ hr5 (by omega)).mono ?_
      rintro e w6 ⟨v6, rfl, ho6, hy6⟩
      go_wp2_with (at_builtin; refine appGateS (w0 := w) rfl _ _ rfl _ half.length half rfl (own_base ho6 hx5.size) (hx5.trans hy6) A5 _ c5 half rfl (hr5.ext hy6) (by omega) ?_; intro v7 w7 ho7 hx7 hg7 hb7)
      go_ret
      exact ⟨_, rfl, by rw [HM.out, List.length_append]; exact ho7, hx7⟩
/-! ### spec -/

set_option maxRecDepth 100000 in
set_option maxHeartbeats 8000000 in
theorem spec_lr_step (A : Option Addr) (n c : Nat) (way : List Int) (w : World) (h : Rd w w.heap.size 1 A n (icells way)) (hn : n ≤ 100000000) (hc : n ≤ c)
    (ih : 2 ≤ n → ∀ (A' : Option Addr) (c' : Nat) (way' : List Int) (w' : World), Rd w' w'.heap.size 1 A' (n - 1) (icells way') → n - 1 ≤ c' → Calls Try.prog 22 #[.slice A' (n - 1) c'] w' (LrE w' way')) :
    Calls Try.prog 22 #[.slice A n c] w (LrE w way) := by
  have hlen := h.len icell_len (by omega)
  have HIH := Lib.hid ih
  clear ih
  by_cases hb : n < 2 ∨ 4 < n
  · have HF := Lib.hid (lr_no (way := way) (by omega))
    have HB : Hid ((n : Int) < 2 ∨ 4 < (n : Int)) := by unfold Hid; omega
    clear hb hlen
    go_enter Try.func22, Try.ntmps22
    go_wp2_with fail
    refine (l1In_no _ _ _ _ HB.out).mono ?_
    rintro e w1 ⟨rfl, rfl⟩
    go_wp2
    go_ret
    exact ⟨_, rfl, by rw [HF.out]; exact own_lit (Ext.refl _) _ _ 4 0 #[] _ rfl rfl rfl (by omega), (by repeat (first | exact Ext.refl _ | assumption | refine Ext.alloc ?_ _ | refine Ext.drewN ?_ _ | refine Ext.drew ?_))⟩
  have hn2 : 2 ≤ n := by omega
  have hn4 : n ≤ 4 := by omega
  clear hb
  obtain ⟨a, t1, rfl, ht1⟩ := lenS (show way.length = (n - 1) + 1 by omega)
  obtain ⟨b, t2, rfl, ht2⟩ := lenS (show t1.length = (n - 2) + 1 by omega)
  obtain ⟨bl, ol, a', rfl, hbl, ha', ca⟩ := int_at h (show 0 < n by omega)
  obtain ⟨_, _, b', e2, _, hb', cb⟩ := int_at h (show 1 < n by omega)
  injection e2 with e2
  injection e2 with e3 e4
  subst e3 e4
  simp at ha' hb'
  subst ha' hb'
  rw [Nat.add_zero] at ca
  have HA := Lib.hid (And.intro ht1 ht2)
  clear hlen ht1 ht2
  have hn0n : 0 < n := by omega
  have hn1n : 1 < n := by omega
  have hn1i : (1 : Int) < (n : Int) := by omega
  have HQ : Hid (∀ w', Ext w w' → w'.cell? ⟨bl, ol, none⟩ = some (.int .i64 a) ∧ w'.cell? ⟨bl, ol + 1, none⟩ = some (.int .i64 b)) := fun w' z => ⟨(z.cell (p := ⟨bl, ol, none⟩) hbl).trans ca, (z.cell (p := ⟨bl, ol + 1, none⟩) hbl).trans cb⟩
  go_enter Try.func22, Try.ntmps22
  go_wp2_with fail
  refine (l1In_yes _ _ _ _ (by omega) (by omega)).mono ?_
  rintro e w1 ⟨rfl, rfl⟩
  go_wp2
  first | go_region_held3 (fun w' => w'.cell? ⟨bl, ol, none⟩ = some (.int .i64 a) ∧ w'.cell? ⟨bl, ol + 1, none⟩ = some (.int .i64 b))
    (first | (refine HQ.out _ ?_; assumption) | exact HQ.out _ (Ext.refl w).drew | go_keep | exact HQ.out _ (hz0.alloc _) | exact HQ.out _ ((((hz0.setCell (p := ⟨w.heap.size, 0, none⟩) (Nat.le_refl _) _).setCell (p := ⟨w.heap.size, 1, none⟩) (Nat.le_refl _) _).setCell (p := ⟨w.heap.size, 2, none⟩) (Nat.le_refl _) _).setCell (p := ⟨w.heap.size, 3, none⟩) (Nat.le_refl _) _) | exact HQ.out _ ((Ext.refl w).alloc _).drew | (refine HQ.out _ ?_; repeat (first | exact Ext.refl _ | assumption | refine Ext.alloc ?_ _ | refine Ext.drewN ?_ _ | refine Ext.drew ?_); done))
    (first
      | (go_at_call 49; (with_reducible refine (spec_cx_any (w0 := (w.alloc (.cells #[.int .i64 0, .int .i64 0, .int .i64 0, .int .i64 0] 43)).drew) _ _ _ (Ext.refl _)).mono ?_); rintro e w' ⟨rfl, hz1⟩; have hz0 : Ext w w' := Ext.trans (((Ext.refl w).alloc _).drew) hz1; have hB1 : Blk w' w.heap.size 43 #[.int .i64 0, .int .i64 0, .int .i64 0, .int .i64 0] := Blk.ext (w := (w.alloc (.cells #[.int .i64 0, .int .i64 0, .int .i64 0, .int .i64 0] 43)).drew) (Blk.new w _ _) hz1; have f0 := hB1.frozen 0; have f1 := hB1.frozen 1; have f2 := hB1.frozen 2; have f3 := hB1.frozen 3; have g0 : w'.cell? ⟨w.heap.size, 0, none⟩ = some (.int .i64 0) := hB1.cell 0; have g1 : w'.cell? ⟨w.heap.size, 1, none⟩ = some (.int .i64 0) := hB1.cell 1; have g2 : w'.cell? ⟨w.heap.size, 2, none⟩ = some (.int .i64 0) := hB1.cell 2; have g3 : w'.cell? ⟨w.heap.size, 3, none⟩ = some (.int .i64 0) := hB1.cell 3)
      | (go_at_call 49; (with_reducible refine (spec_cx_any (w0 := w) _ _ _ (Ext.refl w).drew).mono ?_); rintro e w' ⟨rfl, hz0⟩)) | fail
  all_goals
    first
      | (have hB3 : Blk ((((w'.setCell ⟨w.heap.size, 0, none⟩ (.int .i64 9)).setCell ⟨w.heap.size, 1, none⟩ (.int .i64 a)).setCell ⟨w.heap.size, 2, none⟩ (.int .i64 b)).setCell ⟨w.heap.size, 3, none⟩ (.int .i64 0)) w.heap.size 43 #[.int .i64 9, .int .i64 a, .int .i64 b, .int .i64 0] := Blk.set4 hB1 _ _ _ _
         have hx3 : Ext w ((((w'.setCell ⟨w.heap.size, 0, none⟩ (.int .i64 9)).setCell ⟨w.heap.size, 1, none⟩ (.int .i64 a)).setCell ⟨w.heap.size, 2, none⟩ (.int .i64 b)).setCell ⟨w.heap.size, 3, none⟩ (.int .i64 0)) := (((hz0.setCell (p := ⟨w.heap.size, 0, none⟩) (Nat.le_refl _) _).setCell (p := ⟨w.heap.size, 1, none⟩) (Nat.le_refl _) _).setCell (p := ⟨w.heap.size, 2, none⟩) (Nat.le_refl _) _).setCell (p := ⟨w.heap.size, 3, none⟩) (Nat.le_refl _) _
         clear f0 f1 f2 f3 g0 g1 g2 g3 hB1 hz1 hz0
         generalize ((((w'.setCell ⟨w.heap.size, 0, none⟩ (.int .i64 9)).setCell ⟨w.heap.size, 1, none⟩ (.int .i64 a)).setCell ⟨w.heap.size, 2, none⟩ (.int .i64 b)).setCell ⟨w.heap.size, 3, none⟩ (.int .i64 0)) = W3 at *
         generalize w.heap.size = fb at hB3 ⊢)
      | (have hB3 : Blk (w'.alloc (.cells #[.int .i64 9, .int .i64 a, .int .i64 b, .int .i64 0] 43)) w'.heap.size 43 #[.int .i64 9, .int .i64 a, .int .i64 b, .int .i64 0] := Blk.new _ _ _
         have hx3 : Ext w (w'.alloc (.cells #[.int .i64 9, .int .i64 a, .int .i64 b, .int .i64 0] 43)) := hz0.alloc _
         clear hz0
         generalize (w'.alloc (.cells #[.int .i64 9, .int .i64 a, .int .i64 b, .int .i64 0] 43)) = W3 at *
         generalize w'.heap.size = fb at hB3 ⊢)
    obtain ⟨⟨k0, k1, k2, k3⟩, _⟩ := blk4 hB3
    have HKF : Hid (∀ w'', Ext W3 w'' → w''.cell? ⟨fb, 0, none⟩ = some (.int .i64 9) ∧ w''.cell? ⟨fb, 1, none⟩ = some (.int .i64 a) ∧ w''.cell? ⟨fb, 2, none⟩ = some (.int .i64 b) ∧ w''.cell? ⟨fb, 3, none⟩ = some (.int .i64 0)) := fun w'' z => (blk4 (hB3.ext z)).1
    by_cases h22 : n = 2
    · have ht2 : t2 = [] := List.eq_nil_of_length_eq_zero (by have := HA.out.2; omega)
      subst ht2 h22
      go_wp2
      go_ret
      exact ⟨_, rfl, by rw [lr_2]; exact own_lit hx3 _ _ 4 1 #[.int .i64 9, .int .i64 a, .int .i64 b, .int .i64 0] (gcells [gcx a b]) rfl rfl rfl (by omega), hx3.alloc _⟩
    have hn22 : ((n : Int) == 2) = false := by rw [beq_eq_false_iff_ne]; omega
    have hn1b : ((1 : Int) ≤ (n : Int)) := by omega
    have hc1b : ((1 : Int) ≤ (c : Int)) := by omega
    have hc1n : 1 < c := by omega
    have hc1e : ¬ c = 1 := by omega
    obtain ⟨c3, t3, rfl, ht3⟩ := lenS (show t2.length = (n - 3) + 1 by have := HA.out.2; omega)
    have HM := Lib.hid (lr_more (a := a) (b := b) (c := c3) (r := t3) (by omega))
    have hll := lr_len (b :: c3 :: t3)
    have hRT : Hid (∀ w'', Ext w w'' → Rd w'' w''.heap.size 1 (some ⟨bl, ol + 1, none⟩) (n - 1) (icells (b :: c3 :: t3))) := fun w'' z => rd_tail (a := a) (by rw [show n - 1 + 1 = n by omega]; exact h.ext z)
    clear h22 ht3
    go_wp2
    first | go_region_held3 (fun w'' => w''.cell? ⟨fb, 0, none⟩ = some (.int .i64 9) ∧ w''.cell? ⟨fb, 1, none⟩ = some (.int .i64 a) ∧ w''.cell? ⟨fb, 2, none⟩ = some (.int .i64 b) ∧ w''.cell? ⟨fb, 3, none⟩ = some (.int .i64 0))
      (first | (refine HKF.out _ ?_; assumption) | exact HKF.out _ (Ext.refl W3).drew | go_keep | (refine HKF.out _ ?_; repeat (first | exact Ext.refl _ | assumption | refine Ext.alloc ?_ _ | refine Ext.drewN ?_ _ | refine Ext.drew ?_); done))
      (first
        | (go_at_call 22; refine (HIH.out hn2 _ _ (b :: c3 :: t3) _ (hRT.out _ (hx3.trans (by repeat (first | exact Ext.refl _ | assumption | refine Ext.alloc ?_ _ | refine Ext.drewN ?_ _ | refine Ext.drew ?_)))) (by omega)).mono ?_; rintro e w4 ⟨v4, rfl, ho4, hy4⟩; have hq4 : Ext W3 w4 := Ext.trans (by repeat (first | exact Ext.refl _ | assumption | refine Ext.alloc ?_ _ | refine Ext.drewN ?_ _ | refine Ext.drew ?_)) hy4; obtain ⟨A4, c4, rfl, hr4⟩ := own_slice ho4)
        | (refine stepGateS (w0 := w) (by rfl) _ _ (by rfl) _ 1 [gcx a b] (by rfl) (own_ext (own_lit hx3 W3.heap.size 43 4 1 #[.int .i64 9, .int .i64 a, .int .i64 b, .int .i64 0] _ rfl rfl rfl (by omega)) (Ext.trans ((Ext.refl _).drew) hy4)) (hx3.trans hq4) A4 _ c4 (lr (b :: c3 :: t3)) (by rfl) hr4 (by omega) ?_; intro v5 w5 ho5 hx5 hg5 hb5; have hz5 : Ext W3 w5 := hq4.grown hg5 (fun k hk => by simp [Value.ownBlock] at hk; omega))
        | (refine stepGateS (w0 := w) (by rfl) _ _ (by rfl) _ 1 [gcx a b] (by rfl) (own_lit (hx3.trans hq4) w4.heap.size 43 4 1 #[.int .i64 9, .int .i64 a, .int .i64 b, .int .i64 0] _ rfl rfl rfl (by omega)) ((hx3.trans hq4).alloc _) A4 _ c4 (lr (b :: c3 :: t3)) (by rfl) (hr4.ext ((Ext.refl w4).alloc _)) (by omega) ?_; intro v5 w5 ho5 hx5 hg5 hb5; have hz5 : Ext W3 w5 := (hq4.alloc _).grown hg5 (fun k hk => by have := hq4.size; simp [Value.ownBlock] at hk; omega))) | fail
    all_goals
      have hlen5 : 1 + (lr (b :: c3 :: t3)).length = (gcx a b :: lr (b :: c3 :: t3)).length := by simp [Nat.add_comm]
      have hl11 : (gcx a b :: lr (b :: c3 :: t3)).length ≤ 11 := by simp; omega
      rw [hlen5] at ho5
      replace ho5 : w5.ownsRow w.heap.size 43 4 v5 (gcx a b :: lr (b :: c3 :: t3)).length (gcells (gcx a b :: lr (b :: c3 :: t3))) := ho5
      generalize gcx a b :: lr (b :: c3 :: t3) = half at *
      obtain ⟨A5, c5, rfl, hr5⟩ := own_slice ho5
      clear hlen5 k0 k1 k2 k3 hg5 hb5 ho5
      have tok1 : True := trivial
      go_wp2_with (first | (at_builtin; have _t := tok1; refine appGateS (w0 := w) rfl _ _ rfl (.slice (some ⟨w5.heap.size, 0, none⟩) 0 0) 0 [] rfl (own_lit hx5 _ _ 4 0 #[] _ (by simp) rfl rfl (by omega)) (hx5.alloc _) A5 _ c5 half rfl (hr5.ext ((Ext.refl w5).alloc _)) (by omega) ?_; intro v6 w6 ho6 hx6 hg6 hb6; have hy6 : Ext w5 w6 := ((Ext.refl w5).alloc _).grown hg6 (fun k hk => by simp [Value.ownBlock] at hk; omega); have ho6' : w6.ownsRow w.heap.size 43 4 v6 half.length (gcells half) := (by simpa using ho6); clear tok1 ho6 hg6 hb6) | (at_builtin; refine appGateS (w0 := w) rfl _ _ rfl _ half.length half rfl ho6' hx6 A5 _ c5 half rfl (hr5.ext hy6) (by omega) ?_; intro v7 w7 ho7 hx7 hg7 hb7))
      go_ret
      exact ⟨_, rfl, by rw [HM.out, List.length_append]; exact ho7, hx7⟩
theorem impl_LongRangeCX_any : ∀ (n : Nat) (A : Option Addr) (c : Nat) (way : List Int) (w : World), n ≤ 100000000 → Rd w w.heap.size 1 A n (icells way) → n ≤ c → Calls Try.prog 17 #[.slice A n c] w (LrE w way)
  | 0, A, c, way, w, hn, h, hc => by
    exact impl_lr_step A 0 c way w h hn hc (fun h2 => absurd h2 (by omega))
  | n + 1, A, c, way, w, hn, h, hc => impl_lr_step A (n + 1) c way w h hn hc (fun _ A' c' way' w' h' hc' => impl_LongRangeCX_any n A' c' way' w' (by omega) h' hc')
theorem spec_LongRangeCX_any : ∀ (n : Nat) (A : Option Addr) (c : Nat) (way : List Int) (w : World), n ≤ 100000000 → Rd w w.heap.size 1 A n (icells way) → n ≤ c → Calls Try.prog 22 #[.slice A n c] w (LrE w way)
  | 0, A, c, way, w, hn, h, hc => by
    exact spec_lr_step A 0 c way w h hn hc (fun h2 => absurd h2 (by omega))
  | n + 1, A, c, way, w, hn, h, hc => spec_lr_step A (n + 1) c way w h hn hc (fun _ A' c' way' w' h' hc' => spec_LongRangeCX_any n A' c' way' w' (by omega) h' hc')
end Go.Proofs.Ytofbmkpfliofeab
/-
  Helper text (no claim of its own): lists that are all right, and what each element gives.
-/
namespace Go.Proofs.Ytofbmkpfliofeab
open Go.ChangeShapes Go.WideShapes Go.ChangeAt Go.RowKit Go.Deep
/-! ### Lists that are all right, and what each element gives -/
section
variable {α β : Type} {xs : List α} {x : α} {k m : Nat}
theorem all_no {f : α → Bool} (h : xs[k]? = some x) (hf : f x = false) : xs.all f = false := by
  rw [List.all_eq_false]
  exact ⟨x, List.mem_of_getElem? h, by simp [hf]⟩
theorem all_snoc {f : α → Bool} (h : xs[k]? = some x) (hq : (xs.take k).all f = true) (hf : f x = true) : (xs.take (k + 1)).all f = true := by
  rw [take_snoc h, List.all_append, hq]; simp [hf]
theorem fm_snoc (f : α → List β) (h : xs[k]? = some x) : (xs.take (k + 1)).flatMap f = (xs.take k).flatMap f ++ f x := by
  rw [take_snoc h, List.flatMap_append]; simp
theorem fm_len (f : α → List β) (hf : ∀ x, (f x).length ≤ m) (xs : List α) : (xs.flatMap f).length ≤ m * xs.length := by
  induction xs with
  | nil => simp
  | cons o xs ih => have := hf o; rw [List.flatMap_cons, List.length_append, List.length_cons, Nat.mul_succ]; omega
theorem fm_take (f : α → List β) (hf : ∀ x, (f x).length ≤ m) (xs : List α) (k : Nat) : ((xs.take k).flatMap f).length ≤ m * k :=
  Nat.le_trans (fm_len f hf _) (Nat.mul_le_mul_left _ (List.length_take_le _ _))
end
/-- What a list gives that is right throughout; nothing else gives anything. -/
def allR {α β : Type} (ok : α → Bool) (f : α → List β) (xs : List α) : List β := if xs.all ok = true then xs.flatMap f else []
theorem allR_no {α β : Type} {ok : α → Bool} {f : α → List β} {xs : List α} (h : xs.all ok = false) : allR ok f xs = [] := if_neg (by simp [h])
theorem allR_yes {α β : Type} {ok : α → Bool} {f : α → List β} {xs : List α} (h : xs.all ok = true) : allR ok f xs = xs.flatMap f := if_pos h
def AllE {α : Type} (T size : Nat) (cells : List α → List Value) (w : World) (ok : Bool) (r : List α) (e : Ending) (w' : World) : Prop := ∃ v, e = .returned (.tuple #[v, .bool ok]) ∧ w'.ownsRow w.heap.size T size v r.length (cells r) ∧ Ext w w'
theorem AllE.mk {α : Type} {T size : Nat} {cells : List α → List Value} {w w' : World} {v : Value} {ok b : Bool} {r xs : List α} (hb : ok = b) (hx : r = xs) (ho : w'.ownsRow w.heap.size T size v xs.length (cells xs)) (hw : Ext w w') : AllE T size cells w ok r (.returned (.tuple #[v, .bool b])) w' := by
  subst hb hx; exact ⟨v, rfl, ho, hw⟩

end Go.Proofs.Ytofbmkpfliofeab
/-
  Helper text (no claim of its own): routing by bridges, by the program and by the reference. Printed by gen_br.py.
-/
namespace Go.Proofs.Ytofbmkpfliofeab
open Go.ChangeShapes Go.WideShapes Go.ChangeAt Go.RowKit Go.Deep
set_option linter.unusedVariables false
/-- The gates in place of g. -/
def brG (x : Gr) (p : List Int) (g : Gt) : List Gt := if (ar g.k == 1) = true then [g1 g.k (loc p g.a)] else lr (spath x (loc p g.a) (loc p g.b))
theorem brG_1 {x : Gr} {p : List Int} {g : Gt} (h : (ar g.k == 1) = true) : brG x p g = [g1 g.k (loc p g.a)] := if_pos h
theorem brG_2 {x : Gr} {p : List Int} {g : Gt} (h : (ar g.k == 1) = false) : brG x p g = lr (spath x (loc p g.a) (loc p g.b)) := if_neg (by simp [h])
theorem brG_len (x : Gr) (p : List Int) (g : Gt) : (brG x p g).length ≤ 10 := by
  unfold brG
  split
  · simp
  · exact lr_len _
def mayR (x : Gr) (p : List Int) (g : Gt) : Bool := may g x p
def brOk (x : Gr) (p : List Int) (gs : List Gt) : Bool := lay x p && gs.all (mayR x p)
def brR (x : Gr) (p : List Int) (gs : List Gt) : List Gt := if brOk x p gs = true then gs.flatMap (brG x p) else []
theorem brR_no {x : Gr} {p : List Int} {gs : List Gt} (h : brOk x p gs = false) : brR x p gs = [] := if_neg (by simp [h])
theorem brR_yes {x : Gr} {p : List Int} {gs : List Gt} (h : brOk x p gs = true) : brR x p gs = gs.flatMap (brG x p) := if_pos h
theorem brOk_l {x : Gr} {p : List Int} {gs : List Gt} (h : lay x p = false) : brOk x p gs = false := by unfold brOk; rw [h]; rfl
theorem brOk_n {x : Gr} {p : List Int} {gs : List Gt} (h : gs.all (mayR x p) = false) : brOk x p gs = false := by unfold brOk; rw [h]; simp
theorem brOk_y {x : Gr} {p : List Int} {gs : List Gt} (h : lay x p = true) (h' : gs.all (mayR x p) = true) : brOk x p gs = true := by unfold brOk; rw [h, h']; rfl
theorem lay_n {x : Gr} {p : List Int} (h : lay x p = true) : x.n = (p.length : Int) ∧ p.length ≤ 4 ∧ perm p = true := by
  unfold lay at h
  simp only [Bool.and_eq_true, beq_iff_eq] at h
  exact ⟨h.2.symm, (perm_le h.1.2).2, h.1.2⟩

set_option maxRecDepth 100000 in
set_option maxHeartbeats 16000000 in
theorem impl_BridgeRoute_any (A : Option Addr) (n c : Nat) (gs : List Gt) (v : Value) (x : Gr) (Ap : Option Addr) (np cp : Nat) (p : List Int) (w : World) (h : Rd w w.heap.size 4 A n (gcells gs)) (hn : n ≤ 1048576) (hv : GrAt w w.heap.size v x) (hl : x.es.length ≤ 100000000) (hok : ∀ e ∈ x.es, e.ok) (hp : Rd w w.heap.size 1 Ap np (icells p)) (hnp : np ≤ 100000000) (hcp : np ≤ cp) :
    Calls Try.prog 6 #[.slice A n c, v, .slice Ap np cp] w (AllE 43 4 gcells w (brOk x p gs) (brR x p gs)) := by
  have hlen := Lib.hid (h.len Gt.cells_len (by omega))
  have hlp := Lib.hid (hp.len icell_len (by omega))
  obtain ⟨A1, c1, rfl, h1⟩ := hv
  have HG : Hid (∀ w', Ext w w' → GrAt w' w'.heap.size (.agg #[.int .i64 x.n, .slice A1 x.es.length c1]) x) := fun w' hx => ⟨A1, c1, rfl, h1.ext hx⟩
  have HOK := Lib.hid hok
  clear hok
  clear h1
  have hB0 : Blk (w.alloc (.cells #[.int .i64 x.n, .slice A1 x.es.length c1] 27)) w.heap.size 27 #[.int .i64 x.n, .slice A1 x.es.length c1] := Blk.new _ _ _
  have hX0 : Ext w (w.alloc (.cells #[.int .i64 x.n, .slice A1 x.es.length c1] 27)) := by repeat (first | exact Ext.refl _ | assumption | refine Ext.alloc ?_ _ | refine Ext.drewN ?_ _ | refine Ext.drew ?_)
  have HB0 := Lib.hid hB0
  have HX0 := Lib.hid hX0
  clear hB0 hX0
  go_enter Try.func6, Try.ntmps6
  go_upto_region 1 with (fail)
  have hB0 := HB0.out
  have hX0 := HX0.out
  clear HB0 HX0
  generalize (w.alloc (.cells #[.int .i64 x.n, .slice A1 x.es.length c1] 27)) = Wb at *
  have d0 : Wb.cell? ⟨w.heap.size, 0, none⟩ = some (.int .i64 x.n) := hB0.cell 0
  have d1 : Wb.cell? ⟨w.heap.size, 1, none⟩ = some (.slice A1 x.es.length c1) := hB0.cell 1
  go_wp2_with fail
  refine (impl_isLayout_any _ x Ap np cp p _ (HG.out _ hX0) hl HOK.out (hp.ext hX0) hnp).mono ?_
  rintro e w2 ⟨rfl, hx1⟩
  clear d0 d1
  cases hlay : lay x p
  · have HO := Lib.hid (brOk_l (gs := gs) hlay)
    go_wp2
    go_ret2
    exact AllE.mk HO.out (brR_no HO.out) (World.ownsRow_nil _ _ _ _) (hX0.trans hx1)
  have HLAY := Lib.hid hlay
  clear hlay
  go_wp2
  have ho0 : (w2.alloc (.cells #[] 43)).ownsRow Wb.heap.size 43 4 (.slice (some ⟨w2.heap.size, 0, none⟩) 0 0) 0 (gcells []) := own_lit hx1 _ _ 4 0 #[] _ rfl rfl rfl (by omega)
  replace hx1 := hx1.alloc (.cells #[] 43)
  have HO0 := Lib.hid ho0
  have HX1 := Lib.hid hx1
  clear ho0 hx1
  go_loopw [8, 18] (fun v i wr => ∃ (k : Nat) (Ao : Option Addr) (m co : Nat), k ≤ n ∧ i = .int .i64 k ∧ v = .slice Ao m co ∧ Hid (m = ((gs.take k).flatMap (brG x p)).length) ∧ Hid ((gs.take k).all (mayR x p) = true) ∧ wr.ownsRow Wb.heap.size 43 4 (.slice Ao m co) m (gcells ((gs.take k).flatMap (brG x p))) ∧ Ext Wb wr) (fun _ i _ => n - (intOf i).toNat)
  case atStart => exact ⟨0, _, 0, _, Nat.zero_le _, rfl, rfl, rfl, Lib.hid (by simp), HO0.out, HX1.out⟩
  case round =>
    clear HO0 HX1
    obtain ⟨k, Ao, m, co, hk, rfl, rfl, HM, HQ, ho, hx⟩ := hrel
    by_cases hlt : k < n
    · obtain ⟨b, o, g, rfl, hb, hg, r0, r1, r2, r3⟩ := gate_at (h.ext (hX0.trans hx)) hlt
      have HGA := Lib.hid hg
      clear hg
      have hf := fm_take (brG x p) (brG_len x p) gs k
      rw [← HM.out] at hf
      have d0 : wr.cell? ⟨w.heap.size, 0, none⟩ = some (.int .i64 x.n) := (hB0.ext hx).cell 0
      have d1 : wr.cell? ⟨w.heap.size, 1, none⟩ = some (.slice A1 x.es.length c1) := (hB0.ext hx).cell 1
      have hzb := hB0.lt
      have hzx := (hB0.ext hx).lt
      go_wp2_with fail
      have hs0 : Blk (wr.alloc (.cells #[.int .i64 g.k, .int .i64 g.a, .int .i64 g.b, .int .i64 g.c] 43)) wr.heap.size 43 #[.int .i64 g.k, .int .i64 g.a, .int .i64 g.b, .int .i64 g.c] := Blk.new _ _ _
      have hxs : Ext wr (wr.alloc (.cells #[.int .i64 g.k, .int .i64 g.a, .int .i64 g.b, .int .i64 g.c] 43)) := (Ext.refl _).alloc _
      have hlo := ho.lt
      have HLO := Lib.hid hlo
      clear hlo
      refine (impl_mayRoute_any g _ x Ap np cp p _ (HG.out _ (hX0.trans (hx.trans hxs))) hl HOK.out (hp.ext (hX0.trans (hx.trans hxs))) hnp).mono ?_
      rintro e w2 ⟨rfl, hy2⟩
      have hxw2 : Ext wr w2 := hxs.trans hy2
      have hs2 := hs0.ext hy2
      have ho2 := own_ext ho hxw2
      have hx2 := hx.trans hxw2
      obtain ⟨s, hs⟩ : ∃ s, s = wr.heap.size := ⟨_, rfl⟩
      rw [← hs] at hs2 HLO ⊢
      clear r0 r1 r2 r3 d0 d1 hs0 hxs hy2 hs
      cases hm : may g x p
      · have HO := Lib.hid (brOk_n (all_no HGA.out (f := mayR x p) hm))
        go_wp2
        go_ret2
        exact AllE.mk HO.out (brR_no HO.out) (World.ownsRow_nil _ _ _ _) (hX0.trans hx2)
      have HQ2 := Lib.hid (all_snoc HGA.out HQ.out (f := mayR x p) hm)
      have HSN := Lib.hid (fm_snoc (brG x p) HGA.out)
      obtain ⟨ia, y, hga, hia, hy, hlo, hp4, _⟩ := loc_at hm
      have hpn := hlp.out
      have hian : ia < np := by omega
      have hi0 : (0 : Int) ≤ (ia : Int) := by omega
      have hin : (ia : Int) < (np : Int) := by omega
      have hle2 := ho2.lt
      have HLE2 := Lib.hid hle2
      clear hle2
      cases h1 : (ar g.k == 1)
      case true =>
        have HBG := Lib.hid ((brG_1 (x := x) (p := p) h1).trans (by rw [hlo]))
        obtain ⟨bl, ol, y', rfl, hbl, hy', q0⟩ := int_at hp hian
        have hyy : y' = y := by rw [hy] at hy'; injection hy' with hy'; exact hy'.symm
        subst hyy
        have HK : Hid (∀ w', Ext Wb w' → Blk w' s 43 #[.int .i64 g.k, .int .i64 g.a, .int .i64 g.b, .int .i64 g.c] → w'.cell? ⟨s, 0, none⟩ = some (.int .i64 g.k) ∧ w'.cell? ⟨s, 1, none⟩ = some (.int .i64 (ia : Int)) ∧ w'.cell? ⟨bl, ol + ia, none⟩ = some (.int .i64 y')) := fun w' z q => ⟨q.cell 0, by rw [← hga]; exact q.cell 1, ((hX0.trans z).cell (p := ⟨bl, ol + ia, none⟩) hbl).trans q0⟩
        have HS2 := Lib.hid hs2
        clear hy hy' hlo hpn hm hga
        obtain ⟨k0, k1, k2⟩ := HK.out w2 hx2 HS2.out
        go_wp2_with fail
        refine (impl_Arity_any _ _).mono ?_
        rintro e w3 ⟨rfl, rfl⟩
        go_wp2
        have hz0 := Ext.refl w2
        first | go_region_held3 (fun w' => w'.cell? ⟨s, 0, none⟩ = some (.int .i64 g.k) ∧ w'.cell? ⟨s, 1, none⟩ = some (.int .i64 (ia : Int)) ∧ w'.cell? ⟨bl, ol + ia, none⟩ = some (.int .i64 y'))
          (first | (refine HK.out _ ?_ ?_ <;> assumption) | exact HK.out _ (hx2.drew) (HS2.out.ext (Ext.refl w2).drew) | exact HK.out _ (hx2.trans hz0) (HS2.out.ext hz0) | go_keep | exact HK.out _ (hx2.trans (hz0.alloc _)) (HS2.out.ext (hz0.alloc _)))
          (first
            | (go_at_call 16; (with_reducible refine (impl_one_any (w0 := w2) _ _ _ (by repeat (first | exact Ext.refl _ | assumption | refine Ext.alloc ?_ _ | refine Ext.drewN ?_ _ | refine Ext.drew ?_))).mono ?_); clear hz0; rintro e w' ⟨rfl, hz0⟩)
            | (refine stepG1 (B := Wb.heap.size) (by rfl) _ _ (by rfl) _ m _ (by rfl) (own_ext ho2 hz0) (Nat.le_trans hx2.size hz0.size) (g1 g.k y') _ _ (by rfl) (by rfl) (by omega) ?_; intro A4 c4 w4 ho4 hg4 hb4; have hx4 : Ext Wb w4 := (hx2.trans hz0).grown hg4 (fun k hk => (HLE2.out k hk).1); have hs4 := (HS2.out.ext hz0).grown hg4 (fun k hk => by have := HLO.out k hk; omega))) | fail
        all_goals
          clear k0 k1 k2
          go_wp2
          go_roundw
          case rel => exact ⟨k + 1, A4, m + 1, c4, by omega, by go_num, rfl, by unfold Hid; rw [HSN.out, HBG.out, List.length_append, ← HM.out]; rfl, HQ2, by rw [HSN.out, HBG.out]; exact ho4, hx4⟩
          case measure => simp [intOf]; omega
      obtain ⟨ja, jb, hja, hjb, _, hW⟩ := OnWay.of hm h1
      obtain ⟨y1, hy1, ly1, _, _⟩ := hW.at_ hW.ha
      obtain ⟨z1, hz1, lz1, _, _⟩ := hW.at_ hW.hb
      have hjan : ja < np := by have := hW.ha; omega
      have hjbn : jb < np := by have := hW.hb; omega
      have HBG := Lib.hid ((brG_2 (x := x) (p := p) h1).trans (by rw [hja, hjb, ly1, lz1]))
      obtain ⟨bl, ol, rfl, hbl, q0, q1⟩ := two_at hp hjan hjbn hy1 hz1
      have HK : Hid (∀ w', Ext Wb w' → Blk w' s 43 #[.int .i64 g.k, .int .i64 g.a, .int .i64 g.b, .int .i64 g.c] → w'.cell? ⟨w.heap.size, 0, none⟩ = some (.int .i64 x.n) ∧ w'.cell? ⟨w.heap.size, 1, none⟩ = some (.slice A1 x.es.length c1) ∧ w'.cell? ⟨s, 1, none⟩ = some (.int .i64 (ja : Int)) ∧ w'.cell? ⟨s, 2, none⟩ = some (.int .i64 (jb : Int)) ∧ w'.cell? ⟨bl, ol + ja, none⟩ = some (.int .i64 y1) ∧ w'.cell? ⟨bl, ol + jb, none⟩ = some (.int .i64 z1)) := fun w' z q => ⟨(hB0.ext z).cell 0, (hB0.ext z).cell 1, by rw [← hja]; exact q.cell 1, by rw [← hjb]; exact q.cell 2, ((hX0.trans z).cell (p := ⟨bl, ol + ja, none⟩) hbl).trans q0, ((hX0.trans z).cell (p := ⟨bl, ol + jb, none⟩) hbl).trans q1⟩
      have HS2 := Lib.hid hs2
      have HS0 : Hid (w2.cell? ⟨s, 0, none⟩ = some (.int .i64 g.k)) := hs2.cell 0
      have hll := lr_len (spath x y1 z1)
      have hpl := spath_len x y1 z1
      have hj0 : (0 : Int) ≤ (ja : Int) := by omega
      have hj1 : (ja : Int) < (np : Int) := by omega
      have hj2 : (0 : Int) ≤ (jb : Int) := by omega
      have hj3 : (jb : Int) < (np : Int) := by omega
      clear hy hlo hpn hm hga hja hjb hy1 hz1 ly1 lz1 hW hs2
      have k9 := HS0.out
      go_wp2_with fail
      refine (impl_Arity_any _ _).mono ?_
      rintro e w3 ⟨rfl, rfl⟩
      go_wp2
      clear k9
      obtain ⟨k0, k1, k2, k3, k4, k5⟩ := HK.out w2 hx2 HS2.out
      first | go_region_held3 (fun w' => w'.cell? ⟨w.heap.size, 0, none⟩ = some (.int .i64 x.n) ∧ w'.cell? ⟨w.heap.size, 1, none⟩ = some (.slice A1 x.es.length c1) ∧ w'.cell? ⟨s, 1, none⟩ = some (.int .i64 (ja : Int)) ∧ w'.cell? ⟨s, 2, none⟩ = some (.int .i64 (jb : Int)) ∧ w'.cell? ⟨bl, ol + ja, none⟩ = some (.int .i64 y1) ∧ w'.cell? ⟨bl, ol + jb, none⟩ = some (.int .i64 z1))
        (first | (refine HK.out _ ?_ ?_ <;> assumption) | exact HK.out _ (hx2.drew) (HS2.out.ext (Ext.refl w2).drew) | go_keep)
        (first
          | (go_at_call 18; refine (impl_ShortestPath_any _ x y1 z1 _ (HG.out _ (hX0.trans hx2.drew)) hl).mono ?_; rintro e w3 ⟨Aw, lw, cw, rfl, hlw', how', hy3⟩; have HLW := Lib.hid hlw'; have HOW := Lib.hid how'; clear hlw' how'; replace hy3 : Ext w2 w3 := Ext.trans (Ext.refl w2).drew hy3; have hx3 : Ext Wb w3 := hx2.trans hy3; have hs3 := HS2.out.ext hy3)
          | (go_at_call 17; refine (impl_LongRangeCX_any lw Aw cw (spath x y1 z1) _ (by rw [HLW.out]; omega) (Rd.own HOW.out) (own_le HOW.out)).mono ?_; rintro e w4 ⟨v4, rfl, ho4, hy4⟩; have hq4 : Ext w2 w4 := hy3.trans hy4; obtain ⟨A4, c4, rfl, hr4⟩ := own_slice ho4; have hx4 : Ext Wb w4 := hx2.trans hq4; have hs4 := HS2.out.ext hq4)
          | (refine stepGateS (w0 := Wb) (by rfl) _ _ (by rfl) _ m _ (by rfl) (own_ext ho2 hq4) hx4 A4 _ c4 (lr (spath x y1 z1)) (by rfl) hr4 (by omega) ?_; intro v5 w5 ho5 hx5 hg5 hb5; have hs5 := hs4.grown hg5 (fun k hk => by have := HLO.out k hk; omega))) | fail
      all_goals
        clear k0 k1 k2 k3 k4 k5
        obtain ⟨A5, c5, rfl, _⟩ := own_slice ho5
        go_wp2
        go_roundw
        case rel => exact ⟨k + 1, A5, m + (lr (spath x y1 z1)).length, c5, by omega, by go_num, rfl, by unfold Hid; rw [HSN.out, HBG.out, List.length_append, ← HM.out], HQ2, by rw [HSN.out, HBG.out]; exact ho5, hx5⟩
        case measure => simp [intOf]; omega
    · rw [List.take_of_length_le (by rw [hlen.out]; omega)] at ho HQ HM
      have HO := Lib.hid (brOk_y HLAY.out HQ.out)
      go_wp2
      go_ret2
      exact AllE.mk HO.out (brR_yes HO.out) (by rw [← HM.out]; exact own_base ho hX0.size) (hX0.trans hx)

set_option maxRecDepth 100000 in
set_option maxHeartbeats 16000000 in
theorem spec_BridgeRoute_any (A : Option Addr) (n c : Nat) (gs : List Gt) (v : Value) (x : Gr) (Ap : Option Addr) (np cp : Nat) (p : List Int) (w : World) (h : Rd w w.heap.size 4 A n (gcells gs)) (hn : n ≤ 1048576) (hv : GrAt w w.heap.size v x) (hl : x.es.length ≤ 100000000) (hp : Rd w w.heap.size 1 Ap np (icells p)) (hnp : np ≤ 100000000) (hcp : np ≤ cp) :
    Calls Try.prog 7 #[.slice A n c, v, .slice Ap np cp] w (AllE 43 4 gcells w (brOk x p gs) (brR x p gs)) := by
  have hlen := Lib.hid (h.len Gt.cells_len (by omega))
  have hlp := Lib.hid (hp.len icell_len (by omega))
  obtain ⟨A1, c1, rfl, h1⟩ := hv
  have HG : Hid (∀ w', Ext w w' → GrAt w' w'.heap.size (.agg #[.int .i64 x.n, .slice A1 x.es.length c1]) x) := fun w' hx => ⟨A1, c1, rfl, h1.ext hx⟩
  clear h1
  have hB0 : Blk (w.alloc (.cells #[.int .i64 x.n, .slice A1 x.es.length c1] 27)) w.heap.size 27 #[.int .i64 x.n, .slice A1 x.es.length c1] := Blk.new _ _ _
  have hX0 : Ext w (w.alloc (.cells #[.int .i64 x.n, .slice A1 x.es.length c1] 27)) := by repeat (first | exact Ext.refl _ | assumption | refine Ext.alloc ?_ _ | refine Ext.drewN ?_ _ | refine Ext.drew ?_)
  have HB0 := Lib.hid hB0
  have HX0 := Lib.hid hX0
  clear hB0 hX0
  go_enter Try.func7, Try.ntmps7
  go_upto_region 1 with (fail)
  have hB0 := HB0.out
  have hX0 := HX0.out
  clear HB0 HX0
  generalize (w.alloc (.cells #[.int .i64 x.n, .slice A1 x.es.length c1] 27)) = Wb at *
  go_upto_region 2 with (fail)
  have ho0 : (Wb.alloc (.cells #[] 43)).ownsRow Wb.heap.size 43 4 (.slice (some ⟨Wb.heap.size, 0, none⟩) 0 0) 0 (gcells []) := own_lit (Ext.refl _) _ _ 4 0 #[] _ rfl rfl rfl (by omega)
  have hx1 : Ext Wb (Wb.alloc (.cells #[] 43)) := (Ext.refl _).alloc _
  generalize (Wb.alloc (.cells #[] 43)) = W1 at *
  have d0 : W1.cell? ⟨w.heap.size, 0, none⟩ = some (.int .i64 x.n) := (hB0.ext hx1).cell 0
  have d1 : W1.cell? ⟨w.heap.size, 1, none⟩ = some (.slice A1 x.es.length c1) := (hB0.ext hx1).cell 1
  go_wp2_with fail
  refine (spec_IsValidGraph_any _ x _ (HG.out _ (hX0.trans hx1)) hl).mono ?_
  rintro e w2 ⟨rfl, hx2⟩
  replace hx1 := hx1.trans hx2
  replace ho0 := own_ext ho0 hx2
  clear d0 d1 hx2
  have htok := True.intro
  cases hvg : vgraph x
  · have HO := Lib.hid (brOk_l (gs := gs) (lay_v (p := p) hvg))
    go_wp2
    go_ret2
    exact AllE.mk HO.out (brR_no HO.out) (own_base ho0 hX0.size) (hX0.trans hx1)
  go_wp2_with fail
  refine (spec_IsPermutation_any Ap np cp p _ (hp.ext (hX0.trans hx1)) hnp hcp).mono ?_
  rintro e w3 ⟨rfl, hx3⟩
  replace hx1 := hx1.trans hx3
  replace ho0 := own_ext ho0 hx3
  clear hx3
  cases hpp : perm p
  · have HO := Lib.hid (brOk_l (gs := gs) (lay_p (x := x) hpp))
    go_wp2
    go_ret2
    exact AllE.mk HO.out (brR_no HO.out) (own_base ho0 hX0.size) (hX0.trans hx1)
  have HLE := Lib.hid (lay_e hvg hpp)
  clear hvg hpp
  have d0 : w3.cell? ⟨w.heap.size, 0, none⟩ = some (.int .i64 x.n) := (hB0.ext hx1).cell 0
  cases hne : ((np : Int) == x.n)
  · have hne' : ((np : Int) != x.n) = true := by simp [bne, hne]
    have HO := Lib.hid (brOk_l (gs := gs) (HLE.out.trans (by rw [hlp.out]; exact hne)))
    go_wp2
    go_ret2
    exact AllE.mk HO.out (brR_no HO.out) (own_base ho0 hX0.size) (hX0.trans hx1)
  have hne' : ((np : Int) != x.n) = false := by simp [bne, hne]
  have HLAY : Hid (lay x p = true) := HLE.out.trans (by rw [hlp.out]; exact hne)
  go_wp2
  clear d0 hne hne' htok
  have HO0 := Lib.hid ho0
  have HX1 := Lib.hid hx1
  clear ho0 hx1
  go_loopw [8, 9] (fun v i wr => ∃ (k : Nat) (Ao : Option Addr) (m co : Nat), k ≤ n ∧ i = .int .i64 k ∧ v = .slice Ao m co ∧ Hid (m = ((gs.take k).flatMap (brG x p)).length) ∧ Hid ((gs.take k).all (mayR x p) = true) ∧ wr.ownsRow Wb.heap.size 43 4 (.slice Ao m co) m (gcells ((gs.take k).flatMap (brG x p))) ∧ Ext Wb wr) (fun _ i _ => n - (intOf i).toNat)
  case atStart => exact ⟨0, _, 0, _, Nat.zero_le _, rfl, rfl, rfl, Lib.hid (by simp), HO0.out, HX1.out⟩
  case round =>
    clear HO0 HX1
    obtain ⟨k, Ao, m, co, hk, rfl, rfl, HM, HQ, ho, hx⟩ := hrel
    by_cases hlt : k < n
    · obtain ⟨b, o, g, rfl, hb, hg, r0, r1, r2, r3⟩ := gate_at (h.ext (hX0.trans hx)) hlt
      have HGA := Lib.hid hg
      clear hg
      have hf := fm_take (brG x p) (brG_len x p) gs k
      rw [← HM.out] at hf
      have d0 : wr.cell? ⟨w.heap.size, 0, none⟩ = some (.int .i64 x.n) := (hB0.ext hx).cell 0
      have d1 : wr.cell? ⟨w.heap.size, 1, none⟩ = some (.slice A1 x.es.length c1) := (hB0.ext hx).cell 1
      have hzb := hB0.lt
      have hzx := (hB0.ext hx).lt
      go_wp2_with fail
      have hs0 : Blk (wr.alloc (.cells #[.int .i64 g.k, .int .i64 g.a, .int .i64 g.b, .int .i64 g.c] 43)) wr.heap.size 43 #[.int .i64 g.k, .int .i64 g.a, .int .i64 g.b, .int .i64 g.c] := Blk.new _ _ _
      have hxs : Ext wr (wr.alloc (.cells #[.int .i64 g.k, .int .i64 g.a, .int .i64 g.b, .int .i64 g.c] 43)) := (Ext.refl _).alloc _
      have hlo := ho.lt
      have HLO := Lib.hid hlo
      clear hlo
      refine (spec_l38Right_any g _ x Ap np cp p _ (HG.out _ (hX0.trans (hx.trans hxs))) hl (hp.ext (hX0.trans (hx.trans hxs))) hnp hcp).mono ?_
      rintro e w2 ⟨rfl, hy2⟩
      have hxw2 : Ext wr w2 := hxs.trans hy2
      have hs2 := hs0.ext hy2
      have ho2 := own_ext ho hxw2
      have hx2 := hx.trans hxw2
      obtain ⟨s, hs⟩ : ∃ s, s = wr.heap.size := ⟨_, rfl⟩
      rw [← hs] at hs2 HLO ⊢
      clear r0 r1 r2 r3 d0 d1 hs0 hxs hy2 hs
      cases hm : may g x p
      · have HO := Lib.hid (brOk_n (all_no HGA.out (f := mayR x p) hm))
        go_wp2
        go_ret2
        exact AllE.mk HO.out (brR_no HO.out) (own_lit (hX0.trans hx2) _ _ 4 0 #[] _ rfl rfl rfl (by omega)) ((hX0.trans hx2).alloc _)
      have HQ2 := Lib.hid (all_snoc HGA.out HQ.out (f := mayR x p) hm)
      have HSN := Lib.hid (fm_snoc (brG x p) HGA.out)
      obtain ⟨ia, y, hga, hia, hy, hlo, hp4, _⟩ := loc_at hm
      have hpn := hlp.out
      have hian : ia < np := by omega
      have hi0 : (0 : Int) ≤ (ia : Int) := by omega
      have hin : (ia : Int) < (np : Int) := by omega
      have hle2 := ho2.lt
      have HLE2 := Lib.hid hle2
      clear hle2
      cases h1 : (ar g.k == 1)
      case true =>
        have HBG := Lib.hid ((brG_1 (x := x) (p := p) h1).trans (by rw [hlo]))
        have h9 : (g.k == 9) = false := by cases hq : (g.k == 9) with | false => rfl | true => (rw [beq_iff_eq] at hq; rw [hq] at h1; cases h1)
        obtain ⟨bl, ol, y', rfl, hbl, hy', q0⟩ := int_at hp hian
        have hyy : y' = y := by rw [hy] at hy'; injection hy' with hy'; exact hy'.symm
        subst hyy
        have HK : Hid (∀ w', Ext Wb w' → Blk w' s 43 #[.int .i64 g.k, .int .i64 g.a, .int .i64 g.b, .int .i64 g.c] → w'.cell? ⟨s, 0, none⟩ = some (.int .i64 g.k) ∧ w'.cell? ⟨s, 1, none⟩ = some (.int .i64 (ia : Int)) ∧ w'.cell? ⟨bl, ol + ia, none⟩ = some (.int .i64 y')) := fun w' z q => ⟨q.cell 0, by rw [← hga]; exact q.cell 1, ((hX0.trans z).cell (p := ⟨bl, ol + ia, none⟩) hbl).trans q0⟩
        have HS2 := Lib.hid hs2
        clear hy hy' hlo hpn hm hga
        obtain ⟨k0, k1, k2⟩ := HK.out w2 hx2 HS2.out
        go_wp2
        have hz0 := Ext.refl w2
        first | go_region_held3 (fun w' => w'.cell? ⟨s, 0, none⟩ = some (.int .i64 g.k) ∧ w'.cell? ⟨s, 1, none⟩ = some (.int .i64 (ia : Int)) ∧ w'.cell? ⟨bl, ol + ia, none⟩ = some (.int .i64 y'))
          (first | (refine HK.out _ ?_ ?_ <;> assumption) | exact HK.out _ (hx2.drew) (HS2.out.ext (Ext.refl w2).drew) | exact HK.out _ (hx2.trans hz0) (HS2.out.ext hz0) | go_keep | exact HK.out _ (hx2.trans (hz0.alloc _)) (HS2.out.ext (hz0.alloc _)))
          (first
            | (go_at_call 24; (with_reducible refine (spec_one_any (w0 := w2) _ _ _ (by repeat (first | exact Ext.refl _ | assumption | refine Ext.alloc ?_ _ | refine Ext.drewN ?_ _ | refine Ext.drew ?_))).mono ?_); clear hz0; rintro e w' ⟨rfl, hz0⟩)
            | (refine stepG1 (B := Wb.heap.size) (by rfl) _ _ (by rfl) _ m _ (by rfl) (own_ext ho2 hz0) (Nat.le_trans hx2.size hz0.size) (g1 g.k y') _ _ (by rfl) (by rfl) (by omega) ?_; intro A4 c4 w4 ho4 hg4 hb4; have hx4 : Ext Wb w4 := (hx2.trans hz0).grown hg4 (fun k hk => (HLE2.out k hk).1); have hs4 := (HS2.out.ext hz0).grown hg4 (fun k hk => by have := HLO.out k hk; omega))) | fail
        all_goals
          clear k0 k1 k2
          go_wp2
          go_roundw
          case rel => exact ⟨k + 1, A4, m + 1, c4, by omega, by go_num, rfl, by unfold Hid; rw [HSN.out, HBG.out, List.length_append, ← HM.out]; rfl, HQ2, by rw [HSN.out, HBG.out]; exact ho4, hx4⟩
          case measure => simp [intOf]; omega
      obtain ⟨ja, jb, hja, hjb, _, hW⟩ := OnWay.of hm h1
      obtain ⟨y1, hy1, ly1, _, _⟩ := hW.at_ hW.ha
      obtain ⟨z1, hz1, lz1, _, _⟩ := hW.at_ hW.hb
      have hjan : ja < np := by have := hW.ha; omega
      have hjbn : jb < np := by have := hW.hb; omega
      have HBG := Lib.hid ((brG_2 (x := x) (p := p) h1).trans (by rw [hja, hjb, ly1, lz1]))
      have h9 : (g.k == 9) = true := by (have hbb : bas g = true := by { unfold may at hm; simp only [Bool.and_eq_true] at hm; exact hm.1.2 }); unfold bas at hbb; rw [h1, Bool.false_or] at hbb; exact hbb
      obtain ⟨bl, ol, rfl, hbl, q0, q1⟩ := two_at hp hjan hjbn hy1 hz1
      have HK : Hid (∀ w', Ext Wb w' → Blk w' s 43 #[.int .i64 g.k, .int .i64 g.a, .int .i64 g.b, .int .i64 g.c] → w'.cell? ⟨w.heap.size, 0, none⟩ = some (.int .i64 x.n) ∧ w'.cell? ⟨w.heap.size, 1, none⟩ = some (.slice A1 x.es.length c1) ∧ w'.cell? ⟨s, 1, none⟩ = some (.int .i64 (ja : Int)) ∧ w'.cell? ⟨s, 2, none⟩ = some (.int .i64 (jb : Int)) ∧ w'.cell? ⟨bl, ol + ja, none⟩ = some (.int .i64 y1) ∧ w'.cell? ⟨bl, ol + jb, none⟩ = some (.int .i64 z1)) := fun w' z q => ⟨(hB0.ext z).cell 0, (hB0.ext z).cell 1, by rw [← hja]; exact q.cell 1, by rw [← hjb]; exact q.cell 2, ((hX0.trans z).cell (p := ⟨bl, ol + ja, none⟩) hbl).trans q0, ((hX0.trans z).cell (p := ⟨bl, ol + jb, none⟩) hbl).trans q1⟩
      have HS2 := Lib.hid hs2
      have HS0 : Hid (w2.cell? ⟨s, 0, none⟩ = some (.int .i64 g.k)) := hs2.cell 0
      have hll := lr_len (spath x y1 z1)
      have hpl := spath_len x y1 z1
      have hj0 : (0 : Int) ≤ (ja : Int) := by omega
      have hj1 : (ja : Int) < (np : Int) := by omega
      have hj2 : (0 : Int) ≤ (jb : Int) := by omega
      have hj3 : (jb : Int) < (np : Int) := by omega
      clear hy hlo hpn hm hga hja hjb hy1 hz1 ly1 lz1 hW hs2
      have k9 := HS0.out
      go_wp2
      clear k9
      obtain ⟨k0, k1, k2, k3, k4, k5⟩ := HK.out w2 hx2 HS2.out
      first | go_region_held3 (fun w' => w'.cell? ⟨w.heap.size, 0, none⟩ = some (.int .i64 x.n) ∧ w'.cell? ⟨w.heap.size, 1, none⟩ = some (.slice A1 x.es.length c1) ∧ w'.cell? ⟨s, 1, none⟩ = some (.int .i64 (ja : Int)) ∧ w'.cell? ⟨s, 2, none⟩ = some (.int .i64 (jb : Int)) ∧ w'.cell? ⟨bl, ol + ja, none⟩ = some (.int .i64 y1) ∧ w'.cell? ⟨bl, ol + jb, none⟩ = some (.int .i64 z1))
        (first | (refine HK.out _ ?_ ?_ <;> assumption) | exact HK.out _ (hx2.drew) (HS2.out.ext (Ext.refl w2).drew) | go_keep)
        (first
          | (go_at_call 23; refine (spec_ShortestPath_any _ x y1 z1 _ (HG.out _ (hX0.trans hx2.drew)) hl).mono ?_; rintro e w3 ⟨Aw, lw, cw, rfl, hlw', how', hy3⟩; have HLW := Lib.hid hlw'; have HOW := Lib.hid how'; clear hlw' how'; replace hy3 : Ext w2 w3 := Ext.trans (Ext.refl w2).drew hy3; have hx3 : Ext Wb w3 := hx2.trans hy3; have hs3 := HS2.out.ext hy3)
          | (go_at_call 22; refine (spec_LongRangeCX_any lw Aw cw (spath x y1 z1) _ (by rw [HLW.out]; omega) (Rd.own HOW.out) (own_le HOW.out)).mono ?_; rintro e w4 ⟨v4, rfl, ho4, hy4⟩; have hq4 : Ext w2 w4 := hy3.trans hy4; obtain ⟨A4, c4, rfl, hr4⟩ := own_slice ho4; have hx4 : Ext Wb w4 := hx2.trans hq4; have hs4 := HS2.out.ext hq4)
          | (refine stepGateS (w0 := Wb) (by rfl) _ _ (by rfl) _ m _ (by rfl) (own_ext ho2 hq4) hx4 A4 _ c4 (lr (spath x y1 z1)) (by rfl) hr4 (by omega) ?_; intro v5 w5 ho5 hx5 hg5 hb5; have hs5 := hs4.grown hg5 (fun k hk => by have := HLO.out k hk; omega))) | fail
      all_goals
        clear k0 k1 k2 k3 k4 k5
        obtain ⟨A5, c5, rfl, _⟩ := own_slice ho5
        go_wp2
        go_roundw
        case rel => exact ⟨k + 1, A5, m + (lr (spath x y1 z1)).length, c5, by omega, by go_num, rfl, by unfold Hid; rw [HSN.out, HBG.out, List.length_append, ← HM.out], HQ2, by rw [HSN.out, HBG.out]; exact ho5, hx5⟩
        case measure => simp [intOf]; omega
    · rw [List.take_of_length_le (by rw [hlen.out]; omega)] at ho HQ HM
      have HO := Lib.hid (brOk_y HLAY.out HQ.out)
      go_wp2
      go_ret2
      exact AllE.mk HO.out (brR_yes HO.out) (by rw [← HM.out]; exact own_base ho hX0.size) (hX0.trans hx)
end Go.Proofs.Ytofbmkpfliofeab
/-
  Helper text (no claim of its own): adjoint ops, by the program and by the reference. Printed by gen_adj.py.
-/
namespace Go.Proofs.Ytofbmkpfliofeab
open Go.ChangeShapes Go.WideShapes Go.ChangeAt Go.RowKit Go.Deep
set_option linter.unusedVariables false
set_option linter.unusedSimpArgs false
theorem Try.sizeGateR : (Try.prog.info? 43).map (·.size) = some 4 := by kernel_rfl
theorem retG {fn : Func} {p : Tmp} (hf : fn.results = #[.cell p 43]) {W : World} {q : Nat} {cs : Array Value} (hB : Blk W q 43 cs) (tmps : Array Value)
    (hp : tmps.getD p undef = .pointer (some ⟨q, 0, none⟩)) (hs : cs.size = 4) : (results fn tmps).run Try.prog W = .ok (.agg cs) W :=
  results_cell_row hf tmps _ q 43 _ (0, 0) _ hp hB Try.underlying43 rfl (by rw [hs]; exact Try.sizeGateR)
theorem invG_other {k a b c : Int} (h5 : k ≠ 5) (h6 : k ≠ 6) (h7 : k ≠ 7) (h8 : k ≠ 8) : invG ⟨k, a, b, c⟩ = ⟨k, a, b, c⟩ := by unfold invG; simp only [if_neg h5, if_neg h6, if_neg h7, if_neg h8]
theorem invG_inv (g : Gt) : invG (invG g) = g := by
  obtain ⟨k, a, b, c⟩ := g
  by_cases h5 : k = 5
  · subst h5; rfl
  by_cases h6 : k = 6
  · subst h6; rfl
  by_cases h7 : k = 7
  · subst h7; rfl
  by_cases h8 : k = 8
  · subst h8; rfl
  rw [invG_other h5 h6 h7 h8, invG_other h5 h6 h7 h8]
def invO (x : Oq) : Oq := if (x.k == 1) = true then ⟨x.k, invG x.g, x.q, x.bit, x.cond⟩ else x
theorem invO_1 {x : Oq} (h : (x.k == 1) = true) : invO x = ⟨x.k, invG x.g, x.q, x.bit, x.cond⟩ := if_pos h
theorem invO_n {x : Oq} (h : (x.k == 1) = false) : invO x = x := if_neg (by simp [h])
theorem invO_inv (x : Oq) : invO (invO x) = x := by
  cases h : (x.k == 1)
  · rw [invO_n h, invO_n h]
  · have h2 : ((⟨x.k, invG x.g, x.q, x.bit, x.cond⟩ : Oq).k == 1) = true := h
    rw [invO_1 h, invO_1 h2]
    show (⟨x.k, invG (invG x.g), x.q, x.bit, x.cond⟩ : Oq) = x
    rw [invG_inv]
/-- The adjoint of ops. -/
def adjO (xs : List Oq) : List Oq := xs.reverse.map invO
theorem adjO_adjO (xs : List Oq) : adjO (adjO xs) = xs := by
  unfold adjO
  rw [← List.map_reverse, List.reverse_reverse, List.map_map]
  have : invO ∘ invO = id := funext invO_inv
  rw [this, List.map_id]
theorem adjO_len (xs : List Oq) : (adjO xs).length = xs.length := by unfold adjO; rw [List.length_map, List.length_reverse]
end Go.Proofs.Ytofbmkpfliofeab
/-
  Helper text (no claim of its own): the qubits of a gate by the program, and whether a gate acts on a qubit, by the program and by the reference.
-/
namespace Go.Proofs.Ytofbmkpfliofeab
open Go.ChangeShapes Go.WideShapes Go.ChangeAt Go.RowKit Go.Deep
/-- Whether gate g acts on qubit q. -/
def acts (g : Gt) (q : Int) : Bool := hasI (qus g) q
end Go.Proofs.Ytofbmkpfliofeab
/-
  Helper text (no claim of its own): products of Paulis, what a Clifford gate makes of them, and tableaux, in plain Lean.
-/
namespace Go.Proofs.Ytofbmkpfliofeab
open Go.ChangeShapes Go.WideShapes Go.ChangeAt Go.RowKit Go.Deep
set_option linter.unusedVariables false
structure Pa where
  n : Int
  x : Int
  z : Int
  p : Int
def P0 : Pa := ⟨0, 0, 0, 0⟩
def pw (q : Int) : Int := 2 ^ q.toNat
def topOf (n : Int) : Int := pw n - 1
def ones (v : Int) : Int := v % 2 + v / 2 % 2 + v / 4 % 2 + v / 8 % 2
def xorI (a b : Int) : Int := bits .xor .i64 a b
def andI (a b : Int) : Int := bits .and .i64 a b
def orI (a b : Int) : Int := bits .or .i64 a b
/-- The bit q of x. -/
def bitI (x q : Int) : Bool := andI (x / 2 ^ q.toNat) 1 == 1
def vPa (p : Pa) : Bool := decide (1 ≤ p.n) && decide (p.n ≤ 4) && (decide (0 ≤ p.x) && decide (p.x ≤ topOf p.n)) && (decide (0 ≤ p.z) && decide (p.z ≤ topOf p.n)) && (decide (0 ≤ p.p) && decide (p.p ≤ 3))
def mulP (a b : Pa) : Pa := ⟨a.n, xorI a.x b.x, xorI a.z b.z, (a.p + b.p + 2 * ones (andI a.z b.x)) % 4⟩
def mulR (a b : Pa) : Pa := if (vPa a && vPa b && a.n == b.n) = true then mulP a b else P0
def comm (a b : Pa) : Bool := (ones (andI a.x b.z) + ones (andI a.z b.x)) % 2 == 0
def herm (p : Pa) : Bool := vPa p && (p.p % 2 == ones (andI p.x p.z) % 2)
def eqP (a b : Pa) : Bool := a.n == b.n && a.x == b.x && a.z == b.z && a.p == b.p
theorem eqP_self (a : Pa) : eqP a a = true := by simp [eqP]
theorem pw_le {q : Int} (h0 : 0 ≤ q) (h3 : q ≤ 3) : 1 ≤ pw q ∧ pw q ≤ 8 := by
  rcases (show q = 0 ∨ q = 1 ∨ q = 2 ∨ q = 3 by omega) with rfl | rfl | rfl | rfl <;> decide
theorem topOf_le {n : Int} (h0 : 1 ≤ n) (h4 : n ≤ 4) : 1 ≤ topOf n ∧ topOf n ≤ 15 := by
  rcases (show n = 1 ∨ n = 2 ∨ n = 3 ∨ n = 4 by omega) with rfl | rfl | rfl | rfl <;> decide
theorem nib (v : Int) (h0 : 0 ≤ v) (h1 : v ≤ 15) : ∃ k : Fin 16, v = (k.val : Int) := ⟨⟨v.toNat, by omega⟩, by simp; omega⟩
theorem and_nib : ∀ a b : Fin 16, 0 ≤ andI a.val b.val ∧ andI a.val b.val ≤ 15 := by decide
theorem andI_nib {a b : Int} (ha : 0 ≤ a ∧ a ≤ 15) (hb : 0 ≤ b ∧ b ≤ 15) : 0 ≤ andI a b ∧ andI a b ≤ 15 := by
  obtain ⟨k, rfl⟩ := nib a ha.1 ha.2
  obtain ⟨m, rfl⟩ := nib b hb.1 hb.2
  exact and_nib k m
theorem ones_le {v : Int} (h0 : 0 ≤ v) (h1 : v ≤ 15) : 0 ≤ ones v ∧ ones v ≤ 4 := by unfold ones; omega
theorem vPa_iff {p : Pa} : vPa p = true ↔ (1 ≤ p.n ∧ p.n ≤ 4) ∧ (0 ≤ p.x ∧ p.x ≤ topOf p.n) ∧ (0 ≤ p.z ∧ p.z ≤ topOf p.n) ∧ (0 ≤ p.p ∧ p.p ≤ 3) := by
  unfold vPa
  simp only [Bool.and_eq_true, decide_eq_true_eq]
  constructor
  · rintro ⟨⟨⟨⟨a, b⟩, c⟩, d⟩, e⟩; exact ⟨⟨a, b⟩, c, d, e⟩
  · rintro ⟨⟨a, b⟩, c, d, e⟩; exact ⟨⟨⟨⟨a, b⟩, c⟩, d⟩, e⟩
theorem vPa_no {p : Pa} (h : ¬ ((1 ≤ p.n ∧ p.n ≤ 4) ∧ (0 ≤ p.x ∧ p.x ≤ topOf p.n) ∧ (0 ≤ p.z ∧ p.z ≤ topOf p.n) ∧ (0 ≤ p.p ∧ p.p ≤ 3))) : vPa p = false := by
  cases e : vPa p with
  | false => rfl
  | true => exact absurd (vPa_iff.1 e) h
theorem vPa_nib {p : Pa} (h : vPa p = true) : (0 ≤ p.x ∧ p.x ≤ 15) ∧ (0 ≤ p.z ∧ p.z ≤ 15) ∧ (0 ≤ p.p ∧ p.p ≤ 3) ∧ (1 ≤ p.n ∧ p.n ≤ 4) := by
  obtain ⟨h1, h2, h3, h4⟩ := vPa_iff.1 h
  have := topOf_le h1.1 h1.2
  exact ⟨⟨by omega, by omega⟩, ⟨by omega, by omega⟩, h4, h1⟩
theorem herm_v {p : Pa} (h : herm p = true) : vPa p = true := by unfold herm at h; simp at h; exact h.1
/-- A Clifford gate. -/
def cliff (g : Gt) : Bool := decide (0 < ar g.k) && !(g.k == 7) && !(g.k == 8) && !(g.k == 12)
def isFst (g : Gt) (q : Int) : Bool := q == g.a
def isSnd (g : Gt) (q : Int) : Bool := ar g.k == 2 && q == g.b
/-- What the gate makes of X at q. -/
def imgX (n : Int) (g : Gt) (q : Int) : Pa :=
  if (isFst g q || isSnd g q) = false then ⟨n, pw q, 0, 0⟩
  else if g.k = 2 ∨ g.k = 3 then ⟨n, pw q, 0, 2⟩
  else if g.k = 4 then ⟨n, 0, pw q, 0⟩
  else if g.k = 5 then ⟨n, pw q, pw q, 1⟩
  else if g.k = 6 then ⟨n, pw q, pw q, 3⟩
  else if g.k = 9 then (if isFst g q = true then ⟨n, orI (pw q) (pw g.b), 0, 0⟩ else ⟨n, pw q, 0, 0⟩)
  else if g.k = 10 then ⟨n, pw q, if isFst g q = true then pw g.b else pw g.a, 0⟩
  else if g.k = 11 then ⟨n, if isFst g q = true then pw g.b else pw g.a, 0, 0⟩
  else ⟨n, pw q, 0, 0⟩
/-- What the gate makes of Z at q. -/
def imgZ (n : Int) (g : Gt) (q : Int) : Pa :=
  if (isFst g q || isSnd g q) = false then ⟨n, 0, pw q, 0⟩
  else if g.k = 1 ∨ g.k = 2 then ⟨n, 0, pw q, 2⟩
  else if g.k = 4 then ⟨n, pw q, 0, 0⟩
  else if g.k = 9 then (if isFst g q = true then ⟨n, 0, pw q, 0⟩ else ⟨n, 0, orI (pw q) (pw g.a), 0⟩)
  else if g.k = 11 then ⟨n, 0, if isFst g q = true then pw g.b else pw g.a, 0⟩
  else ⟨n, 0, pw q, 0⟩
/-- One qubit of a conjugation. -/
def cjX (p : Pa) (g : Gt) (q : Int) (o : Pa) : Pa := if bitI p.x q = true then mulR o (imgX p.n g q) else o
def cjZ (p : Pa) (g : Gt) (q : Int) (o : Pa) : Pa := if bitI p.z q = true then mulR o (imgZ p.n g q) else o
def cjN (p : Pa) (g : Gt) : Nat → Pa
  | 0 => ⟨p.n, 0, 0, p.p⟩
  | k + 1 => cjZ p g k (cjX p g k (cjN p g k))
def cjOk (p : Pa) (g : Gt) : Bool := vPa p && vg g p.n && cliff g
def cj (p : Pa) (g : Gt) : Pa := if cjOk p g = true then cjN p g p.n.toNat else P0
/-- The row k of a tableau. -/
def rowOk (n : Int) (rs : List Pa) (k : Nat) : Bool :=
  match rs[k]? with
  | none => true
  | some p => p.n == n && herm p && (List.range k).all fun i => match rs[i]? with
    | none => true
    | some x => comm x p != decide ((k : Int) = i + n)
def vTab (n : Int) (rs : List Pa) : Bool := decide (1 ≤ n) && decide (n ≤ 4) && ((rs.length : Int) == 2 * n) && (List.range rs.length).all (rowOk n rs)
def idT (n : Nat) : List Pa := (List.range n).map (fun q => ⟨n, pw q, 0, 0⟩) ++ (List.range n).map (fun q => ⟨n, 0, pw q, 0⟩)
/-- The rows behind a gate; none where the gate is refused. -/
def tabG (n : Int) (rs : List Pa) (g : Gt) : Option (List Pa) := if (vTab n rs && rs.all fun p => cjOk p g) = true then some (rs.map fun p => cj p g) else none
def tabN (n : Int) (gs : List Gt) : Option (List Pa) := gs.foldl (fun t g => t.bind fun rs => tabG n rs g) (some (idT n.toNat))
end Go.Proofs.Ytofbmkpfliofeab
/-
  Helper text (no claim of its own): slices of Paulis: reading and append. Printed by gen_pa.py.
-/
namespace Go.Proofs.Ytofbmkpfliofeab
open Go.ChangeShapes Go.WideShapes Go.ChangeAt Go.RowKit Go.Deep
abbrev Pa.val (x : Pa) : Value := .agg #[.int .i64 x.n, .int .i64 x.x, .int .i64 x.z, .int .i64 x.p]
def Pa.cells (x : Pa) : List Value := [.int .i64 x.n, .int .i64 x.x, .int .i64 x.z, .int .i64 x.p]
abbrev pcells (xs : List Pa) : List Value := xs.flatMap Pa.cells
theorem Pa.cells_len (x : Pa) : x.cells.length = 4 := rfl
theorem pauli_at {w : World} {B n i : Nat} {A : Option Addr} {xs : List Pa} (h : Rd w B 4 A n (pcells xs)) (hi : i < n) :
    ∃ b o x, A = some ⟨b, o, none⟩ ∧ b < B ∧ xs[i]? = some x ∧ w.cell? ⟨b, o + i * 4, none⟩ = some (.int .i64 x.n) ∧ w.cell? ⟨b, o + i * 4 + 1, none⟩ = some (.int .i64 x.x) ∧ w.cell? ⟨b, o + i * 4 + 2, none⟩ = some (.int .i64 x.z) ∧ w.cell? ⟨b, o + i * 4 + 3, none⟩ = some (.int .i64 x.p) := by
  obtain ⟨b, o, x, rfl, hb, hx, hc⟩ := elem_at Pa.cells_len (by omega) h hi
  exact ⟨b, o, x, rfl, hb, hx, hc 0 _ rfl, hc 1 _ rfl, hc 2 _ rfl, hc 3 _ rfl⟩

theorem Pa.one (xs : List Pa) : ∀ u ∈ pcells xs, u.oneCell' = true := by
  intro u hu
  obtain ⟨x, _, hx⟩ := List.mem_flatMap.1 hu
  simp [Pa.cells] at hx
  rcases hx with rfl | rfl | rfl | rfl <;> rfl
end Go.Proofs.Ytofbmkpfliofeab
/-
  Helper text (no claim of its own): equality of tableaux, validity of a circuit, by the program and by the reference. Printed by gen_tb.py.
-/
namespace Go.Proofs.Ytofbmkpfliofeab
open Go.ChangeShapes Go.WideShapes Go.ChangeAt Go.RowKit Go.Deep
set_option linter.unusedVariables false
theorem blkT2 {w : World} {g t : Nat} {a b : Value} (h : Blk w g t #[a, b]) : (w.cell? ⟨g, 0, none⟩ = some a ∧ w.cell? ⟨g, 1, none⟩ = some b) ∧ w.frozen? ⟨g, 0, none⟩ = false ∧ w.frozen? ⟨g, 1, none⟩ = false :=
  ⟨⟨h.cell 0, h.cell 1⟩, h.frozen 0, h.frozen 1⟩
/-- A circuit's validity. -/
def vCi (n : Int) (gs : List Gt) : Bool := decide (1 ≤ n) && decide (n ≤ 4) && decide (gs.length ≤ 60) && gs.all (fun g => vg g n)
theorem vCi_bad {n : Int} {gs : List Gt} {k : Nat} {g : Gt} (h : gs[k]? = some g) (hg : vg g n = false) : vCi n gs = false := by
  unfold vCi
  have : gs.all (fun g => vg g n) = false := by
    rw [List.all_eq_false]
    exact ⟨g, List.mem_of_getElem? h, by simp [hg]⟩
  rw [this, Bool.and_false]
theorem allT_snoc {α : Type} (f : α → Bool) {xs : List α} {k : Nat} {x : α} (h : xs[k]? = some x) (ha : (xs.take k).all f = true) (hx : f x = true) : (xs.take (k + 1)).all f = true := by
  rw [List.take_add_one, h, List.all_append, ha]
  simp [hx]
theorem vCi_good {n : Int} {gs : List Gt} (h : (gs.take gs.length).all (fun g => vg g n) = true) (h1 : 1 ≤ n) (h4 : n ≤ 4) (hl : gs.length ≤ 60) : vCi n gs = true := by
  rw [List.take_length] at h
  unfold vCi
  simp [h, h1, h4, hl]
theorem vCi_n {n : Int} {gs : List Gt} (h : n < 1 ∨ 4 < n) : vCi n gs = false := by
  unfold vCi
  rcases h with h | h
  · rw [decide_eq_false (by omega : ¬ 1 ≤ n)]; simp
  · rw [decide_eq_false (by omega : ¬ n ≤ 4)]; simp
theorem vCi_l {n : Int} {gs : List Gt} (h : 60 < gs.length) : vCi n gs = false := by
  unfold vCi
  rw [decide_eq_false (by omega : ¬ gs.length ≤ 60)]; simp
set_option maxRecDepth 100000 in
set_option maxHeartbeats 4000000 in
theorem impl_IsValidCircuit_any (A : Option Addr) (c : Nat) (n : Int) (gs : List Gt) (w : World) (h : Rd w w.heap.size 4 A gs.length (gcells gs)) (hl : gs.length ≤ 100000000) :
    Calls Try.prog 25 #[.agg #[.int .i64 n, .slice A gs.length c]] w fun e w' => e = .returned (.bool (vCi n gs)) ∧ Ext w w' := by
  obtain ⟨l, hgl⟩ : ∃ l, gs.length = l := ⟨_, rfl⟩
  rw [hgl] at h hl
  rw [hgl]
  have HL := Lib.hid hgl
  clear hgl
  by_cases hn : n < 1 ∨ 4 < n
  · have HN := Lib.hid hn
    have HF := Lib.hid (vCi_n (gs := gs) hn)
    clear hn
    go_enter Try.func25, Try.ntmps25
    go_wp2_with fail
    refine (in_no _ _ _ _ HN.out).mono ?_
    rintro e w5 ⟨rfl, rfl⟩
    go_wp2
    go_ret
    exact ⟨ret_bool HF.out.symm, (by repeat (first | exact Ext.refl _ | assumption | refine Ext.alloc ?_ _ | refine Ext.drewN ?_ _ | refine Ext.drew ?_))⟩
  have hn1 : 1 ≤ n := by omega
  have hn4 : n ≤ 4 := by omega
  clear hn
  by_cases h60 : 60 < l
  · have HF := Lib.hid (vCi_l (gs := gs) (n := n) (by rw [HL.out]; exact h60))
    have hd : (60 : Int) < (l : Int) := by omega
    have hd2 : (l : Int) > 60 := by omega
    go_enter Try.func25, Try.ntmps25
    go_wp2_with fail
    refine (in_yes _ _ _ _ hn1 hn4).mono ?_
    rintro e w5 ⟨rfl, rfl⟩
    go_wp2
    go_ret
    exact ⟨ret_bool HF.out.symm, (by repeat (first | exact Ext.refl _ | assumption | refine Ext.alloc ?_ _ | refine Ext.drewN ?_ _ | refine Ext.drew ?_))⟩
  have hd : ¬ (60 : Int) < (l : Int) := by omega
  have h60' : l ≤ 60 := by omega
  clear h60
  go_enter Try.func25, Try.ntmps25
  go_wp2_with fail
  refine (in_yes _ _ _ _ hn1 hn4).mono ?_
  rintro e w5 ⟨rfl, rfl⟩
  go_wp2
  have HX : Hid (Ext w (w.alloc (.cells #[.int .i64 n, .slice A l c] 35))) := (by repeat (first | exact Ext.refl _ | assumption | refine Ext.alloc ?_ _ | refine Ext.drewN ?_ _ | refine Ext.drew ?_))
  have HB : Hid (Blk (w.alloc (.cells #[.int .i64 n, .slice A l c] 35)) w.heap.size 35 #[.int .i64 n, .slice A l c]) := Blk.new w _ _
  generalize (w.alloc (.cells #[.int .i64 n, .slice A l c] 35)) = w1 at *
  clear hd
  go_loopw [18] (fun i wr => ∃ k : Nat, k ≤ l ∧ i = .int .i64 k ∧ Hid ((gs.take k).all (fun g => vg g n) = true) ∧ Hid (Blk wr w.heap.size 35 #[.int .i64 n, .slice A l c] ∧ Ext w wr)) (fun i _ => l - (intOf i).toNat)
  case atStart => exact ⟨0, Nat.zero_le _, rfl, by simp [Hid], ⟨HB.out, HX.out⟩⟩
  case round =>
    obtain ⟨k, hk, rfl, HQ, HW⟩ := hrel
    clear HB HX
    by_cases hlt : k < l
    · obtain ⟨b, o, g, rfl, hb, hg, x0, x1, x2, x3⟩ := gate_at (h.up HW.out.2 (Nat.le_refl _)) hlt
      have HG := Lib.hid hg
      clear hg
      go_upto_region 6 with (fail)
      have HW2 : Hid (Blk (wr.alloc (.cells #[.int .i64 g.k, .int .i64 g.a, .int .i64 g.b, .int .i64 g.c] 43)) w.heap.size 35 #[.int .i64 n, .slice (some ⟨b, o, none⟩) l c] ∧ Ext w (wr.alloc (.cells #[.int .i64 g.k, .int .i64 g.a, .int .i64 g.b, .int .i64 g.c] 43))) := ⟨HW.out.1.alloc _, HW.out.2.alloc _⟩
      have HG2 : Hid (Blk (wr.alloc (.cells #[.int .i64 g.k, .int .i64 g.a, .int .i64 g.b, .int .i64 g.c] 43)) wr.heap.size 43 #[.int .i64 g.k, .int .i64 g.a, .int .i64 g.b, .int .i64 g.c]) := Blk.new _ _ _
      generalize wr.alloc (.cells #[.int .i64 g.k, .int .i64 g.a, .int .i64 g.b, .int .i64 g.c] 43) = w2 at *
      generalize wr.heap.size = q at *
      clear x0 x1 x2 x3 HW
      obtain ⟨⟨b0, b1⟩, -⟩ := blkT2 HW2.out.1
      obtain ⟨⟨x0, x1, x2, x3⟩, -⟩ := cells4 HG2.out
      cases hv : vg g n
      · have HF := Lib.hid (vCi_bad HG.out hv)
        go_wp2_with fail
        refine (impl_IsValidGate_any g n _).mono ?_
        rintro e w5 ⟨rfl, hy5⟩
        rw [hv]
        clear hv
        go_wp2
        go_ret
        exact ⟨ret_bool HF.out.symm, HW2.out.2.trans hy5⟩
      · have HA := Lib.hid (allT_snoc (fun g => vg g n) HG.out HQ.out hv)
        go_wp2_with fail
        refine (impl_IsValidGate_any g n _).mono ?_
        rintro e w5 ⟨rfl, hy5⟩
        rw [hv]
        clear hv
        go_wp2
        go_roundw
        case rel => exact ⟨k + 1, by omega, by go_num, HA, Lib.hid ⟨HW2.out.1.ext hy5, HW2.out.2.trans hy5⟩⟩
        case measure => simp [intOf]; omega
    · have hkl : k = l := by omega
      subst hkl
      have HT := Lib.hid (vCi_good (gs := gs) (n := n) (by rw [HL.out]; exact HQ.out) hn1 hn4 (by rw [HL.out]; exact h60'))
      go_wp2
      go_ret
      exact ⟨ret_bool HT.out.symm, HW.out.2⟩
end Go.Proofs.Ytofbmkpfliofeab
namespace Go.Proofs.Ytofbmkpfliofeab
open Go.ChangeShapes Go.WideShapes Go.ChangeAt Go.RowKit Go.Deep
set_option linter.unusedVariables false
set_option linter.unusedSimpArgs false
/-- A gate under new names. -/
def relG (p : List Int) (g : Gt) : Gt := ⟨g.k, loc p g.a, if 1 < ar g.k then loc p g.b else 0, if 2 < ar g.k then loc p g.c else 0⟩
theorem loc_nat {p : List Int} {i : Nat} {y : Int} (h : p[i]? = some y) : loc p (i : Int) = y := by
  unfold loc
  rw [Int.toNat_natCast, List.getD_eq_getElem?_getD, h]
  rfl
set_option maxRecDepth 100000 in
set_option maxHeartbeats 8000000 in
theorem impl_relabeled_any (k : Int) (a b c : Nat) (A : Option Addr) (np cp : Nat) (p : List Int) (w : World) (hp : Rd w w.heap.size 1 A np (icells p)) (h4 : np ≤ 4) (ha : a < np) (hb : b < np) (hc : c < np) :
    Calls Try.prog 27 #[.agg #[.int .i64 k, .int .i64 a, .int .i64 b, .int .i64 c], .slice A np cp] w fun e w' => e = .returned (relG p ⟨k, a, b, c⟩).val ∧ Ext w w' := by
  obtain ⟨bl, ol, ya, rfl, hbl, hya, qa⟩ := int_at hp ha
  obtain ⟨bl', ol', yb, he, -, hyb, qb⟩ := int_at hp hb
  simp only [Option.some.injEq, Addr.mk.injEq] at he
  obtain ⟨rfl, rfl, -⟩ := he
  obtain ⟨bl', ol', yc, he, -, hyc, qc⟩ := int_at hp hc
  simp only [Option.some.injEq, Addr.mk.injEq] at he
  obtain ⟨rfl, rfl, -⟩ := he
  have HRES : Hid (relG p ⟨k, a, b, c⟩ = ⟨k, ya, if 1 < ar k then yb else 0, if 2 < ar k then yc else 0⟩) := by
    unfold Hid relG
    simp only [loc_nat hya, loc_nat hyb, loc_nat hyc]
  have HPC : Hid (∀ w', Ext w w' → w'.cell? ⟨bl, ol + a, none⟩ = some (.int .i64 ya) ∧ w'.cell? ⟨bl, ol + b, none⟩ = some (.int .i64 yb) ∧ w'.cell? ⟨bl, ol + c, none⟩ = some (.int .i64 yc)) := fun w' hx =>
    ⟨(hx.cell (p := ⟨bl, ol + a, none⟩) hbl).trans qa, (hx.cell (p := ⟨bl, ol + b, none⟩) hbl).trans qb, (hx.cell (p := ⟨bl, ol + c, none⟩) hbl).trans qc⟩
  clear qa qb qc hya hyb hyc
  have ha0 : (0 : Int) ≤ (a : Int) := by omega
  have ha1 : (a : Int) < (np : Int) := by omega
  have hb0 : (0 : Int) ≤ (b : Int) := by omega
  have hb1 : (b : Int) < (np : Int) := by omega
  have hc0 : (0 : Int) ≤ (c : Int) := by omega
  have hc1 : (c : Int) < (np : Int) := by omega
  rw [HRES.out]
  have HAR : Hid (∀ w', Calls Try.prog 15 #[.int .i64 k] w' fun e w'' => e = .returned (.int .i64 (ar k)) ∧ w' = w'') := fun w' => impl_Arity_any k w'
  clear HRES
  generalize ar k = m at *
  go_enter Try.func27, Try.ntmps27
  go_upto_region 1 with (fail)
  have HB : Hid (Blk ((w.alloc (.cells #[.int .i64 k, .int .i64 a, .int .i64 b, .int .i64 c] 43)).alloc (.cells #[.int .i64 0, .int .i64 0, .int .i64 0, .int .i64 0] 43)) w.heap.size 43 #[.int .i64 k, .int .i64 a, .int .i64 b, .int .i64 c]) := (Blk.new w _ _).alloc _
  have HR : Hid (Blk ((w.alloc (.cells #[.int .i64 k, .int .i64 a, .int .i64 b, .int .i64 c] 43)).alloc (.cells #[.int .i64 0, .int .i64 0, .int .i64 0, .int .i64 0] 43)) (w.heap.size + 1) 43 #[.int .i64 0, .int .i64 0, .int .i64 0, .int .i64 0]) := Blk.newAt (by simp)
  have HE : Hid (Ext w ((w.alloc (.cells #[.int .i64 k, .int .i64 a, .int .i64 b, .int .i64 c] 43)).alloc (.cells #[.int .i64 0, .int .i64 0, .int .i64 0, .int .i64 0] 43))) := by repeat (first | exact Ext.refl _ | assumption | refine Ext.alloc ?_ _ | refine Ext.drewN ?_ _ | refine Ext.drew ?_)
  generalize ((w.alloc (.cells #[.int .i64 k, .int .i64 a, .int .i64 b, .int .i64 c] 43)).alloc (.cells #[.int .i64 0, .int .i64 0, .int .i64 0, .int .i64 0] 43)) = w1 at *
  have HK : Hid (∀ w', Ext w1 w' → (w'.cell? ⟨w.heap.size, 0, none⟩ = some (.int .i64 k) ∧ w'.cell? ⟨w.heap.size, 1, none⟩ = some (.int .i64 a) ∧ w'.cell? ⟨w.heap.size, 2, none⟩ = some (.int .i64 b) ∧ w'.cell? ⟨w.heap.size, 3, none⟩ = some (.int .i64 c)) ∧ w'.cell? ⟨bl, ol + a, none⟩ = some (.int .i64 ya)) := fun w' hx => ⟨(cells4 (HB.out.ext hx)).1, (HPC.out w' (HE.out.trans hx)).1⟩
  obtain ⟨⟨b0, b1, b2, b3⟩, -⟩ := cells4 HB.out
  have pa := (HPC.out w1 HE.out).1
  go_wp2
  refine wp_region_held_drew (S := fun w' => (w'.cell? ⟨w.heap.size, 0, none⟩ = some (.int .i64 k) ∧ w'.cell? ⟨w.heap.size, 1, none⟩ = some (.int .i64 a) ∧ w'.cell? ⟨w.heap.size, 2, none⟩ = some (.int .i64 b) ∧ w'.cell? ⟨w.heap.size, 3, none⟩ = some (.int .i64 c)) ∧ w'.cell? ⟨bl, ol + a, none⟩ = some (.int .i64 ya)) (by kernel_rfl) (HK.out _ (Ext.refl w1).drew) (fun hHeld => ?_)
  clear b0 b1 b2 b3 pa
  (refine wpAnyH_take (i := 0) (v := ?_) rfl (by kernel_rfl) (by kernel_rfl) (by kernel_rfl) (fun _ _ _ h => h) (Or.inl ⟨by rfl, ?_⟩) (by assumption) ?_; rotate_left; · (intro w hSw; (try dsimp only at hSw); go_simp; all_goals with_reducible rfl); (try simp only [Act.put, List.getElem_toArray, List.getElem_cons_zero, List.getElem_cons_succ, List.setIfInBounds_toArray, List.set_cons_zero, List.set_cons_succ]))
  (try simp only [Act.put, List.getElem_toArray, List.getElem_cons_zero, List.getElem_cons_succ, List.setIfInBounds_toArray, List.set_cons_zero, List.set_cons_succ])
  (refine wpAnyH_take (i := 1) (v := ?_) rfl (by kernel_rfl) (by kernel_rfl) (by kernel_rfl) (fun _ _ _ h => h) (Or.inl ⟨by rfl, ?_⟩) (by assumption) ?_; rotate_left; · (intro w hSw; (try dsimp only at hSw); go_simp; all_goals with_reducible rfl); (try simp only [Act.put, List.getElem_toArray, List.getElem_cons_zero, List.getElem_cons_succ, List.setIfInBounds_toArray, List.set_cons_zero, List.set_cons_succ]))
  (try simp only [Act.put, List.getElem_toArray, List.getElem_cons_zero, List.getElem_cons_succ, List.setIfInBounds_toArray, List.set_cons_zero, List.set_cons_succ])
  (refine wpAnyH_take (i := 2) (v := ?_) rfl (by kernel_rfl) (by kernel_rfl) (by kernel_rfl) (fun _ _ _ h => h) (Or.inl ⟨by rfl, ?_⟩) (by assumption) ?_; rotate_left; · (intro w hSw; (try dsimp only at hSw); go_simp; all_goals with_reducible rfl); (try simp only [Act.put, List.getElem_toArray, List.getElem_cons_zero, List.getElem_cons_succ, List.setIfInBounds_toArray, List.set_cons_zero, List.set_cons_succ]))
  (try simp only [Act.put, List.getElem_toArray, List.getElem_cons_zero, List.getElem_cons_succ, List.setIfInBounds_toArray, List.set_cons_zero, List.set_cons_succ])
  (refine wpAnyH_take (i := 3) (v := ?_) rfl (by kernel_rfl) (by kernel_rfl) (by kernel_rfl) (fun _ _ _ h => h) (Or.inl ⟨by rfl, ?_⟩) (by assumption) ?_; rotate_left; · (intro w hSw; (try dsimp only at hSw); go_simp; all_goals with_reducible rfl); (try simp only [Act.put, List.getElem_toArray, List.getElem_cons_zero, List.getElem_cons_succ, List.setIfInBounds_toArray, List.set_cons_zero, List.set_cons_succ]))
  (try simp only [Act.put, List.getElem_toArray, List.getElem_cons_zero, List.getElem_cons_succ, List.setIfInBounds_toArray, List.set_cons_zero, List.set_cons_succ])
  (refine wpAnyH_take (i := 4) (v := ?_) rfl (by kernel_rfl) (by kernel_rfl) (by kernel_rfl) (fun _ _ _ h => h) (Or.inl ⟨by rfl, ?_⟩) (by assumption) ?_; rotate_left; · (intro w hSw; (try dsimp only at hSw); go_simp; all_goals with_reducible rfl); (try simp only [Act.put, List.getElem_toArray, List.getElem_cons_zero, List.getElem_cons_succ, List.setIfInBounds_toArray, List.set_cons_zero, List.set_cons_succ]))
  (try simp only [Act.put, List.getElem_toArray, List.getElem_cons_zero, List.getElem_cons_succ, List.setIfInBounds_toArray, List.set_cons_zero, List.set_cons_succ])
  (refine wpAnyH_take (i := 5) (v := ?_) rfl (by kernel_rfl) (by kernel_rfl) (by kernel_rfl) (fun _ _ _ h => h) (Or.inl ⟨by rfl, ?_⟩) (by assumption) ?_; rotate_left; · (intro w hSw; (try dsimp only at hSw); go_simp; all_goals with_reducible rfl); (try simp only [Act.put, List.getElem_toArray, List.getElem_cons_zero, List.getElem_cons_succ, List.setIfInBounds_toArray, List.set_cons_zero, List.set_cons_succ]))
  (try simp only [Act.put, List.getElem_toArray, List.getElem_cons_zero, List.getElem_cons_succ, List.setIfInBounds_toArray, List.set_cons_zero, List.set_cons_succ])
  (refine wpAnyH_take (i := 6) (v := ?_) rfl (by kernel_rfl) (by kernel_rfl) (by kernel_rfl) (fun _ _ _ h => h) (Or.inl ⟨by rfl, ?_⟩) (by assumption) ?_; rotate_left; · (intro w hSw; (try dsimp only at hSw); go_simp; all_goals with_reducible rfl); (try simp only [Act.put, List.getElem_toArray, List.getElem_cons_zero, List.getElem_cons_succ, List.setIfInBounds_toArray, List.set_cons_zero, List.set_cons_succ]))
  (try simp only [Act.put, List.getElem_toArray, List.getElem_cons_zero, List.getElem_cons_succ, List.setIfInBounds_toArray, List.set_cons_zero, List.set_cons_succ])
  (refine wpAnyH_take (i := 7) (v := ?_) rfl (by kernel_rfl) (by kernel_rfl) (by kernel_rfl) (fun _ _ _ h => h) (Or.inl ⟨by rfl, ?_⟩) (by assumption) ?_; rotate_left; · (intro w hSw; (try dsimp only at hSw); go_simp; all_goals with_reducible rfl); (try simp only [Act.put, List.getElem_toArray, List.getElem_cons_zero, List.getElem_cons_succ, List.setIfInBounds_toArray, List.set_cons_zero, List.set_cons_succ]))
  (try simp only [Act.put, List.getElem_toArray, List.getElem_cons_zero, List.getElem_cons_succ, List.setIfInBounds_toArray, List.set_cons_zero, List.set_cons_succ])
  refine wpAnyH_ready (rs := [8]) (by kernel_rfl) (by simp) ?_
  refine AllReadyH.cons rfl (fun K hK => ?_) AllReadyH.nil
  go_simp
  have HX2 : Hid (Ext w1 (w1.alloc (.cells #[.int .i64 0, .int .i64 0, .int .i64 0, .int .i64 0] 43)).drew) := ((Ext.refl w1).alloc _).drew
  have HQ2 : Hid (Blk (w1.alloc (.cells #[.int .i64 0, .int .i64 0, .int .i64 0, .int .i64 0] 43)).drew w1.heap.size 43 #[.int .i64 0, .int .i64 0, .int .i64 0, .int .i64 0]) := (Blk.new w1 _ _).ext (Ext.refl _).drew
  refine hK.out _ _ (HK.out _ HX2.out) (fun hHeld => ?_)
  clear hK K
  (try simp only [Act.put, List.getElem_toArray, List.getElem_cons_zero, List.getElem_cons_succ, List.setIfInBounds_toArray, List.set_cons_zero, List.set_cons_succ])
  generalize (w1.alloc (.cells #[.int .i64 0, .int .i64 0, .int .i64 0, .int .i64 0] 43)).drew = w2 at *
  obtain ⟨q, hq⟩ : ∃ q, q = w1.heap.size := ⟨_, rfl⟩
  have hq1 : w.heap.size + 1 < q := by rw [hq]; exact HR.out.lt
  rw [← hq] at HQ2 ⊢
  have HXQ : Hid (Ext w1 w2 ∧ w1.heap.size ≤ q) := ⟨HX2.out, by rw [hq]; exact Nat.le_refl _⟩
  clear hq HX2
  refine wpAnyH_ready (rs := [9]) (by kernel_rfl) (by simp) ?_
  refine AllReadyH.cons rfl (fun K hK => ?_) AllReadyH.nil
  obtain ⟨⟨q0, q1, q2, q3⟩, f0, f1, f2, f3⟩ := cells4 HQ2.out
  go_simp
  have HX3 : Hid (Ext w1 (put4 w2 q (.int .i64 k) (.int .i64 ya) (.int .i64 0) (.int .i64 0))) := ext_put4 HXQ.out.1 HXQ.out.2 _ _ _ _
  have HQ3 : Hid (Blk (put4 w2 q (.int .i64 k) (.int .i64 ya) (.int .i64 0) (.int .i64 0)) q 43 #[.int .i64 k, .int .i64 ya, .int .i64 0, .int .i64 0]) := HQ2.out.put4 _ _ _ _
  refine hK.out _ _ (HK.out _ HX3.out) (fun hHeld => ?_)
  clear hK K
  (try simp only [Act.put, List.getElem_toArray, List.getElem_cons_zero, List.getElem_cons_succ, List.setIfInBounds_toArray, List.set_cons_zero, List.set_cons_succ])
  (refine wpAnyH_done (by kernel_rfl) ?_ _)
  clear q0 q1 q2 q3 f0 f1 f2 f3 hHeld
  unfold put4 at HX3 HQ3
  generalize (((w2.setCell ⟨q, 0, none⟩ (.int .i64 k)).setCell ⟨q, 1, none⟩ (.int .i64 ya)).setCell ⟨q, 2, none⟩ (.int .i64 0)).setCell ⟨q, 3, none⟩ (.int .i64 0) = w3 at *
  have HB3 : Hid (Blk w3 w.heap.size 43 #[.int .i64 k, .int .i64 a, .int .i64 b, .int .i64 c]) := HB.out.ext HX3.out
  have HR3 : Hid (Blk w3 (w.heap.size + 1) 43 #[.int .i64 0, .int .i64 0, .int .i64 0, .int .i64 0]) := HR.out.ext HX3.out
  have HE3 : Hid (Ext w w3) := HE.out.trans HX3.out
  clear HXQ HQ2 HX3 HB HR HE HK
  have HB4 := HB3
  have HR4 := HR3
  have HE4 := HE3
  have HQ4 := HQ3
  obtain ⟨w4, hw4⟩ : ∃ w4, w4 = w3 := ⟨_, rfl⟩
  rw [← hw4] at HB4 HR4 HE4 HQ4 ⊢
  clear HB3 HR3 HE3 HQ3 hw4
  obtain ⟨⟨b0, b1, b2, b3⟩, -⟩ := cells4 HB4.out
  go_wp2_with fail
  refine (HAR.out _).mono ?_
  rintro e w' ⟨rfl, rfl⟩
  by_cases h1 : 1 < m
  case neg =>
    have h2 : ¬ 2 < m := by omega
    go_wp2_with fail
    refine (HAR.out _).mono ?_
    rintro e w' ⟨rfl, rfl⟩
    obtain ⟨⟨b0, b1, b2, b3⟩, -⟩ := cells4 HB4.out
    obtain ⟨⟨q0, q1, q2, q3⟩, g0, g1, g2, g3⟩ := cells4 HQ4.out
    obtain ⟨⟨r0, r1, r2, r3⟩, f0, f1, f2, f3⟩ := cells4 HR4.out
    go_wp2
    have HBB : Hid (Blk (put4 w4 (w.heap.size + 1) (.int .i64 k) (.int .i64 ya) (.int .i64 0) (.int .i64 0)) (w.heap.size + 1) 43 #[.int .i64 k, .int .i64 ya, .int .i64 0, .int .i64 0]) := HR4.out.put4 _ _ _ _
    refine bodyPost_ret (v := .agg #[.int .i64 k, .int .i64 ya, .int .i64 0, .int .i64 0]) ?_ rfl ?_
    rotate_left
    · exact ⟨by first | rfl | rw [if_neg (by omega), if_neg (by omega)] | rw [if_neg (by omega)], ext_put4 (g := w.heap.size + 1) HE4.out (by omega) _ _ _ _⟩
    · exact retG rfl HBB.out _ (by kernel_rfl) rfl
  case pos =>
    obtain ⟨⟨q0, q1, q2, q3⟩, g0, g1, g2, g3⟩ := cells4 HQ4.out
    have qb := (HPC.out w4 HE4.out).2.1
    go_upto_region 4 with (fail)
    have HQ5 : Hid (Blk (w4.setCell ⟨q, 2, none⟩ (.int .i64 yb)) q 43 #[.int .i64 k, .int .i64 ya, .int .i64 yb, .int .i64 0]) := HQ4.out.set_ 2 _
    have HB5 : Hid (Blk (w4.setCell ⟨q, 2, none⟩ (.int .i64 yb)) w.heap.size 43 #[.int .i64 k, .int .i64 a, .int .i64 b, .int .i64 c]) := HB4.out.far (p := ⟨q, 2, none⟩) (show w.heap.size ≠ q by omega) _
    have HR5 : Hid (Blk (w4.setCell ⟨q, 2, none⟩ (.int .i64 yb)) (w.heap.size + 1) 43 #[.int .i64 0, .int .i64 0, .int .i64 0, .int .i64 0]) := HR4.out.far (p := ⟨q, 2, none⟩) (show w.heap.size + 1 ≠ q by omega) _
    have HE5 : Hid (Ext w (w4.setCell ⟨q, 2, none⟩ (.int .i64 yb))) := HE4.out.setCell (p := ⟨q, 2, none⟩) (by show w.heap.size ≤ q; omega) _
    clear b0 b1 b2 b3 q0 q1 q2 q3 g0 g1 g2 g3 qb HQ4 HB4 HR4 HE4
    generalize w4.setCell ⟨q, 2, none⟩ (.int .i64 yb) = w5 at *
    obtain ⟨⟨b0, b1, b2, b3⟩, -⟩ := cells4 HB5.out
    go_wp2_with fail
    refine (HAR.out _).mono ?_
    rintro e w' ⟨rfl, rfl⟩
    obtain ⟨w4, hw4⟩ : ∃ w4, w4 = w5 := ⟨_, rfl⟩
    have HB4 := HB5
    have HR4 := HR5
    have HE4 := HE5
    have HQ4 := HQ5
    rw [← hw4] at HB4 HR4 HE4 HQ4 b0 b1 b2 b3 ⊢
    clear HB5 HR5 HE5 HQ5 hw4
    by_cases h2 : 2 < m
    case neg =>
      obtain ⟨⟨b0, b1, b2, b3⟩, -⟩ := cells4 HB4.out
      obtain ⟨⟨q0, q1, q2, q3⟩, g0, g1, g2, g3⟩ := cells4 HQ4.out
      obtain ⟨⟨r0, r1, r2, r3⟩, f0, f1, f2, f3⟩ := cells4 HR4.out
      go_wp2
      have HBB : Hid (Blk (put4 w4 (w.heap.size + 1) (.int .i64 k) (.int .i64 ya) (.int .i64 yb) (.int .i64 0)) (w.heap.size + 1) 43 #[.int .i64 k, .int .i64 ya, .int .i64 yb, .int .i64 0]) := HR4.out.put4 _ _ _ _
      refine bodyPost_ret (v := .agg #[.int .i64 k, .int .i64 ya, .int .i64 yb, .int .i64 0]) ?_ rfl ?_
      rotate_left
      · exact ⟨by first | rfl | rw [if_neg (by omega), if_neg (by omega)] | rw [if_neg (by omega)], ext_put4 (g := w.heap.size + 1) HE4.out (by omega) _ _ _ _⟩
      · exact retG rfl HBB.out _ (by kernel_rfl) rfl
    case pos =>
      obtain ⟨⟨q0, q1, q2, q3⟩, g0, g1, g2, g3⟩ := cells4 HQ4.out
      have qb := (HPC.out w4 HE4.out).2.2
      go_upto_region 6 with (fail)
      have HQ5 : Hid (Blk (w4.setCell ⟨q, 3, none⟩ (.int .i64 yc)) q 43 #[.int .i64 k, .int .i64 ya, .int .i64 yb, .int .i64 yc]) := HQ4.out.set_ 3 _
      have HB5 : Hid (Blk (w4.setCell ⟨q, 3, none⟩ (.int .i64 yc)) w.heap.size 43 #[.int .i64 k, .int .i64 a, .int .i64 b, .int .i64 c]) := HB4.out.far (p := ⟨q, 3, none⟩) (show w.heap.size ≠ q by omega) _
      have HR5 : Hid (Blk (w4.setCell ⟨q, 3, none⟩ (.int .i64 yc)) (w.heap.size + 1) 43 #[.int .i64 0, .int .i64 0, .int .i64 0, .int .i64 0]) := HR4.out.far (p := ⟨q, 3, none⟩) (show w.heap.size + 1 ≠ q by omega) _
      have HE5 : Hid (Ext w (w4.setCell ⟨q, 3, none⟩ (.int .i64 yc))) := HE4.out.setCell (p := ⟨q, 3, none⟩) (by show w.heap.size ≤ q; omega) _
      clear b0 b1 b2 b3 q0 q1 q2 q3 g0 g1 g2 g3 qb HQ4 HB4 HR4 HE4
      generalize w4.setCell ⟨q, 3, none⟩ (.int .i64 yc) = w5 at *
      obtain ⟨w4, hw4⟩ : ∃ w4, w4 = w5 := ⟨_, rfl⟩
      have HB4 := HB5
      have HR4 := HR5
      have HE4 := HE5
      have HQ4 := HQ5
      rw [← hw4] at HB4 HR4 HE4 HQ4 ⊢
      clear HB5 HR5 HE5 HQ5 hw4
      obtain ⟨⟨b0, b1, b2, b3⟩, -⟩ := cells4 HB4.out
      obtain ⟨⟨q0, q1, q2, q3⟩, g0, g1, g2, g3⟩ := cells4 HQ4.out
      obtain ⟨⟨r0, r1, r2, r3⟩, f0, f1, f2, f3⟩ := cells4 HR4.out
      go_wp2
      have HBB : Hid (Blk (put4 w4 (w.heap.size + 1) (.int .i64 k) (.int .i64 ya) (.int .i64 yb) (.int .i64 yc)) (w.heap.size + 1) 43 #[.int .i64 k, .int .i64 ya, .int .i64 yb, .int .i64 yc]) := HR4.out.put4 _ _ _ _
      refine bodyPost_ret (v := .agg #[.int .i64 k, .int .i64 ya, .int .i64 yb, .int .i64 yc]) ?_ rfl ?_
      rotate_left
      · exact ⟨by first | rfl | rw [if_neg (by omega), if_neg (by omega)] | rw [if_neg (by omega)], ext_put4 (g := w.heap.size + 1) HE4.out (by omega) _ _ _ _⟩
      · exact retG rfl HBB.out _ (by kernel_rfl) rfl
/-- Whether a circuit can be put under new names. -/
def relOk (n : Int) (gs : List Gt) (p : List Int) : Bool := vCi n gs && perm p && ((p.length : Int) == n)
def relL (n : Int) (gs : List Gt) (p : List Int) : List Gt := if relOk n gs p = true then gs.map (relG p) else []
def RelE (w : World) (n : Int) (gs : List Gt) (p : List Int) (e : Ending) (w' : World) : Prop :=
  ∃ (m : Int) (A : Option Addr) (c : Nat), e = .returned (.tuple #[.agg #[.int .i64 m, .slice A (relL n gs p).length c], .bool (relOk n gs p)]) ∧ w'.ownsRow w.heap.size 43 4 (.slice A (relL n gs p).length c) (relL n gs p).length (gcells (relL n gs p)) ∧ Ext w w'
theorem RelE.no {w w' : World} {n : Int} {gs : List Gt} {p : List Int} (h : relOk n gs p = false) (hx : Ext w w') : RelE w n gs p (.returned (.tuple #[.agg #[.int .i64 0, .slice none 0 0], .bool false])) w' := by
  have e : relL n gs p = [] := if_neg (by simp [h])
  unfold RelE
  rw [e, h]
  exact ⟨0, none, 0, rfl, ⟨by simp, .inl ⟨rfl, rfl⟩⟩, hx⟩
theorem RelE.yes {w w' : World} {n m : Int} {gs : List Gt} {p : List Int} {A : Option Addr} {l c : Nat} (h : relOk n gs p = true) (hl : gs.length = l) (ho : w'.ownsRow w.heap.size 43 4 (.slice A l c) l (gcells (gs.map (relG p)))) (hx : Ext w w') : RelE w n gs p (.returned (.tuple #[.agg #[.int .i64 m, .slice A l c], .bool true])) w' := by
  have e : relL n gs p = gs.map (relG p) := if_pos h
  unfold RelE
  rw [e, h, List.length_map, hl]
  exact ⟨m, A, c, rfl, ho, hx⟩
set_option maxRecDepth 100000 in
set_option maxHeartbeats 8000000 in
theorem impl_RelabelCircuit_any (A : Option Addr) (c : Nat) (n : Int) (gs : List Gt) (P : Option Addr) (np cp : Nat) (p : List Int) (w : World) (h : Rd w w.heap.size 4 A gs.length (gcells gs)) (hl : gs.length ≤ 100000000) (hp : Rd w w.heap.size 1 P np (icells p)) (hnp : np ≤ 100000000) :
    Calls Try.prog 9 #[.agg #[.int .i64 n, .slice A gs.length c], .slice P np cp] w (RelE w n gs p) := by
  have HIV : Hid (∀ w', Ext w w' → Calls Try.prog 25 #[.agg #[.int .i64 n, .slice A gs.length c]] w' fun e w'' => e = .returned (.bool (vCi n gs)) ∧ Ext w' w'') := fun w' hx => impl_IsValidCircuit_any A c n gs w' (h.ext hx) hl
  have HLP := Lib.hid (hp.len icell_len (by omega))
  obtain ⟨l, hgl⟩ : ∃ l, gs.length = l := ⟨_, rfl⟩
  rw [hgl] at h hl HIV
  rw [hgl]
  have HGL := Lib.hid hgl
  clear hgl
  have hB2 : Hid (Blk ((w.alloc (.cells #[.int .i64 n, .slice A l c] 35)).alloc (.cells #[.int .i64 0, .slice none 0 0] 35)) w.heap.size 35 #[.int .i64 n, .slice A l c]) := (Blk.new w _ _).alloc _
  have hB4 : Hid (Blk ((w.alloc (.cells #[.int .i64 n, .slice A l c] 35)).alloc (.cells #[.int .i64 0, .slice none 0 0] 35)) (w.heap.size + 1) 35 #[.int .i64 0, .slice none 0 0]) := Blk.newAt (by simp)
  have hX : Hid (Ext w ((w.alloc (.cells #[.int .i64 n, .slice A l c] 35)).alloc (.cells #[.int .i64 0, .slice none 0 0] 35))) := by repeat (first | exact Ext.refl _ | assumption | refine Ext.alloc ?_ _ | refine Ext.drewN ?_ _ | refine Ext.drew ?_)
  go_enter Try.func9, Try.ntmps9
  go_upto_region 1 with (fail)
  generalize ((w.alloc (.cells #[.int .i64 n, .slice A l c] 35)).alloc (.cells #[.int .i64 0, .slice none 0 0] 35)) = w1 at *
  obtain ⟨⟨b0, b1⟩, -⟩ := blk2 hB2.out
  go_wp2_with fail
  refine (HIV.out _ hX.out).mono ?_
  rintro e w2 ⟨rfl, hx2⟩
  have HX2 : Hid (Ext w w2) := hX.out.trans hx2
  have HB2 := Lib.hid (hB2.out.ext hx2)
  have HB4 := Lib.hid (hB4.out.ext hx2)
  clear hB2 hB4 hX hx2 b0 b1
  obtain ⟨⟨a0, a1⟩, y0, y1⟩ := blk2 HB4.out
  cases hv : vCi n gs
  · have HNO : Hid (relOk n gs p = false) := by unfold Hid relOk; rw [hv]; rfl
    clear hv
    have hb := HB4.out.set2 (.int .i64 0) (.slice none 0 0)
    have q0 := hb.cell 0
    have q1 := hb.cell 1
    have HXF : Hid (Ext w ((w2.setCell ⟨w.heap.size + 1, 0, none⟩ (.int .i64 0)).setCell ⟨w.heap.size + 1, 1, none⟩ (.slice none 0 0))) := (HX2.out.setCell (p := ⟨w.heap.size + 1, 0, none⟩) (by show w.heap.size ≤ w.heap.size + 1; omega) _).setCell (p := ⟨w.heap.size + 1, 1, none⟩) (by show w.heap.size ≤ w.heap.size + 1; omega) _
    clear hb
    go_wp2
    generalize (w2.setCell ⟨w.heap.size + 1, 0, none⟩ (.int .i64 0)).setCell ⟨w.heap.size + 1, 1, none⟩ (.slice none 0 0) = WF at *
    exact bodyPost_ret (v := .tuple #[.agg #[.int .i64 0, .slice none 0 0], .bool false]) (by simp [results, Try.results9, go_sem, q0, q1]) rfl (RelE.no HNO.out HXF.out)
  go_wp2_with fail
  refine (impl_IsPermutation_any P np cp p _ (hp.ext HX2.out) hnp).mono ?_
  rintro e w3 ⟨rfl, hx3⟩
  have HX3 : Hid (Ext w w3) := HX2.out.trans hx3
  have HB2' := Lib.hid (HB2.out.ext hx3)
  have HB4' := Lib.hid (HB4.out.ext hx3)
  clear HB2 HB4 HX2 hx3 a0 a1 y0 y1
  obtain ⟨⟨b0, b1⟩, -⟩ := blk2 HB2'.out
  obtain ⟨⟨a0, a1⟩, y0, y1⟩ := blk2 HB4'.out
  cases hpp : perm p
  · have HNO : Hid (relOk n gs p = false) := by unfold Hid relOk; rw [hpp]; simp
    clear hpp hv
    have hb := HB4'.out.set2 (.int .i64 0) (.slice none 0 0)
    have q0 := hb.cell 0
    have q1 := hb.cell 1
    have HXF : Hid (Ext w ((w3.setCell ⟨w.heap.size + 1, 0, none⟩ (.int .i64 0)).setCell ⟨w.heap.size + 1, 1, none⟩ (.slice none 0 0))) := (HX3.out.setCell (p := ⟨w.heap.size + 1, 0, none⟩) (by show w.heap.size ≤ w.heap.size + 1; omega) _).setCell (p := ⟨w.heap.size + 1, 1, none⟩) (by show w.heap.size ≤ w.heap.size + 1; omega) _
    clear hb
    go_wp2
    generalize (w3.setCell ⟨w.heap.size + 1, 0, none⟩ (.int .i64 0)).setCell ⟨w.heap.size + 1, 1, none⟩ (.slice none 0 0) = WF at *
    exact bodyPost_ret (v := .tuple #[.agg #[.int .i64 0, .slice none 0 0], .bool false]) (by simp [results, Try.results9, go_sem, q0, q1]) rfl (RelE.no HNO.out HXF.out)
  cases hne : ((np : Int) == n)
  · have hne' : ((np : Int) != n) = true := by simp [bne, hne]
    have HNO : Hid (relOk n gs p = false) := by unfold Hid relOk; rw [HLP.out, hne]; simp
    clear hpp hv
    have hb := HB4'.out.set2 (.int .i64 0) (.slice none 0 0)
    have q0 := hb.cell 0
    have q1 := hb.cell 1
    have HXF : Hid (Ext w ((w3.setCell ⟨w.heap.size + 1, 0, none⟩ (.int .i64 0)).setCell ⟨w.heap.size + 1, 1, none⟩ (.slice none 0 0))) := (HX3.out.setCell (p := ⟨w.heap.size + 1, 0, none⟩) (by show w.heap.size ≤ w.heap.size + 1; omega) _).setCell (p := ⟨w.heap.size + 1, 1, none⟩) (by show w.heap.size ≤ w.heap.size + 1; omega) _
    clear hb
    go_wp2
    generalize (w3.setCell ⟨w.heap.size + 1, 0, none⟩ (.int .i64 0)).setCell ⟨w.heap.size + 1, 1, none⟩ (.slice none 0 0) = WF at *
    exact bodyPost_ret (v := .tuple #[.agg #[.int .i64 0, .slice none 0 0], .bool false]) (by simp [results, Try.results9, go_sem, q0, q1]) rfl (RelE.no HNO.out HXF.out)
  have hne' : ((np : Int) != n) = false := by simp [bne, hne]
  have HYES : Hid (relOk n gs p = true) := by unfold Hid relOk; rw [hv, hpp, HLP.out, hne]; rfl
  have hnn : (np : Int) = n := beq_iff_eq.1 hne
  have HALL : Hid (∀ g ∈ gs, vg g np = true) := by
    unfold vCi at hv
    simp only [Bool.and_eq_true] at hv
    intro g hg
    rw [hnn]
    exact List.all_eq_true.1 hv.2 g hg
  have HN4 : Hid (np ≤ 4) := by
    unfold vCi at hv
    simp only [Bool.and_eq_true, decide_eq_true_eq] at hv
    show np ≤ 4
    omega
  have HL60 : Hid (l ≤ 60) := by
    unfold vCi at hv
    simp only [Bool.and_eq_true, decide_eq_true_eq] at hv
    show l ≤ 60
    rw [← HGL.out]
    omega
  clear hpp hv hnn
  go_upto_region 4 with (fail)
  have HQ : Hid (Blk (w3.alloc (.cells #[.int .i64 n, .slice none 0 0] 35)) w3.heap.size 35 #[.int .i64 n, .slice none 0 0]) := Blk.new _ _ _
  have HB2 := Lib.hid (HB2'.out.alloc (.cells #[.int .i64 n, .slice none 0 0] 35))
  have HB4 := Lib.hid (HB4'.out.alloc (.cells #[.int .i64 n, .slice none 0 0] 35))
  have HX := Lib.hid (HX3.out.alloc (.cells #[.int .i64 n, .slice none 0 0] 35))
  have hq1 : w.heap.size + 1 < w3.heap.size := HB4'.out.lt
  generalize w3.alloc (.cells #[.int .i64 n, .slice none 0 0] 35) = w4 at *
  generalize w3.heap.size = q at *
  clear HB2' HB4' HX3 hne hne' b0 b1 a0 a1 y0 y1
  obtain ⟨⟨b0, b1⟩, -⟩ := blk2 HB2.out
  go_wp2
  go_loopw [31] (fun i wr => ∃ (k : Nat) (A' : Option Addr) (cap : Nat), k ≤ l ∧ i = .int .i64 k ∧ Hid (Blk wr (w.heap.size + 1) 35 #[.int .i64 0, .slice none 0 0]) ∧ Hid (Blk wr q 35 #[.int .i64 n, .slice A' k cap]) ∧ Hid (wr.ownsRow (q + 1) 43 4 (.slice A' k cap) k (gcells ((gs.take k).map (relG p)))) ∧ Hid (Ext w wr)) (fun i _ => l - (intOf i).toNat)
  case atStart => exact ⟨0, none, 0, Nat.zero_le _, rfl, HB4, HQ, ⟨by simp, .inl ⟨rfl, rfl⟩⟩, HX⟩
  case round =>
    clear HB2 HB4 HQ HX b0 b1
    obtain ⟨k, A', cap, hk, rfl, HB4, HQ, HOWN, HX⟩ := hrel
    by_cases hlt : k < l
    · obtain ⟨bb, oo, g, rfl, -, hg, x0, x1, x2, x3⟩ := gate_at (h.up HX.out (Nat.le_refl _)) hlt
      have HG := Lib.hid hg
      have HLT : Hid (k < l) := hlt
      clear hg
      have HW0 : Hid (wr.heap.size = wr.heap.size) := rfl
      go_upto_region 7 with (fail)
      have hgv := HALL.out g (List.mem_of_getElem? HG.out)
      obtain ⟨-, -, ⟨ga0, ga1⟩, ⟨gb0, gb1⟩, ⟨gc0, gc1⟩, -, -⟩ := vg_all hgv
      clear hgv
      obtain ⟨gk, ga, gb, gc⟩ := g
      obtain ⟨ga, rfl⟩ := Int.eq_ofNat_of_zero_le ga0
      obtain ⟨gb, rfl⟩ := Int.eq_ofNat_of_zero_le gb0
      obtain ⟨gc, rfl⟩ := Int.eq_ofNat_of_zero_le gc0
      simp only at ga1 gb1 gc1
      have hga : ga < np := by omega
      have hgb : gb < np := by omega
      have hgc : gc < np := by omega
      clear ga0 ga1 gb0 gb1 gc0 gc1 x0 x1 x2 x3
      have HX2 : Hid (Ext w (wr.alloc (.cells #[.int .i64 gk, .int .i64 ga, .int .i64 gb, .int .i64 gc] 43))) := HX.out.alloc _
      have HGB : Hid (Blk (wr.alloc (.cells #[.int .i64 gk, .int .i64 ga, .int .i64 gb, .int .i64 gc] 43)) wr.heap.size 43 #[.int .i64 gk, .int .i64 ga, .int .i64 gb, .int .i64 gc]) := Blk.new _ _ _
      have hB6 := HB4.out.alloc (.cells #[.int .i64 gk, .int .i64 ga, .int .i64 gb, .int .i64 gc] 43)
      have hB7 := HQ.out.alloc (.cells #[.int .i64 gk, .int .i64 ga, .int .i64 gb, .int .i64 gc] 43)
      have HOWN2 := Lib.hid (own_ext HOWN.out ((Ext.refl wr).alloc (.cells #[.int .i64 gk, .int .i64 ga, .int .i64 gb, .int .i64 gc] 43)))
      have hqw : q < wr.heap.size := HQ.out.lt
      generalize wr.alloc (.cells #[.int .i64 gk, .int .i64 ga, .int .i64 gb, .int .i64 gc] 43) = w5 at *
      generalize wr.heap.size = s at *
      clear HX HB4 HQ HOWN
      have HROW := Lib.hid HOWN2.out.lt
      have HRC : Hid (∀ w', Ext w w' → Calls Try.prog 27 #[.agg #[.int .i64 gk, .int .i64 ga, .int .i64 gb, .int .i64 gc], .slice P np cp] w' fun e w'' => e = .returned (relG p ⟨gk, ga, gb, gc⟩).val ∧ Ext w' w'') := fun w' hx => impl_relabeled_any gk ga gb gc P np cp p w' (hp.ext hx) HN4.out hga hgb hgc
      obtain ⟨y, hy⟩ : ∃ y, y = relG p ⟨gk, ga, gb, gc⟩ := ⟨_, rfl⟩
      rw [← hy] at HRC
      have HTK : Hid ((gs.take (k + 1)).map (relG p) = (gs.take k).map (relG p) ++ [y]) := by
        unfold Hid
        rw [List.take_add_one, HG.out, List.map_append, hy]
        rfl
      clear hy
      obtain ⟨⟨x0, x1, x2, x3⟩, -⟩ := cells4 HGB.out
      have HS : Hid (∀ w', Ext w5 w' → (w'.cell? ⟨s, 0, none⟩ = some (.int .i64 gk) ∧ w'.cell? ⟨s, 1, none⟩ = some (.int .i64 ga) ∧ w'.cell? ⟨s, 2, none⟩ = some (.int .i64 gb) ∧ w'.cell? ⟨s, 3, none⟩ = some (.int .i64 gc))) := fun w' hx => (cells4 (HGB.out.ext hx)).1
      have c1 : w5.cell? ⟨q, 1, none⟩ = some (.slice A' k cap) := hB7.cell 1
      have f1 : w5.frozen? ⟨q, 1, none⟩ = false := hB7.frozen 1
      have hl60 := HL60.out
      have hsz5 : q + 1 ≤ w5.heap.size := by have := HGB.out.lt; omega
      go_wp2
      go_region_law (first
        | (go_simp; go_at_call 27; refine (HRC.out _ (HX2.out.drew)).mono ?_; rintro e w6 ⟨rfl, hy6⟩; have hz6 : Ext w5 w6 := Ext.trans (Ext.refl w5).drew hy6; have hB73 := hB7.ext hz6; have hB63 := hB6.ext hz6; have k3 : w6.cell? ⟨q, 1, none⟩ = some (.slice A' k cap) := hB73.cell 1; have g3 : w6.frozen? ⟨q, 1, none⟩ = false := hB73.frozen 1; have hl3 := hB73.lt; have hsz6 := hz6.size)
        | (refine stepG1 (B := q + 1) (by rfl) _ _ (by rfl) _ k ((gs.take k).map (relG p)) (by rfl) (own_ext HOWN2.out hz6) (by omega) y _ _ (by rfl) (by rfl) (by omega) ?_; intro A4 c4 w7 ho7 hg7 _; have hB74 := hB73.grown hg7 (fun k hk => by have := HROW.out k hk; omega); have hB64 := hB63.grown hg7 (fun k hk => by have := HROW.out k hk; omega); have k4 : w7.cell? ⟨q, 1, none⟩ = some (.slice A' k cap) := hB74.cell 1; have g4 : w7.frozen? ⟨q, 1, none⟩ = false := hB74.frozen 1))
      all_goals
        have hX7 : Ext w w7 := (HX2.out.trans hz6).grown hg7 (fun k hk => by have := HROW.out k hk; omega)
        clear k4 g4 k3 g3
        go_wp2
        go_roundw
        case rel => exact ⟨k + 1, A4, c4, by have := HLT.out; omega, by go_num, hB64.far (p := ⟨q, 1, none⟩) (by show w.heap.size + 1 ≠ q; omega) _, hB74.set_ 1 _, by unfold Hid; rw [HTK.out]; exact own_set ho7 (p := ⟨q, 1, none⟩) (Nat.lt_succ_self _) _, hX7.setCell (p := ⟨q, 1, none⟩) (by show w.heap.size ≤ q; omega) _⟩
        case measure => simp [intOf]; have := HLT.out; omega
    · have hkl : k = l := by omega
      subst hkl
      obtain ⟨⟨b0, b1⟩, -⟩ := blk2 HQ.out
      obtain ⟨⟨a0, a1⟩, y0, y1⟩ := blk2 HB4.out
      have hb := HB4.out.set2 (.int .i64 n) (.slice A' k cap)
      have q0 := hb.cell 0
      have q1 := hb.cell 1
      have ho := HOWN.out
      rw [List.take_of_length_le (by rw [HGL.out]; exact Nat.le_refl _)] at ho
      have HOF : Hid (((wr.setCell ⟨w.heap.size + 1, 0, none⟩ (.int .i64 n)).setCell ⟨w.heap.size + 1, 1, none⟩ (.slice A' k cap)).ownsRow w.heap.size 43 4 (.slice A' k cap) k (gcells (gs.map (relG p)))) := own_base (own_set (own_set ho (p := ⟨w.heap.size + 1, 0, none⟩) (by show w.heap.size + 1 < q + 1; omega) _) (p := ⟨w.heap.size + 1, 1, none⟩) (by show w.heap.size + 1 < q + 1; omega) _) (by omega)
      have HXF : Hid (Ext w ((wr.setCell ⟨w.heap.size + 1, 0, none⟩ (.int .i64 n)).setCell ⟨w.heap.size + 1, 1, none⟩ (.slice A' k cap))) := (HX.out.setCell (p := ⟨w.heap.size + 1, 0, none⟩) (by show w.heap.size ≤ w.heap.size + 1; omega) _).setCell (p := ⟨w.heap.size + 1, 1, none⟩) (by show w.heap.size ≤ w.heap.size + 1; omega) _
      clear ho hb
      go_wp2
      generalize (wr.setCell ⟨w.heap.size + 1, 0, none⟩ (.int .i64 n)).setCell ⟨w.heap.size + 1, 1, none⟩ (.slice A' k cap) = WF at *
      exact bodyPost_ret (v := .tuple #[.agg #[.int .i64 n, .slice _ _ _], .bool true]) (by simp [results, Try.results9, go_sem, q0, q1]) rfl (RelE.yes HYES.out HGL.out HOF.out HXF.out)
end Go.Proofs.Ytofbmkpfliofeab
