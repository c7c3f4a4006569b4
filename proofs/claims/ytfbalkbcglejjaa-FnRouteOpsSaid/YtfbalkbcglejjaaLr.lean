/-
  Helper text (no claim of its own): a CX along a path, by the program and by the reference.
-/
import Derived.Test.YtfbalkbcglejjaaDec
import Derived.Test.YtfbalkbcglejjaaInt
import Derived.Test.YtfbalkbcglejjaaIn
import Derived.Test.YtfbalkbcglejjaaDrawC
namespace Go.Proofs.Ytfbalkbcglejjaa
open Go.ChangeShapes Go.WideShapes Go.ChangeAt Go.RowKit Go.Deep
set_option linter.unusedVariables false
/-- A CX from the first to the last qubit of a path. -/
def lrL : List Int → List Gt
  | [] => []
  | [_] => []
  | [a, b] => [gcx a b]
  | a :: b :: c :: r => (gcx a b :: lrL (b :: c :: r)) ++ (gcx a b :: lrL (b :: c :: r))
def lr (way : List Int) : List Gt := if 2 ≤ way.length ∧ way.length ≤ 4 then lrL way else []
theorem lr_no {way : List Int} (h : way.length < 2 ∨ 4 < way.length) : lr way = [] := if_neg (by omega)
theorem lr_2 (a b : Int) : lr [a, b] = [gcx a b] := rfl
theorem lr_more {a b c : Int} {r : List Int} (h : r.length ≤ 1) : lr (a :: b :: c :: r) = (gcx a b :: lr (b :: c :: r)) ++ (gcx a b :: lr (b :: c :: r)) := by
  unfold lr
  rw [if_pos (by simp; omega), if_pos (by simp; omega)]
  rfl
theorem lr_len (way : List Int) : (lr way).length ≤ 10 := by
  unfold lr
  split
  · rename_i h
    match way, h with
    | [a, b], _ => simp [lrL]
    | [a, b, c], _ => simp [lrL]
    | [a, b, c, d], _ => simp [lrL]
    | a :: b :: c :: d :: e :: r, h => simp at h
  · simp
theorem rd_tail {w : World} {B n b o : Nat} {a : Int} {l : List Int} (h : Rd w B 1 (some ⟨b, o, none⟩) (n + 1) (icells (a :: l))) : Rd w B 1 (some ⟨b, o + 1, none⟩) n (icells l) := by
  have hl := h.1
  rw [flat_len icell_len] at hl
  refine ⟨by rw [flat_len icell_len]; simp at hl ⊢; omega, fun hn => ?_⟩
  obtain ⟨b', o', e, hb, hc⟩ := h.2 (by omega)
  injection e with e
  injection e with e1 e2
  subst e1 e2
  refine ⟨b, o + 1, rfl, hb, fun j u hu => ?_⟩
  have := hc (j + 1) u (by simpa [icell] using hu)
  rwa [show o + (j + 1) = o + 1 + j from by omega] at this
/-! ### impl -/
set_option maxRecDepth 100000 in
theorem copyGates_any (A : Option Addr) (n c : Nat) (gs : List Gt) (w : World) (h : Rd w w.heap.size 4 A n (gcells gs)) (hn : n ≤ 100000000) :
    Calls Try.prog 90 #[.slice A n c] w fun e w' => ∃ v, e = .returned v ∧ w'.ownsRow w.heap.size 43 4 v n (gcells gs) ∧ Ext w w' := by
  go_enter Try.func90, Try.ntmps90
  go_wp2_with (at_builtin; refine appGateS (w0 := w) rfl _ _ rfl _ 0 [] rfl (own_lit (by repeat (first | exact Ext.refl _ | assumption | refine Ext.alloc ?_ _ | refine Ext.drewN ?_ _ | refine Ext.drew ?_)) _ _ 4 0 #[] _ (by simp) rfl rfl (by omega)) (by repeat (first | exact Ext.refl _ | assumption | refine Ext.alloc ?_ _ | refine Ext.drewN ?_ _ | refine Ext.drew ?_)) A n c gs rfl (h.ext (by repeat (first | exact Ext.refl _ | assumption | refine Ext.alloc ?_ _ | refine Ext.drewN ?_ _ | refine Ext.drew ?_))) (by omega) ?_; intro v1 w1 ho1 hx1 hg1 hb1)
  go_ret
  exact ⟨_, rfl, by simpa using ho1, hx1⟩

/-- What LongRangeCX hands back. -/
def LrE (w : World) (way : List Int) (e : Ending) (w' : World) : Prop := ∃ v, e = .returned v ∧ w'.ownsRow w.heap.size 43 4 v (lr way).length (gcells (lr way)) ∧ Ext w w'
set_option maxRecDepth 100000 in
set_option maxHeartbeats 8000000 in
theorem impl_lr_step (A : Option Addr) (n c : Nat) (way : List Int) (w : World) (h : Rd w w.heap.size 1 A n (icells way)) (hn : n ≤ 100000000) (hc : n ≤ c)
    (ih : 2 ≤ n → ∀ (A' : Option Addr) (c' : Nat) (way' : List Int) (w' : World), Rd w' w'.heap.size 1 A' (n - 1) (icells way') → n - 1 ≤ c' → Calls Try.prog 76 #[.slice A' (n - 1) c'] w' (LrE w' way')) :
    Calls Try.prog 76 #[.slice A n c] w (LrE w way) := by
  have hlen := h.len icell_len (by omega)
  have HIH := Lib.hid ih
  clear ih
  by_cases hb : n < 2 ∨ 4 < n
  · have HF := Lib.hid (lr_no (way := way) (by omega))
    have HB : Hid ((n : Int) < 2 ∨ 4 < (n : Int)) := by unfold Hid; omega
    clear hb hlen
    go_enter Try.func76, Try.ntmps76
    go_wp2_with fail
    refine (in_no _ _ _ _ HB.out).mono ?_
    rintro e w1 ⟨rfl, rfl⟩
    go_wp2
    go_ret
    exact ⟨_, rfl, by rw [HF.out]; exact World.ownsRow_nil _ _ _ _, (by repeat (first | exact Ext.refl _ | assumption | refine Ext.alloc ?_ _ | refine Ext.drewN ?_ _ | refine Ext.drew ?_))⟩
  have hn2 : 2 ≤ n := by omega
  have hn4 : n ≤ 4 := by omega
  clear hb
  obtain ⟨a, t1, rfl, ht1⟩ := lenS (show way.length = (n - 1) + 1 by omega)
  obtain ⟨b, t2, rfl, ht2⟩ := lenS (show t1.length = (n - 2) + 1 by omega)
  obtain ⟨bl, ol, a', rfl, hbl, ha', ca⟩ := int_at h (show 0 < n by omega)
  obtain ⟨_, _, b', e2, _, hb', cb⟩ := int_at h (show 1 < n by omega)
  injection e2 with e2
  injection e2 with e3 e4
  subst e3 e4
  simp at ha' hb'
  subst ha' hb'
  rw [Nat.add_zero] at ca
  have HA := Lib.hid (And.intro ht1 ht2)
  clear hlen ht1 ht2
  have hn0n : 0 < n := by omega
  have hn1n : 1 < n := by omega
  have hn1i : (1 : Int) < (n : Int) := by omega
  have HQ : Hid (∀ w', Ext w w' → w'.cell? ⟨bl, ol, none⟩ = some (.int .i64 a) ∧ w'.cell? ⟨bl, ol + 1, none⟩ = some (.int .i64 b)) := fun w' z => ⟨(z.cell (p := ⟨bl, ol, none⟩) hbl).trans ca, (z.cell (p := ⟨bl, ol + 1, none⟩) hbl).trans cb⟩
  go_enter Try.func76, Try.ntmps76
  go_wp2_with fail
  refine (in_yes _ _ _ _ (by omega) (by omega)).mono ?_
  rintro e w1 ⟨rfl, rfl⟩
  go_wp2
  first | go_region_held3 (fun w' => w'.cell? ⟨bl, ol, none⟩ = some (.int .i64 a) ∧ w'.cell? ⟨bl, ol + 1, none⟩ = some (.int .i64 b))
    (first | (refine HQ.out _ ?_; assumption) | exact HQ.out _ (Ext.refl w).drew | go_keep | exact HQ.out _ (hz0.alloc _) | exact HQ.out _ ((((hz0.setCell (p := ⟨w.heap.size, 0, none⟩) (Nat.le_refl _) _).setCell (p := ⟨w.heap.size, 1, none⟩) (Nat.le_refl _) _).setCell (p := ⟨w.heap.size, 2, none⟩) (Nat.le_refl _) _).setCell (p := ⟨w.heap.size, 3, none⟩) (Nat.le_refl _) _) | exact HQ.out _ ((Ext.refl w).alloc _).drew | (refine HQ.out _ ?_; repeat (first | exact Ext.refl _ | assumption | refine Ext.alloc ?_ _ | refine Ext.drewN ?_ _ | refine Ext.drew ?_); done))
    (first
      | (go_at_call 51; (with_reducible refine (impl_cx_any (w0 := (w.alloc (.cells #[.int .i64 0, .int .i64 0, .int .i64 0, .int .i64 0] 43)).drew) _ _ _ (Ext.refl _)).mono ?_); rintro e w' ⟨rfl, hz1⟩; have hz0 : Ext w w' := Ext.trans (((Ext.refl w).alloc _).drew) hz1; have hB1 : Blk w' w.heap.size 43 #[.int .i64 0, .int .i64 0, .int .i64 0, .int .i64 0] := Blk.ext (w := (w.alloc (.cells #[.int .i64 0, .int .i64 0, .int .i64 0, .int .i64 0] 43)).drew) (Blk.new w _ _) hz1; have f0 := hB1.frozen 0; have f1 := hB1.frozen 1; have f2 := hB1.frozen 2; have f3 := hB1.frozen 3; have g0 : w'.cell? ⟨w.heap.size, 0, none⟩ = some (.int .i64 0) := hB1.cell 0; have g1 : w'.cell? ⟨w.heap.size, 1, none⟩ = some (.int .i64 0) := hB1.cell 1; have g2 : w'.cell? ⟨w.heap.size, 2, none⟩ = some (.int .i64 0) := hB1.cell 2; have g3 : w'.cell? ⟨w.heap.size, 3, none⟩ = some (.int .i64 0) := hB1.cell 3)
      | (go_at_call 51; (with_reducible refine (impl_cx_any (w0 := w) _ _ _ (Ext.refl w).drew).mono ?_); rintro e w' ⟨rfl, hz0⟩)) | fail
  all_goals
    first
      | (have hB3 : Blk ((((w'.setCell ⟨w.heap.size, 0, none⟩ (.int .i64 9)).setCell ⟨w.heap.size, 1, none⟩ (.int .i64 a)).setCell ⟨w.heap.size, 2, none⟩ (.int .i64 b)).setCell ⟨w.heap.size, 3, none⟩ (.int .i64 0)) w.heap.size 43 #[.int .i64 9, .int .i64 a, .int .i64 b, .int .i64 0] := Blk.set4 hB1 _ _ _ _
         have hx3 : Ext w ((((w'.setCell ⟨w.heap.size, 0, none⟩ (.int .i64 9)).setCell ⟨w.heap.size, 1, none⟩ (.int .i64 a)).setCell ⟨w.heap.size, 2, none⟩ (.int .i64 b)).setCell ⟨w.heap.size, 3, none⟩ (.int .i64 0)) := (((hz0.setCell (p := ⟨w.heap.size, 0, none⟩) (Nat.le_refl _) _).setCell (p := ⟨w.heap.size, 1, none⟩) (Nat.le_refl _) _).setCell (p := ⟨w.heap.size, 2, none⟩) (Nat.le_refl _) _).setCell (p := ⟨w.heap.size, 3, none⟩) (Nat.le_refl _) _
         clear f0 f1 f2 f3 g0 g1 g2 g3 hB1 hz1 hz0
         generalize ((((w'.setCell ⟨w.heap.size, 0, none⟩ (.int .i64 9)).setCell ⟨w.heap.size, 1, none⟩ (.int .i64 a)).setCell ⟨w.heap.size, 2, none⟩ (.int .i64 b)).setCell ⟨w.heap.size, 3, none⟩ (.int .i64 0)) = W3 at *
         generalize w.heap.size = fb at hB3 ⊢)
      | (have hB3 : Blk (w'.alloc (.cells #[.int .i64 9, .int .i64 a, .int .i64 b, .int .i64 0] 43)) w'.heap.size 43 #[.int .i64 9, .int .i64 a, .int .i64 b, .int .i64 0] := Blk.new _ _ _
         have hx3 : Ext w (w'.alloc (.cells #[.int .i64 9, .int .i64 a, .int .i64 b, .int .i64 0] 43)) := hz0.alloc _
         clear hz0
         generalize (w'.alloc (.cells #[.int .i64 9, .int .i64 a, .int .i64 b, .int .i64 0] 43)) = W3 at *
         generalize w'.heap.size = fb at hB3 ⊢)
    obtain ⟨⟨k0, k1, k2, k3⟩, _⟩ := blk4 hB3
    have HKF : Hid (∀ w'', Ext W3 w'' → w''.cell? ⟨fb, 0, none⟩ = some (.int .i64 9) ∧ w''.cell? ⟨fb, 1, none⟩ = some (.int .i64 a) ∧ w''.cell? ⟨fb, 2, none⟩ = some (.int .i64 b) ∧ w''.cell? ⟨fb, 3, none⟩ = some (.int .i64 0)) := fun w'' z => (blk4 (hB3.ext z)).1
    by_cases h22 : n = 2
    · have ht2 : t2 = [] := List.eq_nil_of_length_eq_zero (by have := HA.out.2; omega)
      subst ht2 h22
      go_wp2
      go_ret
      exact ⟨_, rfl, by rw [lr_2]; exact own_lit hx3 _ _ 4 1 #[.int .i64 9, .int .i64 a, .int .i64 b, .int .i64 0] (gcells [gcx a b]) rfl rfl rfl (by omega), hx3.alloc _⟩
    have hn22 : ((n : Int) == 2) = false := by rw [beq_eq_false_iff_ne]; omega
    have hn1b : ((1 : Int) ≤ (n : Int)) := by omega
    have hc1b : ((1 : Int) ≤ (c : Int)) := by omega
    have hc1n : 1 < c := by omega
    have hc1e : ¬ c = 1 := by omega
    obtain ⟨c3, t3, rfl, ht3⟩ := lenS (show t2.length = (n - 3) + 1 by have := HA.out.2; omega)
    have HM := Lib.hid (lr_more (a := a) (b := b) (c := c3) (r := t3) (by omega))
    have hll := lr_len (b :: c3 :: t3)
    have hRT : Hid (∀ w'', Ext w w'' → Rd w'' w''.heap.size 1 (some ⟨bl, ol + 1, none⟩) (n - 1) (icells (b :: c3 :: t3))) := fun w'' z => rd_tail (a := a) (by rw [show n - 1 + 1 = n by omega]; exact h.ext z)
    clear h22 ht3
    go_wp2
    first | go_region_held3 (fun w'' => w''.cell? ⟨fb, 0, none⟩ = some (.int .i64 9) ∧ w''.cell? ⟨fb, 1, none⟩ = some (.int .i64 a) ∧ w''.cell? ⟨fb, 2, none⟩ = some (.int .i64 b) ∧ w''.cell? ⟨fb, 3, none⟩ = some (.int .i64 0))
      (first | (refine HKF.out _ ?_; assumption) | exact HKF.out _ (Ext.refl W3).drew | go_keep | (refine HKF.out _ ?_; repeat (first | exact Ext.refl _ | assumption | refine Ext.alloc ?_ _ | refine Ext.drewN ?_ _ | refine Ext.drew ?_); done))
      (first
        | (go_at_call 76; refine (HIH.out hn2 _ _ (b :: c3 :: t3) _ (hRT.out _ (hx3.trans (by repeat (first | exact Ext.refl _ | assumption | refine Ext.alloc ?_ _ | refine Ext.drewN ?_ _ | refine Ext.drew ?_)))) (by omega)).mono ?_; rintro e w4 ⟨v4, rfl, ho4, hy4⟩; have hq4 : Ext W3 w4 := Ext.trans (by repeat (first | exact Ext.refl _ | assumption | refine Ext.alloc ?_ _ | refine Ext.drewN ?_ _ | refine Ext.drew ?_)) hy4; obtain ⟨A4, c4, rfl, hr4⟩ := own_slice ho4)
        | (refine stepGateS (w0 := w) (by rfl) _ _ (by rfl) _ 1 [gcx a b] (by rfl) (own_ext (own_lit hx3 W3.heap.size 43 4 1 #[.int .i64 9, .int .i64 a, .int .i64 b, .int .i64 0] _ rfl rfl rfl (by omega)) (Ext.trans ((Ext.refl _).drew) hy4)) (hx3.trans hq4) A4 _ c4 (lr (b :: c3 :: t3)) (by rfl) hr4 (by omega) ?_; intro v5 w5 ho5 hx5 hg5 hb5; have hz5 : Ext W3 w5 := hq4.grown hg5 (fun k hk => by simp [Value.ownBlock] at hk; omega))
        | (refine stepGateS (w0 := w) (by rfl) _ _ (by rfl) _ 1 [gcx a b] (by rfl) (own_lit (hx3.trans hq4) w4.heap.size 43 4 1 #[.int .i64 9, .int .i64 a, .int .i64 b, .int .i64 0] _ rfl rfl rfl (by omega)) ((hx3.trans hq4).alloc _) A4 _ c4 (lr (b :: c3 :: t3)) (by rfl) (hr4.ext ((Ext.refl w4).alloc _)) (by omega) ?_; intro v5 w5 ho5 hx5 hg5 hb5; have hz5 : Ext W3 w5 := (hq4.alloc _).grown hg5 (fun k hk => by have := hq4.size; simp [Value.ownBlock] at hk; omega))) | fail
    all_goals
      have hlen5 : 1 + (lr (b :: c3 :: t3)).length = (gcx a b :: lr (b :: c3 :: t3)).length := by simp [Nat.add_comm]
      have hl11 : (gcx a b :: lr (b :: c3 :: t3)).length ≤ 11 := by simp; omega
      rw [hlen5] at ho5
      replace ho5 : w5.ownsRow w.heap.size 43 4 v5 (gcx a b :: lr (b :: c3 :: t3)).length (gcells (gcx a b :: lr (b :: c3 :: t3))) := ho5
      generalize gcx a b :: lr (b :: c3 :: t3) = half at *
      obtain ⟨A5, c5, rfl, hr5⟩ := own_slice ho5
      clear hlen5 k0 k1 k2 k3 hg5 hb5 ho5
      go_wp2_with fail
      refine (copyGates_any A5 _ c5 half _ hr5 (by omega)).mono ?_
      rintro e w6 ⟨v6, rfl, ho6, hy6⟩
      go_wp2_with (at_builtin; refine appGateS (w0 := w) rfl _ _ rfl _ half.length half rfl (own_base ho6 hx5.size) (hx5.trans hy6) A5 _ c5 half rfl (hr5.ext hy6) (by omega) ?_; intro v7 w7 ho7 hx7 hg7 hb7)
      go_ret
      exact ⟨_, rfl, by rw [HM.out, List.length_append]; exact ho7, hx7⟩
/-! ### spec -/

set_option maxRecDepth 100000 in
set_option maxHeartbeats 8000000 in
theorem spec_lr_step (A : Option Addr) (n c : Nat) (way : List Int) (w : World) (h : Rd w w.heap.size 1 A n (icells way)) (hn : n ≤ 100000000) (hc : n ≤ c)
    (ih : 2 ≤ n → ∀ (A' : Option Addr) (c' : Nat) (way' : List Int) (w' : World), Rd w' w'.heap.size 1 A' (n - 1) (icells way') → n - 1 ≤ c' → Calls Try.prog 82 #[.slice A' (n - 1) c'] w' (LrE w' way')) :
    Calls Try.prog 82 #[.slice A n c] w (LrE w way) := by
  have hlen := h.len icell_len (by omega)
  have HIH := Lib.hid ih
  clear ih
  by_cases hb : n < 2 ∨ 4 < n
  · have HF := Lib.hid (lr_no (way := way) (by omega))
    have HB : Hid ((n : Int) < 2 ∨ 4 < (n : Int)) := by unfold Hid; omega
    clear hb hlen
    go_enter Try.func82, Try.ntmps82
    go_wp2_with fail
    refine (l1In_no _ _ _ _ HB.out).mono ?_
    rintro e w1 ⟨rfl, rfl⟩
    go_wp2
    go_ret
    exact ⟨_, rfl, by rw [HF.out]; exact own_lit (Ext.refl _) _ _ 4 0 #[] _ rfl rfl rfl (by omega), (by repeat (first | exact Ext.refl _ | assumption | refine Ext.alloc ?_ _ | refine Ext.drewN ?_ _ | refine Ext.drew ?_))⟩
  have hn2 : 2 ≤ n := by omega
  have hn4 : n ≤ 4 := by omega
  clear hb
  obtain ⟨a, t1, rfl, ht1⟩ := lenS (show way.length = (n - 1) + 1 by omega)
  obtain ⟨b, t2, rfl, ht2⟩ := lenS (show t1.length = (n - 2) + 1 by omega)
  obtain ⟨bl, ol, a', rfl, hbl, ha', ca⟩ := int_at h (show 0 < n by omega)
  obtain ⟨_, _, b', e2, _, hb', cb⟩ := int_at h (show 1 < n by omega)
  injection e2 with e2
  injection e2 with e3 e4
  subst e3 e4
  simp at ha' hb'
  subst ha' hb'
  rw [Nat.add_zero] at ca
  have HA := Lib.hid (And.intro ht1 ht2)
  clear hlen ht1 ht2
  have hn0n : 0 < n := by omega
  have hn1n : 1 < n := by omega
  have hn1i : (1 : Int) < (n : Int) := by omega
  have HQ : Hid (∀ w', Ext w w' → w'.cell? ⟨bl, ol, none⟩ = some (.int .i64 a) ∧ w'.cell? ⟨bl, ol + 1, none⟩ = some (.int .i64 b)) := fun w' z => ⟨(z.cell (p := ⟨bl, ol, none⟩) hbl).trans ca, (z.cell (p := ⟨bl, ol + 1, none⟩) hbl).trans cb⟩
  go_enter Try.func82, Try.ntmps82
  go_wp2_with fail
  refine (l1In_yes _ _ _ _ (by omega) (by omega)).mono ?_
  rintro e w1 ⟨rfl, rfl⟩
  go_wp2
  first | go_region_held3 (fun w' => w'.cell? ⟨bl, ol, none⟩ = some (.int .i64 a) ∧ w'.cell? ⟨bl, ol + 1, none⟩ = some (.int .i64 b))
    (first | (refine HQ.out _ ?_; assumption) | exact HQ.out _ (Ext.refl w).drew | go_keep | exact HQ.out _ (hz0.alloc _) | exact HQ.out _ ((((hz0.setCell (p := ⟨w.heap.size, 0, none⟩) (Nat.le_refl _) _).setCell (p := ⟨w.heap.size, 1, none⟩) (Nat.le_refl _) _).setCell (p := ⟨w.heap.size, 2, none⟩) (Nat.le_refl _) _).setCell (p := ⟨w.heap.size, 3, none⟩) (Nat.le_refl _) _) | exact HQ.out _ ((Ext.refl w).alloc _).drew | (refine HQ.out _ ?_; repeat (first | exact Ext.refl _ | assumption | refine Ext.alloc ?_ _ | refine Ext.drewN ?_ _ | refine Ext.drew ?_); done))
    (first
      | (go_at_call 73; (with_reducible refine (spec_cx_any (w0 := (w.alloc (.cells #[.int .i64 0, .int .i64 0, .int .i64 0, .int .i64 0] 43)).drew) _ _ _ (Ext.refl _)).mono ?_); rintro e w' ⟨rfl, hz1⟩; have hz0 : Ext w w' := Ext.trans (((Ext.refl w).alloc _).drew) hz1; have hB1 : Blk w' w.heap.size 43 #[.int .i64 0, .int .i64 0, .int .i64 0, .int .i64 0] := Blk.ext (w := (w.alloc (.cells #[.int .i64 0, .int .i64 0, .int .i64 0, .int .i64 0] 43)).drew) (Blk.new w _ _) hz1; have f0 := hB1.frozen 0; have f1 := hB1.frozen 1; have f2 := hB1.frozen 2; have f3 := hB1.frozen 3; have g0 : w'.cell? ⟨w.heap.size, 0, none⟩ = some (.int .i64 0) := hB1.cell 0; have g1 : w'.cell? ⟨w.heap.size, 1, none⟩ = some (.int .i64 0) := hB1.cell 1; have g2 : w'.cell? ⟨w.heap.size, 2, none⟩ = some (.int .i64 0) := hB1.cell 2; have g3 : w'.cell? ⟨w.heap.size, 3, none⟩ = some (.int .i64 0) := hB1.cell 3)
      | (go_at_call 73; (with_reducible refine (spec_cx_any (w0 := w) _ _ _ (Ext.refl w).drew).mono ?_); rintro e w' ⟨rfl, hz0⟩)) | fail
  all_goals
    first
      | (have hB3 : Blk ((((w'.setCell ⟨w.heap.size, 0, none⟩ (.int .i64 9)).setCell ⟨w.heap.size, 1, none⟩ (.int .i64 a)).setCell ⟨w.heap.size, 2, none⟩ (.int .i64 b)).setCell ⟨w.heap.size, 3, none⟩ (.int .i64 0)) w.heap.size 43 #[.int .i64 9, .int .i64 a, .int .i64 b, .int .i64 0] := Blk.set4 hB1 _ _ _ _
         have hx3 : Ext w ((((w'.setCell ⟨w.heap.size, 0, none⟩ (.int .i64 9)).setCell ⟨w.heap.size, 1, none⟩ (.int .i64 a)).setCell ⟨w.heap.size, 2, none⟩ (.int .i64 b)).setCell ⟨w.heap.size, 3, none⟩ (.int .i64 0)) := (((hz0.setCell (p := ⟨w.heap.size, 0, none⟩) (Nat.le_refl _) _).setCell (p := ⟨w.heap.size, 1, none⟩) (Nat.le_refl _) _).setCell (p := ⟨w.heap.size, 2, none⟩) (Nat.le_refl _) _).setCell (p := ⟨w.heap.size, 3, none⟩) (Nat.le_refl _) _
         clear f0 f1 f2 f3 g0 g1 g2 g3 hB1 hz1 hz0
         generalize ((((w'.setCell ⟨w.heap.size, 0, none⟩ (.int .i64 9)).setCell ⟨w.heap.size, 1, none⟩ (.int .i64 a)).setCell ⟨w.heap.size, 2, none⟩ (.int .i64 b)).setCell ⟨w.heap.size, 3, none⟩ (.int .i64 0)) = W3 at *
         generalize w.heap.size = fb at hB3 ⊢)
      | (have hB3 : Blk (w'.alloc (.cells #[.int .i64 9, .int .i64 a, .int .i64 b, .int .i64 0] 43)) w'.heap.size 43 #[.int .i64 9, .int .i64 a, .int .i64 b, .int .i64 0] := Blk.new _ _ _
         have hx3 : Ext w (w'.alloc (.cells #[.int .i64 9, .int .i64 a, .int .i64 b, .int .i64 0] 43)) := hz0.alloc _
         clear hz0
         generalize (w'.alloc (.cells #[.int .i64 9, .int .i64 a, .int .i64 b, .int .i64 0] 43)) = W3 at *
         generalize w'.heap.size = fb at hB3 ⊢)
    obtain ⟨⟨k0, k1, k2, k3⟩, _⟩ := blk4 hB3
    have HKF : Hid (∀ w'', Ext W3 w'' → w''.cell? ⟨fb, 0, none⟩ = some (.int .i64 9) ∧ w''.cell? ⟨fb, 1, none⟩ = some (.int .i64 a) ∧ w''.cell? ⟨fb, 2, none⟩ = some (.int .i64 b) ∧ w''.cell? ⟨fb, 3, none⟩ = some (.int .i64 0)) := fun w'' z => (blk4 (hB3.ext z)).1
    by_cases h22 : n = 2
    · have ht2 : t2 = [] := List.eq_nil_of_length_eq_zero (by have := HA.out.2; omega)
      subst ht2 h22
      go_wp2
      go_ret
      exact ⟨_, rfl, by rw [lr_2]; exact own_lit hx3 _ _ 4 1 #[.int .i64 9, .int .i64 a, .int .i64 b, .int .i64 0] (gcells [gcx a b]) rfl rfl rfl (by omega), hx3.alloc _⟩
    have hn22 : ((n : Int) == 2) = false := by rw [beq_eq_false_iff_ne]; omega
    have hn1b : ((1 : Int) ≤ (n : Int)) := by omega
    have hc1b : ((1 : Int) ≤ (c : Int)) := by omega
    have hc1n : 1 < c := by omega
    have hc1e : ¬ c = 1 := by omega
    obtain ⟨c3, t3, rfl, ht3⟩ := lenS (show t2.length = (n - 3) + 1 by have := HA.out.2; omega)
    have HM := Lib.hid (lr_more (a := a) (b := b) (c := c3) (r := t3) (by omega))
    have hll := lr_len (b :: c3 :: t3)
    have hRT : Hid (∀ w'', Ext w w'' → Rd w'' w''.heap.size 1 (some ⟨bl, ol + 1, none⟩) (n - 1) (icells (b :: c3 :: t3))) := fun w'' z => rd_tail (a := a) (by rw [show n - 1 + 1 = n by omega]; exact h.ext z)
    clear h22 ht3
    go_wp2
    first | go_region_held3 (fun w'' => w''.cell? ⟨fb, 0, none⟩ = some (.int .i64 9) ∧ w''.cell? ⟨fb, 1, none⟩ = some (.int .i64 a) ∧ w''.cell? ⟨fb, 2, none⟩ = some (.int .i64 b) ∧ w''.cell? ⟨fb, 3, none⟩ = some (.int .i64 0))
      (first | (refine HKF.out _ ?_; assumption) | exact HKF.out _ (Ext.refl W3).drew | go_keep | (refine HKF.out _ ?_; repeat (first | exact Ext.refl _ | assumption | refine Ext.alloc ?_ _ | refine Ext.drewN ?_ _ | refine Ext.drew ?_); done))
      (first
        | (go_at_call 82; refine (HIH.out hn2 _ _ (b :: c3 :: t3) _ (hRT.out _ (hx3.trans (by repeat (first | exact Ext.refl _ | assumption | refine Ext.alloc ?_ _ | refine Ext.drewN ?_ _ | refine Ext.drew ?_)))) (by omega)).mono ?_; rintro e w4 ⟨v4, rfl, ho4, hy4⟩; have hq4 : Ext W3 w4 := Ext.trans (by repeat (first | exact Ext.refl _ | assumption | refine Ext.alloc ?_ _ | refine Ext.drewN ?_ _ | refine Ext.drew ?_)) hy4; obtain ⟨A4, c4, rfl, hr4⟩ := own_slice ho4)
        | (refine stepGateS (w0 := w) (by rfl) _ _ (by rfl) _ 1 [gcx a b] (by rfl) (own_ext (own_lit hx3 W3.heap.size 43 4 1 #[.int .i64 9, .int .i64 a, .int .i64 b, .int .i64 0] _ rfl rfl rfl (by omega)) (Ext.trans ((Ext.refl _).drew) hy4)) (hx3.trans hq4) A4 _ c4 (lr (b :: c3 :: t3)) (by rfl) hr4 (by omega) ?_; intro v5 w5 ho5 hx5 hg5 hb5; have hz5 : Ext W3 w5 := hq4.grown hg5 (fun k hk => by simp [Value.ownBlock] at hk; omega))
        | (refine stepGateS (w0 := w) (by rfl) _ _ (by rfl) _ 1 [gcx a b] (by rfl) (own_lit (hx3.trans hq4) w4.heap.size 43 4 1 #[.int .i64 9, .int .i64 a, .int .i64 b, .int .i64 0] _ rfl rfl rfl (by omega)) ((hx3.trans hq4).alloc _) A4 _ c4 (lr (b :: c3 :: t3)) (by rfl) (hr4.ext ((Ext.refl w4).alloc _)) (by omega) ?_; intro v5 w5 ho5 hx5 hg5 hb5; have hz5 : Ext W3 w5 := (hq4.alloc _).grown hg5 (fun k hk => by have := hq4.size; simp [Value.ownBlock] at hk; omega))) | fail
    all_goals
      have hlen5 : 1 + (lr (b :: c3 :: t3)).length = (gcx a b :: lr (b :: c3 :: t3)).length := by simp [Nat.add_comm]
      have hl11 : (gcx a b :: lr (b :: c3 :: t3)).length ≤ 11 := by simp; omega
      rw [hlen5] at ho5
      replace ho5 : w5.ownsRow w.heap.size 43 4 v5 (gcx a b :: lr (b :: c3 :: t3)).length (gcells (gcx a b :: lr (b :: c3 :: t3))) := ho5
      generalize gcx a b :: lr (b :: c3 :: t3) = half at *
      obtain ⟨A5, c5, rfl, hr5⟩ := own_slice ho5
      clear hlen5 k0 k1 k2 k3 hg5 hb5 ho5
      have tok1 : True := trivial
      go_wp2_with (first | (at_builtin; have _t := tok1; refine appGateS (w0 := w) rfl _ _ rfl (.slice (some ⟨w5.heap.size, 0, none⟩) 0 0) 0 [] rfl (own_lit hx5 _ _ 4 0 #[] _ (by simp) rfl rfl (by omega)) (hx5.alloc _) A5 _ c5 half rfl (hr5.ext ((Ext.refl w5).alloc _)) (by omega) ?_; intro v6 w6 ho6 hx6 hg6 hb6; have hy6 : Ext w5 w6 := ((Ext.refl w5).alloc _).grown hg6 (fun k hk => by simp [Value.ownBlock] at hk; omega); have ho6' : w6.ownsRow w.heap.size 43 4 v6 half.length (gcells half) := (by simpa using ho6); clear tok1 ho6 hg6 hb6) | (at_builtin; refine appGateS (w0 := w) rfl _ _ rfl _ half.length half rfl ho6' hx6 A5 _ c5 half rfl (hr5.ext hy6) (by omega) ?_; intro v7 w7 ho7 hx7 hg7 hb7))
      go_ret
      exact ⟨_, rfl, by rw [HM.out, List.length_append]; exact ho7, hx7⟩
theorem impl_LongRangeCX_any : ∀ (n : Nat) (A : Option Addr) (c : Nat) (way : List Int) (w : World), n ≤ 100000000 → Rd w w.heap.size 1 A n (icells way) → n ≤ c → Calls Try.prog 76 #[.slice A n c] w (LrE w way)
  | 0, A, c, way, w, hn, h, hc => by
    exact impl_lr_step A 0 c way w h hn hc (fun h2 => absurd h2 (by omega))
  | n + 1, A, c, way, w, hn, h, hc => impl_lr_step A (n + 1) c way w h hn hc (fun _ A' c' way' w' h' hc' => impl_LongRangeCX_any n A' c' way' w' (by omega) h' hc')
theorem spec_LongRangeCX_any : ∀ (n : Nat) (A : Option Addr) (c : Nat) (way : List Int) (w : World), n ≤ 100000000 → Rd w w.heap.size 1 A n (icells way) → n ≤ c → Calls Try.prog 82 #[.slice A n c] w (LrE w way)
  | 0, A, c, way, w, hn, h, hc => by
    exact spec_lr_step A 0 c way w h hn hc (fun h2 => absurd h2 (by omega))
  | n + 1, A, c, way, w, hn, h, hc => spec_lr_step A (n + 1) c way w h hn hc (fun _ A' c' way' w' h' hc' => spec_LongRangeCX_any n A' c' way' w' (by omega) h' hc')
end Go.Proofs.Ytfbalkbcglejjaa
