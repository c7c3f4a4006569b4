/-
  Helper text (no claim of its own): the decomposition of a gate, by the program and by the reference.
-/
import Derived.Test.YtofbmkpfliofeabGate
namespace Go.Proofs.Ytofbmkpfliofeab
open Go.ChangeShapes Go.WideShapes Go.ChangeAt Go.RowKit Go.Deep
def g1 (k a : Int) : Gt := ⟨k, a, 0, 0⟩
def gcx (a b : Int) : Gt := ⟨9, a, b, 0⟩
def dec (g : Gt) : List Gt :=
  if (g.k == 10) = true then [g1 4 g.b, gcx g.a g.b, g1 4 g.b]
  else if (g.k == 11) = true then [gcx g.a g.b, gcx g.b g.a, gcx g.a g.b]
  else if (g.k == 12) = true then [g1 4 g.c, gcx g.b g.c, g1 8 g.c, gcx g.a g.c, g1 7 g.c, gcx g.b g.c, g1 8 g.c, gcx g.a g.c, g1 7 g.b, g1 7 g.c, g1 4 g.c, gcx g.a g.b, g1 7 g.a, g1 8 g.b, gcx g.a g.b]
  else [g]
theorem dec10 {g : Gt} (h : (g.k == 10) = true) : dec g = [g1 4 g.b, gcx g.a g.b, g1 4 g.b] := if_pos h
theorem dec11 {g : Gt} (h0 : (g.k == 10) = false) (h : (g.k == 11) = true) : dec g = [gcx g.a g.b, gcx g.b g.a, gcx g.a g.b] := by unfold dec; rw [if_neg (by simp [h0]), if_pos h]
theorem dec12 {g : Gt} (h0 : (g.k == 10) = false) (h1 : (g.k == 11) = false) (h : (g.k == 12) = true) : dec g = [g1 4 g.c, gcx g.b g.c, g1 8 g.c, gcx g.a g.c, g1 7 g.c, gcx g.b g.c, g1 8 g.c, gcx g.a g.c] ++ [g1 7 g.b, g1 7 g.c, g1 4 g.c, gcx g.a g.b, g1 7 g.a, g1 8 g.b, gcx g.a g.b] := by unfold dec; rw [if_neg (by simp [h0]), if_neg (by simp [h1]), if_pos h]; rfl
theorem decN {g : Gt} (h0 : (g.k == 10) = false) (h1 : (g.k == 11) = false) (h2 : (g.k == 12) = false) : dec g = [g] := by unfold dec; rw [if_neg (by simp [h0]), if_neg (by simp [h1]), if_neg (by simp [h2])]
theorem dec_len (g : Gt) : (dec g).length ≤ 15 := by unfold dec; split <;> (try split) <;> (try split) <;> simp
/-- One for H, none for any other gate. -/
def hct (g : Gt) : Nat := if (g.k == 4) = true then 1 else 0
def hcs (gs : List Gt) : Nat := (gs.map hct).sum
theorem hcs_cons (g : Gt) (gs : List Gt) : hcs (g :: gs) = hct g + hcs gs := by unfold hcs; rw [List.map_cons, List.sum_cons]
theorem hcs_app (gs hs : List Gt) : hcs (gs ++ hs) = hcs gs + hcs hs := by unfold hcs; rw [List.map_append, List.sum_append]
theorem hct_le (g : Gt) : hct g ≤ 1 := by unfold hct; split <;> omega
theorem hcs_le (gs : List Gt) : hcs gs ≤ gs.length := by
  induction gs with
  | nil => exact Nat.le_refl _
  | cons g gs ih => rw [hcs_cons, List.length_cons]; have := hct_le g; omega
theorem hcs_snoc (gs : List Gt) (g : Gt) : hcs (gs ++ [g]) = hcs gs + hct g := by rw [hcs_app, hcs_cons]; rfl
theorem hcs_dec (g : Gt) : hcs (dec g) ≤ 2 := by
  cases h0 : (g.k == 10)
  · cases h1 : (g.k == 11)
    · cases h2 : (g.k == 12)
      · rw [decN h0 h1 h2, hcs_cons]; have := hct_le g; show hct g + 0 ≤ 2; omega
      · rw [dec12 h0 h1 h2]; exact Nat.le_refl 2
    · rw [dec11 h0 h1]; exact Nat.zero_le 2
  · rw [dec10 h0]; exact Nat.le_refl 2

theorem spec_one_any {w0 : World} (a b : Int) (w : World) (hx : Ext w0 w) : Calls Try.prog 24 #[.int .i64 a, .int .i64 b] w fun e w' => e = .returned (.agg #[.int .i64 a, .int .i64 b, .int .i64 0, .int .i64 0]) ∧ Ext w0 w' := by
  have H := Lib.hid hx
  clear hx
  go_enter Try.func24, Try.ntmps24
  go_wp2
  exact bodyPost_ret (v := .agg #[.int .i64 a, .int .i64 b, .int .i64 0, .int .i64 0]) (by simp [results, Try.results24, go_sem]) rfl ⟨rfl, H.out.alloc _⟩

theorem spec_cx_any {w0 : World} (a b : Int) (w : World) (hx : Ext w0 w) : Calls Try.prog 49 #[.int .i64 a, .int .i64 b] w fun e w' => e = .returned (.agg #[.int .i64 9, .int .i64 a, .int .i64 b, .int .i64 0]) ∧ Ext w0 w' := by
  have H := Lib.hid hx
  clear hx
  go_enter Try.func49, Try.ntmps49
  go_wp2
  exact bodyPost_ret (v := .agg #[.int .i64 9, .int .i64 a, .int .i64 b, .int .i64 0]) (by simp [results, Try.results49, go_sem]) rfl ⟨rfl, H.out.alloc _⟩

set_option maxRecDepth 100000 in
set_option maxHeartbeats 4000000 in
theorem spec_DecomposeGate_any (g : Gt) (w : World) : Calls Try.prog 79 #[g.val] w fun e w' => ∃ v, e = .returned v ∧ w'.ownsRow w.heap.size 43 4 v (dec g).length (gcells (dec g)) ∧ Ext w w' := by
  have hx : Ext w (w.alloc (.cells #[.int .i64 g.k, .int .i64 g.a, .int .i64 g.b, .int .i64 g.c] 43)) := (Ext.refl w).alloc _
  cases h10 : (g.k == 10)
  · cases h11 : (g.k == 11)
    · cases h12 : (g.k == 12)
      · rw [decN h10 h11 h12]
        go_enter Try.func79, Try.ntmps79
        go_wp2_with (first | (go_at_call 24; refine (spec_one_any _ _ _ hx).mono ?_; clear hx; rintro e w' ⟨rfl, hx⟩) | (go_at_call 49; refine (spec_cx_any _ _ _ hx).mono ?_; clear hx; rintro e w' ⟨rfl, hx⟩))
        go_ret
        exact ⟨_, rfl, own_lit hx _ _ 4 1 #[.int .i64 g.k, .int .i64 g.a, .int .i64 g.b, .int .i64 g.c] _ (by simp) rfl rfl (by omega), hx.alloc _⟩
      · rw [dec12 h10 h11 h12]
        go_enter Try.func79, Try.ntmps79
        go_upto_region 11 with ((first | (go_at_call 24; refine (spec_one_any _ _ _ hx).mono ?_; clear hx; rintro e w' ⟨rfl, hx⟩) | (go_at_call 49; refine (spec_cx_any _ _ _ hx).mono ?_; clear hx; rintro e w' ⟨rfl, hx⟩)))
        have ho := own_lit hx _ 43 4 8 #[.int .i64 4, .int .i64 g.c, .int .i64 0, .int .i64 0, .int .i64 9, .int .i64 g.b, .int .i64 g.c, .int .i64 0, .int .i64 8, .int .i64 g.c, .int .i64 0, .int .i64 0, .int .i64 9, .int .i64 g.a, .int .i64 g.c, .int .i64 0, .int .i64 7, .int .i64 g.c, .int .i64 0, .int .i64 0, .int .i64 9, .int .i64 g.b, .int .i64 g.c, .int .i64 0, .int .i64 8, .int .i64 g.c, .int .i64 0, .int .i64 0, .int .i64 9, .int .i64 g.a, .int .i64 g.c, .int .i64 0] (gcells [g1 4 g.c, gcx g.b g.c, g1 8 g.c, gcx g.a g.c, g1 7 g.c, gcx g.b g.c, g1 8 g.c, gcx g.a g.c]) rfl rfl rfl (by omega)
        have hx2 := Ext.refl (w'.alloc (.cells #[.int .i64 4, .int .i64 g.c, .int .i64 0, .int .i64 0, .int .i64 9, .int .i64 g.b, .int .i64 g.c, .int .i64 0, .int .i64 8, .int .i64 g.c, .int .i64 0, .int .i64 0, .int .i64 9, .int .i64 g.a, .int .i64 g.c, .int .i64 0, .int .i64 7, .int .i64 g.c, .int .i64 0, .int .i64 0, .int .i64 9, .int .i64 g.b, .int .i64 g.c, .int .i64 0, .int .i64 8, .int .i64 g.c, .int .i64 0, .int .i64 0, .int .i64 9, .int .i64 g.a, .int .i64 g.c, .int .i64 0] 43))
        have hx0 := hx.alloc (.cells #[.int .i64 4, .int .i64 g.c, .int .i64 0, .int .i64 0, .int .i64 9, .int .i64 g.b, .int .i64 g.c, .int .i64 0, .int .i64 8, .int .i64 g.c, .int .i64 0, .int .i64 0, .int .i64 9, .int .i64 g.a, .int .i64 g.c, .int .i64 0, .int .i64 7, .int .i64 g.c, .int .i64 0, .int .i64 0, .int .i64 9, .int .i64 g.b, .int .i64 g.c, .int .i64 0, .int .i64 8, .int .i64 g.c, .int .i64 0, .int .i64 0, .int .i64 9, .int .i64 g.a, .int .i64 g.c, .int .i64 0] 43)
        clear hx
        go_wp2_with (first | (at_builtin; refine appGateS (w0 := w) rfl _ _ rfl _ 8 [g1 4 g.c, gcx g.b g.c, g1 8 g.c, gcx g.a g.c, g1 7 g.c, gcx g.b g.c, g1 8 g.c, gcx g.a g.c] rfl ((own_ext ho hx2).alloc _) ((hx0.trans hx2).alloc _) _ 7 7 [g1 7 g.b, g1 7 g.c, g1 4 g.c, gcx g.a g.b, g1 7 g.a, g1 8 g.b, gcx g.a g.b] rfl (rd_newN _ _ _ _ 7 4 _ rfl (by simp [Gt.cells, g1, gcx]) rfl) (by omega) ?_; intro v1 w1 ho1 hx1 hg1 hb1) | (go_at_call 24; refine (spec_one_any _ _ _ hx2).mono ?_; clear hx2; rintro e w' ⟨rfl, hx2⟩) | (go_at_call 49; refine (spec_cx_any _ _ _ hx2).mono ?_; clear hx2; rintro e w' ⟨rfl, hx2⟩))
        go_ret
        exact ⟨v1, rfl, ho1, hx1⟩
    · rw [dec11 h10 h11]
      go_enter Try.func79, Try.ntmps79
      go_wp2_with (first | (go_at_call 24; refine (spec_one_any _ _ _ hx).mono ?_; clear hx; rintro e w' ⟨rfl, hx⟩) | (go_at_call 49; refine (spec_cx_any _ _ _ hx).mono ?_; clear hx; rintro e w' ⟨rfl, hx⟩))
      go_ret
      exact ⟨_, rfl, own_lit hx _ _ 4 3 _ _ rfl (by simp [Gt.cells, gcx]) rfl (by omega), hx.alloc _⟩
  · rw [dec10 h10]
    go_enter Try.func79, Try.ntmps79
    go_wp2_with (first | (go_at_call 24; refine (spec_one_any _ _ _ hx).mono ?_; clear hx; rintro e w' ⟨rfl, hx⟩) | (go_at_call 49; refine (spec_cx_any _ _ _ hx).mono ?_; clear hx; rintro e w' ⟨rfl, hx⟩))
    go_ret
    exact ⟨_, rfl, own_lit hx _ _ _ _ _ _ rfl (by simp [Gt.cells, g1, gcx]) rfl (by simp), hx.alloc _⟩

theorem impl_one_any {w0 : World} (a b : Int) (w : World) (hx : Ext w0 w) : Calls Try.prog 16 #[.int .i64 a, .int .i64 b] w fun e w' => e = .returned (.agg #[.int .i64 a, .int .i64 b, .int .i64 0, .int .i64 0]) ∧ Ext w0 w' := by
  have H := Lib.hid hx
  clear hx
  go_enter Try.func16, Try.ntmps16
  go_wp2
  exact bodyPost_ret (v := .agg #[.int .i64 a, .int .i64 b, .int .i64 0, .int .i64 0]) (by simp [results, Try.results16, go_sem]) rfl ⟨rfl, H.out.alloc _⟩

theorem impl_cx_any {w0 : World} (a b : Int) (w : World) (hx : Ext w0 w) : Calls Try.prog 42 #[.int .i64 a, .int .i64 b] w fun e w' => e = .returned (.agg #[.int .i64 9, .int .i64 a, .int .i64 b, .int .i64 0]) ∧ Ext w0 w' := by
  have H := Lib.hid hx
  clear hx
  go_enter Try.func42, Try.ntmps42
  go_wp2
  exact bodyPost_ret (v := .agg #[.int .i64 9, .int .i64 a, .int .i64 b, .int .i64 0]) (by simp [results, Try.results42, go_sem]) rfl ⟨rfl, H.out.alloc _⟩

end Go.Proofs.Ytofbmkpfliofeab
