/-
  Helper text (no claim of its own): the decomposition of a gate, by the program and by the reference.
-/
import Derived.Test.YtngpkboocpaikabDoorGate
namespace Go.Proofs.YtngpkboocpaikabDoor
open Go.ChangeShapes Go.WideShapes Go.ChangeAt Go.RowKit Go.Deep
def g1 (k a : Int) : Gt := ⟨k, a, 0, 0⟩
def gcx (a b : Int) : Gt := ⟨9, a, b, 0⟩
def dec (g : Gt) : List Gt :=
  if (g.k == 10) = true then [g1 4 g.b, gcx g.a g.b, g1 4 g.b]
  else if (g.k == 11) = true then [gcx g.a g.b, gcx g.b g.a, gcx g.a g.b]
  else if (g.k == 12) = true then [g1 4 g.c, gcx g.b g.c, g1 8 g.c, gcx g.a g.c, g1 7 g.c, gcx g.b g.c, g1 8 g.c, gcx g.a g.c, g1 7 g.b, g1 7 g.c, g1 4 g.c, gcx g.a g.b, g1 7 g.a, g1 8 g.b, gcx g.a g.b]
  else [g]
theorem dec10 {g : Gt} (h : (g.k == 10) = true) : dec g = [g1 4 g.b, gcx g.a g.b, g1 4 g.b] := if_pos h
theorem dec11 {g : Gt} (h0 : (g.k == 10) = false) (h : (g.k == 11) = true) : dec g = [gcx g.a g.b, gcx g.b g.a, gcx g.a g.b] := by unfold dec; rw [if_neg (by simp [h0]), if_pos h]
theorem dec12 {g : Gt} (h0 : (g.k == 10) = false) (h1 : (g.k == 11) = false) (h : (g.k == 12) = true) : dec g = [g1 4 g.c, gcx g.b g.c, g1 8 g.c, gcx g.a g.c, g1 7 g.c, gcx g.b g.c, g1 8 g.c, gcx g.a g.c] ++ [g1 7 g.b, g1 7 g.c, g1 4 g.c, gcx g.a g.b, g1 7 g.a, g1 8 g.b, gcx g.a g.b] := by unfold dec; rw [if_neg (by simp [h0]), if_neg (by simp [h1]), if_pos h]; rfl
theorem decN {g : Gt} (h0 : (g.k == 10) = false) (h1 : (g.k == 11) = false) (h2 : (g.k == 12) = false) : dec g = [g] := by unfold dec; rw [if_neg (by simp [h0]), if_neg (by simp [h1]), if_neg (by simp [h2])]
theorem dec_len (g : Gt) : (dec g).length ≤ 15 := by unfold dec; split <;> (try split) <;> (try split) <;> simp

theorem spec_one_any {w0 : World} (a b : Int) (w : World) (hx : Ext w0 w) : Calls Tryd.prog 37 #[.int .i64 a, .int .i64 b] w fun e w' => e = .returned (.agg #[.int .i64 a, .int .i64 b, .int .i64 0, .int .i64 0]) ∧ Ext w0 w' := by
  have H := Lib.hid hx
  clear hx
  go_enter Tryd.func37, Tryd.ntmps37
  go_wp2
  exact bodyPost_ret (v := .agg #[.int .i64 a, .int .i64 b, .int .i64 0, .int .i64 0]) (by simp [results, Tryd.results37, go_sem]) rfl ⟨rfl, H.out.alloc _⟩

theorem spec_cx_any {w0 : World} (a b : Int) (w : World) (hx : Ext w0 w) : Calls Tryd.prog 38 #[.int .i64 a, .int .i64 b] w fun e w' => e = .returned (.agg #[.int .i64 9, .int .i64 a, .int .i64 b, .int .i64 0]) ∧ Ext w0 w' := by
  have H := Lib.hid hx
  clear hx
  go_enter Tryd.func38, Tryd.ntmps38
  go_wp2
  exact bodyPost_ret (v := .agg #[.int .i64 9, .int .i64 a, .int .i64 b, .int .i64 0]) (by simp [results, Tryd.results38, go_sem]) rfl ⟨rfl, H.out.alloc _⟩

set_option maxRecDepth 100000 in
set_option maxHeartbeats 4000000 in
theorem spec_DecomposeGate_any (g : Gt) (w : World) : Calls Tryd.prog 28 #[g.val] w fun e w' => ∃ v, e = .returned v ∧ w'.ownsRow w.heap.size 59 4 v (dec g).length (gcells (dec g)) ∧ Ext w w' := by
  have hx : Ext w (w.alloc (.cells #[.int .i64 g.k, .int .i64 g.a, .int .i64 g.b, .int .i64 g.c] 59)) := (Ext.refl w).alloc _
  cases h10 : (g.k == 10)
  · cases h11 : (g.k == 11)
    · cases h12 : (g.k == 12)
      · rw [decN h10 h11 h12]
        go_enter Tryd.func28, Tryd.ntmps28
        go_wp2_with (first | (go_at_call 37; refine (spec_one_any _ _ _ hx).mono ?_; clear hx; rintro e w' ⟨rfl, hx⟩) | (go_at_call 38; refine (spec_cx_any _ _ _ hx).mono ?_; clear hx; rintro e w' ⟨rfl, hx⟩))
        go_ret
        exact ⟨_, rfl, own_lit hx _ _ 4 1 #[.int .i64 g.k, .int .i64 g.a, .int .i64 g.b, .int .i64 g.c] _ (by simp) rfl rfl (by omega), hx.alloc _⟩
      · rw [dec12 h10 h11 h12]
        go_enter Tryd.func28, Tryd.ntmps28
        go_upto_region 11 with ((first | (go_at_call 37; refine (spec_one_any _ _ _ hx).mono ?_; clear hx; rintro e w' ⟨rfl, hx⟩) | (go_at_call 38; refine (spec_cx_any _ _ _ hx).mono ?_; clear hx; rintro e w' ⟨rfl, hx⟩)))
        have ho := own_lit hx _ 59 4 8 #[.int .i64 4, .int .i64 g.c, .int .i64 0, .int .i64 0, .int .i64 9, .int .i64 g.b, .int .i64 g.c, .int .i64 0, .int .i64 8, .int .i64 g.c, .int .i64 0, .int .i64 0, .int .i64 9, .int .i64 g.a, .int .i64 g.c, .int .i64 0, .int .i64 7, .int .i64 g.c, .int .i64 0, .int .i64 0, .int .i64 9, .int .i64 g.b, .int .i64 g.c, .int .i64 0, .int .i64 8, .int .i64 g.c, .int .i64 0, .int .i64 0, .int .i64 9, .int .i64 g.a, .int .i64 g.c, .int .i64 0] (gcells [g1 4 g.c, gcx g.b g.c, g1 8 g.c, gcx g.a g.c, g1 7 g.c, gcx g.b g.c, g1 8 g.c, gcx g.a g.c]) rfl rfl rfl (by omega)
        have hx2 := Ext.refl (w'.alloc (.cells #[.int .i64 4, .int .i64 g.c, .int .i64 0, .int .i64 0, .int .i64 9, .int .i64 g.b, .int .i64 g.c, .int .i64 0, .int .i64 8, .int .i64 g.c, .int .i64 0, .int .i64 0, .int .i64 9, .int .i64 g.a, .int .i64 g.c, .int .i64 0, .int .i64 7, .int .i64 g.c, .int .i64 0, .int .i64 0, .int .i64 9, .int .i64 g.b, .int .i64 g.c, .int .i64 0, .int .i64 8, .int .i64 g.c, .int .i64 0, .int .i64 0, .int .i64 9, .int .i64 g.a, .int .i64 g.c, .int .i64 0] 59))
        have hx0 := hx.alloc (.cells #[.int .i64 4, .int .i64 g.c, .int .i64 0, .int .i64 0, .int .i64 9, .int .i64 g.b, .int .i64 g.c, .int .i64 0, .int .i64 8, .int .i64 g.c, .int .i64 0, .int .i64 0, .int .i64 9, .int .i64 g.a, .int .i64 g.c, .int .i64 0, .int .i64 7, .int .i64 g.c, .int .i64 0, .int .i64 0, .int .i64 9, .int .i64 g.b, .int .i64 g.c, .int .i64 0, .int .i64 8, .int .i64 g.c, .int .i64 0, .int .i64 0, .int .i64 9, .int .i64 g.a, .int .i64 g.c, .int .i64 0] 59)
        clear hx
        go_wp2_with (first | (at_builtin; refine appGateS (w0 := w) rfl _ _ rfl _ 8 [g1 4 g.c, gcx g.b g.c, g1 8 g.c, gcx g.a g.c, g1 7 g.c, gcx g.b g.c, g1 8 g.c, gcx g.a g.c] rfl ((own_ext ho hx2).alloc _) ((hx0.trans hx2).alloc _) _ 7 7 [g1 7 g.b, g1 7 g.c, g1 4 g.c, gcx g.a g.b, g1 7 g.a, g1 8 g.b, gcx g.a g.b] rfl (rd_newN _ _ _ _ 7 4 _ rfl (by simp [Gt.cells, g1, gcx]) rfl) (by omega) ?_; intro v1 w1 ho1 hx1 hg1 hb1) | (go_at_call 37; refine (spec_one_any _ _ _ hx2).mono ?_; clear hx2; rintro e w' ⟨rfl, hx2⟩) | (go_at_call 38; refine (spec_cx_any _ _ _ hx2).mono ?_; clear hx2; rintro e w' ⟨rfl, hx2⟩))
        go_ret
        exact ⟨v1, rfl, ho1, hx1⟩
    · rw [dec11 h10 h11]
      go_enter Tryd.func28, Tryd.ntmps28
      go_wp2_with (first | (go_at_call 37; refine (spec_one_any _ _ _ hx).mono ?_; clear hx; rintro e w' ⟨rfl, hx⟩) | (go_at_call 38; refine (spec_cx_any _ _ _ hx).mono ?_; clear hx; rintro e w' ⟨rfl, hx⟩))
      go_ret
      exact ⟨_, rfl, own_lit hx _ _ 4 3 _ _ rfl (by simp [Gt.cells, gcx]) rfl (by omega), hx.alloc _⟩
  · rw [dec10 h10]
    go_enter Tryd.func28, Tryd.ntmps28
    go_wp2_with (first | (go_at_call 37; refine (spec_one_any _ _ _ hx).mono ?_; clear hx; rintro e w' ⟨rfl, hx⟩) | (go_at_call 38; refine (spec_cx_any _ _ _ hx).mono ?_; clear hx; rintro e w' ⟨rfl, hx⟩))
    go_ret
    exact ⟨_, rfl, own_lit hx _ _ _ _ _ _ rfl (by simp [Gt.cells, g1, gcx]) rfl (by simp), hx.alloc _⟩

theorem impl_one_any {w0 : World} (a b : Int) (w : World) (hx : Ext w0 w) : Calls Tryd.prog 43 #[.int .i64 a, .int .i64 b] w fun e w' => e = .returned (.agg #[.int .i64 a, .int .i64 b, .int .i64 0, .int .i64 0]) ∧ Ext w0 w' := by
  have H := Lib.hid hx
  clear hx
  go_enter Tryd.func43, Tryd.ntmps43
  go_wp2
  exact bodyPost_ret (v := .agg #[.int .i64 a, .int .i64 b, .int .i64 0, .int .i64 0]) (by simp [results, Tryd.results43, go_sem]) rfl ⟨rfl, H.out.alloc _⟩

theorem impl_cx_any {w0 : World} (a b : Int) (w : World) (hx : Ext w0 w) : Calls Tryd.prog 44 #[.int .i64 a, .int .i64 b] w fun e w' => e = .returned (.agg #[.int .i64 9, .int .i64 a, .int .i64 b, .int .i64 0]) ∧ Ext w0 w' := by
  have H := Lib.hid hx
  clear hx
  go_enter Tryd.func44, Tryd.ntmps44
  go_wp2
  exact bodyPost_ret (v := .agg #[.int .i64 9, .int .i64 a, .int .i64 b, .int .i64 0]) (by simp [results, Tryd.results44, go_sem]) rfl ⟨rfl, H.out.alloc _⟩

set_option maxRecDepth 100000 in
set_option maxHeartbeats 4000000 in
theorem impl_DecomposeGate_any (g : Gt) (w : World) : Calls Tryd.prog 34 #[g.val] w fun e w' => ∃ v, e = .returned v ∧ w'.ownsRow w.heap.size 59 4 v (dec g).length (gcells (dec g)) ∧ Ext w w' := by
  have hx : Ext w (w.alloc (.cells #[.int .i64 g.k, .int .i64 g.a, .int .i64 g.b, .int .i64 g.c] 59)) := (Ext.refl w).alloc _
  cases h10 : (g.k == 10)
  · cases h11 : (g.k == 11)
    · cases h12 : (g.k == 12)
      · rw [decN h10 h11 h12]
        go_enter Tryd.func34, Tryd.ntmps34
        go_wp2_with (first | (go_at_call 43; refine (impl_one_any _ _ _ hx).mono ?_; clear hx; rintro e w' ⟨rfl, hx⟩) | (go_at_call 44; refine (impl_cx_any _ _ _ hx).mono ?_; clear hx; rintro e w' ⟨rfl, hx⟩))
        go_ret
        exact ⟨_, rfl, own_lit hx _ _ 4 1 #[.int .i64 g.k, .int .i64 g.a, .int .i64 g.b, .int .i64 g.c] _ (by simp) rfl rfl (by omega), hx.alloc _⟩
      · rw [dec12 h10 h11 h12]
        go_enter Tryd.func34, Tryd.ntmps34
        go_wp2_with (first | (go_at_call 43; refine (impl_one_any _ _ _ hx).mono ?_; clear hx; rintro e w' ⟨rfl, hx⟩) | (go_at_call 44; refine (impl_cx_any _ _ _ hx).mono ?_; clear hx; rintro e w' ⟨rfl, hx⟩))
        go_ret
        exact ⟨_, rfl, own_lit hx _ _ _ _ _ _ rfl (by simp [Gt.cells, g1, gcx]) rfl (by simp), hx.alloc _⟩
    · rw [dec11 h10 h11]
      go_enter Tryd.func34, Tryd.ntmps34
      go_wp2_with (first | (go_at_call 43; refine (impl_one_any _ _ _ hx).mono ?_; clear hx; rintro e w' ⟨rfl, hx⟩) | (go_at_call 44; refine (impl_cx_any _ _ _ hx).mono ?_; clear hx; rintro e w' ⟨rfl, hx⟩))
      go_ret
      exact ⟨_, rfl, own_lit hx _ _ 4 3 _ _ rfl (by simp [Gt.cells, gcx]) rfl (by omega), hx.alloc _⟩
  · rw [dec10 h10]
    go_enter Tryd.func34, Tryd.ntmps34
    go_wp2_with (first | (go_at_call 43; refine (impl_one_any _ _ _ hx).mono ?_; clear hx; rintro e w' ⟨rfl, hx⟩) | (go_at_call 44; refine (impl_cx_any _ _ _ hx).mono ?_; clear hx; rintro e w' ⟨rfl, hx⟩))
    go_ret
    exact ⟨_, rfl, own_lit hx _ _ _ _ _ _ rfl (by simp [Gt.cells, g1, gcx]) rfl (by simp), hx.alloc _⟩

end Go.Proofs.YtngpkboocpaikabDoor
