/-
 Helper text (no claim of its own): drawn gates, bent. Only that they return, and what their results are made of.
-/
import Derived.Test.YtioimnplhmgbgaaGreatDrawC
namespace Go.Proofs.YtioimnplhmgbgaaGreat
open Go.ChangeShapes Go.WideShapes Go.ChangeAt Go.RowKit Go.Deep
theorem l1Max_any (a b : Int) (w : World) : Calls Tryz.prog 36 #[.int .i64 a, .int .i64 b] w fun e w' => e = .returned (.int .i64 (if b < a then a else b)) ∧ w = w' := by
 by_cases h : b < a
 ·rw [if_pos h]
  go_enter Tryz.func36, Tryz.ntmps36
  go_wp2
  go_ret
  exact ⟨rfl, rfl⟩
 ·rw [if_neg h]
  go_enter Tryz.func36, Tryz.ntmps36
  go_wp2
  go_ret
  exact ⟨rfl, rfl⟩

set_option maxRecDepth 100000 in
set_option maxHeartbeats 8000000 in
theorem l9Bent_any (g n : Nat) (hn : 1 ≤ n ∧ n ≤ 4) (w : World) (h : Cur w g) :
  Calls Tryz.prog 35 #[.pointer (some ⟨g, 0, none⟩), .int .i64 n] w fun e w' => ∃ x : Gt, e = .returned x.val ∧ Cur w' g ∧ w.grownBy w' (some g) := by
 have hgl := h.lt
 obtain ⟨hn1, hn4⟩ := id hn
 go_enter Tryz.func35, Tryz.ntmps35
 go_wp2_with fail
 refine (l9Gate_any g n hn _ (h.alloc _)).mono ?_
 rintro e w2 ⟨y, rfl, hC2, hG2⟩
 have hB4 := (Blk.new w 52 #[.int .i64 0, .int .i64 0, .int .i64 0, .int .i64 0]).grown hG2 (fun k hk => by injection hk; omega)
 have hg2 : w.grownBy w2 (some g) := gr_trans (((Ext.refl w).alloc _).gr _) hG2
 have hws := hB4.lt
 clear hG2
 go_wp2_with fail
 refine (l1Below_any g _ _ (hC2.alloc _) (by omega)).mono ?_
 rintro e w3 ⟨x, rfl, ⟨hx0, hx1, _⟩, hC3, hG3⟩
 have hx2 := hx1 (by omega)
 clear hx1
 have hB4 := (hB4.alloc _).grown hG3 (fun k hk => by injection hk; omega)
 have hB5 := (Blk.new w2 52 #[.int .i64 y.k, .int .i64 y.a, .int .i64 y.b, .int .i64 y.c]).grown hG3 (fun k hk => by injection hk; omega)
 have hg3 := gr_trans (gr_alloc hg2 _) hG3
 clear hG3 hg2 hC2
 generalize w2.heap.size = s5 at *
 have hgs : g < s5 := by omega
 have hne : w.heap.size ≠ s5 := by omega
 have hs3 := hB5.lt
 obtain ⟨⟨b0, b1, b2, b3⟩, z0, z1, z2, z3⟩ := blk4 hB5
 by_cases e0 : x = 0
 ·subst e0
  go_wp2_with fail
  refine (l1Below_any g _ _ hC3 (by omega)).mono ?_
  rintro e w5 ⟨z, rfl, ⟨hz0, hz1, _⟩, hC5, hG5⟩
  have hz2 := hz1 (by omega)
  clear hz1
  have hB4 := hB4.grown hG5 (fun k hk => by injection hk; omega)
  have hB5 := hB5.grown hG5 (fun k hk => by injection hk; omega)
  have hg5 := gr_trans hg3 hG5
  clear hC3 hg3 b0 b1 b2 b3 z0 z1 z2 z3
  obtain ⟨⟨b0, b1, b2, b3⟩, z0, z1, z2, z3⟩ := blk4 hB5
  obtain ⟨⟨a0, a1, a2, a3⟩, y0, y1, y2, y3⟩ := blk4 hB4
  go_wp2
  exact bodyPost_ret (v := .agg #[.int .i64 (z - 1), .int .i64 y.a, .int .i64 y.b, .int .i64 y.c]) (ret4 rfl (hB4.far (p := ⟨s5, 0, none⟩) hne _) (.int .i64 (z - 1)) (.int .i64 y.a) (.int .i64 y.b) (.int .i64 y.c) _ rfl) rfl ⟨⟨(z - 1), y.a, y.b, y.c⟩, rfl, Cur.set4 (hC5.set_ (p := ⟨s5, 0, none⟩) hgs _) hgl _ _ _ _, gr_set4 (gr_set hg5 (p := ⟨s5, 0, none⟩) (Nat.le_of_lt hws) _) (Nat.le_refl _) _ _ _ _⟩
 by_cases e1 : x = 1
 ·subst e1
  go_wp2_with fail
  refine (l1PickInt_any g _ 4 _ [0, (n : Int), -1, y.b] _ (hC3.alloc _) (rd_newN w3 _ _ _ 4 1 _ rfl rfl rfl) (by intro b o e; injection e with e; injection e with e1; omega) (by omega)).mono ?_
  rintro e w5 ⟨z, rfl, _, hC5, hG5⟩
  have hB4 := (hB4.alloc _).grown hG5 (fun k hk => by injection hk; omega)
  have hB5 := (hB5.alloc _).grown hG5 (fun k hk => by injection hk; omega)
  have hg5 := gr_trans (gr_alloc hg3 _) hG5
  clear hC3 hg3 b0 b1 b2 b3 z0 z1 z2 z3
  obtain ⟨⟨b0, b1, b2, b3⟩, z0, z1, z2, z3⟩ := blk4 hB5
  obtain ⟨⟨a0, a1, a2, a3⟩, y0, y1, y2, y3⟩ := blk4 hB4
  go_wp2
  exact bodyPost_ret (v := .agg #[.int .i64 y.k, .int .i64 z, .int .i64 y.b, .int .i64 y.c]) (ret4 rfl (hB4.far (p := ⟨s5, 1, none⟩) hne _) (.int .i64 y.k) (.int .i64 z) (.int .i64 y.b) (.int .i64 y.c) _ rfl) rfl ⟨⟨y.k, z, y.b, y.c⟩, rfl, Cur.set4 (hC5.set_ (p := ⟨s5, 1, none⟩) hgs _) hgl _ _ _ _, gr_set4 (gr_set hg5 (p := ⟨s5, 1, none⟩) (Nat.le_of_lt hws) _) (Nat.le_refl _) _ _ _ _⟩
 by_cases e2 : x = 2
 ·subst e2
  go_wp2_with fail
  refine (l1PickInt_any g _ 4 _ [0, (n : Int), -1, y.a] _ (hC3.alloc _) (rd_newN w3 _ _ _ 4 1 _ rfl rfl rfl) (by intro b o e; injection e with e; injection e with e1; omega) (by omega)).mono ?_
  rintro e w5 ⟨z, rfl, _, hC5, hG5⟩
  have hB4 := (hB4.alloc _).grown hG5 (fun k hk => by injection hk; omega)
  have hB5 := (hB5.alloc _).grown hG5 (fun k hk => by injection hk; omega)
  have hg5 := gr_trans (gr_alloc hg3 _) hG5
  clear hC3 hg3 b0 b1 b2 b3 z0 z1 z2 z3
  obtain ⟨⟨b0, b1, b2, b3⟩, z0, z1, z2, z3⟩ := blk4 hB5
  obtain ⟨⟨a0, a1, a2, a3⟩, y0, y1, y2, y3⟩ := blk4 hB4
  go_wp2
  exact bodyPost_ret (v := .agg #[.int .i64 y.k, .int .i64 y.a, .int .i64 z, .int .i64 y.c]) (ret4 rfl (hB4.far (p := ⟨s5, 2, none⟩) hne _) (.int .i64 y.k) (.int .i64 y.a) (.int .i64 z) (.int .i64 y.c) _ rfl) rfl ⟨⟨y.k, y.a, z, y.c⟩, rfl, Cur.set4 (hC5.set_ (p := ⟨s5, 2, none⟩) hgs _) hgl _ _ _ _, gr_set4 (gr_set hg5 (p := ⟨s5, 2, none⟩) (Nat.le_of_lt hws) _) (Nat.le_refl _) _ _ _ _⟩
 by_cases e3 : x = 3
 ·subst e3
  go_wp2_with fail
  refine (l1PickInt_any g _ 4 _ [0, 1, (n : Int), -1] _ (hC3.alloc _) (rd_newN w3 _ _ _ 4 1 _ rfl rfl rfl) (by intro b o e; injection e with e; injection e with e1; omega) (by omega)).mono ?_
  rintro e w5 ⟨z, rfl, _, hC5, hG5⟩
  have hB4 := (hB4.alloc _).grown hG5 (fun k hk => by injection hk; omega)
  have hB5 := (hB5.alloc _).grown hG5 (fun k hk => by injection hk; omega)
  have hg5 := gr_trans (gr_alloc hg3 _) hG5
  clear hC3 hg3 b0 b1 b2 b3 z0 z1 z2 z3
  obtain ⟨⟨b0, b1, b2, b3⟩, z0, z1, z2, z3⟩ := blk4 hB5
  obtain ⟨⟨a0, a1, a2, a3⟩, y0, y1, y2, y3⟩ := blk4 hB4
  go_wp2
  exact bodyPost_ret (v := .agg #[.int .i64 y.k, .int .i64 y.a, .int .i64 y.b, .int .i64 z]) (ret4 rfl (hB4.far (p := ⟨s5, 3, none⟩) hne _) (.int .i64 y.k) (.int .i64 y.a) (.int .i64 y.b) (.int .i64 z) _ rfl) rfl ⟨⟨y.k, y.a, y.b, z⟩, rfl, Cur.set4 (hC5.set_ (p := ⟨s5, 3, none⟩) hgs _) hgl _ _ _ _, gr_set4 (gr_set hg5 (p := ⟨s5, 3, none⟩) (Nat.le_of_lt hws) _) (Nat.le_refl _) _ _ _ _⟩
 obtain ⟨⟨a0, a1, a2, a3⟩, y0, y1, y2, y3⟩ := blk4 hB4
 go_wp2
 exact bodyPost_ret (v := .agg #[.int .i64 y.k, .int .i64 y.a, .int .i64 y.b, .int .i64 y.c]) (ret4 rfl hB4 (.int .i64 y.k) (.int .i64 y.a) (.int .i64 y.b) (.int .i64 y.c) _ rfl) rfl ⟨⟨y.k, y.a, y.b, y.c⟩, rfl, Cur.set4 hC3 hgl _ _ _ _, gr_set4 hg3 (Nat.le_refl _) _ _ _ _⟩
end Go.Proofs.YtioimnplhmgbgaaGreat
