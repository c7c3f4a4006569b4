/-
  Helper text (no claim of its own): drawn routines, bent. Only that they return, and what their results are made of. Printed by gen_drawo.py.
-/
import Derived.Test.YtgnijfmgfpckeaaDrawJ
namespace Go.Proofs.Ytgnijfmgfpckeaa
open Go.ChangeShapes Go.WideShapes Go.ChangeAt Go.RowKit Go.Deep
def lenAt3 (w : World) (s : Nat) : Nat := match w.cell? ⟨s, 3, none⟩ with | some (.slice _ n _) => n | _ => 0
theorem lenAt3_blk {w : World} {s t : Nat} {a b c : Value} {A : Option Addr} {n cap : Nat} (h : Blk w s t #[a, b, c, .slice A n cap]) : lenAt3 w s = n := by
  have : w.cell? ⟨s, 3, none⟩ = some (.slice A n cap) := h.cell 3
  unfold lenAt3
  rw [this]
set_option maxRecDepth 100000 in
set_option maxHeartbeats 16000000 in
theorem l21Bent_any (g most : Nat) (hm : most ≤ 200) (w : World) (h : Cur w g) :
    Calls Try.prog 22 #[.pointer (some ⟨g, 0, none⟩), .int .i64 most] w (DrewRout w g (most + 121)) := by
  have hgl := h.lt
  go_enter Try.func22, Try.ntmps22
  go_wp2_with fail
  refine (l21Right_any g most hm _ (h.alloc _)).mono ?_
  rintro e w3 ⟨N, I, B, A, len, cap, xs, rfl, hN, hlen, ho3, hC3, hG3⟩
  obtain ⟨hN0, hN1, hI0, hI1, hB0, hB1⟩ := hN
  have hB3 := (Blk.new w 53 #[.int .i64 0, .int .i64 0, .int .i64 0, .slice none 0 0]).grown hG3 (fun k hk => by injection hk; omega)
  have hl3 := hB3.lt
  have hg3 : w.grownBy w3 (some g) := gr_trans (((Ext.refl w).alloc _).gr _) hG3
  have hD : DR w (w3.alloc (.cells #[.int .i64 N, .int .i64 I, .int .i64 B, .slice A len cap] 53)) g w3.heap.size N I B A len cap xs :=
    ⟨hB3.alloc _, Blk.new _ _ _, own_ext (own_base ho3 (by simp)) ((Ext.refl w3).alloc _), own_ne (own_base ho3 (by simp)) (Nat.le_refl _), hC3.alloc _, gr_alloc hg3 _⟩
  clear hB3 hG3 hg3 ho3
  go_wp2_with fail
  refine (l1Below_any g 14 _ (hC3.alloc _) (by omega)).mono ?_
  rintro e w4 ⟨x, rfl, ⟨hx0, hx1, _⟩, hC4, hG4⟩
  have hx2 := hx1 (by omega)
  clear hx1
  have hgs : g < w3.heap.size := hC3.lt
  have hD4 := hD.grown hG4 hC4 hgs hgl
  clear hD hG4 hC3
  generalize w3.heap.size = s at *
  have hws : w.heap.size < s := by omega
  have hl4 := hD4.lt
  have HD4 := Lib.hid hD4
  obtain ⟨⟨c0, c1, c2, c3⟩, x0, x1, x2, x3⟩ := blk4 hD4.2.1
  clear hD4
  by_cases e0 : x = 0
  · subst e0
    go_wp2_with fail
    refine (l1PickInt_any g _ 4 _ [0, 1, 4, 5] _ (hC4.alloc _) (rd_newN w4 _ _ _ 4 1 _ rfl rfl rfl) (by intro b o e; injection e with e; injection e with e1; omega) (by omega)).mono ?_
    rintro e w5 ⟨z, rfl, hz, hC5, hG5⟩
    have hz2 : 0 ≤ z ∧ z ≤ 5 := by simp at hz; omega
    have hD5 := (HD4.out.alloc _).grown hG5 hC5 hgs hgl
    clear hz c0 c1 c2 c3 x0 x1 x2 x3
    have HD := Lib.hid (hD5.setI (j := 0) (N' := z) (I' := I) (B' := B) (.int .i64 z) rfl hws hgl)
    obtain ⟨⟨c0, c1, c2, c3⟩, x0, x1, x2, x3⟩ := blk4 hD5.2.1
    have hl5 := hD5.lt
    clear hD5
    go_upto_region 17 with (fail)
    clear c0 c1 c2 c3 x0 x1 x2 x3
    generalize w5.setCell ⟨s, 0, none⟩ (.int .i64 z) = W6 at *
    obtain ⟨⟨b0, b1, b2, b3⟩, z0, z1, z2, z3⟩ := blk4 HD.out.2.1
    obtain ⟨⟨a0, a1, a2, a3⟩, y0, y1, y2, y3⟩ := blk4 HD.out.1
    go_wp2
    exact bodyPost_ret (v := .agg #[.int .i64 z, .int .i64 I, .int .i64 B, .slice A len cap]) (retR rfl HD.out.1 (.int .i64 z) (.int .i64 I) (.int .i64 B) (.slice A len cap) _ rfl) rfl (HD.out.done hgl (by omega) (by omega))
  by_cases e1 : x = 1
  · subst e1
    go_wp2_with fail
    refine (l1PickInt_any g _ 3 _ [0, 1, N + 1] _ (hC4.alloc _) (rd_newN w4 _ _ _ 3 1 _ rfl rfl rfl) (by intro b o e; injection e with e; injection e with e1; omega) (by omega)).mono ?_
    rintro e w5 ⟨z, rfl, hz, hC5, hG5⟩
    have hz2 : -1 ≤ z ∧ z ≤ 6 := by simp at hz; omega
    have hD5 := (HD4.out.alloc _).grown hG5 hC5 hgs hgl
    clear hz c0 c1 c2 c3 x0 x1 x2 x3
    have HD := Lib.hid (hD5.setI (j := 1) (N' := N) (I' := z) (B' := B) (.int .i64 z) rfl hws hgl)
    obtain ⟨⟨c0, c1, c2, c3⟩, x0, x1, x2, x3⟩ := blk4 hD5.2.1
    have hl5 := hD5.lt
    clear hD5
    go_upto_region 17 with (fail)
    clear c0 c1 c2 c3 x0 x1 x2 x3
    generalize w5.setCell ⟨s, 1, none⟩ (.int .i64 z) = W6 at *
    obtain ⟨⟨b0, b1, b2, b3⟩, z0, z1, z2, z3⟩ := blk4 HD.out.2.1
    obtain ⟨⟨a0, a1, a2, a3⟩, y0, y1, y2, y3⟩ := blk4 HD.out.1
    go_wp2
    exact bodyPost_ret (v := .agg #[.int .i64 N, .int .i64 z, .int .i64 B, .slice A len cap]) (retR rfl HD.out.1 (.int .i64 N) (.int .i64 z) (.int .i64 B) (.slice A len cap) _ rfl) rfl (HD.out.done hgl (by omega) (by omega))
  by_cases e2 : x = 2
  · subst e2
    go_wp2_with fail
    refine (l1PickInt_any g _ 4 _ [-1, 0, 3, 4] _ (hC4.alloc _) (rd_newN w4 _ _ _ 4 1 _ rfl rfl rfl) (by intro b o e; injection e with e; injection e with e1; omega) (by omega)).mono ?_
    rintro e w5 ⟨z, rfl, hz, hC5, hG5⟩
    have hz2 : -1 ≤ z ∧ z ≤ 4 := by simp at hz; omega
    have hD5 := (HD4.out.alloc _).grown hG5 hC5 hgs hgl
    clear hz c0 c1 c2 c3 x0 x1 x2 x3
    have HD := Lib.hid (hD5.setI (j := 2) (N' := N) (I' := I) (B' := z) (.int .i64 z) rfl hws hgl)
    obtain ⟨⟨c0, c1, c2, c3⟩, x0, x1, x2, x3⟩ := blk4 hD5.2.1
    have hl5 := hD5.lt
    clear hD5
    go_upto_region 17 with (fail)
    clear c0 c1 c2 c3 x0 x1 x2 x3
    generalize w5.setCell ⟨s, 2, none⟩ (.int .i64 z) = W6 at *
    obtain ⟨⟨b0, b1, b2, b3⟩, z0, z1, z2, z3⟩ := blk4 HD.out.2.1
    obtain ⟨⟨a0, a1, a2, a3⟩, y0, y1, y2, y3⟩ := blk4 HD.out.1
    go_wp2
    exact bodyPost_ret (v := .agg #[.int .i64 N, .int .i64 I, .int .i64 z, .slice A len cap]) (retR rfl HD.out.1 (.int .i64 N) (.int .i64 I) (.int .i64 z) (.slice A len cap) _ rfl) rfl (HD.out.done hgl (by omega) (by omega))
  have hCd : Cur w4.drew g := hC4.ext (Ext.refl w4).drew
  have tok0 : True := trivial
  have tok1 : True := trivial
  have tok2 : True := trivial
  have tok3 : True := trivial
  by_cases e3 : x = 3
  · subst e3
    go_wp2
    go_region_law (first
      | (go_simp; go_at_call 33; have _t := tok0; clear tok0 _t; (with_reducible refine (l1Below_any g 6 _ hCd (by omega)).mono ?_); rintro e w5 ⟨z5, rfl, ⟨hz5, hy5, _⟩, hC5, hG5⟩; clear hy5; have HD5 := Lib.hid (HD4.out.drew.grown hG5 hC5 hgs hgl); have hl5 := HD5.out.lt; have k0_5 : w5.cell? ⟨s, 0, none⟩ = some (.int .i64 N) := HD5.out.2.1.cell 0; have k3_5 : w5.cell? ⟨s, 3, none⟩ = some (.slice A len cap) := HD5.out.2.1.cell 3)
      | (go_simp; go_at_call 33; have _t := tok1; clear tok1 _t; (with_reducible refine (l1Below_any g 4 _ hC5 (by omega)).mono ?_); rintro e w6 ⟨z6, rfl, ⟨hz6, hy6, _⟩, hC6, hG6⟩; clear hy6; have HD6 := Lib.hid (HD5.out.grown hG6 hC6 hgs hgl); have hl6 := HD6.out.lt; have k0_6 : w6.cell? ⟨s, 0, none⟩ = some (.int .i64 N) := HD6.out.2.1.cell 0; have k3_6 : w6.cell? ⟨s, 3, none⟩ = some (.slice A len cap) := HD6.out.2.1.cell 3)
      | (go_simp; go_at_call 33; have _t := tok2; clear tok2 _t; (with_reducible refine (l1Below_any g 3 _ hC6 (by omega)).mono ?_); rintro e w7 ⟨z7, rfl, ⟨hz7, hy7, _⟩, hC7, hG7⟩; clear hy7; have HD7 := Lib.hid (HD6.out.grown hG7 hC7 hgs hgl); have hl7 := HD7.out.lt; have k0_7 : w7.cell? ⟨s, 0, none⟩ = some (.int .i64 N) := HD7.out.2.1.cell 0; have k3_7 : w7.cell? ⟨s, 3, none⟩ = some (.slice A len cap) := HD7.out.2.1.cell 3)
      | (go_simp; go_at_call 33; have _t := tok3; clear tok3 _t; (with_reducible refine (l1Below_any g 3 _ hC7 (by omega)).mono ?_); rintro e w8 ⟨z8, rfl, ⟨hz8, hy8, _⟩, hC8, hG8⟩; clear hy8; have HD8 := Lib.hid (HD7.out.grown hG8 hC8 hgs hgl); have hl8 := HD8.out.lt; have k0_8 : w8.cell? ⟨s, 0, none⟩ = some (.int .i64 N) := HD8.out.2.1.cell 0; have k3_8 : w8.cell? ⟨s, 3, none⟩ = some (.slice A len cap) := HD8.out.2.1.cell 3)
      | (refine stepO1 (B := w.heap.size + 1) (by rfl) _ _ (by rfl) _ len xs (by rfl) HD8.out.2.2.1 (by omega) ⟨_, ⟨0, 0, 0, 0⟩, z6, z7, z8⟩ _ _ (by rfl) (by rfl) (by omega) ?_; intro A9 c9 w9 ho9 hg9 hb9; have HA := Lib.hid (HD8.out.app hws hgl ho9 hg9 hb9); have k6 : w9.cell? ⟨s, 3, none⟩ = some (.slice A len cap) := HA.out.1.cell 3; have f6 : w9.frozen? ⟨s, 3, none⟩ = false := HA.out.1.frozen 3))
    all_goals
      clear k6 f6 k0_5 k3_5 k0_6 k3_6 k0_7 k3_7 k0_8 k3_8 c0 c1 c2 c3 x0 x1 x2 x3
      have HD := Lib.hid HA.out.2
      generalize w9.setCell ⟨s, 3, none⟩ (.slice A9 (len + 1) c9) = W6 at *
      obtain ⟨⟨b0, b1, b2, b3⟩, z0, z1, z2, z3⟩ := blk4 HD.out.2.1
      obtain ⟨⟨a0, a1, a2, a3⟩, y0, y1, y2, y3⟩ := blk4 HD.out.1
      go_wp2
      exact bodyPost_ret (v := .agg #[.int .i64 N, .int .i64 I, .int .i64 B, .slice A9 (len + 1) c9]) (retR rfl HD.out.1 (.int .i64 N) (.int .i64 I) (.int .i64 B) (.slice A9 (len + 1) c9) _ rfl) rfl (HD.out.done hgl (by omega) (by omega))
  by_cases e4 : x = 4
  · subst e4
    go_wp2
    go_region_law (first
      | (go_simp; go_at_call 33; have _t := tok0; clear tok0 _t; (with_reducible refine (l1Below_any g N _ hCd (by omega)).mono ?_); rintro e w5 ⟨z5, rfl, ⟨hz5, hy5, _⟩, hC5, hG5⟩; clear hy5; have HD5 := Lib.hid (HD4.out.drew.grown hG5 hC5 hgs hgl); have hl5 := HD5.out.lt; have k0_5 : w5.cell? ⟨s, 0, none⟩ = some (.int .i64 N) := HD5.out.2.1.cell 0; have k3_5 : w5.cell? ⟨s, 3, none⟩ = some (.slice A len cap) := HD5.out.2.1.cell 3)
      | (refine stepO1 (B := w.heap.size + 1) (by rfl) _ _ (by rfl) _ len xs (by rfl) HD5.out.2.2.1 (by omega) ⟨3, ⟨0, 0, 0, 0⟩, z5, 0, 0⟩ _ _ (by rfl) (by rfl) (by omega) ?_; intro A9 c9 w9 ho9 hg9 hb9; have HA := Lib.hid (HD5.out.app hws hgl ho9 hg9 hb9); have k6 : w9.cell? ⟨s, 3, none⟩ = some (.slice A len cap) := HA.out.1.cell 3; have f6 : w9.frozen? ⟨s, 3, none⟩ = false := HA.out.1.frozen 3))
    all_goals
      clear k6 f6 k0_5 k3_5 c0 c1 c2 c3 x0 x1 x2 x3
      have HD := Lib.hid HA.out.2
      generalize w9.setCell ⟨s, 3, none⟩ (.slice A9 (len + 1) c9) = W6 at *
      obtain ⟨⟨b0, b1, b2, b3⟩, z0, z1, z2, z3⟩ := blk4 HD.out.2.1
      obtain ⟨⟨a0, a1, a2, a3⟩, y0, y1, y2, y3⟩ := blk4 HD.out.1
      go_wp2
      exact bodyPost_ret (v := .agg #[.int .i64 N, .int .i64 I, .int .i64 B, .slice A9 (len + 1) c9]) (retR rfl HD.out.1 (.int .i64 N) (.int .i64 I) (.int .i64 B) (.slice A9 (len + 1) c9) _ rfl) rfl (HD.out.done hgl (by omega) (by omega))
  by_cases e5 : x = 5
  · subst e5
    go_wp2_with fail
    refine (l1Once_any g _ _ hC4 (by omega)).mono ?_
    rintro e w5 ⟨bb, rfl, hC5, hG5⟩
    have hD5 := HD4.out.grown hG5 hC5 hgs hgl
    clear hG5 c0 c1 c2 c3 x0 x1 x2 x3 hCd HD4 hC4
    cases bb
    · have HD := Lib.hid hD5
      clear hD5
      obtain ⟨⟨b0, b1, b2, b3⟩, z0, z1, z2, z3⟩ := blk4 HD.out.2.1
      obtain ⟨⟨a0, a1, a2, a3⟩, y0, y1, y2, y3⟩ := blk4 HD.out.1
      go_wp2
      exact bodyPost_ret (v := .agg #[.int .i64 N, .int .i64 I, .int .i64 B, .slice A len cap]) (retR rfl HD.out.1 (.int .i64 N) (.int .i64 I) (.int .i64 B) (.slice A len cap) _ rfl) rfl (HD.out.done hgl (by omega) (by omega))
    · go_wp2
      go_loopw [] (fun wr => ∃ (A : Option Addr) (l cap : Nat) (xs : List Oq), l ≤ most + 121 ∧ DR w wr g s N I B A l cap xs) (fun wr => 122 - lenAt3 wr s)
      case atStart => exact ⟨A, len, cap, xs, by omega, hD5⟩
      case round =>
        clear hD5 hC5
        obtain ⟨A, l, cap, xs, hl, hD⟩ := hrel
        have HD := Lib.hid hD
        obtain ⟨⟨b0, b1, b2, b3⟩, z0, z1, z2, z3⟩ := blk4 hD.2.1
        have hCd : Cur wr.drew g := hD.cur.ext (Ext.refl wr).drew
        have hlr := hD.lt
        clear hD
        go_wp2
        go_region_law (first
          | (go_simp; go_at_call 33; (with_reducible refine (l1Below_any g 3 _ hCd (by omega)).mono ?_); rintro e w6 ⟨z, rfl, ⟨hz0, hz1, _⟩, hC6, hG6⟩; have HD6 := Lib.hid (HD.out.drew.grown hG6 hC6 hgs hgl); have k3 : w6.cell? ⟨s, 3, none⟩ = some (.slice A l cap) := HD6.out.2.1.cell 3; have hz2 : z < 3 := hz1 (by omega); clear hz1))
        all_goals
          clear k3 b0 b1 b2 b3 z0 z1 z2 z3
          obtain ⟨⟨b0, b1, b2, b3⟩, z0, z1, z2, z3⟩ := blk4 HD6.out.2.1
          have hl6 := HD6.out.lt
          rw [show IntKind.i64.wrap (119 + z) = 119 + z from IntWalk.i64_in _ (by omega)]
          by_cases hlt : (l : Int) < 119 + z
          · go_wp2_with (at_builtin; refine appO1 (B := w.heap.size + 1) rfl _ _ rfl _ l xs rfl HD6.out.2.2.1 (by omega) ⟨1, ⟨1, 0, 0, 0⟩, 0, 0, 0⟩ _ _ rfl rfl (by omega) ?_; intro A7 c7 w7 ho7 hg7 hb7; have HA := Lib.hid (HD6.out.app hws hgl ho7 hg7 hb7); have k6 : w7.cell? ⟨s, 3, none⟩ = some (.slice A l cap) := HA.out.1.cell 3; have f6 : w7.frozen? ⟨s, 3, none⟩ = false := HA.out.1.frozen 3)
            have HM : Hid (122 - lenAt3 (w7.setCell ⟨s, 3, none⟩ (.slice A7 (l + 1) c7)) s < 122 - lenAt3 wr s) := by
              unfold Hid
              rw [lenAt3_blk HA.out.2.2.1, lenAt3_blk HD.out.2.1]
              omega
            clear k6 f6 b0 b1 b2 b3 z0 z1 z2 z3
            go_roundw
            case rel => exact ⟨A7, l + 1, c7, _, by omega, HA.out.2⟩
            case measure => exact HM.out
          · clear b0 b1 b2 b3 z0 z1 z2 z3
            obtain ⟨⟨b0, b1, b2, b3⟩, z0, z1, z2, z3⟩ := blk4 HD6.out.2.1
            obtain ⟨⟨a0, a1, a2, a3⟩, y0, y1, y2, y3⟩ := blk4 HD6.out.1
            go_wp2
            exact bodyPost_ret (v := .agg #[.int .i64 N, .int .i64 I, .int .i64 B, .slice A l cap]) (retR rfl HD6.out.1 (.int .i64 N) (.int .i64 I) (.int .i64 B) (.slice A l cap) _ rfl) rfl (HD6.out.done hgl (by omega) (by omega))
  · clear c0 c1 c2 c3 x0 x1 x2 x3
    obtain ⟨⟨b0, b1, b2, b3⟩, z0, z1, z2, z3⟩ := blk4 HD4.out.2.1
    obtain ⟨⟨a0, a1, a2, a3⟩, y0, y1, y2, y3⟩ := blk4 HD4.out.1
    go_wp2
    exact bodyPost_ret (v := .agg #[.int .i64 N, .int .i64 I, .int .i64 B, .slice A len cap]) (retR rfl HD4.out.1 (.int .i64 N) (.int .i64 I) (.int .i64 B) (.slice A len cap) _ rfl) rfl (HD4.out.done hgl (by omega) (by omega))
end Go.Proofs.Ytgnijfmgfpckeaa
