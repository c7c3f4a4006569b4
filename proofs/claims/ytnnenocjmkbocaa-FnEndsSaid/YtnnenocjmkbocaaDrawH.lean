/-
  Helper text (no claim of its own): drawn circuits, bent. Only that they return, and what their results are made of.
-/
import Derived.Test.YtnnenocjmkbocaaDrawF
namespace Go.Proofs.Ytnnenocjmkbocaa
open Go.ChangeShapes Go.WideShapes Go.ChangeAt Go.RowKit Go.Deep
theorem l1Max_no (a b : Int) (w : World) (h : ¬ b < a) : Calls Try.prog 150 #[.int .i64 a, .int .i64 b] w fun e w' => e = .returned (.int .i64 b) ∧ w = w' := by
  have := l1Max_any a b w
  rwa [if_neg h] at this
theorem DC.done {w W : World} {g s : Nat} {N : Int} {A : Option Addr} {len cap : Nat} {gs : List Gt} (h : DC w W g s N A len cap gs) (hl : g < w.heap.size) :
    ((W.setCell ⟨w.heap.size, 0, none⟩ (.int .i64 N)).setCell ⟨w.heap.size, 1, none⟩ (.slice A len cap)).ownsRow w.heap.size 61 4 (.slice A len cap) len (gcells gs) ∧ Cur ((W.setCell ⟨w.heap.size, 0, none⟩ (.int .i64 N)).setCell ⟨w.heap.size, 1, none⟩ (.slice A len cap)) g ∧ w.grownBy ((W.setCell ⟨w.heap.size, 0, none⟩ (.int .i64 N)).setCell ⟨w.heap.size, 1, none⟩ (.slice A len cap)) (some g) :=
  ⟨own_base (own_set (own_set h.2.2.1 (p := ⟨w.heap.size, 0, none⟩) (by simp) _) (p := ⟨w.heap.size, 1, none⟩) (by simp) _) (by omega), Cur.set2 h.2.2.2.2.1 hl _ _, gr_set2 h.2.2.2.2.2 (Nat.le_refl _) _ _⟩
def lenAt (w : World) (s : Nat) : Nat := match w.cell? ⟨s, 1, none⟩ with | some (.slice _ n _) => n | _ => 0
theorem lenAt_blk {w : World} {s t : Nat} {a : Value} {A : Option Addr} {n c : Nat} (h : Blk w s t #[a, .slice A n c]) : lenAt w s = n := by
  have : w.cell? ⟨s, 1, none⟩ = some (.slice A n c) := h.cell 1
  unfold lenAt
  rw [this]
/-- What a drawn circuit is. -/
def DrewCirc (w : World) (g most : Nat) (e : Ending) (w' : World) : Prop :=
  ∃ (N : Int) (A : Option Addr) (len cap : Nat) (gs : List Gt), e = .returned (.agg #[.int .i64 N, .slice A len cap]) ∧ (-1 ≤ N ∧ N ≤ 5) ∧ len ≤ most + 61 ∧ w'.ownsRow w.heap.size 61 4 (.slice A len cap) len (gcells gs) ∧ Cur w' g ∧ w.grownBy w' (some g)
theorem DrewCirc.mk {w w' : World} {g most : Nat} (N : Int) (A : Option Addr) (len cap : Nat) (gs : List Gt) (h1 : -1 ≤ N ∧ N ≤ 5) (h2 : len ≤ most + 61) (h3 : w'.ownsRow w.heap.size 61 4 (.slice A len cap) len (gcells gs) ∧ Cur w' g ∧ w.grownBy w' (some g)) : DrewCirc w g most (.returned (.agg #[.int .i64 N, .slice A len cap])) w' :=
  ⟨N, A, len, cap, gs, rfl, h1, h2, h3⟩
set_option maxRecDepth 100000 in
set_option maxHeartbeats 8000000 in
theorem l11Bent_any (g most : Nat) (hm : most ≤ 200) (w : World) (h : Cur w g) :
    Calls Try.prog 110 #[.pointer (some ⟨g, 0, none⟩), .int .i64 most] w (DrewCirc w g most) := by
  have hgl := h.lt
  go_enter Try.func110, Try.ntmps110
  go_wp2_with fail
  refine (l1Below_any g 3 _ (h.alloc _) (by omega)).mono ?_
  rintro e w2 ⟨x, rfl, ⟨hx0, hx1, _⟩, hC2, hG2⟩
  obtain ⟨n, rfl⟩ := Int.eq_ofNat_of_zero_le hx0
  have hx2 : n < 3 := by have := hx1 (by omega); omega
  clear hx1 hx0
  go_wp2_with fail
  obtain ⟨n1, e1, hb1, hb2⟩ : ∃ n1 : Nat, (1 : Int) + (n : Int) = (n1 : Int) ∧ 1 ≤ n1 ∧ n1 ≤ 3 := ⟨n + 1, by omega, by omega, by omega⟩
  rw [e1]
  clear e1
  refine (l11Right_any g n1 most ⟨by omega, by omega⟩ hm _ hC2).mono ?_
  rintro e w3 ⟨A, len, cap, gs, rfl, hlen, ho3, hC3, hG3⟩
  have hB2 := (Blk.new w 128 #[.int .i64 0, .slice none 0 0]).grown hG2 (fun k hk => by injection hk; omega)
  have hB3 := hB2.grown hG3 (fun k hk => by injection hk; omega)
  have hl2 := hB2.lt
  have hl3 := hB3.lt
  have hg3 : w.grownBy w3 (some g) := gr_trans (gr_trans (((Ext.refl w).alloc _).gr _) hG2) hG3
  have hD : DC w (w3.alloc (.cells #[.int .i64 n1, .slice A len cap] 128)) g w3.heap.size n1 A len cap gs :=
    ⟨hB3.alloc _, Blk.new _ _ _, own_ext (own_base ho3 hl2) ((Ext.refl w3).alloc _), own_ne (own_base ho3 hl2) (Nat.le_refl _), hC3.alloc _, gr_alloc hg3 _⟩
  clear hB2 hB3 hG2 hG3 hg3 hC2 ho3
  go_wp2_with fail
  refine (l1Below_any g 12 _ (hC3.alloc _) (by omega)).mono ?_
  rintro e w4 ⟨x, rfl, ⟨hx0, hx1, _⟩, hC4, hG4⟩
  have hx2 := hx1 (by omega)
  clear hx1
  have hgs : g < w3.heap.size := by omega
  have hD4 := hD.grown hG4 hC4 hgs hgl
  clear hD hG4 hC3
  generalize w3.heap.size = s at *
  have hs4 := hD4.2.1.lt
  have hw4 := hD4.1.lt
  have hge : w.heap.size + 1 ≤ w4.heap.size := by omega
  by_cases e0 : x = 0
  · subst e0
    go_wp2_with fail
    refine (l1PickInt_any g _ 5 _ [0, 1, 4, 5, -1] _ (hC4.alloc _) (rd_newN w4 _ _ _ 5 1 _ rfl rfl rfl) (by intro b o e; injection e with e; injection e with e1; omega) (by omega)).mono ?_
    rintro e w5 ⟨z, rfl, hz, hC5, hG5⟩
    have hD5 := (hD4.alloc _).grown hG5 hC5 hgs hgl
    have hz2 : -1 ≤ z ∧ z ≤ 5 := by simp at hz; omega
    clear hz hD4 hC4 hG5
    have hD6 := hD5.setN z (by omega) hgl
    obtain ⟨⟨b0, b1⟩, z0, z1⟩ := blk2 hD5.2.1
    obtain ⟨⟨a0, a1⟩, y0, y1⟩ := blk2 hD5.1
    have HD := Lib.hid hD6
    clear hD6 hD5
    go_wp2
    exact bodyPost_ret (v := .agg #[.int .i64 z, .slice A len cap]) (ret2c rfl HD.out.1 (.int .i64 z) (.slice A len cap) _ rfl) rfl (DrewCirc.mk (z) A (len) cap (gs) (hz2) (by omega) (HD.out.done hgl))
  by_cases e1 : x = 1
  · subst e1
    have HD4 := Lib.hid hD4
    obtain ⟨⟨b0, b1⟩, z0, z1⟩ := blk2 hD4.2.1
    clear hD4
    go_wp2
    go_region_law (first
      | (go_simp; go_at_call 150; refine (l1Max_no _ _ _ (by omega)).mono ?_; rintro e wq ⟨rfl, rfl⟩)
      | (go_simp; go_at_call 149; refine (l9Bent_any g n1 (by omega) _ (hC4.ext (Ext.refl w4).drew)).mono ?_; rintro e w5 ⟨y, rfl, hC5, hG5⟩; have HD5 := Lib.hid (HD4.out.drew.grown hG5 hC5 hgs hgl); have k0 : w5.cell? ⟨s, 0, none⟩ = some (.int .i64 n1) := HD5.out.2.1.cell 0; have k1 : w5.cell? ⟨s, 1, none⟩ = some (.slice A len cap) := HD5.out.2.1.cell 1; have hs5 := HD5.out.2.1.lt; have hw5 := HD5.out.1.lt)
      | (refine stepG1 (B := w.heap.size + 1) (by rfl) _ _ (by rfl) _ len gs (by rfl) HD5.out.2.2.1 (by omega) y _ _ (by rfl) (by rfl) (by omega) ?_; intro A6 c6 w6 ho6 hg6 hb6; have HA := Lib.hid (HD5.out.app (by omega) hgl ho6 hg6 hb6); have k6 : w6.cell? ⟨s, 1, none⟩ = some (.slice A len cap) := HA.out.1.cell 1; have f6 : w6.frozen? ⟨s, 1, none⟩ = false := HA.out.1.frozen 1))
    all_goals
      clear k6 f6 k0 k1 b0 b1 z0 z1
      have HD := Lib.hid HA.out.2
      obtain ⟨⟨b0, b1⟩, z0, z1⟩ := blk2 HD.out.2.1
      obtain ⟨⟨a0, a1⟩, y0, y1⟩ := blk2 HD.out.1
      go_wp2
      exact bodyPost_ret (v := .agg #[.int .i64 n1, .slice A6 (len + 1) c6]) (ret2c rfl HD.out.1 (.int .i64 n1) (.slice A6 (len + 1) c6) _ rfl) rfl (DrewCirc.mk (n1) A6 (len + 1) c6 (gs ++ [y]) (by omega) (by omega) (HD.out.done hgl))
  by_cases e2 : x = 2
  · subst e2
    go_wp2_with fail
    refine (l1Once_any g _ _ hC4 (by omega)).mono ?_
    rintro e w5 ⟨bb, rfl, hC5, hG5⟩
    have hD5 := hD4.grown hG5 hC5 hgs hgl
    clear hD4 hC4 hG5
    cases bb
    · have HD := Lib.hid hD5
      obtain ⟨⟨b0, b1⟩, z0, z1⟩ := blk2 hD5.2.1
      obtain ⟨⟨a0, a1⟩, y0, y1⟩ := blk2 hD5.1
      clear hD5
      go_wp2
      exact bodyPost_ret (v := .agg #[.int .i64 n1, .slice A len cap]) (ret2c rfl HD.out.1 (.int .i64 n1) (.slice A len cap) _ rfl) rfl (DrewCirc.mk (n1) A (len) cap (gs) (by omega) (by omega) (HD.out.done hgl))
    · go_wp2
      go_loopw [] (fun wr => ∃ (A : Option Addr) (l cap : Nat) (gs : List Gt), l ≤ most + 61 ∧ DC w wr g s n1 A l cap gs) (fun wr => 62 - lenAt wr s)
      case atStart => exact ⟨A, len, cap, gs, by omega, hD5⟩
      case round =>
        clear hD5 hC5
        obtain ⟨A, l, cap, gs, hl, hD⟩ := hrel
        have HD := Lib.hid hD
        obtain ⟨⟨b0, b1⟩, z0, z1⟩ := blk2 hD.2.1
        have hCr := hD.2.2.2.2.1
        have hsr := hD.2.1.lt
        have hwr := hD.1.lt
        clear hD
        go_wp2
        go_region_law (first
          | (go_simp; go_at_call 111; refine (l1Below_any g 3 _ (hCr.ext (Ext.refl wr).drew) (by omega)).mono ?_; rintro e w6 ⟨z, rfl, ⟨hz0, hz1, _⟩, hC6, hG6⟩; have HD6 := Lib.hid (HD.out.drew.grown hG6 hC6 hgs hgl); have k1 : w6.cell? ⟨s, 1, none⟩ = some (.slice A l cap) := HD6.out.2.1.cell 1; have hz2 : z < 3 := hz1 (by omega); clear hz1))
        all_goals
          clear k1 b0 b1 z0 z1
          obtain ⟨⟨b0, b1⟩, z0, z1⟩ := blk2 HD6.out.2.1
          have hs6 := HD6.out.2.1.lt
          have hw6 := HD6.out.1.lt
          rw [show IntKind.i64.wrap (59 + z) = 59 + z from IntWalk.i64_in _ (by omega)]
          by_cases hlt : (l : Int) < 59 + z
          · go_wp2_with (at_builtin; refine appG1 (B := w.heap.size + 1) rfl _ _ rfl _ l gs rfl HD6.out.2.2.1 (by omega) ⟨1, 0, 0, 0⟩ _ _ rfl rfl (by omega) ?_; intro A7 c7 w7 ho7 hg7 hb7; have HA := Lib.hid (HD6.out.app (by omega) hgl ho7 hg7 hb7); have k6 : w7.cell? ⟨s, 1, none⟩ = some (.slice A l cap) := HA.out.1.cell 1; have f6 : w7.frozen? ⟨s, 1, none⟩ = false := HA.out.1.frozen 1)
            have HM : Hid (62 - lenAt (w7.setCell ⟨s, 1, none⟩ (.slice A7 (l + 1) c7)) s < 62 - lenAt wr s) := by
              unfold Hid
              rw [lenAt_blk HA.out.2.2.1, lenAt_blk HD.out.2.1]
              omega
            clear k6 f6 b0 b1 z0 z1
            go_roundw
            case rel => exact ⟨A7, l + 1, c7, _, by omega, HA.out.2⟩
            case measure => exact HM.out
          · obtain ⟨⟨a0, a1⟩, y0, y1⟩ := blk2 HD6.out.1
            go_wp2
            exact bodyPost_ret (v := .agg #[.int .i64 n1, .slice A l cap]) (ret2c rfl HD6.out.1 (.int .i64 n1) (.slice A l cap) _ rfl) rfl (DrewCirc.mk (n1) A (l) cap (gs) (by omega) (by omega) (HD6.out.done hgl))
  · have HD := Lib.hid hD4
    obtain ⟨⟨b0, b1⟩, z0, z1⟩ := blk2 hD4.2.1
    obtain ⟨⟨a0, a1⟩, y0, y1⟩ := blk2 hD4.1
    clear hD4
    go_wp2
    exact bodyPost_ret (v := .agg #[.int .i64 n1, .slice A len cap]) (ret2c rfl HD.out.1 (.int .i64 n1) (.slice A len cap) _ rfl) rfl (DrewCirc.mk (n1) A (len) cap (gs) (by omega) (by omega) (HD.out.done hgl))
end Go.Proofs.Ytnnenocjmkbocaa
