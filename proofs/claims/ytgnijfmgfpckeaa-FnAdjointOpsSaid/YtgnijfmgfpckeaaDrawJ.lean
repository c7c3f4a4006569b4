/-
  Helper text (no claim of its own): drawn routines. Only that they return, and what their results are made of. Printed by gen_drawo.py.
-/
import Derived.Test.YtgnijfmgfpckeaaDrawI
namespace Go.Proofs.Ytgnijfmgfpckeaa
open Go.ChangeShapes Go.WideShapes Go.ChangeAt Go.RowKit Go.Deep
theorem blk8 {w : World} {g t : Nat} {a0 a1 a2 a3 a4 a5 a6 a7 : Value} (h : Blk w g t #[a0, a1, a2, a3, a4, a5, a6, a7]) : (w.cell? ⟨g, 0, none⟩ = some a0 ∧ w.cell? ⟨g, 1, none⟩ = some a1 ∧ w.cell? ⟨g, 2, none⟩ = some a2 ∧ w.cell? ⟨g, 3, none⟩ = some a3 ∧ w.cell? ⟨g, 4, none⟩ = some a4 ∧ w.cell? ⟨g, 5, none⟩ = some a5 ∧ w.cell? ⟨g, 6, none⟩ = some a6 ∧ w.cell? ⟨g, 7, none⟩ = some a7) ∧ w.frozen? ⟨g, 7, none⟩ = false :=
  ⟨⟨h.cell 0, h.cell 1, h.cell 2, h.cell 3, h.cell 4, h.cell 5, h.cell 6, h.cell 7⟩, h.frozen 7⟩
set_option maxRecDepth 100000 in
set_option maxHeartbeats 16000000 in
theorem l21Right3_any (g most : Nat) (hm : most ≤ 200) (w : World) (h : Cur w g) :
    Calls Try.prog 32 #[.pointer (some ⟨g, 0, none⟩), .int .i64 most] w (DrewRout3 w g most) := by
  have hgl := h.lt
  go_enter Try.func32, Try.ntmps32
  go_wp2_with fail
  refine (l1Below_any g 3 _ (h.alloc _) (by omega)).mono ?_
  rintro e w2 ⟨x, rfl, ⟨hx0, hx1, _⟩, hC2, hG2⟩
  obtain ⟨n0, rfl⟩ := Int.eq_ofNat_of_zero_le hx0
  have hx2 : n0 < 3 := by have := hx1 (by omega); omega
  clear hx1 hx0
  have hB2 := (Blk.new w 53 #[.int .i64 0, .int .i64 0, .int .i64 0, .slice none 0 0]).grown hG2 (fun k hk => by injection hk; omega)
  have hl2 := hB2.lt
  have hg2 : w.grownBy w2 (some g) := gr_trans (((Ext.refl w).alloc _).gr _) hG2
  clear hG2
  go_upto_region 3 with (fail)
  obtain ⟨n, en, hn1, hn3⟩ : ∃ n : Nat, (1 : Int) + (n0 : Int) = (n : Int) ∧ 1 ≤ n ∧ n ≤ 3 := ⟨n0 + 1, by omega, by omega, by omega⟩
  rw [en]
  clear en
  have hD : DR w (w2.alloc (.cells #[.int .i64 n, .int .i64 n, .int .i64 0, .slice none 0 0] 53)) g w2.heap.size n n 0 none 0 0 [] :=
    ⟨hB2.alloc _, Blk.new _ _ _, ⟨by simp, .inl ⟨rfl, rfl⟩⟩, fun q hq => by simp [Value.ownBlock] at hq, hC2.alloc _, gr_alloc hg2 _⟩
  generalize w2.alloc (.cells #[.int .i64 n, .int .i64 n, .int .i64 0, .slice none 0 0] 53) = W at *
  generalize w2.heap.size = s at *
  have hgs : g < s := by omega
  clear hB2 hg2 hC2
  have HD := Lib.hid hD
  have hCW := hD.cur
  have hlW := hD.lt
  clear hD
  go_cut [22] (fun s22 wx => ∃ bb : Bool, s22 = .bool bb ∧ DR w wx g s n n 0 none 0 0 [])
  case first =>
    by_cases hn : 1 < n
    · go_wp2_with fail
      refine (l1Once_any g 4 _ hCW (by omega)).mono ?_
      rintro e w5 ⟨bb, rfl, hC5, hG5⟩
      go_wp2_with fail
      go_meet
      exact ⟨bb, rfl, HD.out.grown hG5 hC5 hgs hgl⟩
    · go_wp2_with fail
      go_meet
      exact ⟨false, rfl, HD.out⟩
  case rest =>
    obtain ⟨bb, rfl, hD⟩ := hcut
    clear HD hCW hlW
    have hws : w.heap.size < s := by omega
    have HD := Lib.hid hD
    have hCW := hD.cur
    have hlW := hD.lt
    have i1 : wc.cell? ⟨s, 1, none⟩ = some (.int .i64 n) := hD.2.1.cell 1
    have j1 : wc.frozen? ⟨s, 1, none⟩ = false := hD.2.1.frozen 1
    clear hD
    go_upto_if 22 with (fail)
    go_cut [] (fun wx => ∃ I : Int, (0 ≤ I ∧ I ≤ 3) ∧ DR w wx g s n I 0 none 0 0 [])
    case first =>
      cases bb
      · go_wp2_with fail
        go_meet
        exact ⟨n, by omega, HD.out⟩
      · go_wp2_with fail
        go_meet
        exact ⟨n - 1, by omega, HD.out.setI _ rfl hws hgl⟩
    case rest =>
      clear i1 j1 HD hCW hlW
      obtain ⟨I, hI, hD⟩ := hcut
      go_wp2_with fail
      refine (l1Once_any g 2 _ hD.cur (by omega)).mono ?_
      rintro e w6 ⟨wild, rfl, hC6, hG6⟩
      have hD6 := hD.grown hG6 hC6 hgs hgl
      clear hD hG6 hC6
      go_wp2_with fail
      refine (l1Below_any g _ _ hD6.cur (by omega)).mono ?_
      rintro e w7 ⟨mm, rfl, ⟨hm0, hm1, _⟩, hC7, hG7⟩
      obtain ⟨m, rfl⟩ := Int.eq_ofNat_of_zero_le hm0
      have hmm : m ≤ most := by have := hm1 (by omega); omega
      have hD7 := hD6.grown hG7 hC7 hgs hgl
      clear hm1 hm0 hD6 hG7 hC7
      go_wp2
      go_loopw [9] (fun i wr => ∃ (k : Nat) (I B : Int) (A : Option Addr) (cap : Nat) (xs : List Oq), k ≤ m ∧ i = .int .i64 k ∧ (0 ≤ I ∧ I ≤ 3) ∧ (0 ≤ B ∧ B ≤ 2) ∧ DR w wr g s n I B A k cap xs) (fun i _ => m - (intOf i).toNat)
      case atStart => exact ⟨0, I, 0, none, 0, [], Nat.zero_le _, rfl, hI, by omega, hD7⟩
      case round =>
        clear hD7 hI I
        obtain ⟨k, I, B, A, cap, xs, hk, rfl, hI, hBB, hD⟩ := hrel
        have HD := Lib.hid hD
        have hCW := hD.cur
        have hlW := hD.lt
        have i2 : wr.cell? ⟨s, 2, none⟩ = some (.int .i64 B) := hD.2.1.cell 2
        by_cases hlt : k < m
        · clear hD
          go_upto_region 10 with (fail)
          go_cut [46] (fun s46 wx => ∃ bb : Bool, s46 = .bool bb ∧ (bb = true → B < 2) ∧ DR w wx g s n I B A k cap xs)
          case first =>
            cases wild
            · go_wp2_with fail
              go_meet
              exact ⟨false, rfl, by simp, HD.out⟩
            · by_cases hB2 : B < 2
              · go_wp2_with fail
                refine (l1Once_any g 4 _ hCW (by omega)).mono ?_
                rintro e w8 ⟨bb, rfl, hC8, hG8⟩
                go_wp2_with fail
                go_meet
                exact ⟨bb, rfl, fun _ => hB2, HD.out.grown hG8 hC8 hgs hgl⟩
              · go_wp2_with fail
                go_meet
                exact ⟨false, rfl, by simp, HD.out⟩
          case rest =>
            clear HD hCW hlW i2
            obtain ⟨bb, rfl, hb2, hD⟩ := hcut
            have HD := Lib.hid hD
            have hCW := hD.cur
            have hlW := hD.lt
            have i2 : wc.cell? ⟨s, 2, none⟩ = some (.int .i64 B) := hD.2.1.cell 2
            have i3 : wc.cell? ⟨s, 3, none⟩ = some (.slice A k cap) := hD.2.1.cell 3
            have hCd : Cur wc.drew g := hCW.ext (Ext.refl wc).drew
            clear hD
            cases bb
            · clear hb2
              go_wp2_with fail
              refine (l9Gate_any g n (by omega) _ hCW).mono ?_
              rintro e w9 ⟨y, rfl, hC9, hG9⟩
              have hD9 := HD.out.grown hG9 hC9 hgs hgl
              have hl9 := hD9.lt
              go_upto_region 14 with (fail)
              have hT := Blk.new w9 32 #[.int .i64 1, .int .i64 y.k, .int .i64 y.a, .int .i64 y.b, .int .i64 y.c, .int .i64 0, .int .i64 0, .int .i64 0]
              have hDT := hD9.alloc (.cells #[.int .i64 1, .int .i64 y.k, .int .i64 y.a, .int .i64 y.b, .int .i64 y.c, .int .i64 0, .int .i64 0, .int .i64 0] 32)
              have hqT : ∀ q, (Value.slice A k cap).ownBlock = some q → q ≠ w9.heap.size := fun q hq => by have := (hD9.2.2.1.lt q hq).2; omega
              generalize w9.alloc (.cells #[.int .i64 1, .int .i64 y.k, .int .i64 y.a, .int .i64 y.b, .int .i64 y.c, .int .i64 0, .int .i64 0, .int .i64 0] 32) = W0 at *
              generalize w9.heap.size = t at *
              have hts : t ≠ s := by omega
              have hwt : w.heap.size < t := by omega
              have HQT := Lib.hid hqT
              have HDT := Lib.hid hDT
              have hC0 := hDT.cur
              have hl0 := hDT.lt
              have i2' : W0.cell? ⟨s, 2, none⟩ = some (.int .i64 B) := hDT.2.1.cell 2
              clear hqT hDT i2 i3 hCd HD hCW hlW hD9 hC9 hG9
              go_cut [72] (fun s72 wx => ∃ bb : Bool, s72 = .bool bb ∧ DR w wx g s n I B A k cap xs ∧ Blk wx t 32 #[.int .i64 1, .int .i64 y.k, .int .i64 y.a, .int .i64 y.b, .int .i64 y.c, .int .i64 0, .int .i64 0, .int .i64 0])
              case first =>
                by_cases hB0 : 0 < B
                · go_wp2_with fail
                  refine (l1Once_any g 2 _ hC0 (by omega)).mono ?_
                  rintro e w10 ⟨bb, rfl, hC10, hG10⟩
                  go_wp2_with fail
                  go_meet
                  exact ⟨bb, rfl, HDT.out.grown hG10 hC10 hgs hgl, hT.grown hG10 (fun k hk => by injection hk; omega)⟩
                · go_wp2_with fail
                  go_meet
                  exact ⟨false, rfl, HDT.out, hT⟩
              case rest =>
                clear HDT hC0 hl0 i2' hT
                obtain ⟨bb, rfl, hD, hT⟩ := hcut
                have HD := Lib.hid hD
                have hC0 := hD.cur
                have hl0 := hD.lt
                have i2 : wc.cell? ⟨s, 2, none⟩ = some (.int .i64 B) := hD.2.1.cell 2
                clear hD
                cases bb
                · obtain ⟨W1, rfl⟩ : ∃ W1 : World, W1 = wc := ⟨_, rfl⟩
                  have HD1 := HD
                  have hT1 := hT
                  clear HD hT i2 hC0 hl0
                  have k3 : W1.cell? ⟨s, 3, none⟩ = some (.slice A k cap) := HD1.out.2.1.cell 3
                  have hl1 := HD1.out.lt
                  obtain ⟨⟨o0, o1, o2, o3, o4, o5, o6, o7⟩, f7⟩ := blk8 hT1
                  go_wp2_with (at_builtin; refine appO1 (B := w.heap.size + 1) rfl _ _ rfl _ k xs rfl HD1.out.2.2.1 (by omega) ⟨1, y, 0, 0, 0⟩ _ _ rfl rfl (by omega) ?_; intro A7 c7 w7 ho7 hg7 hb7; have HA := Lib.hid (HD1.out.app hws hgl ho7 hg7 hb7); have k6 : w7.cell? ⟨s, 3, none⟩ = some (.slice A k cap) := HA.out.1.cell 3; have f6 : w7.frozen? ⟨s, 3, none⟩ = false := HA.out.1.frozen 3)
                  clear k6 f6 k3 o0 o1 o2 o3 o4 o5 o6 o7 f7
                  go_roundw
                  case rel => exact ⟨k + 1, I, B, A7, c7, _, by omega, by go_num, hI, hBB, HA.out.2⟩
                  case measure => simp [intOf]; omega
                · go_wp2_with fail
                  refine (l1Below_any g B _ hC0 (by omega)).mono ?_
                  rintro e w10 ⟨z, rfl, ⟨hz0, hz1, hz2⟩, hC10, hG10⟩
                  have hz3 : z ≤ 2 := by
                    by_cases hB0 : 0 < B
                    · have := hz1 hB0; omega
                    · have := hz2 (by omega); omega
                  clear hz1 hz2
                  have hD10 := HD.out.grown hG10 hC10 hgs hgl
                  have hT10 := hT.grown hG10 (fun k hk => by injection hk; omega)
                  have hl10 := hT10.lt
                  obtain ⟨⟨o0, o1, o2, o3, o4, o5, o6, o7⟩, f7⟩ := blk8 hT10
                  go_upto_region 16 with (fail)
                  clear o0 o1 o2 o3 o4 o5 o6 o7 f7
                  have HD1 := Lib.hid (hD10.far (j := 7) (.int .i64 (1 + z)) hts hwt hgl HQT.out)
                  have hT1 : Blk (w10.setCell ⟨t, 7, none⟩ (.int .i64 (1 + z))) t 32 #[.int .i64 1, .int .i64 y.k, .int .i64 y.a, .int .i64 y.b, .int .i64 y.c, .int .i64 0, .int .i64 0, .int .i64 (1 + z)] := hT10.set_ 7 _
                  generalize w10.setCell ⟨t, 7, none⟩ (.int .i64 (1 + z)) = W1 at *
                  clear HD hT i2 hC0 hl0 hD10 hT10
                  have k3 : W1.cell? ⟨s, 3, none⟩ = some (.slice A k cap) := HD1.out.2.1.cell 3
                  have hl1 := HD1.out.lt
                  obtain ⟨⟨o0, o1, o2, o3, o4, o5, o6, o7⟩, f7⟩ := blk8 hT1
                  go_wp2_with (at_builtin; refine appO1 (B := w.heap.size + 1) rfl _ _ rfl _ k xs rfl HD1.out.2.2.1 (by omega) ⟨1, y, 0, 0, (1 + z)⟩ _ _ rfl rfl (by omega) ?_; intro A7 c7 w7 ho7 hg7 hb7; have HA := Lib.hid (HD1.out.app hws hgl ho7 hg7 hb7); have k6 : w7.cell? ⟨s, 3, none⟩ = some (.slice A k cap) := HA.out.1.cell 3; have f6 : w7.frozen? ⟨s, 3, none⟩ = false := HA.out.1.frozen 3)
                  clear k6 f6 k3 o0 o1 o2 o3 o4 o5 o6 o7 f7
                  go_roundw
                  case rel => exact ⟨k + 1, I, B, A7, c7, _, by omega, by go_num, hI, hBB, HA.out.2⟩
                  case measure => simp [intOf]; omega
            · have hB2 := hb2 rfl
              clear hb2
              go_wp2
              go_region_law (first
                | (go_simp; go_at_call 33; (with_reducible refine (l1Below_any g n _ hCd (by omega)).mono ?_); rintro e w8 ⟨z, rfl, ⟨hz0, hz1, hz2⟩, hC8, hG8⟩; have HD8 := Lib.hid (HD.out.drew.grown hG8 hC8 hgs hgl); have hl8 := HD8.out.lt; have k2 : w8.cell? ⟨s, 2, none⟩ = some (.int .i64 B) := HD8.out.2.1.cell 2; have k3 : w8.cell? ⟨s, 3, none⟩ = some (.slice A k cap) := HD8.out.2.1.cell 3)
                | (refine stepO1 (B := w.heap.size + 1) (by rfl) _ _ (by rfl) _ k xs (by rfl) HD8.out.2.2.1 (by omega) ⟨2, ⟨0, 0, 0, 0⟩, z, B, 0⟩ _ _ (by rfl) (by rfl) (by omega) ?_; intro A4 c4 w9 ho4 hg4 hb4; have HA := Lib.hid (HD8.out.app hws hgl ho4 hg4 hb4); have k6 : w9.cell? ⟨s, 3, none⟩ = some (.slice A k cap) := HA.out.1.cell 3; have f6 : w9.frozen? ⟨s, 3, none⟩ = false := HA.out.1.frozen 3))
              all_goals
                clear k6 f6 k2 k3 i2 i3
                have HD9 := Lib.hid HA.out.2
                have k2 : (w9.setCell ⟨s, 3, none⟩ (.slice A4 (k + 1) c4)).cell? ⟨s, 2, none⟩ = some (.int .i64 B) := HD9.out.2.1.cell 2
                have f2 : (w9.setCell ⟨s, 3, none⟩ (.slice A4 (k + 1) c4)).frozen? ⟨s, 2, none⟩ = false := HD9.out.2.1.frozen 2
                generalize w9.setCell ⟨s, 3, none⟩ (.slice A4 (k + 1) c4) = W1 at *
                go_wp2
                go_roundw
                case rel => exact ⟨k + 1, I, B + 1, A4, c4, _, by omega, by go_num, hI, by omega, HD9.out.setI _ rfl hws hgl⟩
                case measure => simp [intOf]; omega
        · obtain ⟨⟨b0, b1, b2, b3⟩, z0, z1, z2, z3⟩ := blk4 hD.2.1
          obtain ⟨⟨a0, a1, a2, a3⟩, y0, y1, y2, y3⟩ := blk4 hD.1
          clear hD i2
          go_wp2
          exact bodyPost_ret (v := .agg #[.int .i64 n, .int .i64 I, .int .i64 B, .slice A k cap]) (retR rfl HD.out.1 (.int .i64 n) (.int .i64 I) (.int .i64 B) (.slice A k cap) _ rfl) rfl (HD.out.done3 hgl (by omega) (by omega))
theorem l21Right_any (g most : Nat) (hm : most ≤ 200) (w : World) (h : Cur w g) :
    Calls Try.prog 32 #[.pointer (some ⟨g, 0, none⟩), .int .i64 most] w (DrewRout w g most) := (l21Right3_any g most hm w h).mono fun _ _ h => h.loose
end Go.Proofs.Ytgnijfmgfpckeaa
