/-
 Helper text (no claim of its own): states: comparison, times a power of the eighth root, by the reference. Printed by gen_am.py or gen_an.py.
-/
import Derived.Test.YtdjckjfclhjpcaaGreatMLowLi
import Derived.Test.YtdjckjfclhjpcaaGreatOp
import Derived.Test.YtdjckjfclhjpcaaGreatMLowLc
import Derived.Test.YtdjckjfclhjpcaaGreatMLowLg
import Derived.Test.YtdjckjfclhjpcaaGreatMLowLa
import Derived.Test.YtdjckjfclhjpcaaGreatMLowLb
/-
 Helper text (no claim of its own): drawn routines. Only that they return, and what their results are made of. Printed by gen_drawo.py.
-/
namespace Go.Proofs.YtdjckjfclhjpcaaGreat
open Go.ChangeShapes Go.WideShapes Go.ChangeAt Go.RowKit Go.Deep
theorem blk8 {w : World} {g t : Nat} {a0 a1 a2 a3 a4 a5 a6 a7 : Value} (h : Blk w g t #[a0, a1, a2, a3, a4, a5, a6, a7]) : (w.cell? ⟨g, 0, none⟩ = some a0 ∧ w.cell? ⟨g, 1, none⟩ = some a1 ∧ w.cell? ⟨g, 2, none⟩ = some a2 ∧ w.cell? ⟨g, 3, none⟩ = some a3 ∧ w.cell? ⟨g, 4, none⟩ = some a4 ∧ w.cell? ⟨g, 5, none⟩ = some a5 ∧ w.cell? ⟨g, 6, none⟩ = some a6 ∧ w.cell? ⟨g, 7, none⟩ = some a7) ∧ w.frozen? ⟨g, 7, none⟩ = false :=
 ⟨⟨h.cell 0, h.cell 1, h.cell 2, h.cell 3, h.cell 4, h.cell 5, h.cell 6, h.cell 7⟩, h.frozen 7⟩
set_option maxRecDepth 100000 in
set_option maxHeartbeats 16000000 in
theorem l21Right3_any (g most : Nat) (hm : most ≤ 200) (w : World) (h : Cur w g) :
  Calls Tryz.prog 38 #[.pointer (some ⟨g, 0, none⟩), .int .i64 most] w (DrewRout3 w g most) := by
 have hgl := h.lt
 go_enter Tryz.func38, Tryz.ntmps38
 go_wp2_with fail
 refine (l1Below_any g 3 _ (h.alloc _) (by omega)).mono ?_
 rintro e w2 ⟨x, rfl, ⟨hx0, hx1, _⟩, hC2, hG2⟩
 obtain ⟨n0, rfl⟩ := Int.eq_ofNat_of_zero_le hx0
 have hx2 : n0 < 3 := by have := hx1 (by omega); omega
 clear hx1 hx0
 have hB2 := (Blk.new w 26 #[.int .i64 0, .int .i64 0, .int .i64 0, .slice none 0 0]).grown hG2 (fun k hk => by injection hk; omega)
 have hl2 := hB2.lt
 have hg2 : w.grownBy w2 (some g) := gr_trans (((Ext.refl w).alloc _).gr _) hG2
 clear hG2
 go_upto_region 3 with (fail)
 obtain ⟨n, en, hn1, hn3⟩ : ∃ n : Nat, (1 : Int) + (n0 : Int) = (n : Int) ∧ 1 ≤ n ∧ n ≤ 3 := ⟨n0 + 1, by omega, by omega, by omega⟩
 rw [en]
 clear en
 have hD : DR w (w2.alloc (.cells #[.int .i64 n, .int .i64 n, .int .i64 0, .slice none 0 0] 26)) g w2.heap.size n n 0 none 0 0 [] :=
  ⟨hB2.alloc _, Blk.new _ _ _, ⟨by simp, .inl ⟨rfl, rfl⟩⟩, fun q hq => by simp [Value.ownBlock] at hq, hC2.alloc _, gr_alloc hg2 _⟩
 generalize w2.alloc (.cells #[.int .i64 n, .int .i64 n, .int .i64 0, .slice none 0 0] 26) = W at *
 generalize w2.heap.size = s at *
 have hgs : g < s := by omega
 clear hB2 hg2 hC2
 have HD := Lib.hid hD
 have hCW := hD.cur
 have hlW := hD.lt
 clear hD
 go_cut [22] (fun s22 wx => ∃ bb : Bool, s22 = .bool bb ∧ DR w wx g s n n 0 none 0 0 [])
 case first =>
  by_cases hn : 1 < n
  ·go_wp2_with fail
   refine (l1Once_any g 4 _ hCW (by omega)).mono ?_
   rintro e w5 ⟨bb, rfl, hC5, hG5⟩
   go_wp2_with fail
   go_meet
   exact ⟨bb, rfl, HD.out.grown hG5 hC5 hgs hgl⟩
  ·go_wp2_with fail
   go_meet
   exact ⟨false, rfl, HD.out⟩
 case rest =>
  obtain ⟨bb, rfl, hD⟩ := hcut
  clear HD hCW hlW
  have hws : w.heap.size < s := by omega
  have HD := Lib.hid hD
  have hCW := hD.cur
  have hlW := hD.lt
  have i1 : wc.cell? ⟨s, 1, none⟩ = some (.int .i64 n) := hD.2.1.cell 1
  have j1 : wc.frozen? ⟨s, 1, none⟩ = false := hD.2.1.frozen 1
  clear hD
  go_upto_if 22 with (fail)
  go_cut [] (fun wx => ∃ I : Int, (0 ≤ I ∧ I ≤ 3) ∧ DR w wx g s n I 0 none 0 0 [])
  case first =>
   cases bb
   ·go_wp2_with fail
    go_meet
    exact ⟨n, by omega, HD.out⟩
   ·go_wp2_with fail
    go_meet
    exact ⟨n - 1, by omega, HD.out.setI _ rfl hws hgl⟩
  case rest =>
   clear i1 j1 HD hCW hlW
   obtain ⟨I, hI, hD⟩ := hcut
   go_wp2_with fail
   refine (l1Once_any g 2 _ hD.cur (by omega)).mono ?_
   rintro e w6 ⟨wild, rfl, hC6, hG6⟩
   have hD6 := hD.grown hG6 hC6 hgs hgl
   clear hD hG6 hC6
   go_wp2_with fail
   refine (l1Below_any g _ _ hD6.cur (by omega)).mono ?_
   rintro e w7 ⟨mm, rfl, ⟨hm0, hm1, _⟩, hC7, hG7⟩
   obtain ⟨m, rfl⟩ := Int.eq_ofNat_of_zero_le hm0
   have hmm : m ≤ most := by have := hm1 (by omega); omega
   have hD7 := hD6.grown hG7 hC7 hgs hgl
   clear hm1 hm0 hD6 hG7 hC7
   go_wp2
   go_loopw [9] (fun i wr => ∃ (k : Nat) (I B : Int) (A : Option Addr) (cap : Nat) (xs : List Oq), k ≤ m ∧ i = .int .i64 k ∧ (0 ≤ I ∧ I ≤ 3) ∧ (0 ≤ B ∧ B ≤ 2) ∧ DR w wr g s n I B A k cap xs) (fun i _ => m - (intOf i).toNat)
   case atStart => exact ⟨0, I, 0, none, 0, [], Nat.zero_le _, rfl, hI, by omega, hD7⟩
   case round =>
    clear hD7 hI I
    obtain ⟨k, I, B, A, cap, xs, hk, rfl, hI, hBB, hD⟩ := hrel
    have HD := Lib.hid hD
    have hCW := hD.cur
    have hlW := hD.lt
    have i2 : wr.cell? ⟨s, 2, none⟩ = some (.int .i64 B) := hD.2.1.cell 2
    by_cases hlt : k < m
    ·clear hD
     go_upto_region 10 with (fail)
     go_cut [46] (fun s46 wx => ∃ bb : Bool, s46 = .bool bb ∧ (bb = true → B < 2) ∧ DR w wx g s n I B A k cap xs)
     case first =>
      cases wild
      ·go_wp2_with fail
       go_meet
       exact ⟨false, rfl, by simp, HD.out⟩
      ·by_cases hB2 : B < 2
       ·go_wp2_with fail
        refine (l1Once_any g 4 _ hCW (by omega)).mono ?_
        rintro e w8 ⟨bb, rfl, hC8, hG8⟩
        go_wp2_with fail
        go_meet
        exact ⟨bb, rfl, fun _ => hB2, HD.out.grown hG8 hC8 hgs hgl⟩
       ·go_wp2_with fail
        go_meet
        exact ⟨false, rfl, by simp, HD.out⟩
     case rest =>
      clear HD hCW hlW i2
      obtain ⟨bb, rfl, hb2, hD⟩ := hcut
      have HD := Lib.hid hD
      have hCW := hD.cur
      have hlW := hD.lt
      have i2 : wc.cell? ⟨s, 2, none⟩ = some (.int .i64 B) := hD.2.1.cell 2
      have i3 : wc.cell? ⟨s, 3, none⟩ = some (.slice A k cap) := hD.2.1.cell 3
      have hCd : Cur wc.drew g := hCW.ext (Ext.refl wc).drew
      clear hD
      cases bb
      ·clear hb2
       go_wp2_with fail
       refine (l9Gate_any g n (by omega) _ hCW).mono ?_
       rintro e w9 ⟨y, rfl, hC9, hG9⟩
       have hD9 := HD.out.grown hG9 hC9 hgs hgl
       have hl9 := hD9.lt
       go_upto_region 14 with (fail)
       have hT := Blk.new w9 40 #[.int .i64 1, .int .i64 y.k, .int .i64 y.a, .int .i64 y.b, .int .i64 y.c, .int .i64 0, .int .i64 0, .int .i64 0]
       have hDT := hD9.alloc (.cells #[.int .i64 1, .int .i64 y.k, .int .i64 y.a, .int .i64 y.b, .int .i64 y.c, .int .i64 0, .int .i64 0, .int .i64 0] 40)
       have hqT : ∀ q, (Value.slice A k cap).ownBlock = some q → q ≠ w9.heap.size := fun q hq => by have := (hD9.2.2.1.lt q hq).2; omega
       generalize w9.alloc (.cells #[.int .i64 1, .int .i64 y.k, .int .i64 y.a, .int .i64 y.b, .int .i64 y.c, .int .i64 0, .int .i64 0, .int .i64 0] 40) = W0 at *
       generalize w9.heap.size = t at *
       have hts : t ≠ s := by omega
       have hwt : w.heap.size < t := by omega
       have HQT := Lib.hid hqT
       have HDT := Lib.hid hDT
       have hC0 := hDT.cur
       have hl0 := hDT.lt
       have i2' : W0.cell? ⟨s, 2, none⟩ = some (.int .i64 B) := hDT.2.1.cell 2
       clear hqT hDT i2 i3 hCd HD hCW hlW hD9 hC9 hG9
       go_cut [72] (fun s72 wx => ∃ bb : Bool, s72 = .bool bb ∧ DR w wx g s n I B A k cap xs ∧ Blk wx t 40 #[.int .i64 1, .int .i64 y.k, .int .i64 y.a, .int .i64 y.b, .int .i64 y.c, .int .i64 0, .int .i64 0, .int .i64 0])
       case first =>
        by_cases hB0 : 0 < B
        ·go_wp2_with fail
         refine (l1Once_any g 2 _ hC0 (by omega)).mono ?_
         rintro e w10 ⟨bb, rfl, hC10, hG10⟩
         go_wp2_with fail
         go_meet
         exact ⟨bb, rfl, HDT.out.grown hG10 hC10 hgs hgl, hT.grown hG10 (fun k hk => by injection hk; omega)⟩
        ·go_wp2_with fail
         go_meet
         exact ⟨false, rfl, HDT.out, hT⟩
       case rest =>
        clear HDT hC0 hl0 i2' hT
        obtain ⟨bb, rfl, hD, hT⟩ := hcut
        have HD := Lib.hid hD
        have hC0 := hD.cur
        have hl0 := hD.lt
        have i2 : wc.cell? ⟨s, 2, none⟩ = some (.int .i64 B) := hD.2.1.cell 2
        clear hD
        cases bb
        ·obtain ⟨W1, rfl⟩ : ∃ W1 : World, W1 = wc := ⟨_, rfl⟩
         have HD1 := HD
         have hT1 := hT
         clear HD hT i2 hC0 hl0
         have k3 : W1.cell? ⟨s, 3, none⟩ = some (.slice A k cap) := HD1.out.2.1.cell 3
         have hl1 := HD1.out.lt
         obtain ⟨⟨o0, o1, o2, o3, o4, o5, o6, o7⟩, f7⟩ := blk8 hT1
         go_wp2_with (at_builtin; refine appO1 (B := w.heap.size + 1) rfl _ _ rfl _ k xs rfl HD1.out.2.2.1 (by omega) ⟨1, y, 0, 0, 0⟩ _ _ rfl rfl (by omega) ?_; intro A7 c7 w7 ho7 hg7 hb7; have HA := Lib.hid (HD1.out.app hws hgl ho7 hg7 hb7); have k6 : w7.cell? ⟨s, 3, none⟩ = some (.slice A k cap) := HA.out.1.cell 3; have f6 : w7.frozen? ⟨s, 3, none⟩ = false := HA.out.1.frozen 3)
         clear k6 f6 k3 o0 o1 o2 o3 o4 o5 o6 o7 f7
         go_roundw
         case rel => exact ⟨k + 1, I, B, A7, c7, _, by omega, by go_num, hI, hBB, HA.out.2⟩
         case measure => simp [intOf]; omega
        ·go_wp2_with fail
         refine (l1Below_any g B _ hC0 (by omega)).mono ?_
         rintro e w10 ⟨z, rfl, ⟨hz0, hz1, hz2⟩, hC10, hG10⟩
         have hz3 : z ≤ 2 := by
          by_cases hB0 : 0 < B
          ·have := hz1 hB0; omega
          ·have := hz2 (by omega); omega
         clear hz1 hz2
         have hD10 := HD.out.grown hG10 hC10 hgs hgl
         have hT10 := hT.grown hG10 (fun k hk => by injection hk; omega)
         have hl10 := hT10.lt
         obtain ⟨⟨o0, o1, o2, o3, o4, o5, o6, o7⟩, f7⟩ := blk8 hT10
         go_upto_region 16 with (fail)
         clear o0 o1 o2 o3 o4 o5 o6 o7 f7
         have HD1 := Lib.hid (hD10.far (j := 7) (.int .i64 (1 + z)) hts hwt hgl HQT.out)
         have hT1 : Blk (w10.setCell ⟨t, 7, none⟩ (.int .i64 (1 + z))) t 40 #[.int .i64 1, .int .i64 y.k, .int .i64 y.a, .int .i64 y.b, .int .i64 y.c, .int .i64 0, .int .i64 0, .int .i64 (1 + z)] := hT10.set_ 7 _
         generalize w10.setCell ⟨t, 7, none⟩ (.int .i64 (1 + z)) = W1 at *
         clear HD hT i2 hC0 hl0 hD10 hT10
         have k3 : W1.cell? ⟨s, 3, none⟩ = some (.slice A k cap) := HD1.out.2.1.cell 3
         have hl1 := HD1.out.lt
         obtain ⟨⟨o0, o1, o2, o3, o4, o5, o6, o7⟩, f7⟩ := blk8 hT1
         go_wp2_with (at_builtin; refine appO1 (B := w.heap.size + 1) rfl _ _ rfl _ k xs rfl HD1.out.2.2.1 (by omega) ⟨1, y, 0, 0, (1 + z)⟩ _ _ rfl rfl (by omega) ?_; intro A7 c7 w7 ho7 hg7 hb7; have HA := Lib.hid (HD1.out.app hws hgl ho7 hg7 hb7); have k6 : w7.cell? ⟨s, 3, none⟩ = some (.slice A k cap) := HA.out.1.cell 3; have f6 : w7.frozen? ⟨s, 3, none⟩ = false := HA.out.1.frozen 3)
         clear k6 f6 k3 o0 o1 o2 o3 o4 o5 o6 o7 f7
         go_roundw
         case rel => exact ⟨k + 1, I, B, A7, c7, _, by omega, by go_num, hI, hBB, HA.out.2⟩
         case measure => simp [intOf]; omega
      ·have hB2 := hb2 rfl
       clear hb2
       go_wp2
       go_region_law (first
        | (go_simp; go_at_call 32; (with_reducible refine (l1Below_any g n _ hCd (by omega)).mono ?_); rintro e w8 ⟨z, rfl, ⟨hz0, hz1, hz2⟩, hC8, hG8⟩; have HD8 := Lib.hid (HD.out.drew.grown hG8 hC8 hgs hgl); have hl8 := HD8.out.lt; have k2 : w8.cell? ⟨s, 2, none⟩ = some (.int .i64 B) := HD8.out.2.1.cell 2; have k3 : w8.cell? ⟨s, 3, none⟩ = some (.slice A k cap) := HD8.out.2.1.cell 3)
        | (refine stepO1 (B := w.heap.size + 1) (by rfl) _ _ (by rfl) _ k xs (by rfl) HD8.out.2.2.1 (by omega) ⟨2, ⟨0, 0, 0, 0⟩, z, B, 0⟩ _ _ (by rfl) (by rfl) (by omega) ?_; intro A4 c4 w9 ho4 hg4 hb4; have HA := Lib.hid (HD8.out.app hws hgl ho4 hg4 hb4); have k6 : w9.cell? ⟨s, 3, none⟩ = some (.slice A k cap) := HA.out.1.cell 3; have f6 : w9.frozen? ⟨s, 3, none⟩ = false := HA.out.1.frozen 3))
       all_goals
        clear k6 f6 k2 k3 i2 i3
        have HD9 := Lib.hid HA.out.2
        have k2 : (w9.setCell ⟨s, 3, none⟩ (.slice A4 (k + 1) c4)).cell? ⟨s, 2, none⟩ = some (.int .i64 B) := HD9.out.2.1.cell 2
        have f2 : (w9.setCell ⟨s, 3, none⟩ (.slice A4 (k + 1) c4)).frozen? ⟨s, 2, none⟩ = false := HD9.out.2.1.frozen 2
        generalize w9.setCell ⟨s, 3, none⟩ (.slice A4 (k + 1) c4) = W1 at *
        go_wp2
        go_roundw
        case rel => exact ⟨k + 1, I, B + 1, A4, c4, _, by omega, by go_num, hI, by omega, HD9.out.setI _ rfl hws hgl⟩
        case measure => simp [intOf]; omega
    ·obtain ⟨⟨b0, b1, b2, b3⟩, z0, z1, z2, z3⟩ := blk4 hD.2.1
     obtain ⟨⟨a0, a1, a2, a3⟩, y0, y1, y2, y3⟩ := blk4 hD.1
     clear hD i2
     go_wp2
     exact bodyPost_ret (v := .agg #[.int .i64 n, .int .i64 I, .int .i64 B, .slice A k cap]) (retR rfl HD.out.1 (.int .i64 n) (.int .i64 I) (.int .i64 B) (.slice A k cap) _ rfl) rfl (HD.out.done3 hgl (by omega) (by omega))
theorem l21Right_any (g most : Nat) (hm : most ≤ 200) (w : World) (h : Cur w g) :
  Calls Tryz.prog 38 #[.pointer (some ⟨g, 0, none⟩), .int .i64 most] w (DrewRout w g most) := (l21Right3_any g most hm w h).mono fun _ _ h => h.loose
end Go.Proofs.YtdjckjfclhjpcaaGreat
/-
 Helper text (no claim of its own): how many ops are not plain X gates (plain Lean).
-/
namespace Go.Proofs.YtdjckjfclhjpcaaGreat
open Go.ChangeShapes Go.WideShapes Go.ChangeAt Go.RowKit Go.Deep
/-- A plain X gate, and how many ops are none. -/
def isX (o : Oq) : Bool := o.k == 1 && o.g.k == 1 && o.cond == 0
def np : List Oq → Nat
 | [] => 0
 | o :: r => (if isX o = true then 0 else 1) + np r
theorem np_app : ∀ (a b : List Oq), np (a ++ b) = np a + np b
 | [], b => by simp [np]
 | o :: a, b => by rw [List.cons_append, np, np, np_app a]; omega
theorem np_le : ∀ xs : List Oq, np xs ≤ xs.length
 | [] => Nat.le_refl _
 | o :: r => by
  have := np_le r
  rw [np, List.length_cons]
  split <;> omega
theorem np_one (o : Oq) : np [o] ≤ 1 := np_le [o]
theorem np_snoc (xs : List Oq) (o : Oq) : np (xs ++ [o]) ≤ np xs + 1 := by
 rw [np_app]
 have := np_one o
 omega
theorem np_x (xs : List Oq) {o : Oq} (h : isX o = true) : np (xs ++ [o]) = np xs := by
 rw [np_app, np, if_pos h]
 rfl
end Go.Proofs.YtdjckjfclhjpcaaGreat
/-
 Helper text (no claim of its own): drawn routines, bent. Only that they return, and what their results are made of. Printed by gen_drawo.py.
-/
namespace Go.Proofs.YtdjckjfclhjpcaaGreat
open Go.ChangeShapes Go.WideShapes Go.ChangeAt Go.RowKit Go.Deep
def lenAt3 (w : World) (s : Nat) : Nat := match w.cell? ⟨s, 3, none⟩ with | some (.slice _ n _) => n | _ => 0
theorem lenAt3_blk {w : World} {s t : Nat} {a b c : Value} {A : Option Addr} {n cap : Nat} (h : Blk w s t #[a, b, c, .slice A n cap]) : lenAt3 w s = n := by
 have : w.cell? ⟨s, 3, none⟩ = some (.slice A n cap) := h.cell 3
 unfold lenAt3
 rw [this]
/-- A drawn routine with few ops beside plain X gates. -/
def DrewRoutF (w0 : World) (g most : Nat) (e : Ending) (w' : World) : Prop :=
 ∃ (N I B : Int) (A : Option Addr) (len cap : Nat) (xs : List Oq), e = .returned (.agg #[.int .i64 N, .int .i64 I, .int .i64 B, .slice A len cap]) ∧ (-1 ≤ N ∧ N ≤ 5 ∧ -1 ≤ I ∧ I ≤ 6 ∧ -1 ≤ B ∧ B ≤ 4) ∧ (len ≤ most + 121 ∧ np xs ≤ most + 1) ∧ w'.ownsRow w0.heap.size 40 8 (.slice A len cap) len (ocells xs) ∧ Cur w' g ∧ w0.grownBy w' (some g)
theorem DrewRoutF.loose {w0 w' : World} {g most : Nat} {e : Ending} (h : DrewRoutF w0 g most e w') : DrewRout w0 g (most + 121) e w' := by
 obtain ⟨N, I, B, A, len, cap, xs, e1, hN, hl, r⟩ := h
 exact ⟨N, I, B, A, len, cap, xs, e1, hN, hl.1, r⟩
theorem DR.doneF {w w0 : World} {g s : Nat} {N I B : Int} {A : Option Addr} {len cap : Nat} {xs : List Oq} {most : Nat} (h : DR w0 w g s N I B A len cap xs) (hl : g < w0.heap.size) (hN : -1 ≤ N ∧ N ≤ 5 ∧ -1 ≤ I ∧ I ≤ 6 ∧ -1 ≤ B ∧ B ≤ 4) (hm : len ≤ most + 121) (hp : np xs ≤ most + 1) :
  DrewRoutF w0 g most (.returned (.agg #[.int .i64 N, .int .i64 I, .int .i64 B, .slice A len cap])) ((((w.setCell ⟨w0.heap.size, 0, none⟩ (.int .i64 N)).setCell ⟨w0.heap.size, 1, none⟩ (.int .i64 I)).setCell ⟨w0.heap.size, 2, none⟩ (.int .i64 B)).setCell ⟨w0.heap.size, 3, none⟩ (.slice A len cap)) :=
 ⟨N, I, B, A, len, cap, xs, rfl, hN, ⟨hm, hp⟩, own_base (own_set (own_set (own_set (own_set h.2.2.1 (p := ⟨w0.heap.size, 0, none⟩) (by simp) _) (p := ⟨w0.heap.size, 1, none⟩) (by simp) _) (p := ⟨w0.heap.size, 2, none⟩) (by simp) _) (p := ⟨w0.heap.size, 3, none⟩) (by simp) _) (by omega), Cur.set4 h.2.2.2.2.1 hl _ _ _ _, gr_set4 h.2.2.2.2.2 (Nat.le_refl _) _ _ _ _⟩
set_option maxRecDepth 100000 in
set_option maxHeartbeats 16000000 in
theorem l21BentF_any (g most : Nat) (hm : most ≤ 200) (w : World) (h : Cur w g) :
  Calls Tryz.prog 23 #[.pointer (some ⟨g, 0, none⟩), .int .i64 most] w (DrewRoutF w g most) := by
 have hgl := h.lt
 go_enter Tryz.func23, Tryz.ntmps23
 go_wp2_with fail
 refine (l21Right_any g most hm _ (h.alloc _)).mono ?_
 rintro e w3 ⟨N, I, B, A, len, cap, xs, rfl, hN, hlen, ho3, hC3, hG3⟩
 obtain ⟨hN0, hN1, hI0, hI1, hB0, hB1⟩ := hN
 have hB3 := (Blk.new w 26 #[.int .i64 0, .int .i64 0, .int .i64 0, .slice none 0 0]).grown hG3 (fun k hk => by injection hk; omega)
 have hl3 := hB3.lt
 have hg3 : w.grownBy w3 (some g) := gr_trans (((Ext.refl w).alloc _).gr _) hG3
 have hD : DR w (w3.alloc (.cells #[.int .i64 N, .int .i64 I, .int .i64 B, .slice A len cap] 26)) g w3.heap.size N I B A len cap xs :=
  ⟨hB3.alloc _, Blk.new _ _ _, own_ext (own_base ho3 (by simp)) ((Ext.refl w3).alloc _), own_nq (own_base ho3 (by simp)) (Nat.le_refl _), hC3.alloc _, gr_alloc hg3 _⟩
 have hNP : Hid (np xs ≤ most) := by
  have h8 := (Rd.own ho3).len Oq.cells_len (by omega)
  have h9 := np_le xs
  unfold Hid
  omega
 clear hB3 hG3 hg3 ho3
 go_wp2_with fail
 refine (l1Below_any g 14 _ (hC3.alloc _) (by omega)).mono ?_
 rintro e w4 ⟨x, rfl, ⟨hx0, hx1, _⟩, hC4, hG4⟩
 have hx2 := hx1 (by omega)
 clear hx1
 have hgs : g < w3.heap.size := hC3.lt
 have hD4 := hD.grown hG4 hC4 hgs hgl
 clear hD hG4 hC3
 generalize w3.heap.size = s at *
 have hws : w.heap.size < s := by omega
 have hl4 := hD4.lt
 have HD4 := Lib.hid hD4
 obtain ⟨⟨c0, c1, c2, c3⟩, x0, x1, x2, x3⟩ := blk4 hD4.2.1
 clear hD4
 by_cases e0 : x = 0
 ·subst e0
  go_wp2_with fail
  refine (l1PickInt_any g _ 4 _ [0, 1, 4, 5] _ (hC4.alloc _) (rd_newN w4 _ _ _ 4 1 _ rfl rfl rfl) (by intro b o e; injection e with e; injection e with e1; omega) (by omega)).mono ?_
  rintro e w5 ⟨z, rfl, hz, hC5, hG5⟩
  have hz2 : 0 ≤ z ∧ z ≤ 5 := by simp at hz; omega
  have hD5 := (HD4.out.alloc _).grown hG5 hC5 hgs hgl
  clear hz c0 c1 c2 c3 x0 x1 x2 x3
  have HD := Lib.hid (hD5.setI (j := 0) (N' := z) (I' := I) (B' := B) (.int .i64 z) rfl hws hgl)
  obtain ⟨⟨c0, c1, c2, c3⟩, x0, x1, x2, x3⟩ := blk4 hD5.2.1
  have hl5 := hD5.lt
  clear hD5
  go_upto_region 17 with (fail)
  clear c0 c1 c2 c3 x0 x1 x2 x3
  generalize w5.setCell ⟨s, 0, none⟩ (.int .i64 z) = W6 at *
  obtain ⟨⟨b0, b1, b2, b3⟩, z0, z1, z2, z3⟩ := blk4 HD.out.2.1
  obtain ⟨⟨a0, a1, a2, a3⟩, y0, y1, y2, y3⟩ := blk4 HD.out.1
  go_wp2
  exact bodyPost_ret (v := .agg #[.int .i64 z, .int .i64 I, .int .i64 B, .slice A len cap]) (retR rfl HD.out.1 (.int .i64 z) (.int .i64 I) (.int .i64 B) (.slice A len cap) _ rfl) rfl (HD.out.doneF hgl (by omega) (by omega) (by have := hNP.out; omega))
 by_cases e1 : x = 1
 ·subst e1
  go_wp2_with fail
  refine (l1PickInt_any g _ 3 _ [0, 1, N + 1] _ (hC4.alloc _) (rd_newN w4 _ _ _ 3 1 _ rfl rfl rfl) (by intro b o e; injection e with e; injection e with e1; omega) (by omega)).mono ?_
  rintro e w5 ⟨z, rfl, hz, hC5, hG5⟩
  have hz2 : -1 ≤ z ∧ z ≤ 6 := by simp at hz; omega
  have hD5 := (HD4.out.alloc _).grown hG5 hC5 hgs hgl
  clear hz c0 c1 c2 c3 x0 x1 x2 x3
  have HD := Lib.hid (hD5.setI (j := 1) (N' := N) (I' := z) (B' := B) (.int .i64 z) rfl hws hgl)
  obtain ⟨⟨c0, c1, c2, c3⟩, x0, x1, x2, x3⟩ := blk4 hD5.2.1
  have hl5 := hD5.lt
  clear hD5
  go_upto_region 17 with (fail)
  clear c0 c1 c2 c3 x0 x1 x2 x3
  generalize w5.setCell ⟨s, 1, none⟩ (.int .i64 z) = W6 at *
  obtain ⟨⟨b0, b1, b2, b3⟩, z0, z1, z2, z3⟩ := blk4 HD.out.2.1
  obtain ⟨⟨a0, a1, a2, a3⟩, y0, y1, y2, y3⟩ := blk4 HD.out.1
  go_wp2
  exact bodyPost_ret (v := .agg #[.int .i64 N, .int .i64 z, .int .i64 B, .slice A len cap]) (retR rfl HD.out.1 (.int .i64 N) (.int .i64 z) (.int .i64 B) (.slice A len cap) _ rfl) rfl (HD.out.doneF hgl (by omega) (by omega) (by have := hNP.out; omega))
 by_cases e2 : x = 2
 ·subst e2
  go_wp2_with fail
  refine (l1PickInt_any g _ 4 _ [-1, 0, 3, 4] _ (hC4.alloc _) (rd_newN w4 _ _ _ 4 1 _ rfl rfl rfl) (by intro b o e; injection e with e; injection e with e1; omega) (by omega)).mono ?_
  rintro e w5 ⟨z, rfl, hz, hC5, hG5⟩
  have hz2 : -1 ≤ z ∧ z ≤ 4 := by simp at hz; omega
  have hD5 := (HD4.out.alloc _).grown hG5 hC5 hgs hgl
  clear hz c0 c1 c2 c3 x0 x1 x2 x3
  have HD := Lib.hid (hD5.setI (j := 2) (N' := N) (I' := I) (B' := z) (.int .i64 z) rfl hws hgl)
  obtain ⟨⟨c0, c1, c2, c3⟩, x0, x1, x2, x3⟩ := blk4 hD5.2.1
  have hl5 := hD5.lt
  clear hD5
  go_upto_region 17 with (fail)
  clear c0 c1 c2 c3 x0 x1 x2 x3
  generalize w5.setCell ⟨s, 2, none⟩ (.int .i64 z) = W6 at *
  obtain ⟨⟨b0, b1, b2, b3⟩, z0, z1, z2, z3⟩ := blk4 HD.out.2.1
  obtain ⟨⟨a0, a1, a2, a3⟩, y0, y1, y2, y3⟩ := blk4 HD.out.1
  go_wp2
  exact bodyPost_ret (v := .agg #[.int .i64 N, .int .i64 I, .int .i64 z, .slice A len cap]) (retR rfl HD.out.1 (.int .i64 N) (.int .i64 I) (.int .i64 z) (.slice A len cap) _ rfl) rfl (HD.out.doneF hgl (by omega) (by omega) (by have := hNP.out; omega))
 have hCd : Cur w4.drew g := hC4.ext (Ext.refl w4).drew
 have tok0 : True := trivial
 have tok1 : True := trivial
 have tok2 : True := trivial
 have tok3 : True := trivial
 by_cases e3 : x = 3
 ·subst e3
  go_wp2
  go_region_law (first
   | (go_simp; go_at_call 32; have _t := tok0; clear tok0 _t; (with_reducible refine (l1Below_any g 6 _ hCd (by omega)).mono ?_); rintro e w5 ⟨z5, rfl, ⟨hz5, hy5, _⟩, hC5, hG5⟩; clear hy5; have HD5 := Lib.hid (HD4.out.drew.grown hG5 hC5 hgs hgl); have hl5 := HD5.out.lt; have k0_5 : w5.cell? ⟨s, 0, none⟩ = some (.int .i64 N) := HD5.out.2.1.cell 0; have k3_5 : w5.cell? ⟨s, 3, none⟩ = some (.slice A len cap) := HD5.out.2.1.cell 3)
   | (go_simp; go_at_call 32; have _t := tok1; clear tok1 _t; (with_reducible refine (l1Below_any g 4 _ hC5 (by omega)).mono ?_); rintro e w6 ⟨z6, rfl, ⟨hz6, hy6, _⟩, hC6, hG6⟩; clear hy6; have HD6 := Lib.hid (HD5.out.grown hG6 hC6 hgs hgl); have hl6 := HD6.out.lt; have k0_6 : w6.cell? ⟨s, 0, none⟩ = some (.int .i64 N) := HD6.out.2.1.cell 0; have k3_6 : w6.cell? ⟨s, 3, none⟩ = some (.slice A len cap) := HD6.out.2.1.cell 3)
   | (go_simp; go_at_call 32; have _t := tok2; clear tok2 _t; (with_reducible refine (l1Below_any g 3 _ hC6 (by omega)).mono ?_); rintro e w7 ⟨z7, rfl, ⟨hz7, hy7, _⟩, hC7, hG7⟩; clear hy7; have HD7 := Lib.hid (HD6.out.grown hG7 hC7 hgs hgl); have hl7 := HD7.out.lt; have k0_7 : w7.cell? ⟨s, 0, none⟩ = some (.int .i64 N) := HD7.out.2.1.cell 0; have k3_7 : w7.cell? ⟨s, 3, none⟩ = some (.slice A len cap) := HD7.out.2.1.cell 3)
   | (go_simp; go_at_call 32; have _t := tok3; clear tok3 _t; (with_reducible refine (l1Below_any g 3 _ hC7 (by omega)).mono ?_); rintro e w8 ⟨z8, rfl, ⟨hz8, hy8, _⟩, hC8, hG8⟩; clear hy8; have HD8 := Lib.hid (HD7.out.grown hG8 hC8 hgs hgl); have hl8 := HD8.out.lt; have k0_8 : w8.cell? ⟨s, 0, none⟩ = some (.int .i64 N) := HD8.out.2.1.cell 0; have k3_8 : w8.cell? ⟨s, 3, none⟩ = some (.slice A len cap) := HD8.out.2.1.cell 3)
   | (refine stepO1 (B := w.heap.size + 1) (by rfl) _ _ (by rfl) _ len xs (by rfl) HD8.out.2.2.1 (by omega) ⟨_, ⟨0, 0, 0, 0⟩, z6, z7, z8⟩ _ _ (by rfl) (by rfl) (by omega) ?_; intro A9 c9 w9 ho9 hg9 hb9; have HA := Lib.hid (HD8.out.app hws hgl ho9 hg9 hb9); have k6 : w9.cell? ⟨s, 3, none⟩ = some (.slice A len cap) := HA.out.1.cell 3; have f6 : w9.frozen? ⟨s, 3, none⟩ = false := HA.out.1.frozen 3))
  all_goals
   clear k6 f6 k0_5 k3_5 k0_6 k3_6 k0_7 k3_7 k0_8 k3_8 c0 c1 c2 c3 x0 x1 x2 x3
   have HD := Lib.hid HA.out.2
   generalize w9.setCell ⟨s, 3, none⟩ (.slice A9 (len + 1) c9) = W6 at *
   obtain ⟨⟨b0, b1, b2, b3⟩, z0, z1, z2, z3⟩ := blk4 HD.out.2.1
   obtain ⟨⟨a0, a1, a2, a3⟩, y0, y1, y2, y3⟩ := blk4 HD.out.1
   go_wp2
   exact bodyPost_ret (v := .agg #[.int .i64 N, .int .i64 I, .int .i64 B, .slice A9 (len + 1) c9]) (retR rfl HD.out.1 (.int .i64 N) (.int .i64 I) (.int .i64 B) (.slice A9 (len + 1) c9) _ rfl) rfl (HD.out.doneF hgl (by omega) (by omega) (by have := hNP.out; exact Nat.le_trans (np_snoc _ _) (by omega)))
 by_cases e4 : x = 4
 ·subst e4
  go_wp2
  go_region_law (first
   | (go_simp; go_at_call 32; have _t := tok0; clear tok0 _t; (with_reducible refine (l1Below_any g N _ hCd (by omega)).mono ?_); rintro e w5 ⟨z5, rfl, ⟨hz5, hy5, _⟩, hC5, hG5⟩; clear hy5; have HD5 := Lib.hid (HD4.out.drew.grown hG5 hC5 hgs hgl); have hl5 := HD5.out.lt; have k0_5 : w5.cell? ⟨s, 0, none⟩ = some (.int .i64 N) := HD5.out.2.1.cell 0; have k3_5 : w5.cell? ⟨s, 3, none⟩ = some (.slice A len cap) := HD5.out.2.1.cell 3)
   | (refine stepO1 (B := w.heap.size + 1) (by rfl) _ _ (by rfl) _ len xs (by rfl) HD5.out.2.2.1 (by omega) ⟨3, ⟨0, 0, 0, 0⟩, z5, 0, 0⟩ _ _ (by rfl) (by rfl) (by omega) ?_; intro A9 c9 w9 ho9 hg9 hb9; have HA := Lib.hid (HD5.out.app hws hgl ho9 hg9 hb9); have k6 : w9.cell? ⟨s, 3, none⟩ = some (.slice A len cap) := HA.out.1.cell 3; have f6 : w9.frozen? ⟨s, 3, none⟩ = false := HA.out.1.frozen 3))
  all_goals
   clear k6 f6 k0_5 k3_5 c0 c1 c2 c3 x0 x1 x2 x3
   have HD := Lib.hid HA.out.2
   generalize w9.setCell ⟨s, 3, none⟩ (.slice A9 (len + 1) c9) = W6 at *
   obtain ⟨⟨b0, b1, b2, b3⟩, z0, z1, z2, z3⟩ := blk4 HD.out.2.1
   obtain ⟨⟨a0, a1, a2, a3⟩, y0, y1, y2, y3⟩ := blk4 HD.out.1
   go_wp2
   exact bodyPost_ret (v := .agg #[.int .i64 N, .int .i64 I, .int .i64 B, .slice A9 (len + 1) c9]) (retR rfl HD.out.1 (.int .i64 N) (.int .i64 I) (.int .i64 B) (.slice A9 (len + 1) c9) _ rfl) rfl (HD.out.doneF hgl (by omega) (by omega) (by have := hNP.out; exact Nat.le_trans (np_snoc _ _) (by omega)))
 by_cases e5 : x = 5
 ·subst e5
  go_wp2_with fail
  refine (l1Once_any g _ _ hC4 (by omega)).mono ?_
  rintro e w5 ⟨bb, rfl, hC5, hG5⟩
  have hD5 := HD4.out.grown hG5 hC5 hgs hgl
  clear hG5 c0 c1 c2 c3 x0 x1 x2 x3 hCd HD4 hC4
  cases bb
  ·have HD := Lib.hid hD5
   clear hD5
   obtain ⟨⟨b0, b1, b2, b3⟩, z0, z1, z2, z3⟩ := blk4 HD.out.2.1
   obtain ⟨⟨a0, a1, a2, a3⟩, y0, y1, y2, y3⟩ := blk4 HD.out.1
   go_wp2
   exact bodyPost_ret (v := .agg #[.int .i64 N, .int .i64 I, .int .i64 B, .slice A len cap]) (retR rfl HD.out.1 (.int .i64 N) (.int .i64 I) (.int .i64 B) (.slice A len cap) _ rfl) rfl (HD.out.doneF hgl (by omega) (by omega) (by have := hNP.out; omega))
  ·go_wp2
   go_loopw [] (fun wr => ∃ (A : Option Addr) (l cap : Nat) (xs : List Oq), l ≤ most + 121 ∧ Hid (np xs ≤ most) ∧ DR w wr g s N I B A l cap xs) (fun wr => 122 - lenAt3 wr s)
   case atStart => exact ⟨A, len, cap, xs, by omega, hNP, hD5⟩
   case round =>
    clear hD5 hC5
    obtain ⟨A, l, cap, xs, hl, hNL, hD⟩ := hrel
    have HD := Lib.hid hD
    obtain ⟨⟨b0, b1, b2, b3⟩, z0, z1, z2, z3⟩ := blk4 hD.2.1
    have hCd : Cur wr.drew g := hD.cur.ext (Ext.refl wr).drew
    have hlr := hD.lt
    clear hD
    go_wp2
    go_region_law (first
     | (go_simp; go_at_call 32; (with_reducible refine (l1Below_any g 3 _ hCd (by omega)).mono ?_); rintro e w6 ⟨z, rfl, ⟨hz0, hz1, _⟩, hC6, hG6⟩; have HD6 := Lib.hid (HD.out.drew.grown hG6 hC6 hgs hgl); have k3 : w6.cell? ⟨s, 3, none⟩ = some (.slice A l cap) := HD6.out.2.1.cell 3; have hz2 : z < 3 := hz1 (by omega); clear hz1))
    all_goals
     clear k3 b0 b1 b2 b3 z0 z1 z2 z3
     obtain ⟨⟨b0, b1, b2, b3⟩, z0, z1, z2, z3⟩ := blk4 HD6.out.2.1
     have hl6 := HD6.out.lt
     rw [show IntKind.i64.wrap (119 + z) = 119 + z from IntWalk.i64_in _ (by omega)]
     by_cases hlt : (l : Int) < 119 + z
     ·go_wp2_with (at_builtin; refine appO1 (B := w.heap.size + 1) rfl _ _ rfl _ l xs rfl HD6.out.2.2.1 (by omega) ⟨1, ⟨1, 0, 0, 0⟩, 0, 0, 0⟩ _ _ rfl rfl (by omega) ?_; intro A7 c7 w7 ho7 hg7 hb7; have HA := Lib.hid (HD6.out.app hws hgl ho7 hg7 hb7); have k6 : w7.cell? ⟨s, 3, none⟩ = some (.slice A l cap) := HA.out.1.cell 3; have f6 : w7.frozen? ⟨s, 3, none⟩ = false := HA.out.1.frozen 3)
      have HM : Hid (122 - lenAt3 (w7.setCell ⟨s, 3, none⟩ (.slice A7 (l + 1) c7)) s < 122 - lenAt3 wr s) := by
       unfold Hid
       rw [lenAt3_blk HA.out.2.2.1, lenAt3_blk HD.out.2.1]
       omega
      clear k6 f6 b0 b1 b2 b3 z0 z1 z2 z3
      go_roundw
      case rel => exact ⟨A7, l + 1, c7, _, by omega, by unfold Hid; rw [np_x _ (by rfl)]; exact hNL.out, HA.out.2⟩
      case measure => exact HM.out
     ·clear b0 b1 b2 b3 z0 z1 z2 z3
      obtain ⟨⟨b0, b1, b2, b3⟩, z0, z1, z2, z3⟩ := blk4 HD6.out.2.1
      obtain ⟨⟨a0, a1, a2, a3⟩, y0, y1, y2, y3⟩ := blk4 HD6.out.1
      go_wp2
      exact bodyPost_ret (v := .agg #[.int .i64 N, .int .i64 I, .int .i64 B, .slice A l cap]) (retR rfl HD6.out.1 (.int .i64 N) (.int .i64 I) (.int .i64 B) (.slice A l cap) _ rfl) rfl (HD6.out.doneF hgl (by omega) (by omega) (by have := hNL.out; omega))
 ·clear c0 c1 c2 c3 x0 x1 x2 x3
  obtain ⟨⟨b0, b1, b2, b3⟩, z0, z1, z2, z3⟩ := blk4 HD4.out.2.1
  obtain ⟨⟨a0, a1, a2, a3⟩, y0, y1, y2, y3⟩ := blk4 HD4.out.1
  go_wp2
  exact bodyPost_ret (v := .agg #[.int .i64 N, .int .i64 I, .int .i64 B, .slice A len cap]) (retR rfl HD4.out.1 (.int .i64 N) (.int .i64 I) (.int .i64 B) (.slice A len cap) _ rfl) rfl (HD4.out.doneF hgl (by omega) (by omega) (by have := hNP.out; omega))
end Go.Proofs.YtdjckjfclhjpcaaGreat
/-
 Helper text (no claim of its own): lists of gates that do the same (plain Lean over the reference's run of gates).
-/
namespace Go.Proofs.YtdjckjfclhjpcaaGreat
open Go.ChangeShapes Go.WideShapes Go.ChangeAt Go.RowKit Go.Deep
set_option linter.unusedVariables false
set_option linter.unusedSimpArgs false
/-- What a gate makes of the amplitudes (H: at the next power of the root of 2). -/
def ap1 (g : Gt) (f : Nat → Zw) (j : Nat) : Zw :=
 if (g.k == 4) = true then zadd (f (qlo j g.a.toNat)) (rot (sgnH j g.a.toNat) (f (qhi j g.a.toNat)))
 else rot (pgN g.k.toNat g.a.toNat g.b.toNat g.c.toNat (sgN g.k.toNat g.a.toNat g.b.toNat g.c.toNat j)) (f (sgN g.k.toNat g.a.toNat g.b.toNat g.c.toNat j))
def apG : List Gt → (Nat → Zw) → Nat → Zw
 | [], f => f
 | g :: gs, f => apG gs (ap1 g f)
theorem apG_app (gs : List Gt) : ∀ (hs : List Gt) (f : Nat → Zw), apG (gs ++ hs) f = apG hs (apG gs f) := by
 induction gs with
 | nil => exact fun hs f => rfl
 | cons g gs ih => exact fun hs f => ih hs (ap1 g f)
theorem ap1_4 (a b c : Nat) (f : Nat → Zw) (j : Nat) : ap1 ⟨4, a, b, c⟩ f j = zadd (f (qlo j a)) (rot (sgnH j a) (f (qhi j a))) := rfl
theorem ap1_p {k a b c : Nat} (hk : k ∈ kindsN) (f : Nat → Zw) (j : Nat) : ap1 ⟨k, a, b, c⟩ f j = rot (pgN k a b c (sgN k a b c j)) (f (sgN k a b c j)) := by
 simp only [kindsN, List.mem_cons, List.not_mem_nil, or_false] at hk
 rcases hk with rfl | rfl | rfl | rfl | rfl | rfl | rfl | rfl | rfl | rfl | rfl <;> rfl
theorem hct_p {k a b c : Nat} (hk : k ∈ kindsN) : hct ⟨k, a, b, c⟩ = 0 := by
 simp only [kindsN, List.mem_cons, List.not_mem_nil, or_false] at hk
 rcases hk with rfl | rfl | rfl | rfl | rfl | rfl | rfl | rfl | rfl | rfl | rfl <;> rfl
theorem ap1_cong {g : Gt} {n : Nat} (hg : vg g n = true) {f h : Nat → Zw} (he : ∀ j, j < 2 ^ n → f j = h j) : ∀ j, j < 2 ^ n → ap1 g f j = ap1 g h j := by
 intro j hj
 obtain ⟨k, a, b, c, rfl, hn, hk, ha, hb, hc, hf⟩ := vg_nat hg
 rcases hk with rfl | hk
 ·obtain ⟨f1, f2, -⟩ := h_facts hn.2 ha hj
  rw [show (⟨((4 : Nat) : Int), a, b, c⟩ : Gt) = ⟨4, a, b, c⟩ from rfl, ap1_4, ap1_4, he _ f1, he _ f2]
 ·rw [ap1_p hk, ap1_p hk, he _ (sg_facts hn.2 hk ha hb hc hf hj).1]
theorem apG_cong {n : Nat} : ∀ {gs : List Gt}, (∀ g ∈ gs, vg g n = true) → ∀ {f h : Nat → Zw}, (∀ j, j < 2 ^ n → f j = h j) → ∀ j, j < 2 ^ n → apG gs f j = apG gs h j
 | [], _, _, _, he, j, hj => he j hj
 | g :: gs, hg, f, h, he, j, hj => apG_cong (gs := gs) (fun g' h' => hg g' (List.mem_cons_of_mem _ h')) (ap1_cong (hg g (List.mem_cons_self ..)) he) j hj
/-- The state after a gate. -/
theorem acts_one {g : Gt} {n K : Nat} {M : Int} {vs : List Dw} (hg : vg g n = true) (hs : St n K M vs) (hK : K + hct g ≤ 60) (h0 : 0 ≤ M) (hM : M * 2 ^ hct g ≤ 1073741824) :
  ∃ us, Acts (2 ^ n) g vs us ∧ St n (K + hct g) (M * 2 ^ hct g) us ∧ ∀ j, j < 2 ^ n → Lf (K + hct g) us j = ap1 g (Lf K vs) j := by
 have hg0 := hg
 obtain ⟨k, a, b, c, rfl, hn, hk, ha, hb, hc, hf⟩ := vg_nat hg
 rcases hk with rfl | hk
 ·have e : hct (⟨((4 : Nat) : Int), a, b, c⟩ : Gt) = 1 := rfl
  rw [e] at hK hM ⊢
  have e2 : M * 2 ^ 1 = M + M := by omega
  rw [e2] at hM ⊢
  exact acts_h hn ha hg0 hs (by omega) ⟨h0, hM⟩
 ·rw [hct_p hk] at hK hM ⊢
  have e2 : M * 2 ^ 0 = M := by omega
  rw [e2] at hM ⊢
  obtain ⟨us, h1, h2, h3⟩ := acts_perm hn hk ha hb hc hf hg0 hs hK ⟨h0, hM⟩
  exact ⟨us, h1, h2, fun j hj => by rw [ap1_p hk]; exact h3 j hj⟩
/-- The state after some gates. -/
def Res (n K : Nat) (M : Int) (gs : List Gt) (vs us : List Dw) : Prop := St n (K + hcs gs) (M * 2 ^ hcs gs) us ∧ ∀ j, j < 2 ^ n → Lf (K + hcs gs) us j = apG gs (Lf K vs) j
theorem pow_one (h : Nat) : (1 : Int) ≤ 2 ^ h := by
 have : (0 : Int) < 2 ^ h := Int.pow_pos (by decide)
 omega
theorem le_pow {M : Int} (h0 : 0 ≤ M) (h : Nat) : M ≤ M * 2 ^ h := by
 have := Int.mul_le_mul_of_nonneg_left (pow_one h) h0
 omega
theorem pow_split (M : Int) (i j : Nat) : M * 2 ^ (i + j) = M * 2 ^ i * 2 ^ j := by rw [Int.pow_add, Int.mul_assoc]
theorem chain_of {n : Nat} : ∀ (gs : List Gt) (K : Nat) (M : Int) (vs : List Dw), (∀ g ∈ gs, vg g n = true) → St n K M vs → K + hcs gs ≤ 60 → 0 ≤ M → M * 2 ^ hcs gs ≤ 1073741824 → ∃ us, Chain (2 ^ n) gs vs us ∧ Res n K M gs vs us
 | [], K, M, vs, _, hs, _, _, _ => ⟨vs, Chain.nil _ _, by show St n (K + 0) (M * 2 ^ 0) vs; rw [show M * 2 ^ 0 = M by omega]; exact hs, fun j _ => rfl⟩
 | g :: gs, K, M, vs, hg, hs, hK, h0, hM => by
  rw [hcs_cons] at hK hM
  rw [pow_split] at hM
  have h1 : 0 ≤ M * 2 ^ hct g := Int.le_trans h0 (le_pow h0 _)
  obtain ⟨ws, w1, w2, w3⟩ := acts_one (hg g (List.mem_cons_self ..)) hs (by omega) h0 (Int.le_trans (le_pow h1 _) hM)
  obtain ⟨us, u1, u2, u3⟩ := chain_of gs (K + hct g) (M * 2 ^ hct g) ws (fun g' h' => hg g' (List.mem_cons_of_mem _ h')) w2 (by omega) h1 hM
  refine ⟨us, Chain.cons w1 u1, ?_, fun j hj => ?_⟩
  ·rw [hcs_cons, pow_split, ← Nat.add_assoc]; exact u2
  ·rw [hcs_cons, ← Nat.add_assoc, u3 j hj]
   exact apG_cong (fun g' h' => hg g' (List.mem_cons_of_mem _ h')) w3 j hj
theorem Res.eq {n K : Nat} {M : Int} {gs : List Gt} {vs us ws : List Dw} (h : Res n K M gs vs us) (k : Res n K M gs vs ws) : us = ws :=
 h.1.eq k.1 fun j hj => by rw [h.2 j hj, k.2 j hj]
/-- The second list of gates ends where the first does. -/
def Same (n : Nat) (gs hs : List Gt) : Prop := ∀ (K : Nat) (M : Int) (vs us : List Dw), St n K M vs → 0 ≤ M → K + hcs gs + 4 ≤ 60 → M * 2 ^ hcs gs * 16 ≤ 1073741824 → Res n K M gs vs us → Chain (2 ^ n) hs vs us
theorem Same.nil (n : Nat) : Same n [] [] := fun K M vs us hs _ _ _ hr => by
 have : vs = us := hs.eq (N := M) (by have h := hr.1; rw [show M * 2 ^ hcs [] = M by show M * 2 ^ 0 = M; omega] at h; exact h) fun j hj => (hr.2 j hj).symm
 rw [this]
 exact Chain.nil _ _
theorem Same.refl {n : Nat} {gs : List Gt} (hg : ∀ g ∈ gs, vg g n = true) : Same n gs gs := fun K M vs us hs h0 hK hM hr => by
 obtain ⟨ws, w1, w2⟩ := chain_of gs K M vs hg hs (by omega) h0 (by have := le_pow h0 (hcs gs); omega)
 rw [hr.eq w2]
 exact w1
theorem Same.app {n : Nat} {gs hs gs' hs' : List Gt} (hg : ∀ g ∈ gs, vg g n = true) (hg' : ∀ g ∈ gs', vg g n = true) (h : Same n gs hs) (h' : Same n gs' hs') : Same n (gs ++ gs') (hs ++ hs') := fun K M vs us hst h0 hK hM hr => by
 rw [hcs_app] at hK hM
 rw [pow_split] at hM
 have p0 := le_pow h0 (hcs gs)
 have h1 : 0 ≤ M * 2 ^ hcs gs := Int.le_trans h0 p0
 have p1 := le_pow h1 (hcs gs')
 obtain ⟨ws, w1, w2⟩ := chain_of gs K M vs hg hst (by omega) h0 (by omega)
 obtain ⟨us', u1, u2⟩ := chain_of gs' (K + hcs gs) (M * 2 ^ hcs gs) ws hg' w2.1 (by omega) h1 (by omega)
 have e : us = us' := by
  refine hr.1.eq (N := M * 2 ^ hcs (gs ++ gs')) ?_ fun j hj => ?_
  ·rw [hcs_app, pow_split, ← Nat.add_assoc]; exact u2.1
  ·rw [hr.2 j hj, hcs_app, ← Nat.add_assoc, u2.2 j hj, apG_app]
   exact (apG_cong hg' w2.2 j hj).symm
 rw [e]
 exact (h K M vs ws hst h0 (by omega) (by omega) w2).append (h' _ _ ws us' w2.1 h1 (by omega) (by omega) u2)
/-- Lists without H: what one makes of the amplitudes the other makes too. -/
theorem Same.of {n : Nat} {gs hs : List Gt} {d : Nat} (hd : d ≤ 2) (hh : ∀ g ∈ hs, vg g n = true) (hc : hcs hs = hcs gs + 2 * d) (he : ∀ f j, j < 2 ^ n → apG hs f j = up (2 * d) (apG gs f j)) : Same n gs hs := fun K M vs us hs' h0 hK hM hr => by
 have e16 : ∀ x : Int, 0 ≤ x → x * 2 ^ (2 * d) ≤ x * 16 := fun x hx => by
  rcases (show d = 0 ∨ d = 1 ∨ d = 2 by omega) with rfl | rfl | rfl
  ·show x * 1 ≤ x * 16; omega
  ·show x * 4 ≤ x * 16; omega
  ·show x * 16 ≤ x * 16; omega
 have h1 : 0 ≤ M * 2 ^ hcs gs := Int.le_trans h0 (le_pow h0 _)
 obtain ⟨ws, w1, w2⟩ := chain_of hs K M vs hh hs' (by rw [hc]; omega) h0 (by rw [hc, pow_split]; exact Int.le_trans (e16 _ h1) hM)
 have e : us = ws := by
  have w3 := w2.1
  rw [hc, ← Nat.add_assoc] at w3
  have hup : ∀ u : Zw, near (M * 2 ^ hcs gs) u → near (M * 2 ^ hcs gs * 16) (up (2 * d) u) := fun u hu => by
   have n1 := near_root hu
   have n2 := near_root n1
   have n3 := near_root n2
   have n4 := near_root n3
   rcases (show d = 0 ∨ d = 1 ∨ d = 2 by omega) with rfl | rfl | rfl
   ·exact near_le hu (by omega)
   ·exact near_le n2 (by omega)
   ·exact near_le n4 (by omega)
  refine (hr.1.mono (J := 2 * d) hup).eq w3 fun j hj => ?_
  have w4 := w2.2 j hj
  rw [hc, ← Nat.add_assoc] at w4
  rw [w4, he _ j hj, Lf_more hr.1 hj, hr.2 j hj]
 rw [e]
 exact w1
theorem ap_cx (a b c : Nat) (f : Nat → Zw) (j : Nat) : ap1 ⟨9, a, b, c⟩ f j = f (if bt j a = true then qfl j b else j) := by
 show rot 0 (f (if bt j a then qfl j b else j)) = _
 rw [rot_0]
def cxS (a b j : Nat) : Nat := if bt j a = true then qfl j b else j
theorem chk_swap : (List.range 5).all (fun n => (List.range n).all fun a => (List.range n).all fun b => (a == b) || (List.range (2 ^ n)).all fun j => (cxS a b (cxS b a (cxS a b j)) == sgN 11 a b 0 j)) = true := by kernel_rfl
theorem swap_eq {n a b : Nat} (hn : n ≤ 4) (ha : a < n) (hb : b < n) (hab : a ≠ b) (f : Nat → Zw) (j : Nat) (hj : j < 2 ^ n) :
  apG [⟨9, a, b, (0 : Nat)⟩, ⟨9, b, a, (0 : Nat)⟩, ⟨9, a, b, (0 : Nat)⟩] f j = apG [⟨11, a, b, (0 : Nat)⟩] f j := by
 have h1 := of_all (of_all (of_all chk_swap (show n < 5 by omega)) ha) hb
 rw [Bool.or_eq_true] at h1
 rcases h1 with h1 | h1
 ·exact absurd (beq_iff_eq.1 h1) hab
 ·have h2 : cxS a b (cxS b a (cxS a b j)) = sgN 11 a b 0 j := by
   have h3 := of_all h1 hj
   exact beq_iff_eq.1 h3
  simp only [apG]
  rw [ap_cx, ap_cx, ap_cx]
  show f (cxS a b (cxS b a (cxS a b j))) = rot 0 (f (sgN 11 a b 0 j))
  rw [rot_0, ← h2]
end Go.Proofs.YtdjckjfclhjpcaaGreat
/-
 Helper text (no claim of its own): the decomposition of a gate does the same as the gate (plain Lean).
-/
namespace Go.Proofs.YtdjckjfclhjpcaaGreat
open Go.ChangeShapes Go.WideShapes Go.ChangeAt Go.RowKit Go.Deep
set_option linter.unusedVariables false
set_option linter.unusedSimpArgs false
theorem rot_mod {i j : Nat} (hi : i < 8) (hj : j < 8) (x : Zw) : rot i (rot j x) = rot ((i + j) % 8) x := by
 rcases lt8 hi with rfl | rfl | rfl | rfl | rfl | rfl | rfl | rfl <;> rcases lt8 hj with rfl | rfl | rfl | rfl | rfl | rfl | rfl | rfl <;>
  (simp only [Nat.reduceAdd, Nat.reduceMod]; apply Zw.eq <;> simp only [rot, zmul, zw] <;> omega)
theorem rot_opp {i : Nat} (hi : i < 8) (x : Zw) : rot ((i + 4) % 8) x = ⟨-(rot i x).a, -(rot i x).b, -(rot i x).c, -(rot i x).d⟩ := by
 rcases lt8 hi with rfl | rfl | rfl | rfl | rfl | rfl | rfl | rfl <;>
  (simp only [Nat.reduceAdd, Nat.reduceMod]; apply Zw.eq <;> simp only [rot, zmul, zw] <;> omega)
theorem pgN_lt (k a b c i : Nat) : pgN k a b c i < 8 := by
 unfold pgN
 split <;> (try split) <;> omega
/-- A gate without H, on at most two qubits. -/
def tG (t : Nat × Nat × Nat) : Gt := ⟨t.1, t.2.1, t.2.2, (0 : Nat)⟩
def tS (t : Nat × Nat × Nat) (i : Nat) : Nat := sgN t.1 t.2.1 t.2.2 0 i
def pS : List (Nat × Nat × Nat) → Nat → Nat
 | [], j => j
 | t :: ts, j => tS t (pS ts j)
def pP : List (Nat × Nat × Nat) → Nat → Nat
 | [], _ => 0
 | t :: ts, j => (pP ts j + pgN t.1 t.2.1 t.2.2 0 (tS t (pS ts j))) % 8
theorem pP_lt : ∀ (ts : List (Nat × Nat × Nat)) (j : Nat), pP ts j < 8
 | [], _ => by unfold pP; omega
 | t :: ts, j => by unfold pP; omega
theorem apG_pl : ∀ (ts : List (Nat × Nat × Nat)), (∀ t ∈ ts, t.1 ∈ kindsN) → ∀ (f : Nat → Zw) (j : Nat), apG (ts.map tG) f j = rot (pP ts j) (f (pS ts j))
 | [], _, f, j => by show f j = rot 0 (f j); rw [rot_0]
 | t :: ts, h, f, j => by
  show apG (ts.map tG) (ap1 (tG t) f) j = _
  rw [apG_pl ts (fun t' h' => h t' (List.mem_cons_of_mem _ h')) (ap1 (tG t) f) j]
  unfold tG
  rw [ap1_p (h t (List.mem_cons_self ..)), rot_mod (pP_lt ts j) (pgN_lt _ _ _ _ _)]
  rfl
def hhOk (c : Nat) (m1 m2 : List (Nat × Nat × Nat)) (k a b d j : Nat) : Bool :=
 let i := pS m2 j
 let u := pS m1 (qlo i c)
 let v := pS m1 (qhi i c)
 let t1 := (pP m2 j + pP m1 (qlo i c)) % 8
 let t2 := (t1 + sgnH u c) % 8
 let t3 := ((pP m2 j + sgnH i c) % 8 + pP m1 (qhi i c)) % 8
 let t4 := (t3 + sgnH v c) % 8
 let z := sgN k a b d j
 let q := pgN k a b d z
 (qlo v c == qlo u c) && (qhi v c == qhi u c) && (((qlo u c == z) && (t1 == q) && (t3 == q) && (t4 == (t2 + 4) % 8)) || ((qhi u c == z) && (t2 == q) && (t4 == q) && (t3 == (t1 + 4) % 8)))
/-- The same, computed eagerly (for the kernel). -/
def frc {α : Type} (n : Nat) (k : Nat → α) : α := match n with
 | 0 => k 0
 | m + 1 => k (m + 1)
theorem frc_eq {α : Type} (n : Nat) (k : Nat → α) : frc n k = k n := by cases n <;> rfl
def run {α : Type} : List (Nat × Nat × Nat) → Nat → (Nat → Nat → α) → α
 | [], j, k => k j 0
 | t :: ts, j, k => run ts j fun i p => frc (tS t i) fun i' => frc ((p + pgN t.1 t.2.1 t.2.2 0 i') % 8) fun p' => k i' p'
theorem run_eq {α : Type} : ∀ (ts : List (Nat × Nat × Nat)) (j : Nat) (k : Nat → Nat → α), run ts j k = k (pS ts j) (pP ts j)
 | [], _, _ => rfl
 | t :: ts, j, k => by unfold run; rw [run_eq ts, frc_eq, frc_eq]; rfl
def hhC (c : Nat) (m1 m2 : List (Nat × Nat × Nat)) (k a b d j : Nat) : Bool :=
 run m2 j fun i p => frc (qlo i c) fun lo => frc (qhi i c) fun hi => run m1 lo fun u p1 => run m1 hi fun v p2 =>
 frc ((p + p1) % 8) fun t1 => frc ((t1 + sgnH u c) % 8) fun t2 => frc (((p + sgnH i c) % 8 + p2) % 8) fun t3 => frc ((t3 + sgnH v c) % 8) fun t4 =>
 frc (sgN k a b d j) fun z => frc (pgN k a b d z) fun q => frc (qlo u c) fun ul => frc (qhi u c) fun uh =>
 (qlo v c == ul) && (qhi v c == uh) && (((ul == z) && (t1 == q) && (t3 == q) && (t4 == (t2 + 4) % 8)) || ((uh == z) && (t2 == q) && (t4 == q) && (t3 == (t1 + 4) % 8)))
theorem hhC_eq (c : Nat) (m1 m2 : List (Nat × Nat × Nat)) (k a b d j : Nat) : hhC c m1 m2 k a b d j = hhOk c m1 m2 k a b d j := by
 unfold hhC hhOk
 simp only [run_eq, frc_eq]
theorem sgnH_lt (j a : Nat) : sgnH j a < 8 := by rcases sgnH_or j a with h | h <;> omega
theorem hh_sum {p q1 q2 s s1 s2 : Nat} (p0 : p < 8) (p1 : q1 < 8) (p2 : q2 < 8) (p3 : s < 8) (p4 : s1 < 8) (p5 : s2 < 8) (x y : Zw) :
  rot p (zadd (rot q1 (zadd x (rot s1 y))) (rot s (rot q2 (zadd x (rot s2 y))))) =
   zadd (zadd (rot ((p + q1) % 8) x) (rot (((p + q1) % 8 + s1) % 8) y)) (zadd (rot (((p + s) % 8 + q2) % 8) x) (rot ((((p + s) % 8 + q2) % 8 + s2) % 8) y)) := by
 have b8 : ∀ x, x % 8 < 8 := fun x => Nat.mod_lt _ (by omega)
 rw [rot_add p0, rot_mod p0 p1, rot_add (b8 (p + q1)), rot_mod (b8 (p + q1)) p4, rot_mod p0 p3, rot_mod (b8 (p + s)) p2, rot_add (b8 ((p + s) % 8 + q2)), rot_mod (b8 ((p + s) % 8 + q2)) p5]
theorem two1 (x y : Zw) : zadd (zadd y x) (zadd y ⟨-x.a, -x.b, -x.c, -x.d⟩) = ⟨2 * y.a, 2 * y.b, 2 * y.c, 2 * y.d⟩ := by
 apply Zw.eq <;> simp only [zadd] <;> omega
theorem two2 (x y : Zw) : zadd (zadd x y) (zadd ⟨-x.a, -x.b, -x.c, -x.d⟩ y) = ⟨2 * y.a, 2 * y.b, 2 * y.c, 2 * y.d⟩ := by
 apply Zw.eq <;> simp only [zadd] <;> omega
theorem hh_eq {c : Nat} {m1 m2 : List (Nat × Nat × Nat)} {k a b d j : Nat} (h1 : ∀ t ∈ m1, t.1 ∈ kindsN) (h2 : ∀ t ∈ m2, t.1 ∈ kindsN) (hk : k ∈ kindsN) (h : hhOk c m1 m2 k a b d j = true) (f : Nat → Zw) :
  apG (⟨4, c, (0 : Nat), (0 : Nat)⟩ :: (m1.map tG ++ ⟨4, c, (0 : Nat), (0 : Nat)⟩ :: m2.map tG)) f j = up (2 * 1) (apG [⟨k, a, b, d⟩] f j) := by
 have e1 : apG (⟨4, c, (0 : Nat), (0 : Nat)⟩ :: (m1.map tG ++ ⟨4, c, (0 : Nat), (0 : Nat)⟩ :: m2.map tG)) f j = apG (m2.map tG) (ap1 ⟨4, c, (0 : Nat), (0 : Nat)⟩ (apG (m1.map tG) (ap1 ⟨4, c, (0 : Nat), (0 : Nat)⟩ f))) j := by
  rw [apG, apG_app, apG]
 have e2 : apG [⟨k, a, b, d⟩] f j = rot (pgN k a b d (sgN k a b d j)) (f (sgN k a b d j)) := by
  rw [apG, apG, ap1_p hk]
 rw [e1, e2, apG_pl m2 h2, ap1_4, apG_pl m1 h1, apG_pl m1 h1, ap1_4, ap1_4]
 unfold hhOk at h
 simp only [Bool.and_eq_true, beq_iff_eq, Bool.or_eq_true, and_assoc] at h
 obtain ⟨a1, a2, h⟩ := h
 rw [a1, a2, hh_sum (pP_lt _ _) (pP_lt _ _) (pP_lt _ _) (sgnH_lt _ _) (sgnH_lt _ _) (sgnH_lt _ _)]
 have b8 : ∀ x, x % 8 < 8 := fun x => Nat.mod_lt _ (by omega)
 have e3 : ∀ x : Zw, up (2 * 1) x = ⟨2 * x.a, 2 * x.b, 2 * x.c, 2 * x.d⟩ := fun x => zrt_zrt x
 rw [e3]
 rcases h with ⟨c1, c2, c3, c4⟩ | ⟨c1, c2, c3, c4⟩
 ·rw [c4, c3, c2, rot_opp (b8 _), c1, two1]
 ·rw [c3, c4, c2, rot_opp (b8 _), c1, two2]
def mCz (a b : Nat) : List (Nat × Nat × Nat) := [(9, a, b)]
def mC1 (a b c : Nat) : List (Nat × Nat × Nat) := [(9, b, c), (8, c, 0), (9, a, c), (7, c, 0), (9, b, c), (8, c, 0), (9, a, c), (7, b, 0), (7, c, 0)]
def mC2 (a b : Nat) : List (Nat × Nat × Nat) := [(9, a, b), (7, a, 0), (8, b, 0), (9, a, b)]
theorem chk_cz : (List.range 5).all (fun n => (List.range n).all fun a => (List.range n).all fun b => (a == b) || (List.range (2 ^ n)).all fun j => hhC b (mCz a b) [] 10 a b 0 j) = true := by kernel_rfl
theorem chk_ccx : (List.range 5).all (fun n => (List.range n).all fun a => (List.range n).all fun b => (List.range n).all fun c => (a == b || a == c || b == c) || (List.range (2 ^ n)).all fun j => hhC c (mC1 a b c) (mC2 a b) 12 a b c j) = true := by kernel_rfl
theorem cz_eq {n a b : Nat} (hn : n ≤ 4) (ha : a < n) (hb : b < n) (hab : a ≠ b) (f : Nat → Zw) (j : Nat) (hj : j < 2 ^ n) :
  apG [⟨4, b, (0 : Nat), (0 : Nat)⟩, ⟨9, a, b, (0 : Nat)⟩, ⟨4, b, (0 : Nat), (0 : Nat)⟩] f j = up (2 * 1) (apG [⟨10, a, b, (0 : Nat)⟩] f j) := by
 have h1 := of_all (of_all (of_all chk_cz (show n < 5 by omega)) ha) hb
 rw [Bool.or_eq_true] at h1
 rcases h1 with h1 | h1
 ·exact absurd (beq_iff_eq.1 h1) hab
 ·exact hh_eq (m1 := mCz a b) (m2 := []) (by intro t ht; simp [mCz] at ht; subst ht; simp [kindsN]) (by simp) (by decide) ((hhC_eq ..).symm.trans (of_all h1 hj)) f
theorem ccx_eq {n a b c : Nat} (hn : n ≤ 4) (ha : a < n) (hb : b < n) (hc : c < n) (hab : a ≠ b) (hac : a ≠ c) (hbc : b ≠ c) (f : Nat → Zw) (j : Nat) (hj : j < 2 ^ n) :
  apG (⟨4, c, (0 : Nat), (0 : Nat)⟩ :: ((mC1 a b c).map tG ++ ⟨4, c, (0 : Nat), (0 : Nat)⟩ :: (mC2 a b).map tG)) f j = up (2 * 1) (apG [⟨12, a, b, c⟩] f j) := by
 have h1 := of_all (of_all (of_all (of_all chk_ccx (show n < 5 by omega)) ha) hb) hc
 rw [Bool.or_eq_true, Bool.or_eq_true, Bool.or_eq_true] at h1
 rcases h1 with ((h1 | h1) | h1) | h1
 ·exact absurd (beq_iff_eq.1 h1) hab
 ·exact absurd (beq_iff_eq.1 h1) hac
 ·exact absurd (beq_iff_eq.1 h1) hbc
 ·refine hh_eq (m1 := mC1 a b c) (m2 := mC2 a b) ?_ ?_ (by decide) ((hhC_eq ..).symm.trans (of_all h1 hj)) f
  ·intro t ht
   simp only [mC1, List.mem_cons, List.not_mem_nil, or_false] at ht
   rcases ht with rfl | rfl | rfl | rfl | rfl | rfl | rfl | rfl | rfl <;> simp [kindsN]
  ·intro t ht
   simp only [mC2, List.mem_cons, List.not_mem_nil, or_false] at ht
   rcases ht with rfl | rfl | rfl | rfl <;> simp [kindsN]
theorem chk_vd : (List.range 5).all (fun n => (List.range n).all fun a => (List.range n).all fun b => (a == b) || ((dec ⟨((10 : Nat) : Int), a, b, ((0 : Nat) : Int)⟩).all (fun h => vg h n) && (dec ⟨((11 : Nat) : Int), a, b, ((0 : Nat) : Int)⟩).all (fun h => vg h n) && (List.range n).all fun c => (a == c) || (b == c) || (dec ⟨((12 : Nat) : Int), a, b, c⟩).all fun h => vg h n)) = true := by kernel_rfl
theorem vd_of {n a b : Nat} (hn : n ≤ 4) (ha : a < n) (hb : b < n) (hab : a ≠ b) :
  (∀ h ∈ dec ⟨((10 : Nat) : Int), a, b, ((0 : Nat) : Int)⟩, vg h n = true) ∧ (∀ h ∈ dec ⟨((11 : Nat) : Int), a, b, ((0 : Nat) : Int)⟩, vg h n = true) ∧ ∀ c, c < n → a ≠ c → b ≠ c → ∀ h ∈ dec ⟨((12 : Nat) : Int), a, b, c⟩, vg h n = true := by
 have h1 := of_all (of_all (of_all chk_vd (show n < 5 by omega)) ha) hb
 rw [Bool.or_eq_true] at h1
 rcases h1 with h1 | h1
 ·exact absurd (beq_iff_eq.1 h1) hab
 ·rw [Bool.and_eq_true, Bool.and_eq_true] at h1
  refine ⟨List.all_eq_true.1 h1.1.1, List.all_eq_true.1 h1.1.2, fun c hc hac hbc => ?_⟩
  have h2 := of_all h1.2 hc
  rw [Bool.or_eq_true, Bool.or_eq_true] at h2
  rcases h2 with (h2 | h2) | h2
  ·exact absurd (beq_iff_eq.1 h2) hac
  ·exact absurd (beq_iff_eq.1 h2) hbc
  ·exact List.all_eq_true.1 h2
theorem vg_c0 {k a b c n : Nat} (h : vg ⟨k, a, b, c⟩ n = true) (hk : k = 10 ∨ k = 11) : c = 0 := by
 unfold vg okI at h
 rcases hk with rfl | rfl <;> simp [ar] at h <;> omega
theorem same_dec {g : Gt} {n : Nat} (hv : vg g n = true) : Same n [g] (dec g) ∧ ∀ h ∈ dec g, vg h n = true := by
 have hs : ∀ g' ∈ [g], vg g' n = true := fun g' hg => by obtain rfl := List.mem_singleton.1 hg; exact hv
 cases h0 : (g.k == 10)
 ·cases h1 : (g.k == 11)
  ·cases h2 : (g.k == 12)
   ·rw [decN h0 h1 h2]
    exact ⟨Same.refl hs, hs⟩
   ·obtain ⟨k, a, b, c, rfl, hn, hk, ha, hb, hc, hf⟩ := vg_nat hv
    have hk12 : k = 12 := by have := beq_iff_eq.1 h2; simp only at this; omega
    subst hk12
    have hf' : a ≠ b ∧ a ≠ c ∧ b ≠ c := by
     unfold fineN at hf
     simp at hf
     exact hf
    have hvs := (vd_of hn.2 ha hb hf'.1).2.2 c hc hf'.2.1 hf'.2.2
    exact ⟨Same.of (d := 1) (by omega) hvs rfl fun f j hj => ccx_eq hn.2 ha hb hc hf'.1 hf'.2.1 hf'.2.2 f j hj, hvs⟩
  ·obtain ⟨k, a, b, c, rfl, hn, hk, ha, hb, hc, hf⟩ := vg_nat hv
   have hk11 : k = 11 := by have := beq_iff_eq.1 h1; simp only at this; omega
   subst hk11
   obtain rfl := vg_c0 hv (Or.inr rfl)
   have hf' : a ≠ b := by
    unfold fineN at hf
    simpa using hf
   have hvs := (vd_of hn.2 ha hb hf').2.1
   exact ⟨Same.of (d := 0) (by omega) hvs rfl fun f j hj => swap_eq hn.2 ha hb hf' f j hj, hvs⟩
 ·obtain ⟨k, a, b, c, rfl, hn, hk, ha, hb, hc, hf⟩ := vg_nat hv
  have hk10 : k = 10 := by have := beq_iff_eq.1 h0; simp only at this; omega
  subst hk10
  obtain rfl := vg_c0 hv (Or.inl rfl)
  have hf' : a ≠ b := by
   unfold fineN at hf
   simpa using hf
  have hvs := (vd_of hn.2 ha hb hf').1
  exact ⟨Same.of (d := 1) (by omega) hvs rfl fun f j hj => cz_eq hn.2 ha hb hf' f j hj, hvs⟩
end Go.Proofs.YtdjckjfclhjpcaaGreat
/-
 Helper text (no claim of its own): the decomposition of ops, by the program and by the reference.
-/
namespace Go.Proofs.YtdjckjfclhjpcaaGreat
open Go.ChangeShapes Go.WideShapes Go.ChangeAt Go.RowKit Go.Deep
def dec1 (o : Oq) : List Oq := if (o.k == 1) = true then gops (dec o.g) o.cond else if (o.k == 3) = true then [] else [o]
def decOps (xs : List Oq) : List Oq := xs.flatMap dec1
theorem decOps_snoc {xs : List Oq} {k : Nat} {o : Oq} (h : xs[k]? = some o) : decOps (xs.take (k + 1)) = decOps (xs.take k) ++ dec1 o := by
 unfold decOps; rw [take_snoc h, List.flatMap_append]; simp
theorem dec1_len (o : Oq) : (dec1 o).length ≤ 15 := by
 unfold dec1
 split
 ·rw [gops_len]; exact dec_len _
 ·split <;> simp
theorem decOps_len (xs : List Oq) : (decOps xs).length ≤ 15 * xs.length := by
 unfold decOps
 induction xs with
 | nil => simp
 | cons o xs ih => have := dec1_len o; rw [List.flatMap_cons, List.length_append, List.length_cons]; omega
theorem decOps_take (xs : List Oq) (k : Nat) : (decOps (xs.take k)).length ≤ 15 * k := by
 have h1 := decOps_len (xs.take k)
 have h2 : (xs.take k).length ≤ k := List.length_take_le _ _
 omega
theorem dec1_1 {o : Oq} (h : (o.k == 1) = true) : dec1 o = gops (dec o.g) o.cond := if_pos h
theorem dec1_3 {o : Oq} (h : (o.k == 1) = false) (h3 : (o.k == 3) = true) : dec1 o = [] := by unfold dec1; rw [if_neg (by simp [h]), if_pos h3]
theorem dec1_n {o : Oq} (h : (o.k == 1) = false) (h3 : (o.k == 3) = false) : dec1 o = [o] := by unfold dec1; rw [if_neg (by simp [h]), if_neg (by simp [h3])]

set_option maxRecDepth 100000 in
set_option maxHeartbeats 4000000 in
theorem spec_DecomposeOps_any (A : Option Addr) (n c : Nat) (xs : List Oq) (w : World) (h : Rd w w.heap.size 8 A n (ocells xs)) (hn : n ≤ 100000000000) :
  Calls Tryz.prog 8 #[.slice A n c] w fun e w' => ∃ v, e = .returned v ∧ w'.ownsRow w.heap.size 40 8 v (decOps xs).length (ocells (decOps xs)) ∧ Ext w w' := by
 have hlen := Lib.hid (h.len Oq.cells_len (by omega))
 go_enter Tryz.func8, Tryz.ntmps8
 go_wp2
 go_loopw [3, 4] (fun v i wr => ∃ k : Nat, k ≤ n ∧ i = .int .i64 k ∧ wr.ownsRow w.heap.size 40 8 v (decOps (xs.take k)).length (ocells (decOps (xs.take k))) ∧ Ext w wr) (fun _ i _ => n - (intOf i).toNat)
 case atStart => exact ⟨0, Nat.zero_le _, rfl, own_empty w w _ _ (Ext.refl _), xx⟩
 case round =>
  obtain ⟨k, hk, rfl, hown, hx⟩ := hrel
  by_cases hlt : k < n
  ·obtain ⟨b, o, x, rfl, hb, hg, r0, r1, r2, r3, r4, r5, r6, r7⟩ := op_at h hlt
   have HS := Lib.hid (decOps_snoc hg)
   clear hg
   have hle := decOps_take xs k
   have hdl := dec_len x.g
   have HK : Hid (∀ w', Ext w w' → w'.cell? ⟨b, o + k * 8, none⟩ = some (.int .i64 x.k) ∧ w'.cell? ⟨b, o + k * 8 + 1, none⟩ = some (.int .i64 x.g.k) ∧ w'.cell? ⟨b, o + k * 8 + 2, none⟩ = some (.int .i64 x.g.a) ∧ w'.cell? ⟨b, o + k * 8 + 3, none⟩ = some (.int .i64 x.g.b) ∧ w'.cell? ⟨b, o + k * 8 + 4, none⟩ = some (.int .i64 x.g.c) ∧ w'.cell? ⟨b, o + k * 8 + 5, none⟩ = some (.int .i64 x.q) ∧ w'.cell? ⟨b, o + k * 8 + 6, none⟩ = some (.int .i64 x.bit) ∧ w'.cell? ⟨b, o + k * 8 + 7, none⟩ = some (.int .i64 x.cond)) :=
    fun w' hx' => ⟨(hx'.cell (p := ⟨b, o + k * 8, none⟩) hb).trans r0, (hx'.cell (p := ⟨b, o + k * 8 + 1, none⟩) hb).trans r1, (hx'.cell (p := ⟨b, o + k * 8 + 2, none⟩) hb).trans r2, (hx'.cell (p := ⟨b, o + k * 8 + 3, none⟩) hb).trans r3, (hx'.cell (p := ⟨b, o + k * 8 + 4, none⟩) hb).trans r4, (hx'.cell (p := ⟨b, o + k * 8 + 5, none⟩) hb).trans r5, (hx'.cell (p := ⟨b, o + k * 8 + 6, none⟩) hb).trans r6, (hx'.cell (p := ⟨b, o + k * 8 + 7, none⟩) hb).trans r7⟩
   clear r0 r1 r2 r3 r4 r5 r6 r7
   obtain ⟨h0, h1, h2, h3, h4, h5, h6, h7⟩ := HK.out wr hx
   have hk0 : (0 : Int) ≤ (k : Int) := by omega
   have hk1 : (k : Int) < (n : Int) := by omega
   cases hk1 : (x.k == 1)
   ·cases hk3 : (x.k == 3)
    ·have HD := Lib.hid (dec1_n hk1 hk3)
     go_wp2_with (at_builtin; refine appOp rfl _ _ rfl _ _ (decOps (xs.take k)) rfl hown hx x _ _ rfl rfl (by omega) ?_; intro v1 w1 hown1 hx1 hg1 hb1)
     go_roundw
     case rel => exact ⟨k + 1, by omega, by go_num, by rw [HS.out, HD.out, List.length_append]; exact hown1, hx1⟩
     case measure => simp [intOf]; omega
    ·have HD := Lib.hid (dec1_3 hk1 hk3)
     go_wp2
     go_roundw
     case rel => exact ⟨k + 1, by omega, by go_num, by rw [HS.out, HD.out, List.append_nil]; exact hown, hx⟩
     case measure => simp [intOf]; omega
   ·have HD := Lib.hid (dec1_1 hk1)
    have hgl := gops_len (dec x.g) x.cond
    have HL := Lib.hid hgl
    clear hgl
    go_wp2
    go_region_held3 (fun w' => w'.cell? ⟨b, o + k * 8, none⟩ = some (.int .i64 x.k) ∧ w'.cell? ⟨b, o + k * 8 + 1, none⟩ = some (.int .i64 x.g.k) ∧ w'.cell? ⟨b, o + k * 8 + 2, none⟩ = some (.int .i64 x.g.a) ∧ w'.cell? ⟨b, o + k * 8 + 3, none⟩ = some (.int .i64 x.g.b) ∧ w'.cell? ⟨b, o + k * 8 + 4, none⟩ = some (.int .i64 x.g.c) ∧ w'.cell? ⟨b, o + k * 8 + 5, none⟩ = some (.int .i64 x.q) ∧ w'.cell? ⟨b, o + k * 8 + 6, none⟩ = some (.int .i64 x.bit) ∧ w'.cell? ⟨b, o + k * 8 + 7, none⟩ = some (.int .i64 x.cond))
     (first | go_keep | exact HK.out _ (by assumption))
     (first
      | (go_at_call 16; refine (spec_DecomposeGate_any x.g _).mono ?_; rintro e w1 ⟨v1, rfl, ho1, hx1⟩; have hz1 : Ext w w1 := Ext.trans hx.drew hx1; have hy1 : Ext wr w1 := Ext.trans (Ext.refl wr).drew hx1; obtain ⟨A1, c1, rfl, hr1⟩ := own_slice ho1)
      | (go_at_call 15; refine (spec_GateOps_any A1 _ c1 (dec x.g) x.cond _ hr1 (by omega)).mono ?_; rintro e w2 ⟨v2, rfl, ho2, hx2⟩; have hz2 : Ext w w2 := Ext.trans hz1 hx2; obtain ⟨A2, c2, rfl, hr2⟩ := own_slice ho2)
      | (refine stepOpS (w0 := w) (by rfl) _ _ (by rfl) _ _ (decOps (xs.take k)) (by rfl) (own_ext (own_ext hown hy1) hx2) hz2 A2 _ c2 (gops (dec x.g) x.cond) (by rfl) hr2 (by rw [HL.out]; omega) ?_; intro v3 w3 ho3 hz3 hg3 hb3))
    go_wp2
    go_roundw
    case rel => exact ⟨k + 1, by omega, by go_num, by rw [HS.out, HD.out, List.length_append]; exact ho3, hz3⟩
    case measure => simp [intOf]; omega
  ·rw [List.take_of_length_le (by rw [hlen.out]; omega)] at hown
   go_wp2
   go_ret
   exact ⟨_, rfl, hown, hx⟩

set_option maxRecDepth 100000 in
set_option maxHeartbeats 4000000 in
theorem impl_DecomposeOps_any (A : Option Addr) (n c : Nat) (xs : List Oq) (w : World) (h : Rd w w.heap.size 8 A n (ocells xs)) (hn : n ≤ 100000000000) :
  Calls Tryz.prog 6 #[.slice A n c] w fun e w' => ∃ v, e = .returned v ∧ w'.ownsRow w.heap.size 40 8 v (decOps xs).length (ocells (decOps xs)) ∧ Ext w w' := by
 have hlen := Lib.hid (h.len Oq.cells_len (by omega))
 go_enter Tryz.func6, Tryz.ntmps6
 go_wp2
 go_loopw [3, 9] (fun v i wr => ∃ k : Nat, k ≤ n ∧ i = .int .i64 k ∧ wr.ownsRow w.heap.size 40 8 v (decOps (xs.take k)).length (ocells (decOps (xs.take k))) ∧ Ext w wr) (fun _ i _ => n - (intOf i).toNat)
 case atStart => exact ⟨0, Nat.zero_le _, rfl, own_empty w w _ _ (Ext.refl _), xx⟩
 case round =>
  obtain ⟨k, hk, rfl, hown, hx⟩ := hrel
  by_cases hlt : k < n
  ·obtain ⟨b, o, x, rfl, hb, hg, h0, h1, h2, h3, h4, h5, h6, h7⟩ := op_at (h.ext hx) hlt
   have HS := Lib.hid (decOps_snoc hg)
   clear hg
   have hle := decOps_take xs k
   have hdl := dec_len x.g
   cases hk1 : (x.k == 1)
   ·cases hk3 : (x.k == 3)
    ·have HD := Lib.hid (dec1_n hk1 hk3)
     go_wp2_with (at_builtin; refine appOp rfl _ _ rfl _ _ (decOps (xs.take k)) rfl (hown.alloc _) (hx.alloc _) x _ _ rfl (by simp) (by omega) ?_; intro v1 w1 hown1 hx1 hg1 hb1)
     go_roundw
     case rel => exact ⟨k + 1, by omega, by go_num, by rw [HS.out, HD.out, List.length_append]; exact hown1, hx1⟩
     case measure => simp [intOf]; omega
    ·have HD := Lib.hid (dec1_3 hk1 hk3)
     go_wp2
     go_roundw
     case rel => exact ⟨k + 1, by omega, by go_num, by rw [HS.out, HD.out, List.append_nil]; exact hown.alloc _, hx.alloc _⟩
     case measure => simp [intOf]; omega
   ·have HD := Lib.hid (dec1_1 hk1)
    have HL := Lib.hid (gops_len (dec x.g) x.cond)
    have HK : Hid (∀ w', Blk w' wr.heap.size 40 #[.int .i64 x.k, .int .i64 x.g.k, .int .i64 x.g.a, .int .i64 x.g.b, .int .i64 x.g.c, .int .i64 x.q, .int .i64 x.bit, .int .i64 x.cond] → w'.cell? ⟨wr.heap.size, 0, none⟩ = some (.int .i64 x.k) ∧ w'.cell? ⟨wr.heap.size, 1, none⟩ = some (.int .i64 x.g.k) ∧ w'.cell? ⟨wr.heap.size, 2, none⟩ = some (.int .i64 x.g.a) ∧ w'.cell? ⟨wr.heap.size, 3, none⟩ = some (.int .i64 x.g.b) ∧ w'.cell? ⟨wr.heap.size, 4, none⟩ = some (.int .i64 x.g.c) ∧ w'.cell? ⟨wr.heap.size, 7, none⟩ = some (.int .i64 x.cond)) :=
     fun w' hb => ⟨hb.cell 0, hb.cell 1, hb.cell 2, hb.cell 3, hb.cell 4, hb.cell 7⟩
    have hB := Lib.hid (Blk.new wr 40 #[.int .i64 x.k, .int .i64 x.g.k, .int .i64 x.g.a, .int .i64 x.g.b, .int .i64 x.g.c, .int .i64 x.q, .int .i64 x.bit, .int .i64 x.cond])
    have hX := hx.alloc (.cells #[.int .i64 x.k, .int .i64 x.g.k, .int .i64 x.g.a, .int .i64 x.g.b, .int .i64 x.g.c, .int .i64 x.q, .int .i64 x.bit, .int .i64 x.cond] 40)
    have hO := hown.alloc (.cells #[.int .i64 x.k, .int .i64 x.g.k, .int .i64 x.g.a, .int .i64 x.g.b, .int .i64 x.g.c, .int .i64 x.q, .int .i64 x.bit, .int .i64 x.cond] 40)
    have hrow := hown.lt
    have HR := Lib.hid hrow
    clear hrow
    go_wp2
    go_region_held3 (fun w' => w'.cell? ⟨wr.heap.size, 0, none⟩ = some (.int .i64 x.k) ∧ w'.cell? ⟨wr.heap.size, 1, none⟩ = some (.int .i64 x.g.k) ∧ w'.cell? ⟨wr.heap.size, 2, none⟩ = some (.int .i64 x.g.a) ∧ w'.cell? ⟨wr.heap.size, 3, none⟩ = some (.int .i64 x.g.b) ∧ w'.cell? ⟨wr.heap.size, 4, none⟩ = some (.int .i64 x.g.c) ∧ w'.cell? ⟨wr.heap.size, 7, none⟩ = some (.int .i64 x.cond))
     (first | go_keep | exact HK.out _ (by assumption))
     (first
      | (go_at_call 14; refine (impl_DecomposeGate_any x.g _).mono ?_; rintro e w1 ⟨v1, rfl, ho1, hx1⟩; have hy1 := Ext.trans (Ext.refl (wr.alloc (.cells #[.int .i64 x.k, .int .i64 x.g.k, .int .i64 x.g.a, .int .i64 x.g.b, .int .i64 x.g.c, .int .i64 x.q, .int .i64 x.bit, .int .i64 x.cond] 40))).drew hx1; have hz1 : Ext w w1 := Ext.trans hX hy1; have hb1 := hB.out.ext hy1; obtain ⟨A1, c1, rfl, hr1⟩ := own_slice ho1)
      | (go_at_call 13; refine (impl_GateOps_any A1 _ c1 (dec x.g) x.cond _ hr1 (by omega)).mono ?_; rintro e w2 ⟨v2, rfl, ho2, hx2⟩; have hz2 : Ext w w2 := Ext.trans hz1 hx2; have hb2 := hb1.ext hx2; obtain ⟨A2, c2, rfl, hr2⟩ := own_slice ho2)
      | (refine stepOpS (w0 := w) (by rfl) _ _ (by rfl) _ _ (decOps (xs.take k)) (by rfl) (own_ext (own_ext hO hy1) hx2) hz2 A2 _ c2 (gops (dec x.g) x.cond) (by rfl) hr2 (by rw [HL.out]; omega) ?_; intro v3 w3 ho3 hz3 hg3 hl3; have hb3 := hb2.grown hg3 (fun k hk => by have := HR.out k hk; omega)))
    go_wp2
    go_roundw
    case rel => exact ⟨k + 1, by omega, by go_num, by rw [HS.out, HD.out, List.length_append]; exact ho3, hz3⟩
    case measure => simp [intOf]; omega
  ·rw [List.take_of_length_le (by rw [hlen.out]; omega)] at hown
   go_wp2
   go_ret
   exact ⟨_, rfl, hown, hx⟩
end Go.Proofs.YtdjckjfclhjpcaaGreat
/-
 Helper text (no claim of its own): branches of a simulation, and that decomposed ops lead to the same (plain Lean).
-/
namespace Go.Proofs.YtdjckjfclhjpcaaGreat
open Go.ChangeShapes Go.WideShapes Go.ChangeAt Go.RowKit Go.Deep
set_option linter.unusedVariables false
set_option linter.unusedSimpArgs false
structure Brn where
 bits : Nat
 r : Nat → List Dw
/-- Is a gate left out? -/
def skp (cond : Int) (bits : Nat) : Bool := decide (0 < cond) && !bt bits (cond - 1).toNat
def side (q one : Nat) (vs : List Dw) : List Dw := (List.range vs.length).map fun i => if bt i q = (one == 1) then vs.getD i d0 else d0
def met (q one : Nat) (vs : List Dw) : Bool := (side q one vs).any fun x => !eqD x d0
def mea1 (k q bit one : Nat) (b : Brn) : List Brn := if ((List.range k).any fun j => met q one (b.r j)) = true then [⟨b.bits + one * 2 ^ bit, fun j => side q one (b.r j)⟩] else []
def mea (k q bit : Nat) (b : Brn) : List Brn := mea1 k q bit 0 b ++ mea1 k q bit 1 b
def All2 {α β : Type} (R : α → β → Prop) : List α → List β → Prop
 | [], [] => True
 | a :: xs, b :: ys => R a b ∧ All2 R xs ys
 | _, _ => False
theorem All2.len {α β : Type} {R : α → β → Prop} : ∀ {xs : List α} {ys : List β}, All2 R xs ys → ys.length = xs.length
 | [], [], _ => rfl
 | _ :: xs, _ :: ys, h => by rw [List.length_cons, List.length_cons, All2.len h.2]
 | [], _ :: _, h => h.elim
 | _ :: _, [], h => h.elim
theorem All2.at_ {α β : Type} {R : α → β → Prop} : ∀ {xs : List α} {ys : List β}, All2 R xs ys → ∀ {i : Nat} {a : α}, xs[i]? = some a → ∃ b, ys[i]? = some b ∧ R a b
 | [], [], _, i, a, h => by simp at h
 | x :: xs, y :: ys, h, i, a, hi => by
  cases i with
  | zero => obtain rfl := Option.some.inj hi; exact ⟨y, rfl, h.1⟩
  | succ i => exact All2.at_ h.2 (i := i) hi
 | [], _ :: _, h, _, _, _ => h.elim
 | _ :: _, [], h, _, _, _ => h.elim
theorem All2.mk {α β : Type} {R : α → β → Prop} : ∀ (xs : List α), (∀ a ∈ xs, ∃ b, R a b) → ∃ ys, All2 R xs ys
 | [], _ => ⟨[], trivial⟩
 | a :: xs, h => by
  obtain ⟨b, hb⟩ := h a (List.mem_cons_self ..)
  obtain ⟨ys, hbs⟩ := All2.mk xs fun a' h' => h a' (List.mem_cons_of_mem _ h')
  exact ⟨b :: ys, hb, hbs⟩
theorem All2.imp {α β : Type} {R S : α → β → Prop} : ∀ {xs : List α} {ys : List β}, (∀ a ∈ xs, ∀ b, R a b → S a b) → All2 R xs ys → All2 S xs ys
 | [], [], _, h => trivial
 | _ :: xs, _ :: ys, f, h => ⟨f _ (List.mem_cons_self ..) _ h.1, All2.imp (fun a h' b => f a (List.mem_cons_of_mem _ h') b) h.2⟩
 | [], _ :: _, _, h => h.elim
 | _ :: _, [], _, h => h.elim
theorem All2.split {α β γ : Type} {R : α → β → Prop} {S : β → γ → Prop} : ∀ {xs : List α} {zs : List γ}, All2 (fun a c => ∃ b, R a b ∧ S b c) xs zs → ∃ ys, All2 R xs ys ∧ All2 S ys zs
 | [], [], _ => ⟨[], trivial, trivial⟩
 | _ :: xs, _ :: zs, h => by
  obtain ⟨b, h1, h2⟩ := h.1
  obtain ⟨ys, h3, h4⟩ := All2.split h.2
  exact ⟨b :: ys, ⟨h1, h3⟩, h2, h4⟩
 | [], _ :: _, h => h.elim
 | _ :: _, [], h => h.elim
theorem All2.eq {α : Type} : ∀ {xs ys : List α}, All2 (fun a b => b = a) xs ys → ys = xs
 | [], [], _ => rfl
 | _ :: xs, _ :: ys, h => by rw [h.1, All2.eq h.2]
 | [], _ :: _, h => h.elim
 | _ :: _, [], h => h.elim
theorem All2.mem {α β : Type} {R : α → β → Prop} : ∀ {xs : List α} {ys : List β}, All2 R xs ys → ∀ b ∈ ys, ∃ a ∈ xs, R a b
 | [], [], _, b, h => by simp at h
 | x :: xs, y :: ys, h, b, hb => by
  rcases List.mem_cons.1 hb with rfl | hb
  ·exact ⟨x, List.mem_cons_self .., h.1⟩
  ·obtain ⟨a, h1, h2⟩ := All2.mem h.2 b hb
   exact ⟨a, List.mem_cons_of_mem _ h1, h2⟩
 | [], _ :: _, h, _, _ => h.elim
 | _ :: _, [], h, _, _ => h.elim
/-- A gate, of one branch. -/
def StG (n : Nat) (g : Gt) (cond : Int) (b b' : Brn) : Prop := b'.bits = b.bits ∧ if skp cond b.bits = true then b' = b else ∀ j, Acts (2 ^ n) g (b.r j) (b'.r j)
/-- An op, of all branches. -/
def StR (n k : Nat) (o : Oq) (L L' : List Brn) : Prop :=
 if (o.k == 1) = true then All2 (StG n o.g o.cond) L L' else if (o.k == 2) = true then L' = L.flatMap (mea k o.q.toNat o.bit.toNat) else L' = L
theorem stR_1 {n k : Nat} {o : Oq} {L L' : List Brn} (h : (o.k == 1) = true) : StR n k o L L' ↔ All2 (StG n o.g o.cond) L L' := by unfold StR; rw [if_pos h]
theorem stR_2 {n k : Nat} {o : Oq} {L L' : List Brn} (h1 : (o.k == 1) = false) (h : (o.k == 2) = true) : StR n k o L L' ↔ L' = L.flatMap (mea k o.q.toNat o.bit.toNat) := by unfold StR; rw [if_neg (by simp [h1]), if_pos h]
theorem stR_n {n k : Nat} {o : Oq} {L L' : List Brn} (h1 : (o.k == 1) = false) (h : (o.k == 2) = false) : StR n k o L L' ↔ L' = L := by unfold StR; rw [if_neg (by simp [h1]), if_neg (by simp [h])]
def Path (n k : Nat) : List Oq → List Brn → List Brn → Prop
 | [], L, L' => L' = L
 | o :: os, L, L' => ∃ M, StR n k o L M ∧ Path n k os M L'
theorem Path.app {n k : Nat} : ∀ {os ps : List Oq} {L M L' : List Brn}, Path n k os L M → Path n k ps M L' → Path n k (os ++ ps) L L'
 | [], ps, L, M, L', h, h' => by obtain rfl := h; exact h'
 | o :: os, ps, L, M, L', ⟨M1, h1, h2⟩, h' => ⟨M1, h1, Path.app h2 h'⟩
theorem Chain.cut {l : Nat} {g : Gt} {gs : List Gt} {vs us : List Dw} (h : Chain l (g :: gs) vs us) : ∃ ws, Acts l g vs ws ∧ Chain l gs ws us := by
 obtain ⟨s, s0, s1, s2⟩ := h
 refine ⟨s 1, ?_, fun i => s (i + 1), rfl, s1, fun i g' hi => s2 (i + 1) g' hi⟩
 have := s2 0 g rfl
 rw [s0] at this
 exact this
/-- Gates one behind the other, of one branch. -/
def StGs (n : Nat) (gs : List Gt) (cond : Int) (b b' : Brn) : Prop := b'.bits = b.bits ∧ if skp cond b.bits = true then b' = b else ∀ j, Chain (2 ^ n) gs (b.r j) (b'.r j)
theorem path_gops {n k : Nat} (cond : Int) : ∀ (gs : List Gt) (L L' : List Brn), All2 (StGs n gs cond) L L' → Path n k (gops gs cond) L L'
 | [], L, L', h => All2.eq (All2.imp (fun b _ b' hb => by
   obtain ⟨h1, h2⟩ := hb
   split at h2
   ·exact h2
   ·obtain ⟨x, r⟩ := b
    obtain ⟨x', r'⟩ := b'
    simp only at h1 h2
    subst h1
    have : r' = r := funext fun j => by obtain ⟨s, s0, s1, _⟩ := h2 j; rw [← s0, ← s1]; rfl
    rw [this]) h)
 | g :: gs, L, L', h => by
  obtain ⟨M, h1, h2⟩ := All2.split (R := StG n g cond) (S := StGs n gs cond) (All2.imp (fun b _ b' hb => by
   obtain ⟨h1, h2⟩ := hb
   cases hs : skp cond b.bits
   ·rw [if_neg (by rw [hs]; decide)] at h2
    have hc := fun j => (h2 j).cut
    refine ⟨⟨b.bits, fun j => (hc j).choose⟩, ⟨rfl, ?_⟩, h1, ?_⟩
    ·rw [if_neg (by rw [hs]; decide)]
     exact fun j => (hc j).choose_spec.1
    ·rw [if_neg (by show ¬ skp cond b.bits = true; rw [hs]; decide)]
     exact fun j => (hc j).choose_spec.2
   ·rw [if_pos hs] at h2
    subst h2
    exact ⟨b', ⟨rfl, by rw [if_pos hs]⟩, rfl, by rw [if_pos hs]⟩) h)
  exact ⟨M, (stR_1 rfl).2 h1, path_gops cond gs M L' h2⟩
/-- What the states of branches are. -/
def InvB (n h : Nat) (L : List Brn) : Prop := ∀ b ∈ L, ∀ j, St n h (2 ^ h) (b.r j)
theorem side_len (q one : Nat) (vs : List Dw) : (side q one vs).length = vs.length := by unfold side; rw [List.length_map, List.length_range]
theorem side_St {n h : Nat} {M : Int} {vs : List Dw} (hs : St n h M vs) (h0 : 0 ≤ M) (q one : Nat) : St n h M (side q one vs) := by
 refine ⟨by rw [side_len]; exact hs.len, fun x hx => ?_⟩
 unfold side at hx
 obtain ⟨i, hi, rfl⟩ := List.mem_map.1 hx
 have hl := List.mem_range.1 hi
 split
 ·rw [List.getD_eq_getElem?_getD, List.getElem?_eq_getElem hl]
  exact hs.ok _ (List.getElem_mem hl)
 ·exact ⟨d0_ok, Nat.zero_le _, by rw [lift_d0]; exact near_z0 h0⟩
theorem mea_St {n h k q bit : Nat} {b : Brn} (hb : ∀ j, St n h (2 ^ h) (b.r j)) : ∀ b' ∈ mea k q bit b, ∀ j, St n h (2 ^ h) (b'.r j) := by
 intro b' hb' j
 have h0 : (0 : Int) ≤ 2 ^ h := Int.le_of_lt (Int.pow_pos (by decide))
 unfold mea mea1 at hb'
 rcases List.mem_append.1 hb' with hb' | hb' <;> split at hb' <;> simp at hb' <;> subst hb' <;> exact side_St (hb j) h0 _ _
def hco (o : Oq) : Nat := if (o.k == 1) = true then hct o.g else 0
def hcx (xs : List Oq) : Nat := (xs.map hco).sum
theorem hcx_cons (o : Oq) (xs : List Oq) : hcx (o :: xs) = hco o + hcx xs := by unfold hcx; rw [List.map_cons, List.sum_cons]
theorem step_dec {n k : Nat} {o : Oq} {h : Nat} {L : List Brn} (hv : (o.k == 1) = true → vg o.g n = true) (hi : InvB n h L) (hh : h + hco o ≤ 22) :
  ∃ M, StR n k o L M ∧ Path n k (dec1 o) L M ∧ InvB n (h + hco o) M := by
 cases h1 : (o.k == 1)
 ·have e : hco o = 0 := by unfold hco; rw [if_neg (by simp [h1])]
  rw [e]
  cases h2 : (o.k == 2)
  ·cases h3 : (o.k == 3)
   ·exact ⟨L, (stR_n h1 h2).2 rfl, by rw [dec1_n h1 h3]; exact ⟨L, (stR_n h1 h2).2 rfl, rfl⟩, hi⟩
   ·exact ⟨L, (stR_n h1 h2).2 rfl, by rw [dec1_3 h1 h3]; rfl, hi⟩
  ·have h3 : (o.k == 3) = false := by rw [beq_iff_eq.1 h2]; rfl
   refine ⟨_, (stR_2 h1 h2).2 rfl, by rw [dec1_n h1 h3]; exact ⟨_, (stR_2 h1 h2).2 rfl, rfl⟩, fun b hb => ?_⟩
   obtain ⟨a, ha, hb⟩ := List.mem_flatMap.1 hb
   exact mea_St (hi a ha) b hb
 ·have e : hco o = hct o.g := by unfold hco; rw [if_pos h1]
  rw [e] at hh ⊢
  have hg := hv h1
  obtain ⟨hsame, _⟩ := same_dec hg
  have hpos : (0 : Int) ≤ 2 ^ h := Int.le_of_lt (Int.pow_pos (by decide))
  have hle := hct_le o.g
  have hc1 : hcs [o.g] = hct o.g := by rw [hcs_cons]; rfl
  have hbd : (2 : Int) ^ h * 2 ^ hct o.g ≤ 4194304 := by
   rw [← Int.pow_add]
   have h22 : h + hct o.g ≤ 22 := hh
   have : (2 : Nat) ^ (h + hct o.g) ≤ 2 ^ 22 := Nat.pow_le_pow_right (by decide) h22
   have e2 : ((2 : Int)) ^ (h + hct o.g) = ((2 ^ (h + hct o.g) : Nat) : Int) := by rw [Int.natCast_pow]; rfl
   rw [e2]
   omega
  have hone : ∀ vs, St n h (2 ^ h) vs → ∃ us, Acts (2 ^ n) o.g vs us ∧ Chain (2 ^ n) (dec o.g) vs us ∧ St n (h + hct o.g) (2 ^ (h + hct o.g)) us := fun vs hs => by
   obtain ⟨us, c1, c2⟩ := chain_of [o.g] h (2 ^ h) vs (fun g' h' => by obtain rfl := List.mem_singleton.1 h'; exact hg) hs (by rw [hc1]; omega) hpos (by rw [hc1]; omega)
   obtain ⟨ws, c3, c4⟩ := c1.cut
   have : us = ws := by obtain ⟨s, s0, s1, _⟩ := c4; rw [← s0, ← s1]; rfl
   subst this
   have c5 := c2.1
   rw [hc1, ← Int.pow_add] at c5
   exact ⟨us, c3, hsame h (2 ^ h) vs us hs hpos (by rw [hc1]; omega) (by rw [hc1]; omega) c2, c5⟩
  obtain ⟨M, hM⟩ := All2.mk (R := fun b b' => StG n o.g o.cond b b' ∧ StGs n (dec o.g) o.cond b b' ∧ ∀ j, St n (h + hct o.g) (2 ^ (h + hct o.g)) (b'.r j)) L fun b hb => by
   cases hs : skp o.cond b.bits
   ·have hc := fun j => hone (b.r j) (hi b hb j)
    refine ⟨⟨b.bits, fun j => (hc j).choose⟩, ⟨rfl, ?_⟩, ⟨rfl, ?_⟩, fun j => (hc j).choose_spec.2.2⟩
    ·rw [if_neg (by rw [hs]; decide)]
     exact fun j => (hc j).choose_spec.1
    ·rw [if_neg (by rw [hs]; decide)]
     exact fun j => (hc j).choose_spec.2.1
   ·refine ⟨b, ⟨rfl, by rw [if_pos hs]⟩, ⟨rfl, by rw [if_pos hs]⟩, fun j => ?_⟩
    refine (hi b hb j).mono fun u hu => ?_
    rcases (show hct o.g = 0 ∨ hct o.g = 1 by omega) with e0 | e0
    ·rw [e0]; exact hu
    ·rw [e0, Int.pow_succ]
     exact near_le (near_up hpos hu) (by omega)
  refine ⟨M, (stR_1 h1).2 (All2.imp (fun _ _ _ h => h.1) hM), ?_, fun b' hb' => ?_⟩
  ·rw [dec1_1 h1]
   exact path_gops o.cond (dec o.g) L M (All2.imp (fun _ _ _ h => h.2.1) hM)
  ·obtain ⟨b, _, hb⟩ := All2.mem hM b' hb'
   exact hb.2.2
theorem sim_dec {n k : Nat} : ∀ (xs : List Oq) (h : Nat) (L : List Brn), (∀ o ∈ xs, (o.k == 1) = true → vg o.g n = true) → InvB n h L → h + hcx xs ≤ 22 →
  ∃ L', Path n k xs L L' ∧ Path n k (decOps xs) L L' ∧ InvB n (h + hcx xs) L'
 | [], h, L, _, hi, _ => ⟨L, rfl, rfl, hi⟩
 | o :: xs, h, L, hv, hi, hh => by
  rw [hcx_cons] at hh ⊢
  obtain ⟨M, m1, m2, m3⟩ := step_dec (k := k) (hv o (List.mem_cons_self ..)) hi (by omega)
  obtain ⟨L', l1, l2, l3⟩ := sim_dec (k := k) xs (h + hco o) M (fun o' h' => hv o' (List.mem_cons_of_mem _ h')) m3 (by omega)
  refine ⟨L', ⟨M, m1, l1⟩, ?_, by rw [← Nat.add_assoc]; exact l3⟩
  show Path n k ((o :: xs).flatMap dec1) L L'
  rw [List.flatMap_cons]
  exact m2.app l2
/-- The branch at the start. -/
def bra0 (n : Nat) : Brn := ⟨0, fun j => basis n j⟩
theorem inv0 (n : Nat) : InvB n 0 [bra0 n] := fun b hb j => by
 obtain rfl := List.mem_singleton.1 hb
 exact basis_St n j
end Go.Proofs.YtdjckjfclhjpcaaGreat
/-
 Helper text (no claim of its own): drawn routines for the simulation. Printed by gen_drv.py.
-/
namespace Go.Proofs.YtdjckjfclhjpcaaGreat
open Go.ChangeShapes Go.WideShapes Go.ChangeAt Go.RowKit Go.Deep
set_option linter.unusedVariables false
set_option linter.unusedSimpArgs false
theorem hcx_gcnt : ∀ xs : List Oq, hcx xs ≤ gcnt xs
 | [] => Nat.le_refl _
 | o :: r => by
  have ih := hcx_gcnt r
  rw [hcx_cons]
  unfold gcnt at ih ⊢
  rw [List.filter_cons]
  unfold hco hct
  cases h : (o.k == 1)
  ·rw [if_neg (by decide), if_neg (by decide)]; omega
  ·rw [if_pos rfl, if_pos rfl, List.length_cons]
   split <;> omega
theorem hcx_np : ∀ xs : List Oq, hcx xs ≤ np xs
 | [] => Nat.le_refl _
 | o :: r => by
  have ih := hcx_np r
  rw [hcx_cons, np]
  have h1 : hco o ≤ if isX o = true then 0 else 1 := by
   unfold hco hct
   by_cases hx : isX o = true
   ·rw [if_pos hx]
    have h4 : (o.g.k == 4) = false := by
     unfold isX at hx
     simp only [Bool.and_eq_true, beq_iff_eq] at hx
     rw [hx.1.2]
     rfl
    rw [h4]
    split <;> simp
   ·rw [if_neg hx]
    split
    ·split <;> omega
    ·omega
  omega
/-- What is drawn for the simulation. -/
def SimR (w : World) (g : Nat) (e : Ending) (w' : World) : Prop := ∃ (x : Rt) (A : Option Addr) (c : Nat), e = .returned (.agg #[.int .i64 x.n, .int .i64 x.inn, .int .i64 x.bits, .slice A x.ops.length c]) ∧ Rd w' w'.heap.size 8 A x.ops.length (ocells x.ops) ∧ x.ops.length ≤ 2000 ∧ hcx x.ops ≤ 22 ∧ w.grownBy w' (some g)
theorem Tryz.sizeRoutineS : (Tryz.prog.info? 26).map (·.size) = some 4 := by kernel_rfl
/-- The end: the routine is stored into the result's block q. -/
theorem endSim {fn : Func} {p : Tmp} {a : Act} {w W : World} {g q : Nat} {x : Rt} {A : Option Addr} {c : Nat} {z0 z1 z2 z3 : Value} {P : Ending → World → Prop} (hf : fn.results = #[.cell p 26]) (hp : a.tmps.getD p undef = .pointer (some ⟨q, 0, none⟩)) (hd : a.defers = [])
  (hB : Blk W q 26 #[z0, z1, z2, z3]) (hq : w.heap.size ≤ q) (hg : w.grownBy W (some g)) (hrd : Rd W W.heap.size 8 A x.ops.length (ocells x.ops)) (hl : x.ops.length ≤ 2000) (hh : hcx x.ops ≤ 22) (hP : ∀ e w', SimR w g e w' → P e w') :
  bodyPost Tryz.prog fn P Exit.ret a ((((W.setCell ⟨q, 0, none⟩ (.int .i64 x.n)).setCell ⟨q, 1, none⟩ (.int .i64 x.inn)).setCell ⟨q, 2, none⟩ (.int .i64 x.bits)).setCell ⟨q, 3, none⟩ (.slice A x.ops.length c)) := by
 have hB4 := (((hB.set_ 0 (.int .i64 x.n)).set_ 1 (.int .i64 x.inn)).set_ 2 (.int .i64 x.bits)).set_ 3 (.slice A x.ops.length c)
 refine bodyPost_ret (v := .agg #[.int .i64 x.n, .int .i64 x.inn, .int .i64 x.bits, .slice A x.ops.length c]) (results_cell_row hf a.tmps _ q 26 _ (0, 0) _ hp hB4 Tryz.underlying26 rfl Tryz.sizeRoutineS) hd
  (hP _ _ ⟨x, A, c, rfl, ⟨hrd.1, fun h0 => ?_⟩, hl, hh, gr_set (gr_set (gr_set (gr_set hg (p := ⟨q, 0, none⟩) hq _) (p := ⟨q, 1, none⟩) hq _) (p := ⟨q, 2, none⟩) hq _) (p := ⟨q, 3, none⟩) hq _⟩)
 obtain ⟨b, o, e, hb, hc⟩ := hrd.2 h0
 have hbq : b ≠ q := by
  rintro rfl
  have h7 : 7 < (ocells x.ops).length := by rw [hrd.1]; omega
  have h8 := hc 7 _ (List.getElem?_eq_getElem h7)
  rw [hB.cell (o + 7), Array.getElem?_eq_none (by simp)] at h8
  cases h8
 refine ⟨b, o, e, by simp [World.setCell]; exact hb, fun j u hu => ?_⟩
 have hk : ((((W.setCell ⟨q, 0, none⟩ (.int .i64 x.n)).setCell ⟨q, 1, none⟩ (.int .i64 x.inn)).setCell ⟨q, 2, none⟩ (.int .i64 x.bits)).setCell ⟨q, 3, none⟩ (.slice A x.ops.length c)).heap[b]? = W.heap[b]? :=
  (Below.heap_setCell _ ⟨q, 3, none⟩ _ b hbq).trans ((Below.heap_setCell _ ⟨q, 2, none⟩ _ b hbq).trans ((Below.heap_setCell _ ⟨q, 1, none⟩ _ b hbq).trans (Below.heap_setCell _ ⟨q, 0, none⟩ _ b hbq)))
 exact (World.cell?_of_block (a := ⟨b, o + j, none⟩) hk).trans (hc j u hu)
set_option maxRecDepth 100000 in
set_option maxHeartbeats 16000000 in
theorem l23Ops_any (g : Nat) (w : World) (h : Cur w g) : Calls Tryz.prog 11 #[.pointer (some ⟨g, 0, none⟩)] w (SimR w g) := by
 have hgl := h.lt
 have HGL := Lib.hid hgl
 have HC0 : Hid (Cur (w.alloc (.cells #[.int .i64 0, .int .i64 0, .int .i64 0, .slice none 0 0] 26)) g) := h.alloc _
 have HG0 : Hid (w.grownBy (w.alloc (.cells #[.int .i64 0, .int .i64 0, .int .i64 0, .slice none 0 0] 26)) (some g)) := ((Ext.refl w).alloc _).gr _
 have HQ0 : Hid (Blk (w.alloc (.cells #[.int .i64 0, .int .i64 0, .int .i64 0, .slice none 0 0] 26)) w.heap.size 26 #[.int .i64 0, .int .i64 0, .int .i64 0, .slice none 0 0]) := Blk.new _ _ _
 clear h hgl
 go_enter Tryz.func11, Tryz.ntmps11
 go_upto_region 1 with (fail)
 generalize (w.alloc (.cells #[.int .i64 0, .int .i64 0, .int .i64 0, .slice none 0 0] 26)) = wa at *
 obtain ⟨q, hq⟩ : ∃ q, w.heap.size = q := ⟨_, rfl⟩
 have HQ : Hid (w.heap.size ≤ q ∧ g < q) := ⟨by omega, by have := HGL.out; omega⟩
 rw [hq] at HQ0 ⊢
 clear hq
 go_wp2_with fail
 refine (l1Once_any g 2 _ HC0.out (by omega)).mono ?_
 rintro e w1 ⟨b1, rfl, hC1, hG1⟩
 have HC1 : Hid (Cur w1 g) := hC1
 have HG1 : Hid (w.grownBy w1 (some g)) := gr_trans HG0.out hG1
 have HQ1 : Hid (Blk w1 q 26 #[.int .i64 0, .int .i64 0, .int .i64 0, .slice none 0 0]) := HQ0.out.grown hG1 (fun k hk => by injection hk; have := HQ.out; omega)
 clear HC0 HG0 HQ0 hC1 hG1
 cases b1 with
 | false =>
  go_wp2_with fail
  refine (l21BentF_any g 8 (by decide) _ HC1.out).mono ?_
  rintro e wb ⟨N, I, B, Ab, len, cap, xs, rfl, -, ⟨hlb, hnp⟩, hown, hCb, hGb⟩
  have hxl : xs.length = len := by
   have h9 := hown.1
   rw [flat_len Oq.cells_len] at h9
   omega
  have HQB : Hid (Blk wb q 26 #[.int .i64 0, .int .i64 0, .int .i64 0, .slice none 0 0]) := HQ1.out.grown hGb (fun k hk => by injection hk; have := HQ.out; omega)
  have HGB : Hid (w.grownBy wb (some g)) := gr_trans HG1.out hGb
  have HRB := Lib.hid (Rd.own hown)
  have HNP : Hid (hcx xs ≤ 22) := Nat.le_trans (hcx_np xs) (by omega)
  subst hxl
  clear hown hCb hGb HC1 HG1 HQ1 hnp
  obtain ⟨⟨q0, q1, q2, q3⟩, f0, f1, f2, f3⟩ := cells4 HQB.out
  go_wp2
  exact endSim (x := ⟨N, I, B, xs⟩) rfl rfl rfl HQB.out HQ.out.1 HGB.out HRB.out (by show xs.length ≤ 2000; omega) HNP.out fun _ _ h => h
 | true =>
  go_wp2_with fail
  refine (l17Right_any g _ HC1.out).mono ?_
  rintro e w2 ⟨Aq, nq, cq, Bp, mp, ep, rfl, hnm, hss, hnq, hC2, hG2⟩
  have hK2 : Old w2 (fun b => w1.heap.size ≤ b ∧ b < w2.heap.size) := fun b hb => hb.2
  have HQ2 : Hid (Blk w2 q 26 #[.int .i64 0, .int .i64 0, .int .i64 0, .slice none 0 0]) := HQ1.out.grown hG2 (fun k hk => by injection hk; have := HQ.out; omega)
  have HG2 : Hid (w.grownBy w2 (some g)) := gr_trans HG1.out hG2
  have HEL : Hid (∀ w', Ext w2 w' → Calls Tryz.prog 21 #[.agg #[.slice Aq nq cq, .slice Bp mp ep]] w' fun e w'' => Elab e w'' ∧ Ext w' w'') := fun w' hx => Elaborate_any 4 Aq nq cq Bp mp ep _ w' (hnm.keep (fun b hb => hx.block b hb.2) (fun b hb => hb)) (hss.keep (fun b hb => hx.block b hb.2) (fun b hb => hb)) (fun b hb => Nat.lt_of_lt_of_le hb.2 hx.size) hnq (by decide) (by decide)
  have HC2 : Hid (Cur w2 g) := hC2
  clear HC1 HG1 HQ1 hnm hss hK2 hC2 hG2
  have HX3 : Hid (Ext w2 (w2.alloc (.cells #[.slice Aq nq cq, .slice Bp mp ep] 53))) := (Ext.refl _).alloc _
  have HP3 : Hid (Blk (w2.alloc (.cells #[.slice Aq nq cq, .slice Bp mp ep] 53)) w2.heap.size 53 #[.slice Aq nq cq, .slice Bp mp ep]) := Blk.new _ _ _
  go_upto_region 3 with (fail)
  generalize (w2.alloc (.cells #[.slice Aq nq cq, .slice Bp mp ep] 53)) = w3 at *
  generalize w2.heap.size = pb at *
  obtain ⟨⟨t0, t1⟩, -⟩ := blk2p HP3.out
  go_wp2_with fail
  refine (HEL.out _ HX3.out).mono ?_
  rintro e w4 ⟨⟨x, A, c, code, rfl, hrd, hlen, hval⟩, hx4⟩
  have HX4 : Hid (Ext w2 w4) := HX3.out.trans hx4
  have HRD := Lib.hid hrd
  have HLN := Lib.hid hlen
  clear HEL HX3 HP3 t0 t1 hrd hx4 hval
  have HX5 : Hid (Ext w2 (w4.alloc (.cells #[.int .i64 x.n, .int .i64 x.inn, .int .i64 x.bits, .slice A x.ops.length c] 26))) := HX4.out.alloc _
  have HO5 : Hid (Blk (w4.alloc (.cells #[.int .i64 x.n, .int .i64 x.inn, .int .i64 x.bits, .slice A x.ops.length c] 26)) w4.heap.size 26 #[.int .i64 x.n, .int .i64 x.inn, .int .i64 x.bits, .slice A x.ops.length c]) := Blk.new _ _ _
  have HR5 : Hid (Rd (w4.alloc (.cells #[.int .i64 x.n, .int .i64 x.inn, .int .i64 x.bits, .slice A x.ops.length c] 26)) (w4.alloc (.cells #[.int .i64 x.n, .int .i64 x.inn, .int .i64 x.bits, .slice A x.ops.length c] 26)).heap.size 8 A x.ops.length (ocells x.ops)) := HRD.out.ext ((Ext.refl _).alloc _)
  clear HX4 HRD
  go_upto_region 4 with (fail)
  generalize (w4.alloc (.cells #[.int .i64 x.n, .int .i64 x.inn, .int .i64 x.bits, .slice A x.ops.length c] 26)) = w5 at *
  generalize w4.heap.size = ob at *
  have HC1 : Hid (Cur w5 g) := HC2.out.ext HX5.out
  have HG1 : Hid (w.grownBy w5 (some g)) := gr_ext HG2.out HX5.out
  have HQ1 : Hid (Blk w5 q 26 #[.int .i64 0, .int .i64 0, .int .i64 0, .slice none 0 0]) := HQ2.out.ext HX5.out
  clear HC2 HG2 HQ2 HX5
  by_cases hc0 : code = 0
  ·subst hc0
   obtain ⟨⟨t0, t1, t2, t3⟩, -⟩ := cells4 HO5.out
   go_wp2_with fail
   refine (RoutineGateCount_any x.n x.inn x.bits A c x.ops _ HR5.out (by have := HLN.out; omega)).mono ?_
   rintro e w6 ⟨rfl, hx6⟩
   have HC6 : Hid (Cur w6 g) := HC1.out.ext hx6
   have HG6 : Hid (w.grownBy w6 (some g)) := gr_ext HG1.out hx6
   have HQ6 : Hid (Blk w6 q 26 #[.int .i64 0, .int .i64 0, .int .i64 0, .slice none 0 0]) := HQ1.out.ext hx6
   have HO6 := Lib.hid (HO5.out.ext hx6)
   have HR6 := Lib.hid (HR5.out.ext hx6)
   clear HC1 HG1 HQ1 HO5 HR5 t0 t1 t2 t3 hx6
   have HGC : Hid (hcx x.ops ≤ gcnt x.ops) := hcx_gcnt x.ops
   generalize gcnt x.ops = gc at *
   obtain ⟨⟨t0, t1, t2, t3⟩, -⟩ := cells4 HO6.out
   by_cases hg20 : gc ≤ 20
   ·have hgd : decide ((gc : Int) ≤ 20) = true := by simp; omega
    have hgi : (gc : Int) ≤ 20 := by omega
    obtain ⟨⟨q0, q1, q2, q3⟩, f0, f1, f2, f3⟩ := cells4 HQ6.out
    go_wp2
    exact endSim rfl rfl rfl HQ6.out HQ.out.1 HG6.out HR6.out HLN.out (by have := HGC.out; omega) fun _ _ h => h
   ·have hgd : decide ((gc : Int) ≤ 20) = false := by simp; omega
    have hgi : ¬ (gc : Int) ≤ 20 := by omega
    clear t0 t1 t2 t3 HO6 HR6
    go_wp2_with fail
    refine (l21BentF_any g 8 (by decide) _ HC6.out).mono ?_
    rintro e wb ⟨N, I, B, Ab, len, cap, xs, rfl, -, ⟨hlb, hnp⟩, hown, hCb, hGb⟩
    have hxl : xs.length = len := by
     have h9 := hown.1
     rw [flat_len Oq.cells_len] at h9
     omega
    have HQB : Hid (Blk wb q 26 #[.int .i64 0, .int .i64 0, .int .i64 0, .slice none 0 0]) := HQ6.out.grown hGb (fun k hk => by injection hk; have := HQ.out; omega)
    have HGB : Hid (w.grownBy wb (some g)) := gr_trans HG6.out hGb
    have HRB := Lib.hid (Rd.own hown)
    have HNP : Hid (hcx xs ≤ 22) := Nat.le_trans (hcx_np xs) (by omega)
    subst hxl
    clear hown hCb hGb HC6 HG6 HQ6 hnp
    obtain ⟨⟨q0, q1, q2, q3⟩, f0, f1, f2, f3⟩ := cells4 HQB.out
    go_wp2
    exact endSim (x := ⟨N, I, B, xs⟩) rfl rfl rfl HQB.out HQ.out.1 HGB.out HRB.out (by show xs.length ≤ 2000; omega) HNP.out fun _ _ h => h
  ·have hc0b : (code == 0) = false := by simp [hc0]
   clear HO5 HR5
   go_wp2_with fail
   refine (l21BentF_any g 8 (by decide) _ HC1.out).mono ?_
   rintro e wb ⟨N, I, B, Ab, len, cap, xs, rfl, -, ⟨hlb, hnp⟩, hown, hCb, hGb⟩
   have hxl : xs.length = len := by
    have h9 := hown.1
    rw [flat_len Oq.cells_len] at h9
    omega
   have HQB : Hid (Blk wb q 26 #[.int .i64 0, .int .i64 0, .int .i64 0, .slice none 0 0]) := HQ1.out.grown hGb (fun k hk => by injection hk; have := HQ.out; omega)
   have HGB : Hid (w.grownBy wb (some g)) := gr_trans HG1.out hGb
   have HRB := Lib.hid (Rd.own hown)
   have HNP : Hid (hcx xs ≤ 22) := Nat.le_trans (hcx_np xs) (by omega)
   subst hxl
   clear hown hCb hGb HC1 HG1 HQ1 hnp
   obtain ⟨⟨q0, q1, q2, q3⟩, f0, f1, f2, f3⟩ := cells4 HQB.out
   go_wp2
   exact endSim (x := ⟨N, I, B, xs⟩) rfl rfl rfl HQB.out HQ.out.1 HGB.out HRB.out (by show xs.length ≤ 2000; omega) HNP.out fun _ _ h => h
/-- What DrawSimulate returns. -/
def DrS (w : World) (e : Ending) (w' : World) : Prop := (∃ (x : Rt) (A : Option Addr) (c : Nat), e = .returned (.agg #[.int .i64 x.n, .int .i64 x.inn, .int .i64 x.bits, .slice A x.ops.length c]) ∧ Rd w' w'.heap.size 8 A x.ops.length (ocells x.ops) ∧ x.ops.length ≤ 2000 ∧ hcx x.ops ≤ 22) ∧ Ext w w'
/-- The same, nothing old changed. -/
theorem endSimX {fn : Func} {p : Tmp} {a : Act} {w W : World} {q : Nat} {x : Rt} {A : Option Addr} {c : Nat} {z0 z1 z2 z3 : Value} (hf : fn.results = #[.cell p 26]) (hp : a.tmps.getD p undef = .pointer (some ⟨q, 0, none⟩)) (hd : a.defers = [])
  (hB : Blk W q 26 #[z0, z1, z2, z3]) (hq : w.heap.size ≤ q) (hg : Ext w W) (hrd : Rd W W.heap.size 8 A x.ops.length (ocells x.ops)) (hl : x.ops.length ≤ 2000) (hh : hcx x.ops ≤ 22) :
  bodyPost Tryz.prog fn (DrS w) Exit.ret a ((((W.setCell ⟨q, 0, none⟩ (.int .i64 x.n)).setCell ⟨q, 1, none⟩ (.int .i64 x.inn)).setCell ⟨q, 2, none⟩ (.int .i64 x.bits)).setCell ⟨q, 3, none⟩ (.slice A x.ops.length c)) := by
 have hB4 := (((hB.set_ 0 (.int .i64 x.n)).set_ 1 (.int .i64 x.inn)).set_ 2 (.int .i64 x.bits)).set_ 3 (.slice A x.ops.length c)
 refine bodyPost_ret (v := .agg #[.int .i64 x.n, .int .i64 x.inn, .int .i64 x.bits, .slice A x.ops.length c]) (results_cell_row hf a.tmps _ q 26 _ (0, 0) _ hp hB4 Tryz.underlying26 rfl Tryz.sizeRoutineS) hd
  ⟨⟨x, A, c, rfl, ⟨hrd.1, fun h0 => ?_⟩, hl, hh⟩, (((hg.setCell (p := ⟨q, 0, none⟩) hq _).setCell (p := ⟨q, 1, none⟩) hq _).setCell (p := ⟨q, 2, none⟩) hq _).setCell (p := ⟨q, 3, none⟩) hq _⟩
 obtain ⟨b, o, e, hb, hc⟩ := hrd.2 h0
 have hbq : b ≠ q := by
  rintro rfl
  have h7 : 7 < (ocells x.ops).length := by rw [hrd.1]; omega
  have h8 := hc 7 _ (List.getElem?_eq_getElem h7)
  rw [hB.cell (o + 7), Array.getElem?_eq_none (by simp)] at h8
  cases h8
 refine ⟨b, o, e, by simp [World.setCell]; exact hb, fun j u hu => ?_⟩
 have hk : ((((W.setCell ⟨q, 0, none⟩ (.int .i64 x.n)).setCell ⟨q, 1, none⟩ (.int .i64 x.inn)).setCell ⟨q, 2, none⟩ (.int .i64 x.bits)).setCell ⟨q, 3, none⟩ (.slice A x.ops.length c)).heap[b]? = W.heap[b]? :=
  (Below.heap_setCell _ ⟨q, 3, none⟩ _ b hbq).trans ((Below.heap_setCell _ ⟨q, 2, none⟩ _ b hbq).trans ((Below.heap_setCell _ ⟨q, 1, none⟩ _ b hbq).trans (Below.heap_setCell _ ⟨q, 0, none⟩ _ b hbq)))
 exact (World.cell?_of_block (a := ⟨b, o + j, none⟩) hk).trans (hc j u hu)
set_option maxRecDepth 100000 in
set_option maxHeartbeats 16000000 in
theorem DrawSimulate_any (A : Option Addr) (n c : Nat) (bs : List Int) (w : World) (h : Rd w w.heap.size 1 A n (u8cs bs)) (hn : n ≤ 1048576) : Calls Tryz.prog 5 #[.slice A n c] w (DrS w) := by
 have HRD := Lib.hid h
 have HX0 : Hid (Ext w (w.alloc (.cells #[.int .i64 0, .int .i64 0, .int .i64 0, .slice none 0 0] 26))) := (Ext.refl w).alloc _
 have HQ0 : Hid (Blk (w.alloc (.cells #[.int .i64 0, .int .i64 0, .int .i64 0, .slice none 0 0] 26)) w.heap.size 26 #[.int .i64 0, .int .i64 0, .int .i64 0, .slice none 0 0]) := Blk.new _ _ _
 clear h
 go_enter Tryz.func5, Tryz.ntmps5
 go_upto_region 1 with (fail)
 generalize (w.alloc (.cells #[.int .i64 0, .int .i64 0, .int .i64 0, .slice none 0 0] 26)) = wa at *
 obtain ⟨q, hq⟩ : ∃ q, w.heap.size = q := ⟨_, rfl⟩
 have HQ : Hid (w.heap.size ≤ q) := Nat.le_of_eq hq
 rw [hq] at HQ0 ⊢
 clear hq
 go_wp2_with fail
 refine (l1New_any A n c bs _ (HRD.out.ext HX0.out) hn).mono ?_
 rintro e w1 ⟨rfl, hC1, hx1⟩
 have HG : Hid (q < wa.heap.size ∧ w.heap.size ≤ wa.heap.size) := ⟨HQ0.out.lt, HX0.out.size⟩
 have HX1 : Hid (Ext w w1) := HX0.out.trans hx1
 have HQ1 := Lib.hid (HQ0.out.ext hx1)
 have HC1 := Lib.hid hC1
 clear HRD HX0 HQ0 hC1 hx1
 generalize wa.heap.size = g at *
 go_wp2_with fail
 refine (l23Ops_any g _ HC1.out).mono ?_
 rintro e w2 ⟨x, A2, c2, rfl, hrd, hlen, hhc, hg2⟩
 have HQ2 : Hid (Blk w2 q 26 #[.int .i64 0, .int .i64 0, .int .i64 0, .slice none 0 0]) := HQ1.out.grown hg2 (fun k hk => by injection hk; have := HG.out; omega)
 have HX2 : Hid (Ext w w2) := HX1.out.grown hg2 (fun k hk => by injection hk; have := HG.out; omega)
 have HR2 := Lib.hid hrd
 have HL2 := Lib.hid (And.intro hlen hhc)
 clear HX1 HQ1 HC1 hrd hg2
 obtain ⟨⟨q0, q1, q2, q3⟩, f0, f1, f2, f3⟩ := cells4 HQ2.out
 go_wp2
 exact endSimX rfl rfl rfl HQ2.out HQ.out HX2.out HR2.out HL2.out.1 HL2.out.2
end Go.Proofs.YtdjckjfclhjpcaaGreat
namespace Go.Proofs.YtdjckjfclhjpcaaGreat
open Go.ChangeShapes Go.WideShapes Go.ChangeAt Go.RowKit Go.Deep
set_option linter.unusedVariables false
set_option linter.unusedSimpArgs false
theorem eqD_iff {x y : Dw} : eqD x y = true ↔ x = y := by
 constructor
 ·intro h
  unfold eqD at h
  simp only [Bool.and_eq_true, beq_iff_eq] at h
  exact Dw.eq (Zw.eq h.1.1.1.1 h.1.1.1.2 h.1.1.2 h.1.2) h.2
 ·rintro rfl
  exact eqD_self x
theorem take_eq {us vs : List Dw} {k : Nat} {x : Dw} (h : us.take k = vs.take k) (hu : us[k]? = some x) (hv : vs[k]? = some x) : us.take (k + 1) = vs.take (k + 1) := by
 rw [List.take_add_one, List.take_add_one, hu, hv, h]
set_option maxRecDepth 100000 in
set_option maxHeartbeats 8000000 in
theorem EqualState_any (A B : Option Addr) (c d l : Nat) (us vs : List Dw) (w : World) (h : Rd w w.heap.size 5 A l (scells us)) (h' : Rd w w.heap.size 5 B l (scells vs)) (hu : us.length = l) (hv : vs.length = l) (hl : l ≤ 1048576) :
  Calls Tryz.prog 31 #[.slice A l c, .slice B l d] w fun e w' => (∃ b, e = .returned (.bool b) ∧ (b = true ↔ us = vs)) ∧ Ext w w' := by
 have HU := Lib.hid hu
 have HV := Lib.hid hv
 clear hu hv
 go_enter Tryz.func31, Tryz.ntmps31
 go_wp2
 go_loopw [5] (fun i wr => ∃ k : Nat, k ≤ l ∧ i = .int .i64 k ∧ Hid (us.take k = vs.take k) ∧ ∃ q, wr = w.drewN q) (fun i _ => l - (intOf i).toNat)
 case atStart => exact ⟨0, Nat.zero_le _, rfl, rfl, 0, rfl⟩
 case round =>
  obtain ⟨k, hk, rfl, HT, q, rfl⟩ := hrel
  by_cases hlt : k < l
  ·obtain ⟨b, o, g, rfl, hb, hg, x0, x1, x2, x3, x4⟩ := dw_at h hlt
   obtain ⟨b', o', g', rfl, hb', hg', y0, y1, y2, y3, y4⟩ := dw_at h' hlt
   have HG := Lib.hid hg
   have HG' := Lib.hid hg'
   clear hg hg'
   obtain ⟨f, hf⟩ : ∃ f, f = eqD g g' := ⟨_, rfl⟩
   have HN := (show ∀ w, (Op.equalIn 10000 91 g.val g'.val).run Tryz.prog w = .ok f w from fun w => by rw [eqIn_dw, hf])
   have HF := Lib.hid hf
   clear hf
   have HE := Tryz.eqgDOmega
   cases f
   ·go_wp2
    go_quiet (fail)
    go_wp2
    go_ret
    refine ⟨⟨false, rfl, by simp, fun e => ?_⟩, xx⟩
    rw [e, HG'.out] at HG
    have e2 := HF.out
    rw [Option.some.inj HG.out, eqD_self] at e2
    exact e2
   ·have HT2 : Hid (us.take (k + 1) = vs.take (k + 1)) := by
     have e2 := eqD_iff.1 HF.out.symm
     subst e2
     exact take_eq HT.out HG.out HG'.out
    go_wp2
    go_quiet (fail)
    go_wp2
    go_roundw
    case rel => exact ⟨k + 1, by omega, by go_num, HT2, _, rfl⟩
    case measure => simp [intOf]; omega
  ·go_wp2
   go_ret
   refine ⟨⟨true, rfl, fun _ => ?_, fun _ => rfl⟩, xx⟩
   have e2 := HT.out
   rw [List.take_of_length_le (by rw [HU.out]; omega), List.take_of_length_le (by rw [HV.out]; omega)] at e2
   exact e2
end Go.Proofs.YtdjckjfclhjpcaaGreat
