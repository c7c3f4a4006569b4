/-
 Helper text (no claim of its own): a tableau is reduced, by the reference: the other half. Printed by gen_l28.py.
-/
import Derived.Test.YtioimnplhmgbgaaGreatWf
namespace Go.Proofs.YtioimnplhmgbgaaGreat
open Go.ChangeShapes Go.WideShapes Go.ChangeAt Go.RowKit Go.Deep
set_option linter.unusedVariables false
set_option linter.unusedSimpArgs false
/-- Two rows of the work. -/
theorem WkX.row2 {w0 W : World} {q n m most i j : Nat} (h : WkX w0 W q n m most) (hi : i < m) (hj : j < m) : W.cell? ⟨q, 0, none⟩ = some (.int .i64 n) ∧ ∃ (b o c : Nat) (p p' : Pa), W.cell? ⟨q, 1, none⟩ = some (.slice (some ⟨b, o, none⟩) m c) ∧
  (W.cell? ⟨b, o + i * 4, none⟩ = some (.int .i64 p.n) ∧ W.cell? ⟨b, o + i * 4 + 1, none⟩ = some (.int .i64 p.x) ∧ W.cell? ⟨b, o + i * 4 + 2, none⟩ = some (.int .i64 p.z) ∧ W.cell? ⟨b, o + i * 4 + 3, none⟩ = some (.int .i64 p.p)) ∧
  (W.cell? ⟨b, o + j * 4, none⟩ = some (.int .i64 p'.n) ∧ W.cell? ⟨b, o + j * 4 + 1, none⟩ = some (.int .i64 p'.x) ∧ W.cell? ⟨b, o + j * 4 + 2, none⟩ = some (.int .i64 p'.z) ∧ W.cell? ⟨b, o + j * 4 + 3, none⟩ = some (.int .i64 p'.p)) := by
 obtain ⟨A, c, rs, L, len, cap, gs, h1, h2⟩ := h
 obtain ⟨b, o, p, rfl, hb, hg, y0, y1, y2, y3⟩ := pauli_at h1.r hi
 obtain ⟨b', o', p', he, hb', hg', z0, z1, z2, z3⟩ := pauli_at h1.r hj
 simp only [Option.some.injEq, Addr.mk.injEq] at he
 obtain ⟨rfl, rfl, -⟩ := he
 exact ⟨h1.b.cell 0, b, o, c, p, p', h1.b.cell 1, ⟨y0, y1, y2, y3⟩, z0, z1, z2, z3⟩
set_option maxRecDepth 100000 in
set_option maxHeartbeats 8000000 in
theorem l28Second_any (w0 W : World) (q n m i most : Nat) (h : WkX w0 W q n m most) (hn : 1 ≤ n ∧ n ≤ 4) (hm : m = 2 * n) (hi : i < n) (hmost : most ≤ 900000) :
  Calls Tryz.prog 83 #[.pointer (some ⟨q, 0, none⟩), .int .i64 i] W fun e W' => e = .returned (.tuple #[]) ∧ WkX w0 W' q n m (most + 16) := by
 have HN : Hid (1 ≤ n ∧ n ≤ 4 ∧ m = 2 * n ∧ i < n ∧ most ≤ 900000) := ⟨hn.1, hn.2, hm, hi, hmost⟩
 have HX := Lib.hid h
 have hi0 : (0 : Int) ≤ (i : Int) := by omega
 have him : (i : Int) < (m : Int) := by omega
 have hs0 : (0 : Int) ≤ (n : Int) + (i : Int) := by omega
 have hsm : (n : Int) + (i : Int) < (m : Int) := by omega
 have hs1 : IntKind.i64.wrap ((n : Int) + (i : Int)) = (n : Int) + (i : Int) := IntWalk.i64_in _ (by omega)
 have hs2 : wrap64 ((n : Int) + (i : Int)) = (n : Int) + (i : Int) := by unfold wrap64; omega
 have hs3 : ((n : Int) + (i : Int)).toNat = n + i := by omega
 clear h hn hm hi hmost
 have d0 := HX.out.n_
 go_enter Tryz.func83, Tryz.ntmps83
 go_wp2
 clear d0
 go_loopw [5] (fun kv wr => ∃ k : Nat, kv = .int .i64 k ∧ i + 1 ≤ k ∧ k ≤ n ∧ Hid (WkX w0 wr q n m (most + 0 + 2 * (k - (i + 1))))) (fun kv _ => n - (intOf kv).toNat)
 case atStart =>
      have hi1 : IntKind.i64.wrap ((i : Int) + 1) = ((i + 1 : Nat) : Int) := by rw [IntWalk.i64_in _ (by have := HN.out; omega)]; rfl
      have hi2 : wrap64 ((i : Int) + 1) = ((i + 1 : Nat) : Int) := by have := HN.out; unfold wrap64; omega
      exact ⟨i + 1, by first | rfl | rw [hi1] | rw [hi2], Nat.le_refl _, by have := HN.out; omega, HX.out.more (by omega)⟩
 case round =>
  obtain ⟨k, rfl, hik, hkn, HX'⟩ := hrel
  clear HX
  have HX := HX'
  clear HX'
  by_cases hlt : k < n
  ·have HLT : Hid (i + 1 ≤ k ∧ k < n ∧ n ≤ 4) := ⟨hik, hlt, HN.out.2.1⟩
   have hk1 : IntKind.i64.wrap ((k : Int) + 1) = ((k + 1 : Nat) : Int) := by rw [IntWalk.i64_in _ (by have := HN.out; omega)]; rfl
   have hk2 : wrap64 ((k : Int) + 1) = ((k + 1 : Nat) : Int) := by have := HN.out; unfold wrap64; omega
   obtain ⟨d0, b, o, c, p, d1, x0, x1, x2, x3⟩ := HX.out.row (i := n + i) (by have := HN.out; omega)
   go_upto_region 5 with (fail)
   have HX' := Lib.hid (HX.out.ext ((Ext.refl wr).alloc (.cells #[.int .i64 p.n, .int .i64 p.x, .int .i64 p.z, .int .i64 p.p] 66)))
   have HP : Hid (Blk (wr.alloc (.cells #[.int .i64 p.n, .int .i64 p.x, .int .i64 p.z, .int .i64 p.p] 66)) wr.heap.size 66 #[.int .i64 p.n, .int .i64 p.x, .int .i64 p.z, .int .i64 p.p]) := Blk.new _ _ _
   clear HX d0 d1 x0 x1 x2 x3
   have HX := HX'
   clear HX'
   generalize wr.alloc (.cells #[.int .i64 p.n, .int .i64 p.x, .int .i64 p.z, .int .i64 p.p] 66) = wp at *
   generalize wr.heap.size = s at *
   obtain ⟨⟨p0, p1, p2, p3⟩, -⟩ := cells4 HP.out
   go_wp2_with fail
   refine (l28X_any p k (by have := HN.out; omega) _).mono ?_
   rintro e wx ⟨⟨bx, rfl⟩, hxx⟩
   have HX' := Lib.hid (HX.out.ext hxx)
   have HP' := Lib.hid (HP.out.ext hxx)
   clear hxx HX HP p0 p1 p2 p3
   have HX := HX'
   have HP := HP'
   clear HX' HP'
   cases bx
   ·obtain ⟨⟨p0, p1, p2, p3⟩, -⟩ := cells4 HP.out
    go_wp2_with fail
    refine (l28X_any p k (by have := HN.out; omega) _).mono ?_
    rintro e wx ⟨⟨bx, rfl⟩, hxx⟩
    have HX' := Lib.hid (HX.out.ext hxx)
    have HP' := Lib.hid (HP.out.ext hxx)
    clear hxx HX HP p0 p1 p2 p3
    have HX := HX'
    have HP := HP'
    clear HX' HP'
    cases bx
    ·go_wp2
     go_roundw
     case rel => exact ⟨k + 1, by first | rfl | rw [hk1] | rw [hk2], by have := HLT.out; omega, by have := HLT.out; omega, HX.out.more (by have := HLT.out; omega)⟩
     case measure => simp [intOf, hk2]; have := HLT.out; omega
    ·go_wp2_with fail
     refine (spec_one_any 4 k _ (Ext.refl _)).mono ?_
     rintro e wo ⟨rfl, hxo⟩
     have HX' := Lib.hid (HX.out.ext hxo)
     clear hxo HX
     have HX := HX'
     clear HX'
     go_wp2_with fail
     refine (HX.out.do_ (by have := HN.out; omega) ⟨4, k, 0, 0⟩).mono ?_
     rintro e wd ⟨rfl, hwd⟩
     have HX' := Lib.hid hwd
     clear hwd HX
     have HX := HX'
     clear HX'
     go_wp2
     go_roundw
     case rel => exact ⟨k + 1, by first | rfl | rw [hk1] | rw [hk2], by have := HLT.out; omega, by have := HLT.out; omega, HX.out.more (by have := HLT.out; omega)⟩
     case measure => simp [intOf, hk2]; have := HLT.out; omega
   ·obtain ⟨⟨p0, p1, p2, p3⟩, -⟩ := cells4 HP.out
    go_wp2_with fail
    refine (l28Z_any p k (by have := HN.out; omega) _).mono ?_
    rintro e wx ⟨⟨bx, rfl⟩, hxx⟩
    have HX' := Lib.hid (HX.out.ext hxx)
    have HP' := Lib.hid (HP.out.ext hxx)
    clear hxx HX HP p0 p1 p2 p3
    have HX := HX'
    have HP := HP'
    clear HX' HP'
    cases bx
    ·obtain ⟨⟨p0, p1, p2, p3⟩, -⟩ := cells4 HP.out
     go_wp2_with fail
     refine (l28X_any p k (by have := HN.out; omega) _).mono ?_
     rintro e wx ⟨⟨bx, rfl⟩, hxx⟩
     have HX' := Lib.hid (HX.out.ext hxx)
     have HP' := Lib.hid (HP.out.ext hxx)
     clear hxx HX HP p0 p1 p2 p3
     have HX := HX'
     have HP := HP'
     clear HX' HP'
     cases bx
     ·go_wp2
      go_roundw
      case rel => exact ⟨k + 1, by first | rfl | rw [hk1] | rw [hk2], by have := HLT.out; omega, by have := HLT.out; omega, HX.out.more (by have := HLT.out; omega)⟩
      case measure => simp [intOf, hk2]; have := HLT.out; omega
     ·go_wp2_with fail
      refine (spec_one_any 4 k _ (Ext.refl _)).mono ?_
      rintro e wo ⟨rfl, hxo⟩
      have HX' := Lib.hid (HX.out.ext hxo)
      clear hxo HX
      have HX := HX'
      clear HX'
      go_wp2_with fail
      refine (HX.out.do_ (by have := HN.out; omega) ⟨4, k, 0, 0⟩).mono ?_
      rintro e wd ⟨rfl, hwd⟩
      have HX' := Lib.hid hwd
      clear hwd HX
      have HX := HX'
      clear HX'
      go_wp2
      go_roundw
      case rel => exact ⟨k + 1, by first | rfl | rw [hk1] | rw [hk2], by have := HLT.out; omega, by have := HLT.out; omega, HX.out.more (by have := HLT.out; omega)⟩
      case measure => simp [intOf, hk2]; have := HLT.out; omega
    ·go_wp2_with fail
     refine (spec_one_any 5 k _ (Ext.refl _)).mono ?_
     rintro e wo ⟨rfl, hxo⟩
     have HX' := Lib.hid (HX.out.ext hxo)
     clear hxo HX
     have HX := HX'
     clear HX'
     go_wp2_with fail
     refine (HX.out.do_ (by have := HN.out; omega) ⟨5, k, 0, 0⟩).mono ?_
     rintro e wd ⟨rfl, hwd⟩
     have HX' := Lib.hid hwd
     clear hwd HX
     have HX := HX'
     clear HX'
     go_wp2_with fail
     refine (spec_one_any 4 k _ (Ext.refl _)).mono ?_
     rintro e wo ⟨rfl, hxo⟩
     have HX' := Lib.hid (HX.out.ext hxo)
     clear hxo HX
     have HX := HX'
     clear HX'
     go_wp2_with fail
     refine (HX.out.do_ (by have := HN.out; omega) ⟨4, k, 0, 0⟩).mono ?_
     rintro e wd ⟨rfl, hwd⟩
     have HX' := Lib.hid hwd
     clear hwd HX
     have HX := HX'
     clear HX'
     go_wp2
     go_roundw
     case rel => exact ⟨k + 1, by first | rfl | rw [hk1] | rw [hk2], by have := HLT.out; omega, by have := HLT.out; omega, HX.out.more (by have := HLT.out; omega)⟩
     case measure => simp [intOf, hk2]; have := HLT.out; omega
  ·obtain rfl : n = k := by omega
   have HX' := Lib.hid (HX.out.more (most' := most + 6) (by have := HN.out; omega))
   clear HX
   have HX := HX'
   clear HX'
   clear hlt hik hkn
   go_wp2
   go_loopw [7] (fun kv wr => ∃ k : Nat, kv = .int .i64 k ∧ i + 1 ≤ k ∧ k ≤ n ∧ Hid (WkX w0 wr q n m (most + 6 + 1 * (k - (i + 1))))) (fun kv _ => n - (intOf kv).toNat)
   case atStart =>
      have hi1 : IntKind.i64.wrap ((i : Int) + 1) = ((i + 1 : Nat) : Int) := by rw [IntWalk.i64_in _ (by have := HN.out; omega)]; rfl
      have hi2 : wrap64 ((i : Int) + 1) = ((i + 1 : Nat) : Int) := by have := HN.out; unfold wrap64; omega
      exact ⟨i + 1, by first | rfl | rw [hi1] | rw [hi2], Nat.le_refl _, by have := HN.out; omega, HX.out.more (by omega)⟩
   case round =>
    obtain ⟨k, rfl, hik, hkn, HX'⟩ := hrel
    clear HX
    have HX := HX'
    clear HX'
    by_cases hlt : k < n
    ·have HLT : Hid (i + 1 ≤ k ∧ k < n ∧ n ≤ 4) := ⟨hik, hlt, HN.out.2.1⟩
     have hk1 : IntKind.i64.wrap ((k : Int) + 1) = ((k + 1 : Nat) : Int) := by rw [IntWalk.i64_in _ (by have := HN.out; omega)]; rfl
     have hk2 : wrap64 ((k : Int) + 1) = ((k + 1 : Nat) : Int) := by have := HN.out; unfold wrap64; omega
     obtain ⟨d0, b, o, c, p, d1, x0, x1, x2, x3⟩ := HX.out.row (i := n + i) (by have := HN.out; omega)
     go_wp2_with fail
     refine (l28Z_any p k (by have := HN.out; omega) _).mono ?_
     rintro e wx ⟨⟨bx, rfl⟩, hxx⟩
     have HX' := Lib.hid (HX.out.ext hxx)
     clear hxx HX d0 d1 x0 x1 x2 x3
     have HX := HX'
     clear HX'
     cases bx
     ·go_wp2
      go_roundw
      case rel => exact ⟨k + 1, by first | rfl | rw [hk1] | rw [hk2], by have := HLT.out; omega, by have := HLT.out; omega, HX.out.more (by have := HLT.out; omega)⟩
      case measure => simp [intOf, hk2]; have := HLT.out; omega
     ·go_wp2_with fail
      refine (spec_cx_any k i _ (Ext.refl _)).mono ?_
      rintro e wo ⟨rfl, hxo⟩
      have HX' := Lib.hid (HX.out.ext hxo)
      clear hxo HX
      have HX := HX'
      clear HX'
      go_wp2_with fail
      refine (HX.out.do_ (by have := HN.out; omega) ⟨9, k, i, 0⟩).mono ?_
      rintro e wd ⟨rfl, hwd⟩
      have HX' := Lib.hid hwd
      clear hwd HX
      have HX := HX'
      clear HX'
      go_wp2
      go_roundw
      case rel => exact ⟨k + 1, by first | rfl | rw [hk1] | rw [hk2], by have := HLT.out; omega, by have := HLT.out; omega, HX.out.more (by have := HLT.out; omega)⟩
      case measure => simp [intOf, hk2]; have := HLT.out; omega
    ·obtain rfl : n = k := by omega
     have HX' := Lib.hid (HX.out.more (most' := most + 9) (by have := HN.out; omega))
     clear HX
     have HX := HX'
     clear HX'
     clear hlt hik hkn
     obtain ⟨d0, b, o, c, p, d1, x0, x1, x2, x3⟩ := HX.out.row (i := n + i) (by have := HN.out; omega)
     go_wp2_with fail
     refine (l28X_any p i (by have := HN.out; omega) _).mono ?_
     rintro e wx ⟨⟨bx, rfl⟩, hxx⟩
     have HX' := Lib.hid (HX.out.ext hxx)
     clear hxx HX d0 d1 x0 x1 x2 x3
     have HX := HX'
     clear HX'
     cases bx
     case' true =>
      go_wp2_with fail
      refine (spec_one_any 4 i _ (Ext.refl _)).mono ?_
      rintro e wo ⟨rfl, hxo⟩
      have HX' := Lib.hid (HX.out.ext hxo)
      clear hxo HX
      have HX := HX'
      clear HX'
      go_wp2_with fail
      refine (HX.out.do_ (by have := HN.out; omega) ⟨4, i, 0, 0⟩).mono ?_
      rintro e wd ⟨rfl, hwd⟩
      have HX' := Lib.hid hwd
      clear hwd HX
      have HX := HX'
      clear HX'
      go_wp2_with fail
      refine (spec_one_any 5 i _ (Ext.refl _)).mono ?_
      rintro e wo ⟨rfl, hxo⟩
      have HX' := Lib.hid (HX.out.ext hxo)
      clear hxo HX
      have HX := HX'
      clear HX'
      go_wp2_with fail
      refine (HX.out.do_ (by have := HN.out; omega) ⟨5, i, 0, 0⟩).mono ?_
      rintro e wd ⟨rfl, hwd⟩
      have HX' := Lib.hid hwd
      clear hwd HX
      have HX := HX'
      clear HX'
      go_wp2_with fail
      refine (spec_one_any 4 i _ (Ext.refl _)).mono ?_
      rintro e wo ⟨rfl, hxo⟩
      have HX' := Lib.hid (HX.out.ext hxo)
      clear hxo HX
      have HX := HX'
      clear HX'
      go_wp2_with fail
      refine (HX.out.do_ (by have := HN.out; omega) ⟨4, i, 0, 0⟩).mono ?_
      rintro e wd ⟨rfl, hwd⟩
      have HX' := Lib.hid hwd
      clear hwd HX
      have HX := HX'
      clear HX'
     all_goals
      have HX' := Lib.hid (HX.out.more (most' := most + 12) (by have := HN.out; omega))
      clear HX
      have HX := HX'
      clear HX'
      obtain ⟨d0, b, o, c, p, p', d1, ⟨x0, x1, x2, x3⟩, y0, y1, y2, y3⟩ := HX.out.row2 (i := i) (j := n + i) (by have := HN.out; omega) (by have := HN.out; omega)
      by_cases hp2 : p.p = 2
      ·rw [hp2] at x3
       clear y0 y1 y2 y3 hp2
       go_wp2_with fail
       refine (spec_one_any 3 i _ (Ext.refl _)).mono ?_
       rintro e wo ⟨rfl, hxo⟩
       have HX' := Lib.hid (HX.out.ext hxo)
       clear hxo HX
       have HX := HX'
       clear HX'
       go_wp2_with fail
       refine (HX.out.do_ (by have := HN.out; omega) ⟨3, i, 0, 0⟩).mono ?_
       rintro e wd ⟨rfl, hwd⟩
       have HX' := Lib.hid hwd
       clear hwd HX
       have HX := HX'
       clear HX'
       have HX' := Lib.hid (HX.out.more (most' := most + 13) (by have := HN.out; omega))
       clear HX
       have HX := HX'
       clear HX'
       clear d0 d1 x0 x1 x2 x3
       obtain ⟨d0, b, o, c, p, p', d1, ⟨x0, x1, x2, x3⟩, y0, y1, y2, y3⟩ := HX.out.row2 (i := i) (j := n + i) (by have := HN.out; omega) (by have := HN.out; omega)
       by_cases hp3 : p'.p = 2
       ·rw [hp3] at y3
        clear x0 x1 x2 x3 hp3
        go_wp2_with fail
        refine (spec_one_any 1 i _ (Ext.refl _)).mono ?_
        rintro e wo ⟨rfl, hxo⟩
        have HX' := Lib.hid (HX.out.ext hxo)
        clear hxo HX
        have HX := HX'
        clear HX'
        go_wp2_with fail
        refine (HX.out.do_ (by have := HN.out; omega) ⟨1, i, 0, 0⟩).mono ?_
        rintro e wd ⟨rfl, hwd⟩
        have HX' := Lib.hid hwd
        clear hwd HX
        have HX := HX'
        clear HX'
        have HX' := Lib.hid (HX.out.more (most' := most + 16) (by have := HN.out; omega))
        clear HX
        go_wp2
        exact bodyPost_end (v := .tuple #[]) (by kernel_rfl) rfl ⟨rfl, HX'.out⟩
       ·clear x0 x1 x2 x3
        have HX' := Lib.hid (HX.out.more (most' := most + 16) (by have := HN.out; omega))
        clear HX
        go_wp2
        exact bodyPost_end (v := .tuple #[]) (by kernel_rfl) rfl ⟨rfl, HX'.out⟩
      ·by_cases hp3 : p'.p = 2
       ·rw [hp3] at y3
        clear hp3
        go_wp2_with fail
        refine (spec_one_any 1 i _ (Ext.refl _)).mono ?_
        rintro e wo ⟨rfl, hxo⟩
        have HX' := Lib.hid (HX.out.ext hxo)
        clear hxo HX
        have HX := HX'
        clear HX'
        go_wp2_with fail
        refine (HX.out.do_ (by have := HN.out; omega) ⟨1, i, 0, 0⟩).mono ?_
        rintro e wd ⟨rfl, hwd⟩
        have HX' := Lib.hid hwd
        clear hwd HX
        have HX := HX'
        clear HX'
        have HX' := Lib.hid (HX.out.more (most' := most + 16) (by have := HN.out; omega))
        clear HX
        go_wp2
        exact bodyPost_end (v := .tuple #[]) (by kernel_rfl) rfl ⟨rfl, HX'.out⟩
       ·have HX' := Lib.hid (HX.out.more (most' := most + 16) (by have := HN.out; omega))
        clear HX
        go_wp2
        exact bodyPost_end (v := .tuple #[]) (by kernel_rfl) rfl ⟨rfl, HX'.out⟩
end Go.Proofs.YtioimnplhmgbgaaGreat
