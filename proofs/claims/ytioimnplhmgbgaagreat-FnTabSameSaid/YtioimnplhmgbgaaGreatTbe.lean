/-
 Helper text (no claim of its own): equality of tableaux, validity of a circuit, by the program and by the reference. Printed by gen_tb.py.
-/
import Derived.Test.YtioimnplhmgbgaaGreatPa
import Derived.Test.YtioimnplhmgbgaaGreatRet
import Derived.Test.YtioimnplhmgbgaaGreatSvg
import Derived.Test.YtioimnplhmgbgaaGreatGate
namespace Go.Proofs.YtioimnplhmgbgaaGreat
open Go.ChangeShapes Go.WideShapes Go.ChangeAt Go.RowKit Go.Deep
set_option linter.unusedVariables false
theorem Tryz.stoodPauli : Tryz.prog.stoodInHeld 66 = false := by kernel_rfl
theorem Tryz.eqgPauli : Tryz.prog.eqGuardType Tryz.prog.depth 66 = false := by kernel_rfl
set_option maxRecDepth 100000 in
set_option maxHeartbeats 1000000 in
theorem eqIn_pauli (x y : Pa) (w : World) : (Op.equalIn 10000 66 x.val y.val).run Tryz.prog w = .ok (eqP x y) w := by
 have h1 := Tryz.stoodPauli
 unfold eqP
 by_cases e1 : x.n = y.n <;> by_cases e2 : x.x = y.x <;> by_cases e3 : x.z = y.z <;> by_cases e4 : x.p = y.p <;> (go_simp <;> simp [*])
theorem blkT2 {w : World} {g t : Nat} {a b : Value} (h : Blk w g t #[a, b]) : (w.cell? ⟨g, 0, none⟩ = some a ∧ w.cell? ⟨g, 1, none⟩ = some b) ∧ w.frozen? ⟨g, 0, none⟩ = false ∧ w.frozen? ⟨g, 1, none⟩ = false :=
 ⟨⟨h.cell 0, h.cell 1⟩, h.frozen 0, h.frozen 1⟩
set_option maxRecDepth 100000 in
set_option maxHeartbeats 2000000 in
theorem samePauli_any (A B : Option Addr) (n m c d : Nat) (xs ys : List Pa) (w : World) (h : Rd w w.heap.size 4 A n (pcells xs)) (h' : Rd w w.heap.size 4 B m (pcells ys)) (hn : n ≤ 100000000) (hm : m ≤ 100000000) :
  Calls Tryz.prog 51 #[.slice A n c, .slice B m d] w fun e w' => e = .returned (.bool (eqL eqP xs ys)) ∧ Ext w w' := by
 by_cases hnm : n = m
 ·subst hnm
  go_enter Tryz.func51, Tryz.ntmps51
  go_wp2
  go_loopw [13] (fun i wr => ∃ k : Nat, k ≤ n ∧ i = .int .i64 k ∧ Hid (eqL eqP (xs.take k) (ys.take k) = true) ∧ ∃ q, wr = w.drewN q) (fun i _ => n - (intOf i).toNat)
  case atStart => exact ⟨0, Nat.zero_le _, rfl, by simp [Hid, eqL], 0, rfl⟩
  case round =>
   obtain ⟨k, hk, rfl, HQ, q, rfl⟩ := hrel
   by_cases hlt : k < n
   ·obtain ⟨b, o, g, rfl, hb, hg, h0, h1, h2, h3⟩ := pauli_at h hlt
    obtain ⟨b', o', g', rfl, hb', hg', r0, r1, r2, r3⟩ := pauli_at h' hlt
    have HG := Lib.hid hg
    have HG' := Lib.hid hg'
    clear hg hg'
    cases hq : eqP g g'
    ·have HF := Lib.hid (eqL_false eqP HG.out HG'.out hq)
     have HN := (show ∀ w, (Op.equalIn 10000 66 g.val g'.val).run Tryz.prog w = .ok false w from fun w => by rw [eqIn_pauli, hq])
     have HE := Tryz.eqgPauli
     go_wp2
     go_quiet (fail)
     go_wp2
     go_ret
     exact ⟨ret_bool HF.out.symm, xx⟩
    ·have HN := (show ∀ w, (Op.equalIn 10000 66 g.val g'.val).run Tryz.prog w = .ok true w from fun w => by rw [eqIn_pauli, hq])
     have HE := Tryz.eqgPauli
     go_wp2
     go_quiet (fail)
     go_wp2
     go_roundw
     case rel => exact ⟨k + 1, by omega, by go_num, by unfold Hid; rw [eqL_snoc _ HG.out HG'.out, HQ.out, hq]; rfl, _, rfl⟩
     case measure => simp [intOf]; omega
   ·have : k = n := by omega
    subst this
    rw [List.take_of_length_le (by rw [h.len Pa.cells_len (by omega)]; omega), List.take_of_length_le (by rw [h'.len Pa.cells_len (by omega)]; omega)] at HQ
    go_wp2
    go_ret
    exact ⟨ret_bool HQ.out.symm, xx⟩
 ·have hnm' : ((n : Int) != (m : Int)) = true := by rw [bne_iff_ne]; omega
  have HF := Lib.hid (eqL_len eqP xs ys (by rw [h.len Pa.cells_len (by omega), h'.len Pa.cells_len (by omega)]; exact hnm))
  go_enter Tryz.func51, Tryz.ntmps51
  go_wp2
  go_ret
  exact ⟨ret_bool HF.out.symm, Ext.refl _⟩
set_option maxRecDepth 100000 in
set_option maxHeartbeats 4000000 in
theorem spec_EqualTableau_any (A B : Option Addr) (c d : Nat) (n m : Int) (xs ys : List Pa) (w : World) (h : Rd w w.heap.size 4 A xs.length (pcells xs)) (h' : Rd w w.heap.size 4 B ys.length (pcells ys)) (hn : xs.length ≤ 100000000) (hm : ys.length ≤ 100000000) :
  Calls Tryz.prog 10 #[.agg #[.int .i64 n, .slice A xs.length c], .agg #[.int .i64 m, .slice B ys.length d]] w fun e w' => e = .returned (.bool (n == m && eqL eqP xs ys)) ∧ Ext w w' := by
 cases hnm : (n == m)
 ·have hnb : (n != m) = true := by rw [bne, hnm]; rfl
  go_enter Tryz.func10, Tryz.ntmps10
  go_wp2
  go_ret
  exact ⟨rfl, xx⟩
 have hnb : (n != m) = false := by rw [bne, hnm]; rfl
 have HT : Hid (∀ b : Bool, (true && b) = b) := fun b => by cases b <;> rfl
 by_cases hl : xs.length = ys.length
 ·obtain ⟨l, hxl⟩ : ∃ l, xs.length = l := ⟨_, rfl⟩
  have hyl : ys.length = l := by omega
  rw [hxl] at h hn
  rw [hyl] at h' hm
  rw [hxl, hyl]
  have HXL := Lib.hid hxl
  have HYL := Lib.hid hyl
  clear hl hxl hyl
  go_enter Tryz.func10, Tryz.ntmps10
  go_wp2
  have HX : Hid (Ext w ((w.alloc (.cells #[.int .i64 n, .slice A l c] 31)).alloc (.cells #[.int .i64 m, .slice B l d] 31))) := xx
  have B1 : Blk ((w.alloc (.cells #[.int .i64 n, .slice A l c] 31)).alloc (.cells #[.int .i64 m, .slice B l d] 31)) w.heap.size 31 #[.int .i64 n, .slice A l c] := (Blk.new w _ _).alloc _
  have B2 : Blk ((w.alloc (.cells #[.int .i64 n, .slice A l c] 31)).alloc (.cells #[.int .i64 m, .slice B l d] 31)) (w.heap.size + 1) 31 #[.int .i64 m, .slice B l d] := Blk.newAt (by simp)
  generalize ((w.alloc (.cells #[.int .i64 n, .slice A l c] 31)).alloc (.cells #[.int .i64 m, .slice B l d] 31)) = w2 at *
  obtain ⟨⟨b0, b1⟩, -⟩ := blkT2 B1
  obtain ⟨⟨c0, c1⟩, -⟩ := blkT2 B2
  have h2 := h.up HX.out (Nat.le_refl _)
  have h2' := h'.up HX.out (Nat.le_refl _)
  clear B1 B2 h h'
  go_loopw [5] (fun i wr => ∃ k : Nat, k ≤ l ∧ i = .int .i64 k ∧ Hid (eqL eqP (xs.take k) (ys.take k) = true) ∧ ∃ q, wr = w2.drewN q) (fun i _ => l - (intOf i).toNat)
  case atStart => exact ⟨0, Nat.zero_le _, rfl, by simp [Hid, eqL], 0, rfl⟩
  case round =>
   obtain ⟨k, hk, rfl, HQ, q, rfl⟩ := hrel
   by_cases hlt : k < l
   ·obtain ⟨b, o, g, rfl, hb, hg, x0, x1, x2, x3⟩ := pauli_at h2 hlt
    obtain ⟨b', o', g', rfl, hb', hg', y0, y1, y2, y3⟩ := pauli_at h2' hlt
    have HG := Lib.hid hg
    have HG' := Lib.hid hg'
    clear hg hg'
    cases hq : eqP g g'
    ·have HF := Lib.hid (eqL_false eqP HG.out HG'.out hq)
     have HN := (show ∀ w, (Op.equalIn 10000 66 g.val g'.val).run Tryz.prog w = .ok false w from fun w => by rw [eqIn_pauli, hq])
     have HE := Tryz.eqgPauli
     go_wp2
     go_quiet (fail)
     go_wp2
     go_ret
     have HXX := HX.out
     exact ⟨ret_bool (by rw [HF.out]; rfl), xx⟩
    ·have HN := (show ∀ w, (Op.equalIn 10000 66 g.val g'.val).run Tryz.prog w = .ok true w from fun w => by rw [eqIn_pauli, hq])
     have HE := Tryz.eqgPauli
     go_wp2
     go_quiet (fail)
     go_wp2
     go_roundw
     case rel => exact ⟨k + 1, by omega, by go_num, by unfold Hid; rw [eqL_snoc _ HG.out HG'.out, HQ.out, hq]; rfl, _, rfl⟩
     case measure => simp [intOf]; omega
   ·have : k = l := by omega
    subst this
    rw [List.take_of_length_le (by rw [HXL.out]; omega), List.take_of_length_le (by rw [HYL.out]; omega)] at HQ
    go_wp2
    go_ret
    have HXX := HX.out
    exact ⟨ret_bool (by rw [HQ.out]; rfl), xx⟩
 ·have hl' : ((xs.length : Int) != (ys.length : Int)) = true := by rw [bne_iff_ne]; omega
  have HF := Lib.hid (eqL_len eqP xs ys hl)
  clear hl
  go_enter Tryz.func10, Tryz.ntmps10
  go_wp2
  go_ret
  exact ⟨ret_bool (by rw [HF.out]; rfl), xx⟩
set_option maxRecDepth 100000 in
set_option maxHeartbeats 4000000 in
theorem impl_EqualTableau_any (A B : Option Addr) (c d : Nat) (n m : Int) (xs ys : List Pa) (w : World) (h : Rd w w.heap.size 4 A xs.length (pcells xs)) (h' : Rd w w.heap.size 4 B ys.length (pcells ys)) (hn : xs.length ≤ 100000000) (hm : ys.length ≤ 100000000) :
  Calls Tryz.prog 29 #[.agg #[.int .i64 n, .slice A xs.length c], .agg #[.int .i64 m, .slice B ys.length d]] w fun e w' => e = .returned (.bool (n == m && eqL eqP xs ys)) ∧ Ext w w' := by
 cases hnm : (n == m)
 ·have hnb : (n != m) = true := by rw [bne, hnm]; rfl
  go_enter Tryz.func29, Tryz.ntmps29
  go_wp2
  go_ret
  exact ⟨rfl, xx⟩
 have hnb : (n != m) = false := by rw [bne, hnm]; rfl
 have HT : Hid (∀ b : Bool, (true && b) = b) := fun b => by cases b <;> rfl
 go_enter Tryz.func29, Tryz.ntmps29
 go_wp2_with fail
 refine (samePauli_any A B xs.length ys.length c d xs ys _ (h.ext xx) (h'.ext xx) hn hm).mono ?_
 rintro e w1 ⟨rfl, hx1⟩
 have HX1 : Hid (Ext w w1) := Ext.trans (by exact xx) hx1
 clear hx1
 go_wp2
 go_ret
 exact ⟨rfl, HX1.out⟩
/-- A circuit's validity. -/
def vCi (n : Int) (gs : List Gt) : Bool := decide (1 ≤ n) && decide (n ≤ 4) && decide (gs.length ≤ 60) && gs.all (fun g => vg g n)
theorem vCi_bad {n : Int} {gs : List Gt} {k : Nat} {g : Gt} (h : gs[k]? = some g) (hg : vg g n = false) : vCi n gs = false := by
 unfold vCi
 have : gs.all (fun g => vg g n) = false := by
  rw [List.all_eq_false]
  exact ⟨g, List.mem_of_getElem? h, by simp [hg]⟩
 rw [this, Bool.and_false]
theorem allT_snoc {α : Type} (f : α → Bool) {xs : List α} {k : Nat} {x : α} (h : xs[k]? = some x) (ha : (xs.take k).all f = true) (hx : f x = true) : (xs.take (k + 1)).all f = true := by
 rw [List.take_add_one, h, List.all_append, ha]
 simp [hx]
theorem vCi_good {n : Int} {gs : List Gt} (h : (gs.take gs.length).all (fun g => vg g n) = true) (h1 : 1 ≤ n) (h4 : n ≤ 4) (hl : gs.length ≤ 60) : vCi n gs = true := by
 rw [List.take_length] at h
 unfold vCi
 simp [h, h1, h4, hl]
theorem vCi_n {n : Int} {gs : List Gt} (h : n < 1 ∨ 4 < n) : vCi n gs = false := by
 unfold vCi
 rcases h with h | h
 ·rw [decide_eq_false (by omega : ¬ 1 ≤ n)]; simp
 ·rw [decide_eq_false (by omega : ¬ n ≤ 4)]; simp
theorem vCi_l {n : Int} {gs : List Gt} (h : 60 < gs.length) : vCi n gs = false := by
 unfold vCi
 rw [decide_eq_false (by omega : ¬ gs.length ≤ 60)]; simp
set_option maxRecDepth 100000 in
set_option maxHeartbeats 4000000 in
theorem spec_IsValidCircuit_any (A : Option Addr) (c : Nat) (n : Int) (gs : List Gt) (w : World) (h : Rd w w.heap.size 4 A gs.length (gcells gs)) (hl : gs.length ≤ 100000000) :
  Calls Tryz.prog 21 #[.agg #[.int .i64 n, .slice A gs.length c]] w fun e w' => e = .returned (.bool (vCi n gs)) ∧ Ext w w' := by
 obtain ⟨l, hgl⟩ : ∃ l, gs.length = l := ⟨_, rfl⟩
 rw [hgl] at h hl
 rw [hgl]
 have HL := Lib.hid hgl
 clear hgl
 go_enter Tryz.func21, Tryz.ntmps21
 go_wp2
 have HX : Hid (Ext w (w.alloc (.cells #[.int .i64 n, .slice A l c] 26))) := xx
 have HB : Hid (Blk (w.alloc (.cells #[.int .i64 n, .slice A l c] 26)) w.heap.size 26 #[.int .i64 n, .slice A l c]) := Blk.new w _ _
 generalize (w.alloc (.cells #[.int .i64 n, .slice A l c] 26)) = w1 at *
 go_loopw [3] (fun i wr => ∃ k : Nat, k ≤ l ∧ i = .int .i64 k ∧ Hid ((gs.take k).all (fun g => vg g n) = true) ∧ Hid (Blk wr w.heap.size 26 #[.int .i64 n, .slice A l c] ∧ Ext w wr)) (fun i _ => l - (intOf i).toNat)
 case atStart => exact ⟨0, Nat.zero_le _, rfl, by simp [Hid], ⟨HB.out, HX.out⟩⟩
 case round =>
  obtain ⟨k, hk, rfl, HQ, HW⟩ := hrel
  clear HB HX
  by_cases hlt : k < l
  ·obtain ⟨b, o, g, rfl, hb, hg, -⟩ := gate_at h hlt
   have HG := Lib.hid hg
   have HK : Hid (∀ w', Ext wr w' → (w'.cell? ⟨w.heap.size, 0, none⟩ = some (.int .i64 n) ∧ w'.cell? ⟨w.heap.size, 1, none⟩ = some (.slice (some ⟨b, o, none⟩) l c)) ∧ (w'.cell? ⟨b, o + k * 4, none⟩ = some (.int .i64 g.k) ∧ w'.cell? ⟨b, o + k * 4 + 1, none⟩ = some (.int .i64 g.a) ∧ w'.cell? ⟨b, o + k * 4 + 2, none⟩ = some (.int .i64 g.b) ∧ w'.cell? ⟨b, o + k * 4 + 3, none⟩ = some (.int .i64 g.c))) := fun w' hx => by
    obtain ⟨b2, o2, g2, he, -, hg2, x0, x1, x2, x3⟩ := gate_at (h.up (HW.out.2.trans hx) (Nat.le_refl _)) hlt
    simp only [Option.some.injEq, Addr.mk.injEq] at he
    obtain ⟨rfl, rfl, -⟩ := he
    rw [hg] at hg2
    obtain rfl := Option.some.inj hg2
    exact ⟨(blkT2 (HW.out.1.ext hx)).1, x0, x1, x2, x3⟩
   have HWE : Hid (∀ w', Ext wr w' → Blk w' w.heap.size 26 #[.int .i64 n, .slice (some ⟨b, o, none⟩) l c] ∧ Ext w w') := fun w' hx => ⟨HW.out.1.ext hx, HW.out.2.trans hx⟩
   clear hg
   obtain ⟨⟨b0, b1⟩, x0, x1, x2, x3⟩ := HK.out wr (Ext.refl _)
   cases hv : vg g n
   ·have HV : Hid (∀ w', Calls Tryz.prog 41 #[.agg #[.int .i64 g.k, .int .i64 g.a, .int .i64 g.b, .int .i64 g.c], .int .i64 n] w' fun e w'' => e = .returned (.bool false) ∧ Ext w' w'') := fun w' => by rw [← hv]; exact spec_IsValidGate_any g n w'
    have HF := Lib.hid (vCi_bad HG.out hv)
    clear hv
    go_upto_region 4 with (fail)
    go_region_held3 (fun w' => (w'.cell? ⟨w.heap.size, 0, none⟩ = some (.int .i64 n) ∧ w'.cell? ⟨w.heap.size, 1, none⟩ = some (.slice (some ⟨b, o, none⟩) l c)) ∧ (w'.cell? ⟨b, o + k * 4, none⟩ = some (.int .i64 g.k) ∧ w'.cell? ⟨b, o + k * 4 + 1, none⟩ = some (.int .i64 g.a) ∧ w'.cell? ⟨b, o + k * 4 + 2, none⟩ = some (.int .i64 g.b) ∧ w'.cell? ⟨b, o + k * 4 + 3, none⟩ = some (.int .i64 g.c)))
     (first | (go_keep; done) | (refine HK.out _ ?_; first | assumption | exact (Ext.refl _).drew))
     (first | (go_at_call 41; (with_reducible refine (HV.out _).mono ?_); rintro e w5 ⟨rfl, hy5⟩; replace hy5 : Ext wr w5 := Ext.trans (Ext.refl wr).drew hy5))
    all_goals
     go_wp2
     go_ret
     exact ⟨ret_bool HF.out.symm, (HWE.out _ hy5).2⟩
   ·have HV : Hid (∀ w', Calls Tryz.prog 41 #[.agg #[.int .i64 g.k, .int .i64 g.a, .int .i64 g.b, .int .i64 g.c], .int .i64 n] w' fun e w'' => e = .returned (.bool true) ∧ Ext w' w'') := fun w' => by rw [← hv]; exact spec_IsValidGate_any g n w'
    have HA := Lib.hid (allT_snoc (fun g => vg g n) HG.out HQ.out hv)
    clear hv
    go_upto_region 4 with (fail)
    go_region_held3 (fun w' => (w'.cell? ⟨w.heap.size, 0, none⟩ = some (.int .i64 n) ∧ w'.cell? ⟨w.heap.size, 1, none⟩ = some (.slice (some ⟨b, o, none⟩) l c)) ∧ (w'.cell? ⟨b, o + k * 4, none⟩ = some (.int .i64 g.k) ∧ w'.cell? ⟨b, o + k * 4 + 1, none⟩ = some (.int .i64 g.a) ∧ w'.cell? ⟨b, o + k * 4 + 2, none⟩ = some (.int .i64 g.b) ∧ w'.cell? ⟨b, o + k * 4 + 3, none⟩ = some (.int .i64 g.c)))
     (first | (go_keep; done) | (refine HK.out _ ?_; first | assumption | exact (Ext.refl _).drew))
     (first | (go_at_call 41; (with_reducible refine (HV.out _).mono ?_); rintro e w5 ⟨rfl, hy5⟩; replace hy5 : Ext wr w5 := Ext.trans (Ext.refl wr).drew hy5))
    all_goals
     go_wp2
     go_roundw
     case rel => exact ⟨k + 1, by omega, by go_num, HA, HWE.out _ hy5⟩
     case measure => simp [intOf]; omega
  ·have hkl : k = l := by omega
   subst hkl
   obtain ⟨⟨b0, b1⟩, -⟩ := blkT2 HW.out.1
   by_cases hn : n < 1 ∨ 4 < n
   ·have HN := Lib.hid hn
    have HF := Lib.hid (vCi_n (gs := gs) hn)
    clear hn hlt
    go_wp2_with fail
    refine (l1In_no _ _ _ _ HN.out).mono ?_
    rintro e w5 ⟨rfl, rfl⟩
    go_wp2
    go_ret
    exact ⟨ret_bool HF.out.symm, HW.out.2⟩
   ·have hn1 : 1 ≤ n := by omega
    have hn4 : n ≤ 4 := by omega
    clear hn hlt
    by_cases h60 : k ≤ 60
    ·have HT := Lib.hid (vCi_good (gs := gs) (n := n) (by rw [HL.out]; exact HQ.out) hn1 hn4 (by rw [HL.out]; exact h60))
     have hd : (k : Int) ≤ 60 := by omega
     go_wp2_with fail
     refine (l1In_yes _ _ _ _ hn1 hn4).mono ?_
     rintro e w5 ⟨rfl, rfl⟩
     go_wp2
     go_ret
     exact ⟨ret_bool HT.out.symm, HW.out.2⟩
    ·have HF := Lib.hid (vCi_l (gs := gs) (n := n) (by rw [HL.out]; omega))
     have hd : ¬ (k : Int) ≤ 60 := by omega
     go_wp2_with fail
     refine (l1In_yes _ _ _ _ hn1 hn4).mono ?_
     rintro e w5 ⟨rfl, rfl⟩
     go_wp2
     go_ret
     exact ⟨ret_bool (by rw [HF.out]; exact decide_eq_false (by omega)), HW.out.2⟩
set_option maxRecDepth 100000 in
set_option maxHeartbeats 4000000 in
theorem impl_IsValidCircuit_any (A : Option Addr) (c : Nat) (n : Int) (gs : List Gt) (w : World) (h : Rd w w.heap.size 4 A gs.length (gcells gs)) (hl : gs.length ≤ 100000000) :
  Calls Tryz.prog 18 #[.agg #[.int .i64 n, .slice A gs.length c]] w fun e w' => e = .returned (.bool (vCi n gs)) ∧ Ext w w' := by
 obtain ⟨l, hgl⟩ : ∃ l, gs.length = l := ⟨_, rfl⟩
 rw [hgl] at h hl
 rw [hgl]
 have HL := Lib.hid hgl
 clear hgl
 by_cases hn : n < 1 ∨ 4 < n
 ·have HN := Lib.hid hn
  have HF := Lib.hid (vCi_n (gs := gs) hn)
  clear hn
  go_enter Tryz.func18, Tryz.ntmps18
  go_wp2_with fail
  refine (in_no _ _ _ _ HN.out).mono ?_
  rintro e w5 ⟨rfl, rfl⟩
  go_wp2
  go_ret
  exact ⟨ret_bool HF.out.symm, xx⟩
 have hn1 : 1 ≤ n := by omega
 have hn4 : n ≤ 4 := by omega
 clear hn
 by_cases h60 : 60 < l
 ·have HF := Lib.hid (vCi_l (gs := gs) (n := n) (by rw [HL.out]; exact h60))
  have hd : (60 : Int) < (l : Int) := by omega
  have hd2 : (l : Int) > 60 := by omega
  go_enter Tryz.func18, Tryz.ntmps18
  go_wp2_with fail
  refine (in_yes _ _ _ _ hn1 hn4).mono ?_
  rintro e w5 ⟨rfl, rfl⟩
  go_wp2
  go_ret
  exact ⟨ret_bool HF.out.symm, xx⟩
 have hd : ¬ (60 : Int) < (l : Int) := by omega
 have h60' : l ≤ 60 := by omega
 clear h60
 go_enter Tryz.func18, Tryz.ntmps18
 go_wp2_with fail
 refine (in_yes _ _ _ _ hn1 hn4).mono ?_
 rintro e w5 ⟨rfl, rfl⟩
 go_wp2
 have HX : Hid (Ext w (w.alloc (.cells #[.int .i64 n, .slice A l c] 26))) := xx
 have HB : Hid (Blk (w.alloc (.cells #[.int .i64 n, .slice A l c] 26)) w.heap.size 26 #[.int .i64 n, .slice A l c]) := Blk.new w _ _
 generalize (w.alloc (.cells #[.int .i64 n, .slice A l c] 26)) = w1 at *
 clear hd
 go_loopw [18] (fun i wr => ∃ k : Nat, k ≤ l ∧ i = .int .i64 k ∧ Hid ((gs.take k).all (fun g => vg g n) = true) ∧ Hid (Blk wr w.heap.size 26 #[.int .i64 n, .slice A l c] ∧ Ext w wr)) (fun i _ => l - (intOf i).toNat)
 case atStart => exact ⟨0, Nat.zero_le _, rfl, by simp [Hid], ⟨HB.out, HX.out⟩⟩
 case round =>
  obtain ⟨k, hk, rfl, HQ, HW⟩ := hrel
  clear HB HX
  by_cases hlt : k < l
  ·obtain ⟨b, o, g, rfl, hb, hg, x0, x1, x2, x3⟩ := gate_at (h.up HW.out.2 (Nat.le_refl _)) hlt
   have HG := Lib.hid hg
   clear hg
   go_upto_region 6 with (fail)
   have HW2 : Hid (Blk (wr.alloc (.cells #[.int .i64 g.k, .int .i64 g.a, .int .i64 g.b, .int .i64 g.c] 52)) w.heap.size 26 #[.int .i64 n, .slice (some ⟨b, o, none⟩) l c] ∧ Ext w (wr.alloc (.cells #[.int .i64 g.k, .int .i64 g.a, .int .i64 g.b, .int .i64 g.c] 52))) := ⟨HW.out.1.alloc _, HW.out.2.alloc _⟩
   have HG2 : Hid (Blk (wr.alloc (.cells #[.int .i64 g.k, .int .i64 g.a, .int .i64 g.b, .int .i64 g.c] 52)) wr.heap.size 52 #[.int .i64 g.k, .int .i64 g.a, .int .i64 g.b, .int .i64 g.c]) := Blk.new _ _ _
   generalize wr.alloc (.cells #[.int .i64 g.k, .int .i64 g.a, .int .i64 g.b, .int .i64 g.c] 52) = w2 at *
   generalize wr.heap.size = q at *
   clear x0 x1 x2 x3 HW
   obtain ⟨⟨b0, b1⟩, -⟩ := blkT2 HW2.out.1
   obtain ⟨⟨x0, x1, x2, x3⟩, -⟩ := cells4 HG2.out
   cases hv : vg g n
   ·have HF := Lib.hid (vCi_bad HG.out hv)
    go_wp2_with fail
    refine (impl_IsValidGate_any g n _).mono ?_
    rintro e w5 ⟨rfl, hy5⟩
    rw [hv]
    clear hv
    go_wp2
    go_ret
    exact ⟨ret_bool HF.out.symm, HW2.out.2.trans hy5⟩
   ·have HA := Lib.hid (allT_snoc (fun g => vg g n) HG.out HQ.out hv)
    go_wp2_with fail
    refine (impl_IsValidGate_any g n _).mono ?_
    rintro e w5 ⟨rfl, hy5⟩
    rw [hv]
    clear hv
    go_wp2
    go_roundw
    case rel => exact ⟨k + 1, by omega, by go_num, HA, Lib.hid ⟨HW2.out.1.ext hy5, HW2.out.2.trans hy5⟩⟩
    case measure => simp [intOf]; omega
  ·have hkl : k = l := by omega
   subst hkl
   have HT := Lib.hid (vCi_good (gs := gs) (n := n) (by rw [HL.out]; exact HQ.out) hn1 hn4 (by rw [HL.out]; exact h60'))
   go_wp2
   go_ret
   exact ⟨ret_bool HT.out.symm, HW.out.2⟩
end Go.Proofs.YtioimnplhmgbgaaGreat
