/-
 Helper text (no claim of its own): the branch at the start, and a gate of a branch, by the reference. Printed by gen_sic.py.
-/
import Derived.Test.YtdjckjfclhjpcaaGreatMLowLj
import Derived.Test.YtdjckjfclhjpcaaGreatMLowLa
import Derived.Test.YtdjckjfclhjpcaaGreatMLowLb
/-
 Helper text (no claim of its own): states at the start, and the half of a state where a qubit is read, by the reference. Printed by gen_sia.py.
-/
namespace Go.Proofs.YtdjckjfclhjpcaaGreat
open Go.ChangeShapes Go.WideShapes Go.ChangeAt Go.RowKit Go.Deep
set_option linter.unusedVariables false
set_option linter.unusedSimpArgs false
set_option maxRecDepth 100000 in
set_option maxHeartbeats 8000000 in
theorem BasisStateT_1 (i : Nat) (hi : i < 2) (w : World) : Calls Tryz.prog 42 #[.int .i64 1, .int .i64 i] w fun e w' => (∃ v, e = .returned v ∧ TOut 2 (basis 1 i) v w') ∧ Ext w w' := by
 have hmk : ∀ w : World, (Instr.makeSlice 66 (.int .i64 2) (.int .i64 2)).run Tryz.prog w = .ok (.slice (some ⟨w.heap.size, 0, none⟩) 2 2) (w.alloc (.cells #[.int .i64 0, .int .i64 0, .int .i64 0, .int .i64 0, .int .i64 0, .int .i64 0, .int .i64 0, .int .i64 0, .int .i64 0, .int .i64 0] 91)) := fun _ => by kernel_rfl
 have hi0 : (0 : Int) ≤ (i : Int) := by omega
 have hi1 : (i : Int) ≤ 1 := by omega
 go_enter Tryz.func42, Tryz.ntmps42
 go_wp2_with fail
 refine (l1In_yes _ _ _ _ (by decide) (by decide)).mono ?_
 rintro e w' ⟨rfl, rfl⟩
 go_wp2_with fail
 refine (l1In_yes _ _ _ _ hi0 hi1).mono ?_
 rintro e w' ⟨rfl, rfl⟩
 go_wp2_with fail
 refine (OneDOmega_any _).mono ?_
 rintro e w2 ⟨rfl, hx2⟩
 have HS : Hid (SB w2 w.heap.size (List.replicate 2 d0)) := SB.ext ⟨_, Blk.new w _ _, rfl⟩ hx2
 have HE : Hid (Ext w w2) := Ext.trans (by exact xx) hx2
 clear hx2 hmk
 obtain ⟨⟨c0, c1, c2, c3, c4⟩, f0, f1, f2, f3, f4⟩ := HS.out.at_ (i := i) (x := d0) (by rw [List.getElem?_replicate, if_pos hi])
 go_wp2
 have HS2 : Hid (SB (put5at w2 w.heap.size i (ph 0)) w.heap.size (basis 1 i)) := HS.out.put (by simpa using hi) (ph 0)
 have HE2 : Hid (Ext w (put5at w2 w.heap.size i (ph 0))) := ext_put5at HE.out (Nat.le_refl _) i (ph 0)
 go_ret
 exact ⟨⟨_, rfl, SB.tout HS2.out 2 2 (by simp [basis])⟩, HE2.out⟩
set_option maxRecDepth 100000 in
set_option maxHeartbeats 8000000 in
theorem BasisStateT_2 (i : Nat) (hi : i < 4) (w : World) : Calls Tryz.prog 42 #[.int .i64 2, .int .i64 i] w fun e w' => (∃ v, e = .returned v ∧ TOut 4 (basis 2 i) v w') ∧ Ext w w' := by
 have hmk : ∀ w : World, (Instr.makeSlice 66 (.int .i64 4) (.int .i64 4)).run Tryz.prog w = .ok (.slice (some ⟨w.heap.size, 0, none⟩) 4 4) (w.alloc (.cells #[.int .i64 0, .int .i64 0, .int .i64 0, .int .i64 0, .int .i64 0, .int .i64 0, .int .i64 0, .int .i64 0, .int .i64 0, .int .i64 0, .int .i64 0, .int .i64 0, .int .i64 0, .int .i64 0, .int .i64 0, .int .i64 0, .int .i64 0, .int .i64 0, .int .i64 0, .int .i64 0] 91)) := fun _ => by kernel_rfl
 have hi0 : (0 : Int) ≤ (i : Int) := by omega
 have hi1 : (i : Int) ≤ 3 := by omega
 go_enter Tryz.func42, Tryz.ntmps42
 go_wp2_with fail
 refine (l1In_yes _ _ _ _ (by decide) (by decide)).mono ?_
 rintro e w' ⟨rfl, rfl⟩
 go_wp2_with fail
 refine (l1In_yes _ _ _ _ hi0 hi1).mono ?_
 rintro e w' ⟨rfl, rfl⟩
 go_wp2_with fail
 refine (OneDOmega_any _).mono ?_
 rintro e w2 ⟨rfl, hx2⟩
 have HS : Hid (SB w2 w.heap.size (List.replicate 4 d0)) := SB.ext ⟨_, Blk.new w _ _, rfl⟩ hx2
 have HE : Hid (Ext w w2) := Ext.trans (by exact xx) hx2
 clear hx2 hmk
 obtain ⟨⟨c0, c1, c2, c3, c4⟩, f0, f1, f2, f3, f4⟩ := HS.out.at_ (i := i) (x := d0) (by rw [List.getElem?_replicate, if_pos hi])
 go_wp2
 have HS2 : Hid (SB (put5at w2 w.heap.size i (ph 0)) w.heap.size (basis 2 i)) := HS.out.put (by simpa using hi) (ph 0)
 have HE2 : Hid (Ext w (put5at w2 w.heap.size i (ph 0))) := ext_put5at HE.out (Nat.le_refl _) i (ph 0)
 go_ret
 exact ⟨⟨_, rfl, SB.tout HS2.out 4 4 (by simp [basis])⟩, HE2.out⟩
set_option maxRecDepth 100000 in
set_option maxHeartbeats 8000000 in
theorem BasisStateT_3 (i : Nat) (hi : i < 8) (w : World) : Calls Tryz.prog 42 #[.int .i64 3, .int .i64 i] w fun e w' => (∃ v, e = .returned v ∧ TOut 8 (basis 3 i) v w') ∧ Ext w w' := by
 have hmk : ∀ w : World, (Instr.makeSlice 66 (.int .i64 8) (.int .i64 8)).run Tryz.prog w = .ok (.slice (some ⟨w.heap.size, 0, none⟩) 8 8) (w.alloc (.cells #[.int .i64 0, .int .i64 0, .int .i64 0, .int .i64 0, .int .i64 0, .int .i64 0, .int .i64 0, .int .i64 0, .int .i64 0, .int .i64 0, .int .i64 0, .int .i64 0, .int .i64 0, .int .i64 0, .int .i64 0, .int .i64 0, .int .i64 0, .int .i64 0, .int .i64 0, .int .i64 0, .int .i64 0, .int .i64 0, .int .i64 0, .int .i64 0, .int .i64 0, .int .i64 0, .int .i64 0, .int .i64 0, .int .i64 0, .int .i64 0, .int .i64 0, .int .i64 0, .int .i64 0, .int .i64 0, .int .i64 0, .int .i64 0, .int .i64 0, .int .i64 0, .int .i64 0, .int .i64 0] 91)) := fun _ => by kernel_rfl
 have hi0 : (0 : Int) ≤ (i : Int) := by omega
 have hi1 : (i : Int) ≤ 7 := by omega
 go_enter Tryz.func42, Tryz.ntmps42
 go_wp2_with fail
 refine (l1In_yes _ _ _ _ (by decide) (by decide)).mono ?_
 rintro e w' ⟨rfl, rfl⟩
 go_wp2_with fail
 refine (l1In_yes _ _ _ _ hi0 hi1).mono ?_
 rintro e w' ⟨rfl, rfl⟩
 go_wp2_with fail
 refine (OneDOmega_any _).mono ?_
 rintro e w2 ⟨rfl, hx2⟩
 have HS : Hid (SB w2 w.heap.size (List.replicate 8 d0)) := SB.ext ⟨_, Blk.new w _ _, rfl⟩ hx2
 have HE : Hid (Ext w w2) := Ext.trans (by exact xx) hx2
 clear hx2 hmk
 obtain ⟨⟨c0, c1, c2, c3, c4⟩, f0, f1, f2, f3, f4⟩ := HS.out.at_ (i := i) (x := d0) (by rw [List.getElem?_replicate, if_pos hi])
 go_wp2
 have HS2 : Hid (SB (put5at w2 w.heap.size i (ph 0)) w.heap.size (basis 3 i)) := HS.out.put (by simpa using hi) (ph 0)
 have HE2 : Hid (Ext w (put5at w2 w.heap.size i (ph 0))) := ext_put5at HE.out (Nat.le_refl _) i (ph 0)
 go_ret
 exact ⟨⟨_, rfl, SB.tout HS2.out 8 8 (by simp [basis])⟩, HE2.out⟩
set_option maxRecDepth 100000 in
set_option maxHeartbeats 8000000 in
theorem BasisStateT_4 (i : Nat) (hi : i < 16) (w : World) : Calls Tryz.prog 42 #[.int .i64 4, .int .i64 i] w fun e w' => (∃ v, e = .returned v ∧ TOut 16 (basis 4 i) v w') ∧ Ext w w' := by
 have hmk : ∀ w : World, (Instr.makeSlice 66 (.int .i64 16) (.int .i64 16)).run Tryz.prog w = .ok (.slice (some ⟨w.heap.size, 0, none⟩) 16 16) (w.alloc (.cells #[.int .i64 0, .int .i64 0, .int .i64 0, .int .i64 0, .int .i64 0, .int .i64 0, .int .i64 0, .int .i64 0, .int .i64 0, .int .i64 0, .int .i64 0, .int .i64 0, .int .i64 0, .int .i64 0, .int .i64 0, .int .i64 0, .int .i64 0, .int .i64 0, .int .i64 0, .int .i64 0, .int .i64 0, .int .i64 0, .int .i64 0, .int .i64 0, .int .i64 0, .int .i64 0, .int .i64 0, .int .i64 0, .int .i64 0, .int .i64 0, .int .i64 0, .int .i64 0, .int .i64 0, .int .i64 0, .int .i64 0, .int .i64 0, .int .i64 0, .int .i64 0, .int .i64 0, .int .i64 0, .int .i64 0, .int .i64 0, .int .i64 0, .int .i64 0, .int .i64 0, .int .i64 0, .int .i64 0, .int .i64 0, .int .i64 0, .int .i64 0, .int .i64 0, .int .i64 0, .int .i64 0, .int .i64 0, .int .i64 0, .int .i64 0, .int .i64 0, .int .i64 0, .int .i64 0, .int .i64 0, .int .i64 0, .int .i64 0, .int .i64 0, .int .i64 0, .int .i64 0, .int .i64 0, .int .i64 0, .int .i64 0, .int .i64 0, .int .i64 0, .int .i64 0, .int .i64 0, .int .i64 0, .int .i64 0, .int .i64 0, .int .i64 0, .int .i64 0, .int .i64 0, .int .i64 0, .int .i64 0] 91)) := fun _ => by kernel_rfl
 have hi0 : (0 : Int) ≤ (i : Int) := by omega
 have hi1 : (i : Int) ≤ 15 := by omega
 go_enter Tryz.func42, Tryz.ntmps42
 go_wp2_with fail
 refine (l1In_yes _ _ _ _ (by decide) (by decide)).mono ?_
 rintro e w' ⟨rfl, rfl⟩
 go_wp2_with fail
 refine (l1In_yes _ _ _ _ hi0 hi1).mono ?_
 rintro e w' ⟨rfl, rfl⟩
 go_wp2_with fail
 refine (OneDOmega_any _).mono ?_
 rintro e w2 ⟨rfl, hx2⟩
 have HS : Hid (SB w2 w.heap.size (List.replicate 16 d0)) := SB.ext ⟨_, Blk.new w _ _, rfl⟩ hx2
 have HE : Hid (Ext w w2) := Ext.trans (by exact xx) hx2
 clear hx2 hmk
 obtain ⟨⟨c0, c1, c2, c3, c4⟩, f0, f1, f2, f3, f4⟩ := HS.out.at_ (i := i) (x := d0) (by rw [List.getElem?_replicate, if_pos hi])
 go_wp2
 have HS2 : Hid (SB (put5at w2 w.heap.size i (ph 0)) w.heap.size (basis 4 i)) := HS.out.put (by simpa using hi) (ph 0)
 have HE2 : Hid (Ext w (put5at w2 w.heap.size i (ph 0))) := ext_put5at HE.out (Nat.le_refl _) i (ph 0)
 go_ret
 exact ⟨⟨_, rfl, SB.tout HS2.out 16 16 (by simp [basis])⟩, HE2.out⟩
theorem BasisState_t {n : Nat} (h1 : 1 ≤ n) (h4 : n ≤ 4) (i : Nat) (hi : i < 2 ^ n) (w : World) : Calls Tryz.prog 42 #[.int .i64 n, .int .i64 i] w fun e w' => (∃ v, e = .returned v ∧ TOut (2 ^ n) (basis n i) v w') ∧ Ext w w' := by
 rcases (show n = 1 ∨ n = 2 ∨ n = 3 ∨ n = 4 by omega) with rfl | rfl | rfl | rfl
 ·exact BasisStateT_1 i hi w
 ·exact BasisStateT_2 i hi w
 ·exact BasisStateT_3 i hi w
 ·exact BasisStateT_4 i hi w
/-- The half of a state, up to place k. -/
def hlf (q one : Nat) (vs : List Dw) (k : Nat) : List Dw := (List.range vs.length).map fun i => if i < k ∧ bt i q = (one == 1) then vs.getD i d0 else d0
theorem hlf_len (q one : Nat) (vs : List Dw) (k : Nat) : (hlf q one vs k).length = vs.length := by unfold hlf; rw [List.length_map, List.length_range]
theorem hlf_at {q one : Nat} {vs : List Dw} {k i : Nat} (hi : i < vs.length) : (hlf q one vs k)[i]? = some (if i < k ∧ bt i q = (one == 1) then vs.getD i d0 else d0) := by
 unfold hlf
 rw [List.getElem?_map, List.getElem?_range hi]
 rfl
theorem hlf_0 (q one : Nat) (vs : List Dw) : hlf q one vs 0 = List.replicate vs.length d0 := by
 refine List.ext_getElem? fun i => ?_
 by_cases hi : i < vs.length
 ·rw [hlf_at hi, if_neg (by omega), List.getElem?_replicate, if_pos hi]
 ·rw [List.getElem?_eq_none (by rw [hlf_len]; omega), List.getElem?_eq_none (by rw [List.length_replicate]; omega)]
theorem hlf_all (q one : Nat) (vs : List Dw) : hlf q one vs vs.length = side q one vs := by
 unfold hlf side
 refine List.map_congr_left fun i hi => ?_
 rw [List.mem_range] at hi
 by_cases h : bt i q = (one == 1)
 ·rw [if_pos ⟨hi, h⟩, if_pos h]
 ·rw [if_neg (fun h' => h h'.2), if_neg h]
theorem hlf_skip {q one : Nat} {vs : List Dw} {k : Nat} (h : bt k q ≠ (one == 1)) : hlf q one vs (k + 1) = hlf q one vs k := by
 unfold hlf
 refine List.map_congr_left fun i _ => ?_
 by_cases hk : i = k
 ·subst hk; rw [if_neg (fun h' => h h'.2), if_neg (fun h' => h h'.2)]
 ·by_cases h' : i < k ∧ bt i q = (one == 1)
  ·rw [if_pos h', if_pos ⟨by omega, h'.2⟩]
  ·rw [if_neg h', if_neg (fun h2 => h' ⟨by omega, h2.2⟩)]
theorem hlf_put {q one : Nat} {vs : List Dw} {k : Nat} {x : Dw} (h : bt k q = (one == 1)) (hx : vs[k]? = some x) : hlf q one vs (k + 1) = (hlf q one vs k).set k x := by
 have hk : k < vs.length := List.getElem?_eq_some_iff.1 hx |>.1
 refine List.ext_getElem? fun i => ?_
 by_cases hi : i < vs.length
 ·rw [hlf_at hi]
  by_cases hik : i = k
  ·subst hik
   rw [List.getElem?_set_self (by rw [hlf_len]; exact hi), if_pos ⟨by omega, h⟩, List.getD_eq_getElem?_getD, hx]
   rfl
  ·rw [List.getElem?_set_ne (fun e => hik e.symm), hlf_at hi]
   by_cases h' : i < k ∧ bt i q = (one == 1)
   ·rw [if_pos h', if_pos ⟨by omega, h'.2⟩]
   ·rw [if_neg h', if_neg (fun h2 => h' ⟨by omega, h2.2⟩)]
 ·rw [List.getElem?_eq_none (by rw [hlf_len]; omega), List.getElem?_eq_none (by rw [List.length_set, hlf_len]; omega)]
/-- Was something met, up to place k? -/
def som (q one : Nat) (vs : List Dw) (k : Nat) : Bool := (List.range k).any fun i => (bt i q == (one == 1)) && !eqD (vs.getD i d0) d0
theorem som_succ (q one : Nat) (vs : List Dw) (k : Nat) : som q one vs (k + 1) = (som q one vs k || ((bt k q == (one == 1)) && !eqD (vs.getD k d0) d0)) := by
 unfold som
 rw [List.range_succ, List.any_append]
 simp
theorem som_skip {q one : Nat} {vs : List Dw} {k : Nat} (h : bt k q ≠ (one == 1)) : som q one vs (k + 1) = som q one vs k := by
 rw [som_succ, beq_eq_false_iff_ne.2 h, Bool.false_and, Bool.or_false]
theorem som_put {q one : Nat} {vs : List Dw} {k : Nat} {x : Dw} (h : bt k q = (one == 1)) (hx : vs[k]? = some x) : som q one vs (k + 1) = (som q one vs k || !eqD x d0) := by
 rw [som_succ, beq_iff_eq.2 h, Bool.true_and, List.getD_eq_getElem?_getD, hx]
 rfl
theorem som_all (q one : Nat) (vs : List Dw) : som q one vs vs.length = met q one vs := by
 unfold som met side
 rw [List.any_map]
 congr 1
 funext i
 show _ = !eqD (if bt i q = (one == 1) then vs.getD i d0 else d0) d0
 by_cases h : bt i q = (one == 1)
 ·rw [if_pos h, beq_iff_eq.2 h, Bool.true_and]
 ·rw [if_neg h, beq_eq_false_iff_ne.2 h, Bool.false_and, eqD_self]
  rfl
theorem chk_and0 : (List.range 16).all (fun i => (List.range 4).all fun q => (bits BinOp.and IntKind.i64 ((i : Int) / 2 ^ q) 1 == 0) == !bt i q) = true := by kernel_rfl
theorem and_b1 {i q one : Nat} (hi : i < 16) (hq : q < 4) (h1 : one < 2) : (bits BinOp.and IntKind.i64 ((i : Int) / 2 ^ q) 1 == (one : Int)) = (bt i q == (one == 1)) := by
 rcases (show one = 0 ∨ one = 1 by omega) with rfl | rfl
 ·have := beq_iff_eq.1 (of_chk chk_and0 hi hq)
  show (_ == (0 : Int)) = _
  rw [this]
  cases bt i q <;> rfl
 ·have := and_bt hi hq
  show (_ == (1 : Int)) = _
  rw [this]
  cases bt i q <;> rfl
set_option maxRecDepth 100000 in
set_option maxHeartbeats 8000000 in
theorem l23Side_any {n : Nat} (hn1 : 1 ≤ n) (hn4 : n ≤ 4) (A : Option Addr) (c : Nat) (vs : List Dw) (q one : Nat) (hq : q < 4) (h1 : one < 2) (w : World) (h : Rd w w.heap.size 5 A (2 ^ n) (scells vs)) (hl : vs.length = 2 ^ n) :
  Calls Tryz.prog 64 #[.slice A (2 ^ n) c, .int .i64 q, .int .i64 one] w fun e w' => (∃ v, e = .returned (.tuple #[v, .bool (met q one vs)]) ∧ TOut (2 ^ n) (side q one vs) v w') ∧ Ext w w' := by
 obtain ⟨cs0, hmk, hcs0⟩ := made_zero hn1 hn4
 have hl16 : 2 ^ n ≤ 16 := by rcases (show n = 1 ∨ n = 2 ∨ n = 3 ∨ n = 4 by omega) with rfl | rfl | rfl | rfl <;> decide
 have HSA : Hid (hlf q one vs vs.length = side q one vs ∧ som q one vs vs.length = met q one vs) := ⟨hlf_all q one vs, som_all q one vs⟩
 have HS0 : Hid (hlf q one vs 0 = List.replicate vs.length d0) := hlf_0 q one vs
 rw [hl] at HSA HS0
 clear hn1 hn4
 generalize 2 ^ n = l at *
 go_enter Tryz.func64, Tryz.ntmps64
 go_upto_region 2 with (fail)
 have HSB : Hid (SB (w.alloc (.cells cs0 91)) w.heap.size (hlf q one vs 0)) := by unfold Hid; rw [HS0.out]; exact ⟨cs0, Blk.new _ _ _, hcs0⟩
 have HX0 : Hid (Ext w (w.alloc (.cells cs0 91))) := (Ext.refl w).alloc _
 clear hmk hcs0 HS0
 generalize w.alloc (.cells cs0 91) = w0 at *
 obtain ⟨bo, hbo⟩ : ∃ bo, w.heap.size = bo := ⟨_, rfl⟩
 have HBO : Hid (w.heap.size ≤ bo) := Nat.le_of_eq hbo
 rw [hbo] at HSB ⊢
 clear hbo
 have HLV := Lib.hid hl
 clear hl
 go_wp2
 go_loopw [9, 10] (fun sv iv wr => ∃ i : Nat, iv = .int .i64 i ∧ i ≤ l ∧ sv = .bool (som q one vs i) ∧ Hid (SB wr bo (hlf q one vs i)) ∧ Hid (Ext w wr)) (fun _ i _ => l - (intOf i).toNat)
 case atStart => exact ⟨0, rfl, Nat.zero_le _, rfl, HSB, HX0⟩
 case round =>
  obtain ⟨i, rfl, hi, rfl, HSBi, HXi⟩ := hrel
  clear HSB HX0
  by_cases hlt : i < l
  ·have HIT : Hid (i < l ∧ l ≤ 16) := ⟨hlt, hl16⟩
   have hi1 : IntKind.i64.wrap ((i : Int) + 1) = ((i + 1 : Nat) : Int) := by rw [IntWalk.i64_in _ (by omega)]; rfl
   have hi2 : wrap64 ((i : Int) + 1) = ((i + 1 : Nat) : Int) := by unfold wrap64; omega
   have hab := and_b1 (i := i) (by omega) hq h1
   obtain ⟨b, oo, x, rfl, hb, hx, x0, x1, x2, x3, x4⟩ := dw_at (h.up HXi.out (Nat.le_refl _)) hlt
   have HX := Lib.hid hx
   have hne : b ≠ bo := by have := HBO.out; omega
   have hne' : bo ≠ b := fun e => hne e.symm
   clear hx hb
   cases hc : (bt i q == (one == 1)) with
   | false =>
    rw [hc] at hab
    have HC : Hid (bt i q ≠ (one == 1)) := beq_eq_false_iff_ne.1 hc
    clear hc x0 x1 x2 x3 x4
    go_wp2
    go_roundw
    case rel => exact ⟨i + 1, by first | rfl | rw [hi1] | rw [hi2], by have := HIT.out; omega, by rw [som_skip HC.out], by rw [hlf_skip HC.out]; exact HSBi, HXi⟩
    case measure => simp [intOf, hi2]; have := HIT.out; omega
   | true =>
    rw [hc] at hab
    have HC : Hid (bt i q = (one == 1)) := beq_iff_eq.1 hc
    have hlv : i < vs.length := by rw [HLV.out]; exact hlt
    have HSN : Hid (SB (put5at wr bo i x) bo (hlf q one vs (i + 1))) := by
     unfold Hid
     rw [hlf_put HC.out HX.out]
     exact HSBi.out.put (by rw [hlf_len]; exact hlv) x
    have HXN : Hid (Ext w (put5at wr bo i x)) := ext_put5at HXi.out HBO.out i x
    obtain ⟨⟨q0, q1, q2, q3, q4⟩, f0, f1, f2, f3, f4⟩ := HSBi.out.at_ (i := i) (x := d0) (by rw [hlf_at hlv, if_neg (by omega)])
    have HE := Tryz.eqgDOmega
    obtain ⟨z, hz⟩ : ∃ z, eqD x d0 = z := ⟨_, rfl⟩
    have HN := (show ∀ w, (Op.equalIn 10000 91 x.val (.agg #[.int .i64 0, .int .i64 0, .int .i64 0, .int .i64 0, .int .i64 0])).run Tryz.prog w = .ok z w from fun w => by rw [show (Value.agg #[.int .i64 0, .int .i64 0, .int .i64 0, .int .i64 0, .int .i64 0]) = d0.val from rfl, eqIn_dw, hz])
    have HSO : Hid (som q one vs (i + 1) = (som q one vs i || !z)) := by unfold Hid; rw [som_put HC.out HX.out, hz]
    clear hc hz hlv
    obtain ⟨s, hs⟩ : ∃ s, som q one vs i = s := ⟨_, rfl⟩
    rw [hs] at HSO ⊢
    clear hs
    cases s
    ·cases z
     ·go_wp2
      go_roundw
      case rel => exact ⟨i + 1, by first | rfl | rw [hi1] | rw [hi2], by have := HIT.out; omega, by rw [HSO.out]; rfl, HSN, HXN⟩
      case measure => simp [intOf, hi2]; have := HIT.out; omega
     ·go_wp2
      go_roundw
      case rel => exact ⟨i + 1, by first | rfl | rw [hi1] | rw [hi2], by have := HIT.out; omega, by rw [HSO.out]; rfl, HSN, HXN⟩
      case measure => simp [intOf, hi2]; have := HIT.out; omega
    ·clear HN
     go_wp2
     go_roundw
     case rel => exact ⟨i + 1, by first | rfl | rw [hi1] | rw [hi2], by have := HIT.out; omega, by rw [HSO.out]; rfl, HSN, HXN⟩
     case measure => simp [intOf, hi2]; have := HIT.out; omega
  ·have hil : i = l := by omega
   subst hil
   go_wp2
   go_ret2
   rw [HSA.out.1] at HSBi
   exact ⟨⟨_, by rw [HSA.out.2]; rfl, SB.tout HSBi.out _ _ (by rw [side_len, HLV.out])⟩, HXi.out⟩
end Go.Proofs.YtdjckjfclhjpcaaGreat
/-
 Helper text (no claim of its own): equal matrices, by the reference. Printed by gen_am.py or gen_an.py.
-/
namespace Go.Proofs.YtdjckjfclhjpcaaGreat
open Go.ChangeShapes Go.WideShapes Go.ChangeAt Go.RowKit Go.Deep
set_option linter.unusedVariables false
set_option linter.unusedSimpArgs false
/-- Rows of amplitudes, each in a block of its own. -/
def MV (w : World) (k l : Nat) (r : Nat → List Dw) (vals : List Value) : Prop := vals.length = k ∧ ∀ j, j < k → ∃ b c, vals[j]? = some (.slice (some ⟨b, 0, none⟩) l c) ∧ TT w b l (r j)
def MX (w : World) (X : Option Addr) (k l : Nat) (r : Nat → List Dw) : Prop := ∃ vals, Rd w w.heap.size 1 X k vals ∧ MV w k l r vals
theorem MV.ext {w w' : World} {k l : Nat} {r : Nat → List Dw} {vals : List Value} (h : MV w k l r vals) (hx : Ext w w') : MV w' k l r vals :=
 ⟨h.1, fun j hj => by
  obtain ⟨b, c, h1, h2⟩ := h.2 j hj
  exact ⟨b, c, h1, h2.ext hx⟩⟩
theorem MX.ext {w w' : World} {X : Option Addr} {k l : Nat} {r : Nat → List Dw} (h : MX w X k l r) (hx : Ext w w') : MX w' X k l r := by
 obtain ⟨vals, h1, h2⟩ := h
 exact ⟨vals, h1.ext hx, h2.ext hx⟩
theorem MX.at_ {w : World} {X : Option Addr} {k l j : Nat} {r : Nat → List Dw} (h : MX w X k l r) (hj : j < k) : ∃ bx ox b c, X = some ⟨bx, ox, none⟩ ∧ w.cell? ⟨bx, ox + j, none⟩ = some (.slice (some ⟨b, 0, none⟩) l c) ∧ TT w b l (r j) := by
 obtain ⟨vals, h1, h2⟩ := h
 obtain ⟨bx, ox, rfl, -, hc⟩ := h1.2 (by omega)
 obtain ⟨b, c, h3, h4⟩ := h2.2 j hj
 exact ⟨bx, ox, b, c, rfl, hc j _ h3, h4⟩
end Go.Proofs.YtdjckjfclhjpcaaGreat
/-
 Helper text (no claim of its own): whether two rows of gates do the same, by the reference. Printed by gen_am.py or gen_an.py.
-/
namespace Go.Proofs.YtdjckjfclhjpcaaGreat
open Go.ChangeShapes Go.WideShapes Go.ChangeAt Go.RowKit Go.Deep
set_option linter.unusedVariables false
set_option linter.unusedSimpArgs false
theorem Tryz.infoRowD : (Tryz.prog.info? 66).map (fun i => (i.zero, i.size, i.bytes)) = some (some (.slice none 0 0), 1, 24) := by kernel_rfl
theorem own_block {w : World} {base e size m : Nat} {v : Value} {xs : List Value} (h : w.ownsRow base e size v m xs) {g : Nat} (hg : v.ownBlock = some g) : ∃ cur, Blk w g e cur := by
 rcases h.2 with ⟨h0, hn⟩ | ⟨g', cap, cur, rfl, hB, hc, -⟩
 ·subst h0; cases hg
 ·have e1 : (Value.slice (some ⟨g', 0, none⟩) m cap).ownBlock = some g' := rfl
  rw [e1] at hg
  injection hg with hg
  subst hg
  exact ⟨cur, hc⟩
/-- Amplitudes are kept where a row of rows grows. -/
theorem TT.grown {w w' : World} {b l base m : Nat} {vs : List Dw} {v : Value} {xs : List Value} (h : TT w b l vs) (ho : w.ownsRow base 66 1 v m xs) (hg : w.grownBy w' v.ownBlock) : TT w' b l vs := by
 obtain ⟨⟨cs, h1⟩, h2⟩ := h
 have hne : v.ownBlock ≠ some b := by
  intro e
  obtain ⟨cur, hc⟩ := own_block ho e
  unfold Blk at h1 hc
  rw [h1] at hc
  injection hc with hc
  injection hc with _ h3
  exact absurd h3 (by decide)
 have hb := hg.block b h1.lt (fun e => hne e.symm)
 refine ⟨⟨cs, hb.trans h1⟩, h2.1, fun hl => ?_⟩
 obtain ⟨b', o, e, hb', hc⟩ := h2.2 hl
 injection e with e
 injection e with e1 e2
 subst e1 e2
 exact ⟨_, _, rfl, by have := hg.size; omega, fun j u hu => (World.cell?_of_block (a := ⟨b, 0 + j, none⟩) hb).trans (hc j u hu)⟩
theorem MV.grown {w w' : World} {k l base m : Nat} {r : Nat → List Dw} {vals : List Value} {v : Value} {xs : List Value} (h : MV w k l r vals) (ho : w.ownsRow base 66 1 v m xs) (hg : w.grownBy w' v.ownBlock) : MV w' k l r vals :=
 ⟨h.1, fun j hj => by
  obtain ⟨b, c, h1, h2⟩ := h.2 j hj
  exact ⟨b, c, h1, h2.grown ho hg⟩⟩
theorem MV.snoc {w : World} {k l b c : Nat} {r : Nat → List Dw} {vals : List Value} (h : MV w k l r vals) (ht : TT w b l (r k)) : MV w (k + 1) l r (vals ++ [.slice (some ⟨b, 0, none⟩) l c]) := by
 refine ⟨by rw [List.length_append, h.1]; rfl, fun j hj => ?_⟩
 by_cases hjk : j < k
 ·obtain ⟨b', c', h1, h2⟩ := h.2 j hjk
  exact ⟨b', c', by rw [List.getElem?_append_left (by rw [h.1]; exact hjk)]; exact h1, h2⟩
 ·have : j = k := by omega
  subst this
  exact ⟨b, c, by rw [← h.1, List.getElem?_concat_length], ht⟩
/-- Two rows of rows, apart from each other. -/
structure PX (w1 w : World) (X : Option Addr) (kx cx : Nat) (vx : List Value) (Y : Option Addr) (ky cy : Nat) (vy : List Value) (l : Nat) (r : Nat → List Dw) : Prop where
 ox : w.ownsRow w1.heap.size 66 1 (.slice X kx cx) kx vx
 oy : w.ownsRow w1.heap.size 66 1 (.slice Y ky cy) ky vy
 ne : ∀ g, (Value.slice X kx cx).ownBlock = some g → (Value.slice Y ky cy).ownBlock ≠ some g
 mx : MV w kx l r vx
 my : MV w ky l r vy
 x : Ext w1 w
theorem PX.ext {w1 w w' : World} {X Y : Option Addr} {kx cx ky cy l : Nat} {vx vy : List Value} {r : Nat → List Dw} (h : PX w1 w X kx cx vx Y ky cy vy l r) (hx : Ext w w') : PX w1 w' X kx cx vx Y ky cy vy l r :=
 ⟨own_ext h.ox hx, own_ext h.oy hx, h.ne, h.mx.ext hx, h.my.ext hx, h.x.trans hx⟩
/-- append of a row. -/
theorem appRow {w0 w : World} {ops : Array Oper} {rest : List Oper} {o : Oper} {a : Act} {Q : Exit → Act → World → Prop} (hgd : o.guard = none) (s x : Operand)
  (ho : o.op = .call { callee := .builtin .append, args := #[s, x], argTypes := #[45, 45] }) (v : Value) (n : Nat) (xs : List Value) (hs : a.eval s = v)
  (hown : w.ownsRow w0.heap.size 66 1 v n xs) (hx0 : Ext w0 w) (u : Value) (hu : u.oneCell' = true) (b : Nat) (hx : a.eval x = .slice (some ⟨b, 0, none⟩) 1 1) (hr : Rd w w.heap.size 1 (some ⟨b, 0, none⟩) 1 [u]) (hn : n + 1 ≤ 2000000000000)
  (h : ∀ v' w', w'.ownsRow w0.heap.size 66 1 v' (n + 1) (xs ++ [u]) → Ext w0 w' → w.grownBy w' v.ownBlock → (v'.ownBlock = v.ownBlock ∨ v'.ownBlock = some w.heap.size) → wpList Tryz.prog ops Q rest (a.put o.dst v') w') : wpList Tryz.prog ops Q (o :: rest) a w := by
 obtain ⟨i0, hi, hz0, hz1, hz2⟩ := info_parts Tryz.infoRowD
 exact wpList_app hgd s x _ ho 66 i0 _ 1 24 Tryz.underlying45 hi hz0 hz1 hz2 rfl (by decide) (by decide) v n _ hs hown hx0 _ 1 1 _ hx hr (by intro u' hu'; rw [List.mem_singleton] at hu'; subst hu'; exact hu) hn h
theorem pow_shift {n : Nat} (h1 : 1 ≤ n) (h4 : n ≤ 4) : wrap64 ((2 : Int) ^ n) = ((2 ^ n : Nat) : Int) := by
 rcases (show n = 1 ∨ n = 2 ∨ n = 3 ∨ n = 4 by omega) with rfl | rfl | rfl | rfl <;> first | decide | (unfold wrap64; decide) | kernel_rfl
end Go.Proofs.YtdjckjfclhjpcaaGreat
/-
 Helper text (no claim of its own): branches in memory, the branch at the start, and measuring one, by the reference. Printed by gen_sib.py.
-/
namespace Go.Proofs.YtdjckjfclhjpcaaGreat
open Go.ChangeShapes Go.WideShapes Go.ChangeAt Go.RowKit Go.Deep
set_option linter.unusedVariables false
set_option linter.unusedSimpArgs false
/-- The blocks of states, and of rows of states, are kept. -/
structure KT (w w' : World) : Prop where
 size : w.heap.size ≤ w'.heap.size
 keep : ∀ b t cs, (t = 91 ∨ t = 66) → Blk w b t cs → w'.heap[b]? = w.heap[b]?
theorem KT.ext {w w' : World} (h : Ext w w') : KT w w' := ⟨h.size, fun b t cs _ hb => h.block b hb.lt⟩
theorem KT.trans {w w' w'' : World} (h : KT w w') (k : KT w' w'') : KT w w'' := ⟨Nat.le_trans h.size k.size, fun b t cs ht hb => (k.keep b t cs ht ((h.keep b t cs ht hb).trans hb)).trans (h.keep b t cs ht hb)⟩
theorem KT.grown {w w' : World} {base e size m : Nat} {v : Value} {xs : List Value} (ho : w.ownsRow base e size v m xs) (he : e ≠ 91 ∧ e ≠ 66) (hg : w.grownBy w' v.ownBlock) : KT w w' :=
 ⟨hg.size, fun b t cs ht hb => hg.block b hb.lt fun e1 => by
  obtain ⟨cur, hc⟩ := own_block ho e1.symm
  unfold Blk at hb hc
  rw [hb] at hc
  injection hc with hc
  injection hc with _ h3
  rcases ht with rfl | rfl
  ·exact he.1 h3.symm
  ·exact he.2 h3.symm⟩
theorem KT.set_ {w : World} {s e i : Nat} {cs : Array Value} (h : Blk w s e cs) (he : e ≠ 91 ∧ e ≠ 66) (u : Value) : KT w (w.setCell ⟨s, i, none⟩ u) :=
 ⟨by simp, fun b t ds ht hb => Below.heap_setCell w _ u b fun e1 => by
  have e2 : b = s := e1
  subst e2
  unfold Blk at hb h
  rw [hb] at h
  injection h with h
  injection h with _ h3
  rcases ht with rfl | rfl
  ·exact he.1 h3.symm
  ·exact he.2 h3.symm⟩
theorem Rd.blk {w w' : World} {b size n : Nat} {xs : List Value} (h : Rd w w.heap.size size (some ⟨b, 0, none⟩) n xs) (hb : w'.heap[b]? = w.heap[b]?) (hs : w.heap.size ≤ w'.heap.size) : Rd w' w'.heap.size size (some ⟨b, 0, none⟩) n xs :=
 ⟨h.1, fun hl => by
  obtain ⟨b', o, e, hb', hc⟩ := h.2 hl
  injection e with e
  injection e with e1 e2
  subst e1 e2
  exact ⟨_, _, rfl, by omega, fun j u hu => (World.cell?_of_block (a := ⟨b, 0 + j, none⟩) hb).trans (hc j u hu)⟩⟩
theorem TT.kt {w w' : World} {b l : Nat} {vs : List Dw} (h : TT w b l vs) (k : KT w w') : TT w' b l vs := by
 obtain ⟨⟨cs, h1⟩, h2⟩ := h
 have hb := k.keep b _ cs (.inl rfl) h1
 exact ⟨⟨cs, hb.trans h1⟩, h2.blk hb k.size⟩
theorem MV.kt {w w' : World} {k l : Nat} {r : Nat → List Dw} {vals : List Value} (h : MV w k l r vals) (q : KT w w') : MV w' k l r vals :=
 ⟨h.1, fun j hj => by
  obtain ⟨b, c, h1, h2⟩ := h.2 j hj
  exact ⟨b, c, h1, h2.kt q⟩⟩
/-- A row of states, its block's type known. -/
def TX (w : World) (X : Option Addr) (k l : Nat) (r : Nat → List Dw) : Prop := ∃ bx cs vals, X = some ⟨bx, 0, none⟩ ∧ Blk w bx 66 cs ∧ Rd w w.heap.size 1 (some ⟨bx, 0, none⟩) k vals ∧ MV w k l r vals
theorem TX.mx {w : World} {X : Option Addr} {k l : Nat} {r : Nat → List Dw} (h : TX w X k l r) : MX w X k l r := by
 obtain ⟨bx, cs, vals, rfl, h1, h2, h3⟩ := h
 exact ⟨vals, h2, h3⟩
theorem TX.kt {w w' : World} {X : Option Addr} {k l : Nat} {r : Nat → List Dw} (h : TX w X k l r) (q : KT w w') : TX w' X k l r := by
 obtain ⟨bx, cs, vals, rfl, h1, h2, h3⟩ := h
 have hb := q.keep bx _ cs (.inr rfl) h1
 exact ⟨bx, cs, vals, rfl, hb.trans h1, h2.blk hb q.size, h3.kt q⟩
theorem TX.own {w : World} {base k l c : Nat} {A : Option Addr} {vals : List Value} {r : Nat → List Dw} (ho : w.ownsRow base 66 1 (.slice A k c) k vals) (hk : 0 < k) (hm : MV w k l r vals) : TX w A k l r := by
 obtain ⟨hlen, h0 | ⟨g, cap, cur, hv, hB, hc, -⟩⟩ := id ho
 ·omega
 ·injection hv with e1 _ e3
  subst e1 e3
  exact ⟨g, cur, vals, rfl, hc, Rd.own ho, hm⟩
theorem TX.congr {w : World} {X : Option Addr} {k l : Nat} {r r' : Nat → List Dw} (h : TX w X k l r) (e : ∀ j, j < k → r j = r' j) : TX w X k l r' := by
 obtain ⟨bx, cs, vals, h0, h1, h2, h3⟩ := h
 refine ⟨bx, cs, vals, h0, h1, h2, h3.1, fun j hj => ?_⟩
 rw [← e j hj]
 exact h3.2 j hj
theorem TT.len {w : World} {b l : Nat} {vs : List Dw} (h : TT w b l vs) : vs.length = l := by
 have h1 := h.2.1
 rw [flat_len Dw.cells_len] at h1
 omega
theorem TX.len {w : World} {X : Option Addr} {k l : Nat} {r : Nat → List Dw} (h : TX w X k l r) : ∀ j, j < k → (r j).length = l := fun j hj => by
 obtain ⟨bx, cs, vals, h0, h1, h2, h3⟩ := h
 obtain ⟨b, c, -, ht⟩ := h3.2 j hj
 exact ht.len
/-- A branch and where its states lie. -/
abbrev Zb := Brn × Option Addr × Nat
def zc (k : Nat) (z : Zb) : List Value := [.int .i64 z.1.bits, .slice z.2.1 k z.2.2]
abbrev zcells (k : Nat) (zs : List Zb) : List Value := zs.flatMap (zc k)
theorem zc_len (k : Nat) (z : Zb) : (zc k z).length = 2 := rfl
theorem zc_one (k : Nat) (zs : List Zb) : ∀ u ∈ zcells k zs, u.oneCell' = true := by
 intro u hu
 obtain ⟨x, _, hx⟩ := List.mem_flatMap.1 hu
 simp [zc] at hx
 rcases hx with rfl | rfl <;> rfl
def ZX (w : World) (k l : Nat) (zs : List Zb) : Prop := ∀ z ∈ zs, TX w z.2.1 k l z.1.r
theorem ZX.kt {w w' : World} {k l : Nat} {zs : List Zb} (h : ZX w k l zs) (q : KT w w') : ZX w' k l zs := fun z hz => (h z hz).kt q
theorem ZX.app {w : World} {k l : Nat} {zs ys : List Zb} (h : ZX w k l zs) (h' : ZX w k l ys) : ZX w k l (zs ++ ys) := fun z hz => by
 rcases List.mem_append.1 hz with hz | hz
 ·exact h z hz
 ·exact h' z hz
theorem ZX.one {w : World} {k l : Nat} {z : Zb} (h : TX w z.2.1 k l z.1.r) : ZX w k l [z] := fun z' hz => by obtain rfl := List.mem_singleton.1 hz; exact h
theorem Tryz.infoBr : (Tryz.prog.info? 47).map (fun i => (i.zero, i.size, i.bytes)) = some (some (.agg #[.int .i64 0, .slice none 0 0]), 2, 32) := by kernel_rfl
theorem appBr {w0 w : World} {ops : Array Oper} {rest : List Oper} {o : Oper} {a : Act} {Q : Exit → Act → World → Prop} (hgd : o.guard = none) (s x : Operand)
  (ho : o.op = .call { callee := .builtin .append, args := #[s, x], argTypes := #[30, 30] }) (v : Value) (n : Nat) (xs : List Value) (hs : a.eval s = v)
  (hown : w.ownsRow w0.heap.size 47 2 v n xs) (hx0 : Ext w0 w) (A : Option Addr) (m c k : Nat) (ys : List Zb) (hx : a.eval x = .slice A m c) (hr : Rd w w.heap.size 2 A m (zcells k ys)) (hn : n + m ≤ 1000000)
  (h : ∀ v' w', w'.ownsRow w0.heap.size 47 2 v' (n + m) (xs ++ zcells k ys) → Ext w0 w' → w.grownBy w' v.ownBlock → (v'.ownBlock = v.ownBlock ∨ v'.ownBlock = some w.heap.size) → wpList Tryz.prog ops Q rest (a.put o.dst v') w') : wpList Tryz.prog ops Q (o :: rest) a w := by
 obtain ⟨i0, hi, hz0, hz1, hz2⟩ := info_parts Tryz.infoBr
 exact wpList_app hgd s x _ ho 47 i0 _ 2 32 Tryz.underlying30 hi hz0 hz1 hz2 rfl (by decide) (by decide) v n _ hs hown hx0 _ m c _ hx hr (zc_one k ys) (by omega) h
theorem stepBr {w0 w : World} {ops : Array Oper} {o : Oper} {a : Act} {K : Act → World → Prop} {Q : Exit → Act → World → Prop} {E : Prop} (hgd : o.guard = none) (s x : Operand)
  (ho : o.op = .call { callee := .builtin .append, args := #[s, x], argTypes := #[30, 30] }) (v : Value) (n : Nat) (xs : List Value) (hs : a.eval s = v)
  (hown : w.ownsRow w0.heap.size 47 2 v n xs) (hx0 : Ext w0 w) (A : Option Addr) (m c k : Nat) (ys : List Zb) (hx : a.eval x = .slice A m c) (hr : Rd w w.heap.size 2 A m (zcells k ys)) (hn : n + m ≤ 1000000)
  (h : ∀ v' w', w'.ownsRow w0.heap.size 47 2 v' (n + m) (xs ++ zcells k ys) → Ext w0 w' → w.grownBy w' v.ownBlock → (v'.ownBlock = v.ownBlock ∨ v'.ownBlock = some w.heap.size) → K (a.put o.dst v') w') : if Region.wanted o (yielded ops a.tmps) = true then Oper.wp Tryz.prog o a w K Q else E := by
 obtain ⟨i0, hi, hz0, hz1, hz2⟩ := info_parts Tryz.infoBr
 exact step_app hgd s x _ ho 47 i0 _ 2 32 Tryz.underlying30 hi hz0 hz1 hz2 rfl (by decide) (by decide) v n _ hs hown hx0 _ m c _ hx hr (zc_one k ys) (by omega) h
theorem stepRow {w0 w : World} {ops : Array Oper} {o : Oper} {a : Act} {K : Act → World → Prop} {Q : Exit → Act → World → Prop} {E : Prop} (hgd : o.guard = none) (s x : Operand)
  (ho : o.op = .call { callee := .builtin .append, args := #[s, x], argTypes := #[45, 45] }) (v : Value) (n : Nat) (xs : List Value) (hs : a.eval s = v)
  (hown : w.ownsRow w0.heap.size 66 1 v n xs) (hx0 : Ext w0 w) (u : Value) (hu : u.oneCell' = true) (b : Nat) (hx : a.eval x = .slice (some ⟨b, 0, none⟩) 1 1) (hr : Rd w w.heap.size 1 (some ⟨b, 0, none⟩) 1 [u]) (hn : n + 1 ≤ 2000000000000)
  (h : ∀ v' w', w'.ownsRow w0.heap.size 66 1 v' (n + 1) (xs ++ [u]) → Ext w0 w' → w.grownBy w' v.ownBlock → (v'.ownBlock = v.ownBlock ∨ v'.ownBlock = some w.heap.size) → K (a.put o.dst v') w') : if Region.wanted o (yielded ops a.tmps) = true then Oper.wp Tryz.prog o a w K Q else E := by
 obtain ⟨i0, hi, hz0, hz1, hz2⟩ := info_parts Tryz.infoRowD
 exact step_app hgd s x _ ho 66 i0 _ 1 24 Tryz.underlying45 hi hz0 hz1 hz2 rfl (by decide) (by decide) v n _ hs hown hx0 _ 1 1 _ hx hr (by intro u' hu'; rw [List.mem_singleton] at hu'; subst hu'; exact hu) hn h
theorem own_nil1 (w : World) (B e size : Nat) : w.ownsRow B e size (.slice none 0 0) 0 [] := ⟨by simp, .inl ⟨rfl, rfl⟩⟩
theorem blk2x {w : World} {g t : Nat} {a b : Value} (h : Blk w g t #[a, b]) : (w.cell? ⟨g, 0, none⟩ = some a ∧ w.cell? ⟨g, 1, none⟩ = some b) ∧ w.frozen? ⟨g, 0, none⟩ = false ∧ w.frozen? ⟨g, 1, none⟩ = false := ⟨⟨h.cell 0, h.cell 1⟩, h.frozen 0, h.frozen 1⟩
/-- A branch being made: the struct in block s, its row of states of the call's own. -/
structure MB (w W : World) (s : Nat) (bits : Nat) (Y : Option Addr) (j c l : Nat) (vals : List Value) (r : Nat → List Dw) : Prop where
 b : Blk W s 47 #[.int .i64 bits, .slice Y j c]
 o : W.ownsRow w.heap.size 66 1 (.slice Y j c) j vals
 m : MV W j l r vals
 x : Ext w W
 s : w.heap.size ≤ s
theorem blkApart {w : World} {s T : Nat} {cs : Array Value} {B e size n : Nat} {v : Value} {xs : List Value} (h : Blk w s T cs) (ho : w.ownsRow B e size v n xs) (hne : T ≠ e) : ∀ k, v.ownBlock = some k → s ≠ k := by
 intro k hk e1
 subst e1
 obtain ⟨cur, hc⟩ := own_block ho hk
 unfold Blk at h hc
 rw [h] at hc
 injection hc with hc
 injection hc with _ h3
 exact hne h3
theorem ownSetB {w : World} {r T i : Nat} {cs : Array Value} {B e size n : Nat} {v : Value} {xs : List Value} (ho : w.ownsRow B e size v n xs) (h : Blk w r T cs) (hne : T ≠ e) (u : Value) : (w.setCell ⟨r, i, none⟩ u).ownsRow B e size v n xs := by
 refine ho.kept (row := some r) ⟨rfl, rfl, rfl, by simp [World.setCell], fun k _ hk => Below.heap_setCell w _ u k (fun e => hk (by rw [e]))⟩ ?_
 cases hv : v.ownBlock with
 | none => exact .inl rfl
 | some k => exact .inr (fun e1 => blkApart h ho hne k hv (by injection e1 with e1; exact e1.symm))
section
variable {w W W' : World} {s bits j c l : Nat} {Y : Option Addr} {vals : List Value} {r : Nat → List Dw}
theorem MB.ext (h : MB w W s bits Y j c l vals r) (hx : Ext W W') : MB w W' s bits Y j c l vals r := ⟨h.b.ext hx, own_ext h.o hx, h.m.ext hx, h.x.trans hx, h.s⟩
/-- A state more, and the struct's slice set. -/
theorem MB.app {Y' : Option Addr} {b c' d : Nat} (h : MB w W s bits Y j c l vals r) (ht : TT W b l (r j)) (g1 : W'.ownsRow w.heap.size 66 1 (.slice Y' (j + 1) c') (j + 1) (vals ++ [.slice (some ⟨b, 0, none⟩) l d])) (g2 : Ext w W') (g3 : W.grownBy W' (Value.slice Y j c).ownBlock) :
  Blk W' s 47 #[.int .i64 bits, .slice Y j c] ∧ MB w (W'.setCell ⟨s, 1, none⟩ (.slice Y' (j + 1) c')) s bits Y' (j + 1) c' l (vals ++ [.slice (some ⟨b, 0, none⟩) l d]) r := by
 have hb : Blk W' s 47 #[.int .i64 bits, .slice Y j c] := h.b.grown g3 fun q hq => blkApart h.b h.o (by decide) q hq
 have hk := KT.set_ (i := 1) hb (by decide) (.slice Y' (j + 1) c')
 have hm := (h.m.grown h.o g3).snoc (c := d) (ht.grown h.o g3)
 refine ⟨hb, hb.set_ 1 _, ?_, hm.kt hk, g2.setCell (p := ⟨s, 1, none⟩) h.s _, h.s⟩
 exact ownSetB g1 hb (by decide) _
end
theorem ZX.nil {w : World} {k l : Nat} : ZX w k l [] := fun z hz => by cases hz
theorem shl_bit {one bit : Nat} (h1 : one < 2) (hb : bit < 3) : wrap64 ((one : Int) * 2 ^ bit) = ((one * 2 ^ bit : Nat) : Int) := by
 rcases (show one = 0 ∨ one = 1 by omega) with rfl | rfl <;> rcases (show bit = 0 ∨ bit = 1 ∨ bit = 2 by omega) with rfl | rfl | rfl <;> kernel_rfl
theorem shl_sum {one bit bits : Nat} (h1 : one < 2) (hb : bit < 3) (hbb : bits ≤ 1000) : wrap64 ((bits : Int) + wrap64 ((one : Int) * 2 ^ bit)) = ((bits + one * 2 ^ bit : Nat) : Int) := by
 have h2 : (2 : Nat) ^ bit ≤ 4 := by rcases (show bit = 0 ∨ bit = 1 ∨ bit = 2 by omega) with rfl | rfl | rfl <;> decide
 have h3 : one * 2 ^ bit ≤ 4 := by rcases (show one = 0 ∨ one = 1 by omega) with rfl | rfl <;> omega
 rw [shl_bit h1 hb]
 generalize one * 2 ^ bit = m at *
 unfold wrap64
 omega
theorem MV.nil {w : World} {l : Nat} {r : Nat → List Dw} : MV w 0 l r [] := ⟨rfl, fun j hj => by omega⟩
/-- What one measured value gives. -/
def msom (k q one : Nat) (r : Nat → List Dw) (j : Nat) : Bool := (List.range j).any fun i => met q one (r i)
theorem msom_succ (k q one : Nat) (r : Nat → List Dw) (j : Nat) : msom k q one r (j + 1) = (msom k q one r j || met q one (r j)) := by
 unfold msom
 rw [List.range_succ, List.any_append]
 simp
def meaK (k q bit : Nat) (b : Brn) : Nat → List Brn
 | 0 => []
 | j + 1 => meaK k q bit b j ++ mea1 k q bit j b
theorem meaK_2 (k q bit : Nat) (b : Brn) : meaK k q bit b 2 = mea k q bit b := rfl
theorem mea1_yes {k q bit one : Nat} {b : Brn} (h : msom k q one b.r k = true) : mea1 k q bit one b = [⟨b.bits + one * 2 ^ bit, fun j => side q one (b.r j)⟩] := by
 unfold msom at h
 unfold mea1
 rw [if_pos h]
theorem mea1_no {k q bit one : Nat} {b : Brn} (h : msom k q one b.r k = false) : mea1 k q bit one b = [] := by
 unfold msom at h
 unfold mea1
 rw [if_neg (by rw [h]; decide)]
theorem meaK_len (k q bit : Nat) (b : Brn) : ∀ j, (meaK k q bit b j).length ≤ j
 | 0 => Nat.le_refl _
 | j + 1 => by
  have := meaK_len k q bit b j
  have h1 : (mea1 k q bit j b).length ≤ 1 := by unfold mea1; split <;> simp
  show (meaK k q bit b j ++ mea1 k q bit j b).length ≤ _
  rw [List.length_append]
  omega
set_option maxRecDepth 100000 in
set_option maxHeartbeats 8000000 in
theorem MeasureBranch_any {n : Nat} (hn1 : 1 ≤ n) (hn4 : n ≤ 4) (k : Nat) (hk0 : 0 < k) (hk16 : k ≤ 16) (b : Brn) (X : Option Addr) (c q bit : Nat) (hq : q < 4) (hbit : bit < 3) (hbb : b.bits ≤ 1000) (w : World) (h : TX w X k (2 ^ n) b.r) :
  Calls Tryz.prog 44 #[.agg #[.int .i64 b.bits, .slice X k c], .int .i64 q, .int .i64 bit] w fun e w' => (∃ (A : Option Addr) (c' : Nat) (zs : List Zb), e = .returned (.slice A zs.length c') ∧ zs.map (·.1) = mea k q bit b ∧ Rd w' w'.heap.size 2 A zs.length (zcells k zs) ∧ ZX w' k (2 ^ n) zs) ∧ Ext w w' := by
 have HLEN := Lib.hid h.len
 have HSIDE : Hid (∀ (A : Option Addr) (c : Nat) (vs : List Dw) (one : Nat) (w : World), one < 2 → Rd w w.heap.size 5 A (2 ^ n) (scells vs) → vs.length = 2 ^ n → Calls Tryz.prog 64 #[.slice A (2 ^ n) c, .int .i64 q, .int .i64 one] w fun e w' => (∃ v, e = .returned (.tuple #[v, .bool (met q one vs)]) ∧ TOut (2 ^ n) (side q one vs) v w') ∧ Ext w w') := fun A c vs one w h1 hr hl => l23Side_any hn1 hn4 A c vs q one hq h1 w hr hl
 have HTX := Lib.hid h
 clear h hn1 hn4
 generalize 2 ^ n = l at *
 go_enter Tryz.func44, Tryz.ntmps44
 go_upto_region 2 with (fail)
 have HPB : Hid (Blk (w.alloc (.cells #[.int .i64 b.bits, .slice X k c] 47)) w.heap.size 47 #[.int .i64 b.bits, .slice X k c]) := Blk.new _ _ _
 have HEP : Hid (Ext w (w.alloc (.cells #[.int .i64 b.bits, .slice X k c] 47))) := (Ext.refl w).alloc _
 have HSP : w.heap.size + 1 = (w.alloc (.cells #[.int .i64 b.bits, .slice X k c] 47)).heap.size := by simp
 rw [HSP]
 clear HSP
 generalize w.alloc (.cells #[.int .i64 b.bits, .slice X k c] 47) = wP at *
 generalize w.heap.size = p at *
 have HO0 : Hid ((wP.alloc (.cells #[] 47)).ownsRow wP.heap.size 47 2 (.slice (some ⟨wP.heap.size, 0, none⟩) 0 0) 0 (zcells k [])) := own_empty wP wP _ 2 (Ext.refl _)
 have HX0 : Hid (Ext wP (wP.alloc (.cells #[] 47))) := (Ext.refl _).alloc _
 generalize wP.alloc (.cells #[] 47) = w0 at *
 have hq0 : (0 : Int) ≤ (q : Int) := by omega
 have hq3 : (q : Int) ≤ 3 := by omega
 have hb0 : (0 : Int) ≤ (bit : Int) := by omega
 have hb2 : (bit : Int) ≤ 2 := by omega
 go_wp2_with fail
 refine (l1In_yes _ _ _ _ hb0 hb2).mono ?_
 rintro e w' ⟨rfl, rfl⟩
 go_wp2_with fail
 refine (l1In_yes _ _ _ _ hq0 hq3).mono ?_
 rintro e w' ⟨rfl, rfl⟩
 clear hq0 hq3
 go_wp2
 go_loopw [7, 8] (fun ov iv wr => ∃ (j : Nat) (A : Option Addr) (c' : Nat) (zs : List Zb), iv = .int .i64 j ∧ j ≤ 2 ∧ ov = .slice A zs.length c' ∧ zs.map (·.1) = meaK k q bit b j ∧ Hid (wr.ownsRow wP.heap.size 47 2 (.slice A zs.length c') zs.length (zcells k zs)) ∧ Hid (ZX wr k l zs) ∧ Hid (Ext wP wr)) (fun _ i _ => 2 - (intOf i).toNat)
 case atStart => exact ⟨0, _, 0, [], rfl, by omega, rfl, rfl, HO0, ZX.nil, HX0⟩
 case round =>
  obtain ⟨j, A, c', zs, rfl, hj, rfl, hzs, HO, HZ, HX⟩ := hrel
  clear HO0 HX0
  by_cases hlt : j < 2
  ·have hj1 : IntKind.i64.wrap ((j : Int) + 1) = ((j + 1 : Nat) : Int) := by rw [IntWalk.i64_in _ (by omega)]; rfl
   have hj2 : wrap64 ((j : Int) + 1) = ((j + 1 : Nat) : Int) := by unfold wrap64; omega
   have HJ : Hid (j < 2) := hlt
   obtain ⟨⟨p0, p1⟩, -⟩ := blk2x (HPB.out.ext HX.out)
   go_upto_region 10 with (fail)
   have hsum : wrap64 ((b.bits : Int) + wrap64 ((j : Int) * 2 ^ bit)) = ((b.bits + j * 2 ^ bit : Nat) : Int) := shl_sum hlt hbit hbb
   have hjd : decide ((j : Int) < 2) = true := by simp; omega
   rw [hsum, hjd]
   obtain ⟨nb, hnb⟩ : ∃ nb, b.bits + j * 2 ^ bit = nb := ⟨_, rfl⟩
   have HNB := Lib.hid hnb
   rw [hnb]
   clear hsum hnb p0 p1
   have HB0 : Hid (MB wr (wr.alloc (.cells #[.int .i64 nb, .slice none 0 0] 47)) wr.heap.size nb none 0 0 l [] (fun t => side q j (b.r t))) := ⟨Blk.new _ _ _, own_nil1 _ _ _ _, MV.nil, (Ext.refl _).alloc _, Nat.le_refl _⟩
   generalize wr.alloc (.cells #[.int .i64 nb, .slice none 0 0] 47) = wa at *
   obtain ⟨s, hs⟩ : ∃ s, wr.heap.size = s := ⟨_, rfl⟩
   rw [hs] at HB0 ⊢
   clear hs
   obtain ⟨wo, rfl⟩ : ∃ wo, wo = wr := ⟨_, rfl⟩
   go_loopw [10, 11] (fun sv iv wi => ∃ (i : Nat) (Y : Option Addr) (cy : Nat) (vals : List Value), iv = .int .i64 i ∧ i ≤ k ∧ sv = .bool (msom k q j b.r i) ∧ Hid (MB wo wi s nb Y i cy l vals (fun t => side q j (b.r t)))) (fun _ i _ => k - (intOf i).toNat)
   case atStart => exact ⟨0, none, 0, [], rfl, Nat.zero_le _, rfl, HB0⟩
   case round =>
    obtain ⟨i, Y, cy, vals, rfl, hi, rfl, HB⟩ := hrel
    clear HB0
    obtain ⟨⟨p0, p1⟩, -⟩ := blk2x (HPB.out.ext (HX.out.trans HB.out.x))
    by_cases hik : i < k
    ·have hi1 : IntKind.i64.wrap ((i : Int) + 1) = ((i + 1 : Nat) : Int) := by rw [IntWalk.i64_in _ (by omega)]; rfl
     have hi2 : wrap64 ((i : Int) + 1) = ((i + 1 : Nat) : Int) := by unfold wrap64; omega
     have HI : Hid (i < k ∧ k ≤ 16) := ⟨hik, hk16⟩
     obtain ⟨bx, ox, b1, c1, hXe, y0, ht⟩ := (HTX.out.kt (KT.ext (HEP.out.trans (HX.out.trans HB.out.x)))).mx.at_ hik
     have HT := Lib.hid ht
     clear ht
     subst hXe
     go_wp2_with fail
     refine (HSIDE.out _ _ (b.r i) j _ HJ.out HT.out.2 (HLEN.out i HI.out.1)).mono ?_
     rintro e w5 ⟨⟨v5, rfl, b5, c5, rfl, ht5⟩, hx5⟩
     have HB5 := Lib.hid (HB.out.ext hx5)
     have HT5 := Lib.hid ht5
     have HMS : Hid (msom k q j b.r (i + 1) = (msom k q j b.r i || met q j (b.r i))) := msom_succ _ _ _ _ _
     obtain ⟨sm, hsm⟩ : ∃ sm, msom k q j b.r i = sm := ⟨_, rfl⟩
     obtain ⟨mm, hmm⟩ : ∃ mm, met q j (b.r i) = mm := ⟨_, rfl⟩
     rw [hsm, hmm] at HMS
     rw [hsm, hmm]
     clear HB HT y0 p0 p1 hx5 ht5 hsm hmm
     obtain ⟨⟨q0, q1⟩, f0, f1⟩ := blk2x HB5.out.b
     have HN : Hid (i + 1 ≤ 2000000000000) := by have := HI.out; unfold Hid; omega
     cases sm
     ·skip
      go_wp2_with (at_builtin; refine appRow (w0 := wo) rfl _ _ rfl _ i vals rfl (own_ext HB5.out.o ((Ext.refl _).alloc _)) (HB5.out.x.alloc _) _ rfl _ rfl (rd_new _ _ _ 1 _ rfl rfl) HN.out ?_; intro v' w6 g1 g2 g3 g4; obtain ⟨Y6, c6, rfl, -⟩ := own_slice g1; obtain ⟨hb6, hm6⟩ := (HB5.out.ext ((Ext.refl _).alloc _)).app (HT5.out.ext ((Ext.refl _).alloc _)) g1 g2 g3; have HB6 := Lib.hid hm6; obtain ⟨⟨t0, t1⟩, e0, e1⟩ := blk2x hb6; clear hb6 hm6 g1 g2 g3 g4)
      go_roundw
      case rel => exact ⟨i + 1, Y6, c6, _, by first | rfl | rw [hi1] | rw [hi2], by have := HI.out; omega, by rw [HMS.out]; rfl, HB6⟩
      case measure => simp [intOf, hi2]; have := HI.out; omega
     ·skip
      go_wp2_with (at_builtin; refine appRow (w0 := wo) rfl _ _ rfl _ i vals rfl (own_ext HB5.out.o ((Ext.refl _).alloc _)) (HB5.out.x.alloc _) _ rfl _ rfl (rd_new _ _ _ 1 _ rfl rfl) HN.out ?_; intro v' w6 g1 g2 g3 g4; obtain ⟨Y6, c6, rfl, -⟩ := own_slice g1; obtain ⟨hb6, hm6⟩ := (HB5.out.ext ((Ext.refl _).alloc _)).app (HT5.out.ext ((Ext.refl _).alloc _)) g1 g2 g3; have HB6 := Lib.hid hm6; obtain ⟨⟨t0, t1⟩, e0, e1⟩ := blk2x hb6; clear hb6 hm6 g1 g2 g3 g4)
      go_roundw
      case rel => exact ⟨i + 1, Y6, c6, _, by first | rfl | rw [hi1] | rw [hi2], by have := HI.out; omega, by rw [HMS.out]; rfl, HB6⟩
      case measure => simp [intOf, hi2]; have := HI.out; omega
    ·have hik2 : i = k := by omega
     subst hik2
     obtain ⟨sm, hsm⟩ : ∃ sm, msom i q j b.r i = sm := ⟨_, rfl⟩
     have HSM := Lib.hid hsm
     rw [hsm]
     clear hsm
     cases sm
     ·have HM1 : Hid (zs.map (·.1) = meaK i q bit b (j + 1)) := by
       show _ = meaK i q bit b j ++ mea1 i q bit j b
       rw [mea1_no HSM.out, List.append_nil]
       exact hzs
      have HOo := Lib.hid (own_ext HO.out HB.out.x)
      have HZo := Lib.hid (HZ.out.kt (KT.ext HB.out.x))
      have HXo := Lib.hid (HX.out.trans HB.out.x)
      clear HO HZ HX HB HSM hzs
      go_wp2
      go_roundw
      case rel => exact ⟨j + 1, A, c', zs, by first | rfl | rw [hj1] | rw [hj2], by have := HJ.out; omega, rfl, HM1.out, HOo, HZo, HXo⟩
      case measure => simp [intOf, hj2]; have := HJ.out; omega
     ·have HM1 : Hid (zs.map (·.1) ++ [⟨nb, fun t => side q j (b.r t)⟩] = meaK i q bit b (j + 1)) := by
       show _ = meaK i q bit b j ++ mea1 i q bit j b
       rw [mea1_yes HSM.out, hzs, HNB.out]
      have HL2 : Hid (zs.length + 1 ≤ 1000000) := by
       have h9 := meaK_len i q bit b j
       rw [← hzs, List.length_map] at h9
       have := HJ.out
       unfold Hid
       omega
      obtain ⟨⟨t0, t1⟩, -⟩ := blk2x HB.out.b
      have HOo := Lib.hid (own_ext HO.out HB.out.x)
      have HZo : Hid (ZX _ i l (zs ++ [((⟨nb, fun t => side q j (b.r t)⟩, Y, cy) : Zb)])) := (HZ.out.kt (KT.ext HB.out.x)).app (ZX.one (TX.own HB.out.o hk0 HB.out.m))
      have HXo := Lib.hid (HX.out.trans HB.out.x)
      clear HO HZ HX HB HSM
      go_wp2_with (at_builtin; refine appBr (w0 := wP) rfl _ _ rfl _ zs.length (zcells i zs) rfl (own_ext HOo.out ((Ext.refl _).alloc _)) (HXo.out.alloc _) _ 1 1 i [((⟨nb, fun t => side q j (b.r t)⟩, Y, cy) : Zb)] rfl (rd_new _ _ _ 2 _ rfl rfl) HL2.out ?_; intro v' w6 g1 g2 g3 g4)
      obtain ⟨A6, c6, rfl, -⟩ := own_slice g1
      have HO6 : Hid (w6.ownsRow wP.heap.size 47 2 (.slice A6 (zs ++ [((⟨nb, fun t => side q j (b.r t)⟩, Y, cy) : Zb)]).length c6) (zs ++ [((⟨nb, fun t => side q j (b.r t)⟩, Y, cy) : Zb)]).length (zcells i (zs ++ [((⟨nb, fun t => side q j (b.r t)⟩, Y, cy) : Zb)]))) := by
       unfold Hid zcells
       rw [List.length_append, List.flatMap_append]
       exact g1
      have HZ6 := Lib.hid ((HZo.out.kt (KT.ext ((Ext.refl _).alloc _))).kt (KT.grown (own_ext HOo.out ((Ext.refl _).alloc _)) (by decide) g3))
      have HX6 := Lib.hid g2
      clear g1 g2 g3 g4 HOo HZo HXo
      go_roundw
      case rel => exact ⟨j + 1, A6, c6, _, by first | rfl | rw [hj1] | rw [hj2], by have := HJ.out; omega, by rw [List.length_append]; rfl, by rw [List.map_append]; exact HM1.out, HO6, HZ6, HX6⟩
      case measure => simp [intOf, hj2]; have := HJ.out; omega
  ·have hj2 : j = 2 := by omega
   subst hj2
   go_wp2
   go_ret
   exact ⟨⟨_, _, _, rfl, by rw [hzs]; rfl, Rd.own HO.out, HZ.out⟩, HEP.out.trans HX.out⟩
end Go.Proofs.YtdjckjfclhjpcaaGreat
namespace Go.Proofs.YtdjckjfclhjpcaaGreat
open Go.ChangeShapes Go.WideShapes Go.ChangeAt Go.RowKit Go.Deep
set_option linter.unusedVariables false
set_option linter.unusedSimpArgs false
theorem Tryz.sizeBranch : (Tryz.prog.info? 47).map (·.size) = some 2 := by kernel_rfl
theorem retBr {fn : Func} {p : Tmp} {a : Act} {w0 w : World} {q : Nat} {v0 v1 z0 z1 : Value} {post : Ending → World → Prop} (hf : fn.results = #[.cell p 47]) (hp : a.tmps.getD p undef = .pointer (some ⟨q, 0, none⟩)) (hd : a.defers = []) (hB : Blk w q 47 #[z0, z1]) (hq : w0.heap.size ≤ q) (hx : Ext w0 w)
  (h : ∀ W2, Blk W2 q 47 #[v0, v1] → KT w W2 → Ext w0 W2 → post (.returned (.agg #[v0, v1])) W2) : bodyPost Tryz.prog fn post Exit.ret a ((w.setCell ⟨q, 0, none⟩ v0).setCell ⟨q, 1, none⟩ v1) := by
 have hB1 := hB.set_ 0 v0
 exact bodyPost_ret (v := .agg #[v0, v1]) (results_cell_row hf a.tmps _ q 47 _ (0, 0) _ hp (hB1.set_ 1 v1) Tryz.underlying47 rfl Tryz.sizeBranch) hd (h _ (hB1.set_ 1 v1) ((KT.set_ hB (by decide) v0).trans (KT.set_ hB1 (by decide) v1)) ((hx.setCell (p := ⟨q, 0, none⟩) hq v0).setCell (p := ⟨q, 1, none⟩) hq v1))
set_option maxRecDepth 100000 in
set_option maxHeartbeats 8000000 in
theorem InitialBranch_any {n inn : Nat} (hn1 : 1 ≤ n) (hn4 : n ≤ 4) (hi1 : 1 ≤ inn) (hin : inn ≤ n) (w : World) :
  Calls Tryz.prog 29 #[.int .i64 n, .int .i64 inn] w fun e w' => (∃ (X : Option Addr) (c : Nat), e = .returned (.agg #[.int .i64 0, .slice X (2 ^ inn) c]) ∧ TX w' X (2 ^ inn) (2 ^ n) (fun j => basis n j)) ∧ Ext w w' := by
 have hk16 : 2 ^ inn ≤ 16 := by rcases (show inn = 1 ∨ inn = 2 ∨ inn = 3 ∨ inn = 4 by omega) with rfl | rfl | rfl | rfl <;> decide
 have hk0 : 0 < 2 ^ inn := Nat.pow_pos (by decide)
 have HBS : Hid (∀ (i : Nat) (w' : World), i < 2 ^ inn → Calls Tryz.prog 42 #[.int .i64 n, .int .i64 i] w' fun e w'' => (∃ v, e = .returned v ∧ TOut (2 ^ n) (basis n i) v w'') ∧ Ext w' w'') := fun i w' hi => BasisState_t hn1 hn4 i (Nat.lt_of_lt_of_le hi (Nat.pow_le_pow_right (by decide) hin)) w'
 have hsh := pow_shift hi1 (Nat.le_trans hin hn4)
 have h64 : IntKind.u64.wrap (inn : Int) = (inn : Int) := by rcases (show inn = 1 ∨ inn = 2 ∨ inn = 3 ∨ inn = 4 by omega) with rfl | rfl | rfl | rfl <;> rfl
 have hn1' : (1 : Int) ≤ (n : Int) := by omega
 have hn4' : (n : Int) ≤ 4 := by omega
 have hi1' : (1 : Int) ≤ (inn : Int) := by omega
 have hi4' : (inn : Int) ≤ (n : Int) := by omega
 obtain ⟨k, hk⟩ : ∃ k, 2 ^ inn = k := ⟨_, rfl⟩
 obtain ⟨l, hl⟩ : ∃ l, 2 ^ n = l := ⟨_, rfl⟩
 rw [hk] at hk16 hk0 HBS hsh ⊢
 rw [hl] at HBS ⊢
 clear hk hl
 go_enter Tryz.func29, Tryz.ntmps29
 go_wp2_with fail
 refine (l1In_yes _ _ _ _ hn1' hn4').mono ?_
 rintro e w' ⟨rfl, rfl⟩
 go_wp2_with fail
 refine (l1In_yes _ _ _ _ hi1' hi4').mono ?_
 rintro e w' ⟨rfl, rfl⟩
 clear hn1' hn4' hi4'
 have hin4 : inn ≤ 4 := Nat.le_trans hin hn4
 go_upto_region 5 with (fail)
 have HR0 : Hid (Blk (w.alloc (.cells #[.int .i64 0, .slice none 0 0] 47)) w.heap.size 47 #[.int .i64 0, .slice none 0 0]) := Blk.new _ _ _
 have HX0 : Hid (Ext w (w.alloc (.cells #[.int .i64 0, .slice none 0 0] 47))) := (Ext.refl _).alloc _
 have hs0 : (w.alloc (.cells #[.int .i64 0, .slice none 0 0] 47)).heap.size = w.heap.size + 1 := by simp
 have HB0 : Hid (MB (w.alloc (.cells #[.int .i64 0, .slice none 0 0] 47)) ((w.alloc (.cells #[.int .i64 0, .slice none 0 0] 47)).alloc (.cells #[.int .i64 0, .slice none 0 0] 47)) (w.heap.size + 1) 0 none 0 0 l [] (fun j => basis n j)) := ⟨Blk.newAt hs0.symm, own_nil1 _ _ _ _, MV.nil, (Ext.refl _).alloc _, by omega⟩
 generalize (w.alloc (.cells #[.int .i64 0, .slice none 0 0] 47)).alloc (.cells #[.int .i64 0, .slice none 0 0] 47) = w1 at *
 generalize w.alloc (.cells #[.int .i64 0, .slice none 0 0] 47) = w0 at *
 obtain ⟨s, hs⟩ : ∃ s, w.heap.size + 1 = s := ⟨_, rfl⟩
 rw [hs] at HB0 hs0 ⊢
 obtain ⟨rb, hr⟩ : ∃ rb, w.heap.size = rb := ⟨_, rfl⟩
 have HRB : Hid (w.heap.size ≤ rb ∧ rb < s) := ⟨by omega, by omega⟩
 rw [hr] at HR0 ⊢
 clear hs hr hs0
 go_loopw [6] (fun iv wi => ∃ (i : Nat) (Y : Option Addr) (cy : Nat) (vals : List Value), iv = .int .i64 i ∧ i ≤ k ∧ Hid (MB w0 wi s 0 Y i cy l vals (fun j => basis n j))) (fun i _ => k - (intOf i).toNat)
 case atStart => exact ⟨0, none, 0, [], rfl, Nat.zero_le _, HB0⟩
 case round =>
  obtain ⟨i, Y, cy, vals, rfl, hi, HB⟩ := hrel
  clear HB0
  by_cases hik : i < k
  ·have hi1 : IntKind.i64.wrap ((i : Int) + 1) = ((i + 1 : Nat) : Int) := by rw [IntWalk.i64_in _ (by omega)]; rfl
   have hi2 : wrap64 ((i : Int) + 1) = ((i + 1 : Nat) : Int) := by unfold wrap64; omega
   have HI : Hid (i < k ∧ k ≤ 16) := ⟨hik, hk16⟩
   have HN : Hid (i + 1 ≤ 2000000000000) := by have := HI.out; unfold Hid; omega
   go_upto_region 7 with (fail)
   refine wp_region_held_drew (S := fun _ => True) (by kernel_rfl) (trivial) (fun hHeld => ?_)
   (refine tk 0 (v := ?_) ?_ ?_; rotate_left; · (intro w hSw; (try dsimp only at hSw); go_simp; all_goals with_reducible rfl))
   (try simp only [Act.put, L1, L2, L3, L4, L5, L6])
   (refine tk 2 (v := ?_) ?_ ?_; rotate_left; · (intro w hSw; (try dsimp only at hSw); go_simp; all_goals with_reducible rfl))
   (try simp only [Act.put, L1, L2, L3, L4, L5, L6])
   (refine tk 3 (v := ?_) ?_ ?_; rotate_left; · (intro w hSw; (try dsimp only at hSw); go_simp; all_goals with_reducible rfl))
   (try simp only [Act.put, L1, L2, L3, L4, L5, L6])
   replace HB : Hid (MB w0 wr.drew s 0 Y i cy l vals (fun j => basis n j)) := HB.out.ext (Ext.refl wr).drew
   generalize wr.drew = wd at *
   obtain ⟨⟨q0, q1⟩, -⟩ := blk2x HB.out.b
   refine wpAnyH_ready (rs := [1, 4]) (by kernel_rfl) (by simp) ?_
   refine AllReadyH.cons rfl (fun K hK => ?_) (AllReadyH.cons rfl (fun K hK => ?_) AllReadyH.nil)
   ·skip
    go_simp
    refine hK.out _ _ (trivial) (fun hHeld => ?_)
    clear hK K
    (try simp only [Act.put, L1, L2, L3, L4, L5, L6])
    clear q0 q1
    refine wpAnyH_ready (rs := [4]) (by kernel_rfl) (by simp) ?_
    refine AllReadyH.cons rfl (fun K hK => ?_) AllReadyH.nil
    go_simp
    refine (HBS.out i _ HI.out.1).mono ?_
    rintro e wc ⟨⟨v5, rfl, b5, c5, rfl, ht5⟩, hx5⟩
    replace HB := Lib.hid (HB.out.ext hx5)
    have HT := Lib.hid ht5
    clear ht5 hx5
    refine hK.out _ _ (trivial) (fun hHeld => ?_)
    clear hK K
    (try simp only [Act.put, L1, L2, L3, L4, L5, L6])
    refine wpAnyH_ready (rs := [5]) (by kernel_rfl) (by simp) ?_
    refine AllReadyH.cons rfl (fun K hK => ?_) AllReadyH.nil
    go_simp
    have hxA : Ext wc (wc.alloc (.cells #[.slice (some ⟨b5, 0, none⟩) l c5] 66)) := (Ext.refl _).alloc _
    obtain ⟨la, hla⟩ : ∃ la, wc.heap.size = la := ⟨_, rfl⟩
    have HR : Hid (Rd (wc.alloc (.cells #[.slice (some ⟨b5, 0, none⟩) l c5] 66)) (wc.alloc (.cells #[.slice (some ⟨b5, 0, none⟩) l c5] 66)).heap.size 1 (some ⟨la, 0, none⟩) 1 [.slice (some ⟨b5, 0, none⟩) l c5]) := by rw [← hla]; exact rd_new _ _ _ 1 _ rfl rfl
    replace HB := Lib.hid (HB.out.ext hxA)
    replace HT := Lib.hid (HT.out.ext hxA)
    try rw [hla]
    refine hK.out _ _ (trivial) (fun hHeld => ?_)
    clear hK K
    (try simp only [Act.put, L1, L2, L3, L4, L5, L6])
    clear hxA hla
    generalize (wc.alloc (.cells #[.slice (some ⟨b5, 0, none⟩) l c5] 66)) = wl at *
    refine wpAnyH_ready (rs := [6]) (by kernel_rfl) (by simp) ?_
    refine AllReadyH.cons rfl (fun K hK => ?_) AllReadyH.nil
    refine stepRow (w0 := w0) rfl _ _ rfl _ i vals rfl HB.out.o HB.out.x _ rfl la rfl HR.out HN.out ?_
    intro v6 w6 g1 g2 g3 g4
    obtain ⟨Y6, c6, rfl, -⟩ := own_slice g1
    obtain ⟨hb6, hm6⟩ := HB.out.app HT.out g1 g2 g3
    have HB6 := Lib.hid hm6
    obtain ⟨⟨t0, t1⟩, e0, e1⟩ := blk2x hb6
    clear hb6 hm6 g1 g2 g3 g4 HB HT HR
    refine hK.out _ _ (trivial) (fun hHeld => ?_)
    clear hK K
    (try simp only [Act.put, L1, L2, L3, L4, L5, L6])
    (refine tk 7 (v := ?_) ?_ ?_; rotate_left; · (intro w hSw; (try dsimp only at hSw); go_simp; all_goals with_reducible rfl))
    (try simp only [Act.put, L1, L2, L3, L4, L5, L6])
    refine wpAnyH_ready (rs := [8]) (by kernel_rfl) (by simp) ?_
    refine AllReadyH.cons rfl (fun K hK => ?_) AllReadyH.nil
    go_simp
    refine hK.out _ _ (trivial) (fun hHeld => ?_)
    clear hK K
    (try simp only [Act.put, L1, L2, L3, L4, L5, L6])
    (refine wpAnyH_done (by kernel_rfl) ?_ _)
    clear hHeld t0 t1 e0 e1
    go_wp2
    go_roundw
    case rel => exact ⟨i + 1, Y6, c6, _, by first | rfl | rw [hi1] | rw [hi2], by have := HI.out; omega, HB6⟩
    case measure => simp [intOf, hi2]; have := HI.out; omega
   ·skip
    clear q0 q1
    go_simp
    refine (HBS.out i _ HI.out.1).mono ?_
    rintro e wc ⟨⟨v5, rfl, b5, c5, rfl, ht5⟩, hx5⟩
    replace HB := Lib.hid (HB.out.ext hx5)
    have HT := Lib.hid ht5
    clear ht5 hx5
    refine hK.out _ _ (trivial) (fun hHeld => ?_)
    clear hK K
    (try simp only [Act.put, L1, L2, L3, L4, L5, L6])
    obtain ⟨⟨q0, q1⟩, -⟩ := blk2x HB.out.b
    refine wpAnyH_ready (rs := [1, 5]) (by kernel_rfl) (by simp) ?_
    refine AllReadyH.cons rfl (fun K hK => ?_) (AllReadyH.cons rfl (fun K hK => ?_) AllReadyH.nil)
    ·skip
     go_simp
     refine hK.out _ _ (trivial) (fun hHeld => ?_)
     clear hK K
     (try simp only [Act.put, L1, L2, L3, L4, L5, L6])
     clear q0 q1
     refine wpAnyH_ready (rs := [5]) (by kernel_rfl) (by simp) ?_
     refine AllReadyH.cons rfl (fun K hK => ?_) AllReadyH.nil
     go_simp
     have hxA : Ext wc (wc.alloc (.cells #[.slice (some ⟨b5, 0, none⟩) l c5] 66)) := (Ext.refl _).alloc _
     obtain ⟨la, hla⟩ : ∃ la, wc.heap.size = la := ⟨_, rfl⟩
     have HR : Hid (Rd (wc.alloc (.cells #[.slice (some ⟨b5, 0, none⟩) l c5] 66)) (wc.alloc (.cells #[.slice (some ⟨b5, 0, none⟩) l c5] 66)).heap.size 1 (some ⟨la, 0, none⟩) 1 [.slice (some ⟨b5, 0, none⟩) l c5]) := by rw [← hla]; exact rd_new _ _ _ 1 _ rfl rfl
     replace HB := Lib.hid (HB.out.ext hxA)
     replace HT := Lib.hid (HT.out.ext hxA)
     try rw [hla]
     refine hK.out _ _ (trivial) (fun hHeld => ?_)
     clear hK K
     (try simp only [Act.put, L1, L2, L3, L4, L5, L6])
     clear hxA hla
     generalize (wc.alloc (.cells #[.slice (some ⟨b5, 0, none⟩) l c5] 66)) = wl at *
     refine wpAnyH_ready (rs := [6]) (by kernel_rfl) (by simp) ?_
     refine AllReadyH.cons rfl (fun K hK => ?_) AllReadyH.nil
     refine stepRow (w0 := w0) rfl _ _ rfl _ i vals rfl HB.out.o HB.out.x _ rfl la rfl HR.out HN.out ?_
     intro v6 w6 g1 g2 g3 g4
     obtain ⟨Y6, c6, rfl, -⟩ := own_slice g1
     obtain ⟨hb6, hm6⟩ := HB.out.app HT.out g1 g2 g3
     have HB6 := Lib.hid hm6
     obtain ⟨⟨t0, t1⟩, e0, e1⟩ := blk2x hb6
     clear hb6 hm6 g1 g2 g3 g4 HB HT HR
     refine hK.out _ _ (trivial) (fun hHeld => ?_)
     clear hK K
     (try simp only [Act.put, L1, L2, L3, L4, L5, L6])
     (refine tk 7 (v := ?_) ?_ ?_; rotate_left; · (intro w hSw; (try dsimp only at hSw); go_simp; all_goals with_reducible rfl))
     (try simp only [Act.put, L1, L2, L3, L4, L5, L6])
     refine wpAnyH_ready (rs := [8]) (by kernel_rfl) (by simp) ?_
     refine AllReadyH.cons rfl (fun K hK => ?_) AllReadyH.nil
     go_simp
     refine hK.out _ _ (trivial) (fun hHeld => ?_)
     clear hK K
     (try simp only [Act.put, L1, L2, L3, L4, L5, L6])
     (refine wpAnyH_done (by kernel_rfl) ?_ _)
     clear hHeld t0 t1 e0 e1
     go_wp2
     go_roundw
     case rel => exact ⟨i + 1, Y6, c6, _, by first | rfl | rw [hi1] | rw [hi2], by have := HI.out; omega, HB6⟩
     case measure => simp [intOf, hi2]; have := HI.out; omega
    ·skip
     clear q0 q1
     go_simp
     have hxA : Ext wc (wc.alloc (.cells #[.slice (some ⟨b5, 0, none⟩) l c5] 66)) := (Ext.refl _).alloc _
     obtain ⟨la, hla⟩ : ∃ la, wc.heap.size = la := ⟨_, rfl⟩
     have HR : Hid (Rd (wc.alloc (.cells #[.slice (some ⟨b5, 0, none⟩) l c5] 66)) (wc.alloc (.cells #[.slice (some ⟨b5, 0, none⟩) l c5] 66)).heap.size 1 (some ⟨la, 0, none⟩) 1 [.slice (some ⟨b5, 0, none⟩) l c5]) := by rw [← hla]; exact rd_new _ _ _ 1 _ rfl rfl
     replace HB := Lib.hid (HB.out.ext hxA)
     replace HT := Lib.hid (HT.out.ext hxA)
     try rw [hla]
     refine hK.out _ _ (trivial) (fun hHeld => ?_)
     clear hK K
     (try simp only [Act.put, L1, L2, L3, L4, L5, L6])
     clear hxA hla
     generalize (wc.alloc (.cells #[.slice (some ⟨b5, 0, none⟩) l c5] 66)) = wl at *
     obtain ⟨⟨q0, q1⟩, -⟩ := blk2x HB.out.b
     refine wpAnyH_ready (rs := [1]) (by kernel_rfl) (by simp) ?_
     refine AllReadyH.cons rfl (fun K hK => ?_) AllReadyH.nil
     go_simp
     refine hK.out _ _ (trivial) (fun hHeld => ?_)
     clear hK K
     (try simp only [Act.put, L1, L2, L3, L4, L5, L6])
     clear q0 q1
     refine wpAnyH_ready (rs := [6]) (by kernel_rfl) (by simp) ?_
     refine AllReadyH.cons rfl (fun K hK => ?_) AllReadyH.nil
     refine stepRow (w0 := w0) rfl _ _ rfl _ i vals rfl HB.out.o HB.out.x _ rfl la rfl HR.out HN.out ?_
     intro v6 w6 g1 g2 g3 g4
     obtain ⟨Y6, c6, rfl, -⟩ := own_slice g1
     obtain ⟨hb6, hm6⟩ := HB.out.app HT.out g1 g2 g3
     have HB6 := Lib.hid hm6
     obtain ⟨⟨t0, t1⟩, e0, e1⟩ := blk2x hb6
     clear hb6 hm6 g1 g2 g3 g4 HB HT HR
     refine hK.out _ _ (trivial) (fun hHeld => ?_)
     clear hK K
     (try simp only [Act.put, L1, L2, L3, L4, L5, L6])
     (refine tk 7 (v := ?_) ?_ ?_; rotate_left; · (intro w hSw; (try dsimp only at hSw); go_simp; all_goals with_reducible rfl))
     (try simp only [Act.put, L1, L2, L3, L4, L5, L6])
     refine wpAnyH_ready (rs := [8]) (by kernel_rfl) (by simp) ?_
     refine AllReadyH.cons rfl (fun K hK => ?_) AllReadyH.nil
     go_simp
     refine hK.out _ _ (trivial) (fun hHeld => ?_)
     clear hK K
     (try simp only [Act.put, L1, L2, L3, L4, L5, L6])
     (refine wpAnyH_done (by kernel_rfl) ?_ _)
     clear hHeld t0 t1 e0 e1
     go_wp2
     go_roundw
     case rel => exact ⟨i + 1, Y6, c6, _, by first | rfl | rw [hi1] | rw [hi2], by have := HI.out; omega, HB6⟩
     case measure => simp [intOf, hi2]; have := HI.out; omega
  ·have hik2 : i = k := by omega
   subst hik2
   have HRW := Lib.hid (HR0.out.ext HB.out.x)
   obtain ⟨⟨q0, q1⟩, -⟩ := blk2x HB.out.b
   obtain ⟨⟨t0, t1⟩, e0, e1⟩ := blk2x HRW.out
   go_wp2
   refine retBr rfl rfl rfl HRW.out HRB.out.1 (HX0.out.trans HB.out.x) fun W2 hB2 hk2 hx2 => ⟨⟨Y, cy, rfl, (TX.own HB.out.o hk0 HB.out.m).kt hk2⟩, hx2⟩
theorem skp_0 {cond : Int} {bits : Nat} (h : ¬ 0 < cond) : skp cond bits = false := by unfold skp; rw [decide_eq_false h]; rfl
theorem skp_1 {cond : Int} {bits : Nat} (h : 0 < cond) : skp cond bits = !bt bits (cond - 1).toNat := by unfold skp; rw [decide_eq_true h]; rfl
theorem TX.at_ {w : World} {X : Option Addr} {k l j : Nat} {r : Nat → List Dw} (h : TX w X k l r) (hj : j < k) : ∃ bx b c, X = some ⟨bx, 0, none⟩ ∧ (∀ w', Ext w w' → w'.cell? ⟨bx, j, none⟩ = some (.slice (some ⟨b, 0, none⟩) l c)) ∧ TT w b l (r j) := by
 obtain ⟨bx, cs, vals, h0, h1, h2, h3⟩ := h
 obtain ⟨b, c, hv, ht⟩ := h3.2 j hj
 obtain ⟨b', o', e, hb', hc⟩ := h2.2 (by omega)
 injection e with e
 injection e with e1 e2
 subst e1 e2
 refine ⟨bx, b, c, h0, fun w' hx => ?_, ht⟩
 have h9 := hc j _ hv
 rw [Nat.zero_add] at h9
 exact (hx.cell (p := ⟨bx, j, none⟩) h1.lt).trans h9
theorem bits_b0 {m q : Nat} (hb : m < 16) (hq : q < 4) : (bits BinOp.and IntKind.i64 ((m : Int) / 2 ^ q) 1 == 0) = !bt m q := beq_iff_eq.1 (of_chk chk_and0 hb hq)
theorem blk8x {w : World} {g t : Nat} {a0 a1 a2 a3 a4 a5 a6 a7 : Value} (h : Blk w g t #[a0, a1, a2, a3, a4, a5, a6, a7]) : w.cell? ⟨g, 0, none⟩ = some a0 ∧ w.cell? ⟨g, 1, none⟩ = some a1 ∧ w.cell? ⟨g, 2, none⟩ = some a2 ∧ w.cell? ⟨g, 3, none⟩ = some a3 ∧ w.cell? ⟨g, 4, none⟩ = some a4 ∧ w.cell? ⟨g, 5, none⟩ = some a5 ∧ w.cell? ⟨g, 6, none⟩ = some a6 ∧ w.cell? ⟨g, 7, none⟩ = some a7 := ⟨h.cell 0, h.cell 1, h.cell 2, h.cell 3, h.cell 4, h.cell 5, h.cell 6, h.cell 7⟩
/-- What l23Gate returns. -/
def GaR (k l : Nat) (b' : Brn) (e : Ending) (w' : World) : Prop := ∃ (X : Option Addr) (c : Nat), e = .returned (.tuple #[.agg #[.int .i64 b'.bits, .slice X k c], .bool true]) ∧ TX w' X k l b'.r
theorem retBrT {fn : Func} {p u : Tmp} {a : Act} {w0 w : World} {q : Nat} {v0 v1 z0 z1 : Value} {post : Ending → World → Prop} (hf : fn.results = #[.cell p 47, .tmp u]) (hp : a.tmps.getD p undef = .pointer (some ⟨q, 0, none⟩)) (hu : a.tmps.getD u undef = .bool true) (hd : a.defers = []) (hB : Blk w q 47 #[z0, z1]) (hq : w0.heap.size ≤ q) (hx : Ext w0 w)
  (h : ∀ W2, Blk W2 q 47 #[v0, v1] → KT w W2 → Ext w0 W2 → post (.returned (.tuple #[.agg #[v0, v1], .bool true])) W2) : bodyPost Tryz.prog fn post Exit.ret a ((w.setCell ⟨q, 0, none⟩ v0).setCell ⟨q, 1, none⟩ v1) := by
 have hB1 := hB.set_ 0 v0
 exact bodyPost_ret (v := .tuple #[.agg #[v0, v1], .bool true]) (ret_pair hf a.tmps _ q 47 _ _ _ hp hu (hB1.set_ 1 v1) Tryz.underlying47 rfl Tryz.sizeBranch) hd (h _ (hB1.set_ 1 v1) ((KT.set_ hB (by decide) v0).trans (KT.set_ hB1 (by decide) v1)) ((hx.setCell (p := ⟨q, 0, none⟩) hq v0).setCell (p := ⟨q, 1, none⟩) hq v1))
set_option maxRecDepth 100000 in
set_option maxHeartbeats 8000000 in
theorem l23Gate_any {n k : Nat} (hn1 : 1 ≤ n) (hn4 : n ≤ 4) (hk0 : 0 < k) (hk16 : k ≤ 16) (o : Oq) (b b' : Brn) (hS : StG n o.g o.cond b b') (hc3 : o.cond ≤ 3) (hb : b.bits < 16) (X : Option Addr) (c : Nat) (w : World) (h : TX w X k (2 ^ n) b.r) :
  Calls Tryz.prog 43 #[.agg #[.int .i64 b.bits, .slice X k c], o.val] w fun e w' => GaR k (2 ^ n) b' e w' ∧ Ext w w' := by
 obtain ⟨hbits, hS⟩ := hS
 have HBI : Hid (b'.bits = b.bits) := hbits
 have HTX := Lib.hid h
 have HSS := Lib.hid hS
 clear h hS hbits
 generalize 2 ^ n = l at *
 go_enter Tryz.func43, Tryz.ntmps43
 go_upto_region 1 with (fail)
 have hs3 : (((w.alloc (.cells #[.int .i64 b.bits, .slice X k c] 47)).alloc (.cells #[.int .i64 o.k, .int .i64 o.g.k, .int .i64 o.g.a, .int .i64 o.g.b, .int .i64 o.g.c, .int .i64 o.q, .int .i64 o.bit, .int .i64 o.cond] 40)).alloc (.cells #[.int .i64 0, .slice none 0 0] 47)).heap.size = w.heap.size + 1 + 1 + 1 := by simp
 have HPB : Hid (Blk (((w.alloc (.cells #[.int .i64 b.bits, .slice X k c] 47)).alloc (.cells #[.int .i64 o.k, .int .i64 o.g.k, .int .i64 o.g.a, .int .i64 o.g.b, .int .i64 o.g.c, .int .i64 o.q, .int .i64 o.bit, .int .i64 o.cond] 40)).alloc (.cells #[.int .i64 0, .slice none 0 0] 47)) w.heap.size 47 #[.int .i64 b.bits, .slice X k c]) := (((Blk.new _ _ _).alloc _).alloc _)
 have HPO : Hid (Blk (((w.alloc (.cells #[.int .i64 b.bits, .slice X k c] 47)).alloc (.cells #[.int .i64 o.k, .int .i64 o.g.k, .int .i64 o.g.a, .int .i64 o.g.b, .int .i64 o.g.c, .int .i64 o.q, .int .i64 o.bit, .int .i64 o.cond] 40)).alloc (.cells #[.int .i64 0, .slice none 0 0] 47)) (w.heap.size + 1) 40 #[.int .i64 o.k, .int .i64 o.g.k, .int .i64 o.g.a, .int .i64 o.g.b, .int .i64 o.g.c, .int .i64 o.q, .int .i64 o.bit, .int .i64 o.cond]) := (Blk.newAt (by simp)).alloc _
 have HR0 : Hid (Blk (((w.alloc (.cells #[.int .i64 b.bits, .slice X k c] 47)).alloc (.cells #[.int .i64 o.k, .int .i64 o.g.k, .int .i64 o.g.a, .int .i64 o.g.b, .int .i64 o.g.c, .int .i64 o.q, .int .i64 o.bit, .int .i64 o.cond] 40)).alloc (.cells #[.int .i64 0, .slice none 0 0] 47)) (w.heap.size + 1 + 1) 47 #[.int .i64 0, .slice none 0 0]) := Blk.newAt (by simp)
 have HX0 : Hid (Ext w (((w.alloc (.cells #[.int .i64 b.bits, .slice X k c] 47)).alloc (.cells #[.int .i64 o.k, .int .i64 o.g.k, .int .i64 o.g.a, .int .i64 o.g.b, .int .i64 o.g.c, .int .i64 o.q, .int .i64 o.bit, .int .i64 o.cond] 40)).alloc (.cells #[.int .i64 0, .slice none 0 0] 47))) := (((Ext.refl _).alloc _).alloc _).alloc _
 generalize (((w.alloc (.cells #[.int .i64 b.bits, .slice X k c] 47)).alloc (.cells #[.int .i64 o.k, .int .i64 o.g.k, .int .i64 o.g.a, .int .i64 o.g.b, .int .i64 o.g.c, .int .i64 o.q, .int .i64 o.bit, .int .i64 o.cond] 40)).alloc (.cells #[.int .i64 0, .slice none 0 0] 47)) = w0 at *
 obtain ⟨rb, hrb⟩ : ∃ rb, w.heap.size + 1 + 1 = rb := ⟨_, rfl⟩
 obtain ⟨po, hpo⟩ : ∃ po, w.heap.size + 1 = po := ⟨_, rfl⟩
 obtain ⟨p, hp⟩ : ∃ p, w.heap.size = p := ⟨_, rfl⟩
 have HRB : Hid (w.heap.size ≤ rb) := by unfold Hid; omega
 rw [hrb] at HR0 ⊢
 rw [hpo] at HPO ⊢
 rw [hp] at HPB ⊢
 clear hrb hpo hp hs3
 obtain ⟨⟨p0, p1⟩, -⟩ := blk2x HPB.out
 obtain ⟨o0, o1, o2, o3, o4, o5, o6, o7⟩ := blk8x HPO.out
 by_cases hcd : 0 < o.cond
 ·obtain ⟨q, hq⟩ := Int.eq_ofNat_of_zero_le (show 0 ≤ o.cond - 1 by omega)
  have hq3 : q < 3 := by omega
  have hab := bits_b0 (q := q) hb (by omega)
  have hw1 : IntKind.i64.wrap (o.cond - 1) = (q : Int) := by rw [hq]; exact IntWalk.i64_in _ (by omega)
  have hw2 : wrap64 (o.cond - 1) = (q : Int) := by rw [hq]; unfold wrap64; omega
  have hsk : skp o.cond b.bits = !bt b.bits q := by rw [skp_1 hcd, hq]; rfl
  unfold Hid at HSS
  rw [hsk] at HSS
  cases hbt : bt b.bits q with
  | false =>
   rw [hbt] at HSS hab
   have HE : b' = b := by rw [if_pos (show (!false) = true from rfl)] at HSS; exact HSS
   subst HE
   clear HSS hsk hbt hq
   obtain ⟨⟨t0, t1⟩, e0, e1⟩ := blk2x HR0.out
   go_wp2
   refine retBrT rfl rfl rfl rfl HR0.out HRB.out HX0.out fun W2 hB2 hk2 hx2 => ⟨⟨X, c, rfl, HTX.out.kt ((KT.ext HX0.out).trans hk2)⟩, hx2⟩
  | true =>
   rw [hbt] at HSS hab
   have HACT : Hid (∀ j, Acts l o.g (b.r j) (b'.r j)) := by rw [if_neg (show ¬ (!true) = true by decide)] at HSS; exact HSS
   clear HSS hsk hbt
   go_upto_region 5 with (fail)
   clear p0 p1 o0 o1 o2 o3 o4 o5 o6 o7
   have HB0 : Hid (MB w0 (w0.alloc (.cells #[.int .i64 b.bits, .slice none 0 0] 47)) w0.heap.size b.bits none 0 0 l [] b'.r) := ⟨Blk.new _ _ _, own_nil1 _ _ _ _, MV.nil, (Ext.refl _).alloc _, Nat.le_refl _⟩
   generalize w0.alloc (.cells #[.int .i64 b.bits, .slice none 0 0] 47) = wa at *
   obtain ⟨s, hs⟩ : ∃ s, w0.heap.size = s := ⟨_, rfl⟩
   rw [hs] at HB0 ⊢
   clear hs
   go_loopw [7] (fun iv wi => ∃ (i : Nat) (Y : Option Addr) (cy : Nat) (vals : List Value), iv = .int .i64 i ∧ i ≤ k ∧ Hid (MB w0 wi s b.bits Y i cy l vals b'.r)) (fun i _ => k - (intOf i).toNat)
   case atStart => exact ⟨0, none, 0, [], rfl, Nat.zero_le _, HB0⟩
   case round =>
    obtain ⟨i, Y, cy, vals, rfl, hi, HB⟩ := hrel
    clear HB0
    obtain ⟨⟨p0, p1⟩, -⟩ := blk2x (HPB.out.ext HB.out.x)
    by_cases hik : i < k
    ·have hi1 : IntKind.i64.wrap ((i : Int) + 1) = ((i + 1 : Nat) : Int) := by rw [IntWalk.i64_in _ (by omega)]; rfl
     have hi2 : wrap64 ((i : Int) + 1) = ((i + 1 : Nat) : Int) := by unfold wrap64; omega
     have HI : Hid (i < k ∧ k ≤ 16) := ⟨hik, hk16⟩
     have HN : Hid (i + 1 ≤ 2000000000000) := by have := HI.out; unfold Hid; omega
     obtain ⟨bx, bj, cj, hXe, hcx, ht⟩ := (HTX.out.kt (KT.ext (HX0.out.trans HB.out.x))).at_ hik
     subst hXe
     have HT := Lib.hid ht
     have HK : Hid (∀ w', Ext wr w' → ((w'.cell? ⟨po, 1, none⟩ = some (.int .i64 o.g.k) ∧ w'.cell? ⟨po, 2, none⟩ = some (.int .i64 o.g.a) ∧ w'.cell? ⟨po, 3, none⟩ = some (.int .i64 o.g.b) ∧ w'.cell? ⟨po, 4, none⟩ = some (.int .i64 o.g.c)) ∧ w'.cell? ⟨p, 1, none⟩ = some (.slice (some ⟨bx, 0, none⟩) k c) ∧ w'.cell? ⟨bx, i, none⟩ = some (.slice (some ⟨bj, 0, none⟩) l cj))) := fun w' hx => by
      obtain ⟨⟨_, h1⟩, -⟩ := blk2x (HPB.out.ext (HB.out.x.trans hx))
      obtain ⟨_, h2, h3, h4, h5, _⟩ := blk8x (HPO.out.ext (HB.out.x.trans hx))
      exact ⟨⟨h2, h3, h4, h5⟩, h1, hcx w' hx⟩
     clear ht hcx
     go_upto_region 7 with (fail)
     clear p0 p1
     refine wp_region_held_drew (S := fun w' => ((w'.cell? ⟨po, 1, none⟩ = some (.int .i64 o.g.k) ∧ w'.cell? ⟨po, 2, none⟩ = some (.int .i64 o.g.a) ∧ w'.cell? ⟨po, 3, none⟩ = some (.int .i64 o.g.b) ∧ w'.cell? ⟨po, 4, none⟩ = some (.int .i64 o.g.c)) ∧ w'.cell? ⟨p, 1, none⟩ = some (.slice (some ⟨bx, 0, none⟩) k c) ∧ w'.cell? ⟨bx, i, none⟩ = some (.slice (some ⟨bj, 0, none⟩) l cj))) (by kernel_rfl) (HK.out _ (Ext.refl wr).drew) (fun hHeld => ?_)
     (refine tk 0 (v := ?_) ?_ ?_; rotate_left; · (intro w hSw; (try dsimp only at hSw); go_simp; all_goals with_reducible rfl))
     (try simp only [Act.put, L1, L2, L3, L4, L5, L6])
     (refine tk 1 (v := ?_) ?_ ?_; rotate_left; · (intro w hSw; (try dsimp only at hSw); go_simp; all_goals with_reducible rfl))
     (try simp only [Act.put, L1, L2, L3, L4, L5, L6])
     (refine tk 2 (v := ?_) ?_ ?_; rotate_left; · (intro w hSw; (try dsimp only at hSw); go_simp; all_goals with_reducible rfl))
     (try simp only [Act.put, L1, L2, L3, L4, L5, L6])
     (refine tk 3 (v := ?_) ?_ ?_; rotate_left; · (intro w hSw; (try dsimp only at hSw); go_simp; all_goals with_reducible rfl))
     (try simp only [Act.put, L1, L2, L3, L4, L5, L6])
     (refine tk 4 (v := ?_) ?_ ?_; rotate_left; · (intro w hSw; (try dsimp only at hSw); go_simp; all_goals with_reducible rfl))
     (try simp only [Act.put, L1, L2, L3, L4, L5, L6])
     (refine tk 5 (v := ?_) ?_ ?_; rotate_left; · (intro w hSw; (try dsimp only at hSw); go_simp; all_goals with_reducible rfl))
     (try simp only [Act.put, L1, L2, L3, L4, L5, L6])
     (refine tk 6 (v := ?_) ?_ ?_; rotate_left; · (intro w hSw; (try dsimp only at hSw); go_simp; all_goals with_reducible rfl))
     (try simp only [Act.put, L1, L2, L3, L4, L5, L6])
     refine wpAnyH_ready (rs := [7]) (by kernel_rfl) (by simp) ?_
     refine AllReadyH.cons rfl (fun K hK => ?_) AllReadyH.nil
     go_simp
     refine (HACT.out i _ cj _ (HT.out.2.ext (Ext.refl wr).drew)).mono ?_
     rintro e w5 ⟨⟨v5, rfl, b5, c5, rfl, ht5⟩, hx5⟩
     have HY : Hid (Ext wr w5) := (Ext.refl wr).drew.trans hx5
     have HT5 := Lib.hid ht5
     clear ht5 hx5
     refine hK.out _ _ (HK.out _ HY.out) (fun hHeld => ?_)
     clear hK K
     (try simp only [Act.put, L1, L2, L3, L4, L5, L6])
     (refine tk 8 (v := ?_) ?_ ?_; rotate_left; · (intro w hSw; (try dsimp only at hSw); go_simp; all_goals with_reducible rfl))
     (try simp only [Act.put, L1, L2, L3, L4, L5, L6])
     (refine tk 9 (v := ?_) ?_ ?_; rotate_left; · (intro w hSw; (try dsimp only at hSw); go_simp; all_goals with_reducible rfl))
     (try simp only [Act.put, L1, L2, L3, L4, L5, L6])
     (refine tk 10 (v := ?_) ?_ ?_; rotate_left; · (intro w hSw; (try dsimp only at hSw); go_simp; all_goals with_reducible rfl))
     (try simp only [Act.put, L1, L2, L3, L4, L5, L6])
     (refine tk 11 (v := ?_) ?_ ?_; rotate_left; · (intro w hSw; (try dsimp only at hSw); go_simp; all_goals with_reducible rfl))
     (try simp only [Act.put, L1, L2, L3, L4, L5, L6])
     (refine tk 12 (v := ?_) ?_ ?_; rotate_left; · (intro w hSw; (try dsimp only at hSw); go_simp; all_goals with_reducible rfl))
     (try simp only [Act.put, L1, L2, L3, L4, L5, L6])
     (refine wpAnyH_done (by kernel_rfl) ?_ _)
     have HB5 := Lib.hid (HB.out.ext HY.out)
     clear hHeld HK HY HB HT
     obtain ⟨⟨q0, q1⟩, f0, f1⟩ := blk2x HB5.out.b
     go_wp2_with (at_builtin; refine appRow (w0 := w0) rfl _ _ rfl _ i vals rfl (own_ext HB5.out.o ((Ext.refl _).alloc _)) (HB5.out.x.alloc _) _ rfl _ rfl (rd_new _ _ _ 1 _ rfl rfl) HN.out ?_; intro v' w6 g1 g2 g3 g4; obtain ⟨Y6, c6, rfl, -⟩ := own_slice g1; obtain ⟨hb6, hm6⟩ := (HB5.out.ext ((Ext.refl _).alloc _)).app (HT5.out.ext ((Ext.refl _).alloc _)) g1 g2 g3; have HB6 := Lib.hid hm6; obtain ⟨⟨t0, t1⟩, e0, e1⟩ := blk2x hb6; clear hb6 hm6 g1 g2 g3 g4)
     go_roundw
     case rel => exact ⟨i + 1, Y6, c6, _, by first | rfl | rw [hi1] | rw [hi2], by have := HI.out; omega, HB6⟩
     case measure => simp [intOf, hi2]; have := HI.out; omega
    ·have hik2 : i = k := by omega
     subst hik2
     have HRW := Lib.hid (HR0.out.ext HB.out.x)
     obtain ⟨⟨q0, q1⟩, -⟩ := blk2x HB.out.b
     obtain ⟨⟨t0, t1⟩, e0, e1⟩ := blk2x HRW.out
     go_wp2
     refine retBrT rfl rfl rfl rfl HRW.out HRB.out (HX0.out.trans HB.out.x) fun W2 hB2 hk2 hx2 => ⟨⟨Y, cy, by rw [HBI.out], (TX.own HB.out.o hk0 HB.out.m).kt hk2⟩, hx2⟩
 ·have hsk := skp_0 (bits := b.bits) hcd
  unfold Hid at HSS
  rw [hsk] at HSS
  have HACT : Hid (∀ j, Acts l o.g (b.r j) (b'.r j)) := by rw [if_neg (show ¬ false = true by decide)] at HSS; exact HSS
  clear HSS hsk
  go_upto_region 5 with (fail)
  clear p0 p1 o0 o1 o2 o3 o4 o5 o6 o7
  have HB0 : Hid (MB w0 (w0.alloc (.cells #[.int .i64 b.bits, .slice none 0 0] 47)) w0.heap.size b.bits none 0 0 l [] b'.r) := ⟨Blk.new _ _ _, own_nil1 _ _ _ _, MV.nil, (Ext.refl _).alloc _, Nat.le_refl _⟩
  generalize w0.alloc (.cells #[.int .i64 b.bits, .slice none 0 0] 47) = wa at *
  obtain ⟨s, hs⟩ : ∃ s, w0.heap.size = s := ⟨_, rfl⟩
  rw [hs] at HB0 ⊢
  clear hs
  go_loopw [7] (fun iv wi => ∃ (i : Nat) (Y : Option Addr) (cy : Nat) (vals : List Value), iv = .int .i64 i ∧ i ≤ k ∧ Hid (MB w0 wi s b.bits Y i cy l vals b'.r)) (fun i _ => k - (intOf i).toNat)
  case atStart => exact ⟨0, none, 0, [], rfl, Nat.zero_le _, HB0⟩
  case round =>
   obtain ⟨i, Y, cy, vals, rfl, hi, HB⟩ := hrel
   clear HB0
   obtain ⟨⟨p0, p1⟩, -⟩ := blk2x (HPB.out.ext HB.out.x)
   by_cases hik : i < k
   ·have hi1 : IntKind.i64.wrap ((i : Int) + 1) = ((i + 1 : Nat) : Int) := by rw [IntWalk.i64_in _ (by omega)]; rfl
    have hi2 : wrap64 ((i : Int) + 1) = ((i + 1 : Nat) : Int) := by unfold wrap64; omega
    have HI : Hid (i < k ∧ k ≤ 16) := ⟨hik, hk16⟩
    have HN : Hid (i + 1 ≤ 2000000000000) := by have := HI.out; unfold Hid; omega
    obtain ⟨bx, bj, cj, hXe, hcx, ht⟩ := (HTX.out.kt (KT.ext (HX0.out.trans HB.out.x))).at_ hik
    subst hXe
    have HT := Lib.hid ht
    have HK : Hid (∀ w', Ext wr w' → ((w'.cell? ⟨po, 1, none⟩ = some (.int .i64 o.g.k) ∧ w'.cell? ⟨po, 2, none⟩ = some (.int .i64 o.g.a) ∧ w'.cell? ⟨po, 3, none⟩ = some (.int .i64 o.g.b) ∧ w'.cell? ⟨po, 4, none⟩ = some (.int .i64 o.g.c)) ∧ w'.cell? ⟨p, 1, none⟩ = some (.slice (some ⟨bx, 0, none⟩) k c) ∧ w'.cell? ⟨bx, i, none⟩ = some (.slice (some ⟨bj, 0, none⟩) l cj))) := fun w' hx => by
     obtain ⟨⟨_, h1⟩, -⟩ := blk2x (HPB.out.ext (HB.out.x.trans hx))
     obtain ⟨_, h2, h3, h4, h5, _⟩ := blk8x (HPO.out.ext (HB.out.x.trans hx))
     exact ⟨⟨h2, h3, h4, h5⟩, h1, hcx w' hx⟩
    clear ht hcx
    go_upto_region 7 with (fail)
    clear p0 p1
    refine wp_region_held_drew (S := fun w' => ((w'.cell? ⟨po, 1, none⟩ = some (.int .i64 o.g.k) ∧ w'.cell? ⟨po, 2, none⟩ = some (.int .i64 o.g.a) ∧ w'.cell? ⟨po, 3, none⟩ = some (.int .i64 o.g.b) ∧ w'.cell? ⟨po, 4, none⟩ = some (.int .i64 o.g.c)) ∧ w'.cell? ⟨p, 1, none⟩ = some (.slice (some ⟨bx, 0, none⟩) k c) ∧ w'.cell? ⟨bx, i, none⟩ = some (.slice (some ⟨bj, 0, none⟩) l cj))) (by kernel_rfl) (HK.out _ (Ext.refl wr).drew) (fun hHeld => ?_)
    (refine tk 0 (v := ?_) ?_ ?_; rotate_left; · (intro w hSw; (try dsimp only at hSw); go_simp; all_goals with_reducible rfl))
    (try simp only [Act.put, L1, L2, L3, L4, L5, L6])
    (refine tk 1 (v := ?_) ?_ ?_; rotate_left; · (intro w hSw; (try dsimp only at hSw); go_simp; all_goals with_reducible rfl))
    (try simp only [Act.put, L1, L2, L3, L4, L5, L6])
    (refine tk 2 (v := ?_) ?_ ?_; rotate_left; · (intro w hSw; (try dsimp only at hSw); go_simp; all_goals with_reducible rfl))
    (try simp only [Act.put, L1, L2, L3, L4, L5, L6])
    (refine tk 3 (v := ?_) ?_ ?_; rotate_left; · (intro w hSw; (try dsimp only at hSw); go_simp; all_goals with_reducible rfl))
    (try simp only [Act.put, L1, L2, L3, L4, L5, L6])
    (refine tk 4 (v := ?_) ?_ ?_; rotate_left; · (intro w hSw; (try dsimp only at hSw); go_simp; all_goals with_reducible rfl))
    (try simp only [Act.put, L1, L2, L3, L4, L5, L6])
    (refine tk 5 (v := ?_) ?_ ?_; rotate_left; · (intro w hSw; (try dsimp only at hSw); go_simp; all_goals with_reducible rfl))
    (try simp only [Act.put, L1, L2, L3, L4, L5, L6])
    (refine tk 6 (v := ?_) ?_ ?_; rotate_left; · (intro w hSw; (try dsimp only at hSw); go_simp; all_goals with_reducible rfl))
    (try simp only [Act.put, L1, L2, L3, L4, L5, L6])
    refine wpAnyH_ready (rs := [7]) (by kernel_rfl) (by simp) ?_
    refine AllReadyH.cons rfl (fun K hK => ?_) AllReadyH.nil
    go_simp
    refine (HACT.out i _ cj _ (HT.out.2.ext (Ext.refl wr).drew)).mono ?_
    rintro e w5 ⟨⟨v5, rfl, b5, c5, rfl, ht5⟩, hx5⟩
    have HY : Hid (Ext wr w5) := (Ext.refl wr).drew.trans hx5
    have HT5 := Lib.hid ht5
    clear ht5 hx5
    refine hK.out _ _ (HK.out _ HY.out) (fun hHeld => ?_)
    clear hK K
    (try simp only [Act.put, L1, L2, L3, L4, L5, L6])
    (refine tk 8 (v := ?_) ?_ ?_; rotate_left; · (intro w hSw; (try dsimp only at hSw); go_simp; all_goals with_reducible rfl))
    (try simp only [Act.put, L1, L2, L3, L4, L5, L6])
    (refine tk 9 (v := ?_) ?_ ?_; rotate_left; · (intro w hSw; (try dsimp only at hSw); go_simp; all_goals with_reducible rfl))
    (try simp only [Act.put, L1, L2, L3, L4, L5, L6])
    (refine tk 10 (v := ?_) ?_ ?_; rotate_left; · (intro w hSw; (try dsimp only at hSw); go_simp; all_goals with_reducible rfl))
    (try simp only [Act.put, L1, L2, L3, L4, L5, L6])
    (refine tk 11 (v := ?_) ?_ ?_; rotate_left; · (intro w hSw; (try dsimp only at hSw); go_simp; all_goals with_reducible rfl))
    (try simp only [Act.put, L1, L2, L3, L4, L5, L6])
    (refine tk 12 (v := ?_) ?_ ?_; rotate_left; · (intro w hSw; (try dsimp only at hSw); go_simp; all_goals with_reducible rfl))
    (try simp only [Act.put, L1, L2, L3, L4, L5, L6])
    (refine wpAnyH_done (by kernel_rfl) ?_ _)
    have HB5 := Lib.hid (HB.out.ext HY.out)
    clear hHeld HK HY HB HT
    obtain ⟨⟨q0, q1⟩, f0, f1⟩ := blk2x HB5.out.b
    go_wp2_with (at_builtin; refine appRow (w0 := w0) rfl _ _ rfl _ i vals rfl (own_ext HB5.out.o ((Ext.refl _).alloc _)) (HB5.out.x.alloc _) _ rfl _ rfl (rd_new _ _ _ 1 _ rfl rfl) HN.out ?_; intro v' w6 g1 g2 g3 g4; obtain ⟨Y6, c6, rfl, -⟩ := own_slice g1; obtain ⟨hb6, hm6⟩ := (HB5.out.ext ((Ext.refl _).alloc _)).app (HT5.out.ext ((Ext.refl _).alloc _)) g1 g2 g3; have HB6 := Lib.hid hm6; obtain ⟨⟨t0, t1⟩, e0, e1⟩ := blk2x hb6; clear hb6 hm6 g1 g2 g3 g4)
    go_roundw
    case rel => exact ⟨i + 1, Y6, c6, _, by first | rfl | rw [hi1] | rw [hi2], by have := HI.out; omega, HB6⟩
    case measure => simp [intOf, hi2]; have := HI.out; omega
   ·have hik2 : i = k := by omega
    subst hik2
    have HRW := Lib.hid (HR0.out.ext HB.out.x)
    obtain ⟨⟨q0, q1⟩, -⟩ := blk2x HB.out.b
    obtain ⟨⟨t0, t1⟩, e0, e1⟩ := blk2x HRW.out
    go_wp2
    refine retBrT rfl rfl rfl rfl HRW.out HRB.out (HX0.out.trans HB.out.x) fun W2 hB2 hk2 hx2 => ⟨⟨Y, cy, by rw [HBI.out], (TX.own HB.out.o hk0 HB.out.m).kt hk2⟩, hx2⟩
end Go.Proofs.YtdjckjfclhjpcaaGreat
