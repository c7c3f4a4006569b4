/-
  Helper text (no claim of its own): states: basis states, copies, by the reference. Printed by gen_am.py or gen_an.py.
-/
import Derived.Test.YtofbmkpfliofeabAst
namespace Go.Proofs.Ytofbmkpfliofeab
open Go.ChangeShapes Go.WideShapes Go.ChangeAt Go.RowKit Go.Deep
set_option linter.unusedVariables false
set_option linter.unusedSimpArgs false
def basis (n i : Nat) : List Dw := (List.replicate (2 ^ n) d0).set i (ph 0)
set_option maxRecDepth 100000 in
set_option maxHeartbeats 8000000 in
theorem BasisState_1 (i : Nat) (hi : i < 2) (w : World) : Calls Try.prog 29 #[.int .i64 1, .int .i64 i] w fun e w' => (∃ v, e = .returned v ∧ SOut (basis 1 i) v w') ∧ Ext w w' := by
  have hmk : ∀ w : World, (Instr.makeSlice 55 (.int .i64 2) (.int .i64 2)).run Try.prog w = .ok (.slice (some ⟨w.heap.size, 0, none⟩) 2 2) (w.alloc (.cells #[.int .i64 0, .int .i64 0, .int .i64 0, .int .i64 0, .int .i64 0, .int .i64 0, .int .i64 0, .int .i64 0, .int .i64 0, .int .i64 0] 83)) := fun _ => by kernel_rfl
  have hi0 : (0 : Int) ≤ (i : Int) := by omega
  have hi1 : (i : Int) ≤ 1 := by omega
  go_enter Try.func29, Try.ntmps29
  go_wp2_with fail
  refine (l1In_yes _ _ _ _ (by decide) (by decide)).mono ?_
  rintro e w' ⟨rfl, rfl⟩
  go_wp2_with fail
  refine (l1In_yes _ _ _ _ hi0 hi1).mono ?_
  rintro e w' ⟨rfl, rfl⟩
  go_wp2_with fail
  refine (OneDOmega_any _).mono ?_
  rintro e w2 ⟨rfl, hx2⟩
  have HS : Hid (SB w2 w.heap.size (List.replicate 2 d0)) := SB.ext ⟨_, Blk.new w _ _, rfl⟩ hx2
  have HE : Hid (Ext w w2) := Ext.trans (by repeat (first | exact Ext.refl _ | assumption | refine Ext.alloc ?_ _ | refine Ext.drewN ?_ _ | refine Ext.drew ?_)) hx2
  clear hx2 hmk
  obtain ⟨⟨c0, c1, c2, c3, c4⟩, f0, f1, f2, f3, f4⟩ := HS.out.at_ (i := i) (x := d0) (by rw [List.getElem?_replicate, if_pos hi])
  go_wp2
  have HS2 : Hid (SB (put5at w2 w.heap.size i (ph 0)) w.heap.size (basis 1 i)) := HS.out.put (by simpa using hi) (ph 0)
  have HE2 : Hid (Ext w (put5at w2 w.heap.size i (ph 0))) := ext_put5at HE.out (Nat.le_refl _) i (ph 0)
  go_ret
  exact ⟨⟨_, rfl, SB.out HS2.out 2 2 (by simp [basis])⟩, HE2.out⟩
set_option maxRecDepth 100000 in
set_option maxHeartbeats 8000000 in
theorem BasisState_2 (i : Nat) (hi : i < 4) (w : World) : Calls Try.prog 29 #[.int .i64 2, .int .i64 i] w fun e w' => (∃ v, e = .returned v ∧ SOut (basis 2 i) v w') ∧ Ext w w' := by
  have hmk : ∀ w : World, (Instr.makeSlice 55 (.int .i64 4) (.int .i64 4)).run Try.prog w = .ok (.slice (some ⟨w.heap.size, 0, none⟩) 4 4) (w.alloc (.cells #[.int .i64 0, .int .i64 0, .int .i64 0, .int .i64 0, .int .i64 0, .int .i64 0, .int .i64 0, .int .i64 0, .int .i64 0, .int .i64 0, .int .i64 0, .int .i64 0, .int .i64 0, .int .i64 0, .int .i64 0, .int .i64 0, .int .i64 0, .int .i64 0, .int .i64 0, .int .i64 0] 83)) := fun _ => by kernel_rfl
  have hi0 : (0 : Int) ≤ (i : Int) := by omega
  have hi1 : (i : Int) ≤ 3 := by omega
  go_enter Try.func29, Try.ntmps29
  go_wp2_with fail
  refine (l1In_yes _ _ _ _ (by decide) (by decide)).mono ?_
  rintro e w' ⟨rfl, rfl⟩
  go_wp2_with fail
  refine (l1In_yes _ _ _ _ hi0 hi1).mono ?_
  rintro e w' ⟨rfl, rfl⟩
  go_wp2_with fail
  refine (OneDOmega_any _).mono ?_
  rintro e w2 ⟨rfl, hx2⟩
  have HS : Hid (SB w2 w.heap.size (List.replicate 4 d0)) := SB.ext ⟨_, Blk.new w _ _, rfl⟩ hx2
  have HE : Hid (Ext w w2) := Ext.trans (by repeat (first | exact Ext.refl _ | assumption | refine Ext.alloc ?_ _ | refine Ext.drewN ?_ _ | refine Ext.drew ?_)) hx2
  clear hx2 hmk
  obtain ⟨⟨c0, c1, c2, c3, c4⟩, f0, f1, f2, f3, f4⟩ := HS.out.at_ (i := i) (x := d0) (by rw [List.getElem?_replicate, if_pos hi])
  go_wp2
  have HS2 : Hid (SB (put5at w2 w.heap.size i (ph 0)) w.heap.size (basis 2 i)) := HS.out.put (by simpa using hi) (ph 0)
  have HE2 : Hid (Ext w (put5at w2 w.heap.size i (ph 0))) := ext_put5at HE.out (Nat.le_refl _) i (ph 0)
  go_ret
  exact ⟨⟨_, rfl, SB.out HS2.out 4 4 (by simp [basis])⟩, HE2.out⟩
set_option maxRecDepth 100000 in
set_option maxHeartbeats 8000000 in
theorem BasisState_3 (i : Nat) (hi : i < 8) (w : World) : Calls Try.prog 29 #[.int .i64 3, .int .i64 i] w fun e w' => (∃ v, e = .returned v ∧ SOut (basis 3 i) v w') ∧ Ext w w' := by
  have hmk : ∀ w : World, (Instr.makeSlice 55 (.int .i64 8) (.int .i64 8)).run Try.prog w = .ok (.slice (some ⟨w.heap.size, 0, none⟩) 8 8) (w.alloc (.cells #[.int .i64 0, .int .i64 0, .int .i64 0, .int .i64 0, .int .i64 0, .int .i64 0, .int .i64 0, .int .i64 0, .int .i64 0, .int .i64 0, .int .i64 0, .int .i64 0, .int .i64 0, .int .i64 0, .int .i64 0, .int .i64 0, .int .i64 0, .int .i64 0, .int .i64 0, .int .i64 0, .int .i64 0, .int .i64 0, .int .i64 0, .int .i64 0, .int .i64 0, .int .i64 0, .int .i64 0, .int .i64 0, .int .i64 0, .int .i64 0, .int .i64 0, .int .i64 0, .int .i64 0, .int .i64 0, .int .i64 0, .int .i64 0, .int .i64 0, .int .i64 0, .int .i64 0, .int .i64 0] 83)) := fun _ => by kernel_rfl
  have hi0 : (0 : Int) ≤ (i : Int) := by omega
  have hi1 : (i : Int) ≤ 7 := by omega
  go_enter Try.func29, Try.ntmps29
  go_wp2_with fail
  refine (l1In_yes _ _ _ _ (by decide) (by decide)).mono ?_
  rintro e w' ⟨rfl, rfl⟩
  go_wp2_with fail
  refine (l1In_yes _ _ _ _ hi0 hi1).mono ?_
  rintro e w' ⟨rfl, rfl⟩
  go_wp2_with fail
  refine (OneDOmega_any _).mono ?_
  rintro e w2 ⟨rfl, hx2⟩
  have HS : Hid (SB w2 w.heap.size (List.replicate 8 d0)) := SB.ext ⟨_, Blk.new w _ _, rfl⟩ hx2
  have HE : Hid (Ext w w2) := Ext.trans (by repeat (first | exact Ext.refl _ | assumption | refine Ext.alloc ?_ _ | refine Ext.drewN ?_ _ | refine Ext.drew ?_)) hx2
  clear hx2 hmk
  obtain ⟨⟨c0, c1, c2, c3, c4⟩, f0, f1, f2, f3, f4⟩ := HS.out.at_ (i := i) (x := d0) (by rw [List.getElem?_replicate, if_pos hi])
  go_wp2
  have HS2 : Hid (SB (put5at w2 w.heap.size i (ph 0)) w.heap.size (basis 3 i)) := HS.out.put (by simpa using hi) (ph 0)
  have HE2 : Hid (Ext w (put5at w2 w.heap.size i (ph 0))) := ext_put5at HE.out (Nat.le_refl _) i (ph 0)
  go_ret
  exact ⟨⟨_, rfl, SB.out HS2.out 8 8 (by simp [basis])⟩, HE2.out⟩
set_option maxRecDepth 100000 in
set_option maxHeartbeats 8000000 in
theorem BasisState_4 (i : Nat) (hi : i < 16) (w : World) : Calls Try.prog 29 #[.int .i64 4, .int .i64 i] w fun e w' => (∃ v, e = .returned v ∧ SOut (basis 4 i) v w') ∧ Ext w w' := by
  have hmk : ∀ w : World, (Instr.makeSlice 55 (.int .i64 16) (.int .i64 16)).run Try.prog w = .ok (.slice (some ⟨w.heap.size, 0, none⟩) 16 16) (w.alloc (.cells #[.int .i64 0, .int .i64 0, .int .i64 0, .int .i64 0, .int .i64 0, .int .i64 0, .int .i64 0, .int .i64 0, .int .i64 0, .int .i64 0, .int .i64 0, .int .i64 0, .int .i64 0, .int .i64 0, .int .i64 0, .int .i64 0, .int .i64 0, .int .i64 0, .int .i64 0, .int .i64 0, .int .i64 0, .int .i64 0, .int .i64 0, .int .i64 0, .int .i64 0, .int .i64 0, .int .i64 0, .int .i64 0, .int .i64 0, .int .i64 0, .int .i64 0, .int .i64 0, .int .i64 0, .int .i64 0, .int .i64 0, .int .i64 0, .int .i64 0, .int .i64 0, .int .i64 0, .int .i64 0, .int .i64 0, .int .i64 0, .int .i64 0, .int .i64 0, .int .i64 0, .int .i64 0, .int .i64 0, .int .i64 0, .int .i64 0, .int .i64 0, .int .i64 0, .int .i64 0, .int .i64 0, .int .i64 0, .int .i64 0, .int .i64 0, .int .i64 0, .int .i64 0, .int .i64 0, .int .i64 0, .int .i64 0, .int .i64 0, .int .i64 0, .int .i64 0, .int .i64 0, .int .i64 0, .int .i64 0, .int .i64 0, .int .i64 0, .int .i64 0, .int .i64 0, .int .i64 0, .int .i64 0, .int .i64 0, .int .i64 0, .int .i64 0, .int .i64 0, .int .i64 0, .int .i64 0, .int .i64 0] 83)) := fun _ => by kernel_rfl
  have hi0 : (0 : Int) ≤ (i : Int) := by omega
  have hi1 : (i : Int) ≤ 15 := by omega
  go_enter Try.func29, Try.ntmps29
  go_wp2_with fail
  refine (l1In_yes _ _ _ _ (by decide) (by decide)).mono ?_
  rintro e w' ⟨rfl, rfl⟩
  go_wp2_with fail
  refine (l1In_yes _ _ _ _ hi0 hi1).mono ?_
  rintro e w' ⟨rfl, rfl⟩
  go_wp2_with fail
  refine (OneDOmega_any _).mono ?_
  rintro e w2 ⟨rfl, hx2⟩
  have HS : Hid (SB w2 w.heap.size (List.replicate 16 d0)) := SB.ext ⟨_, Blk.new w _ _, rfl⟩ hx2
  have HE : Hid (Ext w w2) := Ext.trans (by repeat (first | exact Ext.refl _ | assumption | refine Ext.alloc ?_ _ | refine Ext.drewN ?_ _ | refine Ext.drew ?_)) hx2
  clear hx2 hmk
  obtain ⟨⟨c0, c1, c2, c3, c4⟩, f0, f1, f2, f3, f4⟩ := HS.out.at_ (i := i) (x := d0) (by rw [List.getElem?_replicate, if_pos hi])
  go_wp2
  have HS2 : Hid (SB (put5at w2 w.heap.size i (ph 0)) w.heap.size (basis 4 i)) := HS.out.put (by simpa using hi) (ph 0)
  have HE2 : Hid (Ext w (put5at w2 w.heap.size i (ph 0))) := ext_put5at HE.out (Nat.le_refl _) i (ph 0)
  go_ret
  exact ⟨⟨_, rfl, SB.out HS2.out 16 16 (by simp [basis])⟩, HE2.out⟩
theorem BasisState_any {n : Nat} (h1 : 1 ≤ n) (h4 : n ≤ 4) (i : Nat) (hi : i < 2 ^ n) (w : World) : Calls Try.prog 29 #[.int .i64 n, .int .i64 i] w fun e w' => (∃ v, e = .returned v ∧ SOut (basis n i) v w') ∧ Ext w w' := by
  rcases (show n = 1 ∨ n = 2 ∨ n = 3 ∨ n = 4 by omega) with rfl | rfl | rfl | rfl
  · exact BasisState_1 i hi w
  · exact BasisState_2 i hi w
  · exact BasisState_3 i hi w
  · exact BasisState_4 i hi w
/-- A row of amplitudes of the call's own, from block B on. -/
structure DS (W1 w : World) (A : Option Addr) (len cap : Nat) (xs : List Dw) : Prop where
  o : w.ownsRow W1.heap.size 83 5 (.slice A len cap) len (scells xs)
  x : Ext W1 w
theorem DS.ext {W1 w w' : World} {A : Option Addr} {len cap : Nat} {xs : List Dw} (h : DS W1 w A len cap xs) (hx : Ext w w') : DS W1 w' A len cap xs := ⟨own_ext h.o hx, h.x.trans hx⟩
theorem DS.out {W1 w : World} {A : Option Addr} {len cap : Nat} {xs : List Dw} (h : DS W1 w A len cap xs) : SOut xs (.slice A len cap) w := by
  have hr := Rd.own h.o
  have hl := hr.len Dw.cells_len (by omega)
  subst hl
  exact ⟨A, cap, rfl, hr⟩
set_option maxRecDepth 100000 in
set_option maxHeartbeats 8000000 in
theorem l6Copy_any (A : Option Addr) (c : Nat) (vs : List Dw) (w : World) (h : Rd w w.heap.size 5 A vs.length (scells vs)) (hl : vs.length ≤ 1048576) :
    Calls Try.prog 53 #[.slice A vs.length c] w fun e w' => (∃ v, e = .returned v ∧ SOut vs v w') ∧ Ext w w' := by
  go_enter Try.func53, Try.ntmps53
  have ho0 : (w.alloc (.cells #[] 83)).ownsRow w.heap.size 83 5 (.slice (some ⟨w.heap.size, 0, none⟩) 0 0) 0 (scells []) := own_lit (Ext.refl _) _ _ 5 0 #[] _ rfl rfl rfl (by omega)
  go_wp2_with (at_builtin; refine appDOmegaS (w0 := w) rfl _ _ rfl _ 0 [] rfl ho0 (by repeat (first | exact Ext.refl _ | assumption | refine Ext.alloc ?_ _ | refine Ext.drewN ?_ _ | refine Ext.drew ?_)) _ _ _ vs rfl (h.ext (by repeat (first | exact Ext.refl _ | assumption | refine Ext.alloc ?_ _ | refine Ext.drewN ?_ _ | refine Ext.drew ?_))) (by omega) ?_; intro v' w' h1 h2 h3 h4)
  go_ret
  obtain ⟨A', c', rfl, _⟩ := own_slice h1
  rw [Nat.zero_add] at h1
  exact ⟨⟨.slice A' vs.length c', by simp only [Nat.zero_add]; rfl, DS.out ⟨h1, h2⟩⟩, h2⟩
end Go.Proofs.Ytofbmkpfliofeab
