/-
  Helper text (no claim of its own): comparisons of slices by the program and by the reference.
-/
import Derived.Test.YtnnenocjmkbocaaInt
import Derived.Test.YtnnenocjmkbocaaOp
import Derived.Laws.StructEq
namespace Go.Proofs.Ytnnenocjmkbocaa
open Go.ChangeShapes Go.WideShapes Go.ChangeAt Go.RowKit Go.Deep
theorem Try.stoodGate : Try.prog.stoodInHeld 61 = false := by kernel_rfl
theorem Try.stoodOp : Try.prog.stoodInHeld 93 = false := by kernel_rfl
theorem Try.eqgGate : Try.prog.eqGuardType Try.prog.depth 61 = false := by kernel_rfl
theorem Try.eqgOp : Try.prog.eqGuardType Try.prog.depth 93 = false := by kernel_rfl
set_option maxRecDepth 100000 in
set_option maxHeartbeats 1000000 in
theorem eqIn_gate (x y : Gt) (w : World) : (Op.equalIn 10000 61 x.val y.val).run Try.prog w = .ok (eqG x y) w := by
  have h1 := Try.stoodGate
  unfold eqG
  by_cases e1 : x.k = y.k <;> by_cases e2 : x.a = y.a <;> by_cases e3 : x.b = y.b <;> by_cases e4 : x.c = y.c <;> (go_simp <;> simp [*])
set_option maxRecDepth 100000 in
set_option maxHeartbeats 1000000 in
theorem eqIn_op (x y : Oq) (w : World) : (Op.equalIn 10000 93 x.val y.val).run Try.prog w = .ok (eqO x y) w := by
  have h1 := Try.stoodGate
  have h2 := Try.stoodOp
  unfold eqO eqG
  go_simp
  by_cases e0 : x.k = y.k <;> by_cases e1 : x.g.k = y.g.k <;> by_cases e2 : x.g.a = y.g.a <;> by_cases e3 : x.g.b = y.g.b <;> by_cases e4 : x.g.c = y.g.c <;> by_cases e5 : x.q = y.q <;> by_cases e6 : x.bit = y.bit <;> by_cases e7 : x.cond = y.cond <;> simp [*]
set_option maxRecDepth 100000 in
set_option maxHeartbeats 2000000 in
theorem l1Ints_any (A B : Option Addr) (n m c d : Nat) (xs ys : List Int) (w : World) (h : Rd w w.heap.size 1 A n (icells xs)) (h' : Rd w w.heap.size 1 B m (icells ys)) (hn : n ≤ 100000000) (hm : m ≤ 100000000) :
    Calls Try.prog 136 #[.slice A n c, .slice B m d] w fun e w' => e = .returned (.bool (eqL eqI xs ys)) ∧ Ext w w' := by
  by_cases hnm : n = m
  · subst hnm
    go_enter Try.func136, Try.ntmps136
    go_wp2
    go_loopw [5] (fun i wr => ∃ k : Nat, k ≤ n ∧ i = .int .i64 k ∧ Hid (eqL eqI (xs.take k) (ys.take k) = true) ∧ ∃ q, wr = w.drewN q) (fun i _ => n - (intOf i).toNat)
    case atStart => exact ⟨0, Nat.zero_le _, rfl, by simp [Hid, eqL], 0, rfl⟩
    case round =>
      obtain ⟨k, hk, rfl, HQ, q, rfl⟩ := hrel
      by_cases hlt : k < n
      · obtain ⟨b, o, g, rfl, hb, hg, h0⟩ := int_at h hlt
        obtain ⟨b', o', g', rfl, hb', hg', r0⟩ := int_at h' hlt
        have HG := Lib.hid hg
        have HG' := Lib.hid hg'
        clear hg hg'
        cases hq : eqI g g'
        · have HF := Lib.hid (eqL_false eqI HG.out HG'.out hq)
          have HN := (show (g != g') = true from by simpa [eqI, bne] using hq)
          go_wp2
          go_quiet (fail)
          go_wp2
          go_ret
          exact ⟨ret_bool HF.out.symm, (by repeat (first | exact Ext.refl _ | assumption | refine Ext.alloc ?_ _ | refine Ext.drewN ?_ _ | refine Ext.drew ?_))⟩
        · have HN := (show (g != g') = false from by simpa [eqI, bne] using hq)
          go_wp2
          go_quiet (fail)
          go_wp2
          go_roundw
          case rel => exact ⟨k + 1, by omega, by go_num, by unfold Hid; rw [eqL_snoc _ HG.out HG'.out, HQ.out, hq]; rfl, _, rfl⟩
          case measure => simp [intOf]; omega
      · have : k = n := by omega
        subst this
        rw [List.take_of_length_le (by rw [h.len icell_len (by omega)]; omega), List.take_of_length_le (by rw [h'.len icell_len (by omega)]; omega)] at HQ
        go_wp2
        go_ret
        exact ⟨ret_bool HQ.out.symm, (by repeat (first | exact Ext.refl _ | assumption | refine Ext.alloc ?_ _ | refine Ext.drewN ?_ _ | refine Ext.drew ?_))⟩
  · have hnm' : ((n : Int) != (m : Int)) = true := by rw [bne_iff_ne]; omega
    have HF := Lib.hid (eqL_len eqI xs ys (by rw [h.len icell_len (by omega), h'.len icell_len (by omega)]; exact hnm))
    go_enter Try.func136, Try.ntmps136
    go_wp2
    go_ret
    exact ⟨ret_bool HF.out.symm, Ext.refl _⟩
set_option maxRecDepth 100000 in
set_option maxHeartbeats 2000000 in
theorem sameInt_any (A B : Option Addr) (n m c d : Nat) (xs ys : List Int) (w : World) (h : Rd w w.heap.size 1 A n (icells xs)) (h' : Rd w w.heap.size 1 B m (icells ys)) (hn : n ≤ 100000000) (hm : m ≤ 100000000) :
    Calls Try.prog 138 #[.slice A n c, .slice B m d] w fun e w' => e = .returned (.bool (eqL eqI xs ys)) ∧ Ext w w' := by
  by_cases hnm : n = m
  · subst hnm
    go_enter Try.func138, Try.ntmps138
    go_wp2
    go_loopw [13] (fun i wr => ∃ k : Nat, k ≤ n ∧ i = .int .i64 k ∧ Hid (eqL eqI (xs.take k) (ys.take k) = true) ∧ ∃ q, wr = w.drewN q) (fun i _ => n - (intOf i).toNat)
    case atStart => exact ⟨0, Nat.zero_le _, rfl, by simp [Hid, eqL], 0, rfl⟩
    case round =>
      obtain ⟨k, hk, rfl, HQ, q, rfl⟩ := hrel
      by_cases hlt : k < n
      · obtain ⟨b, o, g, rfl, hb, hg, h0⟩ := int_at h hlt
        obtain ⟨b', o', g', rfl, hb', hg', r0⟩ := int_at h' hlt
        have HG := Lib.hid hg
        have HG' := Lib.hid hg'
        clear hg hg'
        cases hq : eqI g g'
        · have HF := Lib.hid (eqL_false eqI HG.out HG'.out hq)
          have HN := (show (g != g') = true from by simpa [eqI, bne] using hq)
          go_wp2
          go_quiet (fail)
          go_wp2
          go_ret
          exact ⟨ret_bool HF.out.symm, (by repeat (first | exact Ext.refl _ | assumption | refine Ext.alloc ?_ _ | refine Ext.drewN ?_ _ | refine Ext.drew ?_))⟩
        · have HN := (show (g != g') = false from by simpa [eqI, bne] using hq)
          go_wp2
          go_quiet (fail)
          go_wp2
          go_roundw
          case rel => exact ⟨k + 1, by omega, by go_num, by unfold Hid; rw [eqL_snoc _ HG.out HG'.out, HQ.out, hq]; rfl, _, rfl⟩
          case measure => simp [intOf]; omega
      · have : k = n := by omega
        subst this
        rw [List.take_of_length_le (by rw [h.len icell_len (by omega)]; omega), List.take_of_length_le (by rw [h'.len icell_len (by omega)]; omega)] at HQ
        go_wp2
        go_ret
        exact ⟨ret_bool HQ.out.symm, (by repeat (first | exact Ext.refl _ | assumption | refine Ext.alloc ?_ _ | refine Ext.drewN ?_ _ | refine Ext.drew ?_))⟩
  · have hnm' : ((n : Int) != (m : Int)) = true := by rw [bne_iff_ne]; omega
    have HF := Lib.hid (eqL_len eqI xs ys (by rw [h.len icell_len (by omega), h'.len icell_len (by omega)]; exact hnm))
    go_enter Try.func138, Try.ntmps138
    go_wp2
    go_ret
    exact ⟨ret_bool HF.out.symm, Ext.refl _⟩
set_option maxRecDepth 100000 in
set_option maxHeartbeats 2000000 in
theorem l21List_any (A B : Option Addr) (n m c d : Nat) (xs ys : List Oq) (w : World) (h : Rd w w.heap.size 8 A n (ocells xs)) (h' : Rd w w.heap.size 8 B m (ocells ys)) (hn : n ≤ 100000000) (hm : m ≤ 100000000) :
    Calls Try.prog 135 #[.slice A n c, .slice B m d] w fun e w' => e = .returned (.bool (eqL eqO xs ys)) ∧ Ext w w' := by
  by_cases hnm : n = m
  · subst hnm
    go_enter Try.func135, Try.ntmps135
    go_wp2
    go_loopw [5] (fun i wr => ∃ k : Nat, k ≤ n ∧ i = .int .i64 k ∧ Hid (eqL eqO (xs.take k) (ys.take k) = true) ∧ ∃ q, wr = w.drewN q) (fun i _ => n - (intOf i).toNat)
    case atStart => exact ⟨0, Nat.zero_le _, rfl, by simp [Hid, eqL], 0, rfl⟩
    case round =>
      obtain ⟨k, hk, rfl, HQ, q, rfl⟩ := hrel
      by_cases hlt : k < n
      · obtain ⟨b, o, g, rfl, hb, hg, h0, h1, h2, h3, h4, h5, h6, h7⟩ := op_at h hlt
        obtain ⟨b', o', g', rfl, hb', hg', r0, r1, r2, r3, r4, r5, r6, r7⟩ := op_at h' hlt
        have HG := Lib.hid hg
        have HG' := Lib.hid hg'
        clear hg hg'
        cases hq : eqO g g'
        · have HF := Lib.hid (eqL_false eqO HG.out HG'.out hq)
          have HN := (show ∀ w, (Op.equalIn 10000 93 g.val g'.val).run Try.prog w = .ok false w from fun w => by rw [eqIn_op, hq])
          have HE := Try.eqgOp
          go_wp2
          go_quiet (fail)
          go_wp2
          go_ret
          exact ⟨ret_bool HF.out.symm, (by repeat (first | exact Ext.refl _ | assumption | refine Ext.alloc ?_ _ | refine Ext.drewN ?_ _ | refine Ext.drew ?_))⟩
        · have HN := (show ∀ w, (Op.equalIn 10000 93 g.val g'.val).run Try.prog w = .ok true w from fun w => by rw [eqIn_op, hq])
          have HE := Try.eqgOp
          go_wp2
          go_quiet (fail)
          go_wp2
          go_roundw
          case rel => exact ⟨k + 1, by omega, by go_num, by unfold Hid; rw [eqL_snoc _ HG.out HG'.out, HQ.out, hq]; rfl, _, rfl⟩
          case measure => simp [intOf]; omega
      · have : k = n := by omega
        subst this
        rw [List.take_of_length_le (by rw [h.len Oq.cells_len (by omega)]; omega), List.take_of_length_le (by rw [h'.len Oq.cells_len (by omega)]; omega)] at HQ
        go_wp2
        go_ret
        exact ⟨ret_bool HQ.out.symm, (by repeat (first | exact Ext.refl _ | assumption | refine Ext.alloc ?_ _ | refine Ext.drewN ?_ _ | refine Ext.drew ?_))⟩
  · have hnm' : ((n : Int) != (m : Int)) = true := by rw [bne_iff_ne]; omega
    have HF := Lib.hid (eqL_len eqO xs ys (by rw [h.len Oq.cells_len (by omega), h'.len Oq.cells_len (by omega)]; exact hnm))
    go_enter Try.func135, Try.ntmps135
    go_wp2
    go_ret
    exact ⟨ret_bool HF.out.symm, Ext.refl _⟩
set_option maxRecDepth 100000 in
set_option maxHeartbeats 2000000 in
theorem sameOp_any (A B : Option Addr) (n m c d : Nat) (xs ys : List Oq) (w : World) (h : Rd w w.heap.size 8 A n (ocells xs)) (h' : Rd w w.heap.size 8 B m (ocells ys)) (hn : n ≤ 100000000) (hm : m ≤ 100000000) :
    Calls Try.prog 137 #[.slice A n c, .slice B m d] w fun e w' => e = .returned (.bool (eqL eqO xs ys)) ∧ Ext w w' := by
  by_cases hnm : n = m
  · subst hnm
    go_enter Try.func137, Try.ntmps137
    go_wp2
    go_loopw [13] (fun i wr => ∃ k : Nat, k ≤ n ∧ i = .int .i64 k ∧ Hid (eqL eqO (xs.take k) (ys.take k) = true) ∧ ∃ q, wr = w.drewN q) (fun i _ => n - (intOf i).toNat)
    case atStart => exact ⟨0, Nat.zero_le _, rfl, by simp [Hid, eqL], 0, rfl⟩
    case round =>
      obtain ⟨k, hk, rfl, HQ, q, rfl⟩ := hrel
      by_cases hlt : k < n
      · obtain ⟨b, o, g, rfl, hb, hg, h0, h1, h2, h3, h4, h5, h6, h7⟩ := op_at h hlt
        obtain ⟨b', o', g', rfl, hb', hg', r0, r1, r2, r3, r4, r5, r6, r7⟩ := op_at h' hlt
        have HG := Lib.hid hg
        have HG' := Lib.hid hg'
        clear hg hg'
        cases hq : eqO g g'
        · have HF := Lib.hid (eqL_false eqO HG.out HG'.out hq)
          have HN := (show ∀ w, (Op.equalIn 10000 93 g.val g'.val).run Try.prog w = .ok false w from fun w => by rw [eqIn_op, hq])
          have HE := Try.eqgOp
          go_wp2
          go_quiet (fail)
          go_wp2
          go_ret
          exact ⟨ret_bool HF.out.symm, (by repeat (first | exact Ext.refl _ | assumption | refine Ext.alloc ?_ _ | refine Ext.drewN ?_ _ | refine Ext.drew ?_))⟩
        · have HN := (show ∀ w, (Op.equalIn 10000 93 g.val g'.val).run Try.prog w = .ok true w from fun w => by rw [eqIn_op, hq])
          have HE := Try.eqgOp
          go_wp2
          go_quiet (fail)
          go_wp2
          go_roundw
          case rel => exact ⟨k + 1, by omega, by go_num, by unfold Hid; rw [eqL_snoc _ HG.out HG'.out, HQ.out, hq]; rfl, _, rfl⟩
          case measure => simp [intOf]; omega
      · have : k = n := by omega
        subst this
        rw [List.take_of_length_le (by rw [h.len Oq.cells_len (by omega)]; omega), List.take_of_length_le (by rw [h'.len Oq.cells_len (by omega)]; omega)] at HQ
        go_wp2
        go_ret
        exact ⟨ret_bool HQ.out.symm, (by repeat (first | exact Ext.refl _ | assumption | refine Ext.alloc ?_ _ | refine Ext.drewN ?_ _ | refine Ext.drew ?_))⟩
  · have hnm' : ((n : Int) != (m : Int)) = true := by rw [bne_iff_ne]; omega
    have HF := Lib.hid (eqL_len eqO xs ys (by rw [h.len Oq.cells_len (by omega), h'.len Oq.cells_len (by omega)]; exact hnm))
    go_enter Try.func137, Try.ntmps137
    go_wp2
    go_ret
    exact ⟨ret_bool HF.out.symm, Ext.refl _⟩
end Go.Proofs.Ytnnenocjmkbocaa
