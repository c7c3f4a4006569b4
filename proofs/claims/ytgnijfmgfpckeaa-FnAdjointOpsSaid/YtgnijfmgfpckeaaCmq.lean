/-
  Helper text (no claim of its own): further comparisons of slices. Printed by gen_cmp.py.
-/
import Derived.Test.YtgnijfmgfpckeaaCmp
import Derived.Test.YtgnijfmgfpckeaaEdge
namespace Go.Proofs.Ytgnijfmgfpckeaa
open Go.ChangeShapes Go.WideShapes Go.ChangeAt Go.RowKit Go.Deep
set_option maxRecDepth 100000 in
set_option maxHeartbeats 2000000 in
theorem sameOps_any (A B : Option Addr) (n m c d : Nat) (xs ys : List Oq) (w : World) (h : Rd w w.heap.size 8 A n (ocells xs)) (h' : Rd w w.heap.size 8 B m (ocells ys)) (hn : n ≤ 100000000) (hm : m ≤ 100000000) :
    Calls Try.prog 7 #[.slice A n c, .slice B m d] w fun e w' => e = .returned (.bool (eqL eqO xs ys)) ∧ Ext w w' := by
  by_cases hnm : n = m
  · subst hnm
    go_enter Try.func7, Try.ntmps7
    go_wp2
    go_loopw [5] (fun i wr => ∃ k : Nat, k ≤ n ∧ i = .int .i64 k ∧ Hid (eqL eqO (xs.take k) (ys.take k) = true) ∧ ∃ q, wr = w.drewN q) (fun i _ => n - (intOf i).toNat)
    case atStart => exact ⟨0, Nat.zero_le _, rfl, by simp [Hid, eqL], 0, rfl⟩
    case round =>
      obtain ⟨k, hk, rfl, HQ, q, rfl⟩ := hrel
      by_cases hlt : k < n
      · obtain ⟨b, o, g, rfl, hb, hg, h0, h1, h2, h3, h4, h5, h6, h7⟩ := op_at h hlt
        obtain ⟨b', o', g', rfl, hb', hg', r0, r1, r2, r3, r4, r5, r6, r7⟩ := op_at h' hlt
        have HG := Lib.hid hg
        have HG' := Lib.hid hg'
        clear hg hg'
        cases hq : eqO g g'
        · have HF := Lib.hid (eqL_false eqO HG.out HG'.out hq)
          have HN := (show ∀ w, (Op.equalIn 10000 32 g.val g'.val).run Try.prog w = .ok false w from fun w => by rw [eqIn_op, hq])
          have HE := Try.eqgOp
          go_wp2
          go_quiet (fail)
          go_wp2
          go_ret
          exact ⟨ret_bool HF.out.symm, (by repeat (first | exact Ext.refl _ | assumption | refine Ext.alloc ?_ _ | refine Ext.drewN ?_ _ | refine Ext.drew ?_))⟩
        · have HN := (show ∀ w, (Op.equalIn 10000 32 g.val g'.val).run Try.prog w = .ok true w from fun w => by rw [eqIn_op, hq])
          have HE := Try.eqgOp
          go_wp2
          go_quiet (fail)
          go_wp2
          go_roundw
          case rel => exact ⟨k + 1, by omega, by go_num, by unfold Hid; rw [eqL_snoc _ HG.out HG'.out, HQ.out, hq]; rfl, _, rfl⟩
          case measure => simp [intOf]; omega
      · have : k = n := by omega
        subst this
        rw [List.take_of_length_le (by rw [h.len Oq.cells_len (by omega)]; omega), List.take_of_length_le (by rw [h'.len Oq.cells_len (by omega)]; omega)] at HQ
        go_wp2
        go_ret
        exact ⟨ret_bool HQ.out.symm, (by repeat (first | exact Ext.refl _ | assumption | refine Ext.alloc ?_ _ | refine Ext.drewN ?_ _ | refine Ext.drew ?_))⟩
  · have hnm' : ((n : Int) != (m : Int)) = true := by rw [bne_iff_ne]; omega
    have HF := Lib.hid (eqL_len eqO xs ys (by rw [h.len Oq.cells_len (by omega), h'.len Oq.cells_len (by omega)]; exact hnm))
    go_enter Try.func7, Try.ntmps7
    go_wp2
    go_ret
    exact ⟨ret_bool HF.out.symm, Ext.refl _⟩
end Go.Proofs.Ytgnijfmgfpckeaa
