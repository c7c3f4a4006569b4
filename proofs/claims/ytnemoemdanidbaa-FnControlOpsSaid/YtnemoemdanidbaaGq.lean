/-
  Helper text (no claim of its own): the qubits of a gate by the program, and whether a gate acts on a qubit, by the program and by the reference.
-/
import Derived.Test.YtnemoemdanidbaaSval
namespace Go.Proofs.Ytnemoemdanidbaa
open Go.ChangeShapes Go.WideShapes Go.ChangeAt Go.RowKit Go.Deep
/-- Whether gate g acts on qubit q. -/
def acts (g : Gt) (q : Int) : Bool := hasI (qus g) q
set_option maxRecDepth 100000 in
set_option maxHeartbeats 1000000 in
theorem impl_GateQubits_any (g : Gt) (w : World) :
    Calls Try.prog 118 #[g.val] w fun e w' => ∃ A c, e = .returned (.slice A (qus g).length c) ∧ Rd w' w'.heap.size 1 A (qus g).length (icells (qus g)) ∧ Ext w w' := by
  obtain ⟨ha0, ha3⟩ := ar_range g.k
  have HL := Lib.hid (qus_len g)
  obtain ⟨a, hA⟩ := Int.eq_ofNat_of_zero_le ha0
  have HA := Lib.hid hA
  have ha : a ≤ 3 := by omega
  have ha1 : (0 : Int) ≤ (a : Int) := by omega
  have ha2 : (a : Int) ≤ 3 := by omega
  clear hA ha0 ha3
  have hq : qus g = (qs g).take a := by unfold qus; rw [HA.out]; rfl
  have HQ := Lib.hid hq
  clear hq
  have hl : (qus g).length = a := by rw [HL.out, HA.out]; rfl
  have HLL := Lib.hid hl
  clear hl
  go_enter Try.func118, Try.ntmps118
  go_wp2
  have hB : Blk (w.alloc (.cells #[.int .i64 g.k, .int .i64 g.a, .int .i64 g.b, .int .i64 g.c] 29)) w.heap.size 29 #[.int .i64 g.k, .int .i64 g.a, .int .i64 g.b, .int .i64 g.c] := Blk.new _ _ _
  have hx : Ext w (w.alloc (.cells #[.int .i64 g.k, .int .i64 g.a, .int .i64 g.b, .int .i64 g.c] 29)) := by repeat (first | exact Ext.refl _ | assumption | refine Ext.alloc ?_ _ | refine Ext.drewN ?_ _ | refine Ext.drew ?_)
  generalize (w.alloc (.cells #[.int .i64 g.k, .int .i64 g.a, .int .i64 g.b, .int .i64 g.c] 29)) = W at *
  have b0 : W.cell? ⟨w.heap.size, 0, none⟩ = some (.int .i64 g.k) := hB.cell 0
  have b1 : W.cell? ⟨w.heap.size, 1, none⟩ = some (.int .i64 g.a) := hB.cell 1
  have b2 : W.cell? ⟨w.heap.size, 2, none⟩ = some (.int .i64 g.b) := hB.cell 2
  have b3 : W.cell? ⟨w.heap.size, 3, none⟩ = some (.int .i64 g.c) := hB.cell 3
  have HK : Hid (∀ w', Blk w' w.heap.size 29 #[.int .i64 g.k, .int .i64 g.a, .int .i64 g.b, .int .i64 g.c] → w'.cell? ⟨w.heap.size, 0, none⟩ = some (.int .i64 g.k) ∧ w'.cell? ⟨w.heap.size, 1, none⟩ = some (.int .i64 g.a) ∧ w'.cell? ⟨w.heap.size, 2, none⟩ = some (.int .i64 g.b) ∧ w'.cell? ⟨w.heap.size, 3, none⟩ = some (.int .i64 g.c)) := fun w' q1 => ⟨q1.cell 0, q1.cell 1, q1.cell 2, q1.cell 3⟩
  go_region_held3 (fun w' => w'.cell? ⟨w.heap.size, 0, none⟩ = some (.int .i64 g.k) ∧ w'.cell? ⟨w.heap.size, 1, none⟩ = some (.int .i64 g.a) ∧ w'.cell? ⟨w.heap.size, 2, none⟩ = some (.int .i64 g.b) ∧ w'.cell? ⟨w.heap.size, 3, none⟩ = some (.int .i64 g.c))
    (first | go_keep | exact HK.out _ (by assumption))
    (first
      | (go_at_call 65; refine (impl_Arity_any _ _).mono ?_; rintro e w3 ⟨rfl, rfl⟩; rw [HA.out]))
  all_goals
    go_wp2
    go_ret
    refine ⟨some ⟨W.heap.size, 0, none⟩, a, by rw [HLL.out]; rfl, ?_, (by repeat (first | exact Ext.refl _ | assumption | refine Ext.alloc ?_ _ | refine Ext.drewN ?_ _ | refine Ext.drew ?_))⟩
    rw [HLL.out, HQ.out, ← icells_take]
    exact rd_cut ((rd_newN W _ _ _ 3 1 (icells (qs g)) rfl rfl rfl).ext ((Ext.refl _).drew)) ha
set_option maxRecDepth 100000 in
set_option maxHeartbeats 1000000 in
theorem impl_ActsOn_any (g : Gt) (q : Int) (w : World) :
    Calls Try.prog 85 #[g.val, .int .i64 q] w fun e w' => e = .returned (.bool (acts g q)) ∧ Ext w w' := by
  obtain ⟨ha0, ha3⟩ := ar_range g.k
  have HL := Lib.hid (qus_len g)
  go_enter Try.func85, Try.ntmps85
  go_wp2_with fail
  refine (impl_GateQubits_any g _).mono ?_
  rintro e w1 ⟨A, c, rfl, hr, hx⟩
  replace hx : Ext w w1 := Ext.trans (by repeat (first | exact Ext.refl _ | assumption | refine Ext.alloc ?_ _ | refine Ext.drewN ?_ _ | refine Ext.drew ?_)) hx
  generalize hn : (qus g).length = n at *
  have HN := Lib.hid hn
  have hn3 : n ≤ 3 := by have := HL.out; omega
  clear hn
  go_wp2
  go_loop [10] (fun i => ∃ k : Nat, k ≤ n ∧ i = .int .i64 k ∧ Hid (hasI ((qus g).take k) q = false)) (fun i => n - (intOf i).toNat)
  case atStart => exact ⟨0, Nat.zero_le _, rfl, by simp [Hid, hasI]⟩
  case round =>
    obtain ⟨k, hk, rfl, HQ⟩ := hrel
    by_cases hlt : k < n
    · obtain ⟨b, o, y, rfl, hb, hy, h0⟩ := int_at hr hlt
      have HG := Lib.hid hy
      clear hy
      by_cases he : y = q
      · subst he
        have HF : Hid (acts g y = true) := by
          unfold Hid acts hasI
          rw [List.contains_eq_mem]
          simp
          exact List.mem_of_getElem? HG.out
        go_wp2
        go_ret
        exact ⟨ret_bool HF.out.symm, hx⟩
      · have he' : (y == q) = false := by rw [beq_eq_false_iff_ne]; exact he
        have HE := Lib.hid he
        clear he
        go_wp2
        go_round
        case rel =>
          refine ⟨k + 1, by omega, by go_num, ?_⟩
          unfold Hid
          rw [take_snoc HG.out]
          have h1 := HQ.out
          unfold hasI at h1 ⊢
          rw [List.contains_eq_mem] at h1 ⊢
          simp at h1 ⊢
          exact ⟨h1, fun h => HE.out h.symm⟩
        case measure => simp [intOf]; omega
    · rw [List.take_of_length_le (by rw [HN.out]; omega)] at HQ
      go_wp2
      go_ret
      exact ⟨ret_bool HQ.out.symm, hx⟩
set_option maxRecDepth 100000 in
set_option maxHeartbeats 1000000 in
theorem spec_ActsOn_any (g : Gt) (q : Int) (w : World) :
    Calls Try.prog 88 #[g.val, .int .i64 q] w fun e w' => e = .returned (.bool (acts g q)) ∧ Ext w w' := by
  obtain ⟨ha0, ha3⟩ := ar_range g.k
  have HL := Lib.hid (qus_len g)
  go_enter Try.func88, Try.ntmps88
  go_wp2_with fail
  refine (spec_GateQubits_any g _).mono ?_
  rintro e w1 ⟨v, rfl, ho, hx⟩
  obtain ⟨A, c, rfl, hr⟩ := own_slice ho
  replace hx : Ext w w1 := Ext.trans (by repeat (first | exact Ext.refl _ | assumption | refine Ext.alloc ?_ _ | refine Ext.drewN ?_ _ | refine Ext.drew ?_)) hx
  clear ho
  go_wp2_with fail
  refine (l1HasInt_any A _ c (qus g) q _ hr (by have := HL.out; omega)).mono ?_
  rintro e w2 ⟨rfl, rfl⟩
  go_wp2
  go_ret
  exact ⟨rfl, hx⟩
end Go.Proofs.Ytnemoemdanidbaa
