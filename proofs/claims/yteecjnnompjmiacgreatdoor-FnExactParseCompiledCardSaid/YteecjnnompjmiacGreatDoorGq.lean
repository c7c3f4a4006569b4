/-
  Helper text (no claim of its own): the qubits of a gate by the program, and whether a gate acts on a qubit, by the program and by the reference.
-/
import Derived.Test.YteecjnnompjmiacGreatDoorSval
namespace Go.Proofs.YteecjnnompjmiacGreatDoor
open Go.ChangeShapes Go.WideShapes Go.ChangeAt Go.RowKit Go.Deep
/-- Whether gate g acts on qubit q. -/
def acts (g : Gt) (q : Int) : Bool := hasI (qus g) q
set_option maxRecDepth 100000 in
set_option maxHeartbeats 1000000 in
theorem impl_GateQubits_any (g : Gt) (w : World) :
    Calls Tryz.prog 69 #[g.val] w fun e w' => ∃ A c, e = .returned (.slice A (qus g).length c) ∧ Rd w' w'.heap.size 1 A (qus g).length (icells (qus g)) ∧ Ext w w' := by
  obtain ⟨ha0, ha3⟩ := ar_range g.k
  have HL := Lib.hid (qus_len g)
  obtain ⟨a, hA⟩ := Int.eq_ofNat_of_zero_le ha0
  have HA := Lib.hid hA
  have ha : a ≤ 3 := by omega
  have ha1 : (0 : Int) ≤ (a : Int) := by omega
  have ha2 : (a : Int) ≤ 3 := by omega
  clear hA ha0 ha3
  have hq : qus g = (qs g).take a := by unfold qus; rw [HA.out]; rfl
  have HQ := Lib.hid hq
  clear hq
  have hl : (qus g).length = a := by rw [HL.out, HA.out]; rfl
  have HLL := Lib.hid hl
  clear hl
  go_enter Tryz.func69, Tryz.ntmps69
  go_wp2
  have hB : Blk (w.alloc (.cells #[.int .i64 g.k, .int .i64 g.a, .int .i64 g.b, .int .i64 g.c] 37)) w.heap.size 37 #[.int .i64 g.k, .int .i64 g.a, .int .i64 g.b, .int .i64 g.c] := Blk.new _ _ _
  have hx : Ext w (w.alloc (.cells #[.int .i64 g.k, .int .i64 g.a, .int .i64 g.b, .int .i64 g.c] 37)) := by repeat (first | exact Ext.refl _ | assumption | refine Ext.alloc ?_ _ | refine Ext.drewN ?_ _ | refine Ext.drew ?_)
  generalize (w.alloc (.cells #[.int .i64 g.k, .int .i64 g.a, .int .i64 g.b, .int .i64 g.c] 37)) = W at *
  have b0 : W.cell? ⟨w.heap.size, 0, none⟩ = some (.int .i64 g.k) := hB.cell 0
  have b1 : W.cell? ⟨w.heap.size, 1, none⟩ = some (.int .i64 g.a) := hB.cell 1
  have b2 : W.cell? ⟨w.heap.size, 2, none⟩ = some (.int .i64 g.b) := hB.cell 2
  have b3 : W.cell? ⟨w.heap.size, 3, none⟩ = some (.int .i64 g.c) := hB.cell 3
  have HK : Hid (∀ w', Blk w' w.heap.size 37 #[.int .i64 g.k, .int .i64 g.a, .int .i64 g.b, .int .i64 g.c] → w'.cell? ⟨w.heap.size, 0, none⟩ = some (.int .i64 g.k) ∧ w'.cell? ⟨w.heap.size, 1, none⟩ = some (.int .i64 g.a) ∧ w'.cell? ⟨w.heap.size, 2, none⟩ = some (.int .i64 g.b) ∧ w'.cell? ⟨w.heap.size, 3, none⟩ = some (.int .i64 g.c)) := fun w' q1 => ⟨q1.cell 0, q1.cell 1, q1.cell 2, q1.cell 3⟩
  go_region_held3 (fun w' => w'.cell? ⟨w.heap.size, 0, none⟩ = some (.int .i64 g.k) ∧ w'.cell? ⟨w.heap.size, 1, none⟩ = some (.int .i64 g.a) ∧ w'.cell? ⟨w.heap.size, 2, none⟩ = some (.int .i64 g.b) ∧ w'.cell? ⟨w.heap.size, 3, none⟩ = some (.int .i64 g.c))
    (first | go_keep | exact HK.out _ (by assumption))
    (first
      | (go_at_call 50; refine (impl_Arity_any _ _).mono ?_; rintro e w3 ⟨rfl, rfl⟩; rw [HA.out]))
  all_goals
    go_wp2
    go_ret
    refine ⟨some ⟨W.heap.size, 0, none⟩, a, by rw [HLL.out]; rfl, ?_, (by repeat (first | exact Ext.refl _ | assumption | refine Ext.alloc ?_ _ | refine Ext.drewN ?_ _ | refine Ext.drew ?_))⟩
    rw [HLL.out, HQ.out, ← icells_take]
    exact rd_cut ((rd_newN W _ _ _ 3 1 (icells (qs g)) rfl rfl rfl).ext ((Ext.refl _).drew)) ha
end Go.Proofs.YteecjnnompjmiacGreatDoor
