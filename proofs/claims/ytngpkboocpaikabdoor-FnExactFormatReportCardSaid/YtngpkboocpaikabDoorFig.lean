/-
  Helper text (no claim of its own): the three figures of a list of gates, by the program.
-/
import Derived.Test.YtngpkboocpaikabDoorCnt
namespace Go.Proofs.YtngpkboocpaikabDoor
open Go.ChangeShapes Go.WideShapes Go.ChangeAt Go.RowKit Go.Deep
set_option linter.unusedVariables false
set_option maxRecDepth 100000 in
set_option maxHeartbeats 4000000 in
theorem impl_figures_any (A : Option Addr) (n c : Nat) (gs : List Gt) (w : World) (h : Rd w w.heap.size 4 A n (gcells gs)) (hn : n ≤ 100000000) :
    Calls Tryd.prog 21 #[.slice A n c] w fun e w' => e = .returned (.agg #[.int .i64 n, .int .i64 (tcnt gs), .int .i64 (cntP isTwo gs)]) ∧ Ext w w' := by
  have HC7 : Hid (∀ w', Ext w w' → Calls Tryd.prog 32 #[.agg #[.int .i64 0, .slice A n c]] w' fun e w'' => e = .returned (.int .i64 (tcnt gs)) ∧ Ext w' w'') := fun w' hx => impl_TCount_any 0 A n c gs w' (h.ext hx) hn
  have HC8 : Hid (∀ w', Ext w w' → Calls Tryd.prog 33 #[.agg #[.int .i64 0, .slice A n c]] w' fun e w'' => e = .returned (.int .i64 (cntP isTwo gs)) ∧ Ext w' w'') := fun w' hx => impl_TwoQubitCount_any 0 A n c gs w' (h.ext hx) hn
  clear h
  generalize tcnt gs = c7 at *
  generalize cntP isTwo gs = c8 at *
  go_enter Tryd.func21, Tryd.ntmps21
  go_upto_region 2 with (fail)
  have hB2 : Blk (w.alloc (.cells #[.int .i64 0, .int .i64 0, .int .i64 0] 52)) w.heap.size 52 #[.int .i64 0, .int .i64 0, .int .i64 0] := Blk.new _ _ _
  have hs : (w.alloc (.cells #[.int .i64 0, .int .i64 0, .int .i64 0] 52)).heap.size = w.heap.size + 1 := Array.size_push _
  have hX2 : Ext w (w.alloc (.cells #[.int .i64 0, .int .i64 0, .int .i64 0] 52)) := (Ext.refl w).alloc _
  generalize (w.alloc (.cells #[.int .i64 0, .int .i64 0, .int .i64 0] 52)) = W1 at *
  have hB3 : Blk (W1.alloc (.cells #[.int .i64 0, .slice A n c] 47)) W1.heap.size 47 #[.int .i64 0, .slice A n c] := Blk.new _ _ _
  rw [hs] at hB3
  replace hB2 := hB2.ext ((Ext.refl W1).alloc (.cells #[.int .i64 0, .slice A n c] 47))
  replace hX2 := hX2.alloc (.cells #[.int .i64 0, .slice A n c] 47)
  clear hs
  generalize (W1.alloc (.cells #[.int .i64 0, .slice A n c] 47)) = Wb at *
  have q0 : Wb.cell? ⟨w.heap.size + 1, 0, none⟩ = some (.int .i64 0) := hB3.cell 0
  have q1 : Wb.cell? ⟨w.heap.size + 1, 1, none⟩ = some (.slice A n c) := hB3.cell 1
  have HK : Hid (∀ w', Ext Wb w' → w'.cell? ⟨w.heap.size + 1, 0, none⟩ = some (.int .i64 0) ∧ w'.cell? ⟨w.heap.size + 1, 1, none⟩ = some (.slice A n c)) := fun w' q => ⟨(hB3.ext q).cell 0, (hB3.ext q).cell 1⟩
  have HB2 := Lib.hid hB2
  clear hB2 hB3
  go_wp2
  go_region_held3 (fun w' => w'.cell? ⟨w.heap.size + 1, 0, none⟩ = some (.int .i64 0) ∧ w'.cell? ⟨w.heap.size + 1, 1, none⟩ = some (.slice A n c))
    (first | go_keep | exact HK.out _ (by assumption))
    (first
      | (go_at_call 32; (with_reducible refine (HC7.out _ (hX2.trans (Ext.refl Wb).drew)).mono ?_); rintro e w5 ⟨rfl, hy5⟩; replace hy5 : Ext Wb w5 := Ext.trans (Ext.refl Wb).drew hy5)
      | (go_at_call 33; (with_reducible refine (HC8.out _ (hX2.trans hy5)).mono ?_); rintro e w6 ⟨rfl, hy6⟩; replace hy6 : Ext Wb w6 := hy5.trans hy6; have hB6 := HB2.out.ext hy6; have z0 : w6.cell? ⟨w.heap.size, 0, none⟩ = some (.int .i64 0) := hB6.cell 0; have z1 : w6.cell? ⟨w.heap.size, 1, none⟩ = some (.int .i64 0) := hB6.cell 1; have z2 : w6.cell? ⟨w.heap.size, 2, none⟩ = some (.int .i64 0) := hB6.cell 2; have y0 := hB6.frozen 0; have y1 := hB6.frozen 1; have y2 := hB6.frozen 2))
  go_wp2
  have hF : Blk (((w6.setCell ⟨w.heap.size, 0, none⟩ (.int .i64 n)).setCell ⟨w.heap.size, 1, none⟩ (.int .i64 c7)).setCell ⟨w.heap.size, 2, none⟩ (.int .i64 c8)) w.heap.size 52 #[.int .i64 n, .int .i64 c7, .int .i64 c8] := ((hB6.set_ 0 (.int .i64 n)).set_ 1 (.int .i64 c7)).set_ 2 (.int .i64 c8)
  have hEF : Ext w (((w6.setCell ⟨w.heap.size, 0, none⟩ (.int .i64 n)).setCell ⟨w.heap.size, 1, none⟩ (.int .i64 c7)).setCell ⟨w.heap.size, 2, none⟩ (.int .i64 c8)) := (((hX2.trans hy6).setCell (Nat.le_refl _) _).setCell (Nat.le_refl _) _).setCell (Nat.le_refl _) _
  clear z0 z1 z2 y0 y1 y2 hB6 q0 q1 HK HB2
  generalize (((w6.setCell ⟨w.heap.size, 0, none⟩ (.int .i64 n)).setCell ⟨w.heap.size, 1, none⟩ (.int .i64 c7)).setCell ⟨w.heap.size, 2, none⟩ (.int .i64 c8)) = WF at *
  have p0 : WF.cell? ⟨w.heap.size, 0, none⟩ = some (.int .i64 n) := hF.cell 0
  have p1 : WF.cell? ⟨w.heap.size, 1, none⟩ = some (.int .i64 c7) := hF.cell 1
  have p2 : WF.cell? ⟨w.heap.size, 2, none⟩ = some (.int .i64 c8) := hF.cell 2
  exact bodyPost_ret (v := .agg #[.int .i64 n, .int .i64 c7, .int .i64 c8]) (by simp [results, Tryd.results21, go_sem, p0, p1, p2]) rfl ⟨rfl, hEF⟩
end Go.Proofs.YtngpkboocpaikabDoor
