/-
 Helper text (no claim of its own): lists of ops are repeated, given a condition, counted. Printed by gen_smo.py.
-/
import Derived.Test.YtdjckjfclhjpcaaGreatSmd
import Derived.Test.YtdjckjfclhjpcaaGreatOp
namespace Go.Proofs.YtdjckjfclhjpcaaGreat
open Go.ChangeShapes Go.WideShapes Go.ChangeAt Go.RowKit Go.Deep
set_option linter.unusedVariables false
set_option linter.unusedSimpArgs false
theorem own_setne {w : World} {B e s n : Nat} {v : Value} {xs : List Value} {p : Addr} (h : w.ownsRow B e s v n xs) (hp : ∀ g, v.ownBlock = some g → g ≠ p.block) (u : Value) : (w.setCell p u).ownsRow B e s v n xs := by
 refine h.kept (row := some p.block) ⟨rfl, rfl, rfl, by simp [World.setCell], fun k _ hk => Below.heap_setCell w p u k (fun e => hk (by rw [e]))⟩ ?_
 cases hv : v.ownBlock with
 | none => exact .inl rfl
 | some k =>
  right
  intro e1
  injection e1 with e1
  exact hp k hv e1
/-- Some ops are returned, at most N. -/
def ROps (w : World) (N : Nat) (e : Ending) (w' : World) : Prop := ∃ (A : Option Addr) (c : Nat) (xs : List Oq), e = .returned (.slice A xs.length c) ∧ w'.ownsRow w.heap.size 40 8 (.slice A xs.length c) xs.length (ocells xs) ∧ xs.length ≤ N
set_option maxRecDepth 100000 in
set_option maxHeartbeats 4000000 in
theorem RepeatOps_any (A : Option Addr) (n c : Nat) (xs : List Oq) (r : Int) (w : World) (h : Rd w w.heap.size 8 A n (ocells xs)) (hn : n ≤ 1048576) :
  Calls Tryz.prog 73 #[.slice A n c, .int .i64 r] w fun e w' => ROps w (9 * n) e w' ∧ Ext w w' := by
 have hlen := Lib.hid (h.len Oq.cells_len (by omega))
 have HR := Lib.hid h
 clear h
 go_enter Tryz.func73, Tryz.ntmps73
 go_wp2
 go_loopw [5, 6] (fun v i wr => ∃ (k : Nat) (ys : List Oq), k ≤ 9 ∧ i = .int .i64 k ∧ ys.length = k * n ∧ wr.ownsRow w.heap.size 40 8 v (k * n) (ocells ys) ∧ Ext w wr) (fun _ i _ => 9 - (intOf i).toNat)
 case atStart => exact ⟨0, [], by omega, rfl, by simp, by simpa using own_empty w w _ 8 (Ext.refl _), xx⟩
 case round =>
  obtain ⟨k, ys, hk, rfl, hyl, hown, hx⟩ := hrel
  have hkn : k * n ≤ 9 * 1048576 := Nat.mul_le_mul hk hn
  by_cases hlt : (k : Int) < r
  ·by_cases h9 : k < 9
   ·have h9i : (k : Int) < 9 := by omega
    go_wp2_with (at_builtin; refine appOpS rfl _ _ rfl _ _ ys rfl hown hx A n c xs rfl (HR.out.ext hx) (by omega) ?_; intro v1 w1 g1 g2 g3 g4)
    go_roundw
    case rel => exact ⟨k + 1, ys ++ xs, by omega, by go_num, by rw [List.length_append, hyl, hlen.out, Nat.add_mul]; omega, by rw [Nat.add_mul, Nat.one_mul]; exact g1, g2⟩
    case measure => simp [intOf]; omega
   ·have h9i : ¬ (k : Int) < 9 := by omega
    have h9d : decide ((k : Int) < 9) = false := by simp; omega
    go_wp2
    obtain ⟨A1, c1, rfl, _⟩ := own_slice hown
    go_ret
    exact ⟨⟨A1, c1, ys, by rw [hyl]; rfl, by rw [hyl]; exact hown, by rw [hyl]; exact Nat.mul_le_mul_right _ hk⟩, hx⟩
  ·have hld : decide ((k : Int) < r) = false := by simp; omega
   go_wp2
   obtain ⟨A1, c1, rfl, _⟩ := own_slice hown
   go_ret
   exact ⟨⟨A1, c1, ys, by rw [hyl]; rfl, by rw [hyl]; exact hown, by rw [hyl]; exact Nat.mul_le_mul_right _ hk⟩, hx⟩
set_option maxRecDepth 100000 in
set_option maxHeartbeats 8000000 in
theorem l22If_any (A : Option Addr) (n c : Nat) (xs : List Oq) (cond : Int) (w : World) (h : Rd w w.heap.size 8 A n (ocells xs)) (hn : n ≤ 1048576) :
  Calls Tryz.prog 79 #[.slice A n c, .int .i64 cond] w fun e w' => ROps w n e w' ∧ Ext w w' := by
 have HR := Lib.hid h
 clear h
 go_enter Tryz.func79, Tryz.ntmps79
 go_wp2
 go_loopw [5, 6] (fun v i wr => ∃ (k : Nat) (ys : List Oq), k ≤ n ∧ i = .int .i64 k ∧ ys.length = k ∧ wr.ownsRow w.heap.size 40 8 v k (ocells ys) ∧ Ext w wr) (fun _ i _ => n - (intOf i).toNat)
 case atStart => exact ⟨0, [], by omega, rfl, by simp, own_empty w w _ 8 (Ext.refl _), xx⟩
 case round =>
  obtain ⟨k, ys, hk, rfl, hyl, hown, hx⟩ := hrel
  obtain ⟨Av, cv, rfl, -⟩ := own_slice hown
  by_cases hlt : k < n
  ·obtain ⟨b, o, x, rfl, hb, hg, r0, r1, r2, r3, r4, r5, r6, r7⟩ := op_at (HR.out.ext hx) hlt
   clear hg
   have hk0 : (0 : Int) ≤ (k : Int) := by omega
   have HL : Hid (k < n ∧ n ≤ 1048576) := ⟨hlt, hn⟩
   go_upto_region 6 with (fail)
   have HB : Hid (Blk (wr.alloc (.cells #[.int .i64 x.k, .int .i64 x.g.k, .int .i64 x.g.a, .int .i64 x.g.b, .int .i64 x.g.c, .int .i64 x.q, .int .i64 x.bit, .int .i64 x.cond] 40)) wr.heap.size 40 #[.int .i64 x.k, .int .i64 x.g.k, .int .i64 x.g.a, .int .i64 x.g.b, .int .i64 x.g.c, .int .i64 x.q, .int .i64 x.bit, .int .i64 x.cond]) := Blk.new _ _ _
   have HD5 : Hid ((wr.alloc (.cells #[.int .i64 x.k, .int .i64 x.g.k, .int .i64 x.g.a, .int .i64 x.g.b, .int .i64 x.g.c, .int .i64 x.q, .int .i64 x.bit, .int .i64 x.cond] 40)).ownsRow w.heap.size 40 8 (.slice Av k cv) k (ocells ys) ∧ Ext w (wr.alloc (.cells #[.int .i64 x.k, .int .i64 x.g.k, .int .i64 x.g.a, .int .i64 x.g.b, .int .i64 x.g.c, .int .i64 x.q, .int .i64 x.bit, .int .i64 x.cond] 40))) := ⟨own_ext hown ((Ext.refl _).alloc _), hx.alloc _⟩
   have HBE : Hid (w.heap.size ≤ wr.heap.size ∧ ∀ g, (Value.slice Av k cv).ownBlock = some g → g ≠ wr.heap.size) := ⟨hx.size, fun g hg => by have := (hown.lt g hg).2; omega⟩
   clear hown hx r0 r1 r2 r3 r4 r5 r6 r7 hb
   generalize wr.alloc (.cells #[.int .i64 x.k, .int .i64 x.g.k, .int .i64 x.g.a, .int .i64 x.g.b, .int .i64 x.g.c, .int .i64 x.q, .int .i64 x.bit, .int .i64 x.cond] 40) = w5 at *
   generalize wr.heap.size = s at *
   cases hk1 : (x.k == 1)
   ·have y0 : w5.cell? ⟨s, 0, none⟩ = some (.int .i64 x.k) := HB.out.cell 0
    have y1 : w5.cell? ⟨s, 1, none⟩ = some (.int .i64 x.g.k) := HB.out.cell 1
    have y2 : w5.cell? ⟨s, 2, none⟩ = some (.int .i64 x.g.a) := HB.out.cell 2
    have y3 : w5.cell? ⟨s, 3, none⟩ = some (.int .i64 x.g.b) := HB.out.cell 3
    have y4 : w5.cell? ⟨s, 4, none⟩ = some (.int .i64 x.g.c) := HB.out.cell 4
    have y5 : w5.cell? ⟨s, 5, none⟩ = some (.int .i64 x.q) := HB.out.cell 5
    have y6 : w5.cell? ⟨s, 6, none⟩ = some (.int .i64 x.bit) := HB.out.cell 6
    have y7 : w5.cell? ⟨s, 7, none⟩ = some (.int .i64 x.cond) := HB.out.cell 7
    have HD := HD5
    go_wp2_with (at_builtin; refine appOpS (w0 := w) rfl _ _ rfl (.slice Av k cv) k ys rfl (own_ext HD.out.1 ((Ext.refl _).alloc _)) (HD.out.2.alloc _) _ 1 1 [x] rfl (rd_new _ _ _ 8 _ (by simp [Oq.cells]) (by simp [Oq.cells])) (by have := HL.out; omega) ?_; intro v' w9 g1 g2 g3 g4)
    go_roundw
    case rel => exact ⟨k + 1, _, by have := HL.out; omega, by go_num, by rw [List.length_append, hyl]; rfl, g1, g2⟩
    case measure => have := HL.out; simp [intOf]; omega
   ·have y0 : w5.cell? ⟨s, 0, none⟩ = some (.int .i64 x.k) := HB.out.cell 0
    have y7 : w5.cell? ⟨s, 7, none⟩ = some (.int .i64 x.cond) := HB.out.cell 7
    have f7 := HB.out.frozen 7
    go_upto_region 8 with (fail)
    have HB7 : Hid (Blk (w5.setCell ⟨s, 7, none⟩ (.int .i64 cond)) s 40 #[.int .i64 x.k, .int .i64 x.g.k, .int .i64 x.g.a, .int .i64 x.g.b, .int .i64 x.g.c, .int .i64 x.q, .int .i64 x.bit, .int .i64 cond]) := HB.out.set_ 7 _
    have HD : Hid ((w5.setCell ⟨s, 7, none⟩ (.int .i64 cond)).ownsRow w.heap.size 40 8 (.slice Av k cv) k (ocells ys) ∧ Ext w (w5.setCell ⟨s, 7, none⟩ (.int .i64 cond))) := ⟨own_setne HD5.out.1 HBE.out.2 _, HD5.out.2.setCell (p := ⟨s, 7, none⟩) HBE.out.1 _⟩
    clear y0 y7 f7 HB HD5
    generalize w5.setCell ⟨s, 7, none⟩ (.int .i64 cond) = w7 at *
    have y0 : w7.cell? ⟨s, 0, none⟩ = some (.int .i64 x.k) := HB7.out.cell 0
    have y1 : w7.cell? ⟨s, 1, none⟩ = some (.int .i64 x.g.k) := HB7.out.cell 1
    have y2 : w7.cell? ⟨s, 2, none⟩ = some (.int .i64 x.g.a) := HB7.out.cell 2
    have y3 : w7.cell? ⟨s, 3, none⟩ = some (.int .i64 x.g.b) := HB7.out.cell 3
    have y4 : w7.cell? ⟨s, 4, none⟩ = some (.int .i64 x.g.c) := HB7.out.cell 4
    have y5 : w7.cell? ⟨s, 5, none⟩ = some (.int .i64 x.q) := HB7.out.cell 5
    have y6 : w7.cell? ⟨s, 6, none⟩ = some (.int .i64 x.bit) := HB7.out.cell 6
    have y7 : w7.cell? ⟨s, 7, none⟩ = some (.int .i64 cond) := HB7.out.cell 7
    go_wp2_with (at_builtin; refine appOpS (w0 := w) rfl _ _ rfl (.slice Av k cv) k ys rfl (own_ext HD.out.1 ((Ext.refl _).alloc _)) (HD.out.2.alloc _) _ 1 1 [⟨x.k, x.g, x.q, x.bit, cond⟩] rfl (rd_new _ _ _ 8 _ (by simp [Oq.cells]) (by simp [Oq.cells])) (by have := HL.out; omega) ?_; intro v' w9 g1 g2 g3 g4)
    go_roundw
    case rel => exact ⟨k + 1, _, by have := HL.out; omega, by go_num, by rw [List.length_append, hyl]; rfl, g1, g2⟩
    case measure => have := HL.out; simp [intOf]; omega
  ·obtain rfl : k = n := by omega
   go_wp2
   go_ret
   exact ⟨⟨Av, cv, ys, by rw [hyl]; rfl, by rw [hyl]; exact hown, by omega⟩, hx⟩
def gcnt (xs : List Oq) : Nat := (xs.filter fun x => x.k == 1).length
set_option maxRecDepth 100000 in
set_option maxHeartbeats 4000000 in
theorem RoutineGateCount_any (N I Bt : Int) (A : Option Addr) (c : Nat) (xs : List Oq) (w : World) (h : Rd w w.heap.size 8 A xs.length (ocells xs)) (hn : xs.length ≤ 1048576) :
  Calls Tryz.prog 22 #[.agg #[.int .i64 N, .int .i64 I, .int .i64 Bt, .slice A xs.length c]] w fun e w' => e = .returned (.int .i64 (gcnt xs : Nat)) ∧ Ext w w' := by
 obtain ⟨n, hnl⟩ : ∃ n, xs.length = n := ⟨_, rfl⟩
 rw [hnl] at h hn ⊢
 have HR := Lib.hid h
 have HB : Hid (Blk (w.alloc (.cells #[.int .i64 N, .int .i64 I, .int .i64 Bt, .slice A n c] 26)) w.heap.size 26 #[.int .i64 N, .int .i64 I, .int .i64 Bt, .slice A n c]) := Blk.new _ _ _
 have HX : Hid (Ext w (w.alloc (.cells #[.int .i64 N, .int .i64 I, .int .i64 Bt, .slice A n c] 26))) := (Ext.refl w).alloc _
 have HTL : Hid (xs.take n = xs) := List.take_of_length_le (by omega)
 clear h
 go_enter Tryz.func22, Tryz.ntmps22
 go_upto_region 1 with (fail)
 generalize w.alloc (.cells #[.int .i64 N, .int .i64 I, .int .i64 Bt, .slice A n c] 26) = W at *
 have s3 : W.cell? ⟨w.heap.size, 3, none⟩ = some (.slice A n c) := HB.out.cell 3
 go_wp2
 go_loop [3, 4] (fun v i => ∃ k : Nat, k ≤ n ∧ i = .int .i64 k ∧ v = .int .i64 (gcnt (xs.take k) : Nat)) (fun _ i => n - (intOf i).toNat)
 case atStart => exact ⟨0, Nat.zero_le _, rfl, by simp [gcnt]⟩
 case round =>
  obtain ⟨k, hk, rfl, rfl⟩ := hrel
  have hle : gcnt (xs.take k) ≤ k := Nat.le_trans (List.length_filter_le _ _) (List.length_take_le _ _)
  by_cases hlt : k < n
  ·obtain ⟨b, o, x, rfl, hb, hg, r0, r1, r2, r3, r4, r5, r6, r7⟩ := op_at (HR.out.ext HX.out) hlt
   have HS : Hid (gcnt (xs.take (k + 1)) = gcnt (xs.take k) + (if (x.k == 1) = true then 1 else 0)) := by
    unfold Hid gcnt
    rw [take_snoc hg, List.filter_append, List.length_append]
    cases hk1 : (x.k == 1) <;> simp [hk1]
   clear hg
   cases hk1 : (x.k == 1)
   ·go_wp2
    go_round
    case rel => exact ⟨k + 1, by omega, by go_num, by rw [HS.out, hk1]; rfl⟩
    case measure => simp [intOf]; omega
   ·go_wp2
    go_round
    case rel => exact ⟨k + 1, by omega, by go_num, by rw [HS.out, hk1]; go_num⟩
    case measure => simp [intOf]; omega
  ·obtain rfl : k = n := by omega
   go_wp2
   go_ret
   exact ⟨by rw [HTL.out]; rfl, HX.out⟩
end Go.Proofs.YtdjckjfclhjpcaaGreat
