/-
  Helper text (no claim of its own): Op as records, slices of them, and the laws' own helpers on them (size, copy, comparison). Printed by gen_fam.py.
-/
import Derived.Test.YtaiaaomjphnbfaaDoorGate
namespace Go.Proofs.YtaiaaomjphnbfaaDoor
open Go.ChangeShapes Go.WideShapes Go.ChangeAt Go.RowKit Go.Deep

structure Oq where
  k : Int
  g : Gt
  q : Int
  bit : Int
  cond : Int
def eqO (x y : Oq) : Bool := x.k == y.k && eqG x.g y.g && x.q == y.q && x.bit == y.bit && x.cond == y.cond
def Oq.ok (x : Oq) : Prop := I64 x.k ∧ x.g.ok ∧ I64 x.q ∧ I64 x.bit ∧ I64 x.cond
abbrev Oq.val (x : Oq) : Value := .agg #[.int .i64 x.k, .int .i64 x.g.k, .int .i64 x.g.a, .int .i64 x.g.b, .int .i64 x.g.c, .int .i64 x.q, .int .i64 x.bit, .int .i64 x.cond]
def Oq.cells (x : Oq) : List Value := [.int .i64 x.k, .int .i64 x.g.k, .int .i64 x.g.a, .int .i64 x.g.b, .int .i64 x.g.c, .int .i64 x.q, .int .i64 x.bit, .int .i64 x.cond]
abbrev ocells (xs : List Oq) : List Value := xs.flatMap Oq.cells
theorem Oq.cells_len (x : Oq) : x.cells.length = 8 := rfl
theorem op_at {w : World} {B n i : Nat} {A : Option Addr} {xs : List Oq} (h : Rd w B 8 A n (ocells xs)) (hi : i < n) :
    ∃ b o x, A = some ⟨b, o, none⟩ ∧ b < B ∧ xs[i]? = some x ∧ w.cell? ⟨b, o + i * 8, none⟩ = some (.int .i64 x.k) ∧ w.cell? ⟨b, o + i * 8 + 1, none⟩ = some (.int .i64 x.g.k) ∧ w.cell? ⟨b, o + i * 8 + 2, none⟩ = some (.int .i64 x.g.a) ∧ w.cell? ⟨b, o + i * 8 + 3, none⟩ = some (.int .i64 x.g.b) ∧ w.cell? ⟨b, o + i * 8 + 4, none⟩ = some (.int .i64 x.g.c) ∧ w.cell? ⟨b, o + i * 8 + 5, none⟩ = some (.int .i64 x.q) ∧ w.cell? ⟨b, o + i * 8 + 6, none⟩ = some (.int .i64 x.bit) ∧ w.cell? ⟨b, o + i * 8 + 7, none⟩ = some (.int .i64 x.cond) := by
  obtain ⟨b, o, x, rfl, hb, hx, hc⟩ := elem_at Oq.cells_len (by omega) h hi
  exact ⟨b, o, x, rfl, hb, hx, hc 0 _ rfl, hc 1 _ rfl, hc 2 _ rfl, hc 3 _ rfl, hc 4 _ rfl, hc 5 _ rfl, hc 6 _ rfl, hc 7 _ rfl⟩


theorem Tryd.cellsLOp : Tryd.prog.cellsOf 59 = 8 := by kernel_rfl
theorem open_lop {H : Type} {enc : TypeId × Value → H} {w : World} {spare : Nat → Bool} {held : Bool} (n : Nat) (cs : List Value) (x : DataW H × List MemPlace) (h : DataW.trod enc Tryd.prog w 0 spare held n 59 cs = some x) :
    ∃ g : Oq, cs = g.cells ∧ g.ok := by
  obtain ⟨ys, n', _, _, hl, hyl, hf⟩ := DataW.trod_struct Tryd.underlying59 h
  rw [Tryd.cellsLOp] at hl
  obtain ⟨c0, c1, c2, c3, c4, c5, c6, c7, rfl⟩ := len8 hl
  obtain ⟨_, h0⟩ := field_at hf hyl 0 _ rfl 3 0 1 rfl rfl Tryd.cellsInt
  obtain ⟨_, h1⟩ := field_at hf hyl 1 _ rfl 57 1 4 rfl rfl Tryd.cellsLGate
  obtain ⟨_, h5⟩ := field_at hf hyl 2 _ rfl 3 5 1 rfl rfl Tryd.cellsInt
  obtain ⟨_, h6⟩ := field_at hf hyl 3 _ rfl 3 6 1 rfl rfl Tryd.cellsInt
  obtain ⟨_, h7⟩ := field_at hf hyl 4 _ rfl 3 7 1 rfl rfl Tryd.cellsInt
  obtain ⟨k, e0, i0⟩ := open_cell_int Tryd.underlying3 h0
  obtain ⟨g, e1, i1⟩ := open_lgate _ _ _ h1
  obtain ⟨q, e5, i5⟩ := open_cell_int Tryd.underlying3 h5
  obtain ⟨b, e6, i6⟩ := open_cell_int Tryd.underlying3 h6
  obtain ⟨c, e7, i7⟩ := open_cell_int Tryd.underlying3 h7
  simp [Gt.cells] at e0 e1 e5 e6 e7
  obtain ⟨rfl, rfl, rfl, rfl⟩ := e1
  subst e0 e5 e6 e7
  exact ⟨⟨k, g, q, b, c⟩, rfl, i0, i1, i5, i6, i7⟩
set_option maxRecDepth 100000 in
theorem open_lopsT {H : Type} {enc : TypeId × Value → H} {w : World} {spare : Nat → Bool} {held : Bool} {n : Nat} {cs : List Value} {x : DataW H × List MemPlace} (h : DataW.trod enc Tryd.prog w 0 spare held n 22 cs = some x) :
    ∃ (A : Option Addr) (n c : Nat) (gs : List Oq), cs = [.slice A n c] ∧ n ≤ c ∧ c ≤ maxLen ∧ Rd w w.heap.size 8 A n (ocells gs) ∧ ∀ g ∈ gs, g.ok :=
  open_row Oq.cells_len (by omega) Tryd.underlying22 Tryd.cellsLOp open_lop h
set_option maxRecDepth 100000 in
/-- An argument of type []laws.Op. -/
theorem open_lops {H : Type} {enc : TypeId × Value → H} {w : World} {spare : Nat → Bool} {held : Bool} {base : Nat} {v : Value} {d : DataW H} {p : List MemPlace} (hv : Value.okWide Tryd.prog w .any base 22 v)
    (h : DataW.Trod enc Tryd.prog w 0 spare held 22 v d p) :
    ∃ (A : Option Addr) (n c : Nat) (gs : List Oq), v = .slice A n c ∧ n ≤ c ∧ c ≤ maxLen ∧ Rd w w.heap.size 8 A n (ocells gs) ∧ ∀ g ∈ gs, g.ok := by
  obtain ⟨a, len, cap, rfl⟩ := okWide_slice Tryd.underlying22 hv
  obtain ⟨n, hn⟩ := h
  obtain ⟨A, n, c, gs, e, r⟩ := open_lopsT hn
  simp [Value.cells] at e
  obtain ⟨rfl, rfl, rfl⟩ := e
  exact ⟨_, _, _, gs, rfl, r⟩
theorem szOpS_any (A : Option Addr) (n c : Nat) (l : Int) (w : World) (hl : 0 ≤ l) (hl2 : l ≤ 1048576) (hn : n ≤ maxLen) :
    Calls Tryd.prog 9 #[.slice A n c, .int .i64 l] w fun e w' => e = .returned (.int .i64 (szF l n)) ∧ w = w' := by
  unfold maxLen at hn
  by_cases h : l < n
  · have hf := Lib.hid (szF_lt h)
    go_enter Tryd.func9, Tryd.ntmps9
    go_wp2
    go_ret
    exact ⟨ret_int hf.out.symm, rfl⟩
  · have hf := Lib.hid (szF_ge h)
    go_enter Tryd.func9, Tryd.ntmps9
    go_wp2
    go_ret
    exact ⟨ret_int hf.out.symm, rfl⟩

set_option maxRecDepth 100000 in
theorem toOp_any (x : Oq) (w : World) :
    Calls Tryd.prog 30 #[x.val] w fun e w' => e = .returned x.val ∧ Ext w w' := by
  go_enter Tryd.func30, Tryd.ntmps30
  go_wp2_with fail
  refine (toGate_ex x.g _).mono ?_
  rintro e w1 ⟨rfl, rfl⟩
  go_wp2
  exact bodyPost_ret (v := .agg #[.int .i64 x.k, .int .i64 x.g.k, .int .i64 x.g.a, .int .i64 x.g.b, .int .i64 x.g.c, .int .i64 x.q, .int .i64 x.bit, .int .i64 x.cond]) (by simp [results, Tryd.results30, go_sem]) rfl ⟨rfl, (by repeat (first | exact Ext.refl _ | assumption | refine Ext.alloc ?_ _ | refine Ext.drewN ?_ _ | refine Ext.drew ?_))⟩

theorem Tryd.infoOp : (Tryd.prog.info? 44).map (fun i => (i.zero, i.size, i.bytes)) = some (some (.agg #[.int .i64 0, .int .i64 0, .int .i64 0, .int .i64 0, .int .i64 0, .int .i64 0, .int .i64 0, .int .i64 0]), 8, 64) := by kernel_rfl
theorem Oq.one (xs : List Oq) : ∀ u ∈ ocells xs, u.oneCell' = true := by
  intro u hu
  obtain ⟨x, _, hx⟩ := List.mem_flatMap.1 hu
  simp [Oq.cells] at hx
  rcases hx with rfl | rfl | rfl | rfl | rfl | rfl | rfl | rfl <;> rfl
/-- append of a slice. -/
theorem appOpS {w0 w : World} {ops : Array Oper} {rest : List Oper} {o : Oper} {a : Act} {Q : Exit → Act → World → Prop} (hgd : o.guard = none) (s x : Operand)
    (ho : o.op = .call { callee := .builtin .append, args := #[s, x], argTypes := #[28, 28] }) (v : Value) (n : Nat) (xs : List Oq) (hs : a.eval s = v)
    (hown : w.ownsRow w0.heap.size 44 8 v n (ocells xs)) (hx0 : Ext w0 w) (A : Option Addr) (m c : Nat) (ys : List Oq) (hx : a.eval x = .slice A m c) (hr : Rd w w.heap.size 8 A m (ocells ys)) (hn : n + m ≤ 100000000)
    (h : ∀ v' w', w'.ownsRow w0.heap.size 44 8 v' (n + m) (ocells (xs ++ ys)) → Ext w0 w' → w.grownBy w' v.ownBlock → (v'.ownBlock = v.ownBlock ∨ v'.ownBlock = some w.heap.size) → wpList Tryd.prog ops Q rest (a.put o.dst v') w') : wpList Tryd.prog ops Q (o :: rest) a w := by
  obtain ⟨i0, hi, hz0, hz1, hz2⟩ := info_parts Tryd.infoOp
  exact wpList_app hgd s x _ ho 44 i0 _ 8 64 Tryd.underlying28 hi hz0 hz1 hz2 rfl (by decide) (by decide) v n _ hs hown hx0 A m c _ hx hr (Oq.one ys) hn (fun v' w' h1 => h v' w' (by unfold ocells; rw [List.flatMap_append]; exact h1))
/-- append of a slice, in a region that draws its order. -/
theorem stepOpS {w0 w : World} {ops : Array Oper} {o : Oper} {a : Act} {K : Act → World → Prop} {Q : Exit → Act → World → Prop} {E : Prop} (hgd : o.guard = none) (s x : Operand)
    (ho : o.op = .call { callee := .builtin .append, args := #[s, x], argTypes := #[28, 28] }) (v : Value) (n : Nat) (xs : List Oq) (hs : a.eval s = v)
    (hown : w.ownsRow w0.heap.size 44 8 v n (ocells xs)) (hx0 : Ext w0 w) (A : Option Addr) (m c : Nat) (ys : List Oq) (hx : a.eval x = .slice A m c) (hr : Rd w w.heap.size 8 A m (ocells ys)) (hn : n + m ≤ 100000000)
    (h : ∀ v' w', w'.ownsRow w0.heap.size 44 8 v' (n + m) (ocells (xs ++ ys)) → Ext w0 w' → w.grownBy w' v.ownBlock → (v'.ownBlock = v.ownBlock ∨ v'.ownBlock = some w.heap.size) → K (a.put o.dst v') w') : if Region.wanted o (yielded ops a.tmps) = true then Oper.wp Tryd.prog o a w K Q else E := by
  obtain ⟨i0, hi, hz0, hz1, hz2⟩ := info_parts Tryd.infoOp
  exact step_app hgd s x _ ho 44 i0 _ 8 64 Tryd.underlying28 hi hz0 hz1 hz2 rfl (by decide) (by decide) v n _ hs hown hx0 A m c _ hx hr (Oq.one ys) hn (fun v' w' h1 => h v' w' (by unfold ocells; rw [List.flatMap_append]; exact h1))
/-- append of one element. -/
theorem appOp {w0 w : World} {ops : Array Oper} {rest : List Oper} {o : Oper} {a : Act} {Q : Exit → Act → World → Prop} (hgd : o.guard = none) (s x : Operand)
    (ho : o.op = .call { callee := .builtin .append, args := #[s, x], argTypes := #[28, 28] }) (v : Value) (n : Nat) (xs : List Oq) (hs : a.eval s = v)
    (hown : w.ownsRow w0.heap.size 44 8 v n (ocells xs)) (hx0 : Ext w0 w) (y : Oq) (e : TypeId) (b : Nat) (hx : a.eval x = .slice (some ⟨b, 0, none⟩) 1 1) (hbs : b = w.heap.size) (hn : n ≤ 90000000)
    (h : ∀ v' w', w'.ownsRow w0.heap.size 44 8 v' (n + 1) (ocells (xs ++ [y])) → Ext w0 w' → (w.alloc (.cells #[.int .i64 y.k, .int .i64 y.g.k, .int .i64 y.g.a, .int .i64 y.g.b, .int .i64 y.g.c, .int .i64 y.q, .int .i64 y.bit, .int .i64 y.cond] e)).grownBy w' v.ownBlock → (v'.ownBlock = v.ownBlock ∨ v'.ownBlock = some (w.heap.size + 1)) → wpList Tryd.prog ops Q rest (a.put o.dst v') w') : wpList Tryd.prog ops Q (o :: rest) a (w.alloc (.cells #[.int .i64 y.k, .int .i64 y.g.k, .int .i64 y.g.a, .int .i64 y.g.b, .int .i64 y.g.c, .int .i64 y.q, .int .i64 y.bit, .int .i64 y.cond] e)) := by
  subst hbs
  refine appOpS hgd s x ho v n xs hs (hown.alloc _) (hx0.alloc _) _ 1 1 [y] hx (rd_new w _ e 8 _ (by simp [Oq.cells]) (by simp [Oq.cells])) (by omega) ?_
  intro v' w' h1 h2 h3 h4
  exact h v' w' h1 h2 h3 (by simpa using h4)
set_option maxRecDepth 100000 in
set_option maxHeartbeats 1000000 in
theorem toOpS_any (A : Option Addr) (n c : Nat) (xs : List Oq) (w : World) (h : Rd w w.heap.size 8 A n (ocells xs)) (hn : n ≤ 1048576) :
    Calls Tryd.prog 16 #[.slice A n c] w fun e w' => ∃ v, e = .returned v ∧ w'.ownsRow w.heap.size 44 8 v n (ocells xs) ∧ Ext w w' := by
  obtain ⟨i0, hi, hz0, hz1, hz2⟩ := info_parts Tryd.infoOp
  have hmk := make_eq (P := Tryd.prog) 28 44 i0 _ Tryd.underlying28 hi hz0 n (by omega) hn
  rw [hz1] at hmk
  have hzc : (madeCells (Value.agg #[.int .i64 0, .int .i64 0, .int .i64 0, .int .i64 0, .int .i64 0, .int .i64 0, .int .i64 0, .int .i64 0]).cells (n * 8)).size = n * 8 := size_madeCells _ _
  generalize madeCells (Value.agg #[.int .i64 0, .int .i64 0, .int .i64 0, .int .i64 0, .int .i64 0, .int .i64 0, .int .i64 0, .int .i64 0]).cells (n * 8) = cur at hmk hzc
  have hP0 := Lib.hid (Part.start w cur 44 (ocells xs) hzc)
  clear hi hz0 hz1 hz2 hzc
  go_enter Tryd.func16, Tryd.ntmps16
  go_wp2
  clear hmk
  go_loopw [4] (fun i wr => ∃ k : Nat, k ≤ n ∧ i = .int .i64 k ∧ Part wr w.heap.size 44 (n * 8) (k * 8) (ocells xs) ∧ Ext w wr) (fun i _ => n - (intOf i).toNat)
  case atStart => exact ⟨0, Nat.zero_le _, rfl, by simpa using hP0.out, (by repeat (first | exact Ext.refl _ | assumption | refine Ext.alloc ?_ _ | refine Ext.drewN ?_ _ | refine Ext.drew ?_))⟩
  case round =>
    obtain ⟨k, hk, rfl, hP, hx⟩ := hrel
    by_cases hlt : k < n
    · obtain ⟨b, o, x, rfl, hb, hg, h0, h1, h2, h3, h4, h5, h6, h7⟩ := op_at (h.ext hx) hlt
      go_wp2_with fail
      refine (toOp_any x _).mono ?_
      rintro e w1 ⟨rfl, hx1⟩
      have hP1 := hP.ext hx1
      obtain ⟨c0, q0⟩ := hP1.cell (j := k * 8) (by omega)
      obtain ⟨c1, q1⟩ := hP1.cell (j := k * 8 + 1) (by omega)
      obtain ⟨c2, q2⟩ := hP1.cell (j := k * 8 + 2) (by omega)
      obtain ⟨c3, q3⟩ := hP1.cell (j := k * 8 + 3) (by omega)
      obtain ⟨c4, q4⟩ := hP1.cell (j := k * 8 + 4) (by omega)
      obtain ⟨c5, q5⟩ := hP1.cell (j := k * 8 + 5) (by omega)
      obtain ⟨c6, q6⟩ := hP1.cell (j := k * 8 + 6) (by omega)
      obtain ⟨c7, q7⟩ := hP1.cell (j := k * 8 + 7) (by omega)
      have f0 := hP1.frozen (k * 8)
      have f1 := hP1.frozen (k * 8 + 1)
      have f2 := hP1.frozen (k * 8 + 2)
      have f3 := hP1.frozen (k * 8 + 3)
      have f4 := hP1.frozen (k * 8 + 4)
      have f5 := hP1.frozen (k * 8 + 5)
      have f6 := hP1.frozen (k * 8 + 6)
      have f7 := hP1.frozen (k * 8 + 7)
      go_wp2
      have hl4 : ∀ j, j < 8 → (ocells xs)[k * 8 + j]? = x.cells[j]? := fun j hj => flat_at Oq.cells_len xs k x hg j hj
      go_roundw
      case rel => exact ⟨k + 1, by omega, by go_num, by rw [Nat.add_mul]; exact ((((((((hP1.set_ (hl4 0 (by omega)) (by omega)).set_ (hl4 1 (by omega)) (by omega)).set_ (hl4 2 (by omega)) (by omega)).set_ (hl4 3 (by omega)) (by omega)).set_ (hl4 4 (by omega)) (by omega)).set_ (hl4 5 (by omega)) (by omega)).set_ (hl4 6 (by omega)) (by omega)).set_ (hl4 7 (by omega)) (by omega)), (((((((((hx.trans hx1).setCell (Nat.le_refl _) _).setCell (Nat.le_refl _) _).setCell (Nat.le_refl _) _).setCell (Nat.le_refl _) _).setCell (Nat.le_refl _) _).setCell (Nat.le_refl _) _).setCell (Nat.le_refl _) _).setCell (Nat.le_refl _) _)⟩
      case measure => simp [intOf]; omega
    · go_wp2
      go_ret
      have : k = n := by omega
      subst this
      exact ⟨_, rfl, hP.own h.1 (Nat.le_refl _) (by unfold maxLen; omega), hx⟩

set_option maxRecDepth 100000 in
set_option maxHeartbeats 1000000 in
theorem eqOp_any (x y : Oq) (w : World) :
    Calls Tryd.prog 37 #[x.val, y.val] w fun e w' => e = .returned (.bool (eqO x y)) ∧ Ext w w' := by
  go_enter Tryd.func37, Tryd.ntmps37
  by_cases hk : (x.k != y.k) = true
  · go_wp2
    go_ret
    exact ⟨ret_bool (by simp_all [eqO]), (by repeat (first | exact Ext.refl _ | assumption | refine Ext.alloc ?_ _ | refine Ext.drewN ?_ _ | refine Ext.drew ?_))⟩
  · rw [Bool.not_eq_true] at hk
    go_wp2_with fail
    refine (eqGate_any x.g y.g _).mono ?_
    rintro e w1 ⟨rfl, hx1⟩
    have hx2 : Ext w w1 := Ext.trans (((Ext.refl _).alloc _).alloc _) hx1
    obtain ⟨hc, hfz⟩ := bcell hx1
    have hz := hx1.size
    simp at hz
    cases hg : eqG x.g y.g
    · go_wp2
      go_ret
      exact ⟨ret_bool (by simp_all [eqO]), hx2⟩
    · go_wp2
      all_goals
        go_ret
        exact ⟨ret_bool (by simp_all [eqO]), hx2⟩

set_option maxRecDepth 100000 in
set_option maxHeartbeats 1000000 in
theorem eqOpS_any (A B : Option Addr) (n m c d : Nat) (xs ys : List Oq) (w : World) (h : Rd w w.heap.size 8 A n (ocells xs)) (h' : Rd w w.heap.size 8 B m (ocells ys)) (hn : n ≤ 100000000) (hm : m ≤ 100000000) :
    Calls Tryd.prog 23 #[.slice A n c, .slice B m d] w fun e w' => e = .returned (.bool (eqL eqO xs ys)) ∧ Ext w w' := by
  by_cases hnm : n = m
  · subst hnm
    go_enter Tryd.func23, Tryd.ntmps23
    go_wp2
    go_loopw [5] (fun i wr => ∃ k : Nat, k ≤ n ∧ i = .int .i64 k ∧ eqL eqO (xs.take k) (ys.take k) = true ∧ Ext w wr) (fun i _ => n - (intOf i).toNat)
    case atStart => exact ⟨0, Nat.zero_le _, rfl, by simp [eqL], (by repeat (first | exact Ext.refl _ | assumption | refine Ext.alloc ?_ _ | refine Ext.drewN ?_ _ | refine Ext.drew ?_))⟩
    case round =>
      obtain ⟨k, hk, rfl, hq, hx⟩ := hrel
      have HQ := Lib.hid hq
      clear hq
      by_cases hlt : k < n
      · obtain ⟨b, o, g, rfl, hb, hg, h0, h1, h2, h3, h4, h5, h6, h7⟩ := op_at (h.ext hx) hlt
        obtain ⟨b', o', g', rfl, hb', hg', r0, r1, r2, r3, r4, r5, r6, r7⟩ := op_at (h'.ext hx) hlt
        have HG := Lib.hid hg
        have HG' := Lib.hid hg'
        clear hg hg'
        go_wp2
        go_still_tail 8, (by kernel_rfl)
        change wpList _ _ _ _ _ wr.drew
        go_wp2_with fail
        refine (eqOp_any g g' _).mono ?_
        rintro e w1 ⟨rfl, hx1⟩
        have hx2 : Ext w w1 := (hx.drew).trans hx1
        by_cases hq : eqO g g' = true
        · go_wp2
          go_roundw
          case rel => exact ⟨k + 1, by omega, by go_num, by rw [eqL_snoc _ HG.out HG'.out, HQ.out, hq]; rfl, hx2⟩
          case measure => simp [intOf]; omega
        · rw [Bool.not_eq_true] at hq
          have HF := Lib.hid (eqL_false eqO HG.out HG'.out hq)
          go_wp2
          go_ret
          exact ⟨ret_bool HF.out.symm, hx2⟩
      · have : k = n := by omega
        subst this
        rw [List.take_of_length_le (by rw [h.len Oq.cells_len (by omega)]; omega), List.take_of_length_le (by rw [h'.len Oq.cells_len (by omega)]; omega)] at HQ
        go_wp2
        go_ret
        exact ⟨ret_bool HQ.out.symm, hx⟩
  · have hnm' : ((n : Int) != (m : Int)) = true := by rw [bne_iff_ne]; omega
    have HF := Lib.hid (eqL_len eqO xs ys (by rw [h.len Oq.cells_len (by omega), h'.len Oq.cells_len (by omega)]; exact hnm))
    go_enter Tryd.func23, Tryd.ntmps23
    go_wp2
    go_ret
    exact ⟨ret_bool HF.out.symm, Ext.refl _⟩
theorem eqO_self (x : Oq) : eqO x x = true := by simp [eqO, eqG_self]
end Go.Proofs.YtaiaaomjphnbfaaDoor
