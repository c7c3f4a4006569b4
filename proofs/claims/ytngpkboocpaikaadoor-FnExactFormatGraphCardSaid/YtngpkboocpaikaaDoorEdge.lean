/-
  Helper text (no claim of its own): Edge as records, slices of them, and the laws' own helpers on them (size, copy, comparison). Printed by gen_fam.py.
-/
import Derived.Test.YtngpkboocpaikaaDoorBase
namespace Go.Proofs.YtngpkboocpaikaaDoor
open Go.ChangeShapes Go.WideShapes Go.ChangeAt Go.RowKit Go.Deep

structure Ed where
  a : Int
  b : Int
def eqE (x y : Ed) : Bool := x.a == y.a && x.b == y.b
def Ed.ok (x : Ed) : Prop := I64 x.a ∧ I64 x.b
abbrev Ed.val (x : Ed) : Value := .agg #[.int .i64 x.a, .int .i64 x.b]
def Ed.cells (x : Ed) : List Value := [.int .i64 x.a, .int .i64 x.b]
abbrev ecells (xs : List Ed) : List Value := xs.flatMap Ed.cells
theorem Ed.cells_len (x : Ed) : x.cells.length = 2 := rfl
theorem edge_at {w : World} {B n i : Nat} {A : Option Addr} {xs : List Ed} (h : Rd w B 2 A n (ecells xs)) (hi : i < n) :
    ∃ b o x, A = some ⟨b, o, none⟩ ∧ b < B ∧ xs[i]? = some x ∧ w.cell? ⟨b, o + i * 2, none⟩ = some (.int .i64 x.a) ∧ w.cell? ⟨b, o + i * 2 + 1, none⟩ = some (.int .i64 x.b) := by
  obtain ⟨b, o, x, rfl, hb, hx, hc⟩ := elem_at Ed.cells_len (by omega) h hi
  exact ⟨b, o, x, rfl, hb, hx, hc 0 _ rfl, hc 1 _ rfl⟩


theorem Tryd.cellsLEdge : Tryd.prog.cellsOf 43 = 2 := by kernel_rfl
theorem open_ledge {H : Type} {enc : TypeId × Value → H} {w : World} {spare : Nat → Bool} {held : Bool} (n : Nat) (cs : List Value) (x : DataW H × List MemPlace) (h : DataW.trod enc Tryd.prog w 0 spare held n 43 cs = some x) :
    ∃ g : Ed, cs = g.cells ∧ g.ok := by
  obtain ⟨ys, n', _, _, hl, hyl, hf⟩ := DataW.trod_struct Tryd.underlying43 h
  rw [Tryd.cellsLEdge] at hl
  obtain ⟨c0, c1, rfl⟩ := len2 hl
  obtain ⟨_, h0⟩ := field_at hf hyl 0 _ rfl 3 0 1 rfl rfl Tryd.cellsInt
  obtain ⟨_, h1⟩ := field_at hf hyl 1 _ rfl 3 1 1 rfl rfl Tryd.cellsInt
  obtain ⟨a, e0, i0⟩ := open_cell_int Tryd.underlying3 h0
  obtain ⟨b, e1, i1⟩ := open_cell_int Tryd.underlying3 h1
  injection e0 with e0; injection e1 with e1
  subst e0 e1
  exact ⟨⟨a, b⟩, rfl, i0, i1⟩
set_option maxRecDepth 100000 in
theorem open_ledgesT {H : Type} {enc : TypeId × Value → H} {w : World} {spare : Nat → Bool} {held : Bool} {n : Nat} {cs : List Value} {x : DataW H × List MemPlace} (h : DataW.trod enc Tryd.prog w 0 spare held n 22 cs = some x) :
    ∃ (A : Option Addr) (n c : Nat) (gs : List Ed), cs = [.slice A n c] ∧ n ≤ c ∧ c ≤ maxLen ∧ Rd w w.heap.size 2 A n (ecells gs) ∧ ∀ g ∈ gs, g.ok :=
  open_row Ed.cells_len (by omega) Tryd.underlying22 Tryd.cellsLEdge open_ledge h
set_option maxRecDepth 100000 in
/-- An argument of type []laws.Edge. -/
theorem open_ledges {H : Type} {enc : TypeId × Value → H} {w : World} {spare : Nat → Bool} {held : Bool} {base : Nat} {v : Value} {d : DataW H} {p : List MemPlace} (hv : Value.okWide Tryd.prog w .any base 22 v)
    (h : DataW.Trod enc Tryd.prog w 0 spare held 22 v d p) :
    ∃ (A : Option Addr) (n c : Nat) (gs : List Ed), v = .slice A n c ∧ n ≤ c ∧ c ≤ maxLen ∧ Rd w w.heap.size 2 A n (ecells gs) ∧ ∀ g ∈ gs, g.ok := by
  obtain ⟨a, len, cap, rfl⟩ := okWide_slice Tryd.underlying22 hv
  obtain ⟨n, hn⟩ := h
  obtain ⟨A, n, c, gs, e, r⟩ := open_ledgesT hn
  simp [Value.cells] at e
  obtain ⟨rfl, rfl, rfl⟩ := e
  exact ⟨_, _, _, gs, rfl, r⟩
theorem szEdgeS_any (A : Option Addr) (n c : Nat) (l : Int) (w : World) (hl : 0 ≤ l) (hl2 : l ≤ 1048576) (hn : n ≤ maxLen) :
    Calls Tryd.prog 9 #[.slice A n c, .int .i64 l] w fun e w' => e = .returned (.int .i64 (szF l n)) ∧ w = w' := by
  unfold maxLen at hn
  by_cases h : l < n
  · have hf := Lib.hid (szF_lt h)
    go_enter Tryd.func9, Tryd.ntmps9
    go_wp2
    go_ret
    exact ⟨ret_int hf.out.symm, rfl⟩
  · have hf := Lib.hid (szF_ge h)
    go_enter Tryd.func9, Tryd.ntmps9
    go_wp2
    go_ret
    exact ⟨ret_int hf.out.symm, rfl⟩

set_option maxRecDepth 100000 in
theorem toEdge_any (x : Ed) (w : World) :
    Calls Tryd.prog 18 #[x.val] w fun e w' => e = .returned x.val ∧ Ext w w' := by
  go_enter Tryd.func18, Tryd.ntmps18
  go_wp2
  exact bodyPost_ret (v := .agg #[.int .i64 x.a, .int .i64 x.b]) (by simp [results, Tryd.results18, go_sem]) rfl ⟨rfl, (by repeat (first | exact Ext.refl _ | assumption | refine Ext.alloc ?_ _ | refine Ext.drewN ?_ _ | refine Ext.drew ?_))⟩

theorem Tryd.infoEdge : (Tryd.prog.info? 37).map (fun i => (i.zero, i.size, i.bytes)) = some (some (.agg #[.int .i64 0, .int .i64 0]), 2, 16) := by kernel_rfl
theorem Ed.one (xs : List Ed) : ∀ u ∈ ecells xs, u.oneCell' = true := by
  intro u hu
  obtain ⟨x, _, hx⟩ := List.mem_flatMap.1 hu
  simp [Ed.cells] at hx
  rcases hx with rfl | rfl <;> rfl
/-- append of a slice. -/
theorem appEdgeS {w0 w : World} {ops : Array Oper} {rest : List Oper} {o : Oper} {a : Act} {Q : Exit → Act → World → Prop} (hgd : o.guard = none) (s x : Operand)
    (ho : o.op = .call { callee := .builtin .append, args := #[s, x], argTypes := #[27, 27] }) (v : Value) (n : Nat) (xs : List Ed) (hs : a.eval s = v)
    (hown : w.ownsRow w0.heap.size 37 2 v n (ecells xs)) (hx0 : Ext w0 w) (A : Option Addr) (m c : Nat) (ys : List Ed) (hx : a.eval x = .slice A m c) (hr : Rd w w.heap.size 2 A m (ecells ys)) (hn : n + m ≤ 100000000)
    (h : ∀ v' w', w'.ownsRow w0.heap.size 37 2 v' (n + m) (ecells (xs ++ ys)) → Ext w0 w' → w.grownBy w' v.ownBlock → (v'.ownBlock = v.ownBlock ∨ v'.ownBlock = some w.heap.size) → wpList Tryd.prog ops Q rest (a.put o.dst v') w') : wpList Tryd.prog ops Q (o :: rest) a w := by
  obtain ⟨i0, hi, hz0, hz1, hz2⟩ := info_parts Tryd.infoEdge
  exact wpList_app hgd s x _ ho 37 i0 _ 2 16 Tryd.underlying27 hi hz0 hz1 hz2 rfl (by decide) (by decide) v n _ hs hown hx0 A m c _ hx hr (Ed.one ys) hn (fun v' w' h1 => h v' w' (by unfold ecells; rw [List.flatMap_append]; exact h1))
/-- append of a slice, in a region that draws its order. -/
theorem stepEdgeS {w0 w : World} {ops : Array Oper} {o : Oper} {a : Act} {K : Act → World → Prop} {Q : Exit → Act → World → Prop} {E : Prop} (hgd : o.guard = none) (s x : Operand)
    (ho : o.op = .call { callee := .builtin .append, args := #[s, x], argTypes := #[27, 27] }) (v : Value) (n : Nat) (xs : List Ed) (hs : a.eval s = v)
    (hown : w.ownsRow w0.heap.size 37 2 v n (ecells xs)) (hx0 : Ext w0 w) (A : Option Addr) (m c : Nat) (ys : List Ed) (hx : a.eval x = .slice A m c) (hr : Rd w w.heap.size 2 A m (ecells ys)) (hn : n + m ≤ 100000000)
    (h : ∀ v' w', w'.ownsRow w0.heap.size 37 2 v' (n + m) (ecells (xs ++ ys)) → Ext w0 w' → w.grownBy w' v.ownBlock → (v'.ownBlock = v.ownBlock ∨ v'.ownBlock = some w.heap.size) → K (a.put o.dst v') w') : if Region.wanted o (yielded ops a.tmps) = true then Oper.wp Tryd.prog o a w K Q else E := by
  obtain ⟨i0, hi, hz0, hz1, hz2⟩ := info_parts Tryd.infoEdge
  exact step_app hgd s x _ ho 37 i0 _ 2 16 Tryd.underlying27 hi hz0 hz1 hz2 rfl (by decide) (by decide) v n _ hs hown hx0 A m c _ hx hr (Ed.one ys) hn (fun v' w' h1 => h v' w' (by unfold ecells; rw [List.flatMap_append]; exact h1))
/-- append of one element. -/
theorem appEdge {w0 w : World} {ops : Array Oper} {rest : List Oper} {o : Oper} {a : Act} {Q : Exit → Act → World → Prop} (hgd : o.guard = none) (s x : Operand)
    (ho : o.op = .call { callee := .builtin .append, args := #[s, x], argTypes := #[27, 27] }) (v : Value) (n : Nat) (xs : List Ed) (hs : a.eval s = v)
    (hown : w.ownsRow w0.heap.size 37 2 v n (ecells xs)) (hx0 : Ext w0 w) (y : Ed) (e : TypeId) (b : Nat) (hx : a.eval x = .slice (some ⟨b, 0, none⟩) 1 1) (hbs : b = w.heap.size) (hn : n ≤ 90000000)
    (h : ∀ v' w', w'.ownsRow w0.heap.size 37 2 v' (n + 1) (ecells (xs ++ [y])) → Ext w0 w' → (w.alloc (.cells #[.int .i64 y.a, .int .i64 y.b] e)).grownBy w' v.ownBlock → (v'.ownBlock = v.ownBlock ∨ v'.ownBlock = some (w.heap.size + 1)) → wpList Tryd.prog ops Q rest (a.put o.dst v') w') : wpList Tryd.prog ops Q (o :: rest) a (w.alloc (.cells #[.int .i64 y.a, .int .i64 y.b] e)) := by
  subst hbs
  refine appEdgeS hgd s x ho v n xs hs (hown.alloc _) (hx0.alloc _) _ 1 1 [y] hx (rd_new w _ e 2 _ (by simp [Ed.cells]) (by simp [Ed.cells])) (by omega) ?_
  intro v' w' h1 h2 h3 h4
  exact h v' w' h1 h2 h3 (by simpa using h4)
set_option maxRecDepth 100000 in
set_option maxHeartbeats 1000000 in
theorem toEdgeS_any (A : Option Addr) (n c : Nat) (xs : List Ed) (w : World) (h : Rd w w.heap.size 2 A n (ecells xs)) (hn : n ≤ 1048576) :
    Calls Tryd.prog 12 #[.slice A n c] w fun e w' => ∃ v, e = .returned v ∧ w'.ownsRow w.heap.size 37 2 v n (ecells xs) ∧ Ext w w' := by
  obtain ⟨i0, hi, hz0, hz1, hz2⟩ := info_parts Tryd.infoEdge
  have hmk := make_eq (P := Tryd.prog) 27 37 i0 _ Tryd.underlying27 hi hz0 n (by omega) hn
  rw [hz1] at hmk
  have hzc : (madeCells (Value.agg #[.int .i64 0, .int .i64 0]).cells (n * 2)).size = n * 2 := size_madeCells _ _
  generalize madeCells (Value.agg #[.int .i64 0, .int .i64 0]).cells (n * 2) = cur at hmk hzc
  have hP0 := Lib.hid (Part.start w cur 37 (ecells xs) hzc)
  clear hi hz0 hz1 hz2 hzc
  go_enter Tryd.func12, Tryd.ntmps12
  go_wp2
  clear hmk
  go_loopw [4] (fun i wr => ∃ k : Nat, k ≤ n ∧ i = .int .i64 k ∧ Part wr w.heap.size 37 (n * 2) (k * 2) (ecells xs) ∧ Ext w wr) (fun i _ => n - (intOf i).toNat)
  case atStart => exact ⟨0, Nat.zero_le _, rfl, by simpa using hP0.out, (by repeat (first | exact Ext.refl _ | assumption | refine Ext.alloc ?_ _ | refine Ext.drewN ?_ _ | refine Ext.drew ?_))⟩
  case round =>
    obtain ⟨k, hk, rfl, hP, hx⟩ := hrel
    by_cases hlt : k < n
    · obtain ⟨b, o, x, rfl, hb, hg, h0, h1⟩ := edge_at (h.ext hx) hlt
      go_wp2_with fail
      refine (toEdge_any x _).mono ?_
      rintro e w1 ⟨rfl, hx1⟩
      have hP1 := hP.ext hx1
      obtain ⟨c0, q0⟩ := hP1.cell (j := k * 2) (by omega)
      obtain ⟨c1, q1⟩ := hP1.cell (j := k * 2 + 1) (by omega)
      have f0 := hP1.frozen (k * 2)
      have f1 := hP1.frozen (k * 2 + 1)
      go_wp2
      have hl4 : ∀ j, j < 2 → (ecells xs)[k * 2 + j]? = x.cells[j]? := fun j hj => flat_at Ed.cells_len xs k x hg j hj
      go_roundw
      case rel => exact ⟨k + 1, by omega, by go_num, by rw [Nat.add_mul]; exact ((hP1.set_ (hl4 0 (by omega)) (by omega)).set_ (hl4 1 (by omega)) (by omega)), (((hx.trans hx1).setCell (Nat.le_refl _) _).setCell (Nat.le_refl _) _)⟩
      case measure => simp [intOf]; omega
    · go_wp2
      go_ret
      have : k = n := by omega
      subst this
      exact ⟨_, rfl, hP.own h.1 (Nat.le_refl _) (by unfold maxLen; omega), hx⟩

set_option maxRecDepth 100000 in
set_option maxHeartbeats 1000000 in
theorem eqEdge_any (x y : Ed) (w : World) :
    Calls Tryd.prog 22 #[x.val, y.val] w fun e w' => e = .returned (.bool (eqE x y)) ∧ Ext w w' := by
  go_enter Tryd.func22, Tryd.ntmps22
  go_wp2
  all_goals
    go_ret
    exact ⟨ret_bool (by simp_all [eqE]), (by repeat (first | exact Ext.refl _ | assumption | refine Ext.alloc ?_ _ | refine Ext.drewN ?_ _ | refine Ext.drew ?_))⟩

set_option maxRecDepth 100000 in
set_option maxHeartbeats 1000000 in
theorem eqEdgeS_any (A B : Option Addr) (n m c d : Nat) (xs ys : List Ed) (w : World) (h : Rd w w.heap.size 2 A n (ecells xs)) (h' : Rd w w.heap.size 2 B m (ecells ys)) (hn : n ≤ 100000000) (hm : m ≤ 100000000) :
    Calls Tryd.prog 15 #[.slice A n c, .slice B m d] w fun e w' => e = .returned (.bool (eqL eqE xs ys)) ∧ Ext w w' := by
  by_cases hnm : n = m
  · subst hnm
    go_enter Tryd.func15, Tryd.ntmps15
    go_wp2
    go_loopw [5] (fun i wr => ∃ k : Nat, k ≤ n ∧ i = .int .i64 k ∧ eqL eqE (xs.take k) (ys.take k) = true ∧ Ext w wr) (fun i _ => n - (intOf i).toNat)
    case atStart => exact ⟨0, Nat.zero_le _, rfl, by simp [eqL], (by repeat (first | exact Ext.refl _ | assumption | refine Ext.alloc ?_ _ | refine Ext.drewN ?_ _ | refine Ext.drew ?_))⟩
    case round =>
      obtain ⟨k, hk, rfl, hq, hx⟩ := hrel
      have HQ := Lib.hid hq
      clear hq
      by_cases hlt : k < n
      · obtain ⟨b, o, g, rfl, hb, hg, h0, h1⟩ := edge_at (h.ext hx) hlt
        obtain ⟨b', o', g', rfl, hb', hg', r0, r1⟩ := edge_at (h'.ext hx) hlt
        have HG := Lib.hid hg
        have HG' := Lib.hid hg'
        clear hg hg'
        go_wp2
        go_still_tail 8, (by kernel_rfl)
        change wpList _ _ _ _ _ wr.drew
        go_wp2_with fail
        refine (eqEdge_any g g' _).mono ?_
        rintro e w1 ⟨rfl, hx1⟩
        have hx2 : Ext w w1 := (hx.drew).trans hx1
        by_cases hq : eqE g g' = true
        · go_wp2
          go_roundw
          case rel => exact ⟨k + 1, by omega, by go_num, by rw [eqL_snoc _ HG.out HG'.out, HQ.out, hq]; rfl, hx2⟩
          case measure => simp [intOf]; omega
        · rw [Bool.not_eq_true] at hq
          have HF := Lib.hid (eqL_false eqE HG.out HG'.out hq)
          go_wp2
          go_ret
          exact ⟨ret_bool HF.out.symm, hx2⟩
      · have : k = n := by omega
        subst this
        rw [List.take_of_length_le (by rw [h.len Ed.cells_len (by omega)]; omega), List.take_of_length_le (by rw [h'.len Ed.cells_len (by omega)]; omega)] at HQ
        go_wp2
        go_ret
        exact ⟨ret_bool HQ.out.symm, hx⟩
  · have hnm' : ((n : Int) != (m : Int)) = true := by rw [bne_iff_ne]; omega
    have HF := Lib.hid (eqL_len eqE xs ys (by rw [h.len Ed.cells_len (by omega), h'.len Ed.cells_len (by omega)]; exact hnm))
    go_enter Tryd.func15, Tryd.ntmps15
    go_wp2
    go_ret
    exact ⟨ret_bool HF.out.symm, Ext.refl _⟩
theorem eqE_self (x : Ed) : eqE x x = true := by simp [eqE]
end Go.Proofs.YtngpkboocpaikaaDoor
