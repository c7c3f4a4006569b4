/-
  Helper text (no claim of its own): Gate as records, slices of them, and the laws' own helpers on them (size, copy, comparison). Printed by gen_fam.py.
-/
import Derived.Test.YtcocabflinlbbaaBase
namespace Go.Proofs.Ytcocabflinlbbaa
open Go.ChangeShapes Go.WideShapes Go.ChangeAt Go.RowKit Go.Deep

structure Gt where
  k : Int
  a : Int
  b : Int
  c : Int
def eqG (x y : Gt) : Bool := x.k == y.k && x.a == y.a && x.b == y.b && x.c == y.c
def Gt.ok (g : Gt) : Prop := I64 g.k ∧ I64 g.a ∧ I64 g.b ∧ I64 g.c
abbrev Gt.val (x : Gt) : Value := .agg #[.int .i64 x.k, .int .i64 x.a, .int .i64 x.b, .int .i64 x.c]
def Gt.cells (x : Gt) : List Value := [.int .i64 x.k, .int .i64 x.a, .int .i64 x.b, .int .i64 x.c]
abbrev gcells (xs : List Gt) : List Value := xs.flatMap Gt.cells
theorem Gt.cells_len (x : Gt) : x.cells.length = 4 := rfl
theorem gate_at {w : World} {B n i : Nat} {A : Option Addr} {xs : List Gt} (h : Rd w B 4 A n (gcells xs)) (hi : i < n) :
    ∃ b o x, A = some ⟨b, o, none⟩ ∧ b < B ∧ xs[i]? = some x ∧ w.cell? ⟨b, o + i * 4, none⟩ = some (.int .i64 x.k) ∧ w.cell? ⟨b, o + i * 4 + 1, none⟩ = some (.int .i64 x.a) ∧ w.cell? ⟨b, o + i * 4 + 2, none⟩ = some (.int .i64 x.b) ∧ w.cell? ⟨b, o + i * 4 + 3, none⟩ = some (.int .i64 x.c) := by
  obtain ⟨b, o, x, rfl, hb, hx, hc⟩ := elem_at Gt.cells_len (by omega) h hi
  exact ⟨b, o, x, rfl, hb, hx, hc 0 _ rfl, hc 1 _ rfl, hc 2 _ rfl, hc 3 _ rfl⟩


theorem Try.cellsLGate : Try.prog.cellsOf 49 = 4 := by kernel_rfl
theorem open_lgate {H : Type} {enc : TypeId × Value → H} {w : World} {spare : Nat → Bool} {held : Bool} (n : Nat) (cs : List Value) (x : DataW H × List MemPlace) (h : DataW.trod enc Try.prog w 0 spare held n 49 cs = some x) :
    ∃ g : Gt, cs = g.cells ∧ g.ok := by
  obtain ⟨ys, n', _, _, hl, hyl, hf⟩ := DataW.trod_struct Try.underlying49 h
  rw [Try.cellsLGate] at hl
  obtain ⟨c0, c1, c2, c3, rfl⟩ := len4 hl
  obtain ⟨_, h0⟩ := field_at hf hyl 0 _ rfl 3 0 1 rfl rfl Try.cellsInt
  obtain ⟨_, h1⟩ := field_at hf hyl 1 _ rfl 3 1 1 rfl rfl Try.cellsInt
  obtain ⟨_, h2⟩ := field_at hf hyl 2 _ rfl 3 2 1 rfl rfl Try.cellsInt
  obtain ⟨_, h3⟩ := field_at hf hyl 3 _ rfl 3 3 1 rfl rfl Try.cellsInt
  obtain ⟨k, e0, i0⟩ := open_cell_int Try.underlying3 h0
  obtain ⟨a, e1, i1⟩ := open_cell_int Try.underlying3 h1
  obtain ⟨b, e2, i2⟩ := open_cell_int Try.underlying3 h2
  obtain ⟨c, e3, i3⟩ := open_cell_int Try.underlying3 h3
  injection e0 with e0; injection e1 with e1; injection e2 with e2; injection e3 with e3
  subst e0 e1 e2 e3
  exact ⟨⟨k, a, b, c⟩, rfl, i0, i1, i2, i3⟩
set_option maxRecDepth 100000 in
/-- An argument of type laws.Gate. -/
theorem open_lgateV {H : Type} {enc : TypeId × Value → H} {w : World} {spare : Nat → Bool} {held : Bool} {base : Nat} {v : Value} {d : DataW H} {p : List MemPlace} (hv : Value.okWide Try.prog w .any base 49 v)
    (h : DataW.Trod enc Try.prog w 0 spare held 49 v d p) : ∃ g : Gt, v = g.val ∧ g.ok := by
  obtain ⟨cs, rfl, hsz⟩ := okWide_struct Try.underlying49 hv
  obtain ⟨n, hn⟩ := h
  obtain ⟨g, e, hg⟩ := open_lgate _ _ _ hn
  refine ⟨g, ?_, hg⟩
  obtain ⟨l⟩ := cs
  have e' : l = g.cells := e
  rw [e']; rfl
set_option maxRecDepth 100000 in
theorem open_lgatesT {H : Type} {enc : TypeId × Value → H} {w : World} {spare : Nat → Bool} {held : Bool} {n : Nat} {cs : List Value} {x : DataW H × List MemPlace} (h : DataW.trod enc Try.prog w 0 spare held n 22 cs = some x) :
    ∃ (A : Option Addr) (n c : Nat) (gs : List Gt), cs = [.slice A n c] ∧ n ≤ c ∧ c ≤ maxLen ∧ Rd w w.heap.size 4 A n (gcells gs) ∧ ∀ g ∈ gs, g.ok :=
  open_row Gt.cells_len (by omega) Try.underlying22 Try.cellsLGate open_lgate h
set_option maxRecDepth 100000 in
/-- An argument of type []laws.Gate. -/
theorem open_lgates {H : Type} {enc : TypeId × Value → H} {w : World} {spare : Nat → Bool} {held : Bool} {base : Nat} {v : Value} {d : DataW H} {p : List MemPlace} (hv : Value.okWide Try.prog w .any base 22 v)
    (h : DataW.Trod enc Try.prog w 0 spare held 22 v d p) :
    ∃ (A : Option Addr) (n c : Nat) (gs : List Gt), v = .slice A n c ∧ n ≤ c ∧ c ≤ maxLen ∧ Rd w w.heap.size 4 A n (gcells gs) ∧ ∀ g ∈ gs, g.ok := by
  obtain ⟨a, len, cap, rfl⟩ := okWide_slice Try.underlying22 hv
  obtain ⟨n, hn⟩ := h
  obtain ⟨A, n, c, gs, e, r⟩ := open_lgatesT hn
  simp [Value.cells] at e
  obtain ⟨rfl, rfl, rfl⟩ := e
  exact ⟨_, _, _, gs, rfl, r⟩
theorem szGateS_any (A : Option Addr) (n c : Nat) (l : Int) (w : World) (hl : 0 ≤ l) (hl2 : l ≤ 1048576) (hn : n ≤ maxLen) :
    Calls Try.prog 9 #[.slice A n c, .int .i64 l] w fun e w' => e = .returned (.int .i64 (szF l n)) ∧ w = w' := by
  unfold maxLen at hn
  by_cases h : l < n
  · have hf := Lib.hid (szF_lt h)
    go_enter Try.func9, Try.ntmps9
    go_wp2
    go_ret
    exact ⟨ret_int hf.out.symm, rfl⟩
  · have hf := Lib.hid (szF_ge h)
    go_enter Try.func9, Try.ntmps9
    go_wp2
    go_ret
    exact ⟨ret_int hf.out.symm, rfl⟩

set_option maxRecDepth 100000 in
theorem toGate_ex (x : Gt) (w : World) :
    Calls Try.prog 19 #[x.val] w fun e w' => e = .returned x.val ∧ w' = ((w.alloc (.cells #[.int .i64 x.k, .int .i64 x.a, .int .i64 x.b, .int .i64 x.c] 49)).alloc (.cells #[.int .i64 x.k, .int .i64 x.a, .int .i64 x.b, .int .i64 x.c] 45)).alloc (.cells #[.int .i64 x.k, .int .i64 x.a, .int .i64 x.b, .int .i64 x.c] 45) := by
  go_enter Try.func19, Try.ntmps19
  go_wp2
  exact bodyPost_ret (v := .agg #[.int .i64 x.k, .int .i64 x.a, .int .i64 x.b, .int .i64 x.c]) (by simp [results, Try.results19, go_sem]) rfl ⟨rfl, rfl⟩
set_option maxRecDepth 100000 in
theorem toGate_any (x : Gt) (w : World) :
    Calls Try.prog 19 #[x.val] w fun e w' => e = .returned x.val ∧ Ext w w' := by
  go_enter Try.func19, Try.ntmps19
  go_wp2
  exact bodyPost_ret (v := .agg #[.int .i64 x.k, .int .i64 x.a, .int .i64 x.b, .int .i64 x.c]) (by simp [results, Try.results19, go_sem]) rfl ⟨rfl, (by repeat (first | exact Ext.refl _ | assumption | refine Ext.alloc ?_ _ | refine Ext.drewN ?_ _ | refine Ext.drew ?_))⟩

theorem Try.infoGate : (Try.prog.info? 45).map (fun i => (i.zero, i.size, i.bytes)) = some (some (.agg #[.int .i64 0, .int .i64 0, .int .i64 0, .int .i64 0]), 4, 32) := by kernel_rfl
theorem Gt.one (xs : List Gt) : ∀ u ∈ gcells xs, u.oneCell' = true := by
  intro u hu
  obtain ⟨x, _, hx⟩ := List.mem_flatMap.1 hu
  simp [Gt.cells] at hx
  rcases hx with rfl | rfl | rfl | rfl <;> rfl
/-- append of a slice. -/
theorem appGateS {w0 w : World} {ops : Array Oper} {rest : List Oper} {o : Oper} {a : Act} {Q : Exit → Act → World → Prop} (hgd : o.guard = none) (s x : Operand)
    (ho : o.op = .call { callee := .builtin .append, args := #[s, x], argTypes := #[27, 27] }) (v : Value) (n : Nat) (xs : List Gt) (hs : a.eval s = v)
    (hown : w.ownsRow w0.heap.size 45 4 v n (gcells xs)) (hx0 : Ext w0 w) (A : Option Addr) (m c : Nat) (ys : List Gt) (hx : a.eval x = .slice A m c) (hr : Rd w w.heap.size 4 A m (gcells ys)) (hn : n + m ≤ 100000000)
    (h : ∀ v' w', w'.ownsRow w0.heap.size 45 4 v' (n + m) (gcells (xs ++ ys)) → Ext w0 w' → w.grownBy w' v.ownBlock → (v'.ownBlock = v.ownBlock ∨ v'.ownBlock = some w.heap.size) → wpList Try.prog ops Q rest (a.put o.dst v') w') : wpList Try.prog ops Q (o :: rest) a w := by
  obtain ⟨i0, hi, hz0, hz1, hz2⟩ := info_parts Try.infoGate
  exact wpList_app hgd s x _ ho 45 i0 _ 4 32 Try.underlying27 hi hz0 hz1 hz2 rfl (by decide) (by decide) v n _ hs hown hx0 A m c _ hx hr (Gt.one ys) hn (fun v' w' h1 => h v' w' (by unfold gcells; rw [List.flatMap_append]; exact h1))
/-- append of a slice, in a region that draws its order. -/
theorem stepGateS {w0 w : World} {ops : Array Oper} {o : Oper} {a : Act} {K : Act → World → Prop} {Q : Exit → Act → World → Prop} {E : Prop} (hgd : o.guard = none) (s x : Operand)
    (ho : o.op = .call { callee := .builtin .append, args := #[s, x], argTypes := #[27, 27] }) (v : Value) (n : Nat) (xs : List Gt) (hs : a.eval s = v)
    (hown : w.ownsRow w0.heap.size 45 4 v n (gcells xs)) (hx0 : Ext w0 w) (A : Option Addr) (m c : Nat) (ys : List Gt) (hx : a.eval x = .slice A m c) (hr : Rd w w.heap.size 4 A m (gcells ys)) (hn : n + m ≤ 100000000)
    (h : ∀ v' w', w'.ownsRow w0.heap.size 45 4 v' (n + m) (gcells (xs ++ ys)) → Ext w0 w' → w.grownBy w' v.ownBlock → (v'.ownBlock = v.ownBlock ∨ v'.ownBlock = some w.heap.size) → K (a.put o.dst v') w') : if Region.wanted o (yielded ops a.tmps) = true then Oper.wp Try.prog o a w K Q else E := by
  obtain ⟨i0, hi, hz0, hz1, hz2⟩ := info_parts Try.infoGate
  exact step_app hgd s x _ ho 45 i0 _ 4 32 Try.underlying27 hi hz0 hz1 hz2 rfl (by decide) (by decide) v n _ hs hown hx0 A m c _ hx hr (Gt.one ys) hn (fun v' w' h1 => h v' w' (by unfold gcells; rw [List.flatMap_append]; exact h1))
/-- append of one element. -/
theorem appGate {w0 w : World} {ops : Array Oper} {rest : List Oper} {o : Oper} {a : Act} {Q : Exit → Act → World → Prop} (hgd : o.guard = none) (s x : Operand)
    (ho : o.op = .call { callee := .builtin .append, args := #[s, x], argTypes := #[27, 27] }) (v : Value) (n : Nat) (xs : List Gt) (hs : a.eval s = v)
    (hown : w.ownsRow w0.heap.size 45 4 v n (gcells xs)) (hx0 : Ext w0 w) (y : Gt) (e : TypeId) (b : Nat) (hx : a.eval x = .slice (some ⟨b, 0, none⟩) 1 1) (hbs : b = w.heap.size) (hn : n ≤ 90000000)
    (h : ∀ v' w', w'.ownsRow w0.heap.size 45 4 v' (n + 1) (gcells (xs ++ [y])) → Ext w0 w' → (w.alloc (.cells #[.int .i64 y.k, .int .i64 y.a, .int .i64 y.b, .int .i64 y.c] e)).grownBy w' v.ownBlock → (v'.ownBlock = v.ownBlock ∨ v'.ownBlock = some (w.heap.size + 1)) → wpList Try.prog ops Q rest (a.put o.dst v') w') : wpList Try.prog ops Q (o :: rest) a (w.alloc (.cells #[.int .i64 y.k, .int .i64 y.a, .int .i64 y.b, .int .i64 y.c] e)) := by
  subst hbs
  refine appGateS hgd s x ho v n xs hs (hown.alloc _) (hx0.alloc _) _ 1 1 [y] hx (rd_new w _ e 4 _ (by simp [Gt.cells]) (by simp [Gt.cells])) (by omega) ?_
  intro v' w' h1 h2 h3 h4
  exact h v' w' h1 h2 h3 (by simpa using h4)
set_option maxRecDepth 100000 in
set_option maxHeartbeats 1000000 in
theorem toGateS_any (A : Option Addr) (n c : Nat) (xs : List Gt) (w : World) (h : Rd w w.heap.size 4 A n (gcells xs)) (hn : n ≤ 1048576) :
    Calls Try.prog 12 #[.slice A n c] w fun e w' => ∃ v, e = .returned v ∧ w'.ownsRow w.heap.size 45 4 v n (gcells xs) ∧ Ext w w' := by
  obtain ⟨i0, hi, hz0, hz1, hz2⟩ := info_parts Try.infoGate
  have hmk := make_eq (P := Try.prog) 27 45 i0 _ Try.underlying27 hi hz0 n (by omega) hn
  rw [hz1] at hmk
  have hzc : (madeCells (Value.agg #[.int .i64 0, .int .i64 0, .int .i64 0, .int .i64 0]).cells (n * 4)).size = n * 4 := size_madeCells _ _
  generalize madeCells (Value.agg #[.int .i64 0, .int .i64 0, .int .i64 0, .int .i64 0]).cells (n * 4) = cur at hmk hzc
  have hP0 := Lib.hid (Part.start w cur 45 (gcells xs) hzc)
  clear hi hz0 hz1 hz2 hzc
  go_enter Try.func12, Try.ntmps12
  go_wp2
  clear hmk
  go_loopw [4] (fun i wr => ∃ k : Nat, k ≤ n ∧ i = .int .i64 k ∧ Part wr w.heap.size 45 (n * 4) (k * 4) (gcells xs) ∧ Ext w wr) (fun i _ => n - (intOf i).toNat)
  case atStart => exact ⟨0, Nat.zero_le _, rfl, by simpa using hP0.out, (by repeat (first | exact Ext.refl _ | assumption | refine Ext.alloc ?_ _ | refine Ext.drewN ?_ _ | refine Ext.drew ?_))⟩
  case round =>
    obtain ⟨k, hk, rfl, hP, hx⟩ := hrel
    by_cases hlt : k < n
    · obtain ⟨b, o, x, rfl, hb, hg, h0, h1, h2, h3⟩ := gate_at (h.ext hx) hlt
      go_wp2_with fail
      refine (toGate_any x _).mono ?_
      rintro e w1 ⟨rfl, hx1⟩
      have hP1 := hP.ext hx1
      obtain ⟨c0, q0⟩ := hP1.cell (j := k * 4) (by omega)
      obtain ⟨c1, q1⟩ := hP1.cell (j := k * 4 + 1) (by omega)
      obtain ⟨c2, q2⟩ := hP1.cell (j := k * 4 + 2) (by omega)
      obtain ⟨c3, q3⟩ := hP1.cell (j := k * 4 + 3) (by omega)
      have f0 := hP1.frozen (k * 4)
      have f1 := hP1.frozen (k * 4 + 1)
      have f2 := hP1.frozen (k * 4 + 2)
      have f3 := hP1.frozen (k * 4 + 3)
      go_wp2
      have hl4 : ∀ j, j < 4 → (gcells xs)[k * 4 + j]? = x.cells[j]? := fun j hj => flat_at Gt.cells_len xs k x hg j hj
      go_roundw
      case rel => exact ⟨k + 1, by omega, by go_num, by rw [Nat.add_mul]; exact ((((hP1.set_ (hl4 0 (by omega)) (by omega)).set_ (hl4 1 (by omega)) (by omega)).set_ (hl4 2 (by omega)) (by omega)).set_ (hl4 3 (by omega)) (by omega)), (((((hx.trans hx1).setCell (Nat.le_refl _) _).setCell (Nat.le_refl _) _).setCell (Nat.le_refl _) _).setCell (Nat.le_refl _) _)⟩
      case measure => simp [intOf]; omega
    · go_wp2
      go_ret
      have : k = n := by omega
      subst this
      exact ⟨_, rfl, hP.own h.1 (Nat.le_refl _) (by unfold maxLen; omega), hx⟩

set_option maxRecDepth 100000 in
set_option maxHeartbeats 1000000 in
theorem eqGate_any (x y : Gt) (w : World) :
    Calls Try.prog 24 #[x.val, y.val] w fun e w' => e = .returned (.bool (eqG x y)) ∧ Ext w w' := by
  go_enter Try.func24, Try.ntmps24
  go_wp2
  all_goals
    go_ret
    exact ⟨ret_bool (by simp_all [eqG]), (by repeat (first | exact Ext.refl _ | assumption | refine Ext.alloc ?_ _ | refine Ext.drewN ?_ _ | refine Ext.drew ?_))⟩

set_option maxRecDepth 100000 in
set_option maxHeartbeats 1000000 in
theorem eqGateS_any (A B : Option Addr) (n m c d : Nat) (xs ys : List Gt) (w : World) (h : Rd w w.heap.size 4 A n (gcells xs)) (h' : Rd w w.heap.size 4 B m (gcells ys)) (hn : n ≤ 100000000) (hm : m ≤ 100000000) :
    Calls Try.prog 15 #[.slice A n c, .slice B m d] w fun e w' => e = .returned (.bool (eqL eqG xs ys)) ∧ Ext w w' := by
  by_cases hnm : n = m
  · subst hnm
    go_enter Try.func15, Try.ntmps15
    go_wp2
    go_loopw [5] (fun i wr => ∃ k : Nat, k ≤ n ∧ i = .int .i64 k ∧ eqL eqG (xs.take k) (ys.take k) = true ∧ Ext w wr) (fun i _ => n - (intOf i).toNat)
    case atStart => exact ⟨0, Nat.zero_le _, rfl, by simp [eqL], (by repeat (first | exact Ext.refl _ | assumption | refine Ext.alloc ?_ _ | refine Ext.drewN ?_ _ | refine Ext.drew ?_))⟩
    case round =>
      obtain ⟨k, hk, rfl, hq, hx⟩ := hrel
      have HQ := Lib.hid hq
      clear hq
      by_cases hlt : k < n
      · obtain ⟨b, o, g, rfl, hb, hg, h0, h1, h2, h3⟩ := gate_at (h.ext hx) hlt
        obtain ⟨b', o', g', rfl, hb', hg', r0, r1, r2, r3⟩ := gate_at (h'.ext hx) hlt
        have HG := Lib.hid hg
        have HG' := Lib.hid hg'
        clear hg hg'
        go_wp2
        go_still_tail 8, (by kernel_rfl)
        change wpList _ _ _ _ _ wr.drew
        go_wp2_with fail
        refine (eqGate_any g g' _).mono ?_
        rintro e w1 ⟨rfl, hx1⟩
        have hx2 : Ext w w1 := (hx.drew).trans hx1
        by_cases hq : eqG g g' = true
        · go_wp2
          go_roundw
          case rel => exact ⟨k + 1, by omega, by go_num, by rw [eqL_snoc _ HG.out HG'.out, HQ.out, hq]; rfl, hx2⟩
          case measure => simp [intOf]; omega
        · rw [Bool.not_eq_true] at hq
          have HF := Lib.hid (eqL_false eqG HG.out HG'.out hq)
          go_wp2
          go_ret
          exact ⟨ret_bool HF.out.symm, hx2⟩
      · have : k = n := by omega
        subst this
        rw [List.take_of_length_le (by rw [h.len Gt.cells_len (by omega)]; omega), List.take_of_length_le (by rw [h'.len Gt.cells_len (by omega)]; omega)] at HQ
        go_wp2
        go_ret
        exact ⟨ret_bool HQ.out.symm, hx⟩
  · have hnm' : ((n : Int) != (m : Int)) = true := by rw [bne_iff_ne]; omega
    have HF := Lib.hid (eqL_len eqG xs ys (by rw [h.len Gt.cells_len (by omega), h'.len Gt.cells_len (by omega)]; exact hnm))
    go_enter Try.func15, Try.ntmps15
    go_wp2
    go_ret
    exact ⟨ret_bool HF.out.symm, Ext.refl _⟩
theorem eqG_self (x : Gt) : eqG x x = true := by simp [eqG]
end Go.Proofs.Ytcocabflinlbbaa
