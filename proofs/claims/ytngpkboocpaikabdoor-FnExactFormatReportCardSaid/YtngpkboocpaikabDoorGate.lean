/-
  Helper text (no claim of its own): Gate as records, slices of them, and the laws' own helpers on them (size, copy, comparison). Printed by gen_fam.py.
-/
import Derived.Test.YtngpkboocpaikabDoorBase
namespace Go.Proofs.YtngpkboocpaikabDoor
open Go.ChangeShapes Go.WideShapes Go.ChangeAt Go.RowKit Go.Deep

structure Gt where
  k : Int
  a : Int
  b : Int
  c : Int
def eqG (x y : Gt) : Bool := x.k == y.k && x.a == y.a && x.b == y.b && x.c == y.c
def Gt.ok (g : Gt) : Prop := I64 g.k ∧ I64 g.a ∧ I64 g.b ∧ I64 g.c
abbrev Gt.val (x : Gt) : Value := .agg #[.int .i64 x.k, .int .i64 x.a, .int .i64 x.b, .int .i64 x.c]
def Gt.cells (x : Gt) : List Value := [.int .i64 x.k, .int .i64 x.a, .int .i64 x.b, .int .i64 x.c]
abbrev gcells (xs : List Gt) : List Value := xs.flatMap Gt.cells
theorem Gt.cells_len (x : Gt) : x.cells.length = 4 := rfl
theorem gate_at {w : World} {B n i : Nat} {A : Option Addr} {xs : List Gt} (h : Rd w B 4 A n (gcells xs)) (hi : i < n) :
    ∃ b o x, A = some ⟨b, o, none⟩ ∧ b < B ∧ xs[i]? = some x ∧ w.cell? ⟨b, o + i * 4, none⟩ = some (.int .i64 x.k) ∧ w.cell? ⟨b, o + i * 4 + 1, none⟩ = some (.int .i64 x.a) ∧ w.cell? ⟨b, o + i * 4 + 2, none⟩ = some (.int .i64 x.b) ∧ w.cell? ⟨b, o + i * 4 + 3, none⟩ = some (.int .i64 x.c) := by
  obtain ⟨b, o, x, rfl, hb, hx, hc⟩ := elem_at Gt.cells_len (by omega) h hi
  exact ⟨b, o, x, rfl, hb, hx, hc 0 _ rfl, hc 1 _ rfl, hc 2 _ rfl, hc 3 _ rfl⟩


theorem Tryd.cellsLGate : Tryd.prog.cellsOf 68 = 4 := by kernel_rfl
theorem open_lgate {H : Type} {enc : TypeId × Value → H} {w : World} {spare : Nat → Bool} {held : Bool} (n : Nat) (cs : List Value) (x : DataW H × List MemPlace) (h : DataW.trod enc Tryd.prog w 0 spare held n 68 cs = some x) :
    ∃ g : Gt, cs = g.cells ∧ g.ok := by
  obtain ⟨ys, n', _, _, hl, hyl, hf⟩ := DataW.trod_struct Tryd.underlying68 h
  rw [Tryd.cellsLGate] at hl
  obtain ⟨c0, c1, c2, c3, rfl⟩ := len4 hl
  obtain ⟨_, h0⟩ := field_at hf hyl 0 _ rfl 3 0 1 rfl rfl Tryd.cellsInt
  obtain ⟨_, h1⟩ := field_at hf hyl 1 _ rfl 3 1 1 rfl rfl Tryd.cellsInt
  obtain ⟨_, h2⟩ := field_at hf hyl 2 _ rfl 3 2 1 rfl rfl Tryd.cellsInt
  obtain ⟨_, h3⟩ := field_at hf hyl 3 _ rfl 3 3 1 rfl rfl Tryd.cellsInt
  obtain ⟨k, e0, i0⟩ := open_cell_int Tryd.underlying3 h0
  obtain ⟨a, e1, i1⟩ := open_cell_int Tryd.underlying3 h1
  obtain ⟨b, e2, i2⟩ := open_cell_int Tryd.underlying3 h2
  obtain ⟨c, e3, i3⟩ := open_cell_int Tryd.underlying3 h3
  injection e0 with e0; injection e1 with e1; injection e2 with e2; injection e3 with e3
  subst e0 e1 e2 e3
  exact ⟨⟨k, a, b, c⟩, rfl, i0, i1, i2, i3⟩
set_option maxRecDepth 100000 in
/-- An argument of type laws.Gate. -/
theorem open_lgateV {H : Type} {enc : TypeId × Value → H} {w : World} {spare : Nat → Bool} {held : Bool} {base : Nat} {v : Value} {d : DataW H} {p : List MemPlace} (hv : Value.okWide Tryd.prog w .any base 68 v)
    (h : DataW.Trod enc Tryd.prog w 0 spare held 68 v d p) : ∃ g : Gt, v = g.val ∧ g.ok := by
  obtain ⟨cs, rfl, hsz⟩ := okWide_struct Tryd.underlying68 hv
  obtain ⟨n, hn⟩ := h
  obtain ⟨g, e, hg⟩ := open_lgate _ _ _ hn
  refine ⟨g, ?_, hg⟩
  obtain ⟨l⟩ := cs
  have e' : l = g.cells := e
  rw [e']; rfl
set_option maxRecDepth 100000 in
theorem toGate_ex (x : Gt) (w : World) :
    Calls Tryd.prog 40 #[x.val] w fun e w' => e = .returned x.val ∧ w' = ((w.alloc (.cells #[.int .i64 x.k, .int .i64 x.a, .int .i64 x.b, .int .i64 x.c] 68)).alloc (.cells #[.int .i64 x.k, .int .i64 x.a, .int .i64 x.b, .int .i64 x.c] 59)).alloc (.cells #[.int .i64 x.k, .int .i64 x.a, .int .i64 x.b, .int .i64 x.c] 59) := by
  go_enter Tryd.func40, Tryd.ntmps40
  go_wp2
  exact bodyPost_ret (v := .agg #[.int .i64 x.k, .int .i64 x.a, .int .i64 x.b, .int .i64 x.c]) (by simp [results, Tryd.results40, go_sem]) rfl ⟨rfl, rfl⟩
set_option maxRecDepth 100000 in
theorem toGate_any (x : Gt) (w : World) :
    Calls Tryd.prog 40 #[x.val] w fun e w' => e = .returned x.val ∧ Ext w w' := by
  go_enter Tryd.func40, Tryd.ntmps40
  go_wp2
  exact bodyPost_ret (v := .agg #[.int .i64 x.k, .int .i64 x.a, .int .i64 x.b, .int .i64 x.c]) (by simp [results, Tryd.results40, go_sem]) rfl ⟨rfl, (by repeat (first | exact Ext.refl _ | assumption | refine Ext.alloc ?_ _ | refine Ext.drewN ?_ _ | refine Ext.drew ?_))⟩

theorem Tryd.infoGate : (Tryd.prog.info? 59).map (fun i => (i.zero, i.size, i.bytes)) = some (some (.agg #[.int .i64 0, .int .i64 0, .int .i64 0, .int .i64 0]), 4, 32) := by kernel_rfl
theorem Gt.one (xs : List Gt) : ∀ u ∈ gcells xs, u.oneCell' = true := by
  intro u hu
  obtain ⟨x, _, hx⟩ := List.mem_flatMap.1 hu
  simp [Gt.cells] at hx
  rcases hx with rfl | rfl | rfl | rfl <;> rfl
/-- append of a slice. -/
theorem appGateS {w0 w : World} {ops : Array Oper} {rest : List Oper} {o : Oper} {a : Act} {Q : Exit → Act → World → Prop} (hgd : o.guard = none) (s x : Operand)
    (ho : o.op = .call { callee := .builtin .append, args := #[s, x], argTypes := #[43, 43] }) (v : Value) (n : Nat) (xs : List Gt) (hs : a.eval s = v)
    (hown : w.ownsRow w0.heap.size 59 4 v n (gcells xs)) (hx0 : Ext w0 w) (A : Option Addr) (m c : Nat) (ys : List Gt) (hx : a.eval x = .slice A m c) (hr : Rd w w.heap.size 4 A m (gcells ys)) (hn : n + m ≤ 100000000)
    (h : ∀ v' w', w'.ownsRow w0.heap.size 59 4 v' (n + m) (gcells (xs ++ ys)) → Ext w0 w' → w.grownBy w' v.ownBlock → (v'.ownBlock = v.ownBlock ∨ v'.ownBlock = some w.heap.size) → wpList Tryd.prog ops Q rest (a.put o.dst v') w') : wpList Tryd.prog ops Q (o :: rest) a w := by
  obtain ⟨i0, hi, hz0, hz1, hz2⟩ := info_parts Tryd.infoGate
  exact wpList_app hgd s x _ ho 59 i0 _ 4 32 Tryd.underlying43 hi hz0 hz1 hz2 rfl (by decide) (by decide) v n _ hs hown hx0 A m c _ hx hr (Gt.one ys) hn (fun v' w' h1 => h v' w' (by unfold gcells; rw [List.flatMap_append]; exact h1))
/-- append of a slice, in a region that draws its order. -/
theorem stepGateS {w0 w : World} {ops : Array Oper} {o : Oper} {a : Act} {K : Act → World → Prop} {Q : Exit → Act → World → Prop} {E : Prop} (hgd : o.guard = none) (s x : Operand)
    (ho : o.op = .call { callee := .builtin .append, args := #[s, x], argTypes := #[43, 43] }) (v : Value) (n : Nat) (xs : List Gt) (hs : a.eval s = v)
    (hown : w.ownsRow w0.heap.size 59 4 v n (gcells xs)) (hx0 : Ext w0 w) (A : Option Addr) (m c : Nat) (ys : List Gt) (hx : a.eval x = .slice A m c) (hr : Rd w w.heap.size 4 A m (gcells ys)) (hn : n + m ≤ 100000000)
    (h : ∀ v' w', w'.ownsRow w0.heap.size 59 4 v' (n + m) (gcells (xs ++ ys)) → Ext w0 w' → w.grownBy w' v.ownBlock → (v'.ownBlock = v.ownBlock ∨ v'.ownBlock = some w.heap.size) → K (a.put o.dst v') w') : if Region.wanted o (yielded ops a.tmps) = true then Oper.wp Tryd.prog o a w K Q else E := by
  obtain ⟨i0, hi, hz0, hz1, hz2⟩ := info_parts Tryd.infoGate
  exact step_app hgd s x _ ho 59 i0 _ 4 32 Tryd.underlying43 hi hz0 hz1 hz2 rfl (by decide) (by decide) v n _ hs hown hx0 A m c _ hx hr (Gt.one ys) hn (fun v' w' h1 => h v' w' (by unfold gcells; rw [List.flatMap_append]; exact h1))
/-- append of one element. -/
theorem appGate {w0 w : World} {ops : Array Oper} {rest : List Oper} {o : Oper} {a : Act} {Q : Exit → Act → World → Prop} (hgd : o.guard = none) (s x : Operand)
    (ho : o.op = .call { callee := .builtin .append, args := #[s, x], argTypes := #[43, 43] }) (v : Value) (n : Nat) (xs : List Gt) (hs : a.eval s = v)
    (hown : w.ownsRow w0.heap.size 59 4 v n (gcells xs)) (hx0 : Ext w0 w) (y : Gt) (e : TypeId) (b : Nat) (hx : a.eval x = .slice (some ⟨b, 0, none⟩) 1 1) (hbs : b = w.heap.size) (hn : n ≤ 90000000)
    (h : ∀ v' w', w'.ownsRow w0.heap.size 59 4 v' (n + 1) (gcells (xs ++ [y])) → Ext w0 w' → (w.alloc (.cells #[.int .i64 y.k, .int .i64 y.a, .int .i64 y.b, .int .i64 y.c] e)).grownBy w' v.ownBlock → (v'.ownBlock = v.ownBlock ∨ v'.ownBlock = some (w.heap.size + 1)) → wpList Tryd.prog ops Q rest (a.put o.dst v') w') : wpList Tryd.prog ops Q (o :: rest) a (w.alloc (.cells #[.int .i64 y.k, .int .i64 y.a, .int .i64 y.b, .int .i64 y.c] e)) := by
  subst hbs
  refine appGateS hgd s x ho v n xs hs (hown.alloc _) (hx0.alloc _) _ 1 1 [y] hx (rd_new w _ e 4 _ (by simp [Gt.cells]) (by simp [Gt.cells])) (by omega) ?_
  intro v' w' h1 h2 h3 h4
  exact h v' w' h1 h2 h3 (by simpa using h4)
set_option maxRecDepth 100000 in
set_option maxHeartbeats 1000000 in
theorem eqGate_any (x y : Gt) (w : World) :
    Calls Tryd.prog 46 #[x.val, y.val] w fun e w' => e = .returned (.bool (eqG x y)) ∧ Ext w w' := by
  go_enter Tryd.func46, Tryd.ntmps46
  go_wp2
  all_goals
    go_ret
    exact ⟨ret_bool (by simp_all [eqG]), (by repeat (first | exact Ext.refl _ | assumption | refine Ext.alloc ?_ _ | refine Ext.drewN ?_ _ | refine Ext.drew ?_))⟩

theorem eqG_self (x : Gt) : eqG x x = true := by simp [eqG]
end Go.Proofs.YtngpkboocpaikabDoor
