/-
 Helper text (no claim of its own): Op as records, slices of them, and the laws' own helpers on them (size, copy, comparison). Printed by gen_fam.py.
-/
import Derived.Test.YtdjckjfclhjpcaaGreatGate
namespace Go.Proofs.YtdjckjfclhjpcaaGreat
open Go.ChangeShapes Go.WideShapes Go.ChangeAt Go.RowKit Go.Deep

structure Oq where
 k : Int
 g : Gt
 q : Int
 bit : Int
 cond : Int
def eqO (x y : Oq) : Bool := x.k == y.k && eqG x.g y.g && x.q == y.q && x.bit == y.bit && x.cond == y.cond
def Oq.ok (x : Oq) : Prop := I64 x.k ∧ x.g.ok ∧ I64 x.q ∧ I64 x.bit ∧ I64 x.cond
abbrev Oq.val (x : Oq) : Value := .agg #[.int .i64 x.k, .int .i64 x.g.k, .int .i64 x.g.a, .int .i64 x.g.b, .int .i64 x.g.c, .int .i64 x.q, .int .i64 x.bit, .int .i64 x.cond]
def Oq.cells (x : Oq) : List Value := [.int .i64 x.k, .int .i64 x.g.k, .int .i64 x.g.a, .int .i64 x.g.b, .int .i64 x.g.c, .int .i64 x.q, .int .i64 x.bit, .int .i64 x.cond]
abbrev ocells (xs : List Oq) : List Value := xs.flatMap Oq.cells
theorem Oq.cells_len (x : Oq) : x.cells.length = 8 := rfl
theorem op_at {w : World} {B n i : Nat} {A : Option Addr} {xs : List Oq} (h : Rd w B 8 A n (ocells xs)) (hi : i < n) :
  ∃ b o x, A = some ⟨b, o, none⟩ ∧ b < B ∧ xs[i]? = some x ∧ w.cell? ⟨b, o + i * 8, none⟩ = some (.int .i64 x.k) ∧ w.cell? ⟨b, o + i * 8 + 1, none⟩ = some (.int .i64 x.g.k) ∧ w.cell? ⟨b, o + i * 8 + 2, none⟩ = some (.int .i64 x.g.a) ∧ w.cell? ⟨b, o + i * 8 + 3, none⟩ = some (.int .i64 x.g.b) ∧ w.cell? ⟨b, o + i * 8 + 4, none⟩ = some (.int .i64 x.g.c) ∧ w.cell? ⟨b, o + i * 8 + 5, none⟩ = some (.int .i64 x.q) ∧ w.cell? ⟨b, o + i * 8 + 6, none⟩ = some (.int .i64 x.bit) ∧ w.cell? ⟨b, o + i * 8 + 7, none⟩ = some (.int .i64 x.cond) := by
 obtain ⟨b, o, x, rfl, hb, hx, hc⟩ := elem_at Oq.cells_len (by omega) h hi
 exact ⟨b, o, x, rfl, hb, hx, hc 0 _ rfl, hc 1 _ rfl, hc 2 _ rfl, hc 3 _ rfl, hc 4 _ rfl, hc 5 _ rfl, hc 6 _ rfl, hc 7 _ rfl⟩


theorem Tryz.infoOp : (Tryz.prog.info? 40).map (fun i => (i.zero, i.size, i.bytes)) = some (some (.agg #[.int .i64 0, .int .i64 0, .int .i64 0, .int .i64 0, .int .i64 0, .int .i64 0, .int .i64 0, .int .i64 0]), 8, 64) := by kernel_rfl
theorem Oq.one (xs : List Oq) : ∀ u ∈ ocells xs, u.oneCell' = true := by
 intro u hu
 obtain ⟨x, _, hx⟩ := List.mem_flatMap.1 hu
 simp [Oq.cells] at hx
 rcases hx with rfl | rfl | rfl | rfl | rfl | rfl | rfl | rfl <;> rfl
/-- append of a slice. -/
theorem appOpS {w0 w : World} {ops : Array Oper} {rest : List Oper} {o : Oper} {a : Act} {Q : Exit → Act → World → Prop} (hgd : o.guard = none) (s x : Operand)
  (ho : o.op = .call { callee := .builtin .append, args := #[s, x], argTypes := #[24, 24] }) (v : Value) (n : Nat) (xs : List Oq) (hs : a.eval s = v)
  (hown : w.ownsRow w0.heap.size 40 8 v n (ocells xs)) (hx0 : Ext w0 w) (A : Option Addr) (m c : Nat) (ys : List Oq) (hx : a.eval x = .slice A m c) (hr : Rd w w.heap.size 8 A m (ocells ys)) (hn : n + m ≤ 2000000000000)
  (h : ∀ v' w', w'.ownsRow w0.heap.size 40 8 v' (n + m) (ocells (xs ++ ys)) → Ext w0 w' → w.grownBy w' v.ownBlock → (v'.ownBlock = v.ownBlock ∨ v'.ownBlock = some w.heap.size) → wpList Tryz.prog ops Q rest (a.put o.dst v') w') : wpList Tryz.prog ops Q (o :: rest) a w := by
 obtain ⟨i0, hi, hz0, hz1, hz2⟩ := info_parts Tryz.infoOp
 exact wpList_app hgd s x _ ho 40 i0 _ 8 64 Tryz.underlying24 hi hz0 hz1 hz2 rfl (by decide) (by decide) v n _ hs hown hx0 A m c _ hx hr (Oq.one ys) hn (fun v' w' h1 => h v' w' (by unfold ocells; rw [List.flatMap_append]; exact h1))
/-- append of a slice, in a region that draws its order. -/
theorem stepOpS {w0 w : World} {ops : Array Oper} {o : Oper} {a : Act} {K : Act → World → Prop} {Q : Exit → Act → World → Prop} {E : Prop} (hgd : o.guard = none) (s x : Operand)
  (ho : o.op = .call { callee := .builtin .append, args := #[s, x], argTypes := #[24, 24] }) (v : Value) (n : Nat) (xs : List Oq) (hs : a.eval s = v)
  (hown : w.ownsRow w0.heap.size 40 8 v n (ocells xs)) (hx0 : Ext w0 w) (A : Option Addr) (m c : Nat) (ys : List Oq) (hx : a.eval x = .slice A m c) (hr : Rd w w.heap.size 8 A m (ocells ys)) (hn : n + m ≤ 2000000000000)
  (h : ∀ v' w', w'.ownsRow w0.heap.size 40 8 v' (n + m) (ocells (xs ++ ys)) → Ext w0 w' → w.grownBy w' v.ownBlock → (v'.ownBlock = v.ownBlock ∨ v'.ownBlock = some w.heap.size) → K (a.put o.dst v') w') : if Region.wanted o (yielded ops a.tmps) = true then Oper.wp Tryz.prog o a w K Q else E := by
 obtain ⟨i0, hi, hz0, hz1, hz2⟩ := info_parts Tryz.infoOp
 exact step_app hgd s x _ ho 40 i0 _ 8 64 Tryz.underlying24 hi hz0 hz1 hz2 rfl (by decide) (by decide) v n _ hs hown hx0 A m c _ hx hr (Oq.one ys) hn (fun v' w' h1 => h v' w' (by unfold ocells; rw [List.flatMap_append]; exact h1))
/-- append of one element. -/
theorem appOp {w0 w : World} {ops : Array Oper} {rest : List Oper} {o : Oper} {a : Act} {Q : Exit → Act → World → Prop} (hgd : o.guard = none) (s x : Operand)
  (ho : o.op = .call { callee := .builtin .append, args := #[s, x], argTypes := #[24, 24] }) (v : Value) (n : Nat) (xs : List Oq) (hs : a.eval s = v)
  (hown : w.ownsRow w0.heap.size 40 8 v n (ocells xs)) (hx0 : Ext w0 w) (y : Oq) (e : TypeId) (b : Nat) (hx : a.eval x = .slice (some ⟨b, 0, none⟩) 1 1) (hbs : b = w.heap.size) (hn : n ≤ 1800000000000)
  (h : ∀ v' w', w'.ownsRow w0.heap.size 40 8 v' (n + 1) (ocells (xs ++ [y])) → Ext w0 w' → (w.alloc (.cells #[.int .i64 y.k, .int .i64 y.g.k, .int .i64 y.g.a, .int .i64 y.g.b, .int .i64 y.g.c, .int .i64 y.q, .int .i64 y.bit, .int .i64 y.cond] e)).grownBy w' v.ownBlock → (v'.ownBlock = v.ownBlock ∨ v'.ownBlock = some (w.heap.size + 1)) → wpList Tryz.prog ops Q rest (a.put o.dst v') w') : wpList Tryz.prog ops Q (o :: rest) a (w.alloc (.cells #[.int .i64 y.k, .int .i64 y.g.k, .int .i64 y.g.a, .int .i64 y.g.b, .int .i64 y.g.c, .int .i64 y.q, .int .i64 y.bit, .int .i64 y.cond] e)) := by
 subst hbs
 refine appOpS hgd s x ho v n xs hs (hown.alloc _) (hx0.alloc _) _ 1 1 [y] hx (rd_new w _ e 8 _ (by simp [Oq.cells]) (by simp [Oq.cells])) (by omega) ?_
 intro v' w' h1 h2 h3 h4
 exact h v' w' h1 h2 h3 (by simpa using h4)
theorem eqO_self (x : Oq) : eqO x x = true := by simp [eqO, eqG_self]
end Go.Proofs.YtdjckjfclhjpcaaGreat
