/-
  Helper text (no claim of its own): Edge as records, slices of them, and the laws' own helpers on them (size, copy, comparison). Printed by gen_fam.py.
-/
import Derived.Test.YtofbmkpfliofeaaBase
namespace Go.Proofs.Ytofbmkpfliofeaa
open Go.ChangeShapes Go.WideShapes Go.ChangeAt Go.RowKit Go.Deep

structure Ed where
  a : Int
  b : Int
def eqE (x y : Ed) : Bool := x.a == y.a && x.b == y.b
def Ed.ok (x : Ed) : Prop := I64 x.a ∧ I64 x.b
abbrev Ed.val (x : Ed) : Value := .agg #[.int .i64 x.a, .int .i64 x.b]
def Ed.cells (x : Ed) : List Value := [.int .i64 x.a, .int .i64 x.b]
abbrev ecells (xs : List Ed) : List Value := xs.flatMap Ed.cells
theorem Ed.cells_len (x : Ed) : x.cells.length = 2 := rfl
theorem edge_at {w : World} {B n i : Nat} {A : Option Addr} {xs : List Ed} (h : Rd w B 2 A n (ecells xs)) (hi : i < n) :
    ∃ b o x, A = some ⟨b, o, none⟩ ∧ b < B ∧ xs[i]? = some x ∧ w.cell? ⟨b, o + i * 2, none⟩ = some (.int .i64 x.a) ∧ w.cell? ⟨b, o + i * 2 + 1, none⟩ = some (.int .i64 x.b) := by
  obtain ⟨b, o, x, rfl, hb, hx, hc⟩ := elem_at Ed.cells_len (by omega) h hi
  exact ⟨b, o, x, rfl, hb, hx, hc 0 _ rfl, hc 1 _ rfl⟩


theorem Try.infoEdge : (Try.prog.info? 63).map (fun i => (i.zero, i.size, i.bytes)) = some (some (.agg #[.int .i64 0, .int .i64 0]), 2, 16) := by kernel_rfl
theorem Ed.one (xs : List Ed) : ∀ u ∈ ecells xs, u.oneCell' = true := by
  intro u hu
  obtain ⟨x, _, hx⟩ := List.mem_flatMap.1 hu
  simp [Ed.cells] at hx
  rcases hx with rfl | rfl <;> rfl
/-- append of a slice. -/
theorem appEdgeS {w0 w : World} {ops : Array Oper} {rest : List Oper} {o : Oper} {a : Act} {Q : Exit → Act → World → Prop} (hgd : o.guard = none) (s x : Operand)
    (ho : o.op = .call { callee := .builtin .append, args := #[s, x], argTypes := #[25, 25] }) (v : Value) (n : Nat) (xs : List Ed) (hs : a.eval s = v)
    (hown : w.ownsRow w0.heap.size 63 2 v n (ecells xs)) (hx0 : Ext w0 w) (A : Option Addr) (m c : Nat) (ys : List Ed) (hx : a.eval x = .slice A m c) (hr : Rd w w.heap.size 2 A m (ecells ys)) (hn : n + m ≤ 100000000)
    (h : ∀ v' w', w'.ownsRow w0.heap.size 63 2 v' (n + m) (ecells (xs ++ ys)) → Ext w0 w' → w.grownBy w' v.ownBlock → (v'.ownBlock = v.ownBlock ∨ v'.ownBlock = some w.heap.size) → wpList Try.prog ops Q rest (a.put o.dst v') w') : wpList Try.prog ops Q (o :: rest) a w := by
  obtain ⟨i0, hi, hz0, hz1, hz2⟩ := info_parts Try.infoEdge
  exact wpList_app hgd s x _ ho 63 i0 _ 2 16 Try.underlying25 hi hz0 hz1 hz2 rfl (by decide) (by decide) v n _ hs hown hx0 A m c _ hx hr (Ed.one ys) hn (fun v' w' h1 => h v' w' (by unfold ecells; rw [List.flatMap_append]; exact h1))
/-- append of a slice, in a region that draws its order. -/
theorem stepEdgeS {w0 w : World} {ops : Array Oper} {o : Oper} {a : Act} {K : Act → World → Prop} {Q : Exit → Act → World → Prop} {E : Prop} (hgd : o.guard = none) (s x : Operand)
    (ho : o.op = .call { callee := .builtin .append, args := #[s, x], argTypes := #[25, 25] }) (v : Value) (n : Nat) (xs : List Ed) (hs : a.eval s = v)
    (hown : w.ownsRow w0.heap.size 63 2 v n (ecells xs)) (hx0 : Ext w0 w) (A : Option Addr) (m c : Nat) (ys : List Ed) (hx : a.eval x = .slice A m c) (hr : Rd w w.heap.size 2 A m (ecells ys)) (hn : n + m ≤ 100000000)
    (h : ∀ v' w', w'.ownsRow w0.heap.size 63 2 v' (n + m) (ecells (xs ++ ys)) → Ext w0 w' → w.grownBy w' v.ownBlock → (v'.ownBlock = v.ownBlock ∨ v'.ownBlock = some w.heap.size) → K (a.put o.dst v') w') : if Region.wanted o (yielded ops a.tmps) = true then Oper.wp Try.prog o a w K Q else E := by
  obtain ⟨i0, hi, hz0, hz1, hz2⟩ := info_parts Try.infoEdge
  exact step_app hgd s x _ ho 63 i0 _ 2 16 Try.underlying25 hi hz0 hz1 hz2 rfl (by decide) (by decide) v n _ hs hown hx0 A m c _ hx hr (Ed.one ys) hn (fun v' w' h1 => h v' w' (by unfold ecells; rw [List.flatMap_append]; exact h1))
/-- append of one element. -/
theorem appEdge {w0 w : World} {ops : Array Oper} {rest : List Oper} {o : Oper} {a : Act} {Q : Exit → Act → World → Prop} (hgd : o.guard = none) (s x : Operand)
    (ho : o.op = .call { callee := .builtin .append, args := #[s, x], argTypes := #[25, 25] }) (v : Value) (n : Nat) (xs : List Ed) (hs : a.eval s = v)
    (hown : w.ownsRow w0.heap.size 63 2 v n (ecells xs)) (hx0 : Ext w0 w) (y : Ed) (e : TypeId) (b : Nat) (hx : a.eval x = .slice (some ⟨b, 0, none⟩) 1 1) (hbs : b = w.heap.size) (hn : n ≤ 90000000)
    (h : ∀ v' w', w'.ownsRow w0.heap.size 63 2 v' (n + 1) (ecells (xs ++ [y])) → Ext w0 w' → (w.alloc (.cells #[.int .i64 y.a, .int .i64 y.b] e)).grownBy w' v.ownBlock → (v'.ownBlock = v.ownBlock ∨ v'.ownBlock = some (w.heap.size + 1)) → wpList Try.prog ops Q rest (a.put o.dst v') w') : wpList Try.prog ops Q (o :: rest) a (w.alloc (.cells #[.int .i64 y.a, .int .i64 y.b] e)) := by
  subst hbs
  refine appEdgeS hgd s x ho v n xs hs (hown.alloc _) (hx0.alloc _) _ 1 1 [y] hx (rd_new w _ e 2 _ (by simp [Ed.cells]) (by simp [Ed.cells])) (by omega) ?_
  intro v' w' h1 h2 h3 h4
  exact h v' w' h1 h2 h3 (by simpa using h4)
theorem eqE_self (x : Ed) : eqE x x = true := by simp [eqE]
end Go.Proofs.Ytofbmkpfliofeaa
