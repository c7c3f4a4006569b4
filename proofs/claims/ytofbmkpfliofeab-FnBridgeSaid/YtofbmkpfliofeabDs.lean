/-
  Helper text (no claim of its own): slices of amplitudes: reading and append. Printed by gen_ds.py.
-/
import Derived.Test.YtofbmkpfliofeabDw
namespace Go.Proofs.Ytofbmkpfliofeab
open Go.ChangeShapes Go.WideShapes Go.ChangeAt Go.RowKit Go.Deep
def Dw.cells (x : Dw) : List Value := [.int .i64 x.n.a, .int .i64 x.n.b, .int .i64 x.n.c, .int .i64 x.n.d, .int .i64 x.e]
abbrev scells (xs : List Dw) : List Value := xs.flatMap Dw.cells
theorem Dw.cells_len (x : Dw) : x.cells.length = 5 := rfl
theorem dw_at {w : World} {B n i : Nat} {A : Option Addr} {xs : List Dw} (h : Rd w B 5 A n (scells xs)) (hi : i < n) :
    ∃ b o x, A = some ⟨b, o, none⟩ ∧ b < B ∧ xs[i]? = some x ∧ w.cell? ⟨b, o + i * 5, none⟩ = some (.int .i64 x.n.a) ∧ w.cell? ⟨b, o + i * 5 + 1, none⟩ = some (.int .i64 x.n.b) ∧ w.cell? ⟨b, o + i * 5 + 2, none⟩ = some (.int .i64 x.n.c) ∧ w.cell? ⟨b, o + i * 5 + 3, none⟩ = some (.int .i64 x.n.d) ∧ w.cell? ⟨b, o + i * 5 + 4, none⟩ = some (.int .i64 x.e) := by
  obtain ⟨b, o, x, rfl, hb, hx, hc⟩ := elem_at Dw.cells_len (by omega) h hi
  exact ⟨b, o, x, rfl, hb, hx, hc 0 _ rfl, hc 1 _ rfl, hc 2 _ rfl, hc 3 _ rfl, hc 4 _ rfl⟩

theorem Try.infoDOmega : (Try.prog.info? 83).map (fun i => (i.zero, i.size, i.bytes)) = some (some (.agg #[.int .i64 0, .int .i64 0, .int .i64 0, .int .i64 0, .int .i64 0]), 5, 40) := by kernel_rfl
theorem Dw.one (xs : List Dw) : ∀ u ∈ scells xs, u.oneCell' = true := by
  intro u hu
  obtain ⟨x, _, hx⟩ := List.mem_flatMap.1 hu
  simp [Dw.cells] at hx
  rcases hx with rfl | rfl | rfl | rfl | rfl <;> rfl
/-- append of a slice. -/
theorem appDOmegaS {w0 w : World} {ops : Array Oper} {rest : List Oper} {o : Oper} {a : Act} {Q : Exit → Act → World → Prop} (hgd : o.guard = none) (s x : Operand)
    (ho : o.op = .call { callee := .builtin .append, args := #[s, x], argTypes := #[55, 55] }) (v : Value) (n : Nat) (xs : List Dw) (hs : a.eval s = v)
    (hown : w.ownsRow w0.heap.size 83 5 v n (scells xs)) (hx0 : Ext w0 w) (A : Option Addr) (m c : Nat) (ys : List Dw) (hx : a.eval x = .slice A m c) (hr : Rd w w.heap.size 5 A m (scells ys)) (hn : n + m ≤ 100000000)
    (h : ∀ v' w', w'.ownsRow w0.heap.size 83 5 v' (n + m) (scells (xs ++ ys)) → Ext w0 w' → w.grownBy w' v.ownBlock → (v'.ownBlock = v.ownBlock ∨ v'.ownBlock = some w.heap.size) → wpList Try.prog ops Q rest (a.put o.dst v') w') : wpList Try.prog ops Q (o :: rest) a w := by
  obtain ⟨i0, hi, hz0, hz1, hz2⟩ := info_parts Try.infoDOmega
  exact wpList_app hgd s x _ ho 83 i0 _ 5 40 Try.underlying55 hi hz0 hz1 hz2 rfl (by decide) (by decide) v n _ hs hown hx0 A m c _ hx hr (Dw.one ys) hn (fun v' w' h1 => h v' w' (by unfold scells; rw [List.flatMap_append]; exact h1))
/-- append of a slice, in a region that draws its order. -/
theorem stepDOmegaS {w0 w : World} {ops : Array Oper} {o : Oper} {a : Act} {K : Act → World → Prop} {Q : Exit → Act → World → Prop} {E : Prop} (hgd : o.guard = none) (s x : Operand)
    (ho : o.op = .call { callee := .builtin .append, args := #[s, x], argTypes := #[55, 55] }) (v : Value) (n : Nat) (xs : List Dw) (hs : a.eval s = v)
    (hown : w.ownsRow w0.heap.size 83 5 v n (scells xs)) (hx0 : Ext w0 w) (A : Option Addr) (m c : Nat) (ys : List Dw) (hx : a.eval x = .slice A m c) (hr : Rd w w.heap.size 5 A m (scells ys)) (hn : n + m ≤ 100000000)
    (h : ∀ v' w', w'.ownsRow w0.heap.size 83 5 v' (n + m) (scells (xs ++ ys)) → Ext w0 w' → w.grownBy w' v.ownBlock → (v'.ownBlock = v.ownBlock ∨ v'.ownBlock = some w.heap.size) → K (a.put o.dst v') w') : if Region.wanted o (yielded ops a.tmps) = true then Oper.wp Try.prog o a w K Q else E := by
  obtain ⟨i0, hi, hz0, hz1, hz2⟩ := info_parts Try.infoDOmega
  exact step_app hgd s x _ ho 83 i0 _ 5 40 Try.underlying55 hi hz0 hz1 hz2 rfl (by decide) (by decide) v n _ hs hown hx0 A m c _ hx hr (Dw.one ys) hn (fun v' w' h1 => h v' w' (by unfold scells; rw [List.flatMap_append]; exact h1))
/-- append of one element. -/
theorem appDOmega {w0 w : World} {ops : Array Oper} {rest : List Oper} {o : Oper} {a : Act} {Q : Exit → Act → World → Prop} (hgd : o.guard = none) (s x : Operand)
    (ho : o.op = .call { callee := .builtin .append, args := #[s, x], argTypes := #[55, 55] }) (v : Value) (n : Nat) (xs : List Dw) (hs : a.eval s = v)
    (hown : w.ownsRow w0.heap.size 83 5 v n (scells xs)) (hx0 : Ext w0 w) (y : Dw) (e : TypeId) (b : Nat) (hx : a.eval x = .slice (some ⟨b, 0, none⟩) 1 1) (hbs : b = w.heap.size) (hn : n ≤ 90000000)
    (h : ∀ v' w', w'.ownsRow w0.heap.size 83 5 v' (n + 1) (scells (xs ++ [y])) → Ext w0 w' → (w.alloc (.cells #[.int .i64 y.n.a, .int .i64 y.n.b, .int .i64 y.n.c, .int .i64 y.n.d, .int .i64 y.e] e)).grownBy w' v.ownBlock → (v'.ownBlock = v.ownBlock ∨ v'.ownBlock = some (w.heap.size + 1)) → wpList Try.prog ops Q rest (a.put o.dst v') w') : wpList Try.prog ops Q (o :: rest) a (w.alloc (.cells #[.int .i64 y.n.a, .int .i64 y.n.b, .int .i64 y.n.c, .int .i64 y.n.d, .int .i64 y.e] e)) := by
  subst hbs
  refine appDOmegaS hgd s x ho v n xs hs (hown.alloc _) (hx0.alloc _) _ 1 1 [y] hx (rd_new w _ e 5 _ (by simp [Dw.cells]) (by simp [Dw.cells])) (by omega) ?_
  intro v' w' h1 h2 h3 h4
  exact h v' w' h1 h2 h3 (by simpa using h4)
end Go.Proofs.Ytofbmkpfliofeab
