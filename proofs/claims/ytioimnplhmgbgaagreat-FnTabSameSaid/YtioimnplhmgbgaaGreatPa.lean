/-
 Helper text (no claim of its own): slices of Paulis: reading and append. Printed by gen_pa.py.
-/
import Derived.Test.YtioimnplhmgbgaaGreatPau
namespace Go.Proofs.YtioimnplhmgbgaaGreat
open Go.ChangeShapes Go.WideShapes Go.ChangeAt Go.RowKit Go.Deep
abbrev Pa.val (x : Pa) : Value := .agg #[.int .i64 x.n, .int .i64 x.x, .int .i64 x.z, .int .i64 x.p]
def Pa.cells (x : Pa) : List Value := [.int .i64 x.n, .int .i64 x.x, .int .i64 x.z, .int .i64 x.p]
abbrev pcells (xs : List Pa) : List Value := xs.flatMap Pa.cells
theorem Pa.cells_len (x : Pa) : x.cells.length = 4 := rfl
theorem pauli_at {w : World} {B n i : Nat} {A : Option Addr} {xs : List Pa} (h : Rd w B 4 A n (pcells xs)) (hi : i < n) :
  ∃ b o x, A = some ⟨b, o, none⟩ ∧ b < B ∧ xs[i]? = some x ∧ w.cell? ⟨b, o + i * 4, none⟩ = some (.int .i64 x.n) ∧ w.cell? ⟨b, o + i * 4 + 1, none⟩ = some (.int .i64 x.x) ∧ w.cell? ⟨b, o + i * 4 + 2, none⟩ = some (.int .i64 x.z) ∧ w.cell? ⟨b, o + i * 4 + 3, none⟩ = some (.int .i64 x.p) := by
 obtain ⟨b, o, x, rfl, hb, hx, hc⟩ := elem_at Pa.cells_len (by omega) h hi
 exact ⟨b, o, x, rfl, hb, hx, hc 0 _ rfl, hc 1 _ rfl, hc 2 _ rfl, hc 3 _ rfl⟩

theorem Tryz.infoPauli : (Tryz.prog.info? 66).map (fun i => (i.zero, i.size, i.bytes)) = some (some (.agg #[.int .i64 0, .int .i64 0, .int .i64 0, .int .i64 0]), 4, 32) := by kernel_rfl
theorem Pa.one (xs : List Pa) : ∀ u ∈ pcells xs, u.oneCell' = true := by
 intro u hu
 obtain ⟨x, _, hx⟩ := List.mem_flatMap.1 hu
 simp [Pa.cells] at hx
 rcases hx with rfl | rfl | rfl | rfl <;> rfl
/-- append of a slice. -/
theorem appPauliS {w0 w : World} {ops : Array Oper} {rest : List Oper} {o : Oper} {a : Act} {Q : Exit → Act → World → Prop} (hgd : o.guard = none) (s x : Operand)
  (ho : o.op = .call { callee := .builtin .append, args := #[s, x], argTypes := #[29, 29] }) (v : Value) (n : Nat) (xs : List Pa) (hs : a.eval s = v)
  (hown : w.ownsRow w0.heap.size 66 4 v n (pcells xs)) (hx0 : Ext w0 w) (A : Option Addr) (m c : Nat) (ys : List Pa) (hx : a.eval x = .slice A m c) (hr : Rd w w.heap.size 4 A m (pcells ys)) (hn : n + m ≤ 100000000)
  (h : ∀ v' w', w'.ownsRow w0.heap.size 66 4 v' (n + m) (pcells (xs ++ ys)) → Ext w0 w' → w.grownBy w' v.ownBlock → (v'.ownBlock = v.ownBlock ∨ v'.ownBlock = some w.heap.size) → wpList Tryz.prog ops Q rest (a.put o.dst v') w') : wpList Tryz.prog ops Q (o :: rest) a w := by
 obtain ⟨i0, hi, hz0, hz1, hz2⟩ := info_parts Tryz.infoPauli
 exact wpList_app hgd s x _ ho 66 i0 _ 4 32 Tryz.underlying29 hi hz0 hz1 hz2 rfl (by decide) (by decide) v n _ hs hown hx0 A m c _ hx hr (Pa.one ys) hn (fun v' w' h1 => h v' w' (by unfold pcells; rw [List.flatMap_append]; exact h1))
/-- append of a slice, in a region that draws its order. -/
theorem stepPauliS {w0 w : World} {ops : Array Oper} {o : Oper} {a : Act} {K : Act → World → Prop} {Q : Exit → Act → World → Prop} {E : Prop} (hgd : o.guard = none) (s x : Operand)
  (ho : o.op = .call { callee := .builtin .append, args := #[s, x], argTypes := #[29, 29] }) (v : Value) (n : Nat) (xs : List Pa) (hs : a.eval s = v)
  (hown : w.ownsRow w0.heap.size 66 4 v n (pcells xs)) (hx0 : Ext w0 w) (A : Option Addr) (m c : Nat) (ys : List Pa) (hx : a.eval x = .slice A m c) (hr : Rd w w.heap.size 4 A m (pcells ys)) (hn : n + m ≤ 100000000)
  (h : ∀ v' w', w'.ownsRow w0.heap.size 66 4 v' (n + m) (pcells (xs ++ ys)) → Ext w0 w' → w.grownBy w' v.ownBlock → (v'.ownBlock = v.ownBlock ∨ v'.ownBlock = some w.heap.size) → K (a.put o.dst v') w') : if Region.wanted o (yielded ops a.tmps) = true then Oper.wp Tryz.prog o a w K Q else E := by
 obtain ⟨i0, hi, hz0, hz1, hz2⟩ := info_parts Tryz.infoPauli
 exact step_app hgd s x _ ho 66 i0 _ 4 32 Tryz.underlying29 hi hz0 hz1 hz2 rfl (by decide) (by decide) v n _ hs hown hx0 A m c _ hx hr (Pa.one ys) hn (fun v' w' h1 => h v' w' (by unfold pcells; rw [List.flatMap_append]; exact h1))
end Go.Proofs.YtioimnplhmgbgaaGreat
