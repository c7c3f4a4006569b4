/-
 Helper text (no claim of its own): Gate as records, slices of them, and the laws' own helpers on them (size, copy, comparison). Printed by gen_fam.py.
-/
import Derived.Test.YtdjckjfclhjpcaaGreatBase
namespace Go.Proofs.YtdjckjfclhjpcaaGreat
open Go.ChangeShapes Go.WideShapes Go.ChangeAt Go.RowKit Go.Deep

structure Gt where
 k : Int
 a : Int
 b : Int
 c : Int
def eqG (x y : Gt) : Bool := x.k == y.k && x.a == y.a && x.b == y.b && x.c == y.c
def Gt.ok (g : Gt) : Prop := I64 g.k ∧ I64 g.a ∧ I64 g.b ∧ I64 g.c
abbrev Gt.val (x : Gt) : Value := .agg #[.int .i64 x.k, .int .i64 x.a, .int .i64 x.b, .int .i64 x.c]
def Gt.cells (x : Gt) : List Value := [.int .i64 x.k, .int .i64 x.a, .int .i64 x.b, .int .i64 x.c]
abbrev gcells (xs : List Gt) : List Value := xs.flatMap Gt.cells
theorem Gt.cells_len (x : Gt) : x.cells.length = 4 := rfl
theorem gate_at {w : World} {B n i : Nat} {A : Option Addr} {xs : List Gt} (h : Rd w B 4 A n (gcells xs)) (hi : i < n) :
  ∃ b o x, A = some ⟨b, o, none⟩ ∧ b < B ∧ xs[i]? = some x ∧ w.cell? ⟨b, o + i * 4, none⟩ = some (.int .i64 x.k) ∧ w.cell? ⟨b, o + i * 4 + 1, none⟩ = some (.int .i64 x.a) ∧ w.cell? ⟨b, o + i * 4 + 2, none⟩ = some (.int .i64 x.b) ∧ w.cell? ⟨b, o + i * 4 + 3, none⟩ = some (.int .i64 x.c) := by
 obtain ⟨b, o, x, rfl, hb, hx, hc⟩ := elem_at Gt.cells_len (by omega) h hi
 exact ⟨b, o, x, rfl, hb, hx, hc 0 _ rfl, hc 1 _ rfl, hc 2 _ rfl, hc 3 _ rfl⟩


theorem Tryz.infoGate : (Tryz.prog.info? 38).map (fun i => (i.zero, i.size, i.bytes)) = some (some (.agg #[.int .i64 0, .int .i64 0, .int .i64 0, .int .i64 0]), 4, 32) := by kernel_rfl
theorem Gt.one (xs : List Gt) : ∀ u ∈ gcells xs, u.oneCell' = true := by
 intro u hu
 obtain ⟨x, _, hx⟩ := List.mem_flatMap.1 hu
 simp [Gt.cells] at hx
 rcases hx with rfl | rfl | rfl | rfl <;> rfl
/-- append of a slice. -/
theorem appGateS {w0 w : World} {ops : Array Oper} {rest : List Oper} {o : Oper} {a : Act} {Q : Exit → Act → World → Prop} (hgd : o.guard = none) (s x : Operand)
  (ho : o.op = .call { callee := .builtin .append, args := #[s, x], argTypes := #[42, 42] }) (v : Value) (n : Nat) (xs : List Gt) (hs : a.eval s = v)
  (hown : w.ownsRow w0.heap.size 38 4 v n (gcells xs)) (hx0 : Ext w0 w) (A : Option Addr) (m c : Nat) (ys : List Gt) (hx : a.eval x = .slice A m c) (hr : Rd w w.heap.size 4 A m (gcells ys)) (hn : n + m ≤ 2000000000000)
  (h : ∀ v' w', w'.ownsRow w0.heap.size 38 4 v' (n + m) (gcells (xs ++ ys)) → Ext w0 w' → w.grownBy w' v.ownBlock → (v'.ownBlock = v.ownBlock ∨ v'.ownBlock = some w.heap.size) → wpList Tryz.prog ops Q rest (a.put o.dst v') w') : wpList Tryz.prog ops Q (o :: rest) a w := by
 obtain ⟨i0, hi, hz0, hz1, hz2⟩ := info_parts Tryz.infoGate
 exact wpList_app hgd s x _ ho 38 i0 _ 4 32 Tryz.underlying42 hi hz0 hz1 hz2 rfl (by decide) (by decide) v n _ hs hown hx0 A m c _ hx hr (Gt.one ys) hn (fun v' w' h1 => h v' w' (by unfold gcells; rw [List.flatMap_append]; exact h1))
theorem eqG_self (x : Gt) : eqG x x = true := by simp [eqG]
end Go.Proofs.YtdjckjfclhjpcaaGreat
