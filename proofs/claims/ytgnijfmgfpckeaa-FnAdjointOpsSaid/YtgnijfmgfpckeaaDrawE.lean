/-
  Helper text (no claim of its own): drawn circuits. Only that they return, and what their results are made of.
-/
import Derived.Test.YtgnijfmgfpckeaaDrawD
import Derived.Deep.RegionLaw
namespace Go.Proofs.Ytgnijfmgfpckeaa
open Go.ChangeShapes Go.WideShapes Go.ChangeAt Go.RowKit Go.Deep
theorem blk2 {w : World} {g t : Nat} {a b : Value} (h : Blk w g t #[a, b]) : (w.cell? ⟨g, 0, none⟩ = some a ∧ w.cell? ⟨g, 1, none⟩ = some b) ∧ w.frozen? ⟨g, 0, none⟩ = false ∧ w.frozen? ⟨g, 1, none⟩ = false :=
  ⟨⟨h.cell 0, h.cell 1⟩, h.frozen 0, h.frozen 1⟩
theorem Blk.set2 {w : World} {g t : Nat} {z0 z1 : Value} (h : Blk w g t #[z0, z1]) (a b : Value) : Blk ((w.setCell ⟨g, 0, none⟩ a).setCell ⟨g, 1, none⟩ b) g t #[a, b] := (h.set_ 0 a).set_ 1 b
theorem Cur.set2 {w : World} {g q : Nat} (h : Cur w g) (hq : g < q) (a b : Value) : Cur ((w.setCell ⟨q, 0, none⟩ a).setCell ⟨q, 1, none⟩ b) g :=
  (h.set_ (p := ⟨q, 0, none⟩) hq a).set_ (p := ⟨q, 1, none⟩) hq b
theorem gr_set2 {w0 w : World} {g q : Nat} (h : w0.grownBy w (some g)) (hq : w0.heap.size ≤ q) (a b : Value) : w0.grownBy ((w.setCell ⟨q, 0, none⟩ a).setCell ⟨q, 1, none⟩ b) (some g) :=
  gr_set (gr_set h (p := ⟨q, 0, none⟩) hq a) (p := ⟨q, 1, none⟩) hq b
/-- append of one drawn gate in a drawn region. -/
theorem stepG1 {w : World} {B : Nat} {ops : Array Oper} {o : Oper} {a : Act} {K : Act → World → Prop} {Q : Exit → Act → World → Prop} {E : Prop} (hgd : o.guard = none) (s x : Operand)
    (ho : o.op = .call { callee := .builtin .append, args := #[s, x], argTypes := #[28, 28] }) (v : Value) (n : Nat) (xs : List Gt) (hs : a.eval s = v)
    (hown : w.ownsRow B 30 4 v n (gcells xs)) (hB : B ≤ w.heap.size) (y : Gt) (e : TypeId) (b : Nat) (hx : a.eval x = .slice (some ⟨b, 0, none⟩) 1 1) (hbs : b = w.heap.size) (hn : n ≤ 90000000)
    (h : ∀ A' c' w', w'.ownsRow B 30 4 (.slice A' (n + 1) c') (n + 1) (gcells (xs ++ [y])) → w.grownBy w' v.ownBlock → ((Value.slice A' (n + 1) c').ownBlock = v.ownBlock ∨ (Value.slice A' (n + 1) c').ownBlock = some (w.heap.size + 1)) → K (a.put o.dst (.slice A' (n + 1) c')) w') :
    if Region.wanted o (yielded ops a.tmps) = true then Oper.wp Try.prog o a (w.alloc (.cells #[.int .i64 y.k, .int .i64 y.a, .int .i64 y.b, .int .i64 y.c] e)) K Q else E := by
  subst hbs
  have hcs := cutW_size hB
  refine stepGateS (w0 := cutW w B) hgd s x ho v n xs hs (by rw [hcs]; exact hown.alloc _) ((cutW_ext hB).alloc _) _ 1 1 [y] hx (rd_new w _ e 4 _ (by simp [Gt.cells]) (by simp [Gt.cells])) (by omega) ?_
  intro v' w' h1 h2 h3 h4
  rw [hcs] at h1
  obtain ⟨A', c', rfl, _⟩ := own_slice h1
  exact h A' c' w' h1 (World.grownBy.trans (((Ext.refl w).alloc _).gr _) h3) (by simpa using h4)

end Go.Proofs.Ytgnijfmgfpckeaa
