/-
  Helper text (no claim of its own): drawn circuits, bent. Only that they return, and what their results are made of.
-/
import Derived.Test.YtofbmkpfliofeaaDrawE
namespace Go.Proofs.Ytofbmkpfliofeaa
open Go.ChangeShapes Go.WideShapes Go.ChangeAt Go.RowKit Go.Deep
theorem own_ne {w : World} {B e size n s : Nat} {v : Value} {xs : List Value} (h : w.ownsRow B e size v n xs) (hs : w.heap.size ≤ s) : ∀ q, v.ownBlock = some q → B ≤ q ∧ q ≠ s := fun q hq => by
  have := h.lt q hq
  exact ⟨this.1, by omega⟩
theorem appG1 {w : World} {B : Nat} {ops : Array Oper} {rest : List Oper} {o : Oper} {a : Act} {Q : Exit → Act → World → Prop} (hgd : o.guard = none) (s x : Operand)
    (ho : o.op = .call { callee := .builtin .append, args := #[s, x], argTypes := #[24, 24] }) (v : Value) (n : Nat) (xs : List Gt) (hs : a.eval s = v)
    (hown : w.ownsRow B 37 4 v n (gcells xs)) (hB : B ≤ w.heap.size) (y : Gt) (e : TypeId) (b : Nat) (hx : a.eval x = .slice (some ⟨b, 0, none⟩) 1 1) (hbs : b = w.heap.size) (hn : n ≤ 90000000)
    (h : ∀ A' c' w', w'.ownsRow B 37 4 (.slice A' (n + 1) c') (n + 1) (gcells (xs ++ [y])) → w.grownBy w' v.ownBlock → ((Value.slice A' (n + 1) c').ownBlock = v.ownBlock ∨ (Value.slice A' (n + 1) c').ownBlock = some (w.heap.size + 1)) → wpList Try.prog ops Q rest (a.put o.dst (.slice A' (n + 1) c')) w') :
    wpList Try.prog ops Q (o :: rest) a (w.alloc (.cells #[.int .i64 y.k, .int .i64 y.a, .int .i64 y.b, .int .i64 y.c] e)) := by
  subst hbs
  have hcs := cutW_size hB
  refine appGateS (w0 := cutW w B) hgd s x ho v n xs hs (by rw [hcs]; exact hown.alloc _) ((cutW_ext hB).alloc _) _ 1 1 [y] hx (rd_new w _ e 4 _ (by simp [Gt.cells]) (by simp [Gt.cells])) (by omega) ?_
  intro v' w' h1 h2 h3 h4
  rw [hcs] at h1
  obtain ⟨A', c', rfl, _⟩ := own_slice h1
  exact h A' c' w' h1 (World.grownBy.trans (((Ext.refl w).alloc _).gr _) h3) (by simpa using h4)
/-- A drawn circuit whose header lies in block s. -/
def DC (w0 w : World) (g s : Nat) (N : Int) (A : Option Addr) (len cap : Nat) (gs : List Gt) : Prop :=
  Blk w w0.heap.size 101 #[.int .i64 0, .slice none 0 0] ∧ Blk w s 101 #[.int .i64 N, .slice A len cap] ∧ w.ownsRow (w0.heap.size + 1) 37 4 (.slice A len cap) len (gcells gs) ∧ (∀ q, (Value.slice A len cap).ownBlock = some q → w0.heap.size + 1 ≤ q ∧ q ≠ s) ∧ Cur w g ∧ w0.grownBy w (some g)
theorem DC.grown {w0 w w' : World} {g s : Nat} {N : Int} {A : Option Addr} {len cap : Nat} {gs : List Gt} (h : DC w0 w g s N A len cap gs) (hg : w.grownBy w' (some g)) (hC : Cur w' g) (hs : g < s) (hl : g < w0.heap.size) : DC w0 w' g s N A len cap gs := by
  obtain ⟨h1, h2, h3, h4, h5, h6⟩ := h
  exact ⟨h1.grown hg (fun k hk => by injection hk; omega), h2.grown hg (fun k hk => by injection hk; omega), own_kept h3 hg (fun k hk => by injection hk; omega), h4, hC, gr_trans h6 hg⟩
theorem DC.drew {w0 w : World} {g s : Nat} {N : Int} {A : Option Addr} {len cap : Nat} {gs : List Gt} (h : DC w0 w g s N A len cap gs) : DC w0 w.drew g s N A len cap gs := by
  obtain ⟨h1, h2, h3, h4, h5, h6⟩ := h
  exact ⟨h1, h2, own_ext h3 (Ext.refl w).drew, h4, h5.ext (Ext.refl w).drew, gr_ext h6 (Ext.refl w).drew⟩
theorem DC.alloc {w0 w : World} {g s : Nat} {N : Int} {A : Option Addr} {len cap : Nat} {gs : List Gt} (h : DC w0 w g s N A len cap gs) (o : Obj) : DC w0 (w.alloc o) g s N A len cap gs := by
  obtain ⟨h1, h2, h3, h4, h5, h6⟩ := h
  exact ⟨h1.alloc o, h2.alloc o, own_ext h3 ((Ext.refl w).alloc o), h4, h5.alloc o, gr_alloc h6 o⟩
theorem DC.setN {w0 w : World} {g s : Nat} {N : Int} {A : Option Addr} {len cap : Nat} {gs : List Gt} (h : DC w0 w g s N A len cap gs) (M : Int) (hs : w0.heap.size < s) (hl : g < w0.heap.size) : DC w0 (w.setCell ⟨s, 0, none⟩ (.int .i64 M)) g s M A len cap gs := by
  obtain ⟨h1, h2, h3, h4, h5, h6⟩ := h
  refine ⟨h1.far (p := ⟨s, 0, none⟩) (by simp; omega) _, h2.set_ 0 _, ?_, h4, h5.set_ (p := ⟨s, 0, none⟩) (by simp; omega) _, gr_set h6 (p := ⟨s, 0, none⟩) (by simp; omega) _⟩
  refine h3.kept (row := some s) (gr_setCell (World.grownBy.refl w (some s)) 0 _) ?_
  cases hv : (Value.slice A len cap).ownBlock with
  | none => exact .inl rfl
  | some q => exact .inr (fun e => (h4 q hv).2 (by injection e))
/-- What an append to the circuit's row leaves. -/
theorem DC.app {w0 w w' : World} {g s : Nat} {N : Int} {A A' : Option Addr} {len cap c' : Nat} {gs : List Gt} {y : Gt} (h : DC w0 w g s N A len cap gs) (hs : w0.heap.size < s) (hl : g < w0.heap.size)
    (ho : w'.ownsRow (w0.heap.size + 1) 37 4 (.slice A' (len + 1) c') (len + 1) (gcells (gs ++ [y]))) (hg : w.grownBy w' (Value.slice A len cap).ownBlock)
    (hb : (Value.slice A' (len + 1) c').ownBlock = (Value.slice A len cap).ownBlock ∨ (Value.slice A' (len + 1) c').ownBlock = some (w.heap.size + 1)) :
    Blk w' s 101 #[.int .i64 N, .slice A len cap] ∧ DC w0 (w'.setCell ⟨s, 1, none⟩ (.slice A' (len + 1) c')) g s N A' (len + 1) c' (gs ++ [y]) := by
  obtain ⟨h1, h2, h3, h4, h5, h6⟩ := h
  have hls := h2.lt
  have hB := h2.grown hg (fun k hk e => (h4 k hk).2 e.symm)
  have h4' : ∀ q, (Value.slice A' (len + 1) c').ownBlock = some q → w0.heap.size + 1 ≤ q ∧ q ≠ s := by
    intro q hq
    rcases hb with hb | hb
    · rw [hb] at hq; exact h4 q hq
    · rw [hb] at hq; injection hq with hq
      have := h1.lt
      omega
  refine ⟨hB, (h1.grown hg (fun k hk e => by have := (h4 k hk).1; omega)).far (p := ⟨s, 1, none⟩) (by simp; omega) _, hB.set_ 1 _, ?_, h4', (h5.grown hg (fun k hk => by have := (h4 k hk).1; omega)).set_ (p := ⟨s, 1, none⟩) (by simp; omega) _, gr_set (gr_new h6 hg (fun k hk => by have := (h4 k hk).1; omega)) (p := ⟨s, 1, none⟩) (by simp; omega) _⟩
  refine ho.kept (row := some s) (gr_setCell (World.grownBy.refl w' (some s)) 1 _) ?_
  cases hv : (Value.slice A' (len + 1) c').ownBlock with
  | none => exact .inl rfl
  | some q => exact .inr (fun e => (h4' q hv).2 (by injection e))
end Go.Proofs.Ytofbmkpfliofeaa
