/-
  Helper text (no claim of its own): drawn graphs: the header in a block of its own, the edges in a row.
-/
import Derived.Test.YteecjnnompjmiabDoorDrawH
import Derived.Test.YteecjnnompjmiabDoorGr
import Derived.Test.YteecjnnompjmiabDoorGd
namespace Go.Proofs.YteecjnnompjmiabDoor
open Go.ChangeShapes Go.WideShapes Go.ChangeAt Go.RowKit Go.Deep
/-- append of one drawn edge in a drawn region. -/
theorem stepE1 {w : World} {B : Nat} {ops : Array Oper} {o : Oper} {a : Act} {K : Act → World → Prop} {Q : Exit → Act → World → Prop} {E : Prop} (hgd : o.guard = none) (s x : Operand)
    (ho : o.op = .call { callee := .builtin .append, args := #[s, x], argTypes := #[24, 24] }) (v : Value) (n : Nat) (xs : List Ed) (hs : a.eval s = v)
    (hown : w.ownsRow B 38 2 v n (ecells xs)) (hB : B ≤ w.heap.size) (y : Ed) (e : TypeId) (b : Nat) (hx : a.eval x = .slice (some ⟨b, 0, none⟩) 1 1) (hbs : b = w.heap.size) (hn : n ≤ 90000000)
    (h : ∀ A' c' w', w'.ownsRow B 38 2 (.slice A' (n + 1) c') (n + 1) (ecells (xs ++ [y])) → w.grownBy w' v.ownBlock → ((Value.slice A' (n + 1) c').ownBlock = v.ownBlock ∨ (Value.slice A' (n + 1) c').ownBlock = some (w.heap.size + 1)) → K (a.put o.dst (.slice A' (n + 1) c')) w') :
    if Region.wanted o (yielded ops a.tmps) = true then Oper.wp Tryd.prog o a (w.alloc (.cells #[.int .i64 y.a, .int .i64 y.b] e)) K Q else E := by
  subst hbs
  have hcs := cutW_size hB
  refine stepEdgeS (w0 := cutW w B) hgd s x ho v n xs hs (by rw [hcs]; exact hown.alloc _) ((cutW_ext hB).alloc _) _ 1 1 [y] hx (rd_new w _ e 2 _ (by simp [Ed.cells]) (by simp [Ed.cells])) (by omega) ?_
  intro v' w' h1 h2 h3 h4
  rw [hcs] at h1
  obtain ⟨A', c', rfl, _⟩ := own_slice h1
  exact h A' c' w' h1 (World.grownBy.trans (((Ext.refl w).alloc _).gr _) h3) (by simpa using h4)

theorem Tryd.sizeGraph : (Tryd.prog.info? 26).map (·.size) = some 2 := by kernel_rfl
theorem ret2g {fn : Func} {p : Tmp} (hf : fn.results = #[.cell p 26]) {W : World} {q : Nat} {z0 z1 : Value} (hB : Blk W q 26 #[z0, z1]) (a b : Value) (tmps : Array Value)
    (hp : tmps.getD p undef = .pointer (some ⟨q, 0, none⟩)) : (results fn tmps).run Tryd.prog ((W.setCell ⟨q, 0, none⟩ a).setCell ⟨q, 1, none⟩ b) = .ok (.agg #[a, b]) ((W.setCell ⟨q, 0, none⟩ a).setCell ⟨q, 1, none⟩ b) :=
  results_cell_row hf tmps _ q 26 _ (0, 0) _ hp (hB.set2 a b) Tryd.underlying26 rfl Tryd.sizeGraph
theorem appE1 {w : World} {B : Nat} {ops : Array Oper} {rest : List Oper} {o : Oper} {a : Act} {Q : Exit → Act → World → Prop} (hgd : o.guard = none) (s x : Operand)
    (ho : o.op = .call { callee := .builtin .append, args := #[s, x], argTypes := #[24, 24] }) (v : Value) (n : Nat) (xs : List Ed) (hs : a.eval s = v)
    (hown : w.ownsRow B 38 2 v n (ecells xs)) (hB : B ≤ w.heap.size) (y : Ed) (e : TypeId) (b : Nat) (hx : a.eval x = .slice (some ⟨b, 0, none⟩) 1 1) (hbs : b = w.heap.size) (hn : n ≤ 90000000)
    (h : ∀ A' c' w', w'.ownsRow B 38 2 (.slice A' (n + 1) c') (n + 1) (ecells (xs ++ [y])) → w.grownBy w' v.ownBlock → ((Value.slice A' (n + 1) c').ownBlock = v.ownBlock ∨ (Value.slice A' (n + 1) c').ownBlock = some (w.heap.size + 1)) → wpList Tryd.prog ops Q rest (a.put o.dst (.slice A' (n + 1) c')) w') :
    wpList Tryd.prog ops Q (o :: rest) a (w.alloc (.cells #[.int .i64 y.a, .int .i64 y.b] e)) := by
  subst hbs
  have hcs := cutW_size hB
  refine appEdgeS (w0 := cutW w B) hgd s x ho v n xs hs (by rw [hcs]; exact hown.alloc _) ((cutW_ext hB).alloc _) _ 1 1 [y] hx (rd_new w _ e 2 _ (by simp [Ed.cells]) (by simp [Ed.cells])) (by omega) ?_
  intro v' w' h1 h2 h3 h4
  rw [hcs] at h1
  obtain ⟨A', c', rfl, _⟩ := own_slice h1
  exact h A' c' w' h1 (World.grownBy.trans (((Ext.refl w).alloc _).gr _) h3) (by simpa using h4)
/-- A drawn graph whose header lies in block s. -/
def DG (w0 w : World) (g s : Nat) (N : Int) (A : Option Addr) (len cap : Nat) (gs : List Ed) : Prop :=
  Blk w w0.heap.size 26 #[.int .i64 0, .slice none 0 0] ∧ Blk w s 26 #[.int .i64 N, .slice A len cap] ∧ w.ownsRow (w0.heap.size + 1) 38 2 (.slice A len cap) len (ecells gs) ∧ (∀ q, (Value.slice A len cap).ownBlock = some q → w0.heap.size + 1 ≤ q ∧ q ≠ s) ∧ Cur w g ∧ w0.grownBy w (some g) ∧ ∀ e ∈ gs, e.ok
theorem DG.grown {w0 w w' : World} {g s : Nat} {N : Int} {A : Option Addr} {len cap : Nat} {gs : List Ed} (h : DG w0 w g s N A len cap gs) (hg : w.grownBy w' (some g)) (hC : Cur w' g) (hs : g < s) (hl : g < w0.heap.size) : DG w0 w' g s N A len cap gs := by
  obtain ⟨h1, h2, h3, h4, h5, h6, h7⟩ := h
  exact ⟨h1.grown hg (fun k hk => by injection hk; omega), h2.grown hg (fun k hk => by injection hk; omega), own_kept h3 hg (fun k hk => by injection hk; omega), h4, hC, gr_trans h6 hg, h7⟩
theorem DG.drew {w0 w : World} {g s : Nat} {N : Int} {A : Option Addr} {len cap : Nat} {gs : List Ed} (h : DG w0 w g s N A len cap gs) : DG w0 w.drew g s N A len cap gs := by
  obtain ⟨h1, h2, h3, h4, h5, h6, h7⟩ := h
  exact ⟨h1, h2, own_ext h3 (Ext.refl w).drew, h4, h5.ext (Ext.refl w).drew, gr_ext h6 (Ext.refl w).drew, h7⟩
theorem DG.alloc {w0 w : World} {g s : Nat} {N : Int} {A : Option Addr} {len cap : Nat} {gs : List Ed} (h : DG w0 w g s N A len cap gs) (o : Obj) : DG w0 (w.alloc o) g s N A len cap gs := by
  obtain ⟨h1, h2, h3, h4, h5, h6, h7⟩ := h
  exact ⟨h1.alloc o, h2.alloc o, own_ext h3 ((Ext.refl w).alloc o), h4, h5.alloc o, gr_alloc h6 o, h7⟩
theorem DG.setN {w0 w : World} {g s : Nat} {N : Int} {A : Option Addr} {len cap : Nat} {gs : List Ed} (h : DG w0 w g s N A len cap gs) (M : Int) (hs : w0.heap.size < s) (hl : g < w0.heap.size) : DG w0 (w.setCell ⟨s, 0, none⟩ (.int .i64 M)) g s M A len cap gs := by
  obtain ⟨h1, h2, h3, h4, h5, h6, h7⟩ := h
  refine ⟨h1.far (p := ⟨s, 0, none⟩) (by simp; omega) _, h2.set_ 0 _, ?_, h4, h5.set_ (p := ⟨s, 0, none⟩) (by simp; omega) _, gr_set h6 (p := ⟨s, 0, none⟩) (by simp; omega) _, h7⟩
  refine h3.kept (row := some s) (gr_setCell (World.grownBy.refl w (some s)) 0 _) ?_
  cases hv : (Value.slice A len cap).ownBlock with
  | none => exact .inl rfl
  | some q => exact .inr (fun e => (h4 q hv).2 (by injection e))
/-- What an append to the graph's row leaves. -/
theorem DG.app {w0 w w' : World} {g s : Nat} {N : Int} {A A' : Option Addr} {len cap c' : Nat} {gs : List Ed} {y : Ed} (h : DG w0 w g s N A len cap gs) (hy : y.ok) (hs : w0.heap.size < s) (hl : g < w0.heap.size)
    (ho : w'.ownsRow (w0.heap.size + 1) 38 2 (.slice A' (len + 1) c') (len + 1) (ecells (gs ++ [y]))) (hg : w.grownBy w' (Value.slice A len cap).ownBlock)
    (hb : (Value.slice A' (len + 1) c').ownBlock = (Value.slice A len cap).ownBlock ∨ (Value.slice A' (len + 1) c').ownBlock = some (w.heap.size + 1)) :
    Blk w' s 26 #[.int .i64 N, .slice A len cap] ∧ DG w0 (w'.setCell ⟨s, 1, none⟩ (.slice A' (len + 1) c')) g s N A' (len + 1) c' (gs ++ [y]) := by
  obtain ⟨h1, h2, h3, h4, h5, h6, h7⟩ := h
  have hls := h2.lt
  have hB := h2.grown hg (fun k hk e => (h4 k hk).2 e.symm)
  have h4' : ∀ q, (Value.slice A' (len + 1) c').ownBlock = some q → w0.heap.size + 1 ≤ q ∧ q ≠ s := by
    intro q hq
    rcases hb with hb | hb
    · rw [hb] at hq; exact h4 q hq
    · rw [hb] at hq; injection hq with hq
      have := h1.lt
      omega
  refine ⟨hB, (h1.grown hg (fun k hk e => by have := (h4 k hk).1; omega)).far (p := ⟨s, 1, none⟩) (by simp; omega) _, hB.set_ 1 _, ?_, h4', (h5.grown hg (fun k hk => by have := (h4 k hk).1; omega)).set_ (p := ⟨s, 1, none⟩) (by simp; omega) _, gr_set (gr_new h6 hg (fun k hk => by have := (h4 k hk).1; omega)) (p := ⟨s, 1, none⟩) (by simp; omega) _, fun e he => by
    rcases List.mem_append.1 he with h | h
    · exact h7 e h
    · simp at h; subst h; exact hy⟩
  refine ho.kept (row := some s) (gr_setCell (World.grownBy.refl w' (some s)) 1 _) ?_
  cases hv : (Value.slice A' (len + 1) c').ownBlock with
  | none => exact .inl rfl
  | some q => exact .inr (fun e => (h4' q hv).2 (by injection e))
theorem DG.done {w W : World} {g s : Nat} {N : Int} {A : Option Addr} {len cap : Nat} {gs : List Ed} (h : DG w W g s N A len cap gs) (hl : g < w.heap.size) :
    ((W.setCell ⟨w.heap.size, 0, none⟩ (.int .i64 N)).setCell ⟨w.heap.size, 1, none⟩ (.slice A len cap)).ownsRow w.heap.size 38 2 (.slice A len cap) len (ecells gs) ∧ Cur ((W.setCell ⟨w.heap.size, 0, none⟩ (.int .i64 N)).setCell ⟨w.heap.size, 1, none⟩ (.slice A len cap)) g ∧ w.grownBy ((W.setCell ⟨w.heap.size, 0, none⟩ (.int .i64 N)).setCell ⟨w.heap.size, 1, none⟩ (.slice A len cap)) (some g) ∧ ∀ e ∈ gs, e.ok :=
  ⟨own_base (own_set (own_set h.2.2.1 (p := ⟨w.heap.size, 0, none⟩) (by simp) _) (p := ⟨w.heap.size, 1, none⟩) (by simp) _) (by omega), Cur.set2 h.2.2.2.2.1 hl _ _, gr_set2 h.2.2.2.2.2.1 (Nat.le_refl _) _ _, h.2.2.2.2.2.2⟩
end Go.Proofs.YteecjnnompjmiabDoor
