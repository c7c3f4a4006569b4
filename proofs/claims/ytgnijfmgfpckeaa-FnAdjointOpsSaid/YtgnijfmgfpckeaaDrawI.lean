/-
  Helper text (no claim of its own): words on drawn routines. Printed by gen_drawo.py.
-/
import Derived.Test.YtgnijfmgfpckeaaDrawH
import Derived.Test.YtgnijfmgfpckeaaOp
namespace Go.Proofs.Ytgnijfmgfpckeaa
open Go.ChangeShapes Go.WideShapes Go.ChangeAt Go.RowKit Go.Deep
theorem appO1 {w : World} {B : Nat} {ops : Array Oper} {rest : List Oper} {o : Oper} {a : Act} {Q : Exit → Act → World → Prop} (hgd : o.guard = none) (s x : Operand)
    (ho : o.op = .call { callee := .builtin .append, args := #[s, x], argTypes := #[24, 24] }) (v : Value) (n : Nat) (xs : List Oq) (hs : a.eval s = v)
    (hown : w.ownsRow B 32 8 v n (ocells xs)) (hB : B ≤ w.heap.size) (y : Oq) (e : TypeId) (b : Nat) (hx : a.eval x = .slice (some ⟨b, 0, none⟩) 1 1) (hbs : b = w.heap.size) (hn : n ≤ 90000000)
    (h : ∀ A' c' w', w'.ownsRow B 32 8 (.slice A' (n + 1) c') (n + 1) (ocells (xs ++ [y])) → w.grownBy w' v.ownBlock → ((Value.slice A' (n + 1) c').ownBlock = v.ownBlock ∨ (Value.slice A' (n + 1) c').ownBlock = some (w.heap.size + 1)) → wpList Try.prog ops Q rest (a.put o.dst (.slice A' (n + 1) c')) w') :
    wpList Try.prog ops Q (o :: rest) a (w.alloc (.cells #[.int .i64 y.k, .int .i64 y.g.k, .int .i64 y.g.a, .int .i64 y.g.b, .int .i64 y.g.c, .int .i64 y.q, .int .i64 y.bit, .int .i64 y.cond] e)) := by
  subst hbs
  have hcs := cutW_size hB
  refine appOpS (w0 := cutW w B) hgd s x ho v n xs hs (by rw [hcs]; exact hown.alloc _) ((cutW_ext hB).alloc _) _ 1 1 [y] hx (rd_new w _ e 8 _ (by simp [Oq.cells]) (by simp [Oq.cells])) (by omega) ?_
  intro v' w' h1 h2 h3 h4
  rw [hcs] at h1
  obtain ⟨A', c', rfl, _⟩ := own_slice h1
  exact h A' c' w' h1 (World.grownBy.trans (((Ext.refl w).alloc _).gr _) h3) (by simpa using h4)
theorem stepO1 {w : World} {B : Nat} {ops : Array Oper} {o : Oper} {a : Act} {K : Act → World → Prop} {Q : Exit → Act → World → Prop} {E : Prop} (hgd : o.guard = none) (s x : Operand)
    (ho : o.op = .call { callee := .builtin .append, args := #[s, x], argTypes := #[24, 24] }) (v : Value) (n : Nat) (xs : List Oq) (hs : a.eval s = v)
    (hown : w.ownsRow B 32 8 v n (ocells xs)) (hB : B ≤ w.heap.size) (y : Oq) (e : TypeId) (b : Nat) (hx : a.eval x = .slice (some ⟨b, 0, none⟩) 1 1) (hbs : b = w.heap.size) (hn : n ≤ 90000000)
    (h : ∀ A' c' w', w'.ownsRow B 32 8 (.slice A' (n + 1) c') (n + 1) (ocells (xs ++ [y])) → w.grownBy w' v.ownBlock → ((Value.slice A' (n + 1) c').ownBlock = v.ownBlock ∨ (Value.slice A' (n + 1) c').ownBlock = some (w.heap.size + 1)) → K (a.put o.dst (.slice A' (n + 1) c')) w') :
    if Region.wanted o (yielded ops a.tmps) = true then Oper.wp Try.prog o a (w.alloc (.cells #[.int .i64 y.k, .int .i64 y.g.k, .int .i64 y.g.a, .int .i64 y.g.b, .int .i64 y.g.c, .int .i64 y.q, .int .i64 y.bit, .int .i64 y.cond] e)) K Q else E := by
  subst hbs
  have hcs := cutW_size hB
  refine stepOpS (w0 := cutW w B) hgd s x ho v n xs hs (by rw [hcs]; exact hown.alloc _) ((cutW_ext hB).alloc _) _ 1 1 [y] hx (rd_new w _ e 8 _ (by simp [Oq.cells]) (by simp [Oq.cells])) (by omega) ?_
  intro v' w' h1 h2 h3 h4
  rw [hcs] at h1
  obtain ⟨A', c', rfl, _⟩ := own_slice h1
  exact h A' c' w' h1 (World.grownBy.trans (((Ext.refl w).alloc _).gr _) h3) (by simpa using h4)
theorem Try.sizeRout : (Try.prog.info? 53).map (·.size) = some 4 := by kernel_rfl
theorem retR {fn : Func} {p : Tmp} (hf : fn.results = #[.cell p 53]) {W : World} {q : Nat} {z0 z1 z2 z3 : Value} (hB : Blk W q 53 #[z0, z1, z2, z3]) (a b c d : Value) (tmps : Array Value)
    (hp : tmps.getD p undef = .pointer (some ⟨q, 0, none⟩)) : (results fn tmps).run Try.prog ((((W.setCell ⟨q, 0, none⟩ a).setCell ⟨q, 1, none⟩ b).setCell ⟨q, 2, none⟩ c).setCell ⟨q, 3, none⟩ d) = .ok (.agg #[a, b, c, d]) ((((W.setCell ⟨q, 0, none⟩ a).setCell ⟨q, 1, none⟩ b).setCell ⟨q, 2, none⟩ c).setCell ⟨q, 3, none⟩ d) :=
  results_cell_row hf tmps _ q 53 _ (0, 0) _ hp (hB.set4 a b c d) Try.underlying53 rfl Try.sizeRout
/-- A drawn routine whose header lies in block s. -/
def DR (w0 w : World) (g s : Nat) (N I B : Int) (A : Option Addr) (len cap : Nat) (xs : List Oq) : Prop :=
  Blk w w0.heap.size 53 #[.int .i64 0, .int .i64 0, .int .i64 0, .slice none 0 0] ∧ Blk w s 53 #[.int .i64 N, .int .i64 I, .int .i64 B, .slice A len cap] ∧ w.ownsRow (w0.heap.size + 1) 32 8 (.slice A len cap) len (ocells xs) ∧ (∀ q, (Value.slice A len cap).ownBlock = some q → w0.heap.size + 1 ≤ q ∧ q ≠ s) ∧ Cur w g ∧ w0.grownBy w (some g)
section
variable {w0 w w' : World} {g s : Nat} {N I B : Int} {A : Option Addr} {len cap : Nat} {xs : List Oq}
theorem DR.cur (h : DR w0 w g s N I B A len cap xs) : Cur w g := h.2.2.2.2.1
theorem DR.lt (h : DR w0 w g s N I B A len cap xs) : s < w.heap.size ∧ w0.heap.size < w.heap.size := ⟨h.2.1.lt, h.1.lt⟩
theorem DR.grown (h : DR w0 w g s N I B A len cap xs) (hg : w.grownBy w' (some g)) (hC : Cur w' g) (hs : g < s) (hl : g < w0.heap.size) : DR w0 w' g s N I B A len cap xs := by
  obtain ⟨h1, h2, h3, h4, h5, h6⟩ := h
  exact ⟨h1.grown hg (fun k hk => by injection hk; omega), h2.grown hg (fun k hk => by injection hk; omega), own_kept h3 hg (fun k hk => by injection hk; omega), h4, hC, gr_trans h6 hg⟩
theorem DR.drew (h : DR w0 w g s N I B A len cap xs) : DR w0 w.drew g s N I B A len cap xs := by
  obtain ⟨h1, h2, h3, h4, h5, h6⟩ := h
  exact ⟨h1, h2, own_ext h3 (Ext.refl w).drew, h4, h5.ext (Ext.refl w).drew, gr_ext h6 (Ext.refl w).drew⟩
theorem DR.alloc (h : DR w0 w g s N I B A len cap xs) (o : Obj) : DR w0 (w.alloc o) g s N I B A len cap xs := by
  obtain ⟨h1, h2, h3, h4, h5, h6⟩ := h
  exact ⟨h1.alloc o, h2.alloc o, own_ext h3 ((Ext.refl w).alloc o), h4, h5.alloc o, gr_alloc h6 o⟩
theorem DR.setI (h : DR w0 w g s N I B A len cap xs) {j : Nat} {N' I' B' : Int} (u : Value) (he : (#[.int .i64 N, .int .i64 I, .int .i64 B, .slice A len cap] : Array Value).setIfInBounds j u = #[.int .i64 N', .int .i64 I', .int .i64 B', .slice A len cap]) (hs : w0.heap.size < s) (hl : g < w0.heap.size) : DR w0 (w.setCell ⟨s, j, none⟩ u) g s N' I' B' A len cap xs := by
  obtain ⟨h1, h2, h3, h4, h5, h6⟩ := h
  refine ⟨h1.far (p := ⟨s, j, none⟩) (by simp; omega) _, by have := h2.set_ j u; rwa [he] at this, ?_, h4, h5.set_ (p := ⟨s, j, none⟩) (by simp; omega) _, gr_set h6 (p := ⟨s, j, none⟩) (by simp; omega) _⟩
  refine h3.kept (row := some s) (gr_setCell (World.grownBy.refl w (some s)) j _) ?_
  cases hv : (Value.slice A len cap).ownBlock with
  | none => exact .inl rfl
  | some q => exact .inr (fun e => (h4 q hv).2 (by injection e))
/-- A store into a block that is none of the routine's. -/
theorem DR.far (h : DR w0 w g s N I B A len cap xs) {t j : Nat} (u : Value) (ht : t ≠ s) (hw : w0.heap.size < t) (hl : g < w0.heap.size) (hq : ∀ q, (Value.slice A len cap).ownBlock = some q → q ≠ t) : DR w0 (w.setCell ⟨t, j, none⟩ u) g s N I B A len cap xs := by
  obtain ⟨h1, h2, h3, h4, h5, h6⟩ := h
  refine ⟨h1.far (p := ⟨t, j, none⟩) (by simp; omega) _, h2.far (p := ⟨t, j, none⟩) (by simp; omega) _, ?_, h4, h5.set_ (p := ⟨t, j, none⟩) (by simp; omega) _, gr_set h6 (p := ⟨t, j, none⟩) (by simp; omega) _⟩
  refine h3.kept (row := some t) (gr_setCell (World.grownBy.refl w (some t)) j _) ?_
  cases hv : (Value.slice A len cap).ownBlock with
  | none => exact .inl rfl
  | some q => exact .inr (fun e => hq q hv (by injection e))
/-- What an append to the routine's row leaves. -/
theorem DR.app {A' : Option Addr} {c' : Nat} {y : Oq} (h : DR w0 w g s N I B A len cap xs) (hs : w0.heap.size < s) (hl : g < w0.heap.size)
    (ho : w'.ownsRow (w0.heap.size + 1) 32 8 (.slice A' (len + 1) c') (len + 1) (ocells (xs ++ [y]))) (hg : w.grownBy w' (Value.slice A len cap).ownBlock)
    (hb : (Value.slice A' (len + 1) c').ownBlock = (Value.slice A len cap).ownBlock ∨ (Value.slice A' (len + 1) c').ownBlock = some (w.heap.size + 1)) :
    Blk w' s 53 #[.int .i64 N, .int .i64 I, .int .i64 B, .slice A len cap] ∧ DR w0 (w'.setCell ⟨s, 3, none⟩ (.slice A' (len + 1) c')) g s N I B A' (len + 1) c' (xs ++ [y]) := by
  obtain ⟨h1, h2, h3, h4, h5, h6⟩ := h
  have hls := h2.lt
  have hB := h2.grown hg (fun k hk e => (h4 k hk).2 e.symm)
  have h4' : ∀ q, (Value.slice A' (len + 1) c').ownBlock = some q → w0.heap.size + 1 ≤ q ∧ q ≠ s := by
    intro q hq
    rcases hb with hb | hb
    · rw [hb] at hq; exact h4 q hq
    · rw [hb] at hq; injection hq with hq
      have := h1.lt
      omega
  refine ⟨hB, (h1.grown hg (fun k hk e => by have := (h4 k hk).1; omega)).far (p := ⟨s, 3, none⟩) (by simp; omega) _, hB.set_ 3 _, ?_, h4', (h5.grown hg (fun k hk => by have := (h4 k hk).1; omega)).set_ (p := ⟨s, 3, none⟩) (by simp; omega) _, gr_set (gr_new h6 hg (fun k hk => by have := (h4 k hk).1; omega)) (p := ⟨s, 3, none⟩) (by simp; omega) _⟩
  refine ho.kept (row := some s) (gr_setCell (World.grownBy.refl w' (some s)) 3 _) ?_
  cases hv : (Value.slice A' (len + 1) c').ownBlock with
  | none => exact .inl rfl
  | some q => exact .inr (fun e => (h4' q hv).2 (by injection e))
/-- What a drawn routine is. -/
def DrewRout (w0 : World) (g most : Nat) (e : Ending) (w' : World) : Prop :=
  ∃ (N I B : Int) (A : Option Addr) (len cap : Nat) (xs : List Oq), e = .returned (.agg #[.int .i64 N, .int .i64 I, .int .i64 B, .slice A len cap]) ∧ (-1 ≤ N ∧ N ≤ 5 ∧ -1 ≤ I ∧ I ≤ 6 ∧ -1 ≤ B ∧ B ≤ 4) ∧ len ≤ most ∧ w'.ownsRow w0.heap.size 32 8 (.slice A len cap) len (ocells xs) ∧ Cur w' g ∧ w0.grownBy w' (some g)
theorem DR.done {most : Nat} (h : DR w0 w g s N I B A len cap xs) (hl : g < w0.heap.size) (hN : -1 ≤ N ∧ N ≤ 5 ∧ -1 ≤ I ∧ I ≤ 6 ∧ -1 ≤ B ∧ B ≤ 4) (hm : len ≤ most) :
    DrewRout w0 g most (.returned (.agg #[.int .i64 N, .int .i64 I, .int .i64 B, .slice A len cap])) ((((w.setCell ⟨w0.heap.size, 0, none⟩ (.int .i64 N)).setCell ⟨w0.heap.size, 1, none⟩ (.int .i64 I)).setCell ⟨w0.heap.size, 2, none⟩ (.int .i64 B)).setCell ⟨w0.heap.size, 3, none⟩ (.slice A len cap)) :=
  ⟨N, I, B, A, len, cap, xs, rfl, hN, hm, own_base (own_set (own_set (own_set (own_set h.2.2.1 (p := ⟨w0.heap.size, 0, none⟩) (by simp) _) (p := ⟨w0.heap.size, 1, none⟩) (by simp) _) (p := ⟨w0.heap.size, 2, none⟩) (by simp) _) (p := ⟨w0.heap.size, 3, none⟩) (by simp) _) (by omega), Cur.set4 h.2.2.2.2.1 hl _ _ _ _, gr_set4 h.2.2.2.2.2 (Nat.le_refl _) _ _ _ _⟩
/-- A drawn routine of one to three qubits. -/
def DrewRout3 (w0 : World) (g most : Nat) (e : Ending) (w' : World) : Prop :=
  ∃ (N I B : Int) (A : Option Addr) (len cap : Nat) (xs : List Oq), e = .returned (.agg #[.int .i64 N, .int .i64 I, .int .i64 B, .slice A len cap]) ∧ (1 ≤ N ∧ N ≤ 3 ∧ -1 ≤ I ∧ I ≤ 6 ∧ -1 ≤ B ∧ B ≤ 4) ∧ len ≤ most ∧ w'.ownsRow w0.heap.size 32 8 (.slice A len cap) len (ocells xs) ∧ Cur w' g ∧ w0.grownBy w' (some g)
theorem DrewRout3.loose {w0 w' : World} {g most : Nat} {e : Ending} (h : DrewRout3 w0 g most e w') : DrewRout w0 g most e w' := by
  obtain ⟨N, I, B, A, len, cap, xs, e1, hN, r⟩ := h
  exact ⟨N, I, B, A, len, cap, xs, e1, by omega, r⟩
theorem DR.done3 {most : Nat} (h : DR w0 w g s N I B A len cap xs) (hl : g < w0.heap.size) (hN : 1 ≤ N ∧ N ≤ 3 ∧ -1 ≤ I ∧ I ≤ 6 ∧ -1 ≤ B ∧ B ≤ 4) (hm : len ≤ most) :
    DrewRout3 w0 g most (.returned (.agg #[.int .i64 N, .int .i64 I, .int .i64 B, .slice A len cap])) ((((w.setCell ⟨w0.heap.size, 0, none⟩ (.int .i64 N)).setCell ⟨w0.heap.size, 1, none⟩ (.int .i64 I)).setCell ⟨w0.heap.size, 2, none⟩ (.int .i64 B)).setCell ⟨w0.heap.size, 3, none⟩ (.slice A len cap)) :=
  ⟨N, I, B, A, len, cap, xs, rfl, hN, hm, own_base (own_set (own_set (own_set (own_set h.2.2.1 (p := ⟨w0.heap.size, 0, none⟩) (by simp) _) (p := ⟨w0.heap.size, 1, none⟩) (by simp) _) (p := ⟨w0.heap.size, 2, none⟩) (by simp) _) (p := ⟨w0.heap.size, 3, none⟩) (by simp) _) (by omega), Cur.set4 h.2.2.2.2.1 hl _ _ _ _, gr_set4 h.2.2.2.2.2 (Nat.le_refl _) _ _ _ _⟩
end
end Go.Proofs.Ytgnijfmgfpckeaa
