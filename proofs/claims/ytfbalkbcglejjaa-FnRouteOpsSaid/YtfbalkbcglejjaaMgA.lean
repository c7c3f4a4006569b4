/-
  Helper text (no claim of its own): the decomposition of ops, by the program and by the reference.
-/
import Derived.Test.YtfbalkbcglejjaaDrawH
import Derived.Test.YtfbalkbcglejjaaOp
import Derived.Test.YtfbalkbcglejjaaGops
import Derived.Test.YtfbalkbcglejjaaDec
/-
  Helper text (no claim of its own): words on drawn routines. Printed by gen_drawo.py.
-/
namespace Go.Proofs.Ytfbalkbcglejjaa
open Go.ChangeShapes Go.WideShapes Go.ChangeAt Go.RowKit Go.Deep
theorem appO1 {w : World} {B : Nat} {ops : Array Oper} {rest : List Oper} {o : Oper} {a : Act} {Q : Exit → Act → World → Prop} (hgd : o.guard = none) (s x : Operand)
    (ho : o.op = .call { callee := .builtin .append, args := #[s, x], argTypes := #[34, 34] }) (v : Value) (n : Nat) (xs : List Oq) (hs : a.eval s = v)
    (hown : w.ownsRow B 45 8 v n (ocells xs)) (hB : B ≤ w.heap.size) (y : Oq) (e : TypeId) (b : Nat) (hx : a.eval x = .slice (some ⟨b, 0, none⟩) 1 1) (hbs : b = w.heap.size) (hn : n ≤ 90000000)
    (h : ∀ A' c' w', w'.ownsRow B 45 8 (.slice A' (n + 1) c') (n + 1) (ocells (xs ++ [y])) → w.grownBy w' v.ownBlock → ((Value.slice A' (n + 1) c').ownBlock = v.ownBlock ∨ (Value.slice A' (n + 1) c').ownBlock = some (w.heap.size + 1)) → wpList Try.prog ops Q rest (a.put o.dst (.slice A' (n + 1) c')) w') :
    wpList Try.prog ops Q (o :: rest) a (w.alloc (.cells #[.int .i64 y.k, .int .i64 y.g.k, .int .i64 y.g.a, .int .i64 y.g.b, .int .i64 y.g.c, .int .i64 y.q, .int .i64 y.bit, .int .i64 y.cond] e)) := by
  subst hbs
  have hcs := cutW_size hB
  refine appOpS (w0 := cutW w B) hgd s x ho v n xs hs (by rw [hcs]; exact hown.alloc _) ((cutW_ext hB).alloc _) _ 1 1 [y] hx (rd_new w _ e 8 _ (by simp [Oq.cells]) (by simp [Oq.cells])) (by omega) ?_
  intro v' w' h1 h2 h3 h4
  rw [hcs] at h1
  obtain ⟨A', c', rfl, _⟩ := own_slice h1
  exact h A' c' w' h1 (World.grownBy.trans (((Ext.refl w).alloc _).gr _) h3) (by simpa using h4)
theorem stepO1 {w : World} {B : Nat} {ops : Array Oper} {o : Oper} {a : Act} {K : Act → World → Prop} {Q : Exit → Act → World → Prop} {E : Prop} (hgd : o.guard = none) (s x : Operand)
    (ho : o.op = .call { callee := .builtin .append, args := #[s, x], argTypes := #[34, 34] }) (v : Value) (n : Nat) (xs : List Oq) (hs : a.eval s = v)
    (hown : w.ownsRow B 45 8 v n (ocells xs)) (hB : B ≤ w.heap.size) (y : Oq) (e : TypeId) (b : Nat) (hx : a.eval x = .slice (some ⟨b, 0, none⟩) 1 1) (hbs : b = w.heap.size) (hn : n ≤ 90000000)
    (h : ∀ A' c' w', w'.ownsRow B 45 8 (.slice A' (n + 1) c') (n + 1) (ocells (xs ++ [y])) → w.grownBy w' v.ownBlock → ((Value.slice A' (n + 1) c').ownBlock = v.ownBlock ∨ (Value.slice A' (n + 1) c').ownBlock = some (w.heap.size + 1)) → K (a.put o.dst (.slice A' (n + 1) c')) w') :
    if Region.wanted o (yielded ops a.tmps) = true then Oper.wp Try.prog o a (w.alloc (.cells #[.int .i64 y.k, .int .i64 y.g.k, .int .i64 y.g.a, .int .i64 y.g.b, .int .i64 y.g.c, .int .i64 y.q, .int .i64 y.bit, .int .i64 y.cond] e)) K Q else E := by
  subst hbs
  have hcs := cutW_size hB
  refine stepOpS (w0 := cutW w B) hgd s x ho v n xs hs (by rw [hcs]; exact hown.alloc _) ((cutW_ext hB).alloc _) _ 1 1 [y] hx (rd_new w _ e 8 _ (by simp [Oq.cells]) (by simp [Oq.cells])) (by omega) ?_
  intro v' w' h1 h2 h3 h4
  rw [hcs] at h1
  obtain ⟨A', c', rfl, _⟩ := own_slice h1
  exact h A' c' w' h1 (World.grownBy.trans (((Ext.refl w).alloc _).gr _) h3) (by simpa using h4)
theorem Try.sizeRout : (Try.prog.info? 57).map (·.size) = some 4 := by kernel_rfl
theorem retR {fn : Func} {p : Tmp} (hf : fn.results = #[.cell p 57]) {W : World} {q : Nat} {z0 z1 z2 z3 : Value} (hB : Blk W q 57 #[z0, z1, z2, z3]) (a b c d : Value) (tmps : Array Value)
    (hp : tmps.getD p undef = .pointer (some ⟨q, 0, none⟩)) : (results fn tmps).run Try.prog ((((W.setCell ⟨q, 0, none⟩ a).setCell ⟨q, 1, none⟩ b).setCell ⟨q, 2, none⟩ c).setCell ⟨q, 3, none⟩ d) = .ok (.agg #[a, b, c, d]) ((((W.setCell ⟨q, 0, none⟩ a).setCell ⟨q, 1, none⟩ b).setCell ⟨q, 2, none⟩ c).setCell ⟨q, 3, none⟩ d) :=
  results_cell_row hf tmps _ q 57 _ (0, 0) _ hp (hB.set4 a b c d) Try.underlying57 rfl Try.sizeRout
/-- A drawn routine whose header lies in block s. -/
def DR (w0 w : World) (g s : Nat) (N I B : Int) (A : Option Addr) (len cap : Nat) (xs : List Oq) : Prop :=
  Blk w w0.heap.size 57 #[.int .i64 0, .int .i64 0, .int .i64 0, .slice none 0 0] ∧ Blk w s 57 #[.int .i64 N, .int .i64 I, .int .i64 B, .slice A len cap] ∧ w.ownsRow (w0.heap.size + 1) 45 8 (.slice A len cap) len (ocells xs) ∧ (∀ q, (Value.slice A len cap).ownBlock = some q → w0.heap.size + 1 ≤ q ∧ q ≠ s) ∧ Cur w g ∧ w0.grownBy w (some g)
section
variable {w0 w w' : World} {g s : Nat} {N I B : Int} {A : Option Addr} {len cap : Nat} {xs : List Oq}
theorem DR.cur (h : DR w0 w g s N I B A len cap xs) : Cur w g := h.2.2.2.2.1
theorem DR.lt (h : DR w0 w g s N I B A len cap xs) : s < w.heap.size ∧ w0.heap.size < w.heap.size := ⟨h.2.1.lt, h.1.lt⟩
theorem DR.grown (h : DR w0 w g s N I B A len cap xs) (hg : w.grownBy w' (some g)) (hC : Cur w' g) (hs : g < s) (hl : g < w0.heap.size) : DR w0 w' g s N I B A len cap xs := by
  obtain ⟨h1, h2, h3, h4, h5, h6⟩ := h
  exact ⟨h1.grown hg (fun k hk => by injection hk; omega), h2.grown hg (fun k hk => by injection hk; omega), own_kept h3 hg (fun k hk => by injection hk; omega), h4, hC, gr_trans h6 hg⟩
theorem DR.drew (h : DR w0 w g s N I B A len cap xs) : DR w0 w.drew g s N I B A len cap xs := by
  obtain ⟨h1, h2, h3, h4, h5, h6⟩ := h
  exact ⟨h1, h2, own_ext h3 (Ext.refl w).drew, h4, h5.ext (Ext.refl w).drew, gr_ext h6 (Ext.refl w).drew⟩
theorem DR.alloc (h : DR w0 w g s N I B A len cap xs) (o : Obj) : DR w0 (w.alloc o) g s N I B A len cap xs := by
  obtain ⟨h1, h2, h3, h4, h5, h6⟩ := h
  exact ⟨h1.alloc o, h2.alloc o, own_ext h3 ((Ext.refl w).alloc o), h4, h5.alloc o, gr_alloc h6 o⟩
theorem DR.setI (h : DR w0 w g s N I B A len cap xs) {j : Nat} {N' I' B' : Int} (u : Value) (he : (#[.int .i64 N, .int .i64 I, .int .i64 B, .slice A len cap] : Array Value).setIfInBounds j u = #[.int .i64 N', .int .i64 I', .int .i64 B', .slice A len cap]) (hs : w0.heap.size < s) (hl : g < w0.heap.size) : DR w0 (w.setCell ⟨s, j, none⟩ u) g s N' I' B' A len cap xs := by
  obtain ⟨h1, h2, h3, h4, h5, h6⟩ := h
  refine ⟨h1.far (p := ⟨s, j, none⟩) (by simp; omega) _, by have := h2.set_ j u; rwa [he] at this, ?_, h4, h5.set_ (p := ⟨s, j, none⟩) (by simp; omega) _, gr_set h6 (p := ⟨s, j, none⟩) (by simp; omega) _⟩
  refine h3.kept (row := some s) (gr_setCell (World.grownBy.refl w (some s)) j _) ?_
  cases hv : (Value.slice A len cap).ownBlock with
  | none => exact .inl rfl
  | some q => exact .inr (fun e => (h4 q hv).2 (by injection e))
/-- A store into a block that is none of the routine's. -/
theorem DR.far (h : DR w0 w g s N I B A len cap xs) {t j : Nat} (u : Value) (ht : t ≠ s) (hw : w0.heap.size < t) (hl : g < w0.heap.size) (hq : ∀ q, (Value.slice A len cap).ownBlock = some q → q ≠ t) : DR w0 (w.setCell ⟨t, j, none⟩ u) g s N I B A len cap xs := by
  obtain ⟨h1, h2, h3, h4, h5, h6⟩ := h
  refine ⟨h1.far (p := ⟨t, j, none⟩) (by simp; omega) _, h2.far (p := ⟨t, j, none⟩) (by simp; omega) _, ?_, h4, h5.set_ (p := ⟨t, j, none⟩) (by simp; omega) _, gr_set h6 (p := ⟨t, j, none⟩) (by simp; omega) _⟩
  refine h3.kept (row := some t) (gr_setCell (World.grownBy.refl w (some t)) j _) ?_
  cases hv : (Value.slice A len cap).ownBlock with
  | none => exact .inl rfl
  | some q => exact .inr (fun e => hq q hv (by injection e))
/-- What an append to the routine's row leaves. -/
theorem DR.app {A' : Option Addr} {c' : Nat} {y : Oq} (h : DR w0 w g s N I B A len cap xs) (hs : w0.heap.size < s) (hl : g < w0.heap.size)
    (ho : w'.ownsRow (w0.heap.size + 1) 45 8 (.slice A' (len + 1) c') (len + 1) (ocells (xs ++ [y]))) (hg : w.grownBy w' (Value.slice A len cap).ownBlock)
    (hb : (Value.slice A' (len + 1) c').ownBlock = (Value.slice A len cap).ownBlock ∨ (Value.slice A' (len + 1) c').ownBlock = some (w.heap.size + 1)) :
    Blk w' s 57 #[.int .i64 N, .int .i64 I, .int .i64 B, .slice A len cap] ∧ DR w0 (w'.setCell ⟨s, 3, none⟩ (.slice A' (len + 1) c')) g s N I B A' (len + 1) c' (xs ++ [y]) := by
  obtain ⟨h1, h2, h3, h4, h5, h6⟩ := h
  have hls := h2.lt
  have hB := h2.grown hg (fun k hk e => (h4 k hk).2 e.symm)
  have h4' : ∀ q, (Value.slice A' (len + 1) c').ownBlock = some q → w0.heap.size + 1 ≤ q ∧ q ≠ s := by
    intro q hq
    rcases hb with hb | hb
    · rw [hb] at hq; exact h4 q hq
    · rw [hb] at hq; injection hq with hq
      have := h1.lt
      omega
  refine ⟨hB, (h1.grown hg (fun k hk e => by have := (h4 k hk).1; omega)).far (p := ⟨s, 3, none⟩) (by simp; omega) _, hB.set_ 3 _, ?_, h4', (h5.grown hg (fun k hk => by have := (h4 k hk).1; omega)).set_ (p := ⟨s, 3, none⟩) (by simp; omega) _, gr_set (gr_new h6 hg (fun k hk => by have := (h4 k hk).1; omega)) (p := ⟨s, 3, none⟩) (by simp; omega) _⟩
  refine ho.kept (row := some s) (gr_setCell (World.grownBy.refl w' (some s)) 3 _) ?_
  cases hv : (Value.slice A' (len + 1) c').ownBlock with
  | none => exact .inl rfl
  | some q => exact .inr (fun e => (h4' q hv).2 (by injection e))
/-- What a drawn routine is. -/
def DrewRout (w0 : World) (g most : Nat) (e : Ending) (w' : World) : Prop :=
  ∃ (N I B : Int) (A : Option Addr) (len cap : Nat) (xs : List Oq), e = .returned (.agg #[.int .i64 N, .int .i64 I, .int .i64 B, .slice A len cap]) ∧ (-1 ≤ N ∧ N ≤ 5 ∧ -1 ≤ I ∧ I ≤ 6 ∧ -1 ≤ B ∧ B ≤ 4) ∧ len ≤ most ∧ w'.ownsRow w0.heap.size 45 8 (.slice A len cap) len (ocells xs) ∧ Cur w' g ∧ w0.grownBy w' (some g)
theorem DR.done {most : Nat} (h : DR w0 w g s N I B A len cap xs) (hl : g < w0.heap.size) (hN : -1 ≤ N ∧ N ≤ 5 ∧ -1 ≤ I ∧ I ≤ 6 ∧ -1 ≤ B ∧ B ≤ 4) (hm : len ≤ most) :
    DrewRout w0 g most (.returned (.agg #[.int .i64 N, .int .i64 I, .int .i64 B, .slice A len cap])) ((((w.setCell ⟨w0.heap.size, 0, none⟩ (.int .i64 N)).setCell ⟨w0.heap.size, 1, none⟩ (.int .i64 I)).setCell ⟨w0.heap.size, 2, none⟩ (.int .i64 B)).setCell ⟨w0.heap.size, 3, none⟩ (.slice A len cap)) :=
  ⟨N, I, B, A, len, cap, xs, rfl, hN, hm, own_base (own_set (own_set (own_set (own_set h.2.2.1 (p := ⟨w0.heap.size, 0, none⟩) (by simp) _) (p := ⟨w0.heap.size, 1, none⟩) (by simp) _) (p := ⟨w0.heap.size, 2, none⟩) (by simp) _) (p := ⟨w0.heap.size, 3, none⟩) (by simp) _) (by omega), Cur.set4 h.2.2.2.2.1 hl _ _ _ _, gr_set4 h.2.2.2.2.2 (Nat.le_refl _) _ _ _ _⟩
/-- A drawn routine of one to three qubits. -/
def DrewRout3 (w0 : World) (g most : Nat) (e : Ending) (w' : World) : Prop :=
  ∃ (N I B : Int) (A : Option Addr) (len cap : Nat) (xs : List Oq), e = .returned (.agg #[.int .i64 N, .int .i64 I, .int .i64 B, .slice A len cap]) ∧ (1 ≤ N ∧ N ≤ 3 ∧ -1 ≤ I ∧ I ≤ 6 ∧ -1 ≤ B ∧ B ≤ 4) ∧ len ≤ most ∧ w'.ownsRow w0.heap.size 45 8 (.slice A len cap) len (ocells xs) ∧ Cur w' g ∧ w0.grownBy w' (some g)
theorem DrewRout3.loose {w0 w' : World} {g most : Nat} {e : Ending} (h : DrewRout3 w0 g most e w') : DrewRout w0 g most e w' := by
  obtain ⟨N, I, B, A, len, cap, xs, e1, hN, r⟩ := h
  exact ⟨N, I, B, A, len, cap, xs, e1, by omega, r⟩
theorem DR.done3 {most : Nat} (h : DR w0 w g s N I B A len cap xs) (hl : g < w0.heap.size) (hN : 1 ≤ N ∧ N ≤ 3 ∧ -1 ≤ I ∧ I ≤ 6 ∧ -1 ≤ B ∧ B ≤ 4) (hm : len ≤ most) :
    DrewRout3 w0 g most (.returned (.agg #[.int .i64 N, .int .i64 I, .int .i64 B, .slice A len cap])) ((((w.setCell ⟨w0.heap.size, 0, none⟩ (.int .i64 N)).setCell ⟨w0.heap.size, 1, none⟩ (.int .i64 I)).setCell ⟨w0.heap.size, 2, none⟩ (.int .i64 B)).setCell ⟨w0.heap.size, 3, none⟩ (.slice A len cap)) :=
  ⟨N, I, B, A, len, cap, xs, rfl, hN, hm, own_base (own_set (own_set (own_set (own_set h.2.2.1 (p := ⟨w0.heap.size, 0, none⟩) (by simp) _) (p := ⟨w0.heap.size, 1, none⟩) (by simp) _) (p := ⟨w0.heap.size, 2, none⟩) (by simp) _) (p := ⟨w0.heap.size, 3, none⟩) (by simp) _) (by omega), Cur.set4 h.2.2.2.2.1 hl _ _ _ _, gr_set4 h.2.2.2.2.2 (Nat.le_refl _) _ _ _ _⟩
end
end Go.Proofs.Ytfbalkbcglejjaa
/-
  Helper text (no claim of its own): drawn routines. Only that they return, and what their results are made of. Printed by gen_drawo.py.
-/
namespace Go.Proofs.Ytfbalkbcglejjaa
open Go.ChangeShapes Go.WideShapes Go.ChangeAt Go.RowKit Go.Deep
theorem blk8 {w : World} {g t : Nat} {a0 a1 a2 a3 a4 a5 a6 a7 : Value} (h : Blk w g t #[a0, a1, a2, a3, a4, a5, a6, a7]) : (w.cell? ⟨g, 0, none⟩ = some a0 ∧ w.cell? ⟨g, 1, none⟩ = some a1 ∧ w.cell? ⟨g, 2, none⟩ = some a2 ∧ w.cell? ⟨g, 3, none⟩ = some a3 ∧ w.cell? ⟨g, 4, none⟩ = some a4 ∧ w.cell? ⟨g, 5, none⟩ = some a5 ∧ w.cell? ⟨g, 6, none⟩ = some a6 ∧ w.cell? ⟨g, 7, none⟩ = some a7) ∧ w.frozen? ⟨g, 7, none⟩ = false :=
  ⟨⟨h.cell 0, h.cell 1, h.cell 2, h.cell 3, h.cell 4, h.cell 5, h.cell 6, h.cell 7⟩, h.frozen 7⟩
set_option maxRecDepth 100000 in
set_option maxHeartbeats 16000000 in
theorem l21Right3_any (g most : Nat) (hm : most ≤ 200) (w : World) (h : Cur w g) :
    Calls Try.prog 53 #[.pointer (some ⟨g, 0, none⟩), .int .i64 most] w (DrewRout3 w g most) := by
  have hgl := h.lt
  go_enter Try.func53, Try.ntmps53
  go_wp2_with fail
  refine (l1Below_any g 3 _ (h.alloc _) (by omega)).mono ?_
  rintro e w2 ⟨x, rfl, ⟨hx0, hx1, _⟩, hC2, hG2⟩
  obtain ⟨n0, rfl⟩ := Int.eq_ofNat_of_zero_le hx0
  have hx2 : n0 < 3 := by have := hx1 (by omega); omega
  clear hx1 hx0
  have hB2 := (Blk.new w 57 #[.int .i64 0, .int .i64 0, .int .i64 0, .slice none 0 0]).grown hG2 (fun k hk => by injection hk; omega)
  have hl2 := hB2.lt
  have hg2 : w.grownBy w2 (some g) := gr_trans (((Ext.refl w).alloc _).gr _) hG2
  clear hG2
  go_upto_region 3 with (fail)
  obtain ⟨n, en, hn1, hn3⟩ : ∃ n : Nat, (1 : Int) + (n0 : Int) = (n : Int) ∧ 1 ≤ n ∧ n ≤ 3 := ⟨n0 + 1, by omega, by omega, by omega⟩
  rw [en]
  clear en
  have hD : DR w (w2.alloc (.cells #[.int .i64 n, .int .i64 n, .int .i64 0, .slice none 0 0] 57)) g w2.heap.size n n 0 none 0 0 [] :=
    ⟨hB2.alloc _, Blk.new _ _ _, ⟨by simp, .inl ⟨rfl, rfl⟩⟩, fun q hq => by simp [Value.ownBlock] at hq, hC2.alloc _, gr_alloc hg2 _⟩
  generalize w2.alloc (.cells #[.int .i64 n, .int .i64 n, .int .i64 0, .slice none 0 0] 57) = W at *
  generalize w2.heap.size = s at *
  have hgs : g < s := by omega
  clear hB2 hg2 hC2
  have HD := Lib.hid hD
  have hCW := hD.cur
  have hlW := hD.lt
  clear hD
  go_cut [22] (fun s22 wx => ∃ bb : Bool, s22 = .bool bb ∧ DR w wx g s n n 0 none 0 0 [])
  case first =>
    by_cases hn : 1 < n
    · go_wp2_with fail
      refine (l1Once_any g 4 _ hCW (by omega)).mono ?_
      rintro e w5 ⟨bb, rfl, hC5, hG5⟩
      go_wp2_with fail
      go_meet
      exact ⟨bb, rfl, HD.out.grown hG5 hC5 hgs hgl⟩
    · go_wp2_with fail
      go_meet
      exact ⟨false, rfl, HD.out⟩
  case rest =>
    obtain ⟨bb, rfl, hD⟩ := hcut
    clear HD hCW hlW
    have hws : w.heap.size < s := by omega
    have HD := Lib.hid hD
    have hCW := hD.cur
    have hlW := hD.lt
    have i1 : wc.cell? ⟨s, 1, none⟩ = some (.int .i64 n) := hD.2.1.cell 1
    have j1 : wc.frozen? ⟨s, 1, none⟩ = false := hD.2.1.frozen 1
    clear hD
    go_upto_if 22 with (fail)
    go_cut [] (fun wx => ∃ I : Int, (0 ≤ I ∧ I ≤ 3) ∧ DR w wx g s n I 0 none 0 0 [])
    case first =>
      cases bb
      · go_wp2_with fail
        go_meet
        exact ⟨n, by omega, HD.out⟩
      · go_wp2_with fail
        go_meet
        exact ⟨n - 1, by omega, HD.out.setI _ rfl hws hgl⟩
    case rest =>
      clear i1 j1 HD hCW hlW
      obtain ⟨I, hI, hD⟩ := hcut
      go_wp2_with fail
      refine (l1Once_any g 2 _ hD.cur (by omega)).mono ?_
      rintro e w6 ⟨wild, rfl, hC6, hG6⟩
      have hD6 := hD.grown hG6 hC6 hgs hgl
      clear hD hG6 hC6
      go_wp2_with fail
      refine (l1Below_any g _ _ hD6.cur (by omega)).mono ?_
      rintro e w7 ⟨mm, rfl, ⟨hm0, hm1, _⟩, hC7, hG7⟩
      obtain ⟨m, rfl⟩ := Int.eq_ofNat_of_zero_le hm0
      have hmm : m ≤ most := by have := hm1 (by omega); omega
      have hD7 := hD6.grown hG7 hC7 hgs hgl
      clear hm1 hm0 hD6 hG7 hC7
      go_wp2
      go_loopw [9] (fun i wr => ∃ (k : Nat) (I B : Int) (A : Option Addr) (cap : Nat) (xs : List Oq), k ≤ m ∧ i = .int .i64 k ∧ (0 ≤ I ∧ I ≤ 3) ∧ (0 ≤ B ∧ B ≤ 2) ∧ DR w wr g s n I B A k cap xs) (fun i _ => m - (intOf i).toNat)
      case atStart => exact ⟨0, I, 0, none, 0, [], Nat.zero_le _, rfl, hI, by omega, hD7⟩
      case round =>
        clear hD7 hI I
        obtain ⟨k, I, B, A, cap, xs, hk, rfl, hI, hBB, hD⟩ := hrel
        have HD := Lib.hid hD
        have hCW := hD.cur
        have hlW := hD.lt
        have i2 : wr.cell? ⟨s, 2, none⟩ = some (.int .i64 B) := hD.2.1.cell 2
        by_cases hlt : k < m
        · clear hD
          go_upto_region 10 with (fail)
          go_cut [46] (fun s46 wx => ∃ bb : Bool, s46 = .bool bb ∧ (bb = true → B < 2) ∧ DR w wx g s n I B A k cap xs)
          case first =>
            cases wild
            · go_wp2_with fail
              go_meet
              exact ⟨false, rfl, by simp, HD.out⟩
            · by_cases hB2 : B < 2
              · go_wp2_with fail
                refine (l1Once_any g 4 _ hCW (by omega)).mono ?_
                rintro e w8 ⟨bb, rfl, hC8, hG8⟩
                go_wp2_with fail
                go_meet
                exact ⟨bb, rfl, fun _ => hB2, HD.out.grown hG8 hC8 hgs hgl⟩
              · go_wp2_with fail
                go_meet
                exact ⟨false, rfl, by simp, HD.out⟩
          case rest =>
            clear HD hCW hlW i2
            obtain ⟨bb, rfl, hb2, hD⟩ := hcut
            have HD := Lib.hid hD
            have hCW := hD.cur
            have hlW := hD.lt
            have i2 : wc.cell? ⟨s, 2, none⟩ = some (.int .i64 B) := hD.2.1.cell 2
            have i3 : wc.cell? ⟨s, 3, none⟩ = some (.slice A k cap) := hD.2.1.cell 3
            have hCd : Cur wc.drew g := hCW.ext (Ext.refl wc).drew
            clear hD
            cases bb
            · clear hb2
              go_wp2_with fail
              refine (l9Gate_any g n (by omega) _ hCW).mono ?_
              rintro e w9 ⟨y, rfl, hC9, hG9⟩
              have hD9 := HD.out.grown hG9 hC9 hgs hgl
              have hl9 := hD9.lt
              go_upto_region 14 with (fail)
              have hT := Blk.new w9 45 #[.int .i64 1, .int .i64 y.k, .int .i64 y.a, .int .i64 y.b, .int .i64 y.c, .int .i64 0, .int .i64 0, .int .i64 0]
              have hDT := hD9.alloc (.cells #[.int .i64 1, .int .i64 y.k, .int .i64 y.a, .int .i64 y.b, .int .i64 y.c, .int .i64 0, .int .i64 0, .int .i64 0] 45)
              have hqT : ∀ q, (Value.slice A k cap).ownBlock = some q → q ≠ w9.heap.size := fun q hq => by have := (hD9.2.2.1.lt q hq).2; omega
              generalize w9.alloc (.cells #[.int .i64 1, .int .i64 y.k, .int .i64 y.a, .int .i64 y.b, .int .i64 y.c, .int .i64 0, .int .i64 0, .int .i64 0] 45) = W0 at *
              generalize w9.heap.size = t at *
              have hts : t ≠ s := by omega
              have hwt : w.heap.size < t := by omega
              have HQT := Lib.hid hqT
              have HDT := Lib.hid hDT
              have hC0 := hDT.cur
              have hl0 := hDT.lt
              have i2' : W0.cell? ⟨s, 2, none⟩ = some (.int .i64 B) := hDT.2.1.cell 2
              clear hqT hDT i2 i3 hCd HD hCW hlW hD9 hC9 hG9
              go_cut [72] (fun s72 wx => ∃ bb : Bool, s72 = .bool bb ∧ DR w wx g s n I B A k cap xs ∧ Blk wx t 45 #[.int .i64 1, .int .i64 y.k, .int .i64 y.a, .int .i64 y.b, .int .i64 y.c, .int .i64 0, .int .i64 0, .int .i64 0])
              case first =>
                by_cases hB0 : 0 < B
                · go_wp2_with fail
                  refine (l1Once_any g 2 _ hC0 (by omega)).mono ?_
                  rintro e w10 ⟨bb, rfl, hC10, hG10⟩
                  go_wp2_with fail
                  go_meet
                  exact ⟨bb, rfl, HDT.out.grown hG10 hC10 hgs hgl, hT.grown hG10 (fun k hk => by injection hk; omega)⟩
                · go_wp2_with fail
                  go_meet
                  exact ⟨false, rfl, HDT.out, hT⟩
              case rest =>
                clear HDT hC0 hl0 i2' hT
                obtain ⟨bb, rfl, hD, hT⟩ := hcut
                have HD := Lib.hid hD
                have hC0 := hD.cur
                have hl0 := hD.lt
                have i2 : wc.cell? ⟨s, 2, none⟩ = some (.int .i64 B) := hD.2.1.cell 2
                clear hD
                cases bb
                · obtain ⟨W1, rfl⟩ : ∃ W1 : World, W1 = wc := ⟨_, rfl⟩
                  have HD1 := HD
                  have hT1 := hT
                  clear HD hT i2 hC0 hl0
                  have k3 : W1.cell? ⟨s, 3, none⟩ = some (.slice A k cap) := HD1.out.2.1.cell 3
                  have hl1 := HD1.out.lt
                  obtain ⟨⟨o0, o1, o2, o3, o4, o5, o6, o7⟩, f7⟩ := blk8 hT1
                  go_wp2_with (at_builtin; refine appO1 (B := w.heap.size + 1) rfl _ _ rfl _ k xs rfl HD1.out.2.2.1 (by omega) ⟨1, y, 0, 0, 0⟩ _ _ rfl rfl (by omega) ?_; intro A7 c7 w7 ho7 hg7 hb7; have HA := Lib.hid (HD1.out.app hws hgl ho7 hg7 hb7); have k6 : w7.cell? ⟨s, 3, none⟩ = some (.slice A k cap) := HA.out.1.cell 3; have f6 : w7.frozen? ⟨s, 3, none⟩ = false := HA.out.1.frozen 3)
                  clear k6 f6 k3 o0 o1 o2 o3 o4 o5 o6 o7 f7
                  go_roundw
                  case rel => exact ⟨k + 1, I, B, A7, c7, _, by omega, by go_num, hI, hBB, HA.out.2⟩
                  case measure => simp [intOf]; omega
                · go_wp2_with fail
                  refine (l1Below_any g B _ hC0 (by omega)).mono ?_
                  rintro e w10 ⟨z, rfl, ⟨hz0, hz1, hz2⟩, hC10, hG10⟩
                  have hz3 : z ≤ 2 := by
                    by_cases hB0 : 0 < B
                    · have := hz1 hB0; omega
                    · have := hz2 (by omega); omega
                  clear hz1 hz2
                  have hD10 := HD.out.grown hG10 hC10 hgs hgl
                  have hT10 := hT.grown hG10 (fun k hk => by injection hk; omega)
                  have hl10 := hT10.lt
                  obtain ⟨⟨o0, o1, o2, o3, o4, o5, o6, o7⟩, f7⟩ := blk8 hT10
                  go_upto_region 16 with (fail)
                  clear o0 o1 o2 o3 o4 o5 o6 o7 f7
                  have HD1 := Lib.hid (hD10.far (j := 7) (.int .i64 (1 + z)) hts hwt hgl HQT.out)
                  have hT1 : Blk (w10.setCell ⟨t, 7, none⟩ (.int .i64 (1 + z))) t 45 #[.int .i64 1, .int .i64 y.k, .int .i64 y.a, .int .i64 y.b, .int .i64 y.c, .int .i64 0, .int .i64 0, .int .i64 (1 + z)] := hT10.set_ 7 _
                  generalize w10.setCell ⟨t, 7, none⟩ (.int .i64 (1 + z)) = W1 at *
                  clear HD hT i2 hC0 hl0 hD10 hT10
                  have k3 : W1.cell? ⟨s, 3, none⟩ = some (.slice A k cap) := HD1.out.2.1.cell 3
                  have hl1 := HD1.out.lt
                  obtain ⟨⟨o0, o1, o2, o3, o4, o5, o6, o7⟩, f7⟩ := blk8 hT1
                  go_wp2_with (at_builtin; refine appO1 (B := w.heap.size + 1) rfl _ _ rfl _ k xs rfl HD1.out.2.2.1 (by omega) ⟨1, y, 0, 0, (1 + z)⟩ _ _ rfl rfl (by omega) ?_; intro A7 c7 w7 ho7 hg7 hb7; have HA := Lib.hid (HD1.out.app hws hgl ho7 hg7 hb7); have k6 : w7.cell? ⟨s, 3, none⟩ = some (.slice A k cap) := HA.out.1.cell 3; have f6 : w7.frozen? ⟨s, 3, none⟩ = false := HA.out.1.frozen 3)
                  clear k6 f6 k3 o0 o1 o2 o3 o4 o5 o6 o7 f7
                  go_roundw
                  case rel => exact ⟨k + 1, I, B, A7, c7, _, by omega, by go_num, hI, hBB, HA.out.2⟩
                  case measure => simp [intOf]; omega
            · have hB2 := hb2 rfl
              clear hb2
              go_wp2
              go_region_law (first
                | (go_simp; go_at_call 47; (with_reducible refine (l1Below_any g n _ hCd (by omega)).mono ?_); rintro e w8 ⟨z, rfl, ⟨hz0, hz1, hz2⟩, hC8, hG8⟩; have HD8 := Lib.hid (HD.out.drew.grown hG8 hC8 hgs hgl); have hl8 := HD8.out.lt; have k2 : w8.cell? ⟨s, 2, none⟩ = some (.int .i64 B) := HD8.out.2.1.cell 2; have k3 : w8.cell? ⟨s, 3, none⟩ = some (.slice A k cap) := HD8.out.2.1.cell 3)
                | (refine stepO1 (B := w.heap.size + 1) (by rfl) _ _ (by rfl) _ k xs (by rfl) HD8.out.2.2.1 (by omega) ⟨2, ⟨0, 0, 0, 0⟩, z, B, 0⟩ _ _ (by rfl) (by rfl) (by omega) ?_; intro A4 c4 w9 ho4 hg4 hb4; have HA := Lib.hid (HD8.out.app hws hgl ho4 hg4 hb4); have k6 : w9.cell? ⟨s, 3, none⟩ = some (.slice A k cap) := HA.out.1.cell 3; have f6 : w9.frozen? ⟨s, 3, none⟩ = false := HA.out.1.frozen 3))
              all_goals
                clear k6 f6 k2 k3 i2 i3
                have HD9 := Lib.hid HA.out.2
                have k2 : (w9.setCell ⟨s, 3, none⟩ (.slice A4 (k + 1) c4)).cell? ⟨s, 2, none⟩ = some (.int .i64 B) := HD9.out.2.1.cell 2
                have f2 : (w9.setCell ⟨s, 3, none⟩ (.slice A4 (k + 1) c4)).frozen? ⟨s, 2, none⟩ = false := HD9.out.2.1.frozen 2
                generalize w9.setCell ⟨s, 3, none⟩ (.slice A4 (k + 1) c4) = W1 at *
                go_wp2
                go_roundw
                case rel => exact ⟨k + 1, I, B + 1, A4, c4, _, by omega, by go_num, hI, by omega, HD9.out.setI _ rfl hws hgl⟩
                case measure => simp [intOf]; omega
        · obtain ⟨⟨b0, b1, b2, b3⟩, z0, z1, z2, z3⟩ := blk4 hD.2.1
          obtain ⟨⟨a0, a1, a2, a3⟩, y0, y1, y2, y3⟩ := blk4 hD.1
          clear hD i2
          go_wp2
          exact bodyPost_ret (v := .agg #[.int .i64 n, .int .i64 I, .int .i64 B, .slice A k cap]) (retR rfl HD.out.1 (.int .i64 n) (.int .i64 I) (.int .i64 B) (.slice A k cap) _ rfl) rfl (HD.out.done3 hgl (by omega) (by omega))
theorem l21Right_any (g most : Nat) (hm : most ≤ 200) (w : World) (h : Cur w g) :
    Calls Try.prog 53 #[.pointer (some ⟨g, 0, none⟩), .int .i64 most] w (DrewRout w g most) := (l21Right3_any g most hm w h).mono fun _ _ h => h.loose
end Go.Proofs.Ytfbalkbcglejjaa
namespace Go.Proofs.Ytfbalkbcglejjaa
open Go.ChangeShapes Go.WideShapes Go.ChangeAt Go.RowKit Go.Deep
def dec1 (o : Oq) : List Oq := if (o.k == 1) = true then gops (dec o.g) o.cond else if (o.k == 3) = true then [] else [o]
def decOps (xs : List Oq) : List Oq := xs.flatMap dec1
theorem decOps_snoc {xs : List Oq} {k : Nat} {o : Oq} (h : xs[k]? = some o) : decOps (xs.take (k + 1)) = decOps (xs.take k) ++ dec1 o := by
  unfold decOps; rw [take_snoc h, List.flatMap_append]; simp
theorem dec1_len (o : Oq) : (dec1 o).length ≤ 15 := by
  unfold dec1
  split
  · rw [gops_len]; exact dec_len _
  · split <;> simp
theorem decOps_len (xs : List Oq) : (decOps xs).length ≤ 15 * xs.length := by
  unfold decOps
  induction xs with
  | nil => simp
  | cons o xs ih => have := dec1_len o; rw [List.flatMap_cons, List.length_append, List.length_cons]; omega
theorem decOps_take (xs : List Oq) (k : Nat) : (decOps (xs.take k)).length ≤ 15 * k := by
  have h1 := decOps_len (xs.take k)
  have h2 : (xs.take k).length ≤ k := List.length_take_le _ _
  omega
theorem dec1_1 {o : Oq} (h : (o.k == 1) = true) : dec1 o = gops (dec o.g) o.cond := if_pos h
theorem dec1_3 {o : Oq} (h : (o.k == 1) = false) (h3 : (o.k == 3) = true) : dec1 o = [] := by unfold dec1; rw [if_neg (by simp [h]), if_pos h3]
theorem dec1_n {o : Oq} (h : (o.k == 1) = false) (h3 : (o.k == 3) = false) : dec1 o = [o] := by unfold dec1; rw [if_neg (by simp [h]), if_neg (by simp [h3])]

set_option maxRecDepth 100000 in
set_option maxHeartbeats 4000000 in
theorem spec_DecomposeOps_any (A : Option Addr) (n c : Nat) (xs : List Oq) (w : World) (h : Rd w w.heap.size 8 A n (ocells xs)) (hn : n ≤ 1048576) :
    Calls Try.prog 32 #[.slice A n c] w fun e w' => ∃ v, e = .returned v ∧ w'.ownsRow w.heap.size 45 8 v (decOps xs).length (ocells (decOps xs)) ∧ Ext w w' := by
  have hlen := Lib.hid (h.len Oq.cells_len (by omega))
  go_enter Try.func32, Try.ntmps32
  go_wp2
  go_loopw [3, 4] (fun v i wr => ∃ k : Nat, k ≤ n ∧ i = .int .i64 k ∧ wr.ownsRow w.heap.size 45 8 v (decOps (xs.take k)).length (ocells (decOps (xs.take k))) ∧ Ext w wr) (fun _ i _ => n - (intOf i).toNat)
  case atStart => exact ⟨0, Nat.zero_le _, rfl, own_empty w w _ _ (Ext.refl _), (by repeat (first | exact Ext.refl _ | assumption | refine Ext.alloc ?_ _ | refine Ext.drewN ?_ _ | refine Ext.drew ?_))⟩
  case round =>
    obtain ⟨k, hk, rfl, hown, hx⟩ := hrel
    by_cases hlt : k < n
    · obtain ⟨b, o, x, rfl, hb, hg, r0, r1, r2, r3, r4, r5, r6, r7⟩ := op_at h hlt
      have HS := Lib.hid (decOps_snoc hg)
      clear hg
      have hle := decOps_take xs k
      have hdl := dec_len x.g
      have HK : Hid (∀ w', Ext w w' → w'.cell? ⟨b, o + k * 8, none⟩ = some (.int .i64 x.k) ∧ w'.cell? ⟨b, o + k * 8 + 1, none⟩ = some (.int .i64 x.g.k) ∧ w'.cell? ⟨b, o + k * 8 + 2, none⟩ = some (.int .i64 x.g.a) ∧ w'.cell? ⟨b, o + k * 8 + 3, none⟩ = some (.int .i64 x.g.b) ∧ w'.cell? ⟨b, o + k * 8 + 4, none⟩ = some (.int .i64 x.g.c) ∧ w'.cell? ⟨b, o + k * 8 + 5, none⟩ = some (.int .i64 x.q) ∧ w'.cell? ⟨b, o + k * 8 + 6, none⟩ = some (.int .i64 x.bit) ∧ w'.cell? ⟨b, o + k * 8 + 7, none⟩ = some (.int .i64 x.cond)) :=
        fun w' hx' => ⟨(hx'.cell (p := ⟨b, o + k * 8, none⟩) hb).trans r0, (hx'.cell (p := ⟨b, o + k * 8 + 1, none⟩) hb).trans r1, (hx'.cell (p := ⟨b, o + k * 8 + 2, none⟩) hb).trans r2, (hx'.cell (p := ⟨b, o + k * 8 + 3, none⟩) hb).trans r3, (hx'.cell (p := ⟨b, o + k * 8 + 4, none⟩) hb).trans r4, (hx'.cell (p := ⟨b, o + k * 8 + 5, none⟩) hb).trans r5, (hx'.cell (p := ⟨b, o + k * 8 + 6, none⟩) hb).trans r6, (hx'.cell (p := ⟨b, o + k * 8 + 7, none⟩) hb).trans r7⟩
      clear r0 r1 r2 r3 r4 r5 r6 r7
      obtain ⟨h0, h1, h2, h3, h4, h5, h6, h7⟩ := HK.out wr hx
      have hk0 : (0 : Int) ≤ (k : Int) := by omega
      have hk1 : (k : Int) < (n : Int) := by omega
      cases hk1 : (x.k == 1)
      · cases hk3 : (x.k == 3)
        · have HD := Lib.hid (dec1_n hk1 hk3)
          go_wp2_with (at_builtin; refine appOp rfl _ _ rfl _ _ (decOps (xs.take k)) rfl hown hx x _ _ rfl rfl (by omega) ?_; intro v1 w1 hown1 hx1 hg1 hb1)
          go_roundw
          case rel => exact ⟨k + 1, by omega, by go_num, by rw [HS.out, HD.out, List.length_append]; exact hown1, hx1⟩
          case measure => simp [intOf]; omega
        · have HD := Lib.hid (dec1_3 hk1 hk3)
          go_wp2
          go_roundw
          case rel => exact ⟨k + 1, by omega, by go_num, by rw [HS.out, HD.out, List.append_nil]; exact hown, hx⟩
          case measure => simp [intOf]; omega
      · have HD := Lib.hid (dec1_1 hk1)
        have hgl := gops_len (dec x.g) x.cond
        have HL := Lib.hid hgl
        clear hgl
        go_wp2
        go_region_held3 (fun w' => w'.cell? ⟨b, o + k * 8, none⟩ = some (.int .i64 x.k) ∧ w'.cell? ⟨b, o + k * 8 + 1, none⟩ = some (.int .i64 x.g.k) ∧ w'.cell? ⟨b, o + k * 8 + 2, none⟩ = some (.int .i64 x.g.a) ∧ w'.cell? ⟨b, o + k * 8 + 3, none⟩ = some (.int .i64 x.g.b) ∧ w'.cell? ⟨b, o + k * 8 + 4, none⟩ = some (.int .i64 x.g.c) ∧ w'.cell? ⟨b, o + k * 8 + 5, none⟩ = some (.int .i64 x.q) ∧ w'.cell? ⟨b, o + k * 8 + 6, none⟩ = some (.int .i64 x.bit) ∧ w'.cell? ⟨b, o + k * 8 + 7, none⟩ = some (.int .i64 x.cond))
          (first | go_keep | exact HK.out _ (by assumption))
          (first
            | (go_at_call 56; refine (spec_DecomposeGate_any x.g _).mono ?_; rintro e w1 ⟨v1, rfl, ho1, hx1⟩; have hz1 : Ext w w1 := Ext.trans hx.drew hx1; have hy1 : Ext wr w1 := Ext.trans (Ext.refl wr).drew hx1; obtain ⟨A1, c1, rfl, hr1⟩ := own_slice ho1)
            | (go_at_call 55; refine (spec_GateOps_any A1 _ c1 (dec x.g) x.cond _ hr1 (by omega)).mono ?_; rintro e w2 ⟨v2, rfl, ho2, hx2⟩; have hz2 : Ext w w2 := Ext.trans hz1 hx2; obtain ⟨A2, c2, rfl, hr2⟩ := own_slice ho2)
            | (refine stepOpS (w0 := w) (by rfl) _ _ (by rfl) _ _ (decOps (xs.take k)) (by rfl) (own_ext (own_ext hown hy1) hx2) hz2 A2 _ c2 (gops (dec x.g) x.cond) (by rfl) hr2 (by rw [HL.out]; omega) ?_; intro v3 w3 ho3 hz3 hg3 hb3))
        go_wp2
        go_roundw
        case rel => exact ⟨k + 1, by omega, by go_num, by rw [HS.out, HD.out, List.length_append]; exact ho3, hz3⟩
        case measure => simp [intOf]; omega
    · rw [List.take_of_length_le (by rw [hlen.out]; omega)] at hown
      go_wp2
      go_ret
      exact ⟨_, rfl, hown, hx⟩

end Go.Proofs.Ytfbalkbcglejjaa
