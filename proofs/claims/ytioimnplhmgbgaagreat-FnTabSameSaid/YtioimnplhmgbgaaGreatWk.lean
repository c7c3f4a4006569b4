/-
 Helper text (no claim of its own): the work of reducing a tableau, by the reference. Printed by gen_l28.py.
-/
import Derived.Test.YtioimnplhmgbgaaGreatTbx
import Derived.Test.YtioimnplhmgbgaaGreatTbk
import Derived.Test.YtioimnplhmgbgaaGreatDrawE
namespace Go.Proofs.YtioimnplhmgbgaaGreat
open Go.ChangeShapes Go.WideShapes Go.ChangeAt Go.RowKit Go.Deep
set_option linter.unusedVariables false
set_option linter.unusedSimpArgs false
theorem blk3 {w : World} {g t : Nat} {a b c : Value} (h : Blk w g t #[a, b, c]) : (w.cell? ⟨g, 0, none⟩ = some a ∧ w.cell? ⟨g, 1, none⟩ = some b ∧ w.cell? ⟨g, 2, none⟩ = some c) ∧ w.frozen? ⟨g, 0, none⟩ = false ∧ w.frozen? ⟨g, 1, none⟩ = false ∧ w.frozen? ⟨g, 2, none⟩ = false :=
 ⟨⟨h.cell 0, h.cell 1, h.cell 2⟩, h.frozen 0, h.frozen 1, h.frozen 2⟩
theorem pauligate_ne : (66 : Nat) ≠ 52 := by decide
theorem pauliwork_ne : (66 : Nat) ≠ 117 := by decide
theorem workgate_ne : (117 : Nat) ≠ 52 := by decide
theorem blk_typ {w : World} {s T T' : Nat} {cs cs' : Array Value} (h : Blk w s T cs) (h' : Blk w s T' cs') : T = T' := by
 unfold Blk at h h'
 rw [h] at h'
 injection h' with h'
 injection h' with _ h'
theorem blk_own {w : World} {s T : Nat} {cs : Array Value} {B e size n : Nat} {v : Value} {xs : List Value} (h : Blk w s T cs) (ho : w.ownsRow B e size v n xs) (hne : T ≠ e) : ∀ k, v.ownBlock = some k → s ≠ k := by
 intro k hk e1
 subst e1
 rcases ho.2 with ⟨rfl, _⟩ | ⟨b', cap', cur', rfl, _, hc', _⟩
 ·cases hk
 ·injection hk with hk
  subst hk
  exact hne (blk_typ h hc')
/-- A tableau that is reduced, and the gates that were done: the work at q. -/
structure WK (w0 W : World) (q : Nat) (n : Int) (A : Option Addr) (m c : Nat) (rs : List Pa) (L : Option Addr) (len cap : Nat) (gs : List Gt) : Prop where
 b : Blk W q 117 #[.int .i64 n, .slice A m c, .slice L len cap]
 r : Rd W W.heap.size 4 A m (pcells rs)
 o : W.ownsRow (q + 1) 52 4 (.slice L len cap) len (gcells gs)
 p : PB W A
 hm : rs.length = m ∧ m ≤ c ∧ m ≤ 8
 x : Ext w0 W
 q0 : w0.heap.size ≤ q
section
variable {w0 W W' : World} {q : Nat} {n : Int} {A A' : Option Addr} {m c c' : Nat} {rs rs' : List Pa} {L L' : Option Addr} {len cap cap' : Nat} {gs : List Gt}
theorem WK.ext (h : WK w0 W q n A m c rs L len cap gs) (hx : Ext W W') : WK w0 W' q n A m c rs L len cap gs := ⟨h.b.ext hx, h.r.ext hx, own_ext h.o hx, h.p.ext hx, h.hm, h.x.trans hx, h.q0⟩
theorem rd_work (h : Rd W W.heap.size 4 A m (pcells rs)) (hp : PB W A) (hb : Blk W q 117 #[.int .i64 n, .slice A' c c', .slice L len cap]) (i : Nat) (u : Value) : Rd (W.setCell ⟨q, i, none⟩ u) (W.setCell ⟨q, i, none⟩ u).heap.size 4 A m (pcells rs) ∧ PB (W.setCell ⟨q, i, none⟩ u) A := by
 have hne : ∀ b o, A = some ⟨b, o, none⟩ → b ≠ q := fun b o e e2 => by
  obtain ⟨cs, h1⟩ := hp b o e
  subst e2
  exact pauliwork_ne (blk_typ h1 hb)
 refine ⟨⟨h.1, fun hn => ?_⟩, fun b o e => ?_⟩
 ·obtain ⟨b', o, e, hb', hc⟩ := h.2 hn
  have e1 : (W.setCell ⟨q, i, none⟩ u).heap[b']? = W.heap[b']? := Below.heap_setCell _ ⟨q, i, none⟩ u b' (hne b' o e)
  exact ⟨b', o, e, by simpa using hb', fun j u' hu => (World.cell?_of_block (a := ⟨b', o + j, none⟩) e1).trans (hc j u' hu)⟩
 ·obtain ⟨cs, h1⟩ := hp b o e
  exact ⟨cs, h1.far (p := ⟨q, i, none⟩) (hne b o e) u⟩
theorem rd_tab {s : Nat} {z0 z1 : Value} (h : Rd W W.heap.size 4 A m (pcells rs)) (hp : PB W A) (hb : Blk W s 31 #[z0, z1]) (a b : Value) : Rd ((W.setCell ⟨s, 0, none⟩ a).setCell ⟨s, 1, none⟩ b) ((W.setCell ⟨s, 0, none⟩ a).setCell ⟨s, 1, none⟩ b).heap.size 4 A m (pcells rs) ∧ PB ((W.setCell ⟨s, 0, none⟩ a).setCell ⟨s, 1, none⟩ b) A := by
 refine ⟨?_, fun b' o e => ?_⟩
 ·have := rd_put2 h hb a b
  rw [← size_put2 W s a b] at this
  exact this
 ·obtain ⟨cs, h1⟩ := hp b' o e
  have hne : b' ≠ s := fun e2 => by
   subst e2
   exact absurd (blk_typ h1 hb) (by decide)
  exact ⟨cs, (h1.far (p := ⟨s, 0, none⟩) hne a).far (p := ⟨s, 1, none⟩) hne b⟩
/-- The tableau is changed. -/
theorem WK.set (h : WK w0 W q n A m c rs L len cap gs) (hr : Rd W W.heap.size 4 A' m (pcells rs')) (hp : PB W A') (hl : rs'.length = m) (hc : m ≤ c') : WK w0 ((W.setCell ⟨q, 0, none⟩ (.int .i64 n)).setCell ⟨q, 1, none⟩ (.slice A' m c')) q n A' m c' rs' L len cap gs := by
 have h1 := rd_work hr hp h.b 0 (.int .i64 n)
 have hb1 : Blk (W.setCell ⟨q, 0, none⟩ (.int .i64 n)) q 117 #[.int .i64 n, .slice A m c, .slice L len cap] := h.b.set_ 0 _
 have h2 := rd_work h1.1 h1.2 hb1 1 (.slice A' m c')
 exact ⟨hb1.set_ 1 _, h2.1, own_set (own_set h.o (p := ⟨q, 0, none⟩) (Nat.lt_succ_self q) _) (p := ⟨q, 1, none⟩) (Nat.lt_succ_self q) _, h2.2, ⟨hl, hc, h.hm.2.2⟩, (h.x.setCell (p := ⟨q, 0, none⟩) h.q0 _).setCell (p := ⟨q, 1, none⟩) h.q0 _, h.q0⟩
/-- A gate is appended. -/
theorem WK.app {y : Gt} (h : WK w0 W q n A m c rs L len cap gs) (ho : W'.ownsRow (q + 1) 52 4 (.slice L' (len + 1) cap') (len + 1) (gcells (gs ++ [y]))) (hg : W.grownBy W' (Value.slice L len cap).ownBlock) : Blk W' q 117 #[.int .i64 n, .slice A m c, .slice L len cap] ∧ WK w0 (W'.setCell ⟨q, 2, none⟩ (.slice L' (len + 1) cap')) q n A m c rs L' (len + 1) cap' (gs ++ [y]) := by
 have hb := h.b.grown hg (blk_own h.b h.o workgate_ne)
 have hp : PB W' A := fun b o e => by
  obtain ⟨cs, h1⟩ := h.p b o e
  exact ⟨cs, h1.grown hg (blk_own h1 h.o pauligate_ne)⟩
 have hr : Rd W' W'.heap.size 4 A m (pcells rs) := by
  refine ⟨h.r.1, fun hn => ?_⟩
  obtain ⟨b', o, e, hb', hc⟩ := h.r.2 hn
  obtain ⟨cs, h1⟩ := h.p b' o e
  have hne := blk_own h1 h.o pauligate_ne
  have e1 := hg.block b' h1.lt (fun e2 => hne b' e2.symm rfl)
  exact ⟨b', o, e, by have := hg.size; omega, fun j u hu => (World.cell?_of_block (a := ⟨b', o + j, none⟩) e1).trans (hc j u hu)⟩
 have h2 := rd_work hr hp hb 2 (.slice L' (len + 1) cap')
 refine ⟨hb, hb.set_ 2 _, h2.1, own_set ho (p := ⟨q, 2, none⟩) (Nat.lt_succ_self q) _, h2.2, h.hm, ?_, h.q0⟩
 exact (h.x.grown hg (fun k hk => by have := (h.o.lt k hk).1; have := h.q0; omega)).setCell (p := ⟨q, 2, none⟩) h.q0 _
end
/-- The work behind a step. -/
def WkE (w0 : World) (q : Nat) (n : Int) (m most : Nat) (e : Ending) (W : World) : Prop := e = .returned (.tuple #[]) ∧ ∃ A c rs L len cap gs, WK w0 W q n A m c rs L len cap gs ∧ len ≤ most
set_option maxRecDepth 100000 in
set_option maxHeartbeats 8000000 in
theorem l28Do_any (w0 W : World) (q : Nat) (n : Int) (A : Option Addr) (m c : Nat) (rs : List Pa) (L : Option Addr) (len cap : Nat) (gs : List Gt) (g : Gt) (h : WK w0 W q n A m c rs L len cap gs) (hlen : len ≤ 1000000) :
  Calls Tryz.prog 96 #[.pointer (some ⟨q, 0, none⟩), g.val] W (WkE w0 q n m (len + 1)) := by
 have HC : Hid (∀ w', Ext W w' → Calls Tryz.prog 23 #[.agg #[.int .i64 n, .slice A m c], g.val] w' fun e w'' => TabResP n (tabG n rs g) e w'' ∧ Ext w' w'') := fun w' hx => by
  have hr := h.r.ext hx
  obtain ⟨e1, e2, e3⟩ := h.hm
  rw [← e1] at hr ⊢
  exact spec_TableauApplyGate_P A c n rs g w' hr (by omega) (by omega)
 obtain ⟨t, ht⟩ : ∃ t, t = tabG n rs g := ⟨_, rfl⟩
 have HTL : Hid (∀ rs', t = some rs' → rs'.length = m) := fun rs' e => by rw [tabG_len (ht ▸ e)]; exact h.hm.1
 rw [← ht] at HC
 clear ht
 have HWK : Hid (WK w0 (W.alloc (.cells #[.int .i64 g.k, .int .i64 g.a, .int .i64 g.b, .int .i64 g.c] 52)) q n A m c rs L len cap gs) := h.ext ((Ext.refl W).alloc _)
 have HGB : Hid (Blk (W.alloc (.cells #[.int .i64 g.k, .int .i64 g.a, .int .i64 g.b, .int .i64 g.c] 52)) W.heap.size 52 #[.int .i64 g.k, .int .i64 g.a, .int .i64 g.b, .int .i64 g.c]) := Blk.new _ _ _
 have HX1 : Hid (Ext W (W.alloc (.cells #[.int .i64 g.k, .int .i64 g.a, .int .i64 g.b, .int .i64 g.c] 52))) := (Ext.refl W).alloc _
 have hgq : W.heap.size ≠ q := by have := h.b.lt; omega
 clear h
 go_enter Tryz.func96, Tryz.ntmps96
 go_upto_region 1 with (fail)
 generalize W.alloc (.cells #[.int .i64 g.k, .int .i64 g.a, .int .i64 g.b, .int .i64 g.c] 52) = W1 at *
 generalize W.heap.size = g0 at *
 have HK : Hid (∀ w', Ext W1 w' → (w'.cell? ⟨q, 0, none⟩ = some (.int .i64 n) ∧ w'.cell? ⟨q, 1, none⟩ = some (.slice A m c)) ∧ (w'.cell? ⟨g0, 0, none⟩ = some (.int .i64 g.k) ∧ w'.cell? ⟨g0, 1, none⟩ = some (.int .i64 g.a) ∧ w'.cell? ⟨g0, 2, none⟩ = some (.int .i64 g.b) ∧ w'.cell? ⟨g0, 3, none⟩ = some (.int .i64 g.c))) := fun w' hx => ⟨⟨(HWK.out.ext hx).b.cell 0, (HWK.out.ext hx).b.cell 1⟩, (cells4 (HGB.out.ext hx)).1⟩
 obtain ⟨⟨p0, p1⟩, x0, x1, x2, x3⟩ := HK.out W1 (Ext.refl _)
 go_wp2
 refine wp_region_held_drew (S := fun w' => (w'.cell? ⟨q, 0, none⟩ = some (.int .i64 n) ∧ w'.cell? ⟨q, 1, none⟩ = some (.slice A m c)) ∧ (w'.cell? ⟨g0, 0, none⟩ = some (.int .i64 g.k) ∧ w'.cell? ⟨g0, 1, none⟩ = some (.int .i64 g.a) ∧ w'.cell? ⟨g0, 2, none⟩ = some (.int .i64 g.b) ∧ w'.cell? ⟨g0, 3, none⟩ = some (.int .i64 g.c))) (by kernel_rfl) (HK.out _ (Ext.refl W1).drew) (fun hHeld => ?_)
 clear p0 p1 x0 x1 x2 x3
 (refine tk 0 (v := ?_) ?_ ?_; rotate_left; · (intro w hSw; (try dsimp only at hSw); go_simp; all_goals with_reducible rfl))
 (try simp only [Act.put, L1, L2, L3, L4, L5, L6])
 (refine tk 1 (v := ?_) ?_ ?_; rotate_left; · (intro w hSw; (try dsimp only at hSw); go_simp; all_goals with_reducible rfl))
 (try simp only [Act.put, L1, L2, L3, L4, L5, L6])
 (refine tk 2 (v := ?_) ?_ ?_; rotate_left; · (intro w hSw; (try dsimp only at hSw); go_simp; all_goals with_reducible rfl))
 (try simp only [Act.put, L1, L2, L3, L4, L5, L6])
 (refine tk 3 (v := ?_) ?_ ?_; rotate_left; · (intro w hSw; (try dsimp only at hSw); go_simp; all_goals with_reducible rfl))
 (try simp only [Act.put, L1, L2, L3, L4, L5, L6])
 (refine tk 4 (v := ?_) ?_ ?_; rotate_left; · (intro w hSw; (try dsimp only at hSw); go_simp; all_goals with_reducible rfl))
 (try simp only [Act.put, L1, L2, L3, L4, L5, L6])
 cases t with
 | none =>
  refine wpAnyH_ready (rs := [5, 9]) (by kernel_rfl) (by simp) ?_
  refine AllReadyH.cons rfl (fun K hK => ?_) (AllReadyH.cons rfl (fun K hK => ?_) AllReadyH.nil)
  ·go_simp
   refine (HC.out _ (HX1.out.trans (Ext.refl W1).drew)).mono ?_
   rintro e v5 ⟨rfl, hy5⟩
   have HY5 : Hid (Ext W1 v5) := Ext.trans (Ext.refl W1).drew hy5
   clear hy5
   refine hK.out _ _ (HK.out _ HY5.out) (fun hHeld => ?_)
   clear hK K
   (try simp only [Act.put, L1, L2, L3, L4, L5, L6])
   (refine tk 6 (v := ?_) ?_ ?_; rotate_left; · (intro w hSw; (try dsimp only at hSw); go_simp; all_goals with_reducible rfl))
   (try simp only [Act.put, L1, L2, L3, L4, L5, L6])
   (refine tk 7 (v := ?_) ?_ ?_; rotate_left; · (intro w hSw; (try dsimp only at hSw); go_simp; all_goals with_reducible rfl))
   (try simp only [Act.put, L1, L2, L3, L4, L5, L6])
   (refine tk 8 (v := ?_) ?_ ?_; rotate_left; · (intro w hSw; (try dsimp only at hSw); go_simp; all_goals with_reducible rfl))
   (try simp only [Act.put, L1, L2, L3, L4, L5, L6])
   refine wpAnyH_ready (rs := [9]) (by kernel_rfl) (by simp) ?_
   refine AllReadyH.cons rfl (fun K hK => ?_) AllReadyH.nil
   go_simp
   have HX6 : Hid (Ext W1 (v5.alloc (.cells #[.int .i64 0, .slice none 0 0] 31))) := HY5.out.alloc _
   have HB6 : Hid (Blk (v5.alloc (.cells #[.int .i64 0, .slice none 0 0] 31)) v5.heap.size 31 #[.int .i64 0, .slice none 0 0]) := Blk.new _ _ _
   have hs6 : W1.heap.size ≤ v5.heap.size := HY5.out.size
   refine hK.out _ _ (HK.out _ HX6.out) (fun hHeld => ?_)
   clear hK K
   (try simp only [Act.put, L1, L2, L3, L4, L5, L6])
   generalize v5.alloc (.cells #[.int .i64 0, .slice none 0 0] 31) = w6 at *
   generalize v5.heap.size = s at *
   clear HY5
   refine wpAnyH_ready (rs := [10]) (by kernel_rfl) (by simp) ?_
   refine AllReadyH.cons rfl (fun K hK => ?_) AllReadyH.nil
   obtain ⟨⟨q0, q1⟩, f0, f1⟩ := blkT2 HB6.out
   go_simp
   have HX7 : Hid (Ext W1 ((w6.setCell ⟨s, 0, none⟩ (.int .i64 0)).setCell ⟨s, 1, none⟩ (.slice none 0 0))) := (HX6.out.setCell (p := ⟨s, 0, none⟩) hs6 _).setCell (p := ⟨s, 1, none⟩) hs6 _
   have HB7 : Hid (Blk ((w6.setCell ⟨s, 0, none⟩ (.int .i64 0)).setCell ⟨s, 1, none⟩ (.slice none 0 0)) s 31 #[.int .i64 0, .slice none 0 0]) := (HB6.out.set_ 0 _).set_ 1 _
   refine hK.out _ _ (HK.out _ HX7.out) (fun hHeld => ?_)
   clear hK K
   (try simp only [Act.put, L1, L2, L3, L4, L5, L6])
   (refine tk 11 (v := ?_) ?_ ?_; rotate_left; · (intro w hSw; (try dsimp only at hSw); go_simp; all_goals with_reducible rfl))
   (try simp only [Act.put, L1, L2, L3, L4, L5, L6])
   (refine wpAnyH_done (by kernel_rfl) ?_ _)
   clear q0 q1 f0 f1 hHeld
   generalize (w6.setCell ⟨s, 0, none⟩ (.int .i64 0)).setCell ⟨s, 1, none⟩ (.slice none 0 0) = w7 at *
   clear HX6 HB6 hs6
   go_wp2
   exact bodyPost_end (v := .tuple #[]) (by kernel_rfl) rfl ⟨rfl, A, c, rs, L, len, cap, gs, HWK.out.ext HX7.out, by omega⟩
  ·go_simp
   refine hK.out _ _ (HK.out _ ((Ext.refl W1).alloc _).drew) (fun hHeld => ?_)
   clear hK K
   (try simp only [Act.put, L1, L2, L3, L4, L5, L6])
   refine wpAnyH_ready (rs := [5]) (by kernel_rfl) (by simp) ?_
   refine AllReadyH.cons rfl (fun K hK => ?_) AllReadyH.nil
   go_simp
   refine (HC.out _ (HX1.out.trans ((Ext.refl W1).alloc _).drew)).mono ?_
   rintro e w6 ⟨rfl, hy5⟩
   have HX6 : Hid (Ext W1 w6) := Ext.trans ((Ext.refl W1).alloc (.cells #[.int .i64 0, .slice none 0 0] 31)).drew hy5
   have HB6 : Hid (Blk w6 W1.heap.size 31 #[.int .i64 0, .slice none 0 0]) := ((Blk.new W1 31 #[.int .i64 0, .slice none 0 0]).ext ((Ext.refl _).drew)).ext hy5
   have hs6 : W1.heap.size ≤ W1.heap.size := Nat.le_refl _
   clear hy5
   refine hK.out _ _ (HK.out _ HX6.out) (fun hHeld => ?_)
   clear hK K
   (try simp only [Act.put, L1, L2, L3, L4, L5, L6])
   (refine tk 6 (v := ?_) ?_ ?_; rotate_left; · (intro w hSw; (try dsimp only at hSw); go_simp; all_goals with_reducible rfl))
   (try simp only [Act.put, L1, L2, L3, L4, L5, L6])
   (refine tk 7 (v := ?_) ?_ ?_; rotate_left; · (intro w hSw; (try dsimp only at hSw); go_simp; all_goals with_reducible rfl))
   (try simp only [Act.put, L1, L2, L3, L4, L5, L6])
   (refine tk 8 (v := ?_) ?_ ?_; rotate_left; · (intro w hSw; (try dsimp only at hSw); go_simp; all_goals with_reducible rfl))
   (try simp only [Act.put, L1, L2, L3, L4, L5, L6])
   obtain ⟨s, hs⟩ : ∃ s, s = W1.heap.size := ⟨_, rfl⟩
   rw [← hs] at HB6 ⊢
   replace hs6 : W1.heap.size ≤ s := by rw [hs]; exact Nat.le_refl _
   clear hs
   refine wpAnyH_ready (rs := [10]) (by kernel_rfl) (by simp) ?_
   refine AllReadyH.cons rfl (fun K hK => ?_) AllReadyH.nil
   obtain ⟨⟨q0, q1⟩, f0, f1⟩ := blkT2 HB6.out
   go_simp
   have HX7 : Hid (Ext W1 ((w6.setCell ⟨s, 0, none⟩ (.int .i64 0)).setCell ⟨s, 1, none⟩ (.slice none 0 0))) := (HX6.out.setCell (p := ⟨s, 0, none⟩) hs6 _).setCell (p := ⟨s, 1, none⟩) hs6 _
   have HB7 : Hid (Blk ((w6.setCell ⟨s, 0, none⟩ (.int .i64 0)).setCell ⟨s, 1, none⟩ (.slice none 0 0)) s 31 #[.int .i64 0, .slice none 0 0]) := (HB6.out.set_ 0 _).set_ 1 _
   refine hK.out _ _ (HK.out _ HX7.out) (fun hHeld => ?_)
   clear hK K
   (try simp only [Act.put, L1, L2, L3, L4, L5, L6])
   (refine tk 11 (v := ?_) ?_ ?_; rotate_left; · (intro w hSw; (try dsimp only at hSw); go_simp; all_goals with_reducible rfl))
   (try simp only [Act.put, L1, L2, L3, L4, L5, L6])
   (refine wpAnyH_done (by kernel_rfl) ?_ _)
   clear q0 q1 f0 f1 hHeld
   generalize (w6.setCell ⟨s, 0, none⟩ (.int .i64 0)).setCell ⟨s, 1, none⟩ (.slice none 0 0) = w7 at *
   clear HX6 HB6 hs6
   go_wp2
   exact bodyPost_end (v := .tuple #[]) (by kernel_rfl) rfl ⟨rfl, A, c, rs, L, len, cap, gs, HWK.out.ext HX7.out, by omega⟩
 | some rs' =>
  have HTL' : rs'.length = m := HTL.out rs' rfl
  refine wpAnyH_ready (rs := [5, 9]) (by kernel_rfl) (by simp) ?_
  refine AllReadyH.cons rfl (fun K hK => ?_) (AllReadyH.cons rfl (fun K hK => ?_) AllReadyH.nil)
  ·go_simp
   refine (HC.out _ (HX1.out.trans (Ext.refl W1).drew)).mono ?_
   rintro e v5 ⟨⟨v, rfl, A2, c2, rfl, hr2, hc2, hp2⟩, hy5⟩
   rw [HTL'] at hc2 ⊢
   have HY5 : Hid (Ext W1 v5) := Ext.trans (Ext.refl W1).drew hy5
   clear hy5
   have HR5 : Hid (Rd v5 v5.heap.size 4 A2 m (pcells rs') ∧ PB v5 A2) := ⟨by rw [← HTL']; exact hr2, hp2⟩
   clear hr2 hp2
   refine hK.out _ _ (HK.out _ HY5.out) (fun hHeld => ?_)
   clear hK K
   (try simp only [Act.put, L1, L2, L3, L4, L5, L6])
   (refine tk 6 (v := ?_) ?_ ?_; rotate_left; · (intro w hSw; (try dsimp only at hSw); go_simp; all_goals with_reducible rfl))
   (try simp only [Act.put, L1, L2, L3, L4, L5, L6])
   (refine tk 7 (v := ?_) ?_ ?_; rotate_left; · (intro w hSw; (try dsimp only at hSw); go_simp; all_goals with_reducible rfl))
   (try simp only [Act.put, L1, L2, L3, L4, L5, L6])
   (refine tk 8 (v := ?_) ?_ ?_; rotate_left; · (intro w hSw; (try dsimp only at hSw); go_simp; all_goals with_reducible rfl))
   (try simp only [Act.put, L1, L2, L3, L4, L5, L6])
   refine wpAnyH_ready (rs := [9]) (by kernel_rfl) (by simp) ?_
   refine AllReadyH.cons rfl (fun K hK => ?_) AllReadyH.nil
   go_simp
   have HX6 : Hid (Ext W1 (v5.alloc (.cells #[.int .i64 0, .slice none 0 0] 31))) := HY5.out.alloc _
   have HB6 : Hid (Blk (v5.alloc (.cells #[.int .i64 0, .slice none 0 0] 31)) v5.heap.size 31 #[.int .i64 0, .slice none 0 0]) := Blk.new _ _ _
   have hs6 : W1.heap.size ≤ v5.heap.size := HY5.out.size
   have HR6 : Hid (Rd (v5.alloc (.cells #[.int .i64 0, .slice none 0 0] 31)) (v5.alloc (.cells #[.int .i64 0, .slice none 0 0] 31)).heap.size 4 A2 m (pcells rs') ∧ PB (v5.alloc (.cells #[.int .i64 0, .slice none 0 0] 31)) A2) := ⟨HR5.out.1.ext ((Ext.refl v5).alloc _), HR5.out.2.ext ((Ext.refl v5).alloc _)⟩
   refine hK.out _ _ (HK.out _ HX6.out) (fun hHeld => ?_)
   clear hK K
   (try simp only [Act.put, L1, L2, L3, L4, L5, L6])
   generalize v5.alloc (.cells #[.int .i64 0, .slice none 0 0] 31) = w6 at *
   generalize v5.heap.size = s at *
   clear HY5
   refine wpAnyH_ready (rs := [10]) (by kernel_rfl) (by simp) ?_
   refine AllReadyH.cons rfl (fun K hK => ?_) AllReadyH.nil
   obtain ⟨⟨q0, q1⟩, f0, f1⟩ := blkT2 HB6.out
   go_simp
   have HX7 : Hid (Ext W1 ((w6.setCell ⟨s, 0, none⟩ (.int .i64 n)).setCell ⟨s, 1, none⟩ (.slice A2 m c2))) := (HX6.out.setCell (p := ⟨s, 0, none⟩) hs6 _).setCell (p := ⟨s, 1, none⟩) hs6 _
   have HB7 : Hid (Blk ((w6.setCell ⟨s, 0, none⟩ (.int .i64 n)).setCell ⟨s, 1, none⟩ (.slice A2 m c2)) s 31 #[.int .i64 n, .slice A2 m c2]) := (HB6.out.set_ 0 _).set_ 1 _
   have HR7 : Hid (Rd ((w6.setCell ⟨s, 0, none⟩ (.int .i64 n)).setCell ⟨s, 1, none⟩ (.slice A2 m c2)) ((w6.setCell ⟨s, 0, none⟩ (.int .i64 n)).setCell ⟨s, 1, none⟩ (.slice A2 m c2)).heap.size 4 A2 m (pcells rs') ∧ PB ((w6.setCell ⟨s, 0, none⟩ (.int .i64 n)).setCell ⟨s, 1, none⟩ (.slice A2 m c2)) A2) := rd_tab HR6.out.1 HR6.out.2 HB6.out _ _
   refine hK.out _ _ (HK.out _ HX7.out) (fun hHeld => ?_)
   clear hK K
   (try simp only [Act.put, L1, L2, L3, L4, L5, L6])
   (refine tk 11 (v := ?_) ?_ ?_; rotate_left; · (intro w hSw; (try dsimp only at hSw); go_simp; all_goals with_reducible rfl))
   (try simp only [Act.put, L1, L2, L3, L4, L5, L6])
   (refine wpAnyH_done (by kernel_rfl) ?_ _)
   clear q0 q1 f0 f1 hHeld
   generalize (w6.setCell ⟨s, 0, none⟩ (.int .i64 n)).setCell ⟨s, 1, none⟩ (.slice A2 m c2) = w7 at *
   clear HX6 HB6 hs6
   have HW7 := Lib.hid (HWK.out.ext HX7.out)
   obtain ⟨⟨p0, p1, p2⟩, g0', g1', g2'⟩ := blk3 HW7.out.b
   obtain ⟨⟨q0, q1⟩, -⟩ := blkT2 HB7.out
   go_upto_region 4 with (fail)
   have HW8 := Lib.hid (HW7.out.set HR7.out.1 HR7.out.2 HTL' hc2)
   have HG8 : Hid (Blk ((w7.setCell ⟨q, 0, none⟩ (.int .i64 n)).setCell ⟨q, 1, none⟩ (.slice A2 m c2)) g0 52 #[.int .i64 g.k, .int .i64 g.a, .int .i64 g.b, .int .i64 g.c]) := ((HGB.out.ext HX7.out).far (p := ⟨q, 0, none⟩) hgq _).far (p := ⟨q, 1, none⟩) hgq _
   clear p0 p1 p2 g0' g1' g2' q0 q1 HW7 HB7 HR7
   generalize (w7.setCell ⟨q, 0, none⟩ (.int .i64 n)).setCell ⟨q, 1, none⟩ (.slice A2 m c2) = w8 at *
   obtain ⟨⟨p0, p1, p2⟩, g0', g1', g2'⟩ := blk3 HW8.out.b
   obtain ⟨⟨x0, x1, x2, x3⟩, -⟩ := cells4 HG8.out
   have hq8 := HW8.out.b.lt
   have hg8 := HG8.out.lt
   go_wp2
   go_region_law (first
    | (refine stepG1 (B := q + 1) (by rfl) _ _ (by rfl) _ len gs (by rfl) (HW8.out.ext (Ext.refl w8).drew).o (by have := hq8; show q + 1 ≤ w8.heap.size; omega) g _ _ (by rfl) (by rfl) (by omega) ?_; intro A9 c9 w9 ho9 hg9 _; have HA := Lib.hid (WK.app (HW8.out.ext (Ext.refl w8).drew) ho9 hg9); have k4 : w9.cell? ⟨q, 2, none⟩ = some (.slice L len cap) := HA.out.1.cell 2; have g4 : w9.frozen? ⟨q, 2, none⟩ = false := HA.out.1.frozen 2))
   all_goals
    clear k4 g4
    go_wp2
    exact bodyPost_end (v := .tuple #[]) (by kernel_rfl) rfl ⟨rfl, _, _, _, _, _, _, _, HA.out.2, by omega⟩
  ·go_simp
   refine hK.out _ _ (HK.out _ ((Ext.refl W1).alloc _).drew) (fun hHeld => ?_)
   clear hK K
   (try simp only [Act.put, L1, L2, L3, L4, L5, L6])
   refine wpAnyH_ready (rs := [5]) (by kernel_rfl) (by simp) ?_
   refine AllReadyH.cons rfl (fun K hK => ?_) AllReadyH.nil
   go_simp
   refine (HC.out _ (HX1.out.trans ((Ext.refl W1).alloc _).drew)).mono ?_
   rintro e w6 ⟨⟨v, rfl, A2, c2, rfl, hr2, hc2, hp2⟩, hy5⟩
   rw [HTL'] at hc2 ⊢
   have HX6 : Hid (Ext W1 w6) := Ext.trans ((Ext.refl W1).alloc (.cells #[.int .i64 0, .slice none 0 0] 31)).drew hy5
   have HB6 : Hid (Blk w6 W1.heap.size 31 #[.int .i64 0, .slice none 0 0]) := ((Blk.new W1 31 #[.int .i64 0, .slice none 0 0]).ext ((Ext.refl _).drew)).ext hy5
   have hs6 : W1.heap.size ≤ W1.heap.size := Nat.le_refl _
   clear hy5
   have HR6 : Hid (Rd w6 w6.heap.size 4 A2 m (pcells rs') ∧ PB w6 A2) := ⟨by rw [← HTL']; exact hr2, hp2⟩
   clear hr2 hp2
   refine hK.out _ _ (HK.out _ HX6.out) (fun hHeld => ?_)
   clear hK K
   (try simp only [Act.put, L1, L2, L3, L4, L5, L6])
   (refine tk 6 (v := ?_) ?_ ?_; rotate_left; · (intro w hSw; (try dsimp only at hSw); go_simp; all_goals with_reducible rfl))
   (try simp only [Act.put, L1, L2, L3, L4, L5, L6])
   (refine tk 7 (v := ?_) ?_ ?_; rotate_left; · (intro w hSw; (try dsimp only at hSw); go_simp; all_goals with_reducible rfl))
   (try simp only [Act.put, L1, L2, L3, L4, L5, L6])
   (refine tk 8 (v := ?_) ?_ ?_; rotate_left; · (intro w hSw; (try dsimp only at hSw); go_simp; all_goals with_reducible rfl))
   (try simp only [Act.put, L1, L2, L3, L4, L5, L6])
   obtain ⟨s, hs⟩ : ∃ s, s = W1.heap.size := ⟨_, rfl⟩
   rw [← hs] at HB6 ⊢
   replace hs6 : W1.heap.size ≤ s := by rw [hs]; exact Nat.le_refl _
   clear hs
   refine wpAnyH_ready (rs := [10]) (by kernel_rfl) (by simp) ?_
   refine AllReadyH.cons rfl (fun K hK => ?_) AllReadyH.nil
   obtain ⟨⟨q0, q1⟩, f0, f1⟩ := blkT2 HB6.out
   go_simp
   have HX7 : Hid (Ext W1 ((w6.setCell ⟨s, 0, none⟩ (.int .i64 n)).setCell ⟨s, 1, none⟩ (.slice A2 m c2))) := (HX6.out.setCell (p := ⟨s, 0, none⟩) hs6 _).setCell (p := ⟨s, 1, none⟩) hs6 _
   have HB7 : Hid (Blk ((w6.setCell ⟨s, 0, none⟩ (.int .i64 n)).setCell ⟨s, 1, none⟩ (.slice A2 m c2)) s 31 #[.int .i64 n, .slice A2 m c2]) := (HB6.out.set_ 0 _).set_ 1 _
   have HR7 : Hid (Rd ((w6.setCell ⟨s, 0, none⟩ (.int .i64 n)).setCell ⟨s, 1, none⟩ (.slice A2 m c2)) ((w6.setCell ⟨s, 0, none⟩ (.int .i64 n)).setCell ⟨s, 1, none⟩ (.slice A2 m c2)).heap.size 4 A2 m (pcells rs') ∧ PB ((w6.setCell ⟨s, 0, none⟩ (.int .i64 n)).setCell ⟨s, 1, none⟩ (.slice A2 m c2)) A2) := rd_tab HR6.out.1 HR6.out.2 HB6.out _ _
   refine hK.out _ _ (HK.out _ HX7.out) (fun hHeld => ?_)
   clear hK K
   (try simp only [Act.put, L1, L2, L3, L4, L5, L6])
   (refine tk 11 (v := ?_) ?_ ?_; rotate_left; · (intro w hSw; (try dsimp only at hSw); go_simp; all_goals with_reducible rfl))
   (try simp only [Act.put, L1, L2, L3, L4, L5, L6])
   (refine wpAnyH_done (by kernel_rfl) ?_ _)
   clear q0 q1 f0 f1 hHeld
   generalize (w6.setCell ⟨s, 0, none⟩ (.int .i64 n)).setCell ⟨s, 1, none⟩ (.slice A2 m c2) = w7 at *
   clear HX6 HB6 hs6
   have HW7 := Lib.hid (HWK.out.ext HX7.out)
   obtain ⟨⟨p0, p1, p2⟩, g0', g1', g2'⟩ := blk3 HW7.out.b
   obtain ⟨⟨q0, q1⟩, -⟩ := blkT2 HB7.out
   go_upto_region 4 with (fail)
   have HW8 := Lib.hid (HW7.out.set HR7.out.1 HR7.out.2 HTL' hc2)
   have HG8 : Hid (Blk ((w7.setCell ⟨q, 0, none⟩ (.int .i64 n)).setCell ⟨q, 1, none⟩ (.slice A2 m c2)) g0 52 #[.int .i64 g.k, .int .i64 g.a, .int .i64 g.b, .int .i64 g.c]) := ((HGB.out.ext HX7.out).far (p := ⟨q, 0, none⟩) hgq _).far (p := ⟨q, 1, none⟩) hgq _
   clear p0 p1 p2 g0' g1' g2' q0 q1 HW7 HB7 HR7
   generalize (w7.setCell ⟨q, 0, none⟩ (.int .i64 n)).setCell ⟨q, 1, none⟩ (.slice A2 m c2) = w8 at *
   obtain ⟨⟨p0, p1, p2⟩, g0', g1', g2'⟩ := blk3 HW8.out.b
   obtain ⟨⟨x0, x1, x2, x3⟩, -⟩ := cells4 HG8.out
   have hq8 := HW8.out.b.lt
   have hg8 := HG8.out.lt
   go_wp2
   go_region_law (first
    | (refine stepG1 (B := q + 1) (by rfl) _ _ (by rfl) _ len gs (by rfl) (HW8.out.ext (Ext.refl w8).drew).o (by have := hq8; show q + 1 ≤ w8.heap.size; omega) g _ _ (by rfl) (by rfl) (by omega) ?_; intro A9 c9 w9 ho9 hg9 _; have HA := Lib.hid (WK.app (HW8.out.ext (Ext.refl w8).drew) ho9 hg9); have k4 : w9.cell? ⟨q, 2, none⟩ = some (.slice L len cap) := HA.out.1.cell 2; have g4 : w9.frozen? ⟨q, 2, none⟩ = false := HA.out.1.frozen 2))
   all_goals
    clear k4 g4
    go_wp2
    exact bodyPost_end (v := .tuple #[]) (by kernel_rfl) rfl ⟨rfl, _, _, _, _, _, _, _, HA.out.2, by omega⟩
set_option maxRecDepth 100000 in
set_option maxHeartbeats 8000000 in
theorem l28X_any (p : Pa) (k : Nat) (hk : k < 4) (w : World) : Calls Tryz.prog 94 #[p.val, .int .i64 k] w fun e w' => (∃ b, e = .returned (.bool b)) ∧ Ext w w' := by
 have hk0 : (0 : Int) ≤ (k : Int) := by omega
 have hk64 : IntKind.u64.wrap (k : Int) = (k : Int) := by rcases (show k = 0 ∨ k = 1 ∨ k = 2 ∨ k = 3 by omega) with rfl | rfl | rfl | rfl <;> rfl
 go_enter Tryz.func94, Tryz.ntmps94
 go_wp2
 go_ret
 exact ⟨⟨_, rfl⟩, by exact xx⟩
set_option maxRecDepth 100000 in
set_option maxHeartbeats 8000000 in
theorem l28Z_any (p : Pa) (k : Nat) (hk : k < 4) (w : World) : Calls Tryz.prog 95 #[p.val, .int .i64 k] w fun e w' => (∃ b, e = .returned (.bool b)) ∧ Ext w w' := by
 have hk0 : (0 : Int) ≤ (k : Int) := by omega
 have hk64 : IntKind.u64.wrap (k : Int) = (k : Int) := by rcases (show k = 0 ∨ k = 1 ∨ k = 2 ∨ k = 3 by omega) with rfl | rfl | rfl | rfl <;> rfl
 go_enter Tryz.func95, Tryz.ntmps95
 go_wp2
 go_ret
 exact ⟨⟨_, rfl⟩, by exact xx⟩
end Go.Proofs.YtioimnplhmgbgaaGreat
