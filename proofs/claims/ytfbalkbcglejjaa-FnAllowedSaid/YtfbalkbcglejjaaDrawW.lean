/-
  Helper text (no claim of its own): drawn gates beside a drawn graph. Printed by gen_draww.py.
-/
import Derived.Test.YtfbalkbcglejjaaDrawV
import Derived.Test.YtfbalkbcglejjaaDg
namespace Go.Proofs.Ytfbalkbcglejjaa
open Go.ChangeShapes Go.WideShapes Go.ChangeAt Go.RowKit Go.Deep
set_option linter.unusedVariables false
theorem graphgate_ne : (27 : Nat) ≠ 43 := by decide
theorem edgegate_ne : (79 : Nat) ≠ 43 := by decide
theorem blk_apart {w : World} {s T : Nat} {cs : Array Value} {B e size n : Nat} {v : Value} {xs : List Value} (h : Blk w s T cs) (ho : w.ownsRow B e size v n xs) (hne : T ≠ e) : ∀ k, v.ownBlock = some k → s ≠ k := by
  intro k hk e1
  subst e1
  rcases ho.2 with ⟨rfl, _⟩ | ⟨b', cap', cur', rfl, _, hc', _⟩
  · cases hk
  · injection hk with hk
    subst hk
    unfold Blk at h
    rw [h] at hc'
    injection hc' with hc'
    injection hc' with _ hc'
    exact hne hc'
section
variable {w0 w w' : World} {g q : Nat} {N N' : Int} {A A' : Option Addr} {l c l' c' : Nat} {es es' : List Ed} {L L' : Option Addr} {len cap cap' : Nat} {gs : List Gt}
/-- The graph's header is written anew. -/
theorem DG.fresh (h : DG w0 w g q N A l c es) (hg : w.grownBy w' (some g)) (hC : Cur w' g) (hs : g < q) (hl : g < w0.heap.size) (hq : w0.heap.size < q) (ho : w'.ownsRow w.heap.size 79 2 (.slice A' l' c') l' (ecells es')) (hok : ∀ e ∈ es', e.ok) :
    DG w0 ((w'.setCell ⟨q, 0, none⟩ (.int .i64 N')).setCell ⟨q, 1, none⟩ (.slice A' l' c')) g q N' A' l' c' es' := by
  have hlt := h.2.1.lt
  have hlw := h.1.lt
  obtain ⟨h1, h2, h3, h4, h5, h6, h7⟩ := h.grown hg hC hs hl
  refine ⟨(h1.far (p := ⟨q, 0, none⟩) (by simp; omega) _).far (p := ⟨q, 1, none⟩) (by simp; omega) _, h2.set2 _ _, own_base (own_set (own_set ho (p := ⟨q, 0, none⟩) hlt _) (p := ⟨q, 1, none⟩) hlt _) hlw, ?_, h5.set2 hs _ _, gr_set2 h6 (Nat.le_of_lt hq) _ _, hok⟩
  intro k hk
  have := (ho.lt k hk).1
  omega
/-- A row of gates is written. -/
theorem DG.rowG {B n : Nat} {v : Value} {xs : List Value} (h : DG w0 w g q N A l c es) (ho : w.ownsRow B 43 4 v n xs) (hB : w0.heap.size < B) (hl : g < w0.heap.size) (hg : w.grownBy w' v.ownBlock) : DG w0 w' g q N A l c es := by
  obtain ⟨h1, h2, h3, h4, h5, h6, h7⟩ := h
  have hlo : ∀ k, v.ownBlock = some k → B ≤ k := fun k hk => (ho.lt k hk).1
  exact ⟨h1.grown hg (blk_apart h1 ho graphgate_ne), h2.grown hg (blk_apart h2 ho graphgate_ne), own_other h3 ho edgegate_ne hg, h4, h5.grown hg (fun k hk => by have := hlo k hk; omega), gr_new h6 hg (fun k hk => by have := hlo k hk; omega), h7⟩
/-- Drawn gates and a drawn graph whose header lies in block q. -/
def LG (w0 w : World) (g q : Nat) (N : Int) (A : Option Addr) (l c : Nat) (es : List Ed) (L : Option Addr) (len cap : Nat) (gs : List Gt) : Prop :=
  DG w0 w g q N A l c es ∧ w.ownsRow (w0.heap.size + 1) 43 4 (.slice L len cap) len (gcells gs)
theorem LG.cur (h : LG w0 w g q N A l c es L len cap gs) : Cur w g := h.1.2.2.2.2.1
theorem LG.grown (h : LG w0 w g q N A l c es L len cap gs) (hg : w.grownBy w' (some g)) (hC : Cur w' g) (hs : g < q) (hl : g < w0.heap.size) : LG w0 w' g q N A l c es L len cap gs :=
  ⟨h.1.grown hg hC hs hl, own_kept h.2 hg (fun k hk => by injection hk; omega)⟩
theorem LG.fresh (h : LG w0 w g q N A l c es L len cap gs) (hg : w.grownBy w' (some g)) (hC : Cur w' g) (hs : g < q) (hl : g < w0.heap.size) (hq : w0.heap.size < q) (ho : w'.ownsRow w.heap.size 79 2 (.slice A' l' c') l' (ecells es')) (hok : ∀ e ∈ es', e.ok) :
    LG w0 ((w'.setCell ⟨q, 0, none⟩ (.int .i64 N')).setCell ⟨q, 1, none⟩ (.slice A' l' c')) g q N' A' l' c' es' L len cap gs := by
  refine ⟨h.1.fresh hg hC hs hl hq ho hok, ?_⟩
  have h2 := own_kept h.2 hg (fun k hk => by injection hk; omega)
  have hb := h.1.2.1.grown hg (fun k hk => by injection hk; omega)
  have ha := blk_apart hb h2 graphgate_ne
  have k1 := h2.kept (row := some q) (gr_setCell (World.grownBy.refl w' (some q)) 0 (.int .i64 N')) (by
    cases hv : (Value.slice L len cap).ownBlock with
    | none => exact .inl rfl
    | some k => exact .inr (fun e => ha k hv (by injection e with e; exact e.symm)))
  exact k1.kept (row := some q) (gr_setCell (World.grownBy.refl _ (some q)) 1 _) (by
    cases hv : (Value.slice L len cap).ownBlock with
    | none => exact .inl rfl
    | some k => exact .inr (fun e => ha k hv (by injection e with e; exact e.symm)))
theorem LG.app {y : Gt} (h : LG w0 w g q N A l c es L len cap gs) (hl : g < w0.heap.size) (ho : w'.ownsRow (w0.heap.size + 1) 43 4 (.slice L' (len + 1) cap') (len + 1) (gcells (gs ++ [y]))) (hg : w.grownBy w' (Value.slice L len cap).ownBlock) : LG w0 w' g q N A l c es L' (len + 1) cap' (gs ++ [y]) :=
  ⟨h.1.rowG h.2 (Nat.lt_succ_self _) hl hg, ho⟩
theorem LG.drew (h : LG w0 w g q N A l c es L len cap gs) : LG w0 w.drew g q N A l c es L len cap gs := ⟨h.1.drew, own_ext h.2 (Ext.refl w).drew⟩
theorem LG.fin (h : LG w0 w g q N A l c es L len cap gs) (hl : g < w0.heap.size) :
    (((w.setCell ⟨w0.heap.size, 0, none⟩ (.int .i64 N)).setCell ⟨w0.heap.size, 1, none⟩ (.slice A l c)).cell? ⟨w0.heap.size, 0, none⟩ = some (.int .i64 N) ∧ ((w.setCell ⟨w0.heap.size, 0, none⟩ (.int .i64 N)).setCell ⟨w0.heap.size, 1, none⟩ (.slice A l c)).cell? ⟨w0.heap.size, 1, none⟩ = some (.slice A l c)) ∧
    ((w.setCell ⟨w0.heap.size, 0, none⟩ (.int .i64 N)).setCell ⟨w0.heap.size, 1, none⟩ (.slice A l c)).ownsRow w0.heap.size 43 4 (.slice L len cap) len (gcells gs) ∧
    ((w.setCell ⟨w0.heap.size, 0, none⟩ (.int .i64 N)).setCell ⟨w0.heap.size, 1, none⟩ (.slice A l c)).ownsRow w0.heap.size 79 2 (.slice A l c) l (ecells es) ∧ Cur ((w.setCell ⟨w0.heap.size, 0, none⟩ (.int .i64 N)).setCell ⟨w0.heap.size, 1, none⟩ (.slice A l c)) g ∧ w0.grownBy ((w.setCell ⟨w0.heap.size, 0, none⟩ (.int .i64 N)).setCell ⟨w0.heap.size, 1, none⟩ (.slice A l c)) (some g) ∧ ∀ e ∈ es, e.ok := by
  have hb := h.1.1.set2 (.int .i64 N) (.slice A l c)
  obtain ⟨d1, d2, d3, d4⟩ := h.1.done hl
  exact ⟨⟨hb.cell 0, hb.cell 1⟩, own_base (own_set (own_set h.2 (p := ⟨w0.heap.size, 0, none⟩) (by simp) _) (p := ⟨w0.heap.size, 1, none⟩) (by simp) _) (by omega), d1, d2, d3, d4⟩
theorem LG.finD (h : LG w0 w g q N A l c es L len cap gs) (hl : g < w0.heap.size) :
    (((w.setCell ⟨w0.heap.size, 0, none⟩ (.int .i64 N)).setCell ⟨w0.heap.size, 1, none⟩ (.slice A l c)).drew.cell? ⟨w0.heap.size, 0, none⟩ = some (.int .i64 N) ∧ ((w.setCell ⟨w0.heap.size, 0, none⟩ (.int .i64 N)).setCell ⟨w0.heap.size, 1, none⟩ (.slice A l c)).drew.cell? ⟨w0.heap.size, 1, none⟩ = some (.slice A l c)) ∧
    ((w.setCell ⟨w0.heap.size, 0, none⟩ (.int .i64 N)).setCell ⟨w0.heap.size, 1, none⟩ (.slice A l c)).drew.ownsRow w0.heap.size 43 4 (.slice L len cap) len (gcells gs) ∧
    ((w.setCell ⟨w0.heap.size, 0, none⟩ (.int .i64 N)).setCell ⟨w0.heap.size, 1, none⟩ (.slice A l c)).drew.ownsRow w0.heap.size 79 2 (.slice A l c) l (ecells es) ∧ Cur ((w.setCell ⟨w0.heap.size, 0, none⟩ (.int .i64 N)).setCell ⟨w0.heap.size, 1, none⟩ (.slice A l c)).drew g ∧ w0.grownBy ((w.setCell ⟨w0.heap.size, 0, none⟩ (.int .i64 N)).setCell ⟨w0.heap.size, 1, none⟩ (.slice A l c)).drew (some g) ∧ ∀ e ∈ es, e.ok := by
  obtain ⟨⟨q0, q1⟩, e1, e2, e3, e4, e5⟩ := h.fin hl
  exact ⟨⟨q0, q1⟩, own_ext e1 (Ext.refl _).drew, own_ext e2 (Ext.refl _).drew, e3.ext (Ext.refl _).drew, gr_ext e4 (Ext.refl _).drew, e5⟩
end
theorem circField (a b : Value) (w : World) : (Instr.field 104 (.agg #[a, b]) 1).run Try.prog w = .ok b w := by kernel_rfl
/-- What a draw of gates and a graph hands back. -/
def DrewLG (w : World) (g most : Nat) (e : Ending) (w' : World) : Prop :=
  ∃ (L : Option Addr) (len cap : Nat) (gs : List Gt) (N : Int) (A : Option Addr) (l c : Nat) (es : List Ed), e = .returned (.tuple #[.slice L len cap, .agg #[.int .i64 N, .slice A l c]]) ∧ (-1 ≤ N ∧ N ≤ 5) ∧ len ≤ most ∧ l ≤ 8 ∧ w'.ownsRow w.heap.size 43 4 (.slice L len cap) len (gcells gs) ∧ w'.ownsRow w.heap.size 79 2 (.slice A l c) l (ecells es) ∧ Cur w' g ∧ w.grownBy w' (some g) ∧ ∀ e ∈ es, e.ok
theorem DrewLG.mk {w w' : World} {g most : Nat} (L : Option Addr) (len cap : Nat) (gs : List Gt) (N : Int) (A : Option Addr) (l c : Nat) (es : List Ed) (h1 : -1 ≤ N ∧ N ≤ 5) (h2 : len ≤ most) (h3 : l ≤ 8) (h4 : w'.ownsRow w.heap.size 43 4 (.slice L len cap) len (gcells gs) ∧ w'.ownsRow w.heap.size 79 2 (.slice A l c) l (ecells es) ∧ Cur w' g ∧ w.grownBy w' (some g) ∧ ∀ e ∈ es, e.ok) : DrewLG w g most (.returned (.tuple #[.slice L len cap, .agg #[.int .i64 N, .slice A l c]])) w' :=
  ⟨L, len, cap, gs, N, A, l, c, es, rfl, h1, h2, h3, h4⟩
set_option maxRecDepth 100000 in
set_option maxHeartbeats 16000000 in
theorem l37Args_any (g most : Nat) (hm : most ≤ 200) (w : World) (h : Cur w g) :
    Calls Try.prog 67 #[.pointer (some ⟨g, 0, none⟩), .int .i64 most] w (DrewLG w g (15 * most + 1)) := by
  have hgl := h.lt
  have hcf := circField
  go_enter Try.func67, Try.ntmps67
  go_wp2_with fail
  refine (l1Below_any g 4 _ (h.alloc _) (by omega)).mono ?_
  rintro e w2 ⟨x, rfl, ⟨hx0, hx1, _⟩, hC2, hG2⟩
  obtain ⟨n, rfl⟩ := Int.eq_ofNat_of_zero_le hx0
  have hx2 : n < 4 := by have := hx1 (by omega); omega
  clear hx1 hx0
  go_wp2_with fail
  obtain ⟨n1, e1, hb1, hb2⟩ : ∃ n1 : Nat, (1 : Int) + (n : Int) = (n1 : Int) ∧ 1 ≤ n1 ∧ n1 ≤ 4 := ⟨n + 1, by omega, by omega, by omega⟩
  rw [e1]
  clear e1
  refine (l36Right_any g n1 ⟨by omega, by omega⟩ _ hC2).mono ?_
  rintro e w3 ⟨N, A, l, c, es, rfl, rfl, hll, ho3, hC3, hG3, hok3⟩
  have hB2 := (Blk.new w 27 #[.int .i64 0, .slice none 0 0]).grown hG2 (fun k hk => by injection hk; omega)
  have hB3 := hB2.grown hG3 (fun k hk => by injection hk; omega)
  have hl2 := hB2.lt
  have hl3 := hB3.lt
  have hg3 : w.grownBy w3 (some g) := gr_trans (gr_trans (((Ext.refl w).alloc _).gr _) hG2) hG3
  have hD : DG w (w3.alloc (.cells #[.int .i64 n1, .slice A l c] 27)) g w3.heap.size n1 A l c es :=
    ⟨hB3.alloc _, Blk.new _ _ _, own_ext (own_base ho3 hl2) ((Ext.refl w3).alloc _), own_ne (own_base ho3 hl2) (Nat.le_refl _), hC3.alloc _, gr_alloc hg3 _, hok3⟩
  clear hB2 hB3 hG2 hG3 hg3 hC2 ho3
  go_wp2_with fail
  refine (l11Right_any g n1 most ⟨by omega, by omega⟩ hm _ (hC3.alloc _)).mono ?_
  rintro e w4 ⟨L, len, cap, gs, rfl, hlen, ho4, hC4, hG4⟩
  have hgs : g < w3.heap.size := by omega
  have hD4 := hD.grown hG4 hC4 hgs hgl
  have ho4' := own_base ho4 (show w.heap.size + 1 ≤ (w3.alloc (.cells #[.int .i64 n1, .slice A l c] 27)).heap.size from by simp; omega)
  have hgl4 := (Rd.own ho4).len Gt.cells_len (by omega)
  clear hD hG4 hC3 ho4 hok3
  generalize w3.heap.size = q at *
  have hws : w.heap.size < q := by omega
  go_wp2_with fail
  refine (spec_DecomposeGates_any L len cap gs _ (Rd.own ho4') (by omega)).mono ?_
  rintro e w5 ⟨v5, rfl, ho5, hx5⟩
  obtain ⟨L5, c5, rfl, _⟩ := own_slice ho5
  have hdl := decG_len gs
  have HL5 := Lib.hid (show LG w w5 g q n1 A l c es L5 (decG gs).length c5 (decG gs) from ⟨hD4.grown (hx5.gr _) (hC4.ext hx5) hgs hgl, own_base ho5 (Nat.succ_le_of_lt hD4.1.lt)⟩)
  clear hD4 ho4' ho5 hx5 hC4
  rw [hgl4] at hdl
  clear hgl4
  generalize decG gs = ds at *
  generalize ds.length = m5 at *
  go_wp2_with fail
  refine (l1Once_any g 12 _ HL5.out.cur (by omega)).mono ?_
  rintro e w6 ⟨f1, rfl, hC6, hG6⟩
  have HL6 := Lib.hid (HL5.out.grown hG6 hC6 hgs hgl)
  clear HL5 hG6
  cases f1
  case' false =>
    have HLa := HL6
    have hNa : -1 ≤ (n1 : Int) ∧ (n1 : Int) ≤ 5 := by omega
    have hla : l ≤ 8 := by omega
    clear HL6
  case' true =>
    go_wp2_with fail
    refine (l36Bent_any g _ hC6).mono ?_
    rintro e w7 ⟨N', A', l', c', es', rfl, hNa, hla, ho7, hC7, hG7, hok7⟩
    have HL7 := Lib.hid (HL6.out.grown hG7 hC7 hgs hgl)
    have hs7 := HL7.out.1.2.1.lt
    obtain ⟨⟨b0, b1⟩, z0, z1⟩ := blk2 HL7.out.1.2.1
    have HLa := Lib.hid (HL6.out.fresh (N' := N') hG7 hC7 hgs hgl hws ho7 hok7)
    clear HL6 HL7 ho7 hok7 hG7 hC6
  all_goals
    go_wp2_with fail
    refine (l1Once_any g 12 _ HLa.out.cur (by omega)).mono ?_
    rintro e w8 ⟨f2, rfl, hC8, hG8⟩
    have HL8 := Lib.hid (HLa.out.grown hG8 hC8 hgs hgl)
    clear HLa hG8
    (try clear b0 b1 z0 z1)
    cases f2
    case' false =>
      have HL := HL8
      have hlm : m5 ≤ 15 * most + 1 := by omega
      clear HL8
    case' true =>
      go_wp2_with fail
      refine (l9Bent_any g n1 ⟨by omega, by omega⟩ _ hC8).mono ?_
      rintro e w9 ⟨y, rfl, hC9, hG9⟩
      have HL9 := Lib.hid (HL8.out.grown hG9 hC9 hgs hgl)
      have hw9 := HL9.out.1.1.lt
      clear HL8 hG9 hC8
      go_upto_region 8 with (at_builtin; refine appG1 (B := w.heap.size + 1) rfl _ _ rfl _ m5 ds rfl HL9.out.2 (by omega) y _ _ rfl rfl (by omega) ?_; intro L9 cap9 w10 ho10 hg10 _; have HL := Lib.hid (HL9.out.app hgl ho10 hg10); clear ho10 hg10 HL9)
      have hlm : m5 + 1 ≤ 15 * most + 1 := by omega
    all_goals
      have hq8 := HL.out.1.2.1.lt
      have hw8 := HL.out.1.1.lt
      obtain ⟨⟨b0, b1⟩, z0, z1⟩ := blk2 HL.out.1.2.1
      obtain ⟨⟨a0, a1⟩, y0, y1⟩ := blk2 HL.out.1.1
      (try go_wp2)
      refine wp_region_held_drew (S := fun W => W.cell? ⟨q, 0, none⟩ = some _ ∧ W.cell? ⟨q, 1, none⟩ = some _) (by kernel_rfl) ⟨HL.out.drew.1.2.1.cell 0, HL.out.drew.1.2.1.cell 1⟩ (fun hHeld => ?_)
      (refine wpAnyH_take (i := 0) (v := ?_) rfl (by kernel_rfl) (by kernel_rfl) (by kernel_rfl) (fun _ _ _ h => h) (Or.inl ⟨by rfl, ?_⟩) (by assumption) ?_; rotate_left; · (intro w hSw; (try dsimp only at hSw); go_simp; all_goals with_reducible rfl); (try simp only [Act.put, List.getElem_toArray, List.getElem_cons_zero, List.getElem_cons_succ, List.setIfInBounds_toArray, List.set_cons_zero, List.set_cons_succ]))
      (try simp only [Act.put, List.getElem_toArray, List.getElem_cons_zero, List.getElem_cons_succ, List.setIfInBounds_toArray, List.set_cons_zero, List.set_cons_succ])
      (refine wpAnyH_take (i := 1) (v := ?_) rfl (by kernel_rfl) (by kernel_rfl) (by kernel_rfl) (fun _ _ _ h => h) (Or.inl ⟨by rfl, ?_⟩) (by assumption) ?_; rotate_left; · (intro w hSw; (try dsimp only at hSw); go_simp; all_goals with_reducible rfl); (try simp only [Act.put, List.getElem_toArray, List.getElem_cons_zero, List.getElem_cons_succ, List.setIfInBounds_toArray, List.set_cons_zero, List.set_cons_succ]))
      (try simp only [Act.put, List.getElem_toArray, List.getElem_cons_zero, List.getElem_cons_succ, List.setIfInBounds_toArray, List.set_cons_zero, List.set_cons_succ])
      (refine wpAnyH_take (i := 2) (v := ?_) rfl (by kernel_rfl) (by kernel_rfl) (by kernel_rfl) (fun _ _ _ h => h) (Or.inl ⟨by rfl, ?_⟩) (by assumption) ?_; rotate_left; · (intro w hSw; (try dsimp only at hSw); go_simp; all_goals with_reducible rfl); (try simp only [Act.put, List.getElem_toArray, List.getElem_cons_zero, List.getElem_cons_succ, List.setIfInBounds_toArray, List.set_cons_zero, List.set_cons_succ]))
      (try simp only [Act.put, List.getElem_toArray, List.getElem_cons_zero, List.getElem_cons_succ, List.setIfInBounds_toArray, List.set_cons_zero, List.set_cons_succ])
      refine wpAnyH_ready (rs := [3]) (by kernel_rfl) (by simp) ?_
      refine AllReadyH.cons rfl (fun K hK => ?_) AllReadyH.nil
      go_simp
      have hne : q ≠ w.heap.size := by omega
      refine hK.out _ _ ⟨((HL.out.drew.1.2.1.far (p := ⟨w.heap.size, 0, none⟩) hne _).far (p := ⟨w.heap.size, 1, none⟩) hne _).cell 0, ((HL.out.drew.1.2.1.far (p := ⟨w.heap.size, 0, none⟩) hne _).far (p := ⟨w.heap.size, 1, none⟩) hne _).cell 1⟩ (fun hHeld => ?_)
      clear hK K
      (try simp only [Act.put, List.getElem_toArray, List.getElem_cons_zero, List.getElem_cons_succ, List.setIfInBounds_toArray, List.set_cons_zero, List.set_cons_succ])
      (refine wpAnyH_done (by kernel_rfl) ?_ _)
      clear hHeld a0 a1 y0 y1 b0 b1 z0 z1
      obtain ⟨⟨q0, q1⟩, e1, e2, e3, e4, e5⟩ := HL.out.finD hgl
      go_wp2
      exact bodyPost_ret (v := .tuple #[.slice _ _ _, .agg #[.int .i64 _, .slice _ _ _]]) (by simp [results, Try.results67, go_sem, q0, q1]) rfl (DrewLG.mk _ _ _ _ _ _ _ _ _ hNa hlm hla ⟨e1, e2, e3, e4, e5⟩)
end Go.Proofs.Ytfbalkbcglejjaa
