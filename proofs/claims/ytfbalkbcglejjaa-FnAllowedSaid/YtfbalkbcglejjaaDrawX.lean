/-
  Helper text (no claim of its own): drawn gates, graphs and layouts of the laws on routing. Printed by gen_drawx.py.
-/
import Derived.Test.YtfbalkbcglejjaaDrawW
import Derived.Test.YtfbalkbcglejjaaOrt
namespace Go.Proofs.Ytfbalkbcglejjaa
open Go.ChangeShapes Go.WideShapes Go.ChangeAt Go.RowKit Go.Deep
set_option linter.unusedVariables false
set_option linter.unusedSimpArgs false
theorem graphint_ne : (27 : Nat) ≠ 3 := by decide
theorem graphedge_ne : (27 : Nat) ≠ 79 := by decide
theorem curgate_ne : (72 : Nat) ≠ 43 := by decide
theorem curedge_ne : (72 : Nat) ≠ 79 := by decide
theorem curint_ne : (72 : Nat) ≠ 3 := by decide
theorem own_setB {w : World} {r T i : Nat} {cs : Array Value} {B e size n : Nat} {v : Value} {xs : List Value} (ho : w.ownsRow B e size v n xs) (h : Blk w r T cs) (hne : T ≠ e) (u : Value) : (w.setCell ⟨r, i, none⟩ u).ownsRow B e size v n xs := by
  refine ho.kept (row := some r) (gr_setCell (World.grownBy.refl w (some r)) i u) ?_
  cases hv : v.ownBlock with
  | none => exact .inl rfl
  | some k => exact .inr (fun e1 => blk_apart h ho hne k hv (by injection e1 with e1; exact e1.symm))
theorem own_setB2 {w : World} {r T : Nat} {z0 z1 : Value} {B e size n : Nat} {v : Value} {xs : List Value} (ho : w.ownsRow B e size v n xs) (h : Blk w r T #[z0, z1]) (hne : T ≠ e) (a b : Value) : ((w.setCell ⟨r, 0, none⟩ a).setCell ⟨r, 1, none⟩ b).ownsRow B e size v n xs :=
  own_setB (own_setB ho h hne a) (h.set_ 0 a) hne b
/-- A row is kept where the cursor alone moves. -/
theorem own_cur {w w' : World} {g : Nat} {B e size n : Nat} {v : Value} {xs : List Value} (ho : w.ownsRow B e size v n xs) (hC : Cur w g) (hne : (72 : Nat) ≠ e) (hg : w.grownBy w' (some g)) : w'.ownsRow B e size v n xs := by
  obtain ⟨A, m, c, i, hh, bs, hB, _⟩ := hC
  refine ho.kept hg ?_
  cases hv : v.ownBlock with
  | none => exact .inl rfl
  | some k => exact .inr (fun e1 => blk_apart hB ho hne k hv (by injection e1 with e1; exact e1.symm))
/-- A result cell r and a graph's header q. -/
def TG (w W : World) (r q : Nat) (N : Int) (A : Option Addr) (l c : Nat) (es : List Ed) : Prop :=
  Ext w W ∧ Blk W r 27 #[.int .i64 0, .slice none 0 0] ∧ Blk W q 27 #[.int .i64 N, .slice A l c] ∧ W.ownsRow w.heap.size 79 2 (.slice A l c) l (ecells es) ∧ w.heap.size ≤ r ∧ q ≠ r
section
variable {w W W' : World} {r q g : Nat} {N : Int} {A : Option Addr} {l c : Nat} {es : List Ed}
theorem TG.ext (h : TG w W r q N A l c es) (hx : Ext W W') : TG w W' r q N A l c es := by
  obtain ⟨h1, h2, h3, h4, h5, h6⟩ := h
  exact ⟨h1.trans hx, h2.ext hx, h3.ext hx, own_ext h4 hx, h5, h6⟩
theorem TG.grown (h : TG w W r q N A l c es) (hC : Cur W g) (hg : W.grownBy W' (some g)) (hw : w.heap.size ≤ g) (hr : r ≠ g) (hq : q ≠ g) : TG w W' r q N A l c es := by
  obtain ⟨h1, h2, h3, h4, h5, h6⟩ := h
  exact ⟨h1.grown hg (fun k hk => by injection hk; omega), h2.grown hg (fun k hk => by injection hk; omega), h3.grown hg (fun k hk => by injection hk; omega), own_cur h4 hC curedge_ne hg, h5, h6⟩
theorem TG.gr (h : TG w W r q N A l c es) : GrAt W W.heap.size (.agg #[.int .i64 N, .slice A l c]) ⟨N, es⟩ ∧ es.length = l := by
  have hr := Rd.own h.2.2.2.1
  have hl := Rd.len (f := Ed.cells) (fun _ => by simp [Ed.cells]) (by omega) hr
  subst hl
  exact ⟨⟨A, c, rfl, hr⟩, rfl⟩
theorem TG.fin (h : TG w W r q N A l c es) :
    (((W.setCell ⟨r, 0, none⟩ (.int .i64 N)).setCell ⟨r, 1, none⟩ (.slice A l c)).drew.cell? ⟨r, 0, none⟩ = some (.int .i64 N) ∧ ((W.setCell ⟨r, 0, none⟩ (.int .i64 N)).setCell ⟨r, 1, none⟩ (.slice A l c)).drew.cell? ⟨r, 1, none⟩ = some (.slice A l c)) ∧
    ((W.setCell ⟨r, 0, none⟩ (.int .i64 N)).setCell ⟨r, 1, none⟩ (.slice A l c)).drew.ownsRow w.heap.size 79 2 (.slice A l c) l (ecells es) ∧ Ext w ((W.setCell ⟨r, 0, none⟩ (.int .i64 N)).setCell ⟨r, 1, none⟩ (.slice A l c)).drew := by
  obtain ⟨h1, h2, h3, h4, h5, h6⟩ := h
  have hb := h2.set2 (.int .i64 N) (.slice A l c)
  exact ⟨⟨hb.cell 0, hb.cell 1⟩, own_ext (own_setB2 h4 h2 graphedge_ne _ _) (Ext.refl _).drew, ((h1.setCell h5 _).setCell h5 _).drew⟩
/-- The graph's header behind the writing of the result cell. -/
theorem TG.keep (h : TG w W r q N A l c es) : ((W.setCell ⟨r, 0, none⟩ (.int .i64 N)).setCell ⟨r, 1, none⟩ (.slice A l c)).drew.cell? ⟨q, 0, none⟩ = some (.int .i64 N) ∧ ((W.setCell ⟨r, 0, none⟩ (.int .i64 N)).setCell ⟨r, 1, none⟩ (.slice A l c)).drew.cell? ⟨q, 1, none⟩ = some (.slice A l c) := by
  obtain ⟨h1, h2, h3, h4, h5, h6⟩ := h
  have := (h3.far (p := ⟨r, 0, none⟩) h6 (.int .i64 N)).far (p := ⟨r, 1, none⟩) h6 (.slice A l c)
  exact ⟨this.cell 0, this.cell 1⟩
theorem TG.rows (h : TG w W r q N A l c es) {B e size n : Nat} {v : Value} {xs : List Value} (ho : W.ownsRow B e size v n xs) (hne : (27 : Nat) ≠ e) : ((W.setCell ⟨r, 0, none⟩ (.int .i64 N)).setCell ⟨r, 1, none⟩ (.slice A l c)).drew.ownsRow B e size v n xs :=
  own_ext (own_setB2 ho h.2.1 hne _ _) (Ext.refl _).drew
theorem TG.fin0 (h : TG w W r q N A l c es) :
    (((W.setCell ⟨r, 0, none⟩ (.int .i64 N)).setCell ⟨r, 1, none⟩ (.slice A l c)).cell? ⟨r, 0, none⟩ = some (.int .i64 N) ∧ ((W.setCell ⟨r, 0, none⟩ (.int .i64 N)).setCell ⟨r, 1, none⟩ (.slice A l c)).cell? ⟨r, 1, none⟩ = some (.slice A l c)) ∧
    ((W.setCell ⟨r, 0, none⟩ (.int .i64 N)).setCell ⟨r, 1, none⟩ (.slice A l c)).ownsRow w.heap.size 79 2 (.slice A l c) l (ecells es) ∧ Ext w ((W.setCell ⟨r, 0, none⟩ (.int .i64 N)).setCell ⟨r, 1, none⟩ (.slice A l c)) := by
  obtain ⟨h1, h2, h3, h4, h5, h6⟩ := h
  have hb := h2.set2 (.int .i64 N) (.slice A l c)
  exact ⟨⟨hb.cell 0, hb.cell 1⟩, own_setB2 h4 h2 graphedge_ne _ _, (h1.setCell h5 _).setCell h5 _⟩
theorem TG.keep0 (h : TG w W r q N A l c es) : ((W.setCell ⟨r, 0, none⟩ (.int .i64 N)).setCell ⟨r, 1, none⟩ (.slice A l c)).cell? ⟨q, 0, none⟩ = some (.int .i64 N) ∧ ((W.setCell ⟨r, 0, none⟩ (.int .i64 N)).setCell ⟨r, 1, none⟩ (.slice A l c)).cell? ⟨q, 1, none⟩ = some (.slice A l c) := by
  obtain ⟨h1, h2, h3, h4, h5, h6⟩ := h
  have := (h3.far (p := ⟨r, 0, none⟩) h6 (.int .i64 N)).far (p := ⟨r, 1, none⟩) h6 (.slice A l c)
  exact ⟨this.cell 0, this.cell 1⟩
theorem TG.rows0 (h : TG w W r q N A l c es) {B e size n : Nat} {v : Value} {xs : List Value} (ho : W.ownsRow B e size v n xs) (hne : (27 : Nat) ≠ e) : ((W.setCell ⟨r, 0, none⟩ (.int .i64 N)).setCell ⟨r, 1, none⟩ (.slice A l c)).ownsRow B e size v n xs :=
  own_setB2 ho h.2.1 hne _ _
end
/-- What a law's draw of gates and a graph hands back. -/
def DrewTG (w : World) (most : Nat) (e : Ending) (w' : World) : Prop :=
  ∃ (L : Option Addr) (len cap : Nat) (gs : List Gt) (N : Int) (A : Option Addr) (l c : Nat) (es : List Ed), e = .returned (.tuple #[.slice L len cap, .agg #[.int .i64 N, .slice A l c]]) ∧ (-1 ≤ N ∧ N ≤ 5) ∧ len ≤ most ∧ l ≤ 8 ∧ w'.ownsRow w.heap.size 43 4 (.slice L len cap) len (gcells gs) ∧ w'.ownsRow w.heap.size 79 2 (.slice A l c) l (ecells es) ∧ (∀ e ∈ es, e.ok) ∧ Ext w w'
theorem DrewTG.mk {w w' : World} {most : Nat} (L : Option Addr) (len cap : Nat) (gs : List Gt) (N : Int) (A : Option Addr) (l c : Nat) (es : List Ed) (h1 : -1 ≤ N ∧ N ≤ 5) (h2 : len ≤ most) (h3 : l ≤ 8) (h4 : w'.ownsRow w.heap.size 43 4 (.slice L len cap) len (gcells gs)) (h5 : w'.ownsRow w.heap.size 79 2 (.slice A l c) l (ecells es)) (h6 : ∀ e ∈ es, e.ok) (h7 : Ext w w') : DrewTG w most (.returned (.tuple #[.slice L len cap, .agg #[.int .i64 N, .slice A l c]])) w' :=
  ⟨L, len, cap, gs, N, A, l, c, es, rfl, h1, h2, h3, h4, h5, h6, h7⟩
/-- And of a layout. -/
def DrewTP (w : World) (most : Nat) (e : Ending) (w' : World) : Prop :=
  ∃ (L : Option Addr) (len cap : Nat) (gs : List Gt) (N : Int) (A : Option Addr) (l c : Nat) (es : List Ed) (P : Option Addr) (np cp : Nat) (p : List Int), e = .returned (.tuple #[.slice L len cap, .agg #[.int .i64 N, .slice A l c], .slice P np cp]) ∧ (-1 ≤ N ∧ N ≤ 5) ∧ len ≤ most ∧ l ≤ 8 ∧ np ≤ 5 ∧ w'.ownsRow w.heap.size 43 4 (.slice L len cap) len (gcells gs) ∧ w'.ownsRow w.heap.size 79 2 (.slice A l c) l (ecells es) ∧ w'.ownsRow w.heap.size 3 1 (.slice P np cp) np (icells p) ∧ (∀ e ∈ es, e.ok) ∧ Ext w w'
theorem DrewTP.mk {w w' : World} {most : Nat} (L : Option Addr) (len cap : Nat) (gs : List Gt) (N : Int) (A : Option Addr) (l c : Nat) (es : List Ed) (P : Option Addr) (np cp : Nat) (p : List Int) (h1 : -1 ≤ N ∧ N ≤ 5) (h2 : len ≤ most) (h3 : l ≤ 8) (h33 : np ≤ 5) (h4 : w'.ownsRow w.heap.size 43 4 (.slice L len cap) len (gcells gs)) (h5 : w'.ownsRow w.heap.size 79 2 (.slice A l c) l (ecells es)) (h55 : w'.ownsRow w.heap.size 3 1 (.slice P np cp) np (icells p)) (h6 : ∀ e ∈ es, e.ok) (h7 : Ext w w') : DrewTP w most (.returned (.tuple #[.slice L len cap, .agg #[.int .i64 N, .slice A l c], .slice P np cp])) w' :=
  ⟨L, len, cap, gs, N, A, l, c, es, P, np, cp, p, rfl, h1, h2, h3, h33, h4, h5, h55, h6, h7⟩
set_option maxRecDepth 100000 in
set_option maxHeartbeats 16000000 in
theorem DrawLayoutCost_any (Ab : Option Addr) (nb cb : Nat) (bs : List Int) (w : World) (h : Rd w w.heap.size 1 Ab nb (u8cs bs)) (hn : nb ≤ 1048576) :
    Calls Try.prog 44 #[.slice Ab nb cb] w (DrewTP w 91) := by
  go_enter Try.func44, Try.ntmps44
  go_wp2_with fail
  refine (l1New_any Ab nb cb bs _ (h.ext ((Ext.refl w).alloc _)) hn).mono ?_
  rintro e w1 ⟨rfl, hC1, hx1⟩
  have hB1 := (Blk.new w 27 #[.int .i64 0, .slice none 0 0]).ext hx1
  have hX1 : Ext w w1 := Ext.trans ((Ext.refl w).alloc _) hx1
  obtain ⟨g, hg⟩ : ∃ g, g = (w.alloc (.cells #[.int .i64 0, .slice none 0 0] 27)).heap.size := ⟨_, rfl⟩
  have hgr : g = w.heap.size + 1 := by rw [hg]; simp
  simp only [← hg] at hC1 ⊢
  have hgw : w.heap.size < g := by omega
  have HGR := Lib.hid hgr
  clear hg hgr hx1
  have hl1 := hC1.lt
  (try rw [← HGR.out])
  go_wp2_with fail
  refine (l37Args_any g 6 (by omega) _ hC1).mono ?_
  rintro e w2 ⟨L, len, cap, gs, N, A, l, c, es, rfl, hN, hlen, hll, hog, hoe, hC2, hG2, hok⟩
  have HHOK := Lib.hid hok
  have hB2 := hB1.grown hG2 (fun k hk => by injection hk; omega)
  have hl2 := hB2.lt
  have hX2 : Ext w w2 := hX1.grown hG2 (fun k hk => by injection hk; omega)
  have hw12 : w.heap.size ≤ w1.heap.size := hX1.size
  have hT3 : TG w (w2.alloc (.cells #[.int .i64 N, .slice A l c] 27)) w.heap.size w2.heap.size N A l c es :=
    ⟨hX2.alloc _, hB2.alloc _, Blk.new _ _ _, own_ext (own_base hoe hw12) ((Ext.refl w2).alloc _), Nat.le_refl _, by omega⟩
  have hog3 := own_ext (own_base hog hw12) ((Ext.refl w2).alloc (.cells #[.int .i64 N, .slice A l c] 27))
  have hC3 := hC2.alloc (.cells #[.int .i64 N, .slice A l c] 27)
  have hg2 := hC2.lt
  clear hok hB1 hX1 hl1 hC1 hG2 hoe hog hB2 hX2 hC2
  go_upto_region 3 with (fail)
  generalize (w2.alloc (.cells #[.int .i64 N, .slice A l c] 27)) = w3 at *
  generalize w2.heap.size = q at *
  have HT3 := Lib.hid hT3
  have HO3 := Lib.hid hog3
  obtain ⟨⟨b0, b1⟩, z0, z1⟩ := blk2 hT3.2.2.1
  clear hT3 hog3
  by_cases hin : 1 ≤ N ∧ N ≤ 4
  · obtain ⟨hi1, hi4⟩ := hin
    obtain ⟨n1, rfl⟩ := Int.eq_ofNat_of_zero_le (by omega : 0 ≤ N)
    go_wp2_with fail
    refine (l1In_yes _ _ _ _ hi1 hi4).mono ?_
    rintro e w' ⟨rfl, rfl⟩
    go_wp2_with fail
    refine (l1Once_any g 8 _ hC3 (by omega)).mono ?_
    rintro e w4 ⟨f, rfl, hC4, hG4⟩
    have HT4 := Lib.hid (HT3.out.grown hC3 hG4 (by omega) (by omega) (by omega))
    have HO4 := Lib.hid (own_cur HO3.out hC3 curgate_ne hG4)
    clear HT3 HO3 hC3 hG4 b0 b1 z0 z1
    obtain ⟨⟨b0, b1⟩, z0, z1⟩ := blk2 HT4.out.2.2.1
    obtain ⟨⟨a0, a1⟩, y0, y1⟩ := blk2 HT4.out.2.1
    cases f
    · go_wp2
      refine wp_region_held_drew (S := fun W => W.cell? ⟨q, 0, none⟩ = some (.int .i64 n1) ∧ W.cell? ⟨q, 1, none⟩ = some (.slice A l c)) (by kernel_rfl) ⟨HT4.out.2.2.1.cell 0, HT4.out.2.2.1.cell 1⟩ (fun hHeld => ?_)
      (refine wpAnyH_take (i := 0) (v := ?_) rfl (by kernel_rfl) (by kernel_rfl) (by kernel_rfl) (fun _ _ _ h => h) (Or.inl ⟨by rfl, ?_⟩) (by assumption) ?_; rotate_left; · (intro w hSw; (try dsimp only at hSw); go_simp; all_goals with_reducible rfl); (try simp only [Act.put, List.getElem_toArray, List.getElem_cons_zero, List.getElem_cons_succ, List.setIfInBounds_toArray, List.set_cons_zero, List.set_cons_succ]))
      (try simp only [Act.put, List.getElem_toArray, List.getElem_cons_zero, List.getElem_cons_succ, List.setIfInBounds_toArray, List.set_cons_zero, List.set_cons_succ])
      (refine wpAnyH_take (i := 1) (v := ?_) rfl (by kernel_rfl) (by kernel_rfl) (by kernel_rfl) (fun _ _ _ h => h) (Or.inl ⟨by rfl, ?_⟩) (by assumption) ?_; rotate_left; · (intro w hSw; (try dsimp only at hSw); go_simp; all_goals with_reducible rfl); (try simp only [Act.put, List.getElem_toArray, List.getElem_cons_zero, List.getElem_cons_succ, List.setIfInBounds_toArray, List.set_cons_zero, List.set_cons_succ]))
      (try simp only [Act.put, List.getElem_toArray, List.getElem_cons_zero, List.getElem_cons_succ, List.setIfInBounds_toArray, List.set_cons_zero, List.set_cons_succ])
      (refine wpAnyH_take (i := 2) (v := ?_) rfl (by kernel_rfl) (by kernel_rfl) (by kernel_rfl) (fun _ _ _ h => h) (Or.inl ⟨by rfl, ?_⟩) (by assumption) ?_; rotate_left; · (intro w hSw; (try dsimp only at hSw); go_simp; all_goals with_reducible rfl); (try simp only [Act.put, List.getElem_toArray, List.getElem_cons_zero, List.getElem_cons_succ, List.setIfInBounds_toArray, List.set_cons_zero, List.set_cons_succ]))
      (try simp only [Act.put, List.getElem_toArray, List.getElem_cons_zero, List.getElem_cons_succ, List.setIfInBounds_toArray, List.set_cons_zero, List.set_cons_succ])
      (refine wpAnyH_take (i := 3) (v := ?_) rfl (by kernel_rfl) (by kernel_rfl) (by kernel_rfl) (fun _ _ _ h => h) (Or.inl ⟨by rfl, ?_⟩) (by assumption) ?_; rotate_left; · (intro w hSw; (try dsimp only at hSw); go_simp; all_goals with_reducible rfl); (try simp only [Act.put, List.getElem_toArray, List.getElem_cons_zero, List.getElem_cons_succ, List.setIfInBounds_toArray, List.set_cons_zero, List.set_cons_succ]))
      (try simp only [Act.put, List.getElem_toArray, List.getElem_cons_zero, List.getElem_cons_succ, List.setIfInBounds_toArray, List.set_cons_zero, List.set_cons_succ])
      (refine wpAnyH_take (i := 4) (v := ?_) rfl (by kernel_rfl) (by kernel_rfl) (by kernel_rfl) (fun _ _ _ h => h) (Or.inl ⟨by rfl, ?_⟩) (by assumption) ?_; rotate_left; · (intro w hSw; (try dsimp only at hSw); go_simp; all_goals with_reducible rfl); (try simp only [Act.put, List.getElem_toArray, List.getElem_cons_zero, List.getElem_cons_succ, List.setIfInBounds_toArray, List.set_cons_zero, List.set_cons_succ]))
      (try simp only [Act.put, List.getElem_toArray, List.getElem_cons_zero, List.getElem_cons_succ, List.setIfInBounds_toArray, List.set_cons_zero, List.set_cons_succ])
      refine wpAnyH_ready (rs := [5]) (by kernel_rfl) (by simp) ?_
      refine AllReadyH.cons rfl (fun K hK => ?_) AllReadyH.nil
      go_simp
      refine (l8Perm_any g n1 ⟨by omega, by omega⟩ _ (hC4.ext (Ext.refl _).drew)).mono ?_
      rintro e w5 ⟨b, c5, rfl, hb5, hI5, hC5, hG5⟩
      have HT5 := Lib.hid ((HT4.out.ext (Ext.refl _).drew).grown (hC4.ext (Ext.refl _).drew) hG5 (by omega) (by omega) (by omega))
      have HO5 := Lib.hid (own_cur (own_ext HO4.out (Ext.refl _).drew) (hC4.ext (Ext.refl _).drew) curgate_ne hG5)
      have hlp : n1 ≤ 5 := by omega
      have hwb : w.heap.size ≤ b := by have := HT4.out.1.size; simp only [World.drew] at hb5; omega
      obtain ⟨ps, _, hop⟩ := hI5.own hwb
      have HP5 := Lib.hid hop
      clear hop hI5 hG5 hC5 hb5 hwb
      refine hK.out _ _ ⟨HT5.out.2.2.1.cell 0, HT5.out.2.2.1.cell 1⟩ (fun hHeld => ?_)
      clear hK K
      (try simp only [Act.put, List.getElem_toArray, List.getElem_cons_zero, List.getElem_cons_succ, List.setIfInBounds_toArray, List.set_cons_zero, List.set_cons_succ])
      clear a0 a1 y0 y1 b0 b1 z0 z1
      obtain ⟨⟨b0, b1⟩, z0, z1⟩ := blk2 HT5.out.2.2.1
      obtain ⟨⟨a0, a1⟩, y0, y1⟩ := blk2 HT5.out.2.1
      (refine wpAnyH_take (i := 6) (v := ?_) rfl (by kernel_rfl) (by kernel_rfl) (by kernel_rfl) (fun _ _ _ h => h) (Or.inl ⟨by rfl, ?_⟩) (by assumption) ?_; rotate_left; · (intro w hSw; (try dsimp only at hSw); go_simp; all_goals with_reducible rfl); (try simp only [Act.put, List.getElem_toArray, List.getElem_cons_zero, List.getElem_cons_succ, List.setIfInBounds_toArray, List.set_cons_zero, List.set_cons_succ]))
      (try simp only [Act.put, List.getElem_toArray, List.getElem_cons_zero, List.getElem_cons_succ, List.setIfInBounds_toArray, List.set_cons_zero, List.set_cons_succ])
      refine wpAnyH_ready (rs := [7]) (by kernel_rfl) (by simp) ?_
      refine AllReadyH.cons rfl (fun K hK => ?_) AllReadyH.nil
      go_simp
      refine hK.out _ _ HT5.out.keep0 (fun hHeld => ?_)
      clear hK K
      (try simp only [Act.put, List.getElem_toArray, List.getElem_cons_zero, List.getElem_cons_succ, List.setIfInBounds_toArray, List.set_cons_zero, List.set_cons_succ])
      (refine wpAnyH_take (i := 8) (v := ?_) rfl (by kernel_rfl) (by kernel_rfl) (by kernel_rfl) (fun _ _ _ h => h) (Or.inl ⟨by rfl, ?_⟩) (by assumption) ?_; rotate_left; · (intro w hSw; (try dsimp only at hSw); go_simp; all_goals with_reducible rfl); (try simp only [Act.put, List.getElem_toArray, List.getElem_cons_zero, List.getElem_cons_succ, List.setIfInBounds_toArray, List.set_cons_zero, List.set_cons_succ]))
      (try simp only [Act.put, List.getElem_toArray, List.getElem_cons_zero, List.getElem_cons_succ, List.setIfInBounds_toArray, List.set_cons_zero, List.set_cons_succ])
      (refine wpAnyH_done (by kernel_rfl) ?_ _)
      clear hHeld a0 a1 y0 y1 b0 b1 z0 z1
      obtain ⟨⟨q0, q1⟩, e1, e2⟩ := HT5.out.fin0
      have e3 := HT5.out.rows0 HO5.out graphgate_ne
      have e4 := HT5.out.rows0 HP5.out graphint_ne
      generalize (w5.setCell _ _).setCell _ _ = W2 at q0 q1 e1 e2 e3 e4 ⊢
      go_wp2
      exact bodyPost_ret (v := .tuple #[.slice _ _ _, .agg #[.int .i64 n1, .slice _ _ _], .slice _ _ _]) (by simp [results, Try.results44, go_sem, q0, q1]) rfl (DrewTP.mk _ _ _ _ _ _ _ _ _ _ _ _ _ (by omega) hlen hll hlp e3 e1 e4 HHOK.out e2)
    · go_wp2
      refine wp_region_held_drew (S := fun W => W.cell? ⟨q, 0, none⟩ = some (.int .i64 n1) ∧ W.cell? ⟨q, 1, none⟩ = some (.slice A l c)) (by kernel_rfl) ⟨HT4.out.2.2.1.cell 0, HT4.out.2.2.1.cell 1⟩ (fun hHeld => ?_)
      (refine wpAnyH_take (i := 0) (v := ?_) rfl (by kernel_rfl) (by kernel_rfl) (by kernel_rfl) (fun _ _ _ h => h) (Or.inl ⟨by rfl, ?_⟩) (by assumption) ?_; rotate_left; · (intro w hSw; (try dsimp only at hSw); go_simp; all_goals with_reducible rfl); (try simp only [Act.put, List.getElem_toArray, List.getElem_cons_zero, List.getElem_cons_succ, List.setIfInBounds_toArray, List.set_cons_zero, List.set_cons_succ]))
      (try simp only [Act.put, List.getElem_toArray, List.getElem_cons_zero, List.getElem_cons_succ, List.setIfInBounds_toArray, List.set_cons_zero, List.set_cons_succ])
      (refine wpAnyH_take (i := 1) (v := ?_) rfl (by kernel_rfl) (by kernel_rfl) (by kernel_rfl) (fun _ _ _ h => h) (Or.inl ⟨by rfl, ?_⟩) (by assumption) ?_; rotate_left; · (intro w hSw; (try dsimp only at hSw); go_simp; all_goals with_reducible rfl); (try simp only [Act.put, List.getElem_toArray, List.getElem_cons_zero, List.getElem_cons_succ, List.setIfInBounds_toArray, List.set_cons_zero, List.set_cons_succ]))
      (try simp only [Act.put, List.getElem_toArray, List.getElem_cons_zero, List.getElem_cons_succ, List.setIfInBounds_toArray, List.set_cons_zero, List.set_cons_succ])
      (refine wpAnyH_take (i := 2) (v := ?_) rfl (by kernel_rfl) (by kernel_rfl) (by kernel_rfl) (fun _ _ _ h => h) (Or.inl ⟨by rfl, ?_⟩) (by assumption) ?_; rotate_left; · (intro w hSw; (try dsimp only at hSw); go_simp; all_goals with_reducible rfl); (try simp only [Act.put, List.getElem_toArray, List.getElem_cons_zero, List.getElem_cons_succ, List.setIfInBounds_toArray, List.set_cons_zero, List.set_cons_succ]))
      (try simp only [Act.put, List.getElem_toArray, List.getElem_cons_zero, List.getElem_cons_succ, List.setIfInBounds_toArray, List.set_cons_zero, List.set_cons_succ])
      refine wpAnyH_ready (rs := [3]) (by kernel_rfl) (by simp) ?_
      refine AllReadyH.cons rfl (fun K hK => ?_) AllReadyH.nil
      go_simp
      refine (l8Bent_any g _ (hC4.ext (Ext.refl _).drew)).mono ?_
      rintro e w5 ⟨P, np, cp, ps, rfl, hlp, hop, hC5, hG5⟩
      have HT5 := Lib.hid ((HT4.out.ext (Ext.refl _).drew).grown (hC4.ext (Ext.refl _).drew) hG5 (by omega) (by omega) (by omega))
      have HO5 := Lib.hid (own_cur (own_ext HO4.out (Ext.refl _).drew) (hC4.ext (Ext.refl _).drew) curgate_ne hG5)
      have HP5 := Lib.hid (own_base hop (show w.heap.size ≤ _ from HT4.out.1.size))
      clear hop hG5 hC5
      refine hK.out _ _ ⟨HT5.out.2.2.1.cell 0, HT5.out.2.2.1.cell 1⟩ (fun hHeld => ?_)
      clear hK K
      (try simp only [Act.put, List.getElem_toArray, List.getElem_cons_zero, List.getElem_cons_succ, List.setIfInBounds_toArray, List.set_cons_zero, List.set_cons_succ])
      clear a0 a1 y0 y1 b0 b1 z0 z1
      obtain ⟨⟨b0, b1⟩, z0, z1⟩ := blk2 HT5.out.2.2.1
      obtain ⟨⟨a0, a1⟩, y0, y1⟩ := blk2 HT5.out.2.1
      (refine wpAnyH_take (i := 4) (v := ?_) rfl (by kernel_rfl) (by kernel_rfl) (by kernel_rfl) (fun _ _ _ h => h) (Or.inl ⟨by rfl, ?_⟩) (by assumption) ?_; rotate_left; · (intro w hSw; (try dsimp only at hSw); go_simp; all_goals with_reducible rfl); (try simp only [Act.put, List.getElem_toArray, List.getElem_cons_zero, List.getElem_cons_succ, List.setIfInBounds_toArray, List.set_cons_zero, List.set_cons_succ]))
      (try simp only [Act.put, List.getElem_toArray, List.getElem_cons_zero, List.getElem_cons_succ, List.setIfInBounds_toArray, List.set_cons_zero, List.set_cons_succ])
      refine wpAnyH_ready (rs := [5]) (by kernel_rfl) (by simp) ?_
      refine AllReadyH.cons rfl (fun K hK => ?_) AllReadyH.nil
      go_simp
      refine hK.out _ _ HT5.out.keep0 (fun hHeld => ?_)
      clear hK K
      (try simp only [Act.put, List.getElem_toArray, List.getElem_cons_zero, List.getElem_cons_succ, List.setIfInBounds_toArray, List.set_cons_zero, List.set_cons_succ])
      (refine wpAnyH_take (i := 6) (v := ?_) rfl (by kernel_rfl) (by kernel_rfl) (by kernel_rfl) (fun _ _ _ h => h) (Or.inl ⟨by rfl, ?_⟩) (by assumption) ?_; rotate_left; · (intro w hSw; (try dsimp only at hSw); go_simp; all_goals with_reducible rfl); (try simp only [Act.put, List.getElem_toArray, List.getElem_cons_zero, List.getElem_cons_succ, List.setIfInBounds_toArray, List.set_cons_zero, List.set_cons_succ]))
      (try simp only [Act.put, List.getElem_toArray, List.getElem_cons_zero, List.getElem_cons_succ, List.setIfInBounds_toArray, List.set_cons_zero, List.set_cons_succ])
      (refine wpAnyH_done (by kernel_rfl) ?_ _)
      clear hHeld a0 a1 y0 y1 b0 b1 z0 z1
      obtain ⟨⟨q0, q1⟩, e1, e2⟩ := HT5.out.fin0
      have e3 := HT5.out.rows0 HO5.out graphgate_ne
      have e4 := HT5.out.rows0 HP5.out graphint_ne
      generalize (w5.setCell _ _).setCell _ _ = W2 at q0 q1 e1 e2 e3 e4 ⊢
      go_wp2
      exact bodyPost_ret (v := .tuple #[.slice _ _ _, .agg #[.int .i64 n1, .slice _ _ _], .slice _ _ _]) (by simp [results, Try.results44, go_sem, q0, q1]) rfl (DrewTP.mk _ _ _ _ _ _ _ _ _ _ _ _ _ (by omega) hlen hll hlp e3 e1 e4 HHOK.out e2)
  · go_wp2_with fail
    refine (l1In_no _ _ _ _ (by omega)).mono ?_
    rintro e w' ⟨rfl, rfl⟩
    have HT4 := HT3
    have HO4 := HO3
    have hC4 := hC3
    clear HT3 HO3 hC3
    obtain ⟨⟨a0, a1⟩, y0, y1⟩ := blk2 HT4.out.2.1
    go_wp2
    refine wp_region_held_drew (S := fun W => W.cell? ⟨q, 0, none⟩ = some (.int .i64 N) ∧ W.cell? ⟨q, 1, none⟩ = some (.slice A l c)) (by kernel_rfl) ⟨HT4.out.2.2.1.cell 0, HT4.out.2.2.1.cell 1⟩ (fun hHeld => ?_)
    (refine wpAnyH_take (i := 0) (v := ?_) rfl (by kernel_rfl) (by kernel_rfl) (by kernel_rfl) (fun _ _ _ h => h) (Or.inl ⟨by rfl, ?_⟩) (by assumption) ?_; rotate_left; · (intro w hSw; (try dsimp only at hSw); go_simp; all_goals with_reducible rfl); (try simp only [Act.put, List.getElem_toArray, List.getElem_cons_zero, List.getElem_cons_succ, List.setIfInBounds_toArray, List.set_cons_zero, List.set_cons_succ]))
    (try simp only [Act.put, List.getElem_toArray, List.getElem_cons_zero, List.getElem_cons_succ, List.setIfInBounds_toArray, List.set_cons_zero, List.set_cons_succ])
    (refine wpAnyH_take (i := 1) (v := ?_) rfl (by kernel_rfl) (by kernel_rfl) (by kernel_rfl) (fun _ _ _ h => h) (Or.inl ⟨by rfl, ?_⟩) (by assumption) ?_; rotate_left; · (intro w hSw; (try dsimp only at hSw); go_simp; all_goals with_reducible rfl); (try simp only [Act.put, List.getElem_toArray, List.getElem_cons_zero, List.getElem_cons_succ, List.setIfInBounds_toArray, List.set_cons_zero, List.set_cons_succ]))
    (try simp only [Act.put, List.getElem_toArray, List.getElem_cons_zero, List.getElem_cons_succ, List.setIfInBounds_toArray, List.set_cons_zero, List.set_cons_succ])
    (refine wpAnyH_take (i := 2) (v := ?_) rfl (by kernel_rfl) (by kernel_rfl) (by kernel_rfl) (fun _ _ _ h => h) (Or.inl ⟨by rfl, ?_⟩) (by assumption) ?_; rotate_left; · (intro w hSw; (try dsimp only at hSw); go_simp; all_goals with_reducible rfl); (try simp only [Act.put, List.getElem_toArray, List.getElem_cons_zero, List.getElem_cons_succ, List.setIfInBounds_toArray, List.set_cons_zero, List.set_cons_succ]))
    (try simp only [Act.put, List.getElem_toArray, List.getElem_cons_zero, List.getElem_cons_succ, List.setIfInBounds_toArray, List.set_cons_zero, List.set_cons_succ])
    refine wpAnyH_ready (rs := [3]) (by kernel_rfl) (by simp) ?_
    refine AllReadyH.cons rfl (fun K hK => ?_) AllReadyH.nil
    go_simp
    refine (l8Bent_any g _ (hC4.ext (Ext.refl _).drew)).mono ?_
    rintro e w5 ⟨P, np, cp, ps, rfl, hlp, hop, hC5, hG5⟩
    have HT5 := Lib.hid ((HT4.out.ext (Ext.refl _).drew).grown (hC4.ext (Ext.refl _).drew) hG5 (by omega) (by omega) (by omega))
    have HO5 := Lib.hid (own_cur (own_ext HO4.out (Ext.refl _).drew) (hC4.ext (Ext.refl _).drew) curgate_ne hG5)
    have HP5 := Lib.hid (own_base hop (show w.heap.size ≤ _ from HT4.out.1.size))
    clear hop hG5 hC5
    refine hK.out _ _ ⟨HT5.out.2.2.1.cell 0, HT5.out.2.2.1.cell 1⟩ (fun hHeld => ?_)
    clear hK K
    (try simp only [Act.put, List.getElem_toArray, List.getElem_cons_zero, List.getElem_cons_succ, List.setIfInBounds_toArray, List.set_cons_zero, List.set_cons_succ])
    clear a0 a1 y0 y1 b0 b1 z0 z1
    obtain ⟨⟨b0, b1⟩, z0, z1⟩ := blk2 HT5.out.2.2.1
    obtain ⟨⟨a0, a1⟩, y0, y1⟩ := blk2 HT5.out.2.1
    (refine wpAnyH_take (i := 4) (v := ?_) rfl (by kernel_rfl) (by kernel_rfl) (by kernel_rfl) (fun _ _ _ h => h) (Or.inl ⟨by rfl, ?_⟩) (by assumption) ?_; rotate_left; · (intro w hSw; (try dsimp only at hSw); go_simp; all_goals with_reducible rfl); (try simp only [Act.put, List.getElem_toArray, List.getElem_cons_zero, List.getElem_cons_succ, List.setIfInBounds_toArray, List.set_cons_zero, List.set_cons_succ]))
    (try simp only [Act.put, List.getElem_toArray, List.getElem_cons_zero, List.getElem_cons_succ, List.setIfInBounds_toArray, List.set_cons_zero, List.set_cons_succ])
    refine wpAnyH_ready (rs := [5]) (by kernel_rfl) (by simp) ?_
    refine AllReadyH.cons rfl (fun K hK => ?_) AllReadyH.nil
    go_simp
    refine hK.out _ _ HT5.out.keep0 (fun hHeld => ?_)
    clear hK K
    (try simp only [Act.put, List.getElem_toArray, List.getElem_cons_zero, List.getElem_cons_succ, List.setIfInBounds_toArray, List.set_cons_zero, List.set_cons_succ])
    (refine wpAnyH_take (i := 6) (v := ?_) rfl (by kernel_rfl) (by kernel_rfl) (by kernel_rfl) (fun _ _ _ h => h) (Or.inl ⟨by rfl, ?_⟩) (by assumption) ?_; rotate_left; · (intro w hSw; (try dsimp only at hSw); go_simp; all_goals with_reducible rfl); (try simp only [Act.put, List.getElem_toArray, List.getElem_cons_zero, List.getElem_cons_succ, List.setIfInBounds_toArray, List.set_cons_zero, List.set_cons_succ]))
    (try simp only [Act.put, List.getElem_toArray, List.getElem_cons_zero, List.getElem_cons_succ, List.setIfInBounds_toArray, List.set_cons_zero, List.set_cons_succ])
    (refine wpAnyH_done (by kernel_rfl) ?_ _)
    clear hHeld a0 a1 y0 y1 b0 b1 z0 z1
    obtain ⟨⟨q0, q1⟩, e1, e2⟩ := HT5.out.fin0
    have e3 := HT5.out.rows0 HO5.out graphgate_ne
    have e4 := HT5.out.rows0 HP5.out graphint_ne
    generalize (w5.setCell _ _).setCell _ _ = W2 at q0 q1 e1 e2 e3 e4 ⊢
    go_wp2
    exact bodyPost_ret (v := .tuple #[.slice _ _ _, .agg #[.int .i64 N, .slice _ _ _], .slice _ _ _]) (by simp [results, Try.results44, go_sem, q0, q1]) rfl (DrewTP.mk _ _ _ _ _ _ _ _ _ _ _ _ _ (by omega) hlen hll hlp e3 e1 e4 HHOK.out e2)
end Go.Proofs.Ytfbalkbcglejjaa
