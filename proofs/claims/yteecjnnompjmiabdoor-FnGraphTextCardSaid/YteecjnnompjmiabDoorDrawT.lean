/-
  Helper text (no claim of its own): drawn connected graphs.
-/
import Derived.Test.YteecjnnompjmiabDoorDrawS
namespace Go.Proofs.YteecjnnompjmiabDoor
open Go.ChangeShapes Go.WideShapes Go.ChangeAt Go.RowKit Go.Deep
set_option linter.unusedVariables false
set_option linter.unusedSimpArgs false
/-- What a draw of a graph hands back. -/
def DrewGr (w : World) (g most : Nat) (P : Int → Prop) (e : Ending) (w' : World) : Prop :=
  ∃ (N : Int) (A : Option Addr) (len cap : Nat) (es : List Ed), e = .returned (.agg #[.int .i64 N, .slice A len cap]) ∧ P N ∧ len ≤ most ∧ w'.ownsRow w.heap.size 38 2 (.slice A len cap) len (ecells es) ∧ Cur w' g ∧ w.grownBy w' (some g) ∧ ∀ e ∈ es, e.ok
/-- Block b is a row of ints, the first n of which are xs. -/
def PF (w : World) (b n : Nat) (xs : List Int) : Prop := ∃ cur, Blk w b 3 cur ∧ ∀ j, j < n → (cur[j]? = some (.int .i64 (xs.getD j 0)) ∧ I64 (xs.getD j 0))
section
variable {w w' : World} {b n B size m : Nat} {v : Value} {xs : List Int} {ys : List Value}
theorem PF.lt (h : PF w b n xs) : b < w.heap.size := by obtain ⟨_, hc, _⟩ := h; exact hc.lt
theorem PF.cell (h : PF w b n xs) {j : Nat} (hj : j < n) : w.cell? ⟨b, j, none⟩ = some (.int .i64 (xs.getD j 0)) := by
  obtain ⟨_, hc, hx⟩ := h
  exact (hc.cell j).trans (hx j hj).1
theorem PF.rng (h : PF w b n xs) {j : Nat} (hj : j < n) : I64 (xs.getD j 0) := by
  obtain ⟨_, _, hx⟩ := h
  exact (hx j hj).2
theorem PF.alloc (h : PF w b n xs) (o : Obj) : PF (w.alloc o) b n xs := by obtain ⟨_, hc, hx⟩ := h; exact ⟨_, hc.alloc o, hx⟩
theorem PF.far (h : PF w b n xs) {p : Addr} (hp : b ≠ p.block) (u : Value) : PF (w.setCell p u) b n xs := by obtain ⟨_, hc, hx⟩ := h; exact ⟨_, hc.far hp u, hx⟩
theorem PF.grown {row : Option Nat} (h : PF w b n xs) (hg : w.grownBy w' row) (hr : ∀ k, row = some k → b ≠ k) : PF w' b n xs := by obtain ⟨_, hc, hx⟩ := h; exact ⟨_, hc.grown hg hr, hx⟩
theorem PF.of {c : Nat} (h : IntRow w b c n) : ∃ xs, PF w b n xs := by
  obtain ⟨_, _, cur, hc, _, xs, _, hr, hx⟩ := h
  exact ⟨xs, cur, hc, fun j hj => ⟨hx j hj, hr j⟩⟩
theorem PF.apart (h : PF w b n xs) (ho : w.ownsRow B 38 size v m ys) : ∀ q, v.ownBlock = some q → b ≠ q := by
  intro q hq e
  subst e
  obtain ⟨cur, hc, _⟩ := h
  rcases ho.2 with ⟨rfl, _⟩ | ⟨b', cap', cur', rfl, _, hc', _⟩
  · cases hq
  · injection hq with hq
    subst hq
    rw [hc] at hc'
    injection hc' with hc'
    injection hc' with _ hc'
    exact absurd hc' (by decide)
end
theorem DG.at {w0 w : World} {g s : Nat} {N : Int} {A : Option Addr} {len cap : Nat} {gs : List Ed} (h : DG w0 w g s N A len cap gs) : gs.length = len ∧ GrAt w w.heap.size (.agg #[.int .i64 N, .slice A len cap]) ⟨N, gs⟩ := by
  have hr := Rd.own h.2.2.1
  have hl := Rd.len (f := Ed.cells) (fun _ => by simp [Ed.cells]) (by omega) hr
  subst hl
  exact ⟨rfl, A, cap, rfl, hr⟩
theorem DrewGr.mk {w w' : World} {g most : Nat} {P : Int → Prop} (N : Int) (A : Option Addr) (len cap : Nat) (es : List Ed) (h1 : P N) (h2 : len ≤ most) (h3 : w'.ownsRow w.heap.size 38 2 (.slice A len cap) len (ecells es) ∧ Cur w' g ∧ w.grownBy w' (some g) ∧ ∀ e ∈ es, e.ok) : DrewGr w g most P (.returned (.agg #[.int .i64 N, .slice A len cap])) w' :=
  ⟨N, A, len, cap, es, rfl, h1, h2, h3⟩
/-- What holds in the loop of l36Right. -/
def GL (w0 w : World) (g s : Nat) (N : Int) (A : Option Addr) (len cap : Nat) (es : List Ed) (b n : Nat) (xs : List Int) : Prop := DG w0 w g s N A len cap es ∧ PF w b n xs ∧ s < b
section
variable {w0 w w' : World} {g s : Nat} {N : Int} {A : Option Addr} {len cap b n : Nat} {es : List Ed} {xs : List Int}
theorem GL.cur (h : GL w0 w g s N A len cap es b n xs) : Cur w g := h.1.2.2.2.2.1
theorem GL.lt (h : GL w0 w g s N A len cap es b n xs) : b < w.heap.size := h.2.1.lt
theorem GL.cell (h : GL w0 w g s N A len cap es b n xs) : ∀ j, j < n → w.cell? ⟨b, j, none⟩ = some (.int .i64 (xs.getD j 0)) := fun _ hj => h.2.1.cell hj
theorem GL.drew (h : GL w0 w g s N A len cap es b n xs) : GL w0 w.drew g s N A len cap es b n xs := ⟨h.1.drew, h.2.1, h.2.2⟩
theorem GL.alloc (h : GL w0 w g s N A len cap es b n xs) (o : Obj) : GL w0 (w.alloc o) g s N A len cap es b n xs := ⟨h.1.alloc o, h.2.1.alloc o, h.2.2⟩
theorem GL.grown (h : GL w0 w g s N A len cap es b n xs) (hg : w.grownBy w' (some g)) (hC : Cur w' g) (hs : g < s) (hl : g < w0.heap.size) : GL w0 w' g s N A len cap es b n xs :=
  ⟨h.1.grown hg hC hs hl, h.2.1.grown hg (fun k hk => by injection hk; have := h.2.2; omega), h.2.2⟩
theorem GL.far (h : GL w0 w g s N A len cap es b n xs) {t j : Nat} (u : Value) (ht : b < t) (hw : w0.heap.size < t) (hl : g < w0.heap.size) (hq : ∀ q, (Value.slice A len cap).ownBlock = some q → q ≠ t) : GL w0 (w.setCell ⟨t, j, none⟩ u) g s N A len cap es b n xs := by
  obtain ⟨⟨h1, h2, h3, h4, h5, h6, h9⟩, h7, h8⟩ := h
  refine ⟨⟨h1.far (p := ⟨t, j, none⟩) (by simp; omega) _, h2.far (p := ⟨t, j, none⟩) (by simp; omega) _, ?_, h4, h5.set_ (p := ⟨t, j, none⟩) (by simp; omega) _, gr_set h6 (p := ⟨t, j, none⟩) (by simp; omega) _, h9⟩, h7.far (p := ⟨t, j, none⟩) (by simp; omega) _, h8⟩
  refine h3.kept (row := some t) (gr_setCell (World.grownBy.refl w (some t)) j _) ?_
  cases hv : (Value.slice A len cap).ownBlock with
  | none => exact .inl rfl
  | some q => exact .inr (fun e => hq q hv (by injection e))
theorem GL.app {A' : Option Addr} {c' : Nat} {y : Ed} (h : GL w0 w g s N A len cap es b n xs) (hy : y.ok) (hs : w0.heap.size < s) (hl : g < w0.heap.size)
    (ho : w'.ownsRow (w0.heap.size + 1) 38 2 (.slice A' (len + 1) c') (len + 1) (ecells (es ++ [y]))) (hg : w.grownBy w' (Value.slice A len cap).ownBlock)
    (hb : (Value.slice A' (len + 1) c').ownBlock = (Value.slice A len cap).ownBlock ∨ (Value.slice A' (len + 1) c').ownBlock = some (w.heap.size + 1)) :
    Blk w' s 26 #[.int .i64 N, .slice A len cap] ∧ GL w0 (w'.setCell ⟨s, 1, none⟩ (.slice A' (len + 1) c')) g s N A' (len + 1) c' (es ++ [y]) b n xs := by
  obtain ⟨h1, h2⟩ := h.1.app hy hs hl ho hg hb
  exact ⟨h1, h2, (h.2.1.grown hg (fun k hk => h.2.1.apart h.1.2.2.1 k hk)).far (p := ⟨s, 1, none⟩) (by have := h.2.2; simp; omega) _, h.2.2⟩
/-- With a block of one edge, t. -/
def GE (w0 w : World) (g s : Nat) (N : Int) (A : Option Addr) (len cap : Nat) (es : List Ed) (b n : Nat) (xs : List Int) (t : Nat) (y z : Int) : Prop :=
  GL w0 w g s N A len cap es b n xs ∧ Blk w t 38 #[.int .i64 y, .int .i64 z] ∧ b < t ∧ w0.heap.size < t ∧ (∀ q, (Value.slice A len cap).ownBlock = some q → q ≠ t) ∧ Ed.ok ⟨y, z⟩
theorem Ed.ok.sw {a b : Int} (h : Ed.ok ⟨a, b⟩) : Ed.ok ⟨b, a⟩ := ⟨h.2, h.1⟩
theorem GE.grown {t : Nat} {y z : Int} (h : GE w0 w g s N A len cap es b n xs t y z) (hg : w.grownBy w' (some g)) (hC : Cur w' g) (hs : g < s) (hl : g < w0.heap.size) : GE w0 w' g s N A len cap es b n xs t y z :=
  ⟨h.1.grown hg hC hs hl, h.2.1.grown hg (fun q hq => by injection hq; have := h.2.2.1; have := h.1.2.2; omega), h.2.2⟩
theorem GE.set2 {t : Nat} {y z : Int} (h : GE w0 w g s N A len cap es b n xs t y z) (hl : g < w0.heap.size) (u v : Int) (ho : Ed.ok ⟨u, v⟩) : GE w0 ((w.setCell ⟨t, 0, none⟩ (.int .i64 u)).setCell ⟨t, 1, none⟩ (.int .i64 v)) g s N A len cap es b n xs t u v :=
  ⟨(h.1.far _ h.2.2.1 h.2.2.2.1 hl h.2.2.2.2.1).far _ h.2.2.1 h.2.2.2.1 hl h.2.2.2.2.1, h.2.1.set2 _ _, h.2.2.1, h.2.2.2.1, h.2.2.2.2.1, ho⟩
theorem GE.app {t : Nat} {u v : Int} {A' : Option Addr} {c' : Nat} {y : Ed} (h : GE w0 w g s N A len cap es b n xs t u v) (hy : y.ok) (hs : w0.heap.size < s) (hl : g < w0.heap.size)
    (ho : w'.ownsRow (w0.heap.size + 1) 38 2 (.slice A' (len + 1) c') (len + 1) (ecells (es ++ [y]))) (hg : w.grownBy w' (Value.slice A len cap).ownBlock)
    (hb : (Value.slice A' (len + 1) c').ownBlock = (Value.slice A len cap).ownBlock ∨ (Value.slice A' (len + 1) c').ownBlock = some (w.heap.size + 1)) :
    Blk w' s 26 #[.int .i64 N, .slice A len cap] ∧ GE w0 (w'.setCell ⟨s, 1, none⟩ (.slice A' (len + 1) c')) g s N A' (len + 1) c' (es ++ [y]) b n xs t u v := by
  obtain ⟨h1, h2⟩ := h.1.app hy hs hl ho hg hb
  have := h.2.2.1
  have := h.1.2.2
  have := h.2.1.lt
  refine ⟨h1, h2, (h.2.1.grown hg (fun k hk e => h.2.2.2.2.1 k hk e.symm)).far (p := ⟨s, 1, none⟩) (by simp; omega) _, h.2.2.1, h.2.2.2.1, (fun q hq => ?_), h.2.2.2.2.2⟩
  rcases hb with hb | hb
  · exact h.2.2.2.2.1 q (hb ▸ hq)
  · rw [hb] at hq; injection hq; omega
end
set_option maxRecDepth 100000 in
set_option maxHeartbeats 16000000 in
theorem l36Right_any (g n : Nat) (hn : 1 ≤ n ∧ n ≤ 4) (w : World) (h : Cur w g) :
    Calls Tryd.prog 24 #[.pointer (some ⟨g, 0, none⟩), .int .i64 n] w (DrewGr w g 7 (fun N => N = (n : Int))) := by
  have hgl := h.lt
  obtain ⟨hn1, hn4⟩ := id hn
  go_enter Tryd.func24, Tryd.ntmps24
  go_wp2_with fail
  refine (l8Perm_any g n hn _ ((h.alloc _).alloc _)).mono ?_
  rintro e w2 ⟨b, c, rfl, hb, hI2, hC2, hG2⟩
  obtain ⟨xs, hI2⟩ := PF.of hI2
  have hB6 := ((Blk.new w 26 #[.int .i64 0, .slice none 0 0]).alloc _).grown hG2 (fun k hk => by injection hk; omega)
  have hB7 := (Blk.newAt (w := w.alloc (.cells #[.int .i64 0, .slice none 0 0] 26)) (t := 26) (cs := #[.int .i64 n, .slice none 0 0]) (b := w.heap.size + 1) (by simp)).grown hG2 (fun k hk => by injection hk; omega)
  have hg2 : w.grownBy w2 (some g) := gr_trans ((((Ext.refl w).alloc _).alloc _).gr _) hG2
  have hGL : GL w w2 g (w.heap.size + 1) n none 0 0 [] b n xs := ⟨⟨hB6, hB7, ⟨by simp, .inl ⟨rfl, rfl⟩⟩, (fun q hq => by cases hq), hC2, hg2, by simp⟩, hI2, by simp at hb; omega⟩
  clear hB6 hB7 hC2 hg2 hG2 hI2
  generalize hs : w.heap.size + 1 = s at hGL ⊢
  have HS := Lib.hid hs
  have hws : w.heap.size < s := by omega
  have hgs : g < s := by omega
  clear hs hb
  go_wp2
  go_loopw [7] (fun i wr => ∃ (k : Nat) (A : Option Addr) (len cap : Nat) (es : List Ed), 1 ≤ k ∧ k ≤ n ∧ i = .int .i64 k ∧ len ≤ 2 * (k - 1) ∧ GL w wr g s n A len cap es b n xs) (fun i _ => n - (intOf i).toNat)
  case atStart => exact ⟨1, none, 0, 0, [], Nat.le_refl _, hn1, rfl, Nat.zero_le _, hGL⟩
  case round =>
    clear hGL
    obtain ⟨k, A, len, cap, es, hk1, hkn, rfl, hlen, hGL⟩ := hrel
    by_cases hlt : k < n
    · have hk0 : (0 : Int) ≤ (k : Int) := by omega
      have hkn' : (k : Int) < (n : Int) := by omega
      have HGL := Lib.hid hGL
      clear hGL
      go_wp2
      refine wp_region_held_drew (S := fun W => GL w W g s n A len cap es b n xs ∧ ∀ j, j < n → W.cell? ⟨b, j, none⟩ = some (.int .i64 (xs.getD j 0))) (by kernel_rfl) ⟨HGL.out.drew, HGL.out.drew.cell⟩ (fun hHeld => ?_)
      (refine wpAnyH_take (i := 0) (v := ?_) rfl (by kernel_rfl) (by kernel_rfl) (by kernel_rfl) (fun _ _ _ h => h) (Or.inl ⟨by rfl, ?_⟩) (by assumption) ?_; rotate_left; · (intro w hSw; (try dsimp only at hSw); go_simp; all_goals with_reducible rfl); (try simp only [Act.put, List.getElem_toArray, List.getElem_cons_zero, List.getElem_cons_succ, List.setIfInBounds_toArray, List.set_cons_zero, List.set_cons_succ]))
      (refine wpAnyH_take (i := 1) (v := ?_) rfl (by kernel_rfl) (by kernel_rfl) (by kernel_rfl) (fun _ _ _ h => h) (Or.inl ⟨by rfl, ?_⟩) (by assumption) ?_; rotate_left; · (intro w hSw; (try dsimp only at hSw); go_simp; all_goals with_reducible rfl); (try simp only [Act.put, List.getElem_toArray, List.getElem_cons_zero, List.getElem_cons_succ, List.setIfInBounds_toArray, List.set_cons_zero, List.set_cons_succ]))
      (refine wpAnyH_take (i := 2) (v := ?_) rfl (by kernel_rfl) (by kernel_rfl) (by kernel_rfl) (fun _ _ _ h => h) (Or.inl ⟨by rfl, ?_⟩) (by assumption) ?_; rotate_left; · (intro w hSw; (try dsimp only at hSw); go_simp; all_goals with_reducible rfl); (try simp only [Act.put, List.getElem_toArray, List.getElem_cons_zero, List.getElem_cons_succ, List.setIfInBounds_toArray, List.set_cons_zero, List.set_cons_succ]))
      (refine wpAnyH_take (i := 3) (v := ?_) rfl (by kernel_rfl) (by kernel_rfl) (by kernel_rfl) (fun _ _ _ h => h) (Or.inl ⟨by rfl, ?_⟩) (by assumption) ?_; rotate_left; · (intro w hSw; (try dsimp only at hSw); go_simp; all_goals with_reducible rfl); (try simp only [Act.put, List.getElem_toArray, List.getElem_cons_zero, List.getElem_cons_succ, List.setIfInBounds_toArray, List.set_cons_zero, List.set_cons_succ]))
      (refine wpAnyH_take (i := 4) (v := ?_) rfl (by kernel_rfl) (by kernel_rfl) (by kernel_rfl) (fun _ _ _ h => h) (Or.inl ⟨by rfl, ?_⟩) (by assumption) ?_; rotate_left; · (intro w hSw; (try dsimp only at hSw); go_simp; all_goals with_reducible rfl); (try simp only [Act.put, List.getElem_toArray, List.getElem_cons_zero, List.getElem_cons_succ, List.setIfInBounds_toArray, List.set_cons_zero, List.set_cons_succ]))
      (refine wpAnyH_take (i := 5) (v := ?_) rfl (by kernel_rfl) (by kernel_rfl) (by kernel_rfl) (fun _ _ _ h => h) (Or.inl ⟨by rfl, ?_⟩) (by assumption) ?_; rotate_left; · (intro w hSw; (try dsimp only at hSw); go_simp; all_goals with_reducible rfl); (try simp only [Act.put, List.getElem_toArray, List.getElem_cons_zero, List.getElem_cons_succ, List.setIfInBounds_toArray, List.set_cons_zero, List.set_cons_succ]))
      (refine wpAnyH_take (i := 6) (v := ?_) rfl (by kernel_rfl) (by kernel_rfl) (by kernel_rfl) (fun _ _ _ h => h) (Or.inl ⟨by rfl, ?_⟩) (by assumption) ?_; rotate_left; · (intro w hSw; (try dsimp only at hSw); go_simp; all_goals with_reducible rfl); (try simp only [Act.put, List.getElem_toArray, List.getElem_cons_zero, List.getElem_cons_succ, List.setIfInBounds_toArray, List.set_cons_zero, List.set_cons_succ]))
      refine wpAnyH_ready (rs := [7, 11]) (by kernel_rfl) (by simp) ?_
      refine AllReadyH.cons rfl (fun K hK => ?wA) (AllReadyH.cons rfl (fun K hK => ?wB) AllReadyH.nil)
      case' wA =>
        go_simp
        refine (l1Below_any g k _ hHeld.1.cur (by omega)).mono ?_
        rintro e w3 ⟨x, rfl, ⟨hx0, hx1, _⟩, hC3, hG3⟩
        obtain ⟨j, rfl⟩ := Int.eq_ofNat_of_zero_le hx0
        have hj : j < n := by have := hx1 (by omega); omega
        have hj0 : (0 : Int) ≤ (j : Int) := by omega
        have hjn : (j : Int) < (n : Int) := by omega
        clear hx0 hx1
        have hGL3 := hHeld.1.grown hG3 hC3 hgs hgl
        refine hK.out _ _ ⟨hGL3, hGL3.cell⟩ (fun hHeld => ?_)
        clear hK K
        (try simp only [Act.put, List.getElem_toArray, List.getElem_cons_zero, List.getElem_cons_succ, List.setIfInBounds_toArray, List.set_cons_zero, List.set_cons_succ])
        (refine wpAnyH_take (i := 8) (v := ?_) rfl (by kernel_rfl) (by kernel_rfl) (by kernel_rfl) (fun _ _ _ h => h) (Or.inl ⟨by rfl, ?_⟩) (by assumption) ?_; rotate_left; · (intro w hSw; (try dsimp only at hSw); go_simp; all_goals with_reducible rfl); (try simp only [Act.put, List.getElem_toArray, List.getElem_cons_zero, List.getElem_cons_succ, List.setIfInBounds_toArray, List.set_cons_zero, List.set_cons_succ]))
        (refine wpAnyH_take (i := 9) (v := ?_) rfl (by kernel_rfl) (by kernel_rfl) (by kernel_rfl) (fun _ _ _ h => h) (Or.inl ⟨by rfl, ?_⟩) (by assumption) ?_; rotate_left; · (intro w hSw; (try dsimp only at hSw); go_simp; all_goals with_reducible rfl); (try simp only [Act.put, List.getElem_toArray, List.getElem_cons_zero, List.getElem_cons_succ, List.setIfInBounds_toArray, List.set_cons_zero, List.set_cons_succ]))
        (refine wpAnyH_take (i := 10) (v := ?_) rfl (by kernel_rfl) (by kernel_rfl) (by kernel_rfl) (fun _ _ _ h => h) (Or.inl ⟨by rfl, ?_⟩) (by assumption) ?_; rotate_left; · (intro w hSw; (try dsimp only at hSw); go_simp; all_goals with_reducible rfl); (try simp only [Act.put, List.getElem_toArray, List.getElem_cons_zero, List.getElem_cons_succ, List.setIfInBounds_toArray, List.set_cons_zero, List.set_cons_succ]))
        (refine wpAnyH_ready (rs := [11]) (by kernel_rfl) (by simp) ?_; refine AllReadyH.cons rfl (fun K hK => ?_) AllReadyH.nil; go_simp)
        refine hK.out _ _ ⟨hHeld.1.alloc _, (hHeld.1.alloc _).cell⟩ (fun hHeld => ?_)
        clear hK K
        (try simp only [Act.put, List.getElem_toArray, List.getElem_cons_zero, List.getElem_cons_succ, List.setIfInBounds_toArray, List.set_cons_zero, List.set_cons_succ])
        (refine wpAnyH_ready (rs := [12]) (by kernel_rfl) (by simp) ?_; refine AllReadyH.cons rfl (fun K hK => ?_) AllReadyH.nil; go_simp)
        have hE := Blk.newAt (w := w3) (t := 38) (cs := #[.int .i64 (xs.getD k 0), .int .i64 (xs.getD j 0)]) (b := w3.heap.size) rfl
        have hGL4 := hGL3.alloc (.cells #[.int .i64 (xs.getD k 0), .int .i64 (xs.getD j 0)] 38)
        refine hK.out _ _ ⟨hGL4, hGL4.cell⟩ (fun hHeld => ?_)
        clear hK K
        (try simp only [Act.put, List.getElem_toArray, List.getElem_cons_zero, List.getElem_cons_succ, List.setIfInBounds_toArray, List.set_cons_zero, List.set_cons_succ])
        (refine wpAnyH_done (by kernel_rfl) ?_ _)
        have hE6 := hE
        have hGL6 := hGL4
        have hbt := hGL3.lt
        have hqt := fun q hq => (own_ne hGL3.1.2.2.1 (Nat.le_refl _) q hq).2
        have hsb := hGL3.2.2
        have ht : w.heap.size < w3.heap.size := by omega
        clear hE hGL3 hGL4 hHeld hG3 hC3 hsb
        clear hHeld
        have hyz : Ed.ok ⟨xs.getD k 0, xs.getD j 0⟩ := ⟨hGL6.2.1.rng hlt, hGL6.2.1.rng hj⟩
        simp only [List.getD_eq_getElem?_getD] at hE6 hGL6 hyz
        generalize xs[k]?.getD 0 = y at hE6 hGL6 hyz ⊢
        generalize xs[j]?.getD 0 = z at hE6 hGL6 hyz ⊢
        generalize hW : w3.alloc _ = W at hE6 hGL6 ⊢
        clear hW
        generalize ht' : w3.heap.size = t at hE6 hqt hbt ht ⊢
      case' wB =>
        go_simp
        have hE := Blk.newAt (w := wr) (t := 38) (cs := #[.int .i64 0, .int .i64 0]) (b := wr.heap.size) rfl
        have hGL3 := (HGL.out.alloc (.cells #[.int .i64 0, .int .i64 0] 38)).drew
        refine hK.out _ _ ⟨hGL3, hGL3.cell⟩ (fun hHeld => ?_)
        clear hK K
        (try simp only [Act.put, List.getElem_toArray, List.getElem_cons_zero, List.getElem_cons_succ, List.setIfInBounds_toArray, List.set_cons_zero, List.set_cons_succ])
        (refine wpAnyH_ready (rs := [7]) (by kernel_rfl) (by simp) ?_; refine AllReadyH.cons rfl (fun K hK => ?_) AllReadyH.nil; go_simp)
        refine (l1Below_any g k _ hHeld.1.cur (by omega)).mono ?_
        rintro e w3 ⟨x, rfl, ⟨hx0, hx1, _⟩, hC3, hG3⟩
        obtain ⟨j, rfl⟩ := Int.eq_ofNat_of_zero_le hx0
        have hj : j < n := by have := hx1 (by omega); omega
        have hj0 : (0 : Int) ≤ (j : Int) := by omega
        have hjn : (j : Int) < (n : Int) := by omega
        clear hx0 hx1
        have hGL4 := hHeld.1.grown hG3 hC3 hgs hgl
        refine hK.out _ _ ⟨hGL4, hGL4.cell⟩ (fun hHeld => ?_)
        clear hK K
        (try simp only [Act.put, List.getElem_toArray, List.getElem_cons_zero, List.getElem_cons_succ, List.setIfInBounds_toArray, List.set_cons_zero, List.set_cons_succ])
        (refine wpAnyH_take (i := 8) (v := ?_) rfl (by kernel_rfl) (by kernel_rfl) (by kernel_rfl) (fun _ _ _ h => h) (Or.inl ⟨by rfl, ?_⟩) (by assumption) ?_; rotate_left; · (intro w hSw; (try dsimp only at hSw); go_simp; all_goals with_reducible rfl); (try simp only [Act.put, List.getElem_toArray, List.getElem_cons_zero, List.getElem_cons_succ, List.setIfInBounds_toArray, List.set_cons_zero, List.set_cons_succ]))
        (refine wpAnyH_take (i := 9) (v := ?_) rfl (by kernel_rfl) (by kernel_rfl) (by kernel_rfl) (fun _ _ _ h => h) (Or.inl ⟨by rfl, ?_⟩) (by assumption) ?_; rotate_left; · (intro w hSw; (try dsimp only at hSw); go_simp; all_goals with_reducible rfl); (try simp only [Act.put, List.getElem_toArray, List.getElem_cons_zero, List.getElem_cons_succ, List.setIfInBounds_toArray, List.set_cons_zero, List.set_cons_succ]))
        (refine wpAnyH_take (i := 10) (v := ?_) rfl (by kernel_rfl) (by kernel_rfl) (by kernel_rfl) (fun _ _ _ h => h) (Or.inl ⟨by rfl, ?_⟩) (by assumption) ?_; rotate_left; · (intro w hSw; (try dsimp only at hSw); go_simp; all_goals with_reducible rfl); (try simp only [Act.put, List.getElem_toArray, List.getElem_cons_zero, List.getElem_cons_succ, List.setIfInBounds_toArray, List.set_cons_zero, List.set_cons_succ]))
        have hbt := HGL.out.lt
        have hqt := fun q hq => (own_ne HGL.out.1.2.2.1 (Nat.le_refl _) q hq).2
        have hsb := HGL.out.2.2
        have hE3 := hE.drew.grown (w' := w3) hG3 (fun q hq => by injection hq; omega)
        have hc0 : w3.cell? ⟨wr.heap.size, 0, none⟩ = some (.int .i64 0) := hE3.cell 0
        have hc1 : ∀ u, (w3.setCell ⟨wr.heap.size, 0, none⟩ u).cell? ⟨wr.heap.size, 1, none⟩ = some (.int .i64 0) := fun u => (hE3.set_ 0 u).cell 1
        have hf0 : w3.frozen? ⟨wr.heap.size, 0, none⟩ = false := hE3.frozen 0
        have hf1 : ∀ u, (w3.setCell ⟨wr.heap.size, 0, none⟩ u).frozen? ⟨wr.heap.size, 1, none⟩ = false := fun u => (hE3.set_ 0 u).frozen 1
        (refine wpAnyH_ready (rs := [12]) (by kernel_rfl) (by simp) ?_; refine AllReadyH.cons rfl (fun K hK => ?_) AllReadyH.nil; go_simp)
        have hGL6 := (hGL4.far (t := wr.heap.size) (j := 0) (.int .i64 (xs.getD k 0)) hbt (by omega) hgl hqt).far (t := wr.heap.size) (j := 1) (.int .i64 (xs.getD j 0)) hbt (by omega) hgl hqt
        refine hK.out _ _ ⟨hGL6, hGL6.cell⟩ (fun hHeld => ?_)
        clear hK K
        (try simp only [Act.put, List.getElem_toArray, List.getElem_cons_zero, List.getElem_cons_succ, List.setIfInBounds_toArray, List.set_cons_zero, List.set_cons_succ])
        (refine wpAnyH_done (by kernel_rfl) ?_ _)
        have hE6 := hE3.set2 (.int .i64 (xs.getD k 0)) (.int .i64 (xs.getD j 0))
        have ht : w.heap.size < wr.heap.size := by omega
        clear hE hGL3 hGL4 hE3 hc0 hc1 hf0 hf1 hHeld hG3 hC3 hsb
        clear hHeld
        have hyz : Ed.ok ⟨xs.getD k 0, xs.getD j 0⟩ := ⟨hGL6.2.1.rng hlt, hGL6.2.1.rng hj⟩
        simp only [List.getD_eq_getElem?_getD] at hE6 hGL6 hyz
        generalize xs[k]?.getD 0 = y at hE6 hGL6 hyz ⊢
        generalize xs[j]?.getD 0 = z at hE6 hGL6 hyz ⊢
        generalize hW : (w3.setCell _ _).setCell _ _ = W at hE6 hGL6 ⊢
        clear hW
        generalize ht' : wr.heap.size = t at hE6 hqt hbt ht ⊢
      all_goals
        clear ht'
        have hGE : GE w W g s n A len cap es b n xs t y z := ⟨hGL6, hE6, hbt, ht, hqt, hyz⟩
        clear hGL6 hE6 hbt ht hqt hyz
        go_wp2_with fail
        refine (l1Once_any g 2 W hGE.1.cur (by omega)).mono ?_
        rintro e w4 ⟨f1, rfl, hC4, hG4⟩
        have hGE7 := hGE.grown hG4 hC4 hgs hgl
        clear hGE hG4 hC4 W HGL
        have hs4 := hGE7.1.1.2.1.lt
        have ht4 := hGE7.2.1.lt
        cases f1
        case' false =>
          have HG := Lib.hid hGE7
          obtain ⟨⟨b0, b1⟩, z0, z1⟩ := blk2 hGE7.1.1.2.1
          obtain ⟨⟨a0, a1⟩, y0, y1⟩ := blk2 hGE7.2.1
          clear hGE7
          go_wp2_with (at_builtin; refine appE1 (B := w.heap.size + 1) rfl _ _ rfl _ len _ rfl HG.out.1.1.2.2.1 (by omega) ⟨_, _⟩ _ _ rfl rfl (by omega) ?_; intro A7 c7 w7 ho hg hb; have HA := Lib.hid (HG.out.app HG.out.2.2.2.2.2 hws hgl ho hg hb); have k6 : w7.cell? ⟨s, 1, none⟩ = some (.slice A len cap) := HA.out.1.cell 1; have f6 : w7.frozen? ⟨s, 1, none⟩ = false := HA.out.1.frozen 1; clear ho hg hb)
        case' true =>
          have HG := Lib.hid (hGE7.set2 hgl z y hGE7.2.2.2.2.2.sw)
          obtain ⟨⟨b0, b1⟩, z0, z1⟩ := blk2 HG.out.1.1.2.1
          obtain ⟨⟨a0, a1⟩, y0, y1⟩ := blk2 hGE7.2.1
          obtain ⟨⟨c0, c1⟩, x0, x1⟩ := blk2 HG.out.2.1
          have hs5 := HG.out.1.1.2.1.lt
          have y2 : ∀ u, (w4.setCell ⟨t, 0, none⟩ u).cell? ⟨t, 1, none⟩ = some (.int .i64 z) := fun u => (hGE7.2.1.set_ 0 u).cell 1
          have y3 : ∀ u, (w4.setCell ⟨t, 0, none⟩ u).frozen? ⟨t, 1, none⟩ = false := fun u => (hGE7.2.1.set_ 0 u).frozen 1
          clear hGE7
          go_wp2_with (at_builtin; go_loud (refine appE1 (B := w.heap.size + 1) rfl _ _ rfl _ len _ rfl HG.out.1.1.2.2.1 (by omega) ⟨_, _⟩ _ _ (by rfl) (by simp) (by omega) ?_; intro A7 c7 w7 ho hg hb; have HA := Lib.hid (HG.out.app HG.out.2.2.2.2.2 hws hgl ho hg hb); have k6 : w7.cell? ⟨s, 1, none⟩ = some (.slice A len cap) := HA.out.1.cell 1; have f6 : w7.frozen? ⟨s, 1, none⟩ = false := HA.out.1.frozen 1; clear ho hg hb))
          clear x0 x1 c0 c1 hs5 y2 y3
        all_goals
          clear b0 b1 z0 z1 a0 a1 y0 y1
          clear k6 f6
          refine (l1Once_any g 4 _ HA.out.2.1.cur (by omega)).mono ?_
          rintro e w8 ⟨f2, rfl, hC8, hG8⟩
          have hGE8 := HA.out.2.grown hG8 hC8 hgs hgl
          clear HA HG hC8 hG8
          have hs8 := hGE8.1.1.2.1.lt
          have hw8 := hGE8.1.1.1.lt
          cases f2
          · have HG := Lib.hid hGE8
            clear hGE8
            go_wp2
            go_roundw
            case rel => exact ⟨k + 1, _, len + 1, _, _, by omega, by omega, by simp, by omega, HG.out.1⟩
            case measure => simp [intOf]; omega
          · have HG := Lib.hid hGE8
            obtain ⟨⟨b0, b1⟩, z0, z1⟩ := blk2 hGE8.1.1.2.1
            obtain ⟨⟨a0, a1⟩, y0, y1⟩ := blk2 hGE8.2.1
            clear hGE8
            go_wp2_with (at_builtin; refine appE1 (B := w.heap.size + 1) rfl _ _ rfl _ (len + 1) _ rfl HG.out.1.1.2.2.1 (by omega) ⟨_, _⟩ _ _ rfl rfl (by omega) ?_; intro A9 c9 w9 ho hg hb; have HA := Lib.hid (HG.out.app HG.out.2.2.2.2.2.sw hws hgl ho hg hb); have k6 : w9.cell? ⟨s, 1, none⟩ = some (.slice A7 (len + 1) c7) := HA.out.1.cell 1; have f6 : w9.frozen? ⟨s, 1, none⟩ = false := HA.out.1.frozen 1; clear ho hg hb)
            clear b0 b1 z0 z1 a0 a1 y0 y1 k6 f6
            go_roundw
            case rel => exact ⟨k + 1, _, len + 1 + 1, _, _, by omega, by omega, by simp, by omega, HA.out.2.1⟩
            case measure => simp [intOf]; omega
    · have hkn : k = n := by omega
      subst hkn
      have hk0 : ¬ ((k : Int) < (k : Int)) := by omega
      have hs8 := hGL.1.2.1.lt
      have hw8 := hGL.1.1.lt
      have HG := Lib.hid hGL
      clear hGL
      by_cases h2 : k ≤ 2
      · have h2' : ¬ ((2 : Int) < (k : Int)) := by omega
        obtain ⟨⟨b0, b1⟩, z0, z1⟩ := blk2 HG.out.1.2.1
        obtain ⟨⟨a0, a1⟩, y0, y1⟩ := blk2 HG.out.1.1
        go_wp2
        refine wp_region_held_drew (S := fun W => GL w W g s k A len cap es b k xs) (by kernel_rfl) HG.out.drew (fun hHeld => ?_)
        (refine wpAnyH_take (i := 0) (v := ?_) rfl (by kernel_rfl) (by kernel_rfl) (by kernel_rfl) (fun _ _ _ h => h) (Or.inl ⟨by rfl, ?_⟩) (by assumption) ?_; rotate_left; · (intro w hSw; (try dsimp only at hSw); go_simp; all_goals with_reducible rfl); (try simp only [Act.put, List.getElem_toArray, List.getElem_cons_zero, List.getElem_cons_succ, List.setIfInBounds_toArray, List.set_cons_zero, List.set_cons_succ]))
        (refine wpAnyH_take (i := 1) (v := .bool false) rfl (by kernel_rfl) (by kernel_rfl) (by kernel_rfl) (fun _ _ _ h => h) (Or.inl ⟨by rfl, ?_⟩) (by assumption) ?_; · (intro w hSw; (try dsimp only at hSw); go_simp; first | done | (trace_state; omega)))
        (try simp only [Act.put, List.getElem_toArray, List.getElem_cons_zero, List.getElem_cons_succ, List.setIfInBounds_toArray, List.set_cons_zero, List.set_cons_succ])
        (refine wpAnyH_take (i := 2) (v := ?_) rfl (by kernel_rfl) (by kernel_rfl) (by kernel_rfl) (fun _ _ _ h => h) (Or.inl ⟨by rfl, ?_⟩) (by assumption) ?_; rotate_left; · (intro w hSw; (try dsimp only at hSw); go_simp; all_goals with_reducible rfl); (try simp only [Act.put, List.getElem_toArray, List.getElem_cons_zero, List.getElem_cons_succ, List.setIfInBounds_toArray, List.set_cons_zero, List.set_cons_succ]))
        (refine wpAnyH_take (i := 3) rfl (by kernel_rfl) (by kernel_rfl) (by kernel_rfl) (fun _ _ _ h => h) (Or.inr ⟨by rfl, rfl⟩) (by assumption) ?_; (try simp only [Act.put, List.getElem_toArray, List.getElem_cons_zero, List.getElem_cons_succ, List.setIfInBounds_toArray, List.set_cons_zero, List.set_cons_succ]))
        (refine wpAnyH_take (i := 4) rfl (by kernel_rfl) (by kernel_rfl) (by kernel_rfl) (fun _ _ _ h => h) (Or.inr ⟨by rfl, rfl⟩) (by assumption) ?_; (try simp only [Act.put, List.getElem_toArray, List.getElem_cons_zero, List.getElem_cons_succ, List.setIfInBounds_toArray, List.set_cons_zero, List.set_cons_succ]))
        (refine wpAnyH_take (i := 5) (v := ?_) rfl (by kernel_rfl) (by kernel_rfl) (by kernel_rfl) (fun _ _ _ h => h) (Or.inl ⟨by rfl, ?_⟩) (by assumption) ?_; rotate_left; · (intro w hSw; (try dsimp only at hSw); go_simp; all_goals with_reducible rfl); (try simp only [Act.put, List.getElem_toArray, List.getElem_cons_zero, List.getElem_cons_succ, List.setIfInBounds_toArray, List.set_cons_zero, List.set_cons_succ]))
        (refine wpAnyH_take (i := 6) (v := ?_) rfl (by kernel_rfl) (by kernel_rfl) (by kernel_rfl) (fun _ _ _ h => h) (Or.inl ⟨by rfl, ?_⟩) (by assumption) ?_; rotate_left; · (intro w hSw; (try dsimp only at hSw); go_simp; all_goals with_reducible rfl); (try simp only [Act.put, List.getElem_toArray, List.getElem_cons_zero, List.getElem_cons_succ, List.setIfInBounds_toArray, List.set_cons_zero, List.set_cons_succ]))
        (try simp only [Act.put, List.getElem_toArray, List.getElem_cons_zero, List.getElem_cons_succ, List.setIfInBounds_toArray, List.set_cons_zero, List.set_cons_succ])
        (refine wpAnyH_take (i := 7) rfl (by kernel_rfl) (by kernel_rfl) (by kernel_rfl) (fun _ _ _ h => h) (Or.inr ⟨by rfl, rfl⟩) (by assumption) ?_; (try simp only [Act.put, List.getElem_toArray, List.getElem_cons_zero, List.getElem_cons_succ, List.setIfInBounds_toArray, List.set_cons_zero, List.set_cons_succ]))
        (refine wpAnyH_take (i := 8) rfl (by kernel_rfl) (by kernel_rfl) (by kernel_rfl) (fun _ _ _ h => h) (Or.inr ⟨by rfl, rfl⟩) (by assumption) ?_; (try simp only [Act.put, List.getElem_toArray, List.getElem_cons_zero, List.getElem_cons_succ, List.setIfInBounds_toArray, List.set_cons_zero, List.set_cons_succ]))
        (refine wpAnyH_take (i := 9) rfl (by kernel_rfl) (by kernel_rfl) (by kernel_rfl) (fun _ _ _ h => h) (Or.inr ⟨by rfl, rfl⟩) (by assumption) ?_; (try simp only [Act.put, List.getElem_toArray, List.getElem_cons_zero, List.getElem_cons_succ, List.setIfInBounds_toArray, List.set_cons_zero, List.set_cons_succ]))
        (refine wpAnyH_take (i := 10) rfl (by kernel_rfl) (by kernel_rfl) (by kernel_rfl) (fun _ _ _ h => h) (Or.inr ⟨by rfl, rfl⟩) (by assumption) ?_; (try simp only [Act.put, List.getElem_toArray, List.getElem_cons_zero, List.getElem_cons_succ, List.setIfInBounds_toArray, List.set_cons_zero, List.set_cons_succ]))
        (refine wpAnyH_take (i := 11) rfl (by kernel_rfl) (by kernel_rfl) (by kernel_rfl) (fun _ _ _ h => h) (Or.inr ⟨by rfl, rfl⟩) (by assumption) ?_; (try simp only [Act.put, List.getElem_toArray, List.getElem_cons_zero, List.getElem_cons_succ, List.setIfInBounds_toArray, List.set_cons_zero, List.set_cons_succ]))
        (refine wpAnyH_take (i := 12) rfl (by kernel_rfl) (by kernel_rfl) (by kernel_rfl) (fun _ _ _ h => h) (Or.inr ⟨by rfl, rfl⟩) (by assumption) ?_; (try simp only [Act.put, List.getElem_toArray, List.getElem_cons_zero, List.getElem_cons_succ, List.setIfInBounds_toArray, List.set_cons_zero, List.set_cons_succ]))
        (refine wpAnyH_take (i := 13) rfl (by kernel_rfl) (by kernel_rfl) (by kernel_rfl) (fun _ _ _ h => h) (Or.inr ⟨by rfl, rfl⟩) (by assumption) ?_; (try simp only [Act.put, List.getElem_toArray, List.getElem_cons_zero, List.getElem_cons_succ, List.setIfInBounds_toArray, List.set_cons_zero, List.set_cons_succ]))
        (refine wpAnyH_take (i := 14) rfl (by kernel_rfl) (by kernel_rfl) (by kernel_rfl) (fun _ _ _ h => h) (Or.inr ⟨by rfl, rfl⟩) (by assumption) ?_; (try simp only [Act.put, List.getElem_toArray, List.getElem_cons_zero, List.getElem_cons_succ, List.setIfInBounds_toArray, List.set_cons_zero, List.set_cons_succ]))
        (refine wpAnyH_take (i := 15) rfl (by kernel_rfl) (by kernel_rfl) (by kernel_rfl) (fun _ _ _ h => h) (Or.inr ⟨by rfl, rfl⟩) (by assumption) ?_; (try simp only [Act.put, List.getElem_toArray, List.getElem_cons_zero, List.getElem_cons_succ, List.setIfInBounds_toArray, List.set_cons_zero, List.set_cons_succ]))
        (refine wpAnyH_take (i := 16) rfl (by kernel_rfl) (by kernel_rfl) (by kernel_rfl) (fun _ _ _ h => h) (Or.inr ⟨by rfl, rfl⟩) (by assumption) ?_; (try simp only [Act.put, List.getElem_toArray, List.getElem_cons_zero, List.getElem_cons_succ, List.setIfInBounds_toArray, List.set_cons_zero, List.set_cons_succ]))
        (refine wpAnyH_take (i := 17) rfl (by kernel_rfl) (by kernel_rfl) (by kernel_rfl) (fun _ _ _ h => h) (Or.inr ⟨by rfl, rfl⟩) (by assumption) ?_; (try simp only [Act.put, List.getElem_toArray, List.getElem_cons_zero, List.getElem_cons_succ, List.setIfInBounds_toArray, List.set_cons_zero, List.set_cons_succ]))
        (refine wpAnyH_take (i := 18) (v := ?_) rfl (by kernel_rfl) (by kernel_rfl) (by kernel_rfl) (fun _ _ _ h => h) (Or.inl ⟨by rfl, ?_⟩) (by assumption) ?_; rotate_left; · (intro w hSw; (try dsimp only at hSw); go_simp; all_goals with_reducible rfl); (try simp only [Act.put, List.getElem_toArray, List.getElem_cons_zero, List.getElem_cons_succ, List.setIfInBounds_toArray, List.set_cons_zero, List.set_cons_succ]))
        (try simp only [Act.put, List.getElem_toArray, List.getElem_cons_zero, List.getElem_cons_succ, List.setIfInBounds_toArray, List.set_cons_zero, List.set_cons_succ])
        (refine wpAnyH_done (by kernel_rfl) ?_ _)
        go_wp2
        exact bodyPost_ret (v := .agg #[.int .i64 k, .slice A len cap]) (ret2g rfl HG.out.1.drew.1 (.int .i64 k) (.slice A len cap) _ rfl) rfl (DrewGr.mk k A len cap es rfl (by omega) (HG.out.1.drew.done hgl))
      · have h2' : (2 : Int) < (k : Int) := by omega
        obtain ⟨m, hm⟩ : ∃ m : Nat, (k : Int) - 1 = (m : Int) := ⟨k - 1, by omega⟩
        have hm0 : (0 : Int) ≤ (m : Int) := by omega
        have hmk : (m : Int) < (k : Int) := by omega
        have hk1' : (0 : Int) < (k : Int) := by omega
        have hkN : 0 < k := by omega
        have hmN : m < k := by omega
        obtain ⟨⟨b0, b1⟩, z0, z1⟩ := blk2 HG.out.1.2.1
        obtain ⟨⟨a0, a1⟩, y0, y1⟩ := blk2 HG.out.1.1
        go_wp2
        have hS : ∀ W, GL w W g s k A len cap es b k xs → GL w W g s k A len cap es b k xs ∧ W.cell? ⟨b, 0, none⟩ = some (.int .i64 (xs.getD 0 0)) ∧ W.cell? ⟨b, m, none⟩ = some (.int .i64 (xs.getD m 0)) ∧ W.cell? ⟨s, 0, none⟩ = some (.int .i64 k) ∧ W.cell? ⟨s, 1, none⟩ = some (.slice A len cap) := fun W h => ⟨h, h.cell 0 (by omega), h.cell m (by omega), h.1.2.1.cell 0, h.1.2.1.cell 1⟩
        refine wp_region_held_drew (S := fun W => GL w W g s k A len cap es b k xs ∧ W.cell? ⟨b, 0, none⟩ = some (.int .i64 (xs.getD 0 0)) ∧ W.cell? ⟨b, m, none⟩ = some (.int .i64 (xs.getD m 0)) ∧ W.cell? ⟨s, 0, none⟩ = some (.int .i64 k) ∧ W.cell? ⟨s, 1, none⟩ = some (.slice A len cap)) (by kernel_rfl) (hS _ HG.out.drew) (fun hHeld => ?_)
        (refine wpAnyH_take (i := 0) (v := ?_) rfl (by kernel_rfl) (by kernel_rfl) (by kernel_rfl) (fun _ _ _ h => h) (Or.inl ⟨by rfl, ?_⟩) (by assumption) ?_; rotate_left; · (intro w hSw; (try dsimp only at hSw); go_simp; all_goals with_reducible rfl); (try simp only [Act.put, List.getElem_toArray, List.getElem_cons_zero, List.getElem_cons_succ, List.setIfInBounds_toArray, List.set_cons_zero, List.set_cons_succ]))
        (refine wpAnyH_take (i := 1) (v := .bool true) rfl (by kernel_rfl) (by kernel_rfl) (by kernel_rfl) (fun _ _ _ h => h) (Or.inl ⟨by rfl, ?_⟩) (by assumption) ?_; · (intro w hSw; (try dsimp only at hSw); go_simp; first | done | (trace_state; omega)))
        (try simp only [Act.put, List.getElem_toArray, List.getElem_cons_zero, List.getElem_cons_succ, List.setIfInBounds_toArray, List.set_cons_zero, List.set_cons_succ])
        (refine wpAnyH_take (i := 2) (v := ?_) rfl (by kernel_rfl) (by kernel_rfl) (by kernel_rfl) (fun _ _ _ h => h) (Or.inl ⟨by rfl, ?_⟩) (by assumption) ?_; rotate_left; · (intro w hSw; (try dsimp only at hSw); go_simp; all_goals with_reducible rfl); (try simp only [Act.put, List.getElem_toArray, List.getElem_cons_zero, List.getElem_cons_succ, List.setIfInBounds_toArray, List.set_cons_zero, List.set_cons_succ]))
        (refine wpAnyH_take (i := 3) (v := ?_) rfl (by kernel_rfl) (by kernel_rfl) (by kernel_rfl) (fun _ _ _ h => h) (Or.inl ⟨by rfl, ?_⟩) (by assumption) ?_; rotate_left; · (intro w hSw; (try dsimp only at hSw); go_simp; all_goals with_reducible rfl); (try simp only [Act.put, List.getElem_toArray, List.getElem_cons_zero, List.getElem_cons_succ, List.setIfInBounds_toArray, List.set_cons_zero, List.set_cons_succ]))
        (refine wpAnyH_ready (rs := [4]) (by kernel_rfl) (by simp) ?_; refine AllReadyH.cons rfl (fun K hK => ?_) AllReadyH.nil; go_simp)
        refine (l1Once_any g 3 _ hHeld.1.cur (by omega)).mono ?_
        rintro e w4 ⟨f1, rfl, hC4, hG4⟩
        have hGL4 := hHeld.1.grown hG4 hC4 hgs hgl
        refine hK.out _ _ (hS _ hGL4) (fun hHeld => ?_)
        clear hK K
        (try simp only [Act.put, List.getElem_toArray, List.getElem_cons_zero, List.getElem_cons_succ, List.setIfInBounds_toArray, List.set_cons_zero, List.set_cons_succ])
        clear hG4
        cases f1
        · (refine wpAnyH_take (i := 5) (v := ?_) rfl (by kernel_rfl) (by kernel_rfl) (by kernel_rfl) (fun _ _ _ h => h) (Or.inl ⟨by rfl, ?_⟩) (by assumption) ?_; rotate_left; · (intro w hSw; (try dsimp only at hSw); go_simp; all_goals with_reducible rfl); (try simp only [Act.put, List.getElem_toArray, List.getElem_cons_zero, List.getElem_cons_succ, List.setIfInBounds_toArray, List.set_cons_zero, List.set_cons_succ]))
          (refine wpAnyH_take (i := 6) (v := ?_) rfl (by kernel_rfl) (by kernel_rfl) (by kernel_rfl) (fun _ _ _ h => h) (Or.inl ⟨by rfl, ?_⟩) (by assumption) ?_; rotate_left; · (intro w hSw; (try dsimp only at hSw); go_simp; all_goals with_reducible rfl); (try simp only [Act.put, List.getElem_toArray, List.getElem_cons_zero, List.getElem_cons_succ, List.setIfInBounds_toArray, List.set_cons_zero, List.set_cons_succ]))
          (try simp only [Act.put, List.getElem_toArray, List.getElem_cons_zero, List.getElem_cons_succ, List.setIfInBounds_toArray, List.set_cons_zero, List.set_cons_succ])
          (refine wpAnyH_take (i := 7) rfl (by kernel_rfl) (by kernel_rfl) (by kernel_rfl) (fun _ _ _ h => h) (Or.inr ⟨by rfl, rfl⟩) (by assumption) ?_; (try simp only [Act.put, List.getElem_toArray, List.getElem_cons_zero, List.getElem_cons_succ, List.setIfInBounds_toArray, List.set_cons_zero, List.set_cons_succ]))
          (refine wpAnyH_take (i := 8) rfl (by kernel_rfl) (by kernel_rfl) (by kernel_rfl) (fun _ _ _ h => h) (Or.inr ⟨by rfl, rfl⟩) (by assumption) ?_; (try simp only [Act.put, List.getElem_toArray, List.getElem_cons_zero, List.getElem_cons_succ, List.setIfInBounds_toArray, List.set_cons_zero, List.set_cons_succ]))
          (refine wpAnyH_take (i := 9) rfl (by kernel_rfl) (by kernel_rfl) (by kernel_rfl) (fun _ _ _ h => h) (Or.inr ⟨by rfl, rfl⟩) (by assumption) ?_; (try simp only [Act.put, List.getElem_toArray, List.getElem_cons_zero, List.getElem_cons_succ, List.setIfInBounds_toArray, List.set_cons_zero, List.set_cons_succ]))
          (refine wpAnyH_take (i := 10) rfl (by kernel_rfl) (by kernel_rfl) (by kernel_rfl) (fun _ _ _ h => h) (Or.inr ⟨by rfl, rfl⟩) (by assumption) ?_; (try simp only [Act.put, List.getElem_toArray, List.getElem_cons_zero, List.getElem_cons_succ, List.setIfInBounds_toArray, List.set_cons_zero, List.set_cons_succ]))
          (refine wpAnyH_take (i := 11) rfl (by kernel_rfl) (by kernel_rfl) (by kernel_rfl) (fun _ _ _ h => h) (Or.inr ⟨by rfl, rfl⟩) (by assumption) ?_; (try simp only [Act.put, List.getElem_toArray, List.getElem_cons_zero, List.getElem_cons_succ, List.setIfInBounds_toArray, List.set_cons_zero, List.set_cons_succ]))
          (refine wpAnyH_take (i := 12) rfl (by kernel_rfl) (by kernel_rfl) (by kernel_rfl) (fun _ _ _ h => h) (Or.inr ⟨by rfl, rfl⟩) (by assumption) ?_; (try simp only [Act.put, List.getElem_toArray, List.getElem_cons_zero, List.getElem_cons_succ, List.setIfInBounds_toArray, List.set_cons_zero, List.set_cons_succ]))
          (refine wpAnyH_take (i := 13) rfl (by kernel_rfl) (by kernel_rfl) (by kernel_rfl) (fun _ _ _ h => h) (Or.inr ⟨by rfl, rfl⟩) (by assumption) ?_; (try simp only [Act.put, List.getElem_toArray, List.getElem_cons_zero, List.getElem_cons_succ, List.setIfInBounds_toArray, List.set_cons_zero, List.set_cons_succ]))
          (refine wpAnyH_take (i := 14) rfl (by kernel_rfl) (by kernel_rfl) (by kernel_rfl) (fun _ _ _ h => h) (Or.inr ⟨by rfl, rfl⟩) (by assumption) ?_; (try simp only [Act.put, List.getElem_toArray, List.getElem_cons_zero, List.getElem_cons_succ, List.setIfInBounds_toArray, List.set_cons_zero, List.set_cons_succ]))
          (refine wpAnyH_take (i := 15) rfl (by kernel_rfl) (by kernel_rfl) (by kernel_rfl) (fun _ _ _ h => h) (Or.inr ⟨by rfl, rfl⟩) (by assumption) ?_; (try simp only [Act.put, List.getElem_toArray, List.getElem_cons_zero, List.getElem_cons_succ, List.setIfInBounds_toArray, List.set_cons_zero, List.set_cons_succ]))
          (refine wpAnyH_take (i := 16) rfl (by kernel_rfl) (by kernel_rfl) (by kernel_rfl) (fun _ _ _ h => h) (Or.inr ⟨by rfl, rfl⟩) (by assumption) ?_; (try simp only [Act.put, List.getElem_toArray, List.getElem_cons_zero, List.getElem_cons_succ, List.setIfInBounds_toArray, List.set_cons_zero, List.set_cons_succ]))
          (refine wpAnyH_take (i := 17) rfl (by kernel_rfl) (by kernel_rfl) (by kernel_rfl) (fun _ _ _ h => h) (Or.inr ⟨by rfl, rfl⟩) (by assumption) ?_; (try simp only [Act.put, List.getElem_toArray, List.getElem_cons_zero, List.getElem_cons_succ, List.setIfInBounds_toArray, List.set_cons_zero, List.set_cons_succ]))
          (refine wpAnyH_take (i := 18) (v := ?_) rfl (by kernel_rfl) (by kernel_rfl) (by kernel_rfl) (fun _ _ _ h => h) (Or.inl ⟨by rfl, ?_⟩) (by assumption) ?_; rotate_left; · (intro w hSw; (try dsimp only at hSw); go_simp; all_goals with_reducible rfl); (try simp only [Act.put, List.getElem_toArray, List.getElem_cons_zero, List.getElem_cons_succ, List.setIfInBounds_toArray, List.set_cons_zero, List.set_cons_succ]))
          (try simp only [Act.put, List.getElem_toArray, List.getElem_cons_zero, List.getElem_cons_succ, List.setIfInBounds_toArray, List.set_cons_zero, List.set_cons_succ])
          (refine wpAnyH_done (by kernel_rfl) ?_ _)
          have HG4 := Lib.hid hGL4
          clear b0 b1 z0 z1 a0 a1 y0 y1 hGL4 hHeld
          obtain ⟨⟨b0, b1⟩, z0, z1⟩ := blk2 HG4.out.1.2.1
          obtain ⟨⟨a0, a1⟩, y0, y1⟩ := blk2 HG4.out.1.1
          go_wp2
          exact bodyPost_ret (v := .agg #[.int .i64 k, .slice A len cap]) (ret2g rfl HG4.out.1.1 (.int .i64 k) (.slice A len cap) _ rfl) rfl (DrewGr.mk k A len cap es rfl (by omega) (HG4.out.1.done hgl))
        · (refine wpAnyH_take (i := 5) (v := ?_) rfl (by kernel_rfl) (by kernel_rfl) (by kernel_rfl) (fun _ _ _ h => h) (Or.inl ⟨by rfl, ?_⟩) (by assumption) ?_; rotate_left; · (intro w hSw; (try dsimp only at hSw); go_simp; all_goals with_reducible rfl); (try simp only [Act.put, List.getElem_toArray, List.getElem_cons_zero, List.getElem_cons_succ, List.setIfInBounds_toArray, List.set_cons_zero, List.set_cons_succ]))
          (try simp only [Act.put, List.getElem_toArray, List.getElem_cons_zero, List.getElem_cons_succ, List.setIfInBounds_toArray, List.set_cons_zero, List.set_cons_succ])
          (refine wpAnyH_take (i := 6) (v := ?_) rfl (by kernel_rfl) (by kernel_rfl) (by kernel_rfl) (fun _ _ _ h => h) (Or.inl ⟨by rfl, ?_⟩) (by assumption) ?_; rotate_left; · (intro w hSw; (try dsimp only at hSw); go_simp; all_goals with_reducible rfl); (try simp only [Act.put, List.getElem_toArray, List.getElem_cons_zero, List.getElem_cons_succ, List.setIfInBounds_toArray, List.set_cons_zero, List.set_cons_succ]))
          (try simp only [Act.put, List.getElem_toArray, List.getElem_cons_zero, List.getElem_cons_succ, List.setIfInBounds_toArray, List.set_cons_zero, List.set_cons_succ])
          (refine wpAnyH_take (i := 7) (v := ?_) rfl (by kernel_rfl) (by kernel_rfl) (by kernel_rfl) (fun _ _ _ h => h) (Or.inl ⟨by rfl, ?_⟩) (by assumption) ?_; rotate_left; · (intro w hSw; (try dsimp only at hSw); go_simp; all_goals with_reducible rfl); (try simp only [Act.put, List.getElem_toArray, List.getElem_cons_zero, List.getElem_cons_succ, List.setIfInBounds_toArray, List.set_cons_zero, List.set_cons_succ]))
          (try simp only [Act.put, List.getElem_toArray, List.getElem_cons_zero, List.getElem_cons_succ, List.setIfInBounds_toArray, List.set_cons_zero, List.set_cons_succ])
          (refine wpAnyH_take (i := 8) (v := ?_) rfl (by kernel_rfl) (by kernel_rfl) (by kernel_rfl) (fun _ _ _ h => h) (Or.inl ⟨by rfl, ?_⟩) (by assumption) ?_; rotate_left; · (intro w hSw; (try dsimp only at hSw); go_simp; all_goals with_reducible rfl); (try simp only [Act.put, List.getElem_toArray, List.getElem_cons_zero, List.getElem_cons_succ, List.setIfInBounds_toArray, List.set_cons_zero, List.set_cons_succ]))
          (try simp only [Act.put, List.getElem_toArray, List.getElem_cons_zero, List.getElem_cons_succ, List.setIfInBounds_toArray, List.set_cons_zero, List.set_cons_succ])
          (refine wpAnyH_take (i := 9) (v := ?_) rfl (by kernel_rfl) (by kernel_rfl) (by kernel_rfl) (fun _ _ _ h => h) (Or.inl ⟨by rfl, ?_⟩) (by assumption) ?_; rotate_left; · (intro w hSw; (try dsimp only at hSw); go_simp; all_goals with_reducible rfl); (try simp only [Act.put, List.getElem_toArray, List.getElem_cons_zero, List.getElem_cons_succ, List.setIfInBounds_toArray, List.set_cons_zero, List.set_cons_succ]))
          (try simp only [Act.put, List.getElem_toArray, List.getElem_cons_zero, List.getElem_cons_succ, List.setIfInBounds_toArray, List.set_cons_zero, List.set_cons_succ])
          (refine wpAnyH_take (i := 10) (v := ?_) rfl (by kernel_rfl) (by kernel_rfl) (by kernel_rfl) (fun _ _ _ h => h) (Or.inl ⟨by rfl, ?_⟩) (by assumption) ?_; rotate_left; · (intro w hSw; (try dsimp only at hSw); go_simp; all_goals with_reducible rfl); (try simp only [Act.put, List.getElem_toArray, List.getElem_cons_zero, List.getElem_cons_succ, List.setIfInBounds_toArray, List.set_cons_zero, List.set_cons_succ]))
          (try simp only [Act.put, List.getElem_toArray, List.getElem_cons_zero, List.getElem_cons_succ, List.setIfInBounds_toArray, List.set_cons_zero, List.set_cons_succ])
          (refine wpAnyH_take (i := 11) (v := ?_) rfl (by kernel_rfl) (by kernel_rfl) (by kernel_rfl) (fun _ _ _ h => h) (Or.inl ⟨by rfl, ?_⟩) (by assumption) ?_; rotate_left; · (intro w hSw; (try dsimp only at hSw); go_simp; all_goals with_reducible rfl); (try simp only [Act.put, List.getElem_toArray, List.getElem_cons_zero, List.getElem_cons_succ, List.setIfInBounds_toArray, List.set_cons_zero, List.set_cons_succ]))
          (try simp only [Act.put, List.getElem_toArray, List.getElem_cons_zero, List.getElem_cons_succ, List.setIfInBounds_toArray, List.set_cons_zero, List.set_cons_succ])
          (refine wpAnyH_take (i := 12) (v := ?_) rfl (by kernel_rfl) (by kernel_rfl) (by kernel_rfl) (fun _ _ _ h => h) (Or.inl ⟨by rfl, ?_⟩) (by assumption) ?_; rotate_left; · (intro w hSw; (try dsimp only at hSw); go_simp; all_goals with_reducible rfl); (try simp only [Act.put, List.getElem_toArray, List.getElem_cons_zero, List.getElem_cons_succ, List.setIfInBounds_toArray, List.set_cons_zero, List.set_cons_succ]))
          (try simp only [Act.put, List.getElem_toArray, List.getElem_cons_zero, List.getElem_cons_succ, List.setIfInBounds_toArray, List.set_cons_zero, List.set_cons_succ])
          (refine wpAnyH_take (i := 13) (v := .int .i64 m) rfl (by kernel_rfl) (by kernel_rfl) (by kernel_rfl) (fun _ _ _ h => h) (Or.inl ⟨by rfl, ?_⟩) (by assumption) ?_; · (intro w hSw; (try dsimp only at hSw); go_simp; first | done | exact IntWalk.i64_in _ (by omega)))
          (try simp only [Act.put, List.getElem_toArray, List.getElem_cons_zero, List.getElem_cons_succ, List.setIfInBounds_toArray, List.set_cons_zero, List.set_cons_succ])
          (refine wpAnyH_take (i := 14) (v := ?_) rfl (by kernel_rfl) (by kernel_rfl) (by kernel_rfl) (fun _ _ _ h => h) (Or.inl ⟨by rfl, ?_⟩) (by assumption) ?_; rotate_left; · (intro w hSw; (try dsimp only at hSw); go_simp; all_goals with_reducible rfl); (try simp only [Act.put, List.getElem_toArray, List.getElem_cons_zero, List.getElem_cons_succ, List.setIfInBounds_toArray, List.set_cons_zero, List.set_cons_succ]))
          (try simp only [Act.put, List.getElem_toArray, List.getElem_cons_zero, List.getElem_cons_succ, List.setIfInBounds_toArray, List.set_cons_zero, List.set_cons_succ])
          (refine wpAnyH_take (i := 15) (v := ?_) rfl (by kernel_rfl) (by kernel_rfl) (by kernel_rfl) (fun _ _ _ h => h) (Or.inl ⟨by rfl, ?_⟩) (by assumption) ?_; rotate_left; · (intro w hSw; (try dsimp only at hSw); go_simp; all_goals with_reducible rfl); (try simp only [Act.put, List.getElem_toArray, List.getElem_cons_zero, List.getElem_cons_succ, List.setIfInBounds_toArray, List.set_cons_zero, List.set_cons_succ]))
          (try simp only [Act.put, List.getElem_toArray, List.getElem_cons_zero, List.getElem_cons_succ, List.setIfInBounds_toArray, List.set_cons_zero, List.set_cons_succ])
          (refine wpAnyH_ready (rs := [16]) (by kernel_rfl) (by simp) ?_; refine AllReadyH.cons rfl (fun K hK => ?_) AllReadyH.nil; go_simp)
          refine (spec_AreCoupled_any _ _ _ _ _ hHeld.1.1.at.2 (by have := hHeld.1.1.at.1; simp; omega)).mono ?_
          rintro e w5 ⟨rfl, hx5⟩
          have hGL5 := hHeld.1.grown (hx5.gr (some g)) (hHeld.1.cur.ext hx5) hgs hgl
          generalize (hasE _ _ _ || hasE _ _ _) = cc
          refine hK.out _ _ (hS _ hGL5) (fun hHeld => ?_)
          clear hK K hx5
          (try simp only [Act.put, List.getElem_toArray, List.getElem_cons_zero, List.getElem_cons_succ, List.setIfInBounds_toArray, List.set_cons_zero, List.set_cons_succ])
          cases cc
          · (refine wpAnyH_take (i := 17) (v := ?_) rfl (by kernel_rfl) (by kernel_rfl) (by kernel_rfl) (fun _ _ _ h => h) (Or.inl ⟨by rfl, ?_⟩) (by assumption) ?_; rotate_left; · (intro w hSw; (try dsimp only at hSw); go_simp; all_goals with_reducible rfl); (try simp only [Act.put, List.getElem_toArray, List.getElem_cons_zero, List.getElem_cons_succ, List.setIfInBounds_toArray, List.set_cons_zero, List.set_cons_succ]))
            (try simp only [Act.put, List.getElem_toArray, List.getElem_cons_zero, List.getElem_cons_succ, List.setIfInBounds_toArray, List.set_cons_zero, List.set_cons_succ])
            (refine wpAnyH_take (i := 18) (v := ?_) rfl (by kernel_rfl) (by kernel_rfl) (by kernel_rfl) (fun _ _ _ h => h) (Or.inl ⟨by rfl, ?_⟩) (by assumption) ?_; rotate_left; · (intro w hSw; (try dsimp only at hSw); go_simp; all_goals with_reducible rfl); (try simp only [Act.put, List.getElem_toArray, List.getElem_cons_zero, List.getElem_cons_succ, List.setIfInBounds_toArray, List.set_cons_zero, List.set_cons_succ]))
            (try simp only [Act.put, List.getElem_toArray, List.getElem_cons_zero, List.getElem_cons_succ, List.setIfInBounds_toArray, List.set_cons_zero, List.set_cons_succ])
            (refine wpAnyH_done (by kernel_rfl) ?_ _)
            have HG5 := Lib.hid hGL5
            have hs5 := hGL5.1.2.1.lt
            have hw5 := hGL5.1.1.lt
            obtain ⟨-, p0, pm, k0, k1⟩ := hS _ hGL5
            clear b0 b1 z0 z1 a0 a1 y0 y1 hGL5 hGL4 hHeld hS
            obtain ⟨⟨b0, b1⟩, z0, z1⟩ := blk2 HG5.out.1.2.1
            have HD5 := Lib.hid HG5.out.drew
            have hwm : IntKind.i64.wrap (m : Int) = (m : Int) := IntWalk.i64_in _ (by omega)
            go_wp2
            go_region_law (first
              | (refine stepE1 (B := w.heap.size + 1) (by rfl) _ _ (by rfl) _ len es (by rfl) HD5.out.1.2.2.1 (by have := HD5.out.1.1.lt; omega) ⟨_, _⟩ _ _ (by rfl) (by rfl) (by omega) ?_; intro A6 c6 w6 ho6 hg6 hb6; have HA := Lib.hid (HD5.out.app (y := ⟨xs.getD 0 0, xs.getD m 0⟩) ⟨HD5.out.2.1.rng hkN, HD5.out.2.1.rng hmN⟩ hws hgl ho6 hg6 hb6); have k6 : w6.cell? ⟨s, 1, none⟩ = some (.slice A len cap) := HA.out.1.cell 1; have f6 : w6.frozen? ⟨s, 1, none⟩ = false := HA.out.1.frozen 1))
            all_goals
              clear k6 f6 b0 b1 z0 z1 k0 k1
              have HD := Lib.hid HA.out.2
              obtain ⟨⟨b0, b1⟩, z0, z1⟩ := blk2 HD.out.1.2.1
              obtain ⟨⟨a0, a1⟩, y0, y1⟩ := blk2 HD.out.1.1
              go_wp2
              exact bodyPost_ret (v := .agg #[.int .i64 k, .slice A6 (len + 1) c6]) (ret2g rfl HD.out.1.1 (.int .i64 k) (.slice A6 (len + 1) c6) _ rfl) rfl (DrewGr.mk k A6 (len + 1) c6 _ rfl (by omega) (HD.out.1.done hgl))
          · (refine wpAnyH_take (i := 17) (v := ?_) rfl (by kernel_rfl) (by kernel_rfl) (by kernel_rfl) (fun _ _ _ h => h) (Or.inl ⟨by rfl, ?_⟩) (by assumption) ?_; rotate_left; · (intro w hSw; (try dsimp only at hSw); go_simp; all_goals with_reducible rfl); (try simp only [Act.put, List.getElem_toArray, List.getElem_cons_zero, List.getElem_cons_succ, List.setIfInBounds_toArray, List.set_cons_zero, List.set_cons_succ]))
            (try simp only [Act.put, List.getElem_toArray, List.getElem_cons_zero, List.getElem_cons_succ, List.setIfInBounds_toArray, List.set_cons_zero, List.set_cons_succ])
            (refine wpAnyH_take (i := 18) (v := ?_) rfl (by kernel_rfl) (by kernel_rfl) (by kernel_rfl) (fun _ _ _ h => h) (Or.inl ⟨by rfl, ?_⟩) (by assumption) ?_; rotate_left; · (intro w hSw; (try dsimp only at hSw); go_simp; all_goals with_reducible rfl); (try simp only [Act.put, List.getElem_toArray, List.getElem_cons_zero, List.getElem_cons_succ, List.setIfInBounds_toArray, List.set_cons_zero, List.set_cons_succ]))
            (try simp only [Act.put, List.getElem_toArray, List.getElem_cons_zero, List.getElem_cons_succ, List.setIfInBounds_toArray, List.set_cons_zero, List.set_cons_succ])
            (refine wpAnyH_done (by kernel_rfl) ?_ _)
            have HG4 := Lib.hid hGL5
            have hw5 := hGL5.1.1.lt
            clear b0 b1 z0 z1 a0 a1 y0 y1 hGL5 hGL4 hHeld
            obtain ⟨⟨b0, b1⟩, z0, z1⟩ := blk2 HG4.out.1.2.1
            obtain ⟨⟨a0, a1⟩, y0, y1⟩ := blk2 HG4.out.1.1
            go_wp2
            exact bodyPost_ret (v := .agg #[.int .i64 k, .slice A len cap]) (ret2g rfl HG4.out.1.1 (.int .i64 k) (.slice A len cap) _ rfl) rfl (DrewGr.mk k A len cap es rfl (by omega) (HG4.out.1.done hgl))
end Go.Proofs.YteecjnnompjmiabDoor
