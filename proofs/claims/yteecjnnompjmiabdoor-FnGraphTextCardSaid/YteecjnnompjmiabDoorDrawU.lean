/-
  Helper text (no claim of its own): drawn graphs, bent.
-/
import Derived.Test.YteecjnnompjmiabDoorDrawT
namespace Go.Proofs.YteecjnnompjmiabDoor
open Go.ChangeShapes Go.WideShapes Go.ChangeAt Go.RowKit Go.Deep
set_option linter.unusedVariables false
set_option linter.unusedSimpArgs false
theorem own_prefix {w : World} {B e size n k c : Nat} {A : Option Addr} {xs : List Value} (h : w.ownsRow B e size (.slice A n c) n xs) (hk : k ≤ n) : w.ownsRow B e size (.slice A k c) k (xs.take (k * size)) := by
  have hks := Nat.mul_le_mul_right size hk
  obtain ⟨hl, h⟩ := h
  refine ⟨by rw [List.length_take, hl]; omega, ?_⟩
  rcases h with ⟨hv, hn⟩ | ⟨g, cap, cur, hv, hb, hg, h1, h2, h3, h4⟩
  · injection hv with e1 e2 e3
    subst e1; subst e3
    exact .inl ⟨by rw [show k = 0 by omega], by omega⟩
  · injection hv with e1 e2 e3
    subst e1; subst e3
    refine .inr ⟨g, _, cur, rfl, hb, hg, by omega, h2, h3, ?_⟩
    rw [← h4, List.take_take, Nat.min_eq_left hks]
theorem ecells_take (k : Nat) (es : List Ed) : ecells (es.take k) = (ecells es).take (k * 2) := by
  induction es generalizing k with
  | nil => simp [ecells]
  | cons y es ih =>
    cases k with
    | zero => simp [ecells]
    | succ k =>
      have := ih k
      simp only [ecells] at this ⊢
      simp only [List.take_succ_cons, List.flatMap_cons, this, Ed.cells, List.cons_append, List.nil_append, Nat.succ_mul]
theorem own_lc {w : World} {B e size n c : Nat} {A : Option Addr} {xs : List Value} (h : w.ownsRow B e size (.slice A n c) n xs) : n ≤ c := by
  rcases h.2 with ⟨h0, rfl⟩ | ⟨g, cap, cur, hv, _, _, hnc, _⟩
  · omega
  · injection hv with _ _ h3
    omega
theorem DG.cut {w0 w : World} {g s : Nat} {N : Int} {A : Option Addr} {len cap : Nat} {gs : List Ed} (h : DG w0 w g s N A len cap gs) {k : Nat} (hk : k ≤ len) (hs : w0.heap.size < s) (hl : g < w0.heap.size) : DG w0 (w.setCell ⟨s, 1, none⟩ (.slice A k cap)) g s N A k cap (gs.take k) := by
  obtain ⟨h1, h2, h3, h4, h5, h6, h7⟩ := h
  have h3' := own_prefix h3 hk
  rw [← ecells_take] at h3'
  have h4' : ∀ q, (Value.slice A k cap).ownBlock = some q → w0.heap.size + 1 ≤ q ∧ q ≠ s := by cases A <;> exact h4
  refine ⟨h1.far (p := ⟨s, 1, none⟩) (by simp; omega) _, h2.set_ 1 _, ?_, h4', h5.set_ (p := ⟨s, 1, none⟩) (by simp; omega) _, gr_set h6 (p := ⟨s, 1, none⟩) (by simp; omega) _, fun e he => h7 e (List.mem_of_mem_take he)⟩
  refine h3'.kept (row := some s) (gr_setCell (World.grownBy.refl w (some s)) 1 _) ?_
  cases hv : (Value.slice A k cap).ownBlock with
  | none => exact .inl rfl
  | some q => exact .inr (fun e => (h4' q hv).2 (by injection e))
set_option maxRecDepth 100000 in
set_option maxHeartbeats 16000000 in
theorem l36Bent_any (g : Nat) (w : World) (h : Cur w g) :
    Calls Tryd.prog 12 #[.pointer (some ⟨g, 0, none⟩)] w (DrewGr w g 8 (fun N => -1 ≤ N ∧ N ≤ 5)) := by
  have hgl := h.lt
  go_enter Tryd.func12, Tryd.ntmps12
  go_wp2_with fail
  refine (l1Below_any g 4 _ (h.alloc _) (by omega)).mono ?_
  rintro e w2 ⟨x, rfl, ⟨hx0, hx1, _⟩, hC2, hG2⟩
  obtain ⟨n, rfl⟩ := Int.eq_ofNat_of_zero_le hx0
  have hx2 : n < 4 := by have := hx1 (by omega); omega
  clear hx1 hx0
  go_wp2_with fail
  obtain ⟨n1, e1, hb1, hb2⟩ : ∃ n1 : Nat, (1 : Int) + (n : Int) = (n1 : Int) ∧ 1 ≤ n1 ∧ n1 ≤ 4 := ⟨n + 1, by omega, by omega, by omega⟩
  rw [e1]
  clear e1
  refine (l36Right_any g n1 ⟨by omega, by omega⟩ _ hC2).mono ?_
  rintro e w3 ⟨N, A, len, cap, gs, rfl, rfl, hlen, ho3, hC3, hG3, hok3⟩
  have hB2 := (Blk.new w 26 #[.int .i64 0, .slice none 0 0]).grown hG2 (fun k hk => by injection hk; omega)
  have hB3 := hB2.grown hG3 (fun k hk => by injection hk; omega)
  have hl2 := hB2.lt
  have hl3 := hB3.lt
  have hg3 : w.grownBy w3 (some g) := gr_trans (gr_trans (((Ext.refl w).alloc _).gr _) hG2) hG3
  have hD : DG w (w3.alloc (.cells #[.int .i64 n1, .slice A len cap] 26)) g w3.heap.size n1 A len cap gs :=
    ⟨hB3.alloc _, Blk.new _ _ _, own_ext (own_base ho3 hl2) ((Ext.refl w3).alloc _), own_ne (own_base ho3 hl2) (Nat.le_refl _), hC3.alloc _, gr_alloc hg3 _, hok3⟩
  clear hB2 hB3 hG2 hG3 hg3 hC2 ho3
  go_wp2_with fail
  refine (l1Below_any g 8 _ (hC3.alloc _) (by omega)).mono ?_
  rintro e w4 ⟨x, rfl, ⟨hx0, hx1, _⟩, hC4, hG4⟩
  have hx2 := hx1 (by omega)
  clear hx1
  have hgs : g < w3.heap.size := by omega
  have hD4 := hD.grown hG4 hC4 hgs hgl
  clear hD hG4 hC3
  generalize w3.heap.size = s at *
  have hs4 := hD4.2.1.lt
  have hw4 := hD4.1.lt
  have hge : w.heap.size + 1 ≤ w4.heap.size := by omega
  by_cases e0 : x = 0
  · subst e0
    go_wp2_with fail
    refine (l1PickInt_any g _ 5 _ [0, 1, 4, 5, -1] _ (hC4.alloc _) (rd_newN w4 _ _ _ 5 1 _ rfl rfl rfl) (by intro b o e; injection e with e; injection e with e1; omega) (by omega)).mono ?_
    rintro e w5 ⟨z, rfl, hz, hC5, hG5⟩
    have hD5 := (hD4.alloc _).grown hG5 hC5 hgs hgl
    have hz2 : -1 ≤ z ∧ z ≤ 5 := by simp at hz; omega
    clear hz hD4 hC4 hG5
    have hD6 := hD5.setN z (by omega) hgl
    obtain ⟨⟨b0, b1⟩, z0, z1⟩ := blk2 hD5.2.1
    obtain ⟨⟨a0, a1⟩, y0, y1⟩ := blk2 hD5.1
    have HD := Lib.hid hD6
    clear hD6 hD5
    go_wp2
    exact bodyPost_ret (v := .agg #[.int .i64 z, .slice A len cap]) (ret2g rfl HD.out.1 (.int .i64 z) (.slice A len cap) _ rfl) rfl (DrewGr.mk (z) A (len) cap (gs) (hz2) (by omega) (HD.out.done hgl))
  by_cases e1 : x = 1
  · subst e1
    have HD4 := Lib.hid hD4
    obtain ⟨⟨b0, b1⟩, z0, z1⟩ := blk2 hD4.2.1
    clear hD4
    go_wp2
    have hHeld : True := trivial
    refine wp_region_held_drew (S := fun _ => True) (by kernel_rfl) trivial (fun hHeld => ?_)
    (refine wpAnyH_take (i := 0) (v := ?_) rfl (by kernel_rfl) (by kernel_rfl) (by kernel_rfl) (fun _ _ _ h => h) (Or.inl ⟨by rfl, ?_⟩) (by assumption) ?_; rotate_left; · (intro w hSw; (try dsimp only at hSw); go_simp; all_goals with_reducible rfl); (try simp only [Act.put, List.getElem_toArray, List.getElem_cons_zero, List.getElem_cons_succ, List.setIfInBounds_toArray, List.set_cons_zero, List.set_cons_succ]))
    (try simp only [Act.put, List.getElem_toArray, List.getElem_cons_zero, List.getElem_cons_succ, List.setIfInBounds_toArray, List.set_cons_zero, List.set_cons_succ])
    (refine wpAnyH_take (i := 2) (v := ?_) rfl (by kernel_rfl) (by kernel_rfl) (by kernel_rfl) (fun _ _ _ h => h) (Or.inl ⟨by rfl, ?_⟩) (by assumption) ?_; rotate_left; · (intro w hSw; (try dsimp only at hSw); go_simp; all_goals with_reducible rfl); (try simp only [Act.put, List.getElem_toArray, List.getElem_cons_zero, List.getElem_cons_succ, List.setIfInBounds_toArray, List.set_cons_zero, List.set_cons_succ]))
    (try simp only [Act.put, List.getElem_toArray, List.getElem_cons_zero, List.getElem_cons_succ, List.setIfInBounds_toArray, List.set_cons_zero, List.set_cons_succ])
    (refine wpAnyH_take (i := 5) (v := ?_) rfl (by kernel_rfl) (by kernel_rfl) (by kernel_rfl) (fun _ _ _ h => h) (Or.inl ⟨by rfl, ?_⟩) (by assumption) ?_; rotate_left; · (intro w hSw; (try dsimp only at hSw); go_simp; all_goals with_reducible rfl); (try simp only [Act.put, List.getElem_toArray, List.getElem_cons_zero, List.getElem_cons_succ, List.setIfInBounds_toArray, List.set_cons_zero, List.set_cons_succ]))
    (try simp only [Act.put, List.getElem_toArray, List.getElem_cons_zero, List.getElem_cons_succ, List.setIfInBounds_toArray, List.set_cons_zero, List.set_cons_succ])
    refine wpAnyH_ready (rs := [1, 3]) (by kernel_rfl) (by simp) ?_
    refine AllReadyH.cons rfl (fun K hK => ?wL) (AllReadyH.cons rfl (fun K hK => ?wC) AllReadyH.nil)
    case' wL =>
      go_simp
      refine hK.out _ _ trivial (fun hHeld => ?_)
      clear hK K hHeld
      have hHeld : True := trivial
      (try simp only [Act.put, List.getElem_toArray, List.getElem_cons_zero, List.getElem_cons_succ, List.setIfInBounds_toArray, List.set_cons_zero, List.set_cons_succ])
      refine wpAnyH_ready (rs := [3]) (by kernel_rfl) (by simp) ?_
      refine AllReadyH.cons rfl (fun K hK => ?_) AllReadyH.nil
      go_simp
      refine (l1Below_any g 6 _ HD4.out.drew.2.2.2.2.1 (by omega)).mono ?_
      rintro e w5 ⟨y, rfl, ⟨hy0, hy1, _⟩, hC5, hG5⟩
      have hy2 := hy1 (by omega)
      clear hy1
      have HD5 := Lib.hid (HD4.out.drew.grown hG5 hC5 hgs hgl)
      have k1 : w5.cell? ⟨s, 1, none⟩ = some (.slice A len cap) := HD5.out.2.1.cell 1
      have hs5 := HD5.out.2.1.lt
      clear hG5
      refine hK.out _ _ trivial (fun hHeld => ?_)
      clear hK K hHeld
      have hHeld : True := trivial
      (try simp only [Act.put, List.getElem_toArray, List.getElem_cons_zero, List.getElem_cons_succ, List.setIfInBounds_toArray, List.set_cons_zero, List.set_cons_succ])
      (refine wpAnyH_take (i := 4) (v := .int .i64 (y - 1)) rfl (by kernel_rfl) (by kernel_rfl) (by kernel_rfl) (fun _ _ _ h => h) (Or.inl ⟨by rfl, ?_⟩) (by assumption) ?_; · (intro w hSw; (try dsimp only at hSw); go_simp; first | done | exact IntWalk.i64_in _ (by omega)))
      (try simp only [Act.put, List.getElem_toArray, List.getElem_cons_zero, List.getElem_cons_succ, List.setIfInBounds_toArray, List.set_cons_zero, List.set_cons_succ])
      refine wpAnyH_ready (rs := [6]) (by kernel_rfl) (by simp) ?_
      refine AllReadyH.cons rfl (fun K hK => ?_) AllReadyH.nil
      go_simp
      refine (l1Below_any g 5 _ hC5 (by omega)).mono ?_
      rintro e w6 ⟨z, rfl, ⟨hz0, hz1, _⟩, hC6, hG6⟩
      have hz2 := hz1 (by omega)
      clear hz1
      have HD6 := Lib.hid (HD5.out.grown hG6 hC6 hgs hgl)
      have m1 : w6.cell? ⟨s, 1, none⟩ = some (.slice A len cap) := HD6.out.2.1.cell 1
      have hs6 := HD6.out.2.1.lt
      clear hG6
      refine hK.out _ _ trivial (fun hHeld => ?_)
      clear hK K hHeld
      have hHeld : True := trivial
      (try simp only [Act.put, List.getElem_toArray, List.getElem_cons_zero, List.getElem_cons_succ, List.setIfInBounds_toArray, List.set_cons_zero, List.set_cons_succ])
      (refine wpAnyH_take (i := 7) (v := ?_) rfl (by kernel_rfl) (by kernel_rfl) (by kernel_rfl) (fun _ _ _ h => h) (Or.inl ⟨by rfl, ?_⟩) (by assumption) ?_; rotate_left; · (intro w hSw; (try dsimp only at hSw); go_simp; all_goals with_reducible rfl); (try simp only [Act.put, List.getElem_toArray, List.getElem_cons_zero, List.getElem_cons_succ, List.setIfInBounds_toArray, List.set_cons_zero, List.set_cons_succ]))
      (try simp only [Act.put, List.getElem_toArray, List.getElem_cons_zero, List.getElem_cons_succ, List.setIfInBounds_toArray, List.set_cons_zero, List.set_cons_succ])
      refine wpAnyH_ready (rs := [8]) (by kernel_rfl) (by simp) ?_
      refine AllReadyH.cons rfl (fun K hK => ?_) AllReadyH.nil
      go_simp
      refine hK.out _ _ trivial (fun hHeld => ?_)
      clear hK K hHeld
      have hHeld : True := trivial
      (try simp only [Act.put, List.getElem_toArray, List.getElem_cons_zero, List.getElem_cons_succ, List.setIfInBounds_toArray, List.set_cons_zero, List.set_cons_succ])
    case' wC =>
      go_simp
      refine (l1Below_any g 6 _ HD4.out.drew.2.2.2.2.1 (by omega)).mono ?_
      rintro e w5 ⟨y, rfl, ⟨hy0, hy1, _⟩, hC5, hG5⟩
      have hy2 := hy1 (by omega)
      clear hy1
      have HD5 := Lib.hid (HD4.out.drew.grown hG5 hC5 hgs hgl)
      have k1 : w5.cell? ⟨s, 1, none⟩ = some (.slice A len cap) := HD5.out.2.1.cell 1
      have hs5 := HD5.out.2.1.lt
      clear hG5
      refine hK.out _ _ trivial (fun hHeld => ?_)
      clear hK K hHeld
      have hHeld : True := trivial
      (try simp only [Act.put, List.getElem_toArray, List.getElem_cons_zero, List.getElem_cons_succ, List.setIfInBounds_toArray, List.set_cons_zero, List.set_cons_succ])
      (refine wpAnyH_take (i := 4) (v := .int .i64 (y - 1)) rfl (by kernel_rfl) (by kernel_rfl) (by kernel_rfl) (fun _ _ _ h => h) (Or.inl ⟨by rfl, ?_⟩) (by assumption) ?_; · (intro w hSw; (try dsimp only at hSw); go_simp; first | done | exact IntWalk.i64_in _ (by omega)))
      (try simp only [Act.put, List.getElem_toArray, List.getElem_cons_zero, List.getElem_cons_succ, List.setIfInBounds_toArray, List.set_cons_zero, List.set_cons_succ])
      refine wpAnyH_ready (rs := [1, 6]) (by kernel_rfl) (by simp) ?_
      refine AllReadyH.cons rfl (fun K hK => ?wL2) (AllReadyH.cons rfl (fun K hK => ?wC2) AllReadyH.nil)
    case' wL2 =>
      go_simp
      refine hK.out _ _ trivial (fun hHeld => ?_)
      clear hK K hHeld
      have hHeld : True := trivial
      (try simp only [Act.put, List.getElem_toArray, List.getElem_cons_zero, List.getElem_cons_succ, List.setIfInBounds_toArray, List.set_cons_zero, List.set_cons_succ])
      refine wpAnyH_ready (rs := [6]) (by kernel_rfl) (by simp) ?_
      refine AllReadyH.cons rfl (fun K hK => ?_) AllReadyH.nil
      go_simp
      refine (l1Below_any g 5 _ hC5 (by omega)).mono ?_
      rintro e w6 ⟨z, rfl, ⟨hz0, hz1, _⟩, hC6, hG6⟩
      have hz2 := hz1 (by omega)
      clear hz1
      have HD6 := Lib.hid (HD5.out.grown hG6 hC6 hgs hgl)
      have m1 : w6.cell? ⟨s, 1, none⟩ = some (.slice A len cap) := HD6.out.2.1.cell 1
      have hs6 := HD6.out.2.1.lt
      clear hG6
      refine hK.out _ _ trivial (fun hHeld => ?_)
      clear hK K hHeld
      have hHeld : True := trivial
      (try simp only [Act.put, List.getElem_toArray, List.getElem_cons_zero, List.getElem_cons_succ, List.setIfInBounds_toArray, List.set_cons_zero, List.set_cons_succ])
      (refine wpAnyH_take (i := 7) (v := ?_) rfl (by kernel_rfl) (by kernel_rfl) (by kernel_rfl) (fun _ _ _ h => h) (Or.inl ⟨by rfl, ?_⟩) (by assumption) ?_; rotate_left; · (intro w hSw; (try dsimp only at hSw); go_simp; all_goals with_reducible rfl); (try simp only [Act.put, List.getElem_toArray, List.getElem_cons_zero, List.getElem_cons_succ, List.setIfInBounds_toArray, List.set_cons_zero, List.set_cons_succ]))
      (try simp only [Act.put, List.getElem_toArray, List.getElem_cons_zero, List.getElem_cons_succ, List.setIfInBounds_toArray, List.set_cons_zero, List.set_cons_succ])
      refine wpAnyH_ready (rs := [8]) (by kernel_rfl) (by simp) ?_
      refine AllReadyH.cons rfl (fun K hK => ?_) AllReadyH.nil
      go_simp
      refine hK.out _ _ trivial (fun hHeld => ?_)
      clear hK K hHeld
      have hHeld : True := trivial
      (try simp only [Act.put, List.getElem_toArray, List.getElem_cons_zero, List.getElem_cons_succ, List.setIfInBounds_toArray, List.set_cons_zero, List.set_cons_succ])
    case' wC2 =>
      go_simp
      refine (l1Below_any g 5 _ hC5 (by omega)).mono ?_
      rintro e w6 ⟨z, rfl, ⟨hz0, hz1, _⟩, hC6, hG6⟩
      have hz2 := hz1 (by omega)
      clear hz1
      have HD6 := Lib.hid (HD5.out.grown hG6 hC6 hgs hgl)
      have m1 : w6.cell? ⟨s, 1, none⟩ = some (.slice A len cap) := HD6.out.2.1.cell 1
      have hs6 := HD6.out.2.1.lt
      clear hG6
      refine hK.out _ _ trivial (fun hHeld => ?_)
      clear hK K hHeld
      have hHeld : True := trivial
      (try simp only [Act.put, List.getElem_toArray, List.getElem_cons_zero, List.getElem_cons_succ, List.setIfInBounds_toArray, List.set_cons_zero, List.set_cons_succ])
      (refine wpAnyH_take (i := 7) (v := ?_) rfl (by kernel_rfl) (by kernel_rfl) (by kernel_rfl) (fun _ _ _ h => h) (Or.inl ⟨by rfl, ?_⟩) (by assumption) ?_; rotate_left; · (intro w hSw; (try dsimp only at hSw); go_simp; all_goals with_reducible rfl); (try simp only [Act.put, List.getElem_toArray, List.getElem_cons_zero, List.getElem_cons_succ, List.setIfInBounds_toArray, List.set_cons_zero, List.set_cons_succ]))
      (try simp only [Act.put, List.getElem_toArray, List.getElem_cons_zero, List.getElem_cons_succ, List.setIfInBounds_toArray, List.set_cons_zero, List.set_cons_succ])
      refine wpAnyH_ready (rs := [1, 8]) (by kernel_rfl) (by simp) ?_
      refine AllReadyH.cons rfl (fun K hK => ?wL3) (AllReadyH.cons rfl (fun K hK => ?wC3) AllReadyH.nil)
    case' wL3 =>
      go_simp
      refine hK.out _ _ trivial (fun hHeld => ?_)
      clear hK K hHeld
      have hHeld : True := trivial
      (try simp only [Act.put, List.getElem_toArray, List.getElem_cons_zero, List.getElem_cons_succ, List.setIfInBounds_toArray, List.set_cons_zero, List.set_cons_succ])
      refine wpAnyH_ready (rs := [8]) (by kernel_rfl) (by simp) ?_
      refine AllReadyH.cons rfl (fun K hK => ?_) AllReadyH.nil
      go_simp
      refine hK.out _ _ trivial (fun hHeld => ?_)
      clear hK K hHeld
      have hHeld : True := trivial
      (try simp only [Act.put, List.getElem_toArray, List.getElem_cons_zero, List.getElem_cons_succ, List.setIfInBounds_toArray, List.set_cons_zero, List.set_cons_succ])
    case' wC3 =>
      go_simp
      refine hK.out _ _ trivial (fun hHeld => ?_)
      clear hK K hHeld
      have hHeld : True := trivial
      (try simp only [Act.put, List.getElem_toArray, List.getElem_cons_zero, List.getElem_cons_succ, List.setIfInBounds_toArray, List.set_cons_zero, List.set_cons_succ])
      refine wpAnyH_ready (rs := [1]) (by kernel_rfl) (by simp) ?_
      refine AllReadyH.cons rfl (fun K hK => ?_) AllReadyH.nil
      go_simp
      refine hK.out _ _ trivial (fun hHeld => ?_)
      clear hK K hHeld
      have hHeld : True := trivial
      (try simp only [Act.put, List.getElem_toArray, List.getElem_cons_zero, List.getElem_cons_succ, List.setIfInBounds_toArray, List.set_cons_zero, List.set_cons_succ])
    all_goals
      refine wpAnyH_ready (rs := [9]) (by kernel_rfl) (by simp) ?_
      refine AllReadyH.cons rfl (fun K hK => ?_) AllReadyH.nil
      refine stepE1 (B := w.heap.size + 1) (by rfl) _ _ (by rfl) _ len gs (by rfl) HD6.out.2.2.1 (by have := HD6.out.1.lt; omega) ⟨y - 1, z⟩ _ _ (by rfl) (by rfl) (by omega) ?_
      intro A6 c6 w7 ho6 hg6 hb6
      have HA := Lib.hid (HD6.out.app (y := ⟨y - 1, z⟩) ⟨by unfold I64; dsimp only; omega, by unfold I64; dsimp only; omega⟩ (by omega) hgl ho6 hg6 hb6)
      have k6 : w7.cell? ⟨s, 1, none⟩ = some (.slice A len cap) := HA.out.1.cell 1
      have f6 : w7.frozen? ⟨s, 1, none⟩ = false := HA.out.1.frozen 1
      clear ho6 hg6 hb6
      refine hK.out _ _ trivial (fun hHeld => ?_)
      clear hK K hHeld
      have hHeld : True := trivial
      (try simp only [Act.put, List.getElem_toArray, List.getElem_cons_zero, List.getElem_cons_succ, List.setIfInBounds_toArray, List.set_cons_zero, List.set_cons_succ])
      (refine wpAnyH_take (i := 10) (v := ?_) rfl (by kernel_rfl) (by kernel_rfl) (by kernel_rfl) (fun _ _ _ h => h) (Or.inl ⟨by rfl, ?_⟩) (by assumption) ?_; rotate_left; · (intro w hSw; (try dsimp only at hSw); go_simp; all_goals with_reducible rfl); (try simp only [Act.put, List.getElem_toArray, List.getElem_cons_zero, List.getElem_cons_succ, List.setIfInBounds_toArray, List.set_cons_zero, List.set_cons_succ]))
      (try simp only [Act.put, List.getElem_toArray, List.getElem_cons_zero, List.getElem_cons_succ, List.setIfInBounds_toArray, List.set_cons_zero, List.set_cons_succ])
      refine wpAnyH_ready (rs := [11]) (by kernel_rfl) (by simp) ?_
      refine AllReadyH.cons rfl (fun K hK => ?_) AllReadyH.nil
      go_simp
      refine hK.out _ _ trivial (fun hHeld => ?_)
      clear hK K hHeld
      have hHeld : True := trivial
      (try simp only [Act.put, List.getElem_toArray, List.getElem_cons_zero, List.getElem_cons_succ, List.setIfInBounds_toArray, List.set_cons_zero, List.set_cons_succ])
      (refine wpAnyH_done (by kernel_rfl) ?_ _)
      clear k6 f6 k1 m1 b0 b1 z0 z1
      have HD := Lib.hid HA.out.2
      obtain ⟨⟨b0, b1⟩, z0, z1⟩ := blk2 HD.out.2.1
      obtain ⟨⟨a0, a1⟩, y0, y1⟩ := blk2 HD.out.1
      go_wp2
      exact bodyPost_ret (v := .agg #[.int .i64 n1, .slice A6 (len + 1) c6]) (ret2g rfl HD.out.1 (.int .i64 n1) (.slice A6 (len + 1) c6) _ rfl) rfl (DrewGr.mk n1 A6 (len + 1) c6 _ ⟨by omega, by omega⟩ (by omega) (HD.out.done hgl))
  by_cases e2 : x = 2
  · subst e2
    have HD4 := Lib.hid hD4
    obtain ⟨⟨b0, b1⟩, z0, z1⟩ := blk2 hD4.2.1
    clear hD4
    have hlw : IntKind.i64.wrap ((len : Int) + 1) = (len : Int) + 1 := IntWalk.i64_in _ (by omega)
    go_wp2
    have hHeld : True := trivial
    have hlc : len ≤ cap := own_lc HD4.out.2.2.1
    refine wp_region_held_drew (S := fun _ => True) (by kernel_rfl) trivial (fun hHeld => ?_)
    (refine wpAnyH_take (i := 0) (v := ?_) rfl (by kernel_rfl) (by kernel_rfl) (by kernel_rfl) (fun _ _ _ h => h) (Or.inl ⟨by rfl, ?_⟩) (by assumption) ?_; rotate_left; · (intro w hSw; (try dsimp only at hSw); go_simp; all_goals with_reducible rfl); (try simp only [Act.put, List.getElem_toArray, List.getElem_cons_zero, List.getElem_cons_succ, List.setIfInBounds_toArray, List.set_cons_zero, List.set_cons_succ]))
    (try simp only [Act.put, List.getElem_toArray, List.getElem_cons_zero, List.getElem_cons_succ, List.setIfInBounds_toArray, List.set_cons_zero, List.set_cons_succ])
    (refine wpAnyH_take (i := 2) (v := ?_) rfl (by kernel_rfl) (by kernel_rfl) (by kernel_rfl) (fun _ _ _ h => h) (Or.inl ⟨by rfl, ?_⟩) (by assumption) ?_; rotate_left; · (intro w hSw; (try dsimp only at hSw); go_simp; all_goals with_reducible rfl); (try simp only [Act.put, List.getElem_toArray, List.getElem_cons_zero, List.getElem_cons_succ, List.setIfInBounds_toArray, List.set_cons_zero, List.set_cons_succ]))
    (try simp only [Act.put, List.getElem_toArray, List.getElem_cons_zero, List.getElem_cons_succ, List.setIfInBounds_toArray, List.set_cons_zero, List.set_cons_succ])
    (refine wpAnyH_take (i := 3) (v := ?_) rfl (by kernel_rfl) (by kernel_rfl) (by kernel_rfl) (fun _ _ _ h => h) (Or.inl ⟨by rfl, ?_⟩) (by assumption) ?_; rotate_left; · (intro w hSw; (try dsimp only at hSw); go_simp; all_goals with_reducible rfl); (try simp only [Act.put, List.getElem_toArray, List.getElem_cons_zero, List.getElem_cons_succ, List.setIfInBounds_toArray, List.set_cons_zero, List.set_cons_succ]))
    (try simp only [Act.put, List.getElem_toArray, List.getElem_cons_zero, List.getElem_cons_succ, List.setIfInBounds_toArray, List.set_cons_zero, List.set_cons_succ])
    refine wpAnyH_ready (rs := [1, 4]) (by kernel_rfl) (by simp) ?_
    refine AllReadyH.cons rfl (fun K hK => ?vL) (AllReadyH.cons rfl (fun K hK => ?vM) AllReadyH.nil)
    case' vL =>
      go_simp
      refine hK.out _ _ trivial (fun hHeld => ?_)
      clear hK K hHeld
      have hHeld : True := trivial
      (try simp only [Act.put, List.getElem_toArray, List.getElem_cons_zero, List.getElem_cons_succ, List.setIfInBounds_toArray, List.set_cons_zero, List.set_cons_succ])
      refine wpAnyH_ready (rs := [4]) (by kernel_rfl) (by simp) ?_
      refine AllReadyH.cons rfl (fun K hK => ?_) AllReadyH.nil
      go_simp
      refine hK.out _ _ trivial (fun hHeld => ?_)
      clear hK K hHeld
      have hHeld : True := trivial
      (try simp only [Act.put, List.getElem_toArray, List.getElem_cons_zero, List.getElem_cons_succ, List.setIfInBounds_toArray, List.set_cons_zero, List.set_cons_succ])
      (refine wpAnyH_take (i := 5) (v := ?_) rfl (by kernel_rfl) (by kernel_rfl) (by kernel_rfl) (fun _ _ _ h => h) (Or.inl ⟨by rfl, ?_⟩) (by assumption) ?_; rotate_left; · (intro w hSw; (try dsimp only at hSw); go_simp; all_goals with_reducible rfl); (try simp only [Act.put, List.getElem_toArray, List.getElem_cons_zero, List.getElem_cons_succ, List.setIfInBounds_toArray, List.set_cons_zero, List.set_cons_succ]))
      (try simp only [Act.put, List.getElem_toArray, List.getElem_cons_zero, List.getElem_cons_succ, List.setIfInBounds_toArray, List.set_cons_zero, List.set_cons_succ])
      (refine wpAnyH_take (i := 6) (v := .int .i64 ((len : Int) + 1)) rfl (by kernel_rfl) (by kernel_rfl) (by kernel_rfl) (fun _ _ _ h => h) (Or.inl ⟨by rfl, ?_⟩) (by assumption) ?_; · (intro w hSw; (try dsimp only at hSw); go_simp; first | done | exact IntWalk.i64_in _ (by omega)))
      (try simp only [Act.put, List.getElem_toArray, List.getElem_cons_zero, List.getElem_cons_succ, List.setIfInBounds_toArray, List.set_cons_zero, List.set_cons_succ])
      refine wpAnyH_ready (rs := [7]) (by kernel_rfl) (by simp) ?_
      refine AllReadyH.cons rfl (fun K hK => ?_) AllReadyH.nil
      go_simp
      refine (l1Below_any g _ _ HD4.out.drew.2.2.2.2.1 (by omega)).mono ?_
      rintro e w5 ⟨y, rfl, ⟨hy0, hy1, _⟩, hC5, hG5⟩
      have hy2 := hy1 (by omega)
      clear hy1
      have HD5 := Lib.hid (HD4.out.drew.grown hG5 hC5 hgs hgl)
      have k1 : w5.cell? ⟨s, 1, none⟩ = some (.slice A len cap) := HD5.out.2.1.cell 1
      have f1 : w5.frozen? ⟨s, 1, none⟩ = false := HD5.out.2.1.frozen 1
      have hs5 := HD5.out.2.1.lt
      clear hG5
      obtain ⟨k, rfl⟩ := Int.eq_ofNat_of_zero_le hy0
      have hkl : k ≤ len := by omega
      have hkc : k ≤ cap := by omega
      refine hK.out _ _ trivial (fun hHeld => ?_)
      clear hK K hHeld
      have hHeld : True := trivial
      (try simp only [Act.put, List.getElem_toArray, List.getElem_cons_zero, List.getElem_cons_succ, List.setIfInBounds_toArray, List.set_cons_zero, List.set_cons_succ])
    case' vM =>
      go_simp
      refine hK.out _ _ trivial (fun hHeld => ?_)
      clear hK K hHeld
      have hHeld : True := trivial
      (try simp only [Act.put, List.getElem_toArray, List.getElem_cons_zero, List.getElem_cons_succ, List.setIfInBounds_toArray, List.set_cons_zero, List.set_cons_succ])
      (refine wpAnyH_take (i := 5) (v := ?_) rfl (by kernel_rfl) (by kernel_rfl) (by kernel_rfl) (fun _ _ _ h => h) (Or.inl ⟨by rfl, ?_⟩) (by assumption) ?_; rotate_left; · (intro w hSw; (try dsimp only at hSw); go_simp; all_goals with_reducible rfl); (try simp only [Act.put, List.getElem_toArray, List.getElem_cons_zero, List.getElem_cons_succ, List.setIfInBounds_toArray, List.set_cons_zero, List.set_cons_succ]))
      (try simp only [Act.put, List.getElem_toArray, List.getElem_cons_zero, List.getElem_cons_succ, List.setIfInBounds_toArray, List.set_cons_zero, List.set_cons_succ])
      (refine wpAnyH_take (i := 6) (v := .int .i64 ((len : Int) + 1)) rfl (by kernel_rfl) (by kernel_rfl) (by kernel_rfl) (fun _ _ _ h => h) (Or.inl ⟨by rfl, ?_⟩) (by assumption) ?_; · (intro w hSw; (try dsimp only at hSw); go_simp; first | done | exact IntWalk.i64_in _ (by omega)))
      (try simp only [Act.put, List.getElem_toArray, List.getElem_cons_zero, List.getElem_cons_succ, List.setIfInBounds_toArray, List.set_cons_zero, List.set_cons_succ])
      refine wpAnyH_ready (rs := [1, 7]) (by kernel_rfl) (by simp) ?_
      refine AllReadyH.cons rfl (fun K hK => ?vL2) (AllReadyH.cons rfl (fun K hK => ?vC2) AllReadyH.nil)
    case' vL2 =>
      go_simp
      refine hK.out _ _ trivial (fun hHeld => ?_)
      clear hK K hHeld
      have hHeld : True := trivial
      (try simp only [Act.put, List.getElem_toArray, List.getElem_cons_zero, List.getElem_cons_succ, List.setIfInBounds_toArray, List.set_cons_zero, List.set_cons_succ])
      refine wpAnyH_ready (rs := [7]) (by kernel_rfl) (by simp) ?_
      refine AllReadyH.cons rfl (fun K hK => ?_) AllReadyH.nil
      go_simp
      refine (l1Below_any g _ _ HD4.out.drew.2.2.2.2.1 (by omega)).mono ?_
      rintro e w5 ⟨y, rfl, ⟨hy0, hy1, _⟩, hC5, hG5⟩
      have hy2 := hy1 (by omega)
      clear hy1
      have HD5 := Lib.hid (HD4.out.drew.grown hG5 hC5 hgs hgl)
      have k1 : w5.cell? ⟨s, 1, none⟩ = some (.slice A len cap) := HD5.out.2.1.cell 1
      have f1 : w5.frozen? ⟨s, 1, none⟩ = false := HD5.out.2.1.frozen 1
      have hs5 := HD5.out.2.1.lt
      clear hG5
      obtain ⟨k, rfl⟩ := Int.eq_ofNat_of_zero_le hy0
      have hkl : k ≤ len := by omega
      have hkc : k ≤ cap := by omega
      refine hK.out _ _ trivial (fun hHeld => ?_)
      clear hK K hHeld
      have hHeld : True := trivial
      (try simp only [Act.put, List.getElem_toArray, List.getElem_cons_zero, List.getElem_cons_succ, List.setIfInBounds_toArray, List.set_cons_zero, List.set_cons_succ])
    case' vC2 =>
      go_simp
      refine (l1Below_any g _ _ HD4.out.drew.2.2.2.2.1 (by omega)).mono ?_
      rintro e w5 ⟨y, rfl, ⟨hy0, hy1, _⟩, hC5, hG5⟩
      have hy2 := hy1 (by omega)
      clear hy1
      have HD5 := Lib.hid (HD4.out.drew.grown hG5 hC5 hgs hgl)
      have k1 : w5.cell? ⟨s, 1, none⟩ = some (.slice A len cap) := HD5.out.2.1.cell 1
      have f1 : w5.frozen? ⟨s, 1, none⟩ = false := HD5.out.2.1.frozen 1
      have hs5 := HD5.out.2.1.lt
      clear hG5
      obtain ⟨k, rfl⟩ := Int.eq_ofNat_of_zero_le hy0
      have hkl : k ≤ len := by omega
      have hkc : k ≤ cap := by omega
      refine hK.out _ _ trivial (fun hHeld => ?_)
      clear hK K hHeld
      have hHeld : True := trivial
      (try simp only [Act.put, List.getElem_toArray, List.getElem_cons_zero, List.getElem_cons_succ, List.setIfInBounds_toArray, List.set_cons_zero, List.set_cons_succ])
      refine wpAnyH_ready (rs := [1]) (by kernel_rfl) (by simp) ?_
      refine AllReadyH.cons rfl (fun K hK => ?_) AllReadyH.nil
      go_simp
      refine hK.out _ _ trivial (fun hHeld => ?_)
      clear hK K hHeld
      have hHeld : True := trivial
      (try simp only [Act.put, List.getElem_toArray, List.getElem_cons_zero, List.getElem_cons_succ, List.setIfInBounds_toArray, List.set_cons_zero, List.set_cons_succ])
    all_goals
      refine wpAnyH_ready (rs := [8]) (by kernel_rfl) (by simp) ?_
      refine AllReadyH.cons rfl (fun K hK => ?_) AllReadyH.nil
      go_simp
      refine hK.out _ _ trivial (fun hHeld => ?_)
      clear hK K hHeld
      have hHeld : True := trivial
      (try simp only [Act.put, List.getElem_toArray, List.getElem_cons_zero, List.getElem_cons_succ, List.setIfInBounds_toArray, List.set_cons_zero, List.set_cons_succ])
      (refine wpAnyH_take (i := 9) (v := ?_) rfl (by kernel_rfl) (by kernel_rfl) (by kernel_rfl) (fun _ _ _ h => h) (Or.inl ⟨by rfl, ?_⟩) (by assumption) ?_; rotate_left; · (intro w hSw; (try dsimp only at hSw); go_simp; all_goals with_reducible rfl); (try simp only [Act.put, List.getElem_toArray, List.getElem_cons_zero, List.getElem_cons_succ, List.setIfInBounds_toArray, List.set_cons_zero, List.set_cons_succ]))
      (try simp only [Act.put, List.getElem_toArray, List.getElem_cons_zero, List.getElem_cons_succ, List.setIfInBounds_toArray, List.set_cons_zero, List.set_cons_succ])
      refine wpAnyH_ready (rs := [10]) (by kernel_rfl) (by simp) ?_
      refine AllReadyH.cons rfl (fun K hK => ?_) AllReadyH.nil
      go_simp
      refine hK.out _ _ trivial (fun hHeld => ?_)
      clear hK K hHeld
      have hHeld : True := trivial
      (try simp only [Act.put, List.getElem_toArray, List.getElem_cons_zero, List.getElem_cons_succ, List.setIfInBounds_toArray, List.set_cons_zero, List.set_cons_succ])
      (refine wpAnyH_done (by kernel_rfl) ?_ _)
      have HD := Lib.hid (HD5.out.cut hkl (by omega) hgl)
      clear k1 f1 b0 b1 z0 z1
      obtain ⟨⟨b0, b1⟩, z0, z1⟩ := blk2 HD.out.2.1
      obtain ⟨⟨a0, a1⟩, y0, y1⟩ := blk2 HD.out.1
      go_wp2
      exact bodyPost_ret (v := .agg #[.int .i64 n1, .slice A k cap]) (ret2g rfl HD.out.1 (.int .i64 n1) (.slice A k cap) _ rfl) rfl (DrewGr.mk n1 A k cap _ ⟨by omega, by omega⟩ (by omega) (HD.out.done hgl))
  · have HD := Lib.hid hD4
    obtain ⟨⟨b0, b1⟩, z0, z1⟩ := blk2 hD4.2.1
    obtain ⟨⟨a0, a1⟩, y0, y1⟩ := blk2 hD4.1
    clear hD4
    go_wp2
    exact bodyPost_ret (v := .agg #[.int .i64 n1, .slice A len cap]) (ret2g rfl HD.out.1 (.int .i64 n1) (.slice A len cap) _ rfl) rfl (DrewGr.mk n1 A (len) cap (gs) ⟨by omega, by omega⟩ (by omega) (HD.out.done hgl))
end Go.Proofs.YteecjnnompjmiabDoor
