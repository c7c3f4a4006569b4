/-
  For every code, the law FnBridge returns true: bridge routing performs the operation and keeps the layout. No condition.
-/
import Derived.Test.YtofbmkpfliofeabMBrgLd
import Derived.Test.YtofbmkpfliofeabDec
import Derived.Test.YtofbmkpfliofeabMBrgLb
import Derived.Test.YtofbmkpfliofeabMBrgLa
import Derived.Test.YtofbmkpfliofeabApc
import Derived.Test.YtofbmkpfliofeabApa
/-
  Helper text (no claim of its own): drawn graphs, bent.
-/
namespace Go.Proofs.Ytofbmkpfliofeab
open Go.ChangeShapes Go.WideShapes Go.ChangeAt Go.RowKit Go.Deep
set_option linter.unusedVariables false
set_option linter.unusedSimpArgs false
theorem own_prefix {w : World} {B e size n k c : Nat} {A : Option Addr} {xs : List Value} (h : w.ownsRow B e size (.slice A n c) n xs) (hk : k ≤ n) : w.ownsRow B e size (.slice A k c) k (xs.take (k * size)) := by
  have hks := Nat.mul_le_mul_right size hk
  obtain ⟨hl, h⟩ := h
  refine ⟨by rw [List.length_take, hl]; omega, ?_⟩
  rcases h with ⟨hv, hn⟩ | ⟨g, cap, cur, hv, hb, hg, h1, h2, h3, h4⟩
  · injection hv with e1 e2 e3
    subst e1; subst e3
    exact .inl ⟨by rw [show k = 0 by omega], by omega⟩
  · injection hv with e1 e2 e3
    subst e1; subst e3
    refine .inr ⟨g, _, cur, rfl, hb, hg, by omega, h2, h3, ?_⟩
    rw [← h4, List.take_take, Nat.min_eq_left hks]
theorem ecells_take (k : Nat) (es : List Ed) : ecells (es.take k) = (ecells es).take (k * 2) := by
  induction es generalizing k with
  | nil => simp [ecells]
  | cons y es ih =>
    cases k with
    | zero => simp [ecells]
    | succ k =>
      have := ih k
      simp only [ecells] at this ⊢
      simp only [List.take_succ_cons, List.flatMap_cons, this, Ed.cells, List.cons_append, List.nil_append, Nat.succ_mul]
theorem own_lc {w : World} {B e size n c : Nat} {A : Option Addr} {xs : List Value} (h : w.ownsRow B e size (.slice A n c) n xs) : n ≤ c := by
  rcases h.2 with ⟨h0, rfl⟩ | ⟨g, cap, cur, hv, _, _, hnc, _⟩
  · omega
  · injection hv with _ _ h3
    omega
theorem DG.cut {w0 w : World} {g s : Nat} {N : Int} {A : Option Addr} {len cap : Nat} {gs : List Ed} (h : DG w0 w g s N A len cap gs) {k : Nat} (hk : k ≤ len) (hs : w0.heap.size < s) (hl : g < w0.heap.size) : DG w0 (w.setCell ⟨s, 1, none⟩ (.slice A k cap)) g s N A k cap (gs.take k) := by
  obtain ⟨h1, h2, h3, h4, h5, h6, h7⟩ := h
  have h3' := own_prefix h3 hk
  rw [← ecells_take] at h3'
  have h4' : ∀ q, (Value.slice A k cap).ownBlock = some q → w0.heap.size + 1 ≤ q ∧ q ≠ s := by cases A <;> exact h4
  refine ⟨h1.far (p := ⟨s, 1, none⟩) (by simp; omega) _, h2.set_ 1 _, ?_, h4', h5.set_ (p := ⟨s, 1, none⟩) (by simp; omega) _, gr_set h6 (p := ⟨s, 1, none⟩) (by simp; omega) _, fun e he => h7 e (List.mem_of_mem_take he)⟩
  refine h3'.kept (row := some s) (gr_setCell (World.grownBy.refl w (some s)) 1 _) ?_
  cases hv : (Value.slice A k cap).ownBlock with
  | none => exact .inl rfl
  | some q => exact .inr (fun e => (h4' q hv).2 (by injection e))
set_option maxRecDepth 100000 in
set_option maxHeartbeats 16000000 in
theorem l36Bent_any (g : Nat) (w : World) (h : Cur w g) :
    Calls Try.prog 65 #[.pointer (some ⟨g, 0, none⟩)] w (DrewGr w g 8 (fun N => -1 ≤ N ∧ N ≤ 5)) := by
  have hgl := h.lt
  go_enter Try.func65, Try.ntmps65
  go_wp2_with fail
  refine (l1Below_any g 4 _ (h.alloc _) (by omega)).mono ?_
  rintro e w2 ⟨x, rfl, ⟨hx0, hx1, _⟩, hC2, hG2⟩
  obtain ⟨n, rfl⟩ := Int.eq_ofNat_of_zero_le hx0
  have hx2 : n < 4 := by have := hx1 (by omega); omega
  clear hx1 hx0
  go_wp2_with fail
  obtain ⟨n1, e1, hb1, hb2⟩ : ∃ n1 : Nat, (1 : Int) + (n : Int) = (n1 : Int) ∧ 1 ≤ n1 ∧ n1 ≤ 4 := ⟨n + 1, by omega, by omega, by omega⟩
  rw [e1]
  clear e1
  refine (l36Right_any g n1 ⟨by omega, by omega⟩ _ hC2).mono ?_
  rintro e w3 ⟨N, A, len, cap, gs, rfl, rfl, hlen, ho3, hC3, hG3, hok3⟩
  have hB2 := (Blk.new w 27 #[.int .i64 0, .slice none 0 0]).grown hG2 (fun k hk => by injection hk; omega)
  have hB3 := hB2.grown hG3 (fun k hk => by injection hk; omega)
  have hl2 := hB2.lt
  have hl3 := hB3.lt
  have hg3 : w.grownBy w3 (some g) := gr_trans (gr_trans (((Ext.refl w).alloc _).gr _) hG2) hG3
  have hD : DG w (w3.alloc (.cells #[.int .i64 n1, .slice A len cap] 27)) g w3.heap.size n1 A len cap gs :=
    ⟨hB3.alloc _, Blk.new _ _ _, own_ext (own_base ho3 hl2) ((Ext.refl w3).alloc _), own_ne (own_base ho3 hl2) (Nat.le_refl _), hC3.alloc _, gr_alloc hg3 _, hok3⟩
  clear hB2 hB3 hG2 hG3 hg3 hC2 ho3
  go_wp2_with fail
  refine (l1Below_any g 8 _ (hC3.alloc _) (by omega)).mono ?_
  rintro e w4 ⟨x, rfl, ⟨hx0, hx1, _⟩, hC4, hG4⟩
  have hx2 := hx1 (by omega)
  clear hx1
  have hgs : g < w3.heap.size := by omega
  have hD4 := hD.grown hG4 hC4 hgs hgl
  clear hD hG4 hC3
  generalize w3.heap.size = s at *
  have hs4 := hD4.2.1.lt
  have hw4 := hD4.1.lt
  have hge : w.heap.size + 1 ≤ w4.heap.size := by omega
  by_cases e0 : x = 0
  · subst e0
    go_wp2_with fail
    refine (l1PickInt_any g _ 5 _ [0, 1, 4, 5, -1] _ (hC4.alloc _) (rd_newN w4 _ _ _ 5 1 _ rfl rfl rfl) (by intro b o e; injection e with e; injection e with e1; omega) (by omega)).mono ?_
    rintro e w5 ⟨z, rfl, hz, hC5, hG5⟩
    have hD5 := (hD4.alloc _).grown hG5 hC5 hgs hgl
    have hz2 : -1 ≤ z ∧ z ≤ 5 := by simp at hz; omega
    clear hz hD4 hC4 hG5
    have hD6 := hD5.setN z (by omega) hgl
    obtain ⟨⟨b0, b1⟩, z0, z1⟩ := blk2 hD5.2.1
    obtain ⟨⟨a0, a1⟩, y0, y1⟩ := blk2 hD5.1
    have HD := Lib.hid hD6
    clear hD6 hD5
    go_wp2
    exact bodyPost_ret (v := .agg #[.int .i64 z, .slice A len cap]) (ret2g rfl HD.out.1 (.int .i64 z) (.slice A len cap) _ rfl) rfl (DrewGr.mk (z) A (len) cap (gs) (hz2) (by omega) (HD.out.done hgl))
  by_cases e1 : x = 1
  · subst e1
    have HD4 := Lib.hid hD4
    obtain ⟨⟨b0, b1⟩, z0, z1⟩ := blk2 hD4.2.1
    clear hD4
    go_wp2
    have hHeld : True := trivial
    refine wp_region_held_drew (S := fun _ => True) (by kernel_rfl) trivial (fun hHeld => ?_)
    (refine wpAnyH_take (i := 0) (v := ?_) rfl (by kernel_rfl) (by kernel_rfl) (by kernel_rfl) (fun _ _ _ h => h) (Or.inl ⟨by rfl, ?_⟩) (by assumption) ?_; rotate_left; · (intro w hSw; (try dsimp only at hSw); go_simp; all_goals with_reducible rfl); (try simp only [Act.put, List.getElem_toArray, List.getElem_cons_zero, List.getElem_cons_succ, List.setIfInBounds_toArray, List.set_cons_zero, List.set_cons_succ]))
    (try simp only [Act.put, List.getElem_toArray, List.getElem_cons_zero, List.getElem_cons_succ, List.setIfInBounds_toArray, List.set_cons_zero, List.set_cons_succ])
    (refine wpAnyH_take (i := 2) (v := ?_) rfl (by kernel_rfl) (by kernel_rfl) (by kernel_rfl) (fun _ _ _ h => h) (Or.inl ⟨by rfl, ?_⟩) (by assumption) ?_; rotate_left; · (intro w hSw; (try dsimp only at hSw); go_simp; all_goals with_reducible rfl); (try simp only [Act.put, List.getElem_toArray, List.getElem_cons_zero, List.getElem_cons_succ, List.setIfInBounds_toArray, List.set_cons_zero, List.set_cons_succ]))
    (try simp only [Act.put, List.getElem_toArray, List.getElem_cons_zero, List.getElem_cons_succ, List.setIfInBounds_toArray, List.set_cons_zero, List.set_cons_succ])
    (refine wpAnyH_take (i := 5) (v := ?_) rfl (by kernel_rfl) (by kernel_rfl) (by kernel_rfl) (fun _ _ _ h => h) (Or.inl ⟨by rfl, ?_⟩) (by assumption) ?_; rotate_left; · (intro w hSw; (try dsimp only at hSw); go_simp; all_goals with_reducible rfl); (try simp only [Act.put, List.getElem_toArray, List.getElem_cons_zero, List.getElem_cons_succ, List.setIfInBounds_toArray, List.set_cons_zero, List.set_cons_succ]))
    (try simp only [Act.put, List.getElem_toArray, List.getElem_cons_zero, List.getElem_cons_succ, List.setIfInBounds_toArray, List.set_cons_zero, List.set_cons_succ])
    refine wpAnyH_ready (rs := [1, 3]) (by kernel_rfl) (by simp) ?_
    refine AllReadyH.cons rfl (fun K hK => ?wL) (AllReadyH.cons rfl (fun K hK => ?wC) AllReadyH.nil)
    case' wL =>
      go_simp
      refine hK.out _ _ trivial (fun hHeld => ?_)
      clear hK K hHeld
      have hHeld : True := trivial
      (try simp only [Act.put, List.getElem_toArray, List.getElem_cons_zero, List.getElem_cons_succ, List.setIfInBounds_toArray, List.set_cons_zero, List.set_cons_succ])
      refine wpAnyH_ready (rs := [3]) (by kernel_rfl) (by simp) ?_
      refine AllReadyH.cons rfl (fun K hK => ?_) AllReadyH.nil
      go_simp
      refine (l1Below_any g 6 _ HD4.out.drew.2.2.2.2.1 (by omega)).mono ?_
      rintro e w5 ⟨y, rfl, ⟨hy0, hy1, _⟩, hC5, hG5⟩
      have hy2 := hy1 (by omega)
      clear hy1
      have HD5 := Lib.hid (HD4.out.drew.grown hG5 hC5 hgs hgl)
      have k1 : w5.cell? ⟨s, 1, none⟩ = some (.slice A len cap) := HD5.out.2.1.cell 1
      have hs5 := HD5.out.2.1.lt
      clear hG5
      refine hK.out _ _ trivial (fun hHeld => ?_)
      clear hK K hHeld
      have hHeld : True := trivial
      (try simp only [Act.put, List.getElem_toArray, List.getElem_cons_zero, List.getElem_cons_succ, List.setIfInBounds_toArray, List.set_cons_zero, List.set_cons_succ])
      (refine wpAnyH_take (i := 4) (v := .int .i64 (y - 1)) rfl (by kernel_rfl) (by kernel_rfl) (by kernel_rfl) (fun _ _ _ h => h) (Or.inl ⟨by rfl, ?_⟩) (by assumption) ?_; · (intro w hSw; (try dsimp only at hSw); go_simp; first | done | exact IntWalk.i64_in _ (by omega)))
      (try simp only [Act.put, List.getElem_toArray, List.getElem_cons_zero, List.getElem_cons_succ, List.setIfInBounds_toArray, List.set_cons_zero, List.set_cons_succ])
      refine wpAnyH_ready (rs := [6]) (by kernel_rfl) (by simp) ?_
      refine AllReadyH.cons rfl (fun K hK => ?_) AllReadyH.nil
      go_simp
      refine (l1Below_any g 5 _ hC5 (by omega)).mono ?_
      rintro e w6 ⟨z, rfl, ⟨hz0, hz1, _⟩, hC6, hG6⟩
      have hz2 := hz1 (by omega)
      clear hz1
      have HD6 := Lib.hid (HD5.out.grown hG6 hC6 hgs hgl)
      have m1 : w6.cell? ⟨s, 1, none⟩ = some (.slice A len cap) := HD6.out.2.1.cell 1
      have hs6 := HD6.out.2.1.lt
      clear hG6
      refine hK.out _ _ trivial (fun hHeld => ?_)
      clear hK K hHeld
      have hHeld : True := trivial
      (try simp only [Act.put, List.getElem_toArray, List.getElem_cons_zero, List.getElem_cons_succ, List.setIfInBounds_toArray, List.set_cons_zero, List.set_cons_succ])
      (refine wpAnyH_take (i := 7) (v := ?_) rfl (by kernel_rfl) (by kernel_rfl) (by kernel_rfl) (fun _ _ _ h => h) (Or.inl ⟨by rfl, ?_⟩) (by assumption) ?_; rotate_left; · (intro w hSw; (try dsimp only at hSw); go_simp; all_goals with_reducible rfl); (try simp only [Act.put, List.getElem_toArray, List.getElem_cons_zero, List.getElem_cons_succ, List.setIfInBounds_toArray, List.set_cons_zero, List.set_cons_succ]))
      (try simp only [Act.put, List.getElem_toArray, List.getElem_cons_zero, List.getElem_cons_succ, List.setIfInBounds_toArray, List.set_cons_zero, List.set_cons_succ])
      refine wpAnyH_ready (rs := [8]) (by kernel_rfl) (by simp) ?_
      refine AllReadyH.cons rfl (fun K hK => ?_) AllReadyH.nil
      go_simp
      refine hK.out _ _ trivial (fun hHeld => ?_)
      clear hK K hHeld
      have hHeld : True := trivial
      (try simp only [Act.put, List.getElem_toArray, List.getElem_cons_zero, List.getElem_cons_succ, List.setIfInBounds_toArray, List.set_cons_zero, List.set_cons_succ])
    case' wC =>
      go_simp
      refine (l1Below_any g 6 _ HD4.out.drew.2.2.2.2.1 (by omega)).mono ?_
      rintro e w5 ⟨y, rfl, ⟨hy0, hy1, _⟩, hC5, hG5⟩
      have hy2 := hy1 (by omega)
      clear hy1
      have HD5 := Lib.hid (HD4.out.drew.grown hG5 hC5 hgs hgl)
      have k1 : w5.cell? ⟨s, 1, none⟩ = some (.slice A len cap) := HD5.out.2.1.cell 1
      have hs5 := HD5.out.2.1.lt
      clear hG5
      refine hK.out _ _ trivial (fun hHeld => ?_)
      clear hK K hHeld
      have hHeld : True := trivial
      (try simp only [Act.put, List.getElem_toArray, List.getElem_cons_zero, List.getElem_cons_succ, List.setIfInBounds_toArray, List.set_cons_zero, List.set_cons_succ])
      (refine wpAnyH_take (i := 4) (v := .int .i64 (y - 1)) rfl (by kernel_rfl) (by kernel_rfl) (by kernel_rfl) (fun _ _ _ h => h) (Or.inl ⟨by rfl, ?_⟩) (by assumption) ?_; · (intro w hSw; (try dsimp only at hSw); go_simp; first | done | exact IntWalk.i64_in _ (by omega)))
      (try simp only [Act.put, List.getElem_toArray, List.getElem_cons_zero, List.getElem_cons_succ, List.setIfInBounds_toArray, List.set_cons_zero, List.set_cons_succ])
      refine wpAnyH_ready (rs := [1, 6]) (by kernel_rfl) (by simp) ?_
      refine AllReadyH.cons rfl (fun K hK => ?wL2) (AllReadyH.cons rfl (fun K hK => ?wC2) AllReadyH.nil)
    case' wL2 =>
      go_simp
      refine hK.out _ _ trivial (fun hHeld => ?_)
      clear hK K hHeld
      have hHeld : True := trivial
      (try simp only [Act.put, List.getElem_toArray, List.getElem_cons_zero, List.getElem_cons_succ, List.setIfInBounds_toArray, List.set_cons_zero, List.set_cons_succ])
      refine wpAnyH_ready (rs := [6]) (by kernel_rfl) (by simp) ?_
      refine AllReadyH.cons rfl (fun K hK => ?_) AllReadyH.nil
      go_simp
      refine (l1Below_any g 5 _ hC5 (by omega)).mono ?_
      rintro e w6 ⟨z, rfl, ⟨hz0, hz1, _⟩, hC6, hG6⟩
      have hz2 := hz1 (by omega)
      clear hz1
      have HD6 := Lib.hid (HD5.out.grown hG6 hC6 hgs hgl)
      have m1 : w6.cell? ⟨s, 1, none⟩ = some (.slice A len cap) := HD6.out.2.1.cell 1
      have hs6 := HD6.out.2.1.lt
      clear hG6
      refine hK.out _ _ trivial (fun hHeld => ?_)
      clear hK K hHeld
      have hHeld : True := trivial
      (try simp only [Act.put, List.getElem_toArray, List.getElem_cons_zero, List.getElem_cons_succ, List.setIfInBounds_toArray, List.set_cons_zero, List.set_cons_succ])
      (refine wpAnyH_take (i := 7) (v := ?_) rfl (by kernel_rfl) (by kernel_rfl) (by kernel_rfl) (fun _ _ _ h => h) (Or.inl ⟨by rfl, ?_⟩) (by assumption) ?_; rotate_left; · (intro w hSw; (try dsimp only at hSw); go_simp; all_goals with_reducible rfl); (try simp only [Act.put, List.getElem_toArray, List.getElem_cons_zero, List.getElem_cons_succ, List.setIfInBounds_toArray, List.set_cons_zero, List.set_cons_succ]))
      (try simp only [Act.put, List.getElem_toArray, List.getElem_cons_zero, List.getElem_cons_succ, List.setIfInBounds_toArray, List.set_cons_zero, List.set_cons_succ])
      refine wpAnyH_ready (rs := [8]) (by kernel_rfl) (by simp) ?_
      refine AllReadyH.cons rfl (fun K hK => ?_) AllReadyH.nil
      go_simp
      refine hK.out _ _ trivial (fun hHeld => ?_)
      clear hK K hHeld
      have hHeld : True := trivial
      (try simp only [Act.put, List.getElem_toArray, List.getElem_cons_zero, List.getElem_cons_succ, List.setIfInBounds_toArray, List.set_cons_zero, List.set_cons_succ])
    case' wC2 =>
      go_simp
      refine (l1Below_any g 5 _ hC5 (by omega)).mono ?_
      rintro e w6 ⟨z, rfl, ⟨hz0, hz1, _⟩, hC6, hG6⟩
      have hz2 := hz1 (by omega)
      clear hz1
      have HD6 := Lib.hid (HD5.out.grown hG6 hC6 hgs hgl)
      have m1 : w6.cell? ⟨s, 1, none⟩ = some (.slice A len cap) := HD6.out.2.1.cell 1
      have hs6 := HD6.out.2.1.lt
      clear hG6
      refine hK.out _ _ trivial (fun hHeld => ?_)
      clear hK K hHeld
      have hHeld : True := trivial
      (try simp only [Act.put, List.getElem_toArray, List.getElem_cons_zero, List.getElem_cons_succ, List.setIfInBounds_toArray, List.set_cons_zero, List.set_cons_succ])
      (refine wpAnyH_take (i := 7) (v := ?_) rfl (by kernel_rfl) (by kernel_rfl) (by kernel_rfl) (fun _ _ _ h => h) (Or.inl ⟨by rfl, ?_⟩) (by assumption) ?_; rotate_left; · (intro w hSw; (try dsimp only at hSw); go_simp; all_goals with_reducible rfl); (try simp only [Act.put, List.getElem_toArray, List.getElem_cons_zero, List.getElem_cons_succ, List.setIfInBounds_toArray, List.set_cons_zero, List.set_cons_succ]))
      (try simp only [Act.put, List.getElem_toArray, List.getElem_cons_zero, List.getElem_cons_succ, List.setIfInBounds_toArray, List.set_cons_zero, List.set_cons_succ])
      refine wpAnyH_ready (rs := [1, 8]) (by kernel_rfl) (by simp) ?_
      refine AllReadyH.cons rfl (fun K hK => ?wL3) (AllReadyH.cons rfl (fun K hK => ?wC3) AllReadyH.nil)
    case' wL3 =>
      go_simp
      refine hK.out _ _ trivial (fun hHeld => ?_)
      clear hK K hHeld
      have hHeld : True := trivial
      (try simp only [Act.put, List.getElem_toArray, List.getElem_cons_zero, List.getElem_cons_succ, List.setIfInBounds_toArray, List.set_cons_zero, List.set_cons_succ])
      refine wpAnyH_ready (rs := [8]) (by kernel_rfl) (by simp) ?_
      refine AllReadyH.cons rfl (fun K hK => ?_) AllReadyH.nil
      go_simp
      refine hK.out _ _ trivial (fun hHeld => ?_)
      clear hK K hHeld
      have hHeld : True := trivial
      (try simp only [Act.put, List.getElem_toArray, List.getElem_cons_zero, List.getElem_cons_succ, List.setIfInBounds_toArray, List.set_cons_zero, List.set_cons_succ])
    case' wC3 =>
      go_simp
      refine hK.out _ _ trivial (fun hHeld => ?_)
      clear hK K hHeld
      have hHeld : True := trivial
      (try simp only [Act.put, List.getElem_toArray, List.getElem_cons_zero, List.getElem_cons_succ, List.setIfInBounds_toArray, List.set_cons_zero, List.set_cons_succ])
      refine wpAnyH_ready (rs := [1]) (by kernel_rfl) (by simp) ?_
      refine AllReadyH.cons rfl (fun K hK => ?_) AllReadyH.nil
      go_simp
      refine hK.out _ _ trivial (fun hHeld => ?_)
      clear hK K hHeld
      have hHeld : True := trivial
      (try simp only [Act.put, List.getElem_toArray, List.getElem_cons_zero, List.getElem_cons_succ, List.setIfInBounds_toArray, List.set_cons_zero, List.set_cons_succ])
    all_goals
      refine wpAnyH_ready (rs := [9]) (by kernel_rfl) (by simp) ?_
      refine AllReadyH.cons rfl (fun K hK => ?_) AllReadyH.nil
      refine stepE1 (B := w.heap.size + 1) (by rfl) _ _ (by rfl) _ len gs (by rfl) HD6.out.2.2.1 (by have := HD6.out.1.lt; omega) ⟨y - 1, z⟩ _ _ (by rfl) (by rfl) (by omega) ?_
      intro A6 c6 w7 ho6 hg6 hb6
      have HA := Lib.hid (HD6.out.app (y := ⟨y - 1, z⟩) ⟨by unfold I64; dsimp only; omega, by unfold I64; dsimp only; omega⟩ (by omega) hgl ho6 hg6 hb6)
      have k6 : w7.cell? ⟨s, 1, none⟩ = some (.slice A len cap) := HA.out.1.cell 1
      have f6 : w7.frozen? ⟨s, 1, none⟩ = false := HA.out.1.frozen 1
      clear ho6 hg6 hb6
      refine hK.out _ _ trivial (fun hHeld => ?_)
      clear hK K hHeld
      have hHeld : True := trivial
      (try simp only [Act.put, List.getElem_toArray, List.getElem_cons_zero, List.getElem_cons_succ, List.setIfInBounds_toArray, List.set_cons_zero, List.set_cons_succ])
      (refine wpAnyH_take (i := 10) (v := ?_) rfl (by kernel_rfl) (by kernel_rfl) (by kernel_rfl) (fun _ _ _ h => h) (Or.inl ⟨by rfl, ?_⟩) (by assumption) ?_; rotate_left; · (intro w hSw; (try dsimp only at hSw); go_simp; all_goals with_reducible rfl); (try simp only [Act.put, List.getElem_toArray, List.getElem_cons_zero, List.getElem_cons_succ, List.setIfInBounds_toArray, List.set_cons_zero, List.set_cons_succ]))
      (try simp only [Act.put, List.getElem_toArray, List.getElem_cons_zero, List.getElem_cons_succ, List.setIfInBounds_toArray, List.set_cons_zero, List.set_cons_succ])
      refine wpAnyH_ready (rs := [11]) (by kernel_rfl) (by simp) ?_
      refine AllReadyH.cons rfl (fun K hK => ?_) AllReadyH.nil
      go_simp
      refine hK.out _ _ trivial (fun hHeld => ?_)
      clear hK K hHeld
      have hHeld : True := trivial
      (try simp only [Act.put, List.getElem_toArray, List.getElem_cons_zero, List.getElem_cons_succ, List.setIfInBounds_toArray, List.set_cons_zero, List.set_cons_succ])
      (refine wpAnyH_done (by kernel_rfl) ?_ _)
      clear k6 f6 k1 m1 b0 b1 z0 z1
      have HD := Lib.hid HA.out.2
      obtain ⟨⟨b0, b1⟩, z0, z1⟩ := blk2 HD.out.2.1
      obtain ⟨⟨a0, a1⟩, y0, y1⟩ := blk2 HD.out.1
      go_wp2
      exact bodyPost_ret (v := .agg #[.int .i64 n1, .slice A6 (len + 1) c6]) (ret2g rfl HD.out.1 (.int .i64 n1) (.slice A6 (len + 1) c6) _ rfl) rfl (DrewGr.mk n1 A6 (len + 1) c6 _ ⟨by omega, by omega⟩ (by omega) (HD.out.done hgl))
  by_cases e2 : x = 2
  · subst e2
    have HD4 := Lib.hid hD4
    obtain ⟨⟨b0, b1⟩, z0, z1⟩ := blk2 hD4.2.1
    clear hD4
    have hlw : IntKind.i64.wrap ((len : Int) + 1) = (len : Int) + 1 := IntWalk.i64_in _ (by omega)
    go_wp2
    have hHeld : True := trivial
    have hlc : len ≤ cap := own_lc HD4.out.2.2.1
    refine wp_region_held_drew (S := fun _ => True) (by kernel_rfl) trivial (fun hHeld => ?_)
    (refine wpAnyH_take (i := 0) (v := ?_) rfl (by kernel_rfl) (by kernel_rfl) (by kernel_rfl) (fun _ _ _ h => h) (Or.inl ⟨by rfl, ?_⟩) (by assumption) ?_; rotate_left; · (intro w hSw; (try dsimp only at hSw); go_simp; all_goals with_reducible rfl); (try simp only [Act.put, List.getElem_toArray, List.getElem_cons_zero, List.getElem_cons_succ, List.setIfInBounds_toArray, List.set_cons_zero, List.set_cons_succ]))
    (try simp only [Act.put, List.getElem_toArray, List.getElem_cons_zero, List.getElem_cons_succ, List.setIfInBounds_toArray, List.set_cons_zero, List.set_cons_succ])
    (refine wpAnyH_take (i := 2) (v := ?_) rfl (by kernel_rfl) (by kernel_rfl) (by kernel_rfl) (fun _ _ _ h => h) (Or.inl ⟨by rfl, ?_⟩) (by assumption) ?_; rotate_left; · (intro w hSw; (try dsimp only at hSw); go_simp; all_goals with_reducible rfl); (try simp only [Act.put, List.getElem_toArray, List.getElem_cons_zero, List.getElem_cons_succ, List.setIfInBounds_toArray, List.set_cons_zero, List.set_cons_succ]))
    (try simp only [Act.put, List.getElem_toArray, List.getElem_cons_zero, List.getElem_cons_succ, List.setIfInBounds_toArray, List.set_cons_zero, List.set_cons_succ])
    (refine wpAnyH_take (i := 3) (v := ?_) rfl (by kernel_rfl) (by kernel_rfl) (by kernel_rfl) (fun _ _ _ h => h) (Or.inl ⟨by rfl, ?_⟩) (by assumption) ?_; rotate_left; · (intro w hSw; (try dsimp only at hSw); go_simp; all_goals with_reducible rfl); (try simp only [Act.put, List.getElem_toArray, List.getElem_cons_zero, List.getElem_cons_succ, List.setIfInBounds_toArray, List.set_cons_zero, List.set_cons_succ]))
    (try simp only [Act.put, List.getElem_toArray, List.getElem_cons_zero, List.getElem_cons_succ, List.setIfInBounds_toArray, List.set_cons_zero, List.set_cons_succ])
    refine wpAnyH_ready (rs := [1, 4]) (by kernel_rfl) (by simp) ?_
    refine AllReadyH.cons rfl (fun K hK => ?vL) (AllReadyH.cons rfl (fun K hK => ?vM) AllReadyH.nil)
    case' vL =>
      go_simp
      refine hK.out _ _ trivial (fun hHeld => ?_)
      clear hK K hHeld
      have hHeld : True := trivial
      (try simp only [Act.put, List.getElem_toArray, List.getElem_cons_zero, List.getElem_cons_succ, List.setIfInBounds_toArray, List.set_cons_zero, List.set_cons_succ])
      refine wpAnyH_ready (rs := [4]) (by kernel_rfl) (by simp) ?_
      refine AllReadyH.cons rfl (fun K hK => ?_) AllReadyH.nil
      go_simp
      refine hK.out _ _ trivial (fun hHeld => ?_)
      clear hK K hHeld
      have hHeld : True := trivial
      (try simp only [Act.put, List.getElem_toArray, List.getElem_cons_zero, List.getElem_cons_succ, List.setIfInBounds_toArray, List.set_cons_zero, List.set_cons_succ])
      (refine wpAnyH_take (i := 5) (v := ?_) rfl (by kernel_rfl) (by kernel_rfl) (by kernel_rfl) (fun _ _ _ h => h) (Or.inl ⟨by rfl, ?_⟩) (by assumption) ?_; rotate_left; · (intro w hSw; (try dsimp only at hSw); go_simp; all_goals with_reducible rfl); (try simp only [Act.put, List.getElem_toArray, List.getElem_cons_zero, List.getElem_cons_succ, List.setIfInBounds_toArray, List.set_cons_zero, List.set_cons_succ]))
      (try simp only [Act.put, List.getElem_toArray, List.getElem_cons_zero, List.getElem_cons_succ, List.setIfInBounds_toArray, List.set_cons_zero, List.set_cons_succ])
      (refine wpAnyH_take (i := 6) (v := .int .i64 ((len : Int) + 1)) rfl (by kernel_rfl) (by kernel_rfl) (by kernel_rfl) (fun _ _ _ h => h) (Or.inl ⟨by rfl, ?_⟩) (by assumption) ?_; · (intro w hSw; (try dsimp only at hSw); go_simp; first | done | exact IntWalk.i64_in _ (by omega)))
      (try simp only [Act.put, List.getElem_toArray, List.getElem_cons_zero, List.getElem_cons_succ, List.setIfInBounds_toArray, List.set_cons_zero, List.set_cons_succ])
      refine wpAnyH_ready (rs := [7]) (by kernel_rfl) (by simp) ?_
      refine AllReadyH.cons rfl (fun K hK => ?_) AllReadyH.nil
      go_simp
      refine (l1Below_any g _ _ HD4.out.drew.2.2.2.2.1 (by omega)).mono ?_
      rintro e w5 ⟨y, rfl, ⟨hy0, hy1, _⟩, hC5, hG5⟩
      have hy2 := hy1 (by omega)
      clear hy1
      have HD5 := Lib.hid (HD4.out.drew.grown hG5 hC5 hgs hgl)
      have k1 : w5.cell? ⟨s, 1, none⟩ = some (.slice A len cap) := HD5.out.2.1.cell 1
      have f1 : w5.frozen? ⟨s, 1, none⟩ = false := HD5.out.2.1.frozen 1
      have hs5 := HD5.out.2.1.lt
      clear hG5
      obtain ⟨k, rfl⟩ := Int.eq_ofNat_of_zero_le hy0
      have hkl : k ≤ len := by omega
      have hkc : k ≤ cap := by omega
      refine hK.out _ _ trivial (fun hHeld => ?_)
      clear hK K hHeld
      have hHeld : True := trivial
      (try simp only [Act.put, List.getElem_toArray, List.getElem_cons_zero, List.getElem_cons_succ, List.setIfInBounds_toArray, List.set_cons_zero, List.set_cons_succ])
    case' vM =>
      go_simp
      refine hK.out _ _ trivial (fun hHeld => ?_)
      clear hK K hHeld
      have hHeld : True := trivial
      (try simp only [Act.put, List.getElem_toArray, List.getElem_cons_zero, List.getElem_cons_succ, List.setIfInBounds_toArray, List.set_cons_zero, List.set_cons_succ])
      (refine wpAnyH_take (i := 5) (v := ?_) rfl (by kernel_rfl) (by kernel_rfl) (by kernel_rfl) (fun _ _ _ h => h) (Or.inl ⟨by rfl, ?_⟩) (by assumption) ?_; rotate_left; · (intro w hSw; (try dsimp only at hSw); go_simp; all_goals with_reducible rfl); (try simp only [Act.put, List.getElem_toArray, List.getElem_cons_zero, List.getElem_cons_succ, List.setIfInBounds_toArray, List.set_cons_zero, List.set_cons_succ]))
      (try simp only [Act.put, List.getElem_toArray, List.getElem_cons_zero, List.getElem_cons_succ, List.setIfInBounds_toArray, List.set_cons_zero, List.set_cons_succ])
      (refine wpAnyH_take (i := 6) (v := .int .i64 ((len : Int) + 1)) rfl (by kernel_rfl) (by kernel_rfl) (by kernel_rfl) (fun _ _ _ h => h) (Or.inl ⟨by rfl, ?_⟩) (by assumption) ?_; · (intro w hSw; (try dsimp only at hSw); go_simp; first | done | exact IntWalk.i64_in _ (by omega)))
      (try simp only [Act.put, List.getElem_toArray, List.getElem_cons_zero, List.getElem_cons_succ, List.setIfInBounds_toArray, List.set_cons_zero, List.set_cons_succ])
      refine wpAnyH_ready (rs := [1, 7]) (by kernel_rfl) (by simp) ?_
      refine AllReadyH.cons rfl (fun K hK => ?vL2) (AllReadyH.cons rfl (fun K hK => ?vC2) AllReadyH.nil)
    case' vL2 =>
      go_simp
      refine hK.out _ _ trivial (fun hHeld => ?_)
      clear hK K hHeld
      have hHeld : True := trivial
      (try simp only [Act.put, List.getElem_toArray, List.getElem_cons_zero, List.getElem_cons_succ, List.setIfInBounds_toArray, List.set_cons_zero, List.set_cons_succ])
      refine wpAnyH_ready (rs := [7]) (by kernel_rfl) (by simp) ?_
      refine AllReadyH.cons rfl (fun K hK => ?_) AllReadyH.nil
      go_simp
      refine (l1Below_any g _ _ HD4.out.drew.2.2.2.2.1 (by omega)).mono ?_
      rintro e w5 ⟨y, rfl, ⟨hy0, hy1, _⟩, hC5, hG5⟩
      have hy2 := hy1 (by omega)
      clear hy1
      have HD5 := Lib.hid (HD4.out.drew.grown hG5 hC5 hgs hgl)
      have k1 : w5.cell? ⟨s, 1, none⟩ = some (.slice A len cap) := HD5.out.2.1.cell 1
      have f1 : w5.frozen? ⟨s, 1, none⟩ = false := HD5.out.2.1.frozen 1
      have hs5 := HD5.out.2.1.lt
      clear hG5
      obtain ⟨k, rfl⟩ := Int.eq_ofNat_of_zero_le hy0
      have hkl : k ≤ len := by omega
      have hkc : k ≤ cap := by omega
      refine hK.out _ _ trivial (fun hHeld => ?_)
      clear hK K hHeld
      have hHeld : True := trivial
      (try simp only [Act.put, List.getElem_toArray, List.getElem_cons_zero, List.getElem_cons_succ, List.setIfInBounds_toArray, List.set_cons_zero, List.set_cons_succ])
    case' vC2 =>
      go_simp
      refine (l1Below_any g _ _ HD4.out.drew.2.2.2.2.1 (by omega)).mono ?_
      rintro e w5 ⟨y, rfl, ⟨hy0, hy1, _⟩, hC5, hG5⟩
      have hy2 := hy1 (by omega)
      clear hy1
      have HD5 := Lib.hid (HD4.out.drew.grown hG5 hC5 hgs hgl)
      have k1 : w5.cell? ⟨s, 1, none⟩ = some (.slice A len cap) := HD5.out.2.1.cell 1
      have f1 : w5.frozen? ⟨s, 1, none⟩ = false := HD5.out.2.1.frozen 1
      have hs5 := HD5.out.2.1.lt
      clear hG5
      obtain ⟨k, rfl⟩ := Int.eq_ofNat_of_zero_le hy0
      have hkl : k ≤ len := by omega
      have hkc : k ≤ cap := by omega
      refine hK.out _ _ trivial (fun hHeld => ?_)
      clear hK K hHeld
      have hHeld : True := trivial
      (try simp only [Act.put, List.getElem_toArray, List.getElem_cons_zero, List.getElem_cons_succ, List.setIfInBounds_toArray, List.set_cons_zero, List.set_cons_succ])
      refine wpAnyH_ready (rs := [1]) (by kernel_rfl) (by simp) ?_
      refine AllReadyH.cons rfl (fun K hK => ?_) AllReadyH.nil
      go_simp
      refine hK.out _ _ trivial (fun hHeld => ?_)
      clear hK K hHeld
      have hHeld : True := trivial
      (try simp only [Act.put, List.getElem_toArray, List.getElem_cons_zero, List.getElem_cons_succ, List.setIfInBounds_toArray, List.set_cons_zero, List.set_cons_succ])
    all_goals
      refine wpAnyH_ready (rs := [8]) (by kernel_rfl) (by simp) ?_
      refine AllReadyH.cons rfl (fun K hK => ?_) AllReadyH.nil
      go_simp
      refine hK.out _ _ trivial (fun hHeld => ?_)
      clear hK K hHeld
      have hHeld : True := trivial
      (try simp only [Act.put, List.getElem_toArray, List.getElem_cons_zero, List.getElem_cons_succ, List.setIfInBounds_toArray, List.set_cons_zero, List.set_cons_succ])
      (refine wpAnyH_take (i := 9) (v := ?_) rfl (by kernel_rfl) (by kernel_rfl) (by kernel_rfl) (fun _ _ _ h => h) (Or.inl ⟨by rfl, ?_⟩) (by assumption) ?_; rotate_left; · (intro w hSw; (try dsimp only at hSw); go_simp; all_goals with_reducible rfl); (try simp only [Act.put, List.getElem_toArray, List.getElem_cons_zero, List.getElem_cons_succ, List.setIfInBounds_toArray, List.set_cons_zero, List.set_cons_succ]))
      (try simp only [Act.put, List.getElem_toArray, List.getElem_cons_zero, List.getElem_cons_succ, List.setIfInBounds_toArray, List.set_cons_zero, List.set_cons_succ])
      refine wpAnyH_ready (rs := [10]) (by kernel_rfl) (by simp) ?_
      refine AllReadyH.cons rfl (fun K hK => ?_) AllReadyH.nil
      go_simp
      refine hK.out _ _ trivial (fun hHeld => ?_)
      clear hK K hHeld
      have hHeld : True := trivial
      (try simp only [Act.put, List.getElem_toArray, List.getElem_cons_zero, List.getElem_cons_succ, List.setIfInBounds_toArray, List.set_cons_zero, List.set_cons_succ])
      (refine wpAnyH_done (by kernel_rfl) ?_ _)
      have HD := Lib.hid (HD5.out.cut hkl (by omega) hgl)
      clear k1 f1 b0 b1 z0 z1
      obtain ⟨⟨b0, b1⟩, z0, z1⟩ := blk2 HD.out.2.1
      obtain ⟨⟨a0, a1⟩, y0, y1⟩ := blk2 HD.out.1
      go_wp2
      exact bodyPost_ret (v := .agg #[.int .i64 n1, .slice A k cap]) (ret2g rfl HD.out.1 (.int .i64 n1) (.slice A k cap) _ rfl) rfl (DrewGr.mk n1 A k cap _ ⟨by omega, by omega⟩ (by omega) (HD.out.done hgl))
  · have HD := Lib.hid hD4
    obtain ⟨⟨b0, b1⟩, z0, z1⟩ := blk2 hD4.2.1
    obtain ⟨⟨a0, a1⟩, y0, y1⟩ := blk2 hD4.1
    clear hD4
    go_wp2
    exact bodyPost_ret (v := .agg #[.int .i64 n1, .slice A len cap]) (ret2g rfl HD.out.1 (.int .i64 n1) (.slice A len cap) _ rfl) rfl (DrewGr.mk n1 A (len) cap (gs) ⟨by omega, by omega⟩ (by omega) (HD.out.done hgl))
end Go.Proofs.Ytofbmkpfliofeab
/-
  Helper text (no claim of its own): drawn permutations, bent.
-/
namespace Go.Proofs.Ytofbmkpfliofeab
open Go.ChangeShapes Go.WideShapes Go.ChangeAt Go.RowKit Go.Deep
set_option linter.unusedVariables false
theorem appI1 {w : World} {B : Nat} {ops : Array Oper} {rest : List Oper} {o : Oper} {a : Act} {Q : Exit → Act → World → Prop} (hgd : o.guard = none) (s x : Operand)
    (ho : o.op = .call { callee := .builtin .append, args := #[s, x], argTypes := #[28, 28] }) (v : Value) (n : Nat) (xs : List Int) (hs : a.eval s = v)
    (hown : w.ownsRow B 3 1 v n (icells xs)) (hB : B ≤ w.heap.size) (y : Int) (e : TypeId) (b : Nat) (hx : a.eval x = .slice (some ⟨b, 0, none⟩) 1 1) (hbs : b = w.heap.size) (hn : n ≤ 90000000)
    (h : ∀ A' c' w', w'.ownsRow B 3 1 (.slice A' (n + 1) c') (n + 1) (icells (xs ++ [y])) → w.grownBy w' v.ownBlock → wpList Try.prog ops Q rest (a.put o.dst (.slice A' (n + 1) c')) w') :
    wpList Try.prog ops Q (o :: rest) a (w.alloc (.cells #[.int .i64 y] e)) := by
  subst hbs
  have hcs := cutW_size hB
  refine appIntS (w0 := cutW w B) hgd s x ho v n xs hs (by rw [hcs]; exact hown.alloc _) ((cutW_ext hB).alloc _) _ 1 1 [y] hx (rd_new w _ e 1 _ (by simp [icell]) (by simp [icell])) (by omega) ?_
  intro v' w' h1 h2 h3 h4
  rw [hcs] at h1
  obtain ⟨A', c', rfl, _⟩ := own_slice h1
  exact h A' c' w' h1 (World.grownBy.trans (((Ext.refl w).alloc _).gr _) h3)
theorem icells_takeD (k : Nat) (xs : List Int) : icells (xs.take k) = (icells xs).take (k * 1) := by
  induction xs generalizing k with
  | nil => simp [icells]
  | cons y xs ih =>
    cases k with
    | zero => simp [icells]
    | succ k =>
      have := ih k
      simp only [icells, Nat.mul_one] at this ⊢
      simp only [List.take_succ_cons, List.flatMap_cons, this, icell, List.cons_append, List.nil_append]
/-- What a draw of a row of ints hands back. -/
def DrewInts (w : World) (g most : Nat) (e : Ending) (w' : World) : Prop :=
  ∃ (A : Option Addr) (len cap : Nat) (xs : List Int), e = .returned (.slice A len cap) ∧ len ≤ most ∧ w'.ownsRow w.heap.size 3 1 (.slice A len cap) len (icells xs) ∧ Cur w' g ∧ w.grownBy w' (some g)
set_option maxRecDepth 100000 in
set_option maxHeartbeats 8000000 in
theorem l8Bent_any (g : Nat) (w : World) (h : Cur w g) :
    Calls Try.prog 38 #[.pointer (some ⟨g, 0, none⟩)] w (DrewInts w g 5) := by
  have hgl := h.lt
  go_enter Try.func38, Try.ntmps38
  go_wp2_with fail
  refine (l1Below_any g 4 _ h (by omega)).mono ?_
  rintro e w2 ⟨x, rfl, ⟨hx0, hx1, _⟩, hC2, hG2⟩
  obtain ⟨n, rfl⟩ := Int.eq_ofNat_of_zero_le hx0
  have hx2 : n < 4 := by have := hx1 (by omega); omega
  clear hx1 hx0
  go_wp2_with fail
  obtain ⟨n1, e1, hb1, hb2⟩ : ∃ n1 : Nat, (1 : Int) + (n : Int) = (n1 : Int) ∧ 1 ≤ n1 ∧ n1 ≤ 4 := ⟨n + 1, by omega, by omega, by omega⟩
  rw [e1]
  clear e1
  refine (l8Perm_any g n1 ⟨by omega, by omega⟩ _ hC2).mono ?_
  rintro e w3 ⟨b, c, rfl, hb, hI3, hC3, hG3⟩
  have hg3 := gr_trans hG2 hG3
  have hbw : w.heap.size ≤ b := by have := gr_size hG2; omega
  clear hG3 hC2
  go_wp2_with fail
  refine (l1Below_any g 8 _ hC3 (by omega)).mono ?_
  rintro e w4 ⟨x, rfl, ⟨hx0, hx1, _⟩, hC4, hG4⟩
  have hx2 := hx1 (by omega)
  clear hx1
  have hI4 := hI3.grown hG4 (fun k hk => by injection hk; omega)
  have hg4 := gr_trans hg3 hG4
  clear hg3 hG4 hC3 hI3 hG2
  by_cases e0 : x = 0
  · subst e0
    go_wp2_with fail
    refine (l1Below_any g n1 _ hC4 (by omega)).mono ?_
    rintro e w5 ⟨x, rfl, ⟨hx0, hx1, _⟩, hC5, hG5⟩
    obtain ⟨j, rfl⟩ := Int.eq_ofNat_of_zero_le hx0
    have hj : j < n1 := by have := hx1 (by omega); omega
    clear hx1 hx0
    go_wp2_with fail
    refine (l1PickInt_any g _ 5 _ [0, 1, 4, -1, 9223372036854775807] _ (hC5.alloc _) (rd_newN w5 _ _ _ 5 1 _ rfl rfl rfl) (by intro b o e; injection e with e; injection e with e1; have := hC5.lt; omega) (by omega)).mono ?_
    rintro e w6 ⟨z, rfl, hz, hC6, hG6⟩
    have hzI : I64 z := by unfold I64; simp at hz; omega
    clear hz
    have hI6 := ((hI4.grown hG5 (fun k hk => by injection hk; omega)).grown (((Ext.refl w5).alloc (.cells #[.int .i64 0, .int .i64 1, .int .i64 4, .int .i64 (-1), .int .i64 9223372036854775807] 3)).gr none) (by simp)).grown hG6 (fun k hk => by injection hk; omega)
    have hg6 := gr_trans (gr_alloc (gr_trans hg4 hG5) _) hG6
    have hI7 := hI6.set_ j z hzI
    have hC7 := hC6.set_ (p := ⟨b, j, none⟩) (by simp; omega) (.int .i64 z)
    have hg7 := gr_set hg6 (p := ⟨b, j, none⟩) hbw (.int .i64 z)
    have fj := hI6.frozen j
    obtain ⟨u, hu⟩ := hI6.cell hj
    obtain ⟨xs, _, ho⟩ := hI7.own hbw
    have HO := Lib.hid ho
    clear ho hG5 hG6 hC4 hC5 hzI hI7
    have HC := Lib.hid hC7
    have HG := Lib.hid hg7
    clear hC7 hg7
    go_wp2
    go_ret
    exact ⟨_, _, _, xs, rfl, by omega, HO.out, HC.out, HG.out⟩
  by_cases e1 : x = 1
  · subst e1
    go_wp2_with fail
    refine (l1Below_any g n1 _ hC4 (by omega)).mono ?_
    rintro e w5 ⟨x, rfl, ⟨hx0, hx1, _⟩, hC5, hG5⟩
    obtain ⟨j, rfl⟩ := Int.eq_ofNat_of_zero_le hx0
    have hj : j < n1 := by have := hx1 (by omega); omega
    clear hx1 hx0
    obtain ⟨xs, _, ho⟩ := (hI4.grown hG5 (fun k hk => by injection hk; omega)).own hbw
    have hlc := own_lc ho
    have hjc : j ≤ c := by omega
    have ho2 := own_prefix ho (Nat.le_of_lt hj)
    rw [← icells_takeD] at ho2
    have HO := Lib.hid ho2
    have HG := Lib.hid (gr_trans hg4 hG5)
    clear ho ho2 hG5 hC4
    go_wp2
    go_ret
    exact ⟨_, _, _, xs.take j, rfl, by omega, HO.out, hC5, HG.out⟩
  by_cases e2 : x = 2
  · subst e2
    obtain ⟨xs, _, ho⟩ := hI4.own hbw
    have hsz := gr_size hg4
    have HO := Lib.hid ho
    clear ho
    go_wp2_with (at_builtin; refine appI1 (B := w.heap.size) rfl _ _ rfl _ n1 xs rfl HO.out hsz (n1 : Int) _ _ rfl rfl (by omega) ?_; intro A6 c6 w6 ho6 hg6)
    go_ret
    have hgb : ∀ k, (Value.slice (some ⟨b, 0, none⟩) n1 c).ownBlock = some k → k = b := fun k hk => by injection hk with hk; exact hk.symm
    exact ⟨_, _, _, _, rfl, by omega, ho6, hC4.grown hg6 (fun k hk => by have := hgb k hk; omega), gr_new hg4 hg6 (fun k hk => by have := hgb k hk; omega)⟩
  · obtain ⟨xs, _, ho⟩ := hI4.own hbw
    go_wp2
    go_ret
    exact ⟨_, _, _, xs, rfl, by omega, ho, hC4, hg4⟩
end Go.Proofs.Ytofbmkpfliofeab
/-
  Helper text (no claim of its own): the decomposition of lists of gates, and the routing of lists of gates, by the reference.
-/
namespace Go.Proofs.Ytofbmkpfliofeab
open Go.ChangeShapes Go.WideShapes Go.ChangeAt Go.RowKit Go.Deep
set_option linter.unusedVariables false
def decG (gs : List Gt) : List Gt := gs.flatMap dec
theorem decG_snoc {gs : List Gt} {k : Nat} {g : Gt} (h : gs[k]? = some g) : decG (gs.take (k + 1)) = decG (gs.take k) ++ dec g := by
  unfold decG; rw [take_snoc h, List.flatMap_append]; simp
theorem decG_len (gs : List Gt) : (decG gs).length ≤ 15 * gs.length := by
  unfold decG
  induction gs with
  | nil => simp
  | cons o xs ih => have := dec_len o; rw [List.flatMap_cons, List.length_append, List.length_cons]; omega
theorem decG_take (gs : List Gt) (k : Nat) : (decG (gs.take k)).length ≤ 15 * k := by
  have h1 := decG_len (gs.take k)
  have h2 : (gs.take k).length ≤ k := List.length_take_le _ _
  omega
theorem decG_hcs (gs : List Gt) : hcs (decG gs) ≤ 2 * gs.length := by
  unfold decG
  induction gs with
  | nil => exact Nat.le_refl 0
  | cons o xs ih => have := hcs_dec o; rw [List.flatMap_cons, hcs_app, List.length_cons]; omega
theorem hcs_rgL (x : Gr) (a b : Int) : ∀ (f : Nat) (now : List Int), hcs (rgL x a b f now).1 = 0
  | 0, now => rfl
  | f + 1, now => by
    unfold rgL
    split
    · show hcs (_ :: (rgL x a b f _).1) = 0
      rw [hcs_cons, hcs_rgL x a b f _]
      rfl
    · rfl
theorem hcs_routG (x : Gr) (g : Gt) (p : List Int) : hcs (routG x g p).1 ≤ hct g := by
  cases hm : may g x p
  · rw [routG_no hm]; exact Nat.zero_le _
  · cases h1 : (ar g.k == 1)
    · rw [routG_2 hm h1]
      show hcs (_ ++ [_]) ≤ _
      rw [hcs_snoc, hcs_rgL]
      exact Nat.zero_le _
    · rw [routG_1 hm h1]
      show hcs [g1 g.k _] ≤ _
      rw [hcs_cons]
      exact Nat.le_refl _
set_option maxRecDepth 100000 in
set_option maxHeartbeats 4000000 in
theorem spec_DecomposeGates_any (A : Option Addr) (n c : Nat) (gs : List Gt) (w : World) (h : Rd w w.heap.size 4 A n (gcells gs)) (hn : n ≤ 1048576) :
    Calls Try.prog 63 #[.slice A n c] w fun e w' => ∃ v, e = .returned v ∧ w'.ownsRow w.heap.size 43 4 v (decG gs).length (gcells (decG gs)) ∧ Ext w w' := by
  have hlen := Lib.hid (h.len Gt.cells_len (by omega))
  go_enter Try.func63, Try.ntmps63
  go_wp2
  go_loopw [3, 4] (fun v i wr => ∃ k : Nat, k ≤ n ∧ i = .int .i64 k ∧ wr.ownsRow w.heap.size 43 4 v (decG (gs.take k)).length (gcells (decG (gs.take k))) ∧ Ext w wr) (fun _ i _ => n - (intOf i).toNat)
  case atStart => exact ⟨0, Nat.zero_le _, rfl, own_empty w w _ _ (Ext.refl _), (by repeat (first | exact Ext.refl _ | assumption | refine Ext.alloc ?_ _ | refine Ext.drewN ?_ _ | refine Ext.drew ?_))⟩
  case round =>
    obtain ⟨k, hk, rfl, hown, hx⟩ := hrel
    by_cases hlt : k < n
    · obtain ⟨b, o, g, rfl, hb, hg, r0, r1, r2, r3⟩ := gate_at (h.ext hx) hlt
      have HS := Lib.hid (decG_snoc hg)
      clear hg
      have hle := decG_take gs k
      have hdl := dec_len g
      go_wp2_with fail
      refine (spec_DecomposeGate_any g _).mono ?_
      rintro e w1 ⟨v1, rfl, ho1, hx1⟩
      obtain ⟨A1, c1, rfl, hr1⟩ := own_slice ho1
      clear r0 r1 r2 r3
      go_wp2_with (at_builtin; refine appGateS (w0 := w) rfl _ _ rfl _ _ (decG (gs.take k)) rfl (own_ext hown hx1) (hx.trans hx1) A1 _ c1 (dec g) rfl hr1 (by omega) ?_; intro v2 w2 ho2 hX2 hg2 hl2)
      go_roundw
      case rel => exact ⟨k + 1, by omega, by go_num, by rw [HS.out, List.length_append]; exact ho2, hX2⟩
      case measure => simp [intOf]; omega
    · rw [List.take_of_length_le (by rw [hlen.out]; omega)] at hown
      go_wp2
      go_ret
      exact ⟨_, rfl, hown, hx⟩
/-- What the routing of lists of gates hands back (only its form). -/
def RgsE (w : World) (m mh : Nat) (e : Ending) (w' : World) : Prop :=
  ∃ (v1 v2 : Value) (b : Bool) (out : List Gt), e = .returned (.tuple #[v1, v2, .bool b]) ∧ (out.length ≤ 5 * m ∧ hcs out ≤ mh) ∧ w'.ownsRow w.heap.size 43 4 v1 out.length (gcells out) ∧ Ext w w'
end Go.Proofs.Ytofbmkpfliofeab
/-
  Helper text (no claim of its own): drawn gates beside a drawn graph. Printed by gen_draww.py.
-/
namespace Go.Proofs.Ytofbmkpfliofeab
open Go.ChangeShapes Go.WideShapes Go.ChangeAt Go.RowKit Go.Deep
set_option linter.unusedVariables false
theorem graphgate_ne : (27 : Nat) ≠ 43 := by decide
theorem edgegate_ne : (74 : Nat) ≠ 43 := by decide
theorem blk_apart {w : World} {s T : Nat} {cs : Array Value} {B e size n : Nat} {v : Value} {xs : List Value} (h : Blk w s T cs) (ho : w.ownsRow B e size v n xs) (hne : T ≠ e) : ∀ k, v.ownBlock = some k → s ≠ k := by
  intro k hk e1
  subst e1
  rcases ho.2 with ⟨rfl, _⟩ | ⟨b', cap', cur', rfl, _, hc', _⟩
  · cases hk
  · injection hk with hk
    subst hk
    unfold Blk at h
    rw [h] at hc'
    injection hc' with hc'
    injection hc' with _ hc'
    exact hne hc'
section
variable {w0 w w' : World} {g q : Nat} {N N' : Int} {A A' : Option Addr} {l c l' c' : Nat} {es es' : List Ed} {L L' : Option Addr} {len cap cap' : Nat} {gs : List Gt}
/-- The graph's header is written anew. -/
theorem DG.fresh (h : DG w0 w g q N A l c es) (hg : w.grownBy w' (some g)) (hC : Cur w' g) (hs : g < q) (hl : g < w0.heap.size) (hq : w0.heap.size < q) (ho : w'.ownsRow w.heap.size 74 2 (.slice A' l' c') l' (ecells es')) (hok : ∀ e ∈ es', e.ok) :
    DG w0 ((w'.setCell ⟨q, 0, none⟩ (.int .i64 N')).setCell ⟨q, 1, none⟩ (.slice A' l' c')) g q N' A' l' c' es' := by
  have hlt := h.2.1.lt
  have hlw := h.1.lt
  obtain ⟨h1, h2, h3, h4, h5, h6, h7⟩ := h.grown hg hC hs hl
  refine ⟨(h1.far (p := ⟨q, 0, none⟩) (by simp; omega) _).far (p := ⟨q, 1, none⟩) (by simp; omega) _, h2.set2 _ _, own_base (own_set (own_set ho (p := ⟨q, 0, none⟩) hlt _) (p := ⟨q, 1, none⟩) hlt _) hlw, ?_, h5.set2 hs _ _, gr_set2 h6 (Nat.le_of_lt hq) _ _, hok⟩
  intro k hk
  have := (ho.lt k hk).1
  omega
/-- A row of gates is written. -/
theorem DG.rowG {B n : Nat} {v : Value} {xs : List Value} (h : DG w0 w g q N A l c es) (ho : w.ownsRow B 43 4 v n xs) (hB : w0.heap.size < B) (hl : g < w0.heap.size) (hg : w.grownBy w' v.ownBlock) : DG w0 w' g q N A l c es := by
  obtain ⟨h1, h2, h3, h4, h5, h6, h7⟩ := h
  have hlo : ∀ k, v.ownBlock = some k → B ≤ k := fun k hk => (ho.lt k hk).1
  exact ⟨h1.grown hg (blk_apart h1 ho graphgate_ne), h2.grown hg (blk_apart h2 ho graphgate_ne), own_other h3 ho edgegate_ne hg, h4, h5.grown hg (fun k hk => by have := hlo k hk; omega), gr_new h6 hg (fun k hk => by have := hlo k hk; omega), h7⟩
/-- Drawn gates and a drawn graph whose header lies in block q. -/
def LG (w0 w : World) (g q : Nat) (N : Int) (A : Option Addr) (l c : Nat) (es : List Ed) (L : Option Addr) (len cap : Nat) (gs : List Gt) : Prop :=
  DG w0 w g q N A l c es ∧ w.ownsRow (w0.heap.size + 1) 43 4 (.slice L len cap) len (gcells gs)
theorem LG.cur (h : LG w0 w g q N A l c es L len cap gs) : Cur w g := h.1.2.2.2.2.1
theorem LG.grown (h : LG w0 w g q N A l c es L len cap gs) (hg : w.grownBy w' (some g)) (hC : Cur w' g) (hs : g < q) (hl : g < w0.heap.size) : LG w0 w' g q N A l c es L len cap gs :=
  ⟨h.1.grown hg hC hs hl, own_kept h.2 hg (fun k hk => by injection hk; omega)⟩
theorem LG.fresh (h : LG w0 w g q N A l c es L len cap gs) (hg : w.grownBy w' (some g)) (hC : Cur w' g) (hs : g < q) (hl : g < w0.heap.size) (hq : w0.heap.size < q) (ho : w'.ownsRow w.heap.size 74 2 (.slice A' l' c') l' (ecells es')) (hok : ∀ e ∈ es', e.ok) :
    LG w0 ((w'.setCell ⟨q, 0, none⟩ (.int .i64 N')).setCell ⟨q, 1, none⟩ (.slice A' l' c')) g q N' A' l' c' es' L len cap gs := by
  refine ⟨h.1.fresh hg hC hs hl hq ho hok, ?_⟩
  have h2 := own_kept h.2 hg (fun k hk => by injection hk; omega)
  have hb := h.1.2.1.grown hg (fun k hk => by injection hk; omega)
  have ha := blk_apart hb h2 graphgate_ne
  have k1 := h2.kept (row := some q) (gr_setCell (World.grownBy.refl w' (some q)) 0 (.int .i64 N')) (by
    cases hv : (Value.slice L len cap).ownBlock with
    | none => exact .inl rfl
    | some k => exact .inr (fun e => ha k hv (by injection e with e; exact e.symm)))
  exact k1.kept (row := some q) (gr_setCell (World.grownBy.refl _ (some q)) 1 _) (by
    cases hv : (Value.slice L len cap).ownBlock with
    | none => exact .inl rfl
    | some k => exact .inr (fun e => ha k hv (by injection e with e; exact e.symm)))
theorem LG.app {y : Gt} (h : LG w0 w g q N A l c es L len cap gs) (hl : g < w0.heap.size) (ho : w'.ownsRow (w0.heap.size + 1) 43 4 (.slice L' (len + 1) cap') (len + 1) (gcells (gs ++ [y]))) (hg : w.grownBy w' (Value.slice L len cap).ownBlock) : LG w0 w' g q N A l c es L' (len + 1) cap' (gs ++ [y]) :=
  ⟨h.1.rowG h.2 (Nat.lt_succ_self _) hl hg, ho⟩
theorem LG.drew (h : LG w0 w g q N A l c es L len cap gs) : LG w0 w.drew g q N A l c es L len cap gs := ⟨h.1.drew, own_ext h.2 (Ext.refl w).drew⟩
theorem LG.fin (h : LG w0 w g q N A l c es L len cap gs) (hl : g < w0.heap.size) :
    (((w.setCell ⟨w0.heap.size, 0, none⟩ (.int .i64 N)).setCell ⟨w0.heap.size, 1, none⟩ (.slice A l c)).cell? ⟨w0.heap.size, 0, none⟩ = some (.int .i64 N) ∧ ((w.setCell ⟨w0.heap.size, 0, none⟩ (.int .i64 N)).setCell ⟨w0.heap.size, 1, none⟩ (.slice A l c)).cell? ⟨w0.heap.size, 1, none⟩ = some (.slice A l c)) ∧
    ((w.setCell ⟨w0.heap.size, 0, none⟩ (.int .i64 N)).setCell ⟨w0.heap.size, 1, none⟩ (.slice A l c)).ownsRow w0.heap.size 43 4 (.slice L len cap) len (gcells gs) ∧
    ((w.setCell ⟨w0.heap.size, 0, none⟩ (.int .i64 N)).setCell ⟨w0.heap.size, 1, none⟩ (.slice A l c)).ownsRow w0.heap.size 74 2 (.slice A l c) l (ecells es) ∧ Cur ((w.setCell ⟨w0.heap.size, 0, none⟩ (.int .i64 N)).setCell ⟨w0.heap.size, 1, none⟩ (.slice A l c)) g ∧ w0.grownBy ((w.setCell ⟨w0.heap.size, 0, none⟩ (.int .i64 N)).setCell ⟨w0.heap.size, 1, none⟩ (.slice A l c)) (some g) ∧ ∀ e ∈ es, e.ok := by
  have hb := h.1.1.set2 (.int .i64 N) (.slice A l c)
  obtain ⟨d1, d2, d3, d4⟩ := h.1.done hl
  exact ⟨⟨hb.cell 0, hb.cell 1⟩, own_base (own_set (own_set h.2 (p := ⟨w0.heap.size, 0, none⟩) (by simp) _) (p := ⟨w0.heap.size, 1, none⟩) (by simp) _) (by omega), d1, d2, d3, d4⟩
theorem LG.finD (h : LG w0 w g q N A l c es L len cap gs) (hl : g < w0.heap.size) :
    (((w.setCell ⟨w0.heap.size, 0, none⟩ (.int .i64 N)).setCell ⟨w0.heap.size, 1, none⟩ (.slice A l c)).drew.cell? ⟨w0.heap.size, 0, none⟩ = some (.int .i64 N) ∧ ((w.setCell ⟨w0.heap.size, 0, none⟩ (.int .i64 N)).setCell ⟨w0.heap.size, 1, none⟩ (.slice A l c)).drew.cell? ⟨w0.heap.size, 1, none⟩ = some (.slice A l c)) ∧
    ((w.setCell ⟨w0.heap.size, 0, none⟩ (.int .i64 N)).setCell ⟨w0.heap.size, 1, none⟩ (.slice A l c)).drew.ownsRow w0.heap.size 43 4 (.slice L len cap) len (gcells gs) ∧
    ((w.setCell ⟨w0.heap.size, 0, none⟩ (.int .i64 N)).setCell ⟨w0.heap.size, 1, none⟩ (.slice A l c)).drew.ownsRow w0.heap.size 74 2 (.slice A l c) l (ecells es) ∧ Cur ((w.setCell ⟨w0.heap.size, 0, none⟩ (.int .i64 N)).setCell ⟨w0.heap.size, 1, none⟩ (.slice A l c)).drew g ∧ w0.grownBy ((w.setCell ⟨w0.heap.size, 0, none⟩ (.int .i64 N)).setCell ⟨w0.heap.size, 1, none⟩ (.slice A l c)).drew (some g) ∧ ∀ e ∈ es, e.ok := by
  obtain ⟨⟨q0, q1⟩, e1, e2, e3, e4, e5⟩ := h.fin hl
  exact ⟨⟨q0, q1⟩, own_ext e1 (Ext.refl _).drew, own_ext e2 (Ext.refl _).drew, e3.ext (Ext.refl _).drew, gr_ext e4 (Ext.refl _).drew, e5⟩
end
theorem circField (a b : Value) (w : World) : (Instr.field 35 (.agg #[a, b]) 1).run Try.prog w = .ok b w := by kernel_rfl
/-- What a draw of gates and a graph hands back. -/
def DrewLG (w : World) (g most mh : Nat) (e : Ending) (w' : World) : Prop :=
  ∃ (L : Option Addr) (len cap : Nat) (gs : List Gt) (N : Int) (A : Option Addr) (l c : Nat) (es : List Ed), e = .returned (.tuple #[.slice L len cap, .agg #[.int .i64 N, .slice A l c]]) ∧ (-1 ≤ N ∧ N ≤ 5) ∧ (len ≤ most ∧ hcs gs ≤ mh) ∧ l ≤ 8 ∧ w'.ownsRow w.heap.size 43 4 (.slice L len cap) len (gcells gs) ∧ w'.ownsRow w.heap.size 74 2 (.slice A l c) l (ecells es) ∧ Cur w' g ∧ w.grownBy w' (some g) ∧ ∀ e ∈ es, e.ok
theorem DrewLG.mk {w w' : World} {g most mh : Nat} (L : Option Addr) (len cap : Nat) (gs : List Gt) (N : Int) (A : Option Addr) (l c : Nat) (es : List Ed) (h1 : -1 ≤ N ∧ N ≤ 5) (h2 : len ≤ most ∧ hcs gs ≤ mh) (h3 : l ≤ 8) (h4 : w'.ownsRow w.heap.size 43 4 (.slice L len cap) len (gcells gs) ∧ w'.ownsRow w.heap.size 74 2 (.slice A l c) l (ecells es) ∧ Cur w' g ∧ w.grownBy w' (some g) ∧ ∀ e ∈ es, e.ok) : DrewLG w g most mh (.returned (.tuple #[.slice L len cap, .agg #[.int .i64 N, .slice A l c]])) w' :=
  ⟨L, len, cap, gs, N, A, l, c, es, rfl, h1, h2, h3, h4⟩
set_option maxRecDepth 100000 in
set_option maxHeartbeats 16000000 in
theorem l37Args_any (g most : Nat) (hm : most ≤ 200) (w : World) (h : Cur w g) :
    Calls Try.prog 34 #[.pointer (some ⟨g, 0, none⟩), .int .i64 most] w (DrewLG w g (15 * most + 1) (2 * most + 1)) := by
  have hgl := h.lt
  have hcf := circField
  go_enter Try.func34, Try.ntmps34
  go_wp2_with fail
  refine (l1Below_any g 4 _ (h.alloc _) (by omega)).mono ?_
  rintro e w2 ⟨x, rfl, ⟨hx0, hx1, _⟩, hC2, hG2⟩
  obtain ⟨n, rfl⟩ := Int.eq_ofNat_of_zero_le hx0
  have hx2 : n < 4 := by have := hx1 (by omega); omega
  clear hx1 hx0
  go_wp2_with fail
  obtain ⟨n1, e1, hb1, hb2⟩ : ∃ n1 : Nat, (1 : Int) + (n : Int) = (n1 : Int) ∧ 1 ≤ n1 ∧ n1 ≤ 4 := ⟨n + 1, by omega, by omega, by omega⟩
  rw [e1]
  clear e1
  refine (l36Right_any g n1 ⟨by omega, by omega⟩ _ hC2).mono ?_
  rintro e w3 ⟨N, A, l, c, es, rfl, rfl, hll, ho3, hC3, hG3, hok3⟩
  have hB2 := (Blk.new w 27 #[.int .i64 0, .slice none 0 0]).grown hG2 (fun k hk => by injection hk; omega)
  have hB3 := hB2.grown hG3 (fun k hk => by injection hk; omega)
  have hl2 := hB2.lt
  have hl3 := hB3.lt
  have hg3 : w.grownBy w3 (some g) := gr_trans (gr_trans (((Ext.refl w).alloc _).gr _) hG2) hG3
  have hD : DG w (w3.alloc (.cells #[.int .i64 n1, .slice A l c] 27)) g w3.heap.size n1 A l c es :=
    ⟨hB3.alloc _, Blk.new _ _ _, own_ext (own_base ho3 hl2) ((Ext.refl w3).alloc _), own_ne (own_base ho3 hl2) (Nat.le_refl _), hC3.alloc _, gr_alloc hg3 _, hok3⟩
  clear hB2 hB3 hG2 hG3 hg3 hC2 ho3
  go_wp2_with fail
  refine (l11Right_any g n1 most ⟨by omega, by omega⟩ hm _ (hC3.alloc _)).mono ?_
  rintro e w4 ⟨L, len, cap, gs, rfl, hlen, ho4, hC4, hG4⟩
  have hgs : g < w3.heap.size := by omega
  have hD4 := hD.grown hG4 hC4 hgs hgl
  have ho4' := own_base ho4 (show w.heap.size + 1 ≤ (w3.alloc (.cells #[.int .i64 n1, .slice A l c] 27)).heap.size from by simp; omega)
  have hgl4 := (Rd.own ho4).len Gt.cells_len (by omega)
  clear hD hG4 hC3 ho4 hok3
  generalize w3.heap.size = q at *
  have hws : w.heap.size < q := by omega
  go_wp2_with fail
  refine (spec_DecomposeGates_any L len cap gs _ (Rd.own ho4') (by omega)).mono ?_
  rintro e w5 ⟨v5, rfl, ho5, hx5⟩
  obtain ⟨L5, c5, rfl, _⟩ := own_slice ho5
  have hdl := decG_len gs
  have hdh := decG_hcs gs
  have HL5 := Lib.hid (show LG w w5 g q n1 A l c es L5 (decG gs).length c5 (decG gs) from ⟨hD4.grown (hx5.gr _) (hC4.ext hx5) hgs hgl, own_base ho5 (Nat.succ_le_of_lt hD4.1.lt)⟩)
  clear hD4 ho4' ho5 hx5 hC4
  rw [hgl4] at hdl hdh
  clear hgl4
  generalize decG gs = ds at *
  generalize ds.length = m5 at *
  go_wp2_with fail
  refine (l1Once_any g 12 _ HL5.out.cur (by omega)).mono ?_
  rintro e w6 ⟨f1, rfl, hC6, hG6⟩
  have HL6 := Lib.hid (HL5.out.grown hG6 hC6 hgs hgl)
  clear HL5 hG6
  cases f1
  case' false =>
    have HLa := HL6
    have hNa : -1 ≤ (n1 : Int) ∧ (n1 : Int) ≤ 5 := by omega
    have hla : l ≤ 8 := by omega
    clear HL6
  case' true =>
    go_wp2_with fail
    refine (l36Bent_any g _ hC6).mono ?_
    rintro e w7 ⟨N', A', l', c', es', rfl, hNa, hla, ho7, hC7, hG7, hok7⟩
    have HL7 := Lib.hid (HL6.out.grown hG7 hC7 hgs hgl)
    have hs7 := HL7.out.1.2.1.lt
    obtain ⟨⟨b0, b1⟩, z0, z1⟩ := blk2 HL7.out.1.2.1
    have HLa := Lib.hid (HL6.out.fresh (N' := N') hG7 hC7 hgs hgl hws ho7 hok7)
    clear HL6 HL7 ho7 hok7 hG7 hC6
  all_goals
    go_wp2_with fail
    refine (l1Once_any g 12 _ HLa.out.cur (by omega)).mono ?_
    rintro e w8 ⟨f2, rfl, hC8, hG8⟩
    have HL8 := Lib.hid (HLa.out.grown hG8 hC8 hgs hgl)
    clear HLa hG8
    (try clear b0 b1 z0 z1)
    cases f2
    case' false =>
      have HL := HL8
      have hlm : m5 ≤ 15 * most + 1 ∧ hcs ds ≤ 2 * most + 1 := by omega
      clear HL8
    case' true =>
      go_wp2_with fail
      refine (l9Bent_any g n1 ⟨by omega, by omega⟩ _ hC8).mono ?_
      rintro e w9 ⟨y, rfl, hC9, hG9⟩
      have HL9 := Lib.hid (HL8.out.grown hG9 hC9 hgs hgl)
      have hw9 := HL9.out.1.1.lt
      clear HL8 hG9 hC8
      go_upto_region 8 with (at_builtin; refine appG1 (B := w.heap.size + 1) rfl _ _ rfl _ m5 ds rfl HL9.out.2 (by omega) y _ _ rfl rfl (by omega) ?_; intro L9 cap9 w10 ho10 hg10 _; have HL := Lib.hid (HL9.out.app hgl ho10 hg10); clear ho10 hg10 HL9)
      have hlm : m5 + 1 ≤ 15 * most + 1 ∧ hcs (ds ++ [y]) ≤ 2 * most + 1 := by
        have hy1 := hct_le y
        rw [hcs_snoc]
        omega
    all_goals
      have hq8 := HL.out.1.2.1.lt
      have hw8 := HL.out.1.1.lt
      obtain ⟨⟨b0, b1⟩, z0, z1⟩ := blk2 HL.out.1.2.1
      obtain ⟨⟨a0, a1⟩, y0, y1⟩ := blk2 HL.out.1.1
      (try go_wp2)
      refine wp_region_held_drew (S := fun W => W.cell? ⟨q, 0, none⟩ = some _ ∧ W.cell? ⟨q, 1, none⟩ = some _) (by kernel_rfl) ⟨HL.out.drew.1.2.1.cell 0, HL.out.drew.1.2.1.cell 1⟩ (fun hHeld => ?_)
      (refine wpAnyH_take (i := 0) (v := ?_) rfl (by kernel_rfl) (by kernel_rfl) (by kernel_rfl) (fun _ _ _ h => h) (Or.inl ⟨by rfl, ?_⟩) (by assumption) ?_; rotate_left; · (intro w hSw; (try dsimp only at hSw); go_simp; all_goals with_reducible rfl); (try simp only [Act.put, List.getElem_toArray, List.getElem_cons_zero, List.getElem_cons_succ, List.setIfInBounds_toArray, List.set_cons_zero, List.set_cons_succ]))
      (try simp only [Act.put, List.getElem_toArray, List.getElem_cons_zero, List.getElem_cons_succ, List.setIfInBounds_toArray, List.set_cons_zero, List.set_cons_succ])
      (refine wpAnyH_take (i := 1) (v := ?_) rfl (by kernel_rfl) (by kernel_rfl) (by kernel_rfl) (fun _ _ _ h => h) (Or.inl ⟨by rfl, ?_⟩) (by assumption) ?_; rotate_left; · (intro w hSw; (try dsimp only at hSw); go_simp; all_goals with_reducible rfl); (try simp only [Act.put, List.getElem_toArray, List.getElem_cons_zero, List.getElem_cons_succ, List.setIfInBounds_toArray, List.set_cons_zero, List.set_cons_succ]))
      (try simp only [Act.put, List.getElem_toArray, List.getElem_cons_zero, List.getElem_cons_succ, List.setIfInBounds_toArray, List.set_cons_zero, List.set_cons_succ])
      (refine wpAnyH_take (i := 2) (v := ?_) rfl (by kernel_rfl) (by kernel_rfl) (by kernel_rfl) (fun _ _ _ h => h) (Or.inl ⟨by rfl, ?_⟩) (by assumption) ?_; rotate_left; · (intro w hSw; (try dsimp only at hSw); go_simp; all_goals with_reducible rfl); (try simp only [Act.put, List.getElem_toArray, List.getElem_cons_zero, List.getElem_cons_succ, List.setIfInBounds_toArray, List.set_cons_zero, List.set_cons_succ]))
      (try simp only [Act.put, List.getElem_toArray, List.getElem_cons_zero, List.getElem_cons_succ, List.setIfInBounds_toArray, List.set_cons_zero, List.set_cons_succ])
      refine wpAnyH_ready (rs := [3]) (by kernel_rfl) (by simp) ?_
      refine AllReadyH.cons rfl (fun K hK => ?_) AllReadyH.nil
      go_simp
      have hne : q ≠ w.heap.size := by omega
      refine hK.out _ _ ⟨((HL.out.drew.1.2.1.far (p := ⟨w.heap.size, 0, none⟩) hne _).far (p := ⟨w.heap.size, 1, none⟩) hne _).cell 0, ((HL.out.drew.1.2.1.far (p := ⟨w.heap.size, 0, none⟩) hne _).far (p := ⟨w.heap.size, 1, none⟩) hne _).cell 1⟩ (fun hHeld => ?_)
      clear hK K
      (try simp only [Act.put, List.getElem_toArray, List.getElem_cons_zero, List.getElem_cons_succ, List.setIfInBounds_toArray, List.set_cons_zero, List.set_cons_succ])
      (refine wpAnyH_done (by kernel_rfl) ?_ _)
      clear hHeld a0 a1 y0 y1 b0 b1 z0 z1
      obtain ⟨⟨q0, q1⟩, e1, e2, e3, e4, e5⟩ := HL.out.finD hgl
      go_wp2
      exact bodyPost_ret (v := .tuple #[.slice _ _ _, .agg #[.int .i64 _, .slice _ _ _]]) (by simp [results, Try.results34, go_sem, q0, q1]) rfl (DrewLG.mk _ _ _ _ _ _ _ _ _ hNa hlm hla ⟨e1, e2, e3, e4, e5⟩)
end Go.Proofs.Ytofbmkpfliofeab
/-
  Helper text (no claim of its own): orientation of lists of gates by the reference.
-/
namespace Go.Proofs.Ytofbmkpfliofeab
open Go.ChangeShapes Go.WideShapes Go.ChangeAt Go.RowKit Go.Deep
theorem oriAll_len (x : Gr) (gs : List Gt) : (oriAll x gs).length ≤ 75 * gs.length := by
  unfold oriAll
  split
  · exact oriF_len x gs
  · simp
end Go.Proofs.Ytofbmkpfliofeab
/-
  Helper text (no claim of its own): drawn gates, graphs and layouts of the laws on routing. Printed by gen_drawx.py.
-/
namespace Go.Proofs.Ytofbmkpfliofeab
open Go.ChangeShapes Go.WideShapes Go.ChangeAt Go.RowKit Go.Deep
set_option linter.unusedVariables false
set_option linter.unusedSimpArgs false
theorem graphint_ne : (27 : Nat) ≠ 3 := by decide
theorem graphedge_ne : (27 : Nat) ≠ 74 := by decide
theorem curgate_ne : (91 : Nat) ≠ 43 := by decide
theorem curedge_ne : (91 : Nat) ≠ 74 := by decide
theorem curint_ne : (91 : Nat) ≠ 3 := by decide
theorem own_setB {w : World} {r T i : Nat} {cs : Array Value} {B e size n : Nat} {v : Value} {xs : List Value} (ho : w.ownsRow B e size v n xs) (h : Blk w r T cs) (hne : T ≠ e) (u : Value) : (w.setCell ⟨r, i, none⟩ u).ownsRow B e size v n xs := by
  refine ho.kept (row := some r) (gr_setCell (World.grownBy.refl w (some r)) i u) ?_
  cases hv : v.ownBlock with
  | none => exact .inl rfl
  | some k => exact .inr (fun e1 => blk_apart h ho hne k hv (by injection e1 with e1; exact e1.symm))
theorem own_setB2 {w : World} {r T : Nat} {z0 z1 : Value} {B e size n : Nat} {v : Value} {xs : List Value} (ho : w.ownsRow B e size v n xs) (h : Blk w r T #[z0, z1]) (hne : T ≠ e) (a b : Value) : ((w.setCell ⟨r, 0, none⟩ a).setCell ⟨r, 1, none⟩ b).ownsRow B e size v n xs :=
  own_setB (own_setB ho h hne a) (h.set_ 0 a) hne b
/-- A row is kept where the cursor alone moves. -/
theorem own_cur {w w' : World} {g : Nat} {B e size n : Nat} {v : Value} {xs : List Value} (ho : w.ownsRow B e size v n xs) (hC : Cur w g) (hne : (91 : Nat) ≠ e) (hg : w.grownBy w' (some g)) : w'.ownsRow B e size v n xs := by
  obtain ⟨A, m, c, i, hh, bs, hB, _⟩ := hC
  refine ho.kept hg ?_
  cases hv : v.ownBlock with
  | none => exact .inl rfl
  | some k => exact .inr (fun e1 => blk_apart hB ho hne k hv (by injection e1 with e1; exact e1.symm))
/-- A result cell r and a graph's header q. -/
def TG (w W : World) (r q : Nat) (N : Int) (A : Option Addr) (l c : Nat) (es : List Ed) : Prop :=
  Ext w W ∧ Blk W r 27 #[.int .i64 0, .slice none 0 0] ∧ Blk W q 27 #[.int .i64 N, .slice A l c] ∧ W.ownsRow w.heap.size 74 2 (.slice A l c) l (ecells es) ∧ w.heap.size ≤ r ∧ q ≠ r
section
variable {w W W' : World} {r q g : Nat} {N : Int} {A : Option Addr} {l c : Nat} {es : List Ed}
theorem TG.ext (h : TG w W r q N A l c es) (hx : Ext W W') : TG w W' r q N A l c es := by
  obtain ⟨h1, h2, h3, h4, h5, h6⟩ := h
  exact ⟨h1.trans hx, h2.ext hx, h3.ext hx, own_ext h4 hx, h5, h6⟩
theorem TG.grown (h : TG w W r q N A l c es) (hC : Cur W g) (hg : W.grownBy W' (some g)) (hw : w.heap.size ≤ g) (hr : r ≠ g) (hq : q ≠ g) : TG w W' r q N A l c es := by
  obtain ⟨h1, h2, h3, h4, h5, h6⟩ := h
  exact ⟨h1.grown hg (fun k hk => by injection hk; omega), h2.grown hg (fun k hk => by injection hk; omega), h3.grown hg (fun k hk => by injection hk; omega), own_cur h4 hC curedge_ne hg, h5, h6⟩
theorem TG.gr (h : TG w W r q N A l c es) : GrAt W W.heap.size (.agg #[.int .i64 N, .slice A l c]) ⟨N, es⟩ ∧ es.length = l := by
  have hr := Rd.own h.2.2.2.1
  have hl := Rd.len (f := Ed.cells) (fun _ => by simp [Ed.cells]) (by omega) hr
  subst hl
  exact ⟨⟨A, c, rfl, hr⟩, rfl⟩
theorem TG.fin (h : TG w W r q N A l c es) :
    (((W.setCell ⟨r, 0, none⟩ (.int .i64 N)).setCell ⟨r, 1, none⟩ (.slice A l c)).drew.cell? ⟨r, 0, none⟩ = some (.int .i64 N) ∧ ((W.setCell ⟨r, 0, none⟩ (.int .i64 N)).setCell ⟨r, 1, none⟩ (.slice A l c)).drew.cell? ⟨r, 1, none⟩ = some (.slice A l c)) ∧
    ((W.setCell ⟨r, 0, none⟩ (.int .i64 N)).setCell ⟨r, 1, none⟩ (.slice A l c)).drew.ownsRow w.heap.size 74 2 (.slice A l c) l (ecells es) ∧ Ext w ((W.setCell ⟨r, 0, none⟩ (.int .i64 N)).setCell ⟨r, 1, none⟩ (.slice A l c)).drew := by
  obtain ⟨h1, h2, h3, h4, h5, h6⟩ := h
  have hb := h2.set2 (.int .i64 N) (.slice A l c)
  exact ⟨⟨hb.cell 0, hb.cell 1⟩, own_ext (own_setB2 h4 h2 graphedge_ne _ _) (Ext.refl _).drew, ((h1.setCell h5 _).setCell h5 _).drew⟩
/-- The graph's header behind the writing of the result cell. -/
theorem TG.keep (h : TG w W r q N A l c es) : ((W.setCell ⟨r, 0, none⟩ (.int .i64 N)).setCell ⟨r, 1, none⟩ (.slice A l c)).drew.cell? ⟨q, 0, none⟩ = some (.int .i64 N) ∧ ((W.setCell ⟨r, 0, none⟩ (.int .i64 N)).setCell ⟨r, 1, none⟩ (.slice A l c)).drew.cell? ⟨q, 1, none⟩ = some (.slice A l c) := by
  obtain ⟨h1, h2, h3, h4, h5, h6⟩ := h
  have := (h3.far (p := ⟨r, 0, none⟩) h6 (.int .i64 N)).far (p := ⟨r, 1, none⟩) h6 (.slice A l c)
  exact ⟨this.cell 0, this.cell 1⟩
theorem TG.rows (h : TG w W r q N A l c es) {B e size n : Nat} {v : Value} {xs : List Value} (ho : W.ownsRow B e size v n xs) (hne : (27 : Nat) ≠ e) : ((W.setCell ⟨r, 0, none⟩ (.int .i64 N)).setCell ⟨r, 1, none⟩ (.slice A l c)).drew.ownsRow B e size v n xs :=
  own_ext (own_setB2 ho h.2.1 hne _ _) (Ext.refl _).drew
theorem TG.fin0 (h : TG w W r q N A l c es) :
    (((W.setCell ⟨r, 0, none⟩ (.int .i64 N)).setCell ⟨r, 1, none⟩ (.slice A l c)).cell? ⟨r, 0, none⟩ = some (.int .i64 N) ∧ ((W.setCell ⟨r, 0, none⟩ (.int .i64 N)).setCell ⟨r, 1, none⟩ (.slice A l c)).cell? ⟨r, 1, none⟩ = some (.slice A l c)) ∧
    ((W.setCell ⟨r, 0, none⟩ (.int .i64 N)).setCell ⟨r, 1, none⟩ (.slice A l c)).ownsRow w.heap.size 74 2 (.slice A l c) l (ecells es) ∧ Ext w ((W.setCell ⟨r, 0, none⟩ (.int .i64 N)).setCell ⟨r, 1, none⟩ (.slice A l c)) := by
  obtain ⟨h1, h2, h3, h4, h5, h6⟩ := h
  have hb := h2.set2 (.int .i64 N) (.slice A l c)
  exact ⟨⟨hb.cell 0, hb.cell 1⟩, own_setB2 h4 h2 graphedge_ne _ _, (h1.setCell h5 _).setCell h5 _⟩
theorem TG.keep0 (h : TG w W r q N A l c es) : ((W.setCell ⟨r, 0, none⟩ (.int .i64 N)).setCell ⟨r, 1, none⟩ (.slice A l c)).cell? ⟨q, 0, none⟩ = some (.int .i64 N) ∧ ((W.setCell ⟨r, 0, none⟩ (.int .i64 N)).setCell ⟨r, 1, none⟩ (.slice A l c)).cell? ⟨q, 1, none⟩ = some (.slice A l c) := by
  obtain ⟨h1, h2, h3, h4, h5, h6⟩ := h
  have := (h3.far (p := ⟨r, 0, none⟩) h6 (.int .i64 N)).far (p := ⟨r, 1, none⟩) h6 (.slice A l c)
  exact ⟨this.cell 0, this.cell 1⟩
theorem TG.rows0 (h : TG w W r q N A l c es) {B e size n : Nat} {v : Value} {xs : List Value} (ho : W.ownsRow B e size v n xs) (hne : (27 : Nat) ≠ e) : ((W.setCell ⟨r, 0, none⟩ (.int .i64 N)).setCell ⟨r, 1, none⟩ (.slice A l c)).ownsRow B e size v n xs :=
  own_setB2 ho h.2.1 hne _ _
end
/-- What a law's draw of gates and a graph hands back. -/
def DrewTG (w : World) (most mh : Nat) (e : Ending) (w' : World) : Prop :=
  ∃ (L : Option Addr) (len cap : Nat) (gs : List Gt) (N : Int) (A : Option Addr) (l c : Nat) (es : List Ed), e = .returned (.tuple #[.slice L len cap, .agg #[.int .i64 N, .slice A l c]]) ∧ (-1 ≤ N ∧ N ≤ 5) ∧ (len ≤ most ∧ hcs gs ≤ mh) ∧ l ≤ 8 ∧ w'.ownsRow w.heap.size 43 4 (.slice L len cap) len (gcells gs) ∧ w'.ownsRow w.heap.size 74 2 (.slice A l c) l (ecells es) ∧ (∀ e ∈ es, e.ok) ∧ Ext w w'
theorem DrewTG.mk {w w' : World} {most mh : Nat} (L : Option Addr) (len cap : Nat) (gs : List Gt) (N : Int) (A : Option Addr) (l c : Nat) (es : List Ed) (h1 : -1 ≤ N ∧ N ≤ 5) (h2 : len ≤ most ∧ hcs gs ≤ mh) (h3 : l ≤ 8) (h4 : w'.ownsRow w.heap.size 43 4 (.slice L len cap) len (gcells gs)) (h5 : w'.ownsRow w.heap.size 74 2 (.slice A l c) l (ecells es)) (h6 : ∀ e ∈ es, e.ok) (h7 : Ext w w') : DrewTG w most mh (.returned (.tuple #[.slice L len cap, .agg #[.int .i64 N, .slice A l c]])) w' :=
  ⟨L, len, cap, gs, N, A, l, c, es, rfl, h1, h2, h3, h4, h5, h6, h7⟩
/-- And of a layout. -/
def DrewTP (w : World) (most mh : Nat) (e : Ending) (w' : World) : Prop :=
  ∃ (L : Option Addr) (len cap : Nat) (gs : List Gt) (N : Int) (A : Option Addr) (l c : Nat) (es : List Ed) (P : Option Addr) (np cp : Nat) (p : List Int), e = .returned (.tuple #[.slice L len cap, .agg #[.int .i64 N, .slice A l c], .slice P np cp]) ∧ (-1 ≤ N ∧ N ≤ 5) ∧ (len ≤ most ∧ hcs gs ≤ mh) ∧ l ≤ 8 ∧ np ≤ 5 ∧ w'.ownsRow w.heap.size 43 4 (.slice L len cap) len (gcells gs) ∧ w'.ownsRow w.heap.size 74 2 (.slice A l c) l (ecells es) ∧ w'.ownsRow w.heap.size 3 1 (.slice P np cp) np (icells p) ∧ (∀ e ∈ es, e.ok) ∧ Ext w w'
theorem DrewTP.mk {w w' : World} {most mh : Nat} (L : Option Addr) (len cap : Nat) (gs : List Gt) (N : Int) (A : Option Addr) (l c : Nat) (es : List Ed) (P : Option Addr) (np cp : Nat) (p : List Int) (h1 : -1 ≤ N ∧ N ≤ 5) (h2 : len ≤ most ∧ hcs gs ≤ mh) (h3 : l ≤ 8) (h33 : np ≤ 5) (h4 : w'.ownsRow w.heap.size 43 4 (.slice L len cap) len (gcells gs)) (h5 : w'.ownsRow w.heap.size 74 2 (.slice A l c) l (ecells es)) (h55 : w'.ownsRow w.heap.size 3 1 (.slice P np cp) np (icells p)) (h6 : ∀ e ∈ es, e.ok) (h7 : Ext w w') : DrewTP w most mh (.returned (.tuple #[.slice L len cap, .agg #[.int .i64 N, .slice A l c], .slice P np cp])) w' :=
  ⟨L, len, cap, gs, N, A, l, c, es, P, np, cp, p, rfl, h1, h2, h3, h33, h4, h5, h55, h6, h7⟩
set_option maxRecDepth 100000 in
set_option maxHeartbeats 16000000 in
theorem DrawLayoutCost_any (Ab : Option Addr) (nb cb : Nat) (bs : List Int) (w : World) (h : Rd w w.heap.size 1 Ab nb (u8cs bs)) (hn : nb ≤ 1048576) :
    Calls Try.prog 12 #[.slice Ab nb cb] w (DrewTP w 91 13) := by
  go_enter Try.func12, Try.ntmps12
  go_wp2_with fail
  refine (l1New_any Ab nb cb bs _ (h.ext ((Ext.refl w).alloc _)) hn).mono ?_
  rintro e w1 ⟨rfl, hC1, hx1⟩
  have hB1 := (Blk.new w 27 #[.int .i64 0, .slice none 0 0]).ext hx1
  have hX1 : Ext w w1 := Ext.trans ((Ext.refl w).alloc _) hx1
  obtain ⟨g, hg⟩ : ∃ g, g = (w.alloc (.cells #[.int .i64 0, .slice none 0 0] 27)).heap.size := ⟨_, rfl⟩
  have hgr : g = w.heap.size + 1 := by rw [hg]; simp
  simp only [← hg] at hC1 ⊢
  have hgw : w.heap.size < g := by omega
  have HGR := Lib.hid hgr
  clear hg hgr hx1
  have hl1 := hC1.lt
  (try rw [← HGR.out])
  go_wp2_with fail
  refine (l37Args_any g 6 (by omega) _ hC1).mono ?_
  rintro e w2 ⟨L, len, cap, gs, N, A, l, c, es, rfl, hN, hlen, hll, hog, hoe, hC2, hG2, hok⟩
  have HHOK := Lib.hid hok
  have hB2 := hB1.grown hG2 (fun k hk => by injection hk; omega)
  have hl2 := hB2.lt
  have hX2 : Ext w w2 := hX1.grown hG2 (fun k hk => by injection hk; omega)
  have hw12 : w.heap.size ≤ w1.heap.size := hX1.size
  have hT3 : TG w (w2.alloc (.cells #[.int .i64 N, .slice A l c] 27)) w.heap.size w2.heap.size N A l c es :=
    ⟨hX2.alloc _, hB2.alloc _, Blk.new _ _ _, own_ext (own_base hoe hw12) ((Ext.refl w2).alloc _), Nat.le_refl _, by omega⟩
  have hog3 := own_ext (own_base hog hw12) ((Ext.refl w2).alloc (.cells #[.int .i64 N, .slice A l c] 27))
  have hC3 := hC2.alloc (.cells #[.int .i64 N, .slice A l c] 27)
  have hg2 := hC2.lt
  clear hok hB1 hX1 hl1 hC1 hG2 hoe hog hB2 hX2 hC2
  go_upto_region 3 with (fail)
  generalize (w2.alloc (.cells #[.int .i64 N, .slice A l c] 27)) = w3 at *
  generalize w2.heap.size = q at *
  have HT3 := Lib.hid hT3
  have HO3 := Lib.hid hog3
  obtain ⟨⟨b0, b1⟩, z0, z1⟩ := blk2 hT3.2.2.1
  clear hT3 hog3
  by_cases hin : 1 ≤ N ∧ N ≤ 4
  · obtain ⟨hi1, hi4⟩ := hin
    obtain ⟨n1, rfl⟩ := Int.eq_ofNat_of_zero_le (by omega : 0 ≤ N)
    go_wp2_with fail
    refine (l1In_yes _ _ _ _ hi1 hi4).mono ?_
    rintro e w' ⟨rfl, rfl⟩
    go_wp2_with fail
    refine (l1Once_any g 8 _ hC3 (by omega)).mono ?_
    rintro e w4 ⟨f, rfl, hC4, hG4⟩
    have HT4 := Lib.hid (HT3.out.grown hC3 hG4 (by omega) (by omega) (by omega))
    have HO4 := Lib.hid (own_cur HO3.out hC3 curgate_ne hG4)
    clear HT3 HO3 hC3 hG4 b0 b1 z0 z1
    obtain ⟨⟨b0, b1⟩, z0, z1⟩ := blk2 HT4.out.2.2.1
    obtain ⟨⟨a0, a1⟩, y0, y1⟩ := blk2 HT4.out.2.1
    cases f
    · go_wp2
      refine wp_region_held_drew (S := fun W => W.cell? ⟨q, 0, none⟩ = some (.int .i64 n1) ∧ W.cell? ⟨q, 1, none⟩ = some (.slice A l c)) (by kernel_rfl) ⟨HT4.out.2.2.1.cell 0, HT4.out.2.2.1.cell 1⟩ (fun hHeld => ?_)
      (refine wpAnyH_take (i := 0) (v := ?_) rfl (by kernel_rfl) (by kernel_rfl) (by kernel_rfl) (fun _ _ _ h => h) (Or.inl ⟨by rfl, ?_⟩) (by assumption) ?_; rotate_left; · (intro w hSw; (try dsimp only at hSw); go_simp; all_goals with_reducible rfl); (try simp only [Act.put, List.getElem_toArray, List.getElem_cons_zero, List.getElem_cons_succ, List.setIfInBounds_toArray, List.set_cons_zero, List.set_cons_succ]))
      (try simp only [Act.put, List.getElem_toArray, List.getElem_cons_zero, List.getElem_cons_succ, List.setIfInBounds_toArray, List.set_cons_zero, List.set_cons_succ])
      (refine wpAnyH_take (i := 1) (v := ?_) rfl (by kernel_rfl) (by kernel_rfl) (by kernel_rfl) (fun _ _ _ h => h) (Or.inl ⟨by rfl, ?_⟩) (by assumption) ?_; rotate_left; · (intro w hSw; (try dsimp only at hSw); go_simp; all_goals with_reducible rfl); (try simp only [Act.put, List.getElem_toArray, List.getElem_cons_zero, List.getElem_cons_succ, List.setIfInBounds_toArray, List.set_cons_zero, List.set_cons_succ]))
      (try simp only [Act.put, List.getElem_toArray, List.getElem_cons_zero, List.getElem_cons_succ, List.setIfInBounds_toArray, List.set_cons_zero, List.set_cons_succ])
      (refine wpAnyH_take (i := 2) (v := ?_) rfl (by kernel_rfl) (by kernel_rfl) (by kernel_rfl) (fun _ _ _ h => h) (Or.inl ⟨by rfl, ?_⟩) (by assumption) ?_; rotate_left; · (intro w hSw; (try dsimp only at hSw); go_simp; all_goals with_reducible rfl); (try simp only [Act.put, List.getElem_toArray, List.getElem_cons_zero, List.getElem_cons_succ, List.setIfInBounds_toArray, List.set_cons_zero, List.set_cons_succ]))
      (try simp only [Act.put, List.getElem_toArray, List.getElem_cons_zero, List.getElem_cons_succ, List.setIfInBounds_toArray, List.set_cons_zero, List.set_cons_succ])
      (refine wpAnyH_take (i := 3) (v := ?_) rfl (by kernel_rfl) (by kernel_rfl) (by kernel_rfl) (fun _ _ _ h => h) (Or.inl ⟨by rfl, ?_⟩) (by assumption) ?_; rotate_left; · (intro w hSw; (try dsimp only at hSw); go_simp; all_goals with_reducible rfl); (try simp only [Act.put, List.getElem_toArray, List.getElem_cons_zero, List.getElem_cons_succ, List.setIfInBounds_toArray, List.set_cons_zero, List.set_cons_succ]))
      (try simp only [Act.put, List.getElem_toArray, List.getElem_cons_zero, List.getElem_cons_succ, List.setIfInBounds_toArray, List.set_cons_zero, List.set_cons_succ])
      (refine wpAnyH_take (i := 4) (v := ?_) rfl (by kernel_rfl) (by kernel_rfl) (by kernel_rfl) (fun _ _ _ h => h) (Or.inl ⟨by rfl, ?_⟩) (by assumption) ?_; rotate_left; · (intro w hSw; (try dsimp only at hSw); go_simp; all_goals with_reducible rfl); (try simp only [Act.put, List.getElem_toArray, List.getElem_cons_zero, List.getElem_cons_succ, List.setIfInBounds_toArray, List.set_cons_zero, List.set_cons_succ]))
      (try simp only [Act.put, List.getElem_toArray, List.getElem_cons_zero, List.getElem_cons_succ, List.setIfInBounds_toArray, List.set_cons_zero, List.set_cons_succ])
      refine wpAnyH_ready (rs := [5]) (by kernel_rfl) (by simp) ?_
      refine AllReadyH.cons rfl (fun K hK => ?_) AllReadyH.nil
      go_simp
      refine (l8Perm_any g n1 ⟨by omega, by omega⟩ _ (hC4.ext (Ext.refl _).drew)).mono ?_
      rintro e w5 ⟨b, c5, rfl, hb5, hI5, hC5, hG5⟩
      have HT5 := Lib.hid ((HT4.out.ext (Ext.refl _).drew).grown (hC4.ext (Ext.refl _).drew) hG5 (by omega) (by omega) (by omega))
      have HO5 := Lib.hid (own_cur (own_ext HO4.out (Ext.refl _).drew) (hC4.ext (Ext.refl _).drew) curgate_ne hG5)
      have hlp : n1 ≤ 5 := by omega
      have hwb : w.heap.size ≤ b := by have := HT4.out.1.size; simp only [World.drew] at hb5; omega
      obtain ⟨ps, _, hop⟩ := hI5.own hwb
      have HP5 := Lib.hid hop
      clear hop hI5 hG5 hC5 hb5 hwb
      refine hK.out _ _ ⟨HT5.out.2.2.1.cell 0, HT5.out.2.2.1.cell 1⟩ (fun hHeld => ?_)
      clear hK K
      (try simp only [Act.put, List.getElem_toArray, List.getElem_cons_zero, List.getElem_cons_succ, List.setIfInBounds_toArray, List.set_cons_zero, List.set_cons_succ])
      clear a0 a1 y0 y1 b0 b1 z0 z1
      obtain ⟨⟨b0, b1⟩, z0, z1⟩ := blk2 HT5.out.2.2.1
      obtain ⟨⟨a0, a1⟩, y0, y1⟩ := blk2 HT5.out.2.1
      (refine wpAnyH_take (i := 6) (v := ?_) rfl (by kernel_rfl) (by kernel_rfl) (by kernel_rfl) (fun _ _ _ h => h) (Or.inl ⟨by rfl, ?_⟩) (by assumption) ?_; rotate_left; · (intro w hSw; (try dsimp only at hSw); go_simp; all_goals with_reducible rfl); (try simp only [Act.put, List.getElem_toArray, List.getElem_cons_zero, List.getElem_cons_succ, List.setIfInBounds_toArray, List.set_cons_zero, List.set_cons_succ]))
      (try simp only [Act.put, List.getElem_toArray, List.getElem_cons_zero, List.getElem_cons_succ, List.setIfInBounds_toArray, List.set_cons_zero, List.set_cons_succ])
      refine wpAnyH_ready (rs := [7]) (by kernel_rfl) (by simp) ?_
      refine AllReadyH.cons rfl (fun K hK => ?_) AllReadyH.nil
      go_simp
      refine hK.out _ _ HT5.out.keep0 (fun hHeld => ?_)
      clear hK K
      (try simp only [Act.put, List.getElem_toArray, List.getElem_cons_zero, List.getElem_cons_succ, List.setIfInBounds_toArray, List.set_cons_zero, List.set_cons_succ])
      (refine wpAnyH_take (i := 8) (v := ?_) rfl (by kernel_rfl) (by kernel_rfl) (by kernel_rfl) (fun _ _ _ h => h) (Or.inl ⟨by rfl, ?_⟩) (by assumption) ?_; rotate_left; · (intro w hSw; (try dsimp only at hSw); go_simp; all_goals with_reducible rfl); (try simp only [Act.put, List.getElem_toArray, List.getElem_cons_zero, List.getElem_cons_succ, List.setIfInBounds_toArray, List.set_cons_zero, List.set_cons_succ]))
      (try simp only [Act.put, List.getElem_toArray, List.getElem_cons_zero, List.getElem_cons_succ, List.setIfInBounds_toArray, List.set_cons_zero, List.set_cons_succ])
      (refine wpAnyH_done (by kernel_rfl) ?_ _)
      clear hHeld a0 a1 y0 y1 b0 b1 z0 z1
      obtain ⟨⟨q0, q1⟩, e1, e2⟩ := HT5.out.fin0
      have e3 := HT5.out.rows0 HO5.out graphgate_ne
      have e4 := HT5.out.rows0 HP5.out graphint_ne
      generalize (w5.setCell _ _).setCell _ _ = W2 at q0 q1 e1 e2 e3 e4 ⊢
      go_wp2
      exact bodyPost_ret (v := .tuple #[.slice _ _ _, .agg #[.int .i64 n1, .slice _ _ _], .slice _ _ _]) (by simp [results, Try.results12, go_sem, q0, q1]) rfl (DrewTP.mk _ _ _ _ _ _ _ _ _ _ _ _ _ (by omega) hlen hll hlp e3 e1 e4 HHOK.out e2)
    · go_wp2
      refine wp_region_held_drew (S := fun W => W.cell? ⟨q, 0, none⟩ = some (.int .i64 n1) ∧ W.cell? ⟨q, 1, none⟩ = some (.slice A l c)) (by kernel_rfl) ⟨HT4.out.2.2.1.cell 0, HT4.out.2.2.1.cell 1⟩ (fun hHeld => ?_)
      (refine wpAnyH_take (i := 0) (v := ?_) rfl (by kernel_rfl) (by kernel_rfl) (by kernel_rfl) (fun _ _ _ h => h) (Or.inl ⟨by rfl, ?_⟩) (by assumption) ?_; rotate_left; · (intro w hSw; (try dsimp only at hSw); go_simp; all_goals with_reducible rfl); (try simp only [Act.put, List.getElem_toArray, List.getElem_cons_zero, List.getElem_cons_succ, List.setIfInBounds_toArray, List.set_cons_zero, List.set_cons_succ]))
      (try simp only [Act.put, List.getElem_toArray, List.getElem_cons_zero, List.getElem_cons_succ, List.setIfInBounds_toArray, List.set_cons_zero, List.set_cons_succ])
      (refine wpAnyH_take (i := 1) (v := ?_) rfl (by kernel_rfl) (by kernel_rfl) (by kernel_rfl) (fun _ _ _ h => h) (Or.inl ⟨by rfl, ?_⟩) (by assumption) ?_; rotate_left; · (intro w hSw; (try dsimp only at hSw); go_simp; all_goals with_reducible rfl); (try simp only [Act.put, List.getElem_toArray, List.getElem_cons_zero, List.getElem_cons_succ, List.setIfInBounds_toArray, List.set_cons_zero, List.set_cons_succ]))
      (try simp only [Act.put, List.getElem_toArray, List.getElem_cons_zero, List.getElem_cons_succ, List.setIfInBounds_toArray, List.set_cons_zero, List.set_cons_succ])
      (refine wpAnyH_take (i := 2) (v := ?_) rfl (by kernel_rfl) (by kernel_rfl) (by kernel_rfl) (fun _ _ _ h => h) (Or.inl ⟨by rfl, ?_⟩) (by assumption) ?_; rotate_left; · (intro w hSw; (try dsimp only at hSw); go_simp; all_goals with_reducible rfl); (try simp only [Act.put, List.getElem_toArray, List.getElem_cons_zero, List.getElem_cons_succ, List.setIfInBounds_toArray, List.set_cons_zero, List.set_cons_succ]))
      (try simp only [Act.put, List.getElem_toArray, List.getElem_cons_zero, List.getElem_cons_succ, List.setIfInBounds_toArray, List.set_cons_zero, List.set_cons_succ])
      refine wpAnyH_ready (rs := [3]) (by kernel_rfl) (by simp) ?_
      refine AllReadyH.cons rfl (fun K hK => ?_) AllReadyH.nil
      go_simp
      refine (l8Bent_any g _ (hC4.ext (Ext.refl _).drew)).mono ?_
      rintro e w5 ⟨P, np, cp, ps, rfl, hlp, hop, hC5, hG5⟩
      have HT5 := Lib.hid ((HT4.out.ext (Ext.refl _).drew).grown (hC4.ext (Ext.refl _).drew) hG5 (by omega) (by omega) (by omega))
      have HO5 := Lib.hid (own_cur (own_ext HO4.out (Ext.refl _).drew) (hC4.ext (Ext.refl _).drew) curgate_ne hG5)
      have HP5 := Lib.hid (own_base hop (show w.heap.size ≤ _ from HT4.out.1.size))
      clear hop hG5 hC5
      refine hK.out _ _ ⟨HT5.out.2.2.1.cell 0, HT5.out.2.2.1.cell 1⟩ (fun hHeld => ?_)
      clear hK K
      (try simp only [Act.put, List.getElem_toArray, List.getElem_cons_zero, List.getElem_cons_succ, List.setIfInBounds_toArray, List.set_cons_zero, List.set_cons_succ])
      clear a0 a1 y0 y1 b0 b1 z0 z1
      obtain ⟨⟨b0, b1⟩, z0, z1⟩ := blk2 HT5.out.2.2.1
      obtain ⟨⟨a0, a1⟩, y0, y1⟩ := blk2 HT5.out.2.1
      (refine wpAnyH_take (i := 4) (v := ?_) rfl (by kernel_rfl) (by kernel_rfl) (by kernel_rfl) (fun _ _ _ h => h) (Or.inl ⟨by rfl, ?_⟩) (by assumption) ?_; rotate_left; · (intro w hSw; (try dsimp only at hSw); go_simp; all_goals with_reducible rfl); (try simp only [Act.put, List.getElem_toArray, List.getElem_cons_zero, List.getElem_cons_succ, List.setIfInBounds_toArray, List.set_cons_zero, List.set_cons_succ]))
      (try simp only [Act.put, List.getElem_toArray, List.getElem_cons_zero, List.getElem_cons_succ, List.setIfInBounds_toArray, List.set_cons_zero, List.set_cons_succ])
      refine wpAnyH_ready (rs := [5]) (by kernel_rfl) (by simp) ?_
      refine AllReadyH.cons rfl (fun K hK => ?_) AllReadyH.nil
      go_simp
      refine hK.out _ _ HT5.out.keep0 (fun hHeld => ?_)
      clear hK K
      (try simp only [Act.put, List.getElem_toArray, List.getElem_cons_zero, List.getElem_cons_succ, List.setIfInBounds_toArray, List.set_cons_zero, List.set_cons_succ])
      (refine wpAnyH_take (i := 6) (v := ?_) rfl (by kernel_rfl) (by kernel_rfl) (by kernel_rfl) (fun _ _ _ h => h) (Or.inl ⟨by rfl, ?_⟩) (by assumption) ?_; rotate_left; · (intro w hSw; (try dsimp only at hSw); go_simp; all_goals with_reducible rfl); (try simp only [Act.put, List.getElem_toArray, List.getElem_cons_zero, List.getElem_cons_succ, List.setIfInBounds_toArray, List.set_cons_zero, List.set_cons_succ]))
      (try simp only [Act.put, List.getElem_toArray, List.getElem_cons_zero, List.getElem_cons_succ, List.setIfInBounds_toArray, List.set_cons_zero, List.set_cons_succ])
      (refine wpAnyH_done (by kernel_rfl) ?_ _)
      clear hHeld a0 a1 y0 y1 b0 b1 z0 z1
      obtain ⟨⟨q0, q1⟩, e1, e2⟩ := HT5.out.fin0
      have e3 := HT5.out.rows0 HO5.out graphgate_ne
      have e4 := HT5.out.rows0 HP5.out graphint_ne
      generalize (w5.setCell _ _).setCell _ _ = W2 at q0 q1 e1 e2 e3 e4 ⊢
      go_wp2
      exact bodyPost_ret (v := .tuple #[.slice _ _ _, .agg #[.int .i64 n1, .slice _ _ _], .slice _ _ _]) (by simp [results, Try.results12, go_sem, q0, q1]) rfl (DrewTP.mk _ _ _ _ _ _ _ _ _ _ _ _ _ (by omega) hlen hll hlp e3 e1 e4 HHOK.out e2)
  · go_wp2_with fail
    refine (l1In_no _ _ _ _ (by omega)).mono ?_
    rintro e w' ⟨rfl, rfl⟩
    have HT4 := HT3
    have HO4 := HO3
    have hC4 := hC3
    clear HT3 HO3 hC3
    obtain ⟨⟨a0, a1⟩, y0, y1⟩ := blk2 HT4.out.2.1
    go_wp2
    refine wp_region_held_drew (S := fun W => W.cell? ⟨q, 0, none⟩ = some (.int .i64 N) ∧ W.cell? ⟨q, 1, none⟩ = some (.slice A l c)) (by kernel_rfl) ⟨HT4.out.2.2.1.cell 0, HT4.out.2.2.1.cell 1⟩ (fun hHeld => ?_)
    (refine wpAnyH_take (i := 0) (v := ?_) rfl (by kernel_rfl) (by kernel_rfl) (by kernel_rfl) (fun _ _ _ h => h) (Or.inl ⟨by rfl, ?_⟩) (by assumption) ?_; rotate_left; · (intro w hSw; (try dsimp only at hSw); go_simp; all_goals with_reducible rfl); (try simp only [Act.put, List.getElem_toArray, List.getElem_cons_zero, List.getElem_cons_succ, List.setIfInBounds_toArray, List.set_cons_zero, List.set_cons_succ]))
    (try simp only [Act.put, List.getElem_toArray, List.getElem_cons_zero, List.getElem_cons_succ, List.setIfInBounds_toArray, List.set_cons_zero, List.set_cons_succ])
    (refine wpAnyH_take (i := 1) (v := ?_) rfl (by kernel_rfl) (by kernel_rfl) (by kernel_rfl) (fun _ _ _ h => h) (Or.inl ⟨by rfl, ?_⟩) (by assumption) ?_; rotate_left; · (intro w hSw; (try dsimp only at hSw); go_simp; all_goals with_reducible rfl); (try simp only [Act.put, List.getElem_toArray, List.getElem_cons_zero, List.getElem_cons_succ, List.setIfInBounds_toArray, List.set_cons_zero, List.set_cons_succ]))
    (try simp only [Act.put, List.getElem_toArray, List.getElem_cons_zero, List.getElem_cons_succ, List.setIfInBounds_toArray, List.set_cons_zero, List.set_cons_succ])
    (refine wpAnyH_take (i := 2) (v := ?_) rfl (by kernel_rfl) (by kernel_rfl) (by kernel_rfl) (fun _ _ _ h => h) (Or.inl ⟨by rfl, ?_⟩) (by assumption) ?_; rotate_left; · (intro w hSw; (try dsimp only at hSw); go_simp; all_goals with_reducible rfl); (try simp only [Act.put, List.getElem_toArray, List.getElem_cons_zero, List.getElem_cons_succ, List.setIfInBounds_toArray, List.set_cons_zero, List.set_cons_succ]))
    (try simp only [Act.put, List.getElem_toArray, List.getElem_cons_zero, List.getElem_cons_succ, List.setIfInBounds_toArray, List.set_cons_zero, List.set_cons_succ])
    refine wpAnyH_ready (rs := [3]) (by kernel_rfl) (by simp) ?_
    refine AllReadyH.cons rfl (fun K hK => ?_) AllReadyH.nil
    go_simp
    refine (l8Bent_any g _ (hC4.ext (Ext.refl _).drew)).mono ?_
    rintro e w5 ⟨P, np, cp, ps, rfl, hlp, hop, hC5, hG5⟩
    have HT5 := Lib.hid ((HT4.out.ext (Ext.refl _).drew).grown (hC4.ext (Ext.refl _).drew) hG5 (by omega) (by omega) (by omega))
    have HO5 := Lib.hid (own_cur (own_ext HO4.out (Ext.refl _).drew) (hC4.ext (Ext.refl _).drew) curgate_ne hG5)
    have HP5 := Lib.hid (own_base hop (show w.heap.size ≤ _ from HT4.out.1.size))
    clear hop hG5 hC5
    refine hK.out _ _ ⟨HT5.out.2.2.1.cell 0, HT5.out.2.2.1.cell 1⟩ (fun hHeld => ?_)
    clear hK K
    (try simp only [Act.put, List.getElem_toArray, List.getElem_cons_zero, List.getElem_cons_succ, List.setIfInBounds_toArray, List.set_cons_zero, List.set_cons_succ])
    clear a0 a1 y0 y1 b0 b1 z0 z1
    obtain ⟨⟨b0, b1⟩, z0, z1⟩ := blk2 HT5.out.2.2.1
    obtain ⟨⟨a0, a1⟩, y0, y1⟩ := blk2 HT5.out.2.1
    (refine wpAnyH_take (i := 4) (v := ?_) rfl (by kernel_rfl) (by kernel_rfl) (by kernel_rfl) (fun _ _ _ h => h) (Or.inl ⟨by rfl, ?_⟩) (by assumption) ?_; rotate_left; · (intro w hSw; (try dsimp only at hSw); go_simp; all_goals with_reducible rfl); (try simp only [Act.put, List.getElem_toArray, List.getElem_cons_zero, List.getElem_cons_succ, List.setIfInBounds_toArray, List.set_cons_zero, List.set_cons_succ]))
    (try simp only [Act.put, List.getElem_toArray, List.getElem_cons_zero, List.getElem_cons_succ, List.setIfInBounds_toArray, List.set_cons_zero, List.set_cons_succ])
    refine wpAnyH_ready (rs := [5]) (by kernel_rfl) (by simp) ?_
    refine AllReadyH.cons rfl (fun K hK => ?_) AllReadyH.nil
    go_simp
    refine hK.out _ _ HT5.out.keep0 (fun hHeld => ?_)
    clear hK K
    (try simp only [Act.put, List.getElem_toArray, List.getElem_cons_zero, List.getElem_cons_succ, List.setIfInBounds_toArray, List.set_cons_zero, List.set_cons_succ])
    (refine wpAnyH_take (i := 6) (v := ?_) rfl (by kernel_rfl) (by kernel_rfl) (by kernel_rfl) (fun _ _ _ h => h) (Or.inl ⟨by rfl, ?_⟩) (by assumption) ?_; rotate_left; · (intro w hSw; (try dsimp only at hSw); go_simp; all_goals with_reducible rfl); (try simp only [Act.put, List.getElem_toArray, List.getElem_cons_zero, List.getElem_cons_succ, List.setIfInBounds_toArray, List.set_cons_zero, List.set_cons_succ]))
    (try simp only [Act.put, List.getElem_toArray, List.getElem_cons_zero, List.getElem_cons_succ, List.setIfInBounds_toArray, List.set_cons_zero, List.set_cons_succ])
    (refine wpAnyH_done (by kernel_rfl) ?_ _)
    clear hHeld a0 a1 y0 y1 b0 b1 z0 z1
    obtain ⟨⟨q0, q1⟩, e1, e2⟩ := HT5.out.fin0
    have e3 := HT5.out.rows0 HO5.out graphgate_ne
    have e4 := HT5.out.rows0 HP5.out graphint_ne
    generalize (w5.setCell _ _).setCell _ _ = W2 at q0 q1 e1 e2 e3 e4 ⊢
    go_wp2
    exact bodyPost_ret (v := .tuple #[.slice _ _ _, .agg #[.int .i64 N, .slice _ _ _], .slice _ _ _]) (by simp [results, Try.results12, go_sem, q0, q1]) rfl (DrewTP.mk _ _ _ _ _ _ _ _ _ _ _ _ _ (by omega) hlen hll hlp e3 e1 e4 HHOK.out e2)
end Go.Proofs.Ytofbmkpfliofeab
/-
  Helper text (no claim of its own): the draw for the ends of paths, and the laws' own small helpers.
-/
namespace Go.Proofs.Ytofbmkpfliofeab
open Go.ChangeShapes Go.WideShapes Go.ChangeAt Go.RowKit Go.Deep
theorem big_any (A : Option Addr) (n c : Nat) (w : World) (hn : n ≤ maxLen) :
    Calls Try.prog 4 #[.slice A n c] w fun e w' => e = .returned (.bool (decide (1048576 < n))) ∧ w = w' := by
  unfold maxLen at hn
  go_enter Try.func4, Try.ntmps4
  go_wp2
  go_ret
  exact ⟨ret_bool (by first | rfl | (rw [decide_eq_decide]; omega)), rfl⟩
end Go.Proofs.Ytofbmkpfliofeab
namespace Go.Proofs.Ytofbmkpfliofeab
open Go.ChangeShapes Go.WideShapes Go.ChangeAt Go.RowKit Go.Deep
set_option linter.unusedVariables false
set_option linter.unusedSimpArgs false
namespace fnBridge
theorem apart_nil {n : Nat} (h1 : 1 ≤ n) (h4 : n ≤ 4) (A B : Option Addr) (la ca cb : Nat) (ga : List Gt) (w : World) (hla : ga.length = la) (hA : Rd w w.heap.size 4 A la (gcells ga)) (hB : Rd w w.heap.size 4 B 0 (gcells []))
    (ka : la ≤ 1000000) (hh : ∀ i, i < 2 ^ n → ∃ us, Chain (2 ^ n) ga (basis n i) us ∧ us.length = 2 ^ n ∧ ∀ x ∈ us, dok x = true) :
    Calls Try.prog 10 #[.slice A la ca, .slice B 0 cb, .int .i64 n] w fun e w' => (∃ (k : Int) (b : Bool), e = .returned (.tuple #[.int .i64 k, .bool b])) ∧ Ext w w' := by
  subst hla
  have hx : ∀ i : Nat, ∃ us : List Dw, i < 2 ^ n → Chain (2 ^ n) ga (basis n i) us ∧ us.length = 2 ^ n ∧ ∀ x ∈ us, dok x = true := fun i => by
    by_cases hi : i < 2 ^ n
    · obtain ⟨us, h⟩ := hh i hi
      exact ⟨us, fun _ => h⟩
    · exact ⟨[], fun h => absurd h hi⟩
  obtain ⟨r, hr⟩ := Classical.axiomOfChoice hx
  refine (apart_any h1 h4 A B ca cb ga [] r (basis n) w hA hB
    (fun i hi => actsL_of h1 h4 (basis_St n i).len (fun x hx => ((basis_St n i).ok x hx).1) ka (hr i hi).1 A ca)
    (fun i hi => actsL_of h1 h4 (basis_St n i).len (fun x hx => ((basis_St n i).ok x hx).1) (by decide) (Chain.nil _ _) B cb)
    (fun j hj => (hr j hj).2) (fun j hj => ⟨(basis_St n j).len, fun x hx => ((basis_St n j).ok x hx).1⟩)).mono ?_
  rintro e w' ⟨h, hx⟩
  rcases h with ⟨i, -, -, -, rfl⟩ | ⟨-, rfl⟩
  · exact ⟨⟨_, _, rfl⟩, hx⟩
  · exact ⟨⟨_, _, rfl⟩, hx⟩
set_option maxRecDepth 100000 in
set_option maxHeartbeats 4000000 in
theorem DrawBridgeRoute_any (Ab : Option Addr) (nb cb : Nat) (bs : List Int) (w : World) (h : Rd w w.heap.size 1 Ab nb (u8cs bs)) (hn : nb ≤ 1048576) :
    Calls Try.prog 5 #[.slice Ab nb cb] w (DrewTP w 91 13) := by
  go_enter Try.func5, Try.ntmps5
  go_wp2_with fail
  refine (DrawLayoutCost_any Ab nb cb bs _ (h.ext ((Ext.refl w).alloc _)) hn).mono ?_
  rintro e w2 ⟨L, len, cap, gs, N, A, l, c, es, P, np, cp, p, rfl, hN, hlen, hll, hlp, hog, hoe, hop, hok, hx2⟩
  have hB := (Blk.new w 27 #[.int .i64 0, .slice none 0 0]).ext hx2
  have hX : Ext w w2 := Ext.trans ((Ext.refl w).alloc _) hx2
  have hsz : w.heap.size ≤ (w.alloc (.cells #[.int .i64 0, .slice none 0 0] 27)).heap.size := ((Ext.refl w).alloc _).size
  have hb := hB.set2 (.int .i64 N) (.slice A l c)
  have q0 := hb.cell 0
  have q1 := hb.cell 1
  have e1 := own_setB2 (own_base hoe hsz) hB graphedge_ne (.int .i64 N) (.slice A l c)
  have e3 := own_setB2 (own_base hog hsz) hB graphgate_ne (.int .i64 N) (.slice A l c)
  have e4 := own_setB2 (own_base hop hsz) hB graphint_ne (.int .i64 N) (.slice A l c)
  have e2 : Ext w ((w2.setCell ⟨w.heap.size, 0, none⟩ (.int .i64 N)).setCell ⟨w.heap.size, 1, none⟩ (.slice A l c)) := (hX.setCell (Nat.le_refl _) _).setCell (Nat.le_refl _) _
  obtain ⟨⟨b0, b1⟩, z0, z1⟩ := blk2 hB
  clear hog hoe hop hx2 hX hsz hb
  go_wp2
  clear b0 b1 z0 z1 hB
  generalize (w2.setCell _ _).setCell _ _ = W2 at q0 q1 e1 e2 e3 e4 ⊢
  exact bodyPost_ret (v := .tuple #[.slice _ _ _, .agg #[.int .i64 N, .slice _ _ _], .slice _ _ _]) (by simp [results, Try.results5, go_sem, q0, q1]) rfl (DrewTP.mk _ _ _ _ _ _ _ _ _ _ _ _ _ hN hlen hll hlp e3 e1 e4 hok e2)
set_option maxRecDepth 100000 in
set_option maxHeartbeats 4000000 in
theorem walk (A : Option Addr) (n c : Nat) (bs : List Int) (w : World) (h : Rd w w.heap.size 1 A n (u8cs bs)) (hm : n ≤ maxLen) :
    Calls Try.prog 3 #[.slice A n c] w fun e w' => e = .returned (.bool true) ∧ Ext w w' := by
  go_enter Try.func3, Try.ntmps3
  go_wp2_with fail
  refine (big_any A n c _ hm).mono ?_
  rintro e w0 ⟨rfl, rfl⟩
  by_cases hbig : 1048576 < n
  · have hd : decide (1048576 < n) = true := by simpa using hbig
    go_wp2
    go_ret
    exact ⟨rfl, Ext.refl _⟩
  have hd : decide (1048576 < n) = false := by simpa using hbig
  go_wp2_with fail
  refine (DrawBridgeRoute_any A n c bs _ h (by omega)).mono ?_
  rintro e w1 ⟨L, len, cap, gs, N, Ae, l, cc, es, P, np, cp, p, rfl, hN, ⟨hlen, hhc⟩, hll, hlp, hog, hoe, hop, hok, hx1⟩
  have HOK := Lib.hid hok
  clear hd hok
  have HHC := Lib.hid hhc
  have hle := (Rd.own hoe).len (f := Ed.cells) (fun _ => by simp [Ed.cells]) (by omega)
  subst hle
  have HGL : Hid (gs.length = len) := (Rd.own hog).len Gt.cells_len (by omega)
  have HPL : Hid (p.length = np) := (Rd.own hop).len icell_len (by omega)
  have HCP : Hid (np ≤ cp) := own_le hop
  have hX3 : Ext w (w1.alloc (.cells #[.int .i64 N, .slice Ae es.length cc] 27)) := hx1.alloc _
  have hB3 : Blk (w1.alloc (.cells #[.int .i64 N, .slice Ae es.length cc] 27)) w1.heap.size 27 #[.int .i64 N, .slice Ae es.length cc] := Blk.new _ _ _
  have hL3 := (Rd.own hog).ext ((Ext.refl w1).alloc (.cells #[.int .i64 N, .slice Ae es.length cc] 27))
  have hE3 := (Rd.own hoe).ext ((Ext.refl w1).alloc (.cells #[.int .i64 N, .slice Ae es.length cc] 27))
  have hP3 := (Rd.own hop).ext ((Ext.refl w1).alloc (.cells #[.int .i64 N, .slice Ae es.length cc] 27))
  clear hog hoe hop hx1 hhc
  go_upto_region 4 with (fail)
  generalize (w1.alloc (.cells #[.int .i64 N, .slice Ae es.length cc] 27)) = w3 at *
  generalize w1.heap.size = q at *
  have HX3 := Lib.hid hX3
  have HL : Hid (∀ w', Ext w3 w' → Rd w' w'.heap.size 4 L len (gcells gs)) := fun w' hx => hL3.ext hx
  have HP : Hid (∀ w', Ext w3 w' → Rd w' w'.heap.size 1 P np (icells p)) := fun w' hx => hP3.ext hx
  have HG : Hid (∀ w', Ext w3 w' → GrAt w' w'.heap.size (.agg #[.int .i64 N, .slice Ae es.length cc]) ⟨N, es⟩) := fun w' hx => ⟨Ae, cc, rfl, hE3.ext hx⟩
  have HB := Lib.hid hB3
  have HOL : Hid ((brR ⟨N, es⟩ p gs).length ≤ 910) := by
    show (brR ⟨N, es⟩ p gs).length ≤ 910
    unfold brR
    split
    · have := fm_len (brG ⟨N, es⟩ p) (brG_len ⟨N, es⟩ p) gs
      rw [HGL.out] at this
      omega
    · exact Nat.zero_le _
  clear hX3 hL3 hE3 hP3 hB3
  have x3 : Ext w3 w3 := Ext.refl _
  have d0 : w3.cell? ⟨q, 0, none⟩ = some (.int .i64 N) := HB.out.cell 0
  have d1 : w3.cell? ⟨q, 1, none⟩ = some (.slice Ae es.length cc) := HB.out.cell 1
  go_wp2_with fail
  refine (impl_BridgeRoute_any L len cap gs _ ⟨N, es⟩ P np cp p _ (HL.out _ x3) (by omega) (HG.out _ x3) (by simp; omega) HOK.out (HP.out _ x3) (by omega) HCP.out).mono ?_
  rintro e w4 ⟨v4, rfl, ho4, y4⟩
  replace y4 := x3.trans y4
  obtain ⟨L4, c4, rfl, hr4⟩ := own_slice ho4
  clear d0 d1 x3 ho4
  have d0 : w4.cell? ⟨q, 0, none⟩ = some (.int .i64 N) := (HB.out.ext y4).cell 0
  have d1 : w4.cell? ⟨q, 1, none⟩ = some (.slice Ae es.length cc) := (HB.out.ext y4).cell 1
  have HR4 := Lib.hid hr4
  clear hr4
  go_wp2_with fail
  refine (spec_BridgeRoute_any L len cap gs _ ⟨N, es⟩ P np cp p _ (HL.out _ y4) (by omega) (HG.out _ y4) (by simp; omega) (HP.out _ y4) (by omega) HCP.out).mono ?_
  rintro e w5 ⟨v5, rfl, ho5, hy5⟩
  have y5 := y4.trans hy5
  obtain ⟨L5, c5, rfl, hr5⟩ := own_slice ho5
  clear d0 d1 y4 ho5
  have HR5 := Lib.hid hr5
  have HR4' := Lib.hid (HR4.out.ext hy5)
  clear hr5 hy5 HR4
  have HRW : Hid (∀ w', Ext w5 w' → Rd w' w'.heap.size 4 L4 (brR ⟨N, es⟩ p gs).length (gcells (brR ⟨N, es⟩ p gs)) ∧ Rd w' w'.heap.size 4 L5 (brR ⟨N, es⟩ p gs).length (gcells (brR ⟨N, es⟩ p gs))) := fun w' hx => ⟨HR4'.out.ext hx, HR5.out.ext hx⟩
  clear HR4' HR5
  obtain ⟨ok, hk⟩ : ∃ ok, ok = brOk ⟨N, es⟩ p gs := ⟨_, rfl⟩
  obtain ⟨out, ho⟩ : ∃ out, out = brR ⟨N, es⟩ p gs := ⟨_, rfl⟩
  obtain ⟨m, hm'⟩ : ∃ m, m = out.length := ⟨_, rfl⟩
  rw [← hk]
  rw [← ho] at HOL HRW ⊢
  rw [← hm'] at HOL HRW ⊢
  have HK := Lib.hid hk
  have HO := Lib.hid ho
  have HM := Lib.hid hm'
  have hm34 : m ≤ 910 := HOL.out
  clear hk ho hm'
  have d0 : w5.cell? ⟨q, 0, none⟩ = some (.int .i64 N) := (HB.out.ext y5).cell 0
  have d1 : w5.cell? ⟨q, 1, none⟩ = some (.slice Ae es.length cc) := (HB.out.ext y5).cell 1
  have HSG : Hid (∀ w', Ext w5 w' → Calls Try.prog 8 #[.slice L4 m c4, .slice L5 m c5] w' fun e w'' => e = .returned (.bool true) ∧ Ext w' w'') := fun w' hx => by
    refine (sameGates_any L4 L5 m m c4 c5 out out _ (HRW.out _ hx).1 (HRW.out _ hx).2 (by omega) (by omega)).mono ?_
    rintro e w'' ⟨rfl, hy⟩
    rw [eqL_self eqG eqG_self]
    exact ⟨rfl, hy⟩
  have z5 : Ext w5 w5 := Ext.refl _
  cases ok
  · go_wp2_with fail
    refine (HSG.out _ z5).mono ?_
    rintro e w6 ⟨rfl, y6⟩
    go_wp2_with fail
    refine (HSG.out _ (z5.trans y6)).mono ?_
    rintro e w7 ⟨rfl, y7⟩
    go_wp2
    go_ret
    exact ⟨rfl, HX3.out.trans (y5.trans (y6.trans y7))⟩
  · have hbk : brOk ⟨N, es⟩ p gs = true := HK.out.symm
    have hall : ∀ g ∈ gs, may g ⟨N, es⟩ p = true := by
      unfold brOk at hbk
      rw [Bool.and_eq_true] at hbk
      exact fun g hg => List.all_eq_true.1 hbk.2 g hg
    have hlay : N = (p.length : Int) ∧ p.length ≤ 4 ∧ perm p = true := by
      unfold brOk at hbk
      rw [Bool.and_eq_true] at hbk
      exact lay_n hbk.1
    have HNP : Hid (N = (np : Int) ∧ 1 ≤ np ∧ np ≤ 4) := by
      have h1 := (perm_le hlay.2.2).1
      rw [HPL.out] at hlay h1
      exact ⟨hlay.1, h1, hlay.2.1⟩
    obtain ⟨s1, s2, s3, s4⟩ := same_brs hall
    have HSB : Hid ((∀ g ∈ gs.map (relG p), vg g (np : Nat) = true) ∧ Same np (gs.map (relG p)) out ∧ hcs (gs.map (relG p)) ≤ 20) := by
      rw [HPL.out] at s1 s2
      refine ⟨s1, ?_, by rw [s3]; have := HHC.out; omega⟩
      rw [HO.out, brR_yes hbk]
      exact s2
    have HRS : Hid (respN ⟨N, es⟩ out = true) := by
      show respN ⟨N, es⟩ out = true
      rw [HO.out, brR_yes hbk]
      exact List.all_eq_true.2 s4
    clear hbk hall hlay s1 s2 s3 s4
    go_wp2_with fail
    refine (HSG.out _ z5).mono ?_
    rintro e w6 ⟨rfl, hy6⟩
    have z6 := z5.trans hy6
    have y6 := y5.trans hy6
    clear d0 d1 z5 HSG hy6
    have d0 : w6.cell? ⟨q, 0, none⟩ = some (.int .i64 N) := (HB.out.ext y6).cell 0
    have d1 : w6.cell? ⟨q, 1, none⟩ = some (.slice Ae es.length cc) := (HB.out.ext y6).cell 1
    have HLC : Hid (∀ w', Ext w3 w' → Calls Try.prog 9 #[.agg #[.int .i64 N, .slice L len cap], .slice P np cp] w' (RelE w' N gs p)) := fun w' hx => by
      have h1 := HL.out w' hx
      rw [← HGL.out] at h1 ⊢
      exact impl_RelabelCircuit_any L cap N gs P np cp p w' h1 (by rw [HGL.out]; omega) (HP.out w' hx) (by omega)
    go_wp2_with fail
    refine (HLC.out _ y6).mono ?_
    rintro e w7 ⟨m7, A7, c7, rfl, ho7, hy7⟩
    have HR7 : Hid (∀ w', Ext w7 w' → Rd w' w'.heap.size 4 A7 (relL N gs p).length (gcells (relL N gs p))) := fun w' hx => (Rd.own ho7).ext hx
    have z7 := z6.trans hy7
    have y7 := y6.trans hy7
    clear d0 d1 ho7 hy7 z6 y6 HLC
    have HAP : Hid (∀ w', Ext w7 w' → Calls Try.prog 10 #[.slice L4 m c4, .slice A7 (relL N gs p).length c7, .int .i64 np] w' fun e w'' => (∃ (k : Int) (b : Bool), e = .returned (.tuple #[.int .i64 k, .bool b]) ∧ (relOk N gs p = true → k = 0 ∧ b = true)) ∧ Ext w' w'') := fun w' hx => by
      have hsc := same_chains HSB.out.1 HSB.out.2.2 HSB.out.2.1
      cases hro : relOk N gs p
      · have e0 : relL N gs p = [] := if_neg (by simp [hro])
        have h7 := HR7.out w' hx
        rw [e0] at h7 ⊢
        refine (apart_nil HNP.out.2.1 HNP.out.2.2 L4 A7 m c4 c7 out w' HM.out.symm (HRW.out _ (z7.trans hx)).1 h7 (by omega) fun i hi => ?_).mono ?_
        · obtain ⟨us, u1, u2, u3⟩ := hsc i hi
          exact ⟨us, u2, u3⟩
        · rintro e w'' ⟨⟨k, b, rfl⟩, hy⟩
          exact ⟨⟨k, b, rfl, fun h => by cases h⟩, hy⟩
      · have e0 : relL N gs p = gs.map (relG p) := if_pos hro
        have h7 := HR7.out w' hx
        rw [e0] at h7 ⊢
        refine (apart_of HNP.out.2.1 HNP.out.2.2 L4 A7 m (gs.map (relG p)).length c4 c7 out (gs.map (relG p)) w' HM.out.symm rfl (HRW.out _ (z7.trans hx)).1 h7 (by omega) (by rw [List.length_map, HGL.out]; omega) fun i hi => ?_).mono ?_
        · obtain ⟨us, u1, u2, u3⟩ := hsc i hi
          exact ⟨us, u2, u1, u3⟩
        · rintro e w'' ⟨rfl, hy⟩
          exact ⟨⟨0, true, rfl, fun _ => ⟨rfl, rfl⟩⟩, hy⟩
    obtain ⟨lr, hlr⟩ : ∃ lr, lr = (relL N gs p).length := ⟨_, rfl⟩
    obtain ⟨one, hone⟩ : ∃ one, one = relOk N gs p := ⟨_, rfl⟩
    rw [← hlr] at HAP ⊢
    rw [← hone] at HAP ⊢
    clear HR7 hlr hone
    have d0 : w7.cell? ⟨q, 0, none⟩ = some (.int .i64 N) := (HB.out.ext y7).cell 0
    have d1 : w7.cell? ⟨q, 1, none⟩ = some (.slice Ae es.length cc) := (HB.out.ext y7).cell 1
    go_upto_region 9 with (fail)
    have HB8 : Hid (Blk (w7.alloc (.cells #[.int .i64 m7, .slice A7 lr c7] 35)) w7.heap.size 35 #[.int .i64 m7, .slice A7 lr c7]) := Blk.new _ _ _
    have HX8 : Hid (Ext w7 (w7.alloc (.cells #[.int .i64 m7, .slice A7 lr c7] 35))) := (Ext.refl _).alloc _
    have y8 := y7.trans HX8.out
    have z8 := z7.trans HX8.out
    generalize w7.alloc (.cells #[.int .i64 m7, .slice A7 lr c7] 35) = w8 at *
    generalize w7.heap.size = q8 at *
    clear d0 d1 z7 y7
    have d0 : w8.cell? ⟨q, 0, none⟩ = some (.int .i64 N) := (HB.out.ext y8).cell 0
    have d1 : w8.cell? ⟨q, 1, none⟩ = some (.slice Ae es.length cc) := (HB.out.ext y8).cell 1
    obtain ⟨⟨b0, b1⟩, -⟩ := blk2 HB8.out
    have hNN := HNP.out.1
    subst hNN
    go_wp2_with fail
    refine (HAP.out _ HX8.out).mono ?_
    rintro e w9 ⟨⟨k9, f9, rfl, hk9⟩, hy9⟩
    have HK9 := Lib.hid hk9
    have y9 := y8.trans hy9
    have z9 := z8.trans hy9
    clear d0 d1 b0 b1 hk9 HAP
    have d0 : w9.cell? ⟨q, 0, none⟩ = some (.int .i64 np) := (HB.out.ext y9).cell 0
    have d1 : w9.cell? ⟨q, 1, none⟩ = some (.slice Ae es.length cc) := (HB.out.ext y9).cell 1
    go_wp2_with fail
    refine (impl_RespectsGraph_any L4 m c4 out _ ⟨np, es⟩ _ (HRW.out _ z9).1 (HG.out _ y9) (by omega) (by simp; omega)).mono ?_
    rintro e w10 ⟨rfl, y10⟩
    rw [HRS.out]
    cases one
    · go_wp2
      go_ret
      exact ⟨rfl, HX3.out.trans (y9.trans y10)⟩
    · obtain ⟨rfl, rfl⟩ := HK9.out rfl
      go_wp2
      go_ret
      exact ⟨rfl, HX3.out.trans (y9.trans y10)⟩
set_option maxRecDepth 100000 in
theorem lifted (os : Os) (started : os.Started) (H : Type) (enc : TypeId × Value → H) :
    ReturnsInHanded {} Try.checked os 3 .any (Rows.fnBridgeSpec.pre6 enc Try.prog Try.f3 Rows.fnBridgeRow.domain false) (Rows.fnBridgeSpec.post enc Try.prog Try.f3 false true false false) := by
  refine returnsInHanded_of_change (C := Try.checked) own started (by kernel_rfl) Try.func3
    (ChangeSpec.witness6 (enc := enc) (C := Try.checked) false ⟨#[], #[.slice none 0 0], []⟩ 8 (by kernel_rfl) (by kernel_rfl) (by kernel_rfl) (by kernel_rfl)) ?_
  intro W base args ds gs before hval0 hW hcnd _
  have hval : ∀ (j : Nat) t v, Try.f3.params[j]? = some t → args[j]? = some v → Value.okWide Try.prog W .any base t v := hval0
  have hW' := hW
  obtain ⟨p, q, hA0, hV, rfl, hfz, hnd⟩ := hW
  have hA : DataW.TrodAll enc Try.prog W 0 (fun _ => true) true Try.f3.params.toList args.toList ds p := hA0
  rw [Try.params3] at hA hval
  obtain ⟨v0, vs0, d0, ds0, p0, q0, hargs, rfl, rfl, h0, r0⟩ := trodAll_cons hA
  obtain ⟨rfl, rfl, rfl⟩ := trodAll_nil r0
  obtain rfl : args = #[v0] := by cases args; simp_all
  clear hA0 hval0 hfz hnd hV hcnd
  obtain ⟨A, n, c, bs, rfl, hnc0, hcm0, hr0, hok0⟩ := open_lbytes (hval 0 _ v0 rfl rfl) h0
  refine (walk A n c bs W hr0 (by omega)).mono fun e W' ⟨he, hx⟩ => ?_
  subst he
  exact ⟨_, rfl, law_post rfl (by rw [Try.params3]; decide +kernel) rfl hW' rfl rfl rfl hx⟩

theorem over : Rows.fnBridgeRow.holds Try.pinned (OpenSpec.ofChange Rows.fnBridgeSpec) :=
  OpenClaim.holds_of_wide 3 Try.f3 rfl rfl rfl rfl rfl rfl rfl ⟨rfl, rfl, rfl, rfl, rfl⟩ rfl rfl rfl rfl rfl (by kernel_rfl) Try.func3 (by kernel_rfl)
    (of_decide_eq_true (by kernel_rfl)) (by unfold Func.isWrapper; first | (rw [if_pos (by decide +kernel)]; kernel_rfl) | (rw [if_neg (by decide +kernel)]; exact ⟨rfl, rfl⟩))
    (fun os started H enc _ => lifted os started H enc)

/-- The statement. -/
theorem proved : Rows.FnBridgeSaid := over
#print axioms proved

end fnBridge
end Go.Proofs.Ytofbmkpfliofeab
