/-
  Helper text (no claim of its own): drawn operations. Only that they return, and what their results are made of. Printed by gen_l21.py.
-/
import Derived.Test.YteecjnnompjmiaaGreatDoorPo
import Derived.Test.YteecjnnompjmiaaGreatDoorDrawD
namespace Go.Proofs.YteecjnnompjmiaaGreatDoor
open Go.ChangeShapes Go.WideShapes Go.ChangeAt Go.RowKit Go.Deep
set_option linter.unusedVariables false
set_option linter.unusedSimpArgs false
def DrewOp (w : World) (g : Nat) (e : Ending) (w' : World) : Prop := ∃ o : Oq, e = .returned o.val ∧ Cur w' g ∧ w.grownBy w' (some g)
theorem drewOp {w w' : World} {g : Nat} {e : Ending} (o : Oq) (he : e = .returned o.val) (hC : Cur w' g) (hG : w.grownBy w' (some g)) : DrewOp w g e w' := ⟨o, he, hC, hG⟩
/-- The operation in block p, the result's in block r. -/
structure DO (w0 w : World) (g p : Nat) (cs : Array Value) : Prop where
  r : Blk w w0.heap.size 27 #[.int .i64 0, .int .i64 0, .int .i64 0, .int .i64 0, .int .i64 0, .int .i64 0, .int .i64 0, .int .i64 0]
  b : Blk w p 27 cs
  c : Cur w g
  g : w0.grownBy w (some g)
theorem DO.grown {w0 w w' : World} {g p : Nat} {cs : Array Value} (h : DO w0 w g p cs) (hC : Cur w' g) (hG : w.grownBy w' (some g)) (hg : g < w0.heap.size) (hp : w0.heap.size < p) : DO w0 w' g p cs :=
  ⟨h.r.grown hG (fun k hk => by injection hk; omega), h.b.grown hG (fun k hk => by injection hk; omega), hC, gr_trans h.g hG⟩
theorem DO.put {w0 w : World} {g p : Nat} {cs : Array Value} (h : DO w0 w g p cs) (hg : g < w0.heap.size) (hp : w0.heap.size < p) (i : Nat) (u : Value) : DO w0 (w.setCell ⟨p, i, none⟩ u) g p (cs.setIfInBounds i u) :=
  ⟨h.r.far (p := ⟨p, i, none⟩) (by simp; omega) _, h.b.set_ i u, h.c.set_ (p := ⟨p, i, none⟩) (by simp; omega) _, gr_set h.g (p := ⟨p, i, none⟩) (by simp; omega) _⟩
theorem DO.cs_ {w0 w : World} {g p : Nat} {cs cs' : Array Value} (h : DO w0 w g p cs) (e : cs = cs') : DO w0 w g p cs' := e ▸ h
theorem Cur.put8 {w : World} {g q : Nat} (h : Cur w g) (hq : g < q) (c0 c1 c2 c3 c4 c5 c6 c7 : Value) : Cur (put8 w q c0 c1 c2 c3 c4 c5 c6 c7) g :=
  (((((((h.set_ (p := ⟨q, 0, none⟩) hq c0).set_ (p := ⟨q, 1, none⟩) hq c1).set_ (p := ⟨q, 2, none⟩) hq c2).set_ (p := ⟨q, 3, none⟩) hq c3).set_ (p := ⟨q, 4, none⟩) hq c4).set_ (p := ⟨q, 5, none⟩) hq c5).set_ (p := ⟨q, 6, none⟩) hq c6).set_ (p := ⟨q, 7, none⟩) hq c7
theorem gr_put8 {w0 w : World} {g q : Nat} (h : w0.grownBy w (some g)) (hq : w0.heap.size ≤ q) (c0 c1 c2 c3 c4 c5 c6 c7 : Value) : w0.grownBy (put8 w q c0 c1 c2 c3 c4 c5 c6 c7) (some g) :=
  gr_set (gr_set (gr_set (gr_set (gr_set (gr_set (gr_set (gr_set h (p := ⟨q, 0, none⟩) hq c0) (p := ⟨q, 1, none⟩) hq c1) (p := ⟨q, 2, none⟩) hq c2) (p := ⟨q, 3, none⟩) hq c3) (p := ⟨q, 4, none⟩) hq c4) (p := ⟨q, 5, none⟩) hq c5) (p := ⟨q, 6, none⟩) hq c6) (p := ⟨q, 7, none⟩) hq c7
theorem DO.put8 {w0 w : World} {g p : Nat} {z0 z1 z2 z3 z4 z5 z6 z7 : Value} (h : DO w0 w g p #[z0, z1, z2, z3, z4, z5, z6, z7]) (hg : g < w0.heap.size) (hp : w0.heap.size < p) (c0 c1 c2 c3 c4 c5 c6 c7 : Value) : DO w0 (put8 w p c0 c1 c2 c3 c4 c5 c6 c7) g p #[c0, c1, c2, c3, c4, c5, c6, c7] := by
  refine ⟨?_, h.b.put8 _ _ _ _ _ _ _ _, h.c.put8 (by omega) _ _ _ _ _ _ _ _, gr_put8 h.g (by omega) _ _ _ _ _ _ _ _⟩
  exact (((((((h.r.far (p := ⟨p, 0, none⟩) (by simp; omega) _).far (p := ⟨p, 1, none⟩) (by simp; omega) _).far (p := ⟨p, 2, none⟩) (by simp; omega) _).far (p := ⟨p, 3, none⟩) (by simp; omega) _).far (p := ⟨p, 4, none⟩) (by simp; omega) _).far (p := ⟨p, 5, none⟩) (by simp; omega) _).far (p := ⟨p, 6, none⟩) (by simp; omega) _).far (p := ⟨p, 7, none⟩) (by simp; omega) _
set_option maxRecDepth 100000 in
set_option maxHeartbeats 8000000 in
theorem l21Op_any (g : Nat) (w : World) (h : Cur w g) : Calls Tryz.prog 11 #[.pointer (some ⟨g, 0, none⟩)] w (DrewOp w g) := by
  have hgl : g < w.heap.size := h.lt
  have HGL := Lib.hid hgl
  go_enter Tryz.func11, Tryz.ntmps11
  go_wp2_with fail
  refine (l1Below_any g 3 _ (h.alloc _) (by omega)).mono ?_
  rintro e w1 ⟨a, rfl, ⟨ha0, ha1, _⟩, hC1, hG1⟩
  have ha2 : a < 3 := ha1 (by omega)
  have R1 : Hid (Blk w1 w.heap.size 27 #[.int .i64 0, .int .i64 0, .int .i64 0, .int .i64 0, .int .i64 0, .int .i64 0, .int .i64 0, .int .i64 0]) := (Blk.new w _ _).grown hG1 (fun k hk => by injection hk; omega)
  have G1 : Hid (w.grownBy w1 (some g)) := gr_trans (((Ext.refl w).alloc _).gr _) hG1
  clear ha1 hG1 h
  go_wp2_with fail
  refine (l1Below_any g 4 _ hC1 (by omega)).mono ?_
  rintro e w2 ⟨q, rfl, ⟨hq0, hq1, _⟩, hC2, hG2⟩
  have R2 : Hid (Blk w2 w.heap.size 27 #[.int .i64 0, .int .i64 0, .int .i64 0, .int .i64 0, .int .i64 0, .int .i64 0, .int .i64 0, .int .i64 0]) := R1.out.grown hG2 (fun k hk => by injection hk; omega)
  have G2 : Hid (w.grownBy w2 (some g)) := gr_trans G1.out hG2
  clear hq0 hq1 hC1 hG2 R1 G1
  go_wp2_with fail
  refine (l1Below_any g 3 _ hC2 (by omega)).mono ?_
  rintro e w3 ⟨t, rfl, ⟨ht0, ht1, _⟩, hC3, hG3⟩
  have R3 : Hid (Blk w3 w.heap.size 27 #[.int .i64 0, .int .i64 0, .int .i64 0, .int .i64 0, .int .i64 0, .int .i64 0, .int .i64 0, .int .i64 0]) := R2.out.grown hG3 (fun k hk => by injection hk; omega)
  have G3 : Hid (w.grownBy w3 (some g)) := gr_trans G2.out hG3
  clear ht0 ht1 hC2 hG3 R2 G2
  go_wp2_with fail
  refine (l1Below_any g 4 _ hC3 (by omega)).mono ?_
  rintro e w4 ⟨f, rfl, ⟨hf0, hf1, _⟩, hC4, hG4⟩
  have R4 : Hid (Blk w4 w.heap.size 27 #[.int .i64 0, .int .i64 0, .int .i64 0, .int .i64 0, .int .i64 0, .int .i64 0, .int .i64 0, .int .i64 0]) := R3.out.grown hG4 (fun k hk => by injection hk; omega)
  have G4 : Hid (w.grownBy w4 (some g)) := gr_trans G3.out hG4
  clear hf0 hf1 hC3 hG4 R3 G3
  go_upto_region 2 with (fail)
  obtain ⟨k, hk⟩ : ∃ k : Int, 1 + a = k := ⟨_, rfl⟩
  rw [hk]
  have D0 : Hid (DO w (w4.alloc (.cells #[.int .i64 k, .int .i64 0, .int .i64 0, .int .i64 0, .int .i64 0, .int .i64 q, .int .i64 t, .int .i64 f] 27)) g w4.heap.size #[.int .i64 k, .int .i64 0, .int .i64 0, .int .i64 0, .int .i64 0, .int .i64 q, .int .i64 t, .int .i64 f]) := ⟨R4.out.alloc _, Blk.new _ _ _, hC4.alloc _, gr_alloc G4.out _⟩
  have HP : Hid (w.heap.size < w4.heap.size) := R4.out.lt
  generalize w4.alloc (.cells #[.int .i64 k, .int .i64 0, .int .i64 0, .int .i64 0, .int .i64 0, .int .i64 q, .int .i64 t, .int .i64 f] 27) = W0 at *
  generalize w4.heap.size = p at *
  clear hk ha0 ha2 hC4 R4 G4 hgl
  have k0 : W0.cell? ⟨p, 0, none⟩ = some (.int .i64 k) := D0.out.b.cell 0
  by_cases hk1 : k = 1
  · have hkb : (k == 1) = true := by simp [hk1]
    have k7 : W0.cell? ⟨p, 7, none⟩ = some (.int .i64 f) := D0.out.b.cell 7
    have HB : Hid (Calls Tryz.prog 28 #[.pointer (some ⟨g, 0, none⟩), .int .i64 3] W0.drew fun e w' => ∃ x : Gt, e = .returned x.val ∧ DO w w' g p #[.int .i64 k, .int .i64 0, .int .i64 0, .int .i64 0, .int .i64 0, .int .i64 q, .int .i64 t, .int .i64 f]) := by
      refine (l9Bent_any g 3 ⟨by omega, by omega⟩ _ (D0.out.c.ext (Ext.refl W0).drew)).mono ?_
      rintro e w' ⟨x, rfl, hC, hG⟩
      have DD : DO w W0.drew g p #[.int .i64 k, .int .i64 0, .int .i64 0, .int .i64 0, .int .i64 0, .int .i64 q, .int .i64 t, .int .i64 f] := ⟨D0.out.r, D0.out.b, D0.out.c.ext (Ext.refl W0).drew, gr_drewN D0.out.g 1⟩
      exact ⟨x, rfl, DD.grown hC hG HGL.out HP.out⟩
    clear hk1
    go_wp2
    refine wp_region_held_drew (S := (fun w' => w'.cell? ⟨p, 0, none⟩ = some (.int .i64 k) ∧ w'.cell? ⟨p, 7, none⟩ = some (.int .i64 f))) (by kernel_rfl) ⟨k0, k7⟩ (fun hHeld => ?_)
    (refine wpAnyH_take (i := 0) (v := ?_) rfl (by kernel_rfl) (by kernel_rfl) (by kernel_rfl) (fun _ _ _ h => h) (Or.inl ⟨by rfl, ?_⟩) (by assumption) ?_; rotate_left; · (intro w hSw; (try dsimp only at hSw); go_simp; all_goals with_reducible rfl); (try simp only [Act.put, List.getElem_toArray, List.getElem_cons_zero, List.getElem_cons_succ, List.setIfInBounds_toArray, List.set_cons_zero, List.set_cons_succ]))
    (try simp only [Act.put, List.getElem_toArray, List.getElem_cons_zero, List.getElem_cons_succ, List.setIfInBounds_toArray, List.set_cons_zero, List.set_cons_succ])
    (refine wpAnyH_take (i := 2) (v := ?_) rfl (by kernel_rfl) (by kernel_rfl) (by kernel_rfl) (fun _ _ _ h => h) (Or.inl ⟨by rfl, ?_⟩) (by assumption) ?_; rotate_left; · (intro w hSw; (try dsimp only at hSw); go_simp; all_goals with_reducible rfl); (try simp only [Act.put, List.getElem_toArray, List.getElem_cons_zero, List.getElem_cons_succ, List.setIfInBounds_toArray, List.set_cons_zero, List.set_cons_succ]))
    (try simp only [Act.put, List.getElem_toArray, List.getElem_cons_zero, List.getElem_cons_succ, List.setIfInBounds_toArray, List.set_cons_zero, List.set_cons_succ])
    (refine wpAnyH_take (i := 4) (v := ?_) rfl (by kernel_rfl) (by kernel_rfl) (by kernel_rfl) (fun _ _ _ h => h) (Or.inl ⟨by rfl, ?_⟩) (by assumption) ?_; rotate_left; · (intro w hSw; (try dsimp only at hSw); go_simp; all_goals with_reducible rfl); (try simp only [Act.put, List.getElem_toArray, List.getElem_cons_zero, List.getElem_cons_succ, List.setIfInBounds_toArray, List.set_cons_zero, List.set_cons_succ]))
    (try simp only [Act.put, List.getElem_toArray, List.getElem_cons_zero, List.getElem_cons_succ, List.setIfInBounds_toArray, List.set_cons_zero, List.set_cons_succ])
    (refine wpAnyH_take (i := 1) (v := .int .i64 k) rfl (by kernel_rfl) (by kernel_rfl) (by kernel_rfl) (fun _ _ _ h => h) (Or.inl ⟨by rfl, ?_⟩) (by assumption) ?_; · (intro w hSw; (try dsimp only at hSw); obtain ⟨s0, s7⟩ := hSw; go_simp; first | done | rfl))
    (try simp only [Act.put, List.getElem_toArray, List.getElem_cons_zero, List.getElem_cons_succ, List.setIfInBounds_toArray, List.set_cons_zero, List.set_cons_succ])
    (refine wpAnyH_take (i := 5) (v := .int .i64 f) rfl (by kernel_rfl) (by kernel_rfl) (by kernel_rfl) (fun _ _ _ h => h) (Or.inl ⟨by rfl, ?_⟩) (by assumption) ?_; · (intro w hSw; (try dsimp only at hSw); obtain ⟨s0, s7⟩ := hSw; go_simp; first | done | rfl))
    (try simp only [Act.put, List.getElem_toArray, List.getElem_cons_zero, List.getElem_cons_succ, List.setIfInBounds_toArray, List.set_cons_zero, List.set_cons_succ])
    refine wpAnyH_ready (rs := [3]) (by kernel_rfl) (by simp) ?_
    refine AllReadyH.cons rfl (fun K hK => ?_) AllReadyH.nil
    go_simp
    refine HB.out.mono ?_
    rintro e w5 ⟨x, rfl, hD5⟩
    obtain ⟨⟨m0, m1, m2, m3, m4, m5, m6, m7⟩, z0, z1, z2, z3, z4, z5, z6, z7⟩ := cells8 hD5.b
    refine hK.out _ _ ⟨m0, m7⟩ (fun hHeld => ?_)
    clear hK K
    (try simp only [Act.put, List.getElem_toArray, List.getElem_cons_zero, List.getElem_cons_succ, List.setIfInBounds_toArray, List.set_cons_zero, List.set_cons_succ])
    (refine wpAnyH_take (i := 6) (v := ?_) rfl (by kernel_rfl) (by kernel_rfl) (by kernel_rfl) (fun _ _ _ h => h) (Or.inl ⟨by rfl, ?_⟩) (by assumption) ?_; rotate_left; · (intro w hSw; (try dsimp only at hSw); go_simp; all_goals with_reducible rfl); (try simp only [Act.put, List.getElem_toArray, List.getElem_cons_zero, List.getElem_cons_succ, List.setIfInBounds_toArray, List.set_cons_zero, List.set_cons_succ]))
    (try simp only [Act.put, List.getElem_toArray, List.getElem_cons_zero, List.getElem_cons_succ, List.setIfInBounds_toArray, List.set_cons_zero, List.set_cons_succ])
    refine wpAnyH_ready (rs := [7]) (by kernel_rfl) (by simp) ?_
    refine AllReadyH.cons rfl (fun K hK => ?_) AllReadyH.nil
    go_simp
    refine hK.out _ _ ⟨(hD5.put8 HGL.out HP.out _ _ _ _ _ _ _ _).b.cell 0, (hD5.put8 HGL.out HP.out _ _ _ _ _ _ _ _).b.cell 7⟩ (fun hHeld => ?_)
    clear hK K
    (try simp only [Act.put, List.getElem_toArray, List.getElem_cons_zero, List.getElem_cons_succ, List.setIfInBounds_toArray, List.set_cons_zero, List.set_cons_succ])
    (refine wpAnyH_done (by kernel_rfl) ?_ _)
    clear hHeld
    have DN : Hid (DO w ((((((((w5.setCell ⟨p, 0, none⟩ (.int .i64 k)).setCell ⟨p, 1, none⟩ (.int .i64 x.k)).setCell ⟨p, 2, none⟩ (.int .i64 x.a)).setCell ⟨p, 3, none⟩ (.int .i64 x.b)).setCell ⟨p, 4, none⟩ (.int .i64 x.c)).setCell ⟨p, 5, none⟩ (.int .i64 0)).setCell ⟨p, 6, none⟩ (.int .i64 0)).setCell ⟨p, 7, none⟩ (.int .i64 f)) g p #[.int .i64 k, .int .i64 x.k, .int .i64 x.a, .int .i64 x.b, .int .i64 x.c, .int .i64 0, .int .i64 0, .int .i64 f]) := hD5.put8 HGL.out HP.out _ _ _ _ _ _ _ _
    generalize ((((((((w5.setCell ⟨p, 0, none⟩ (.int .i64 k)).setCell ⟨p, 1, none⟩ (.int .i64 x.k)).setCell ⟨p, 2, none⟩ (.int .i64 x.a)).setCell ⟨p, 3, none⟩ (.int .i64 x.b)).setCell ⟨p, 4, none⟩ (.int .i64 x.c)).setCell ⟨p, 5, none⟩ (.int .i64 0)).setCell ⟨p, 6, none⟩ (.int .i64 0)).setCell ⟨p, 7, none⟩ (.int .i64 f)) = W5 at *
    clear m0 m1 m2 m3 m4 m5 m6 m7 z0 z1 z2 z3 z4 z5 z6 z7 hD5 k0 k7 hkb HB D0
    go_wp2_with fail
    refine (l1Once_any g 10 _ DN.out.c (by omega)).mono ?_
    rintro e u1 ⟨bo, rfl, hcu, hgu⟩
    have DU := Lib.hid (DN.out.grown hcu hgu HGL.out HP.out)
    clear hcu hgu
    cases bo
    · skip
      have d0 : u1.cell? ⟨p, 0, none⟩ = some (.int .i64 k) := DU.out.b.cell 0
      have d1 : u1.cell? ⟨p, 1, none⟩ = some (.int .i64 x.k) := DU.out.b.cell 1
      have d2 : u1.cell? ⟨p, 2, none⟩ = some (.int .i64 x.a) := DU.out.b.cell 2
      have d3 : u1.cell? ⟨p, 3, none⟩ = some (.int .i64 x.b) := DU.out.b.cell 3
      have d4 : u1.cell? ⟨p, 4, none⟩ = some (.int .i64 x.c) := DU.out.b.cell 4
      have d5 : u1.cell? ⟨p, 5, none⟩ = some (.int .i64 0) := DU.out.b.cell 5
      have d6 : u1.cell? ⟨p, 6, none⟩ = some (.int .i64 0) := DU.out.b.cell 6
      have d7 : u1.cell? ⟨p, 7, none⟩ = some (.int .i64 f) := DU.out.b.cell 7
      obtain ⟨⟨a0, a1, a2, a3, a4, a5, a6, a7⟩, z0, z1, z2, z3, z4, z5, z6, z7⟩ := cells8 DU.out.r
      go_wp2
      exact bodyPost_ret (v := .agg #[.int .i64 k, .int .i64 x.k, .int .i64 x.a, .int .i64 x.b, .int .i64 x.c, .int .i64 0, .int .i64 0, .int .i64 f]) (results_cell_row rfl _ _ w.heap.size 27 #[.int .i64 k, .int .i64 x.k, .int .i64 x.a, .int .i64 x.b, .int .i64 x.c, .int .i64 0, .int .i64 0, .int .i64 f] (0, 0) _ rfl (DU.out.r.put8 (.int .i64 k) (.int .i64 x.k) (.int .i64 x.a) (.int .i64 x.b) (.int .i64 x.c) (.int .i64 0) (.int .i64 0) (.int .i64 f)) Tryz.underlying27 rfl Tryz.sizeOpR) rfl (drewOp ⟨k, ⟨x.k, x.a, x.b, x.c⟩, 0, 0, f⟩ rfl (DU.out.c.put8 HGL.out _ _ _ _ _ _ _ _) (gr_put8 DU.out.g (Nat.le_refl _) _ _ _ _ _ _ _ _))
    · go_wp2_with fail
      refine (l1Below_any g 6 _ DU.out.c (by omega)).mono ?_
      rintro e u2 ⟨m, rfl, ⟨hm0, hm1, _⟩, hcu, hgu⟩
      have DV := Lib.hid (DU.out.grown hcu hgu HGL.out HP.out)
      have hm2 : m < 6 := hm1 (by omega)
      clear hcu hgu hm1 DU
      have c0 : u2.cell? ⟨p, 0, none⟩ = some (.int .i64 k) := DV.out.b.cell 0
      have f0 : u2.frozen? ⟨p, 0, none⟩ = false := DV.out.b.frozen 0
      go_upto_region 10 with (fail)
      clear c0 f0
      have DW : Hid (DO w (u2.setCell ⟨p, 0, none⟩ (.int .i64 (m - 1))) g p #[.int .i64 (m - 1), .int .i64 x.k, .int .i64 x.a, .int .i64 x.b, .int .i64 x.c, .int .i64 0, .int .i64 0, .int .i64 f]) := (DV.out.put HGL.out HP.out 0 _)
      generalize u2.setCell ⟨p, 0, none⟩ (.int .i64 (m - 1)) = U3 at *
      clear DV hm0 hm2
      have d0 : U3.cell? ⟨p, 0, none⟩ = some (.int .i64 (m - 1)) := DW.out.b.cell 0
      have d1 : U3.cell? ⟨p, 1, none⟩ = some (.int .i64 x.k) := DW.out.b.cell 1
      have d2 : U3.cell? ⟨p, 2, none⟩ = some (.int .i64 x.a) := DW.out.b.cell 2
      have d3 : U3.cell? ⟨p, 3, none⟩ = some (.int .i64 x.b) := DW.out.b.cell 3
      have d4 : U3.cell? ⟨p, 4, none⟩ = some (.int .i64 x.c) := DW.out.b.cell 4
      have d5 : U3.cell? ⟨p, 5, none⟩ = some (.int .i64 0) := DW.out.b.cell 5
      have d6 : U3.cell? ⟨p, 6, none⟩ = some (.int .i64 0) := DW.out.b.cell 6
      have d7 : U3.cell? ⟨p, 7, none⟩ = some (.int .i64 f) := DW.out.b.cell 7
      obtain ⟨⟨a0, a1, a2, a3, a4, a5, a6, a7⟩, z0, z1, z2, z3, z4, z5, z6, z7⟩ := cells8 DW.out.r
      go_wp2
      exact bodyPost_ret (v := .agg #[.int .i64 (m - 1), .int .i64 x.k, .int .i64 x.a, .int .i64 x.b, .int .i64 x.c, .int .i64 0, .int .i64 0, .int .i64 f]) (results_cell_row rfl _ _ w.heap.size 27 #[.int .i64 (m - 1), .int .i64 x.k, .int .i64 x.a, .int .i64 x.b, .int .i64 x.c, .int .i64 0, .int .i64 0, .int .i64 f] (0, 0) _ rfl (DW.out.r.put8 (.int .i64 (m - 1)) (.int .i64 x.k) (.int .i64 x.a) (.int .i64 x.b) (.int .i64 x.c) (.int .i64 0) (.int .i64 0) (.int .i64 f)) Tryz.underlying27 rfl Tryz.sizeOpR) rfl (drewOp ⟨(m - 1), ⟨x.k, x.a, x.b, x.c⟩, 0, 0, f⟩ rfl (DW.out.c.put8 HGL.out _ _ _ _ _ _ _ _) (gr_put8 DW.out.g (Nat.le_refl _) _ _ _ _ _ _ _ _))
  have hkb : (k == 1) = false := by simp [hk1]
  clear hk1
  go_wp2_with fail
  refine (l1Once_any g 4 _ D0.out.c (by omega)).mono ?_
  rintro e w5 ⟨bo, rfl, hcu, hgu⟩
  have D1 := Lib.hid (D0.out.grown hcu hgu HGL.out HP.out)
  clear hcu hgu k0 D0
  cases bo
  rotate_left
  · clear hkb
    go_wp2_with fail
    refine (l1Once_any g 10 _ D1.out.c (by omega)).mono ?_
    rintro e u1 ⟨bo, rfl, hcu, hgu⟩
    have DU := Lib.hid (D1.out.grown hcu hgu HGL.out HP.out)
    clear hcu hgu
    cases bo
    · skip
      have d0 : u1.cell? ⟨p, 0, none⟩ = some (.int .i64 k) := DU.out.b.cell 0
      have d1 : u1.cell? ⟨p, 1, none⟩ = some (.int .i64 0) := DU.out.b.cell 1
      have d2 : u1.cell? ⟨p, 2, none⟩ = some (.int .i64 0) := DU.out.b.cell 2
      have d3 : u1.cell? ⟨p, 3, none⟩ = some (.int .i64 0) := DU.out.b.cell 3
      have d4 : u1.cell? ⟨p, 4, none⟩ = some (.int .i64 0) := DU.out.b.cell 4
      have d5 : u1.cell? ⟨p, 5, none⟩ = some (.int .i64 q) := DU.out.b.cell 5
      have d6 : u1.cell? ⟨p, 6, none⟩ = some (.int .i64 t) := DU.out.b.cell 6
      have d7 : u1.cell? ⟨p, 7, none⟩ = some (.int .i64 f) := DU.out.b.cell 7
      obtain ⟨⟨a0, a1, a2, a3, a4, a5, a6, a7⟩, z0, z1, z2, z3, z4, z5, z6, z7⟩ := cells8 DU.out.r
      go_wp2
      exact bodyPost_ret (v := .agg #[.int .i64 k, .int .i64 0, .int .i64 0, .int .i64 0, .int .i64 0, .int .i64 q, .int .i64 t, .int .i64 f]) (results_cell_row rfl _ _ w.heap.size 27 #[.int .i64 k, .int .i64 0, .int .i64 0, .int .i64 0, .int .i64 0, .int .i64 q, .int .i64 t, .int .i64 f] (0, 0) _ rfl (DU.out.r.put8 (.int .i64 k) (.int .i64 0) (.int .i64 0) (.int .i64 0) (.int .i64 0) (.int .i64 q) (.int .i64 t) (.int .i64 f)) Tryz.underlying27 rfl Tryz.sizeOpR) rfl (drewOp ⟨k, ⟨0, 0, 0, 0⟩, q, t, f⟩ rfl (DU.out.c.put8 HGL.out _ _ _ _ _ _ _ _) (gr_put8 DU.out.g (Nat.le_refl _) _ _ _ _ _ _ _ _))
    · go_wp2_with fail
      refine (l1Below_any g 6 _ DU.out.c (by omega)).mono ?_
      rintro e u2 ⟨m, rfl, ⟨hm0, hm1, _⟩, hcu, hgu⟩
      have DV := Lib.hid (DU.out.grown hcu hgu HGL.out HP.out)
      have hm2 : m < 6 := hm1 (by omega)
      clear hcu hgu hm1 DU
      have c0 : u2.cell? ⟨p, 0, none⟩ = some (.int .i64 k) := DV.out.b.cell 0
      have f0 : u2.frozen? ⟨p, 0, none⟩ = false := DV.out.b.frozen 0
      go_upto_region 10 with (fail)
      clear c0 f0
      have DW : Hid (DO w (u2.setCell ⟨p, 0, none⟩ (.int .i64 (m - 1))) g p #[.int .i64 (m - 1), .int .i64 0, .int .i64 0, .int .i64 0, .int .i64 0, .int .i64 q, .int .i64 t, .int .i64 f]) := (DV.out.put HGL.out HP.out 0 _)
      generalize u2.setCell ⟨p, 0, none⟩ (.int .i64 (m - 1)) = U3 at *
      clear DV hm0 hm2
      have d0 : U3.cell? ⟨p, 0, none⟩ = some (.int .i64 (m - 1)) := DW.out.b.cell 0
      have d1 : U3.cell? ⟨p, 1, none⟩ = some (.int .i64 0) := DW.out.b.cell 1
      have d2 : U3.cell? ⟨p, 2, none⟩ = some (.int .i64 0) := DW.out.b.cell 2
      have d3 : U3.cell? ⟨p, 3, none⟩ = some (.int .i64 0) := DW.out.b.cell 3
      have d4 : U3.cell? ⟨p, 4, none⟩ = some (.int .i64 0) := DW.out.b.cell 4
      have d5 : U3.cell? ⟨p, 5, none⟩ = some (.int .i64 q) := DW.out.b.cell 5
      have d6 : U3.cell? ⟨p, 6, none⟩ = some (.int .i64 t) := DW.out.b.cell 6
      have d7 : U3.cell? ⟨p, 7, none⟩ = some (.int .i64 f) := DW.out.b.cell 7
      obtain ⟨⟨a0, a1, a2, a3, a4, a5, a6, a7⟩, z0, z1, z2, z3, z4, z5, z6, z7⟩ := cells8 DW.out.r
      go_wp2
      exact bodyPost_ret (v := .agg #[.int .i64 (m - 1), .int .i64 0, .int .i64 0, .int .i64 0, .int .i64 0, .int .i64 q, .int .i64 t, .int .i64 f]) (results_cell_row rfl _ _ w.heap.size 27 #[.int .i64 (m - 1), .int .i64 0, .int .i64 0, .int .i64 0, .int .i64 0, .int .i64 q, .int .i64 t, .int .i64 f] (0, 0) _ rfl (DW.out.r.put8 (.int .i64 (m - 1)) (.int .i64 0) (.int .i64 0) (.int .i64 0) (.int .i64 0) (.int .i64 q) (.int .i64 t) (.int .i64 f)) Tryz.underlying27 rfl Tryz.sizeOpR) rfl (drewOp ⟨(m - 1), ⟨0, 0, 0, 0⟩, q, t, f⟩ rfl (DW.out.c.put8 HGL.out _ _ _ _ _ _ _ _) (gr_put8 DW.out.g (Nat.le_refl _) _ _ _ _ _ _ _ _))
  have c0 : w5.cell? ⟨p, 7, none⟩ = some (.int .i64 f) := D1.out.b.cell 7
  have f0 : w5.frozen? ⟨p, 7, none⟩ = false := D1.out.b.frozen 7
  go_upto_region 6 with (fail)
  clear c0 f0
  have D2 : Hid (DO w (w5.setCell ⟨p, 7, none⟩ (.int .i64 0)) g p #[.int .i64 k, .int .i64 0, .int .i64 0, .int .i64 0, .int .i64 0, .int .i64 q, .int .i64 t, .int .i64 0]) := D1.out.put HGL.out HP.out 7 _
  generalize w5.setCell ⟨p, 7, none⟩ (.int .i64 0) = W6 at *
  clear D1
  have k0 : W6.cell? ⟨p, 0, none⟩ = some (.int .i64 k) := D2.out.b.cell 0
  by_cases hk3 : k = 3
  · have hk3b : (k == 3) = true := by simp [hk3]
    clear hk3
    have c0 : W6.cell? ⟨p, 6, none⟩ = some (.int .i64 t) := D2.out.b.cell 6
    have f0 : W6.frozen? ⟨p, 6, none⟩ = false := D2.out.b.frozen 6
    go_upto_region 8 with (fail)
    clear c0 f0 k0 hkb hk3b
    have D3 : Hid (DO w (W6.setCell ⟨p, 6, none⟩ (.int .i64 0)) g p #[.int .i64 k, .int .i64 0, .int .i64 0, .int .i64 0, .int .i64 0, .int .i64 q, .int .i64 0, .int .i64 0]) := D2.out.put HGL.out HP.out 6 _
    generalize W6.setCell ⟨p, 6, none⟩ (.int .i64 0) = W7 at *
    clear D2
    go_wp2_with fail
    refine (l1Once_any g 10 _ D3.out.c (by omega)).mono ?_
    rintro e u1 ⟨bo, rfl, hcu, hgu⟩
    have DU := Lib.hid (D3.out.grown hcu hgu HGL.out HP.out)
    clear hcu hgu
    cases bo
    · skip
      have d0 : u1.cell? ⟨p, 0, none⟩ = some (.int .i64 k) := DU.out.b.cell 0
      have d1 : u1.cell? ⟨p, 1, none⟩ = some (.int .i64 0) := DU.out.b.cell 1
      have d2 : u1.cell? ⟨p, 2, none⟩ = some (.int .i64 0) := DU.out.b.cell 2
      have d3 : u1.cell? ⟨p, 3, none⟩ = some (.int .i64 0) := DU.out.b.cell 3
      have d4 : u1.cell? ⟨p, 4, none⟩ = some (.int .i64 0) := DU.out.b.cell 4
      have d5 : u1.cell? ⟨p, 5, none⟩ = some (.int .i64 q) := DU.out.b.cell 5
      have d6 : u1.cell? ⟨p, 6, none⟩ = some (.int .i64 0) := DU.out.b.cell 6
      have d7 : u1.cell? ⟨p, 7, none⟩ = some (.int .i64 0) := DU.out.b.cell 7
      obtain ⟨⟨a0, a1, a2, a3, a4, a5, a6, a7⟩, z0, z1, z2, z3, z4, z5, z6, z7⟩ := cells8 DU.out.r
      go_wp2
      exact bodyPost_ret (v := .agg #[.int .i64 k, .int .i64 0, .int .i64 0, .int .i64 0, .int .i64 0, .int .i64 q, .int .i64 0, .int .i64 0]) (results_cell_row rfl _ _ w.heap.size 27 #[.int .i64 k, .int .i64 0, .int .i64 0, .int .i64 0, .int .i64 0, .int .i64 q, .int .i64 0, .int .i64 0] (0, 0) _ rfl (DU.out.r.put8 (.int .i64 k) (.int .i64 0) (.int .i64 0) (.int .i64 0) (.int .i64 0) (.int .i64 q) (.int .i64 0) (.int .i64 0)) Tryz.underlying27 rfl Tryz.sizeOpR) rfl (drewOp ⟨k, ⟨0, 0, 0, 0⟩, q, 0, 0⟩ rfl (DU.out.c.put8 HGL.out _ _ _ _ _ _ _ _) (gr_put8 DU.out.g (Nat.le_refl _) _ _ _ _ _ _ _ _))
    · go_wp2_with fail
      refine (l1Below_any g 6 _ DU.out.c (by omega)).mono ?_
      rintro e u2 ⟨m, rfl, ⟨hm0, hm1, _⟩, hcu, hgu⟩
      have DV := Lib.hid (DU.out.grown hcu hgu HGL.out HP.out)
      have hm2 : m < 6 := hm1 (by omega)
      clear hcu hgu hm1 DU
      have c0 : u2.cell? ⟨p, 0, none⟩ = some (.int .i64 k) := DV.out.b.cell 0
      have f0 : u2.frozen? ⟨p, 0, none⟩ = false := DV.out.b.frozen 0
      go_upto_region 10 with (fail)
      clear c0 f0
      have DW : Hid (DO w (u2.setCell ⟨p, 0, none⟩ (.int .i64 (m - 1))) g p #[.int .i64 (m - 1), .int .i64 0, .int .i64 0, .int .i64 0, .int .i64 0, .int .i64 q, .int .i64 0, .int .i64 0]) := (DV.out.put HGL.out HP.out 0 _)
      generalize u2.setCell ⟨p, 0, none⟩ (.int .i64 (m - 1)) = U3 at *
      clear DV hm0 hm2
      have d0 : U3.cell? ⟨p, 0, none⟩ = some (.int .i64 (m - 1)) := DW.out.b.cell 0
      have d1 : U3.cell? ⟨p, 1, none⟩ = some (.int .i64 0) := DW.out.b.cell 1
      have d2 : U3.cell? ⟨p, 2, none⟩ = some (.int .i64 0) := DW.out.b.cell 2
      have d3 : U3.cell? ⟨p, 3, none⟩ = some (.int .i64 0) := DW.out.b.cell 3
      have d4 : U3.cell? ⟨p, 4, none⟩ = some (.int .i64 0) := DW.out.b.cell 4
      have d5 : U3.cell? ⟨p, 5, none⟩ = some (.int .i64 q) := DW.out.b.cell 5
      have d6 : U3.cell? ⟨p, 6, none⟩ = some (.int .i64 0) := DW.out.b.cell 6
      have d7 : U3.cell? ⟨p, 7, none⟩ = some (.int .i64 0) := DW.out.b.cell 7
      obtain ⟨⟨a0, a1, a2, a3, a4, a5, a6, a7⟩, z0, z1, z2, z3, z4, z5, z6, z7⟩ := cells8 DW.out.r
      go_wp2
      exact bodyPost_ret (v := .agg #[.int .i64 (m - 1), .int .i64 0, .int .i64 0, .int .i64 0, .int .i64 0, .int .i64 q, .int .i64 0, .int .i64 0]) (results_cell_row rfl _ _ w.heap.size 27 #[.int .i64 (m - 1), .int .i64 0, .int .i64 0, .int .i64 0, .int .i64 0, .int .i64 q, .int .i64 0, .int .i64 0] (0, 0) _ rfl (DW.out.r.put8 (.int .i64 (m - 1)) (.int .i64 0) (.int .i64 0) (.int .i64 0) (.int .i64 0) (.int .i64 q) (.int .i64 0) (.int .i64 0)) Tryz.underlying27 rfl Tryz.sizeOpR) rfl (drewOp ⟨(m - 1), ⟨0, 0, 0, 0⟩, q, 0, 0⟩ rfl (DW.out.c.put8 HGL.out _ _ _ _ _ _ _ _) (gr_put8 DW.out.g (Nat.le_refl _) _ _ _ _ _ _ _ _))
  have hk3b : (k == 3) = false := by simp [hk3]
  clear hk3
  go_upto_region 8 with (fail)
  clear k0 hkb hk3b
  go_wp2_with fail
  refine (l1Once_any g 10 _ D2.out.c (by omega)).mono ?_
  rintro e u1 ⟨bo, rfl, hcu, hgu⟩
  have DU := Lib.hid (D2.out.grown hcu hgu HGL.out HP.out)
  clear hcu hgu
  cases bo
  · skip
    have d0 : u1.cell? ⟨p, 0, none⟩ = some (.int .i64 k) := DU.out.b.cell 0
    have d1 : u1.cell? ⟨p, 1, none⟩ = some (.int .i64 0) := DU.out.b.cell 1
    have d2 : u1.cell? ⟨p, 2, none⟩ = some (.int .i64 0) := DU.out.b.cell 2
    have d3 : u1.cell? ⟨p, 3, none⟩ = some (.int .i64 0) := DU.out.b.cell 3
    have d4 : u1.cell? ⟨p, 4, none⟩ = some (.int .i64 0) := DU.out.b.cell 4
    have d5 : u1.cell? ⟨p, 5, none⟩ = some (.int .i64 q) := DU.out.b.cell 5
    have d6 : u1.cell? ⟨p, 6, none⟩ = some (.int .i64 t) := DU.out.b.cell 6
    have d7 : u1.cell? ⟨p, 7, none⟩ = some (.int .i64 0) := DU.out.b.cell 7
    obtain ⟨⟨a0, a1, a2, a3, a4, a5, a6, a7⟩, z0, z1, z2, z3, z4, z5, z6, z7⟩ := cells8 DU.out.r
    go_wp2
    exact bodyPost_ret (v := .agg #[.int .i64 k, .int .i64 0, .int .i64 0, .int .i64 0, .int .i64 0, .int .i64 q, .int .i64 t, .int .i64 0]) (results_cell_row rfl _ _ w.heap.size 27 #[.int .i64 k, .int .i64 0, .int .i64 0, .int .i64 0, .int .i64 0, .int .i64 q, .int .i64 t, .int .i64 0] (0, 0) _ rfl (DU.out.r.put8 (.int .i64 k) (.int .i64 0) (.int .i64 0) (.int .i64 0) (.int .i64 0) (.int .i64 q) (.int .i64 t) (.int .i64 0)) Tryz.underlying27 rfl Tryz.sizeOpR) rfl (drewOp ⟨k, ⟨0, 0, 0, 0⟩, q, t, 0⟩ rfl (DU.out.c.put8 HGL.out _ _ _ _ _ _ _ _) (gr_put8 DU.out.g (Nat.le_refl _) _ _ _ _ _ _ _ _))
  · go_wp2_with fail
    refine (l1Below_any g 6 _ DU.out.c (by omega)).mono ?_
    rintro e u2 ⟨m, rfl, ⟨hm0, hm1, _⟩, hcu, hgu⟩
    have DV := Lib.hid (DU.out.grown hcu hgu HGL.out HP.out)
    have hm2 : m < 6 := hm1 (by omega)
    clear hcu hgu hm1 DU
    have c0 : u2.cell? ⟨p, 0, none⟩ = some (.int .i64 k) := DV.out.b.cell 0
    have f0 : u2.frozen? ⟨p, 0, none⟩ = false := DV.out.b.frozen 0
    go_upto_region 10 with (fail)
    clear c0 f0
    have DW : Hid (DO w (u2.setCell ⟨p, 0, none⟩ (.int .i64 (m - 1))) g p #[.int .i64 (m - 1), .int .i64 0, .int .i64 0, .int .i64 0, .int .i64 0, .int .i64 q, .int .i64 t, .int .i64 0]) := (DV.out.put HGL.out HP.out 0 _)
    generalize u2.setCell ⟨p, 0, none⟩ (.int .i64 (m - 1)) = U3 at *
    clear DV hm0 hm2
    have d0 : U3.cell? ⟨p, 0, none⟩ = some (.int .i64 (m - 1)) := DW.out.b.cell 0
    have d1 : U3.cell? ⟨p, 1, none⟩ = some (.int .i64 0) := DW.out.b.cell 1
    have d2 : U3.cell? ⟨p, 2, none⟩ = some (.int .i64 0) := DW.out.b.cell 2
    have d3 : U3.cell? ⟨p, 3, none⟩ = some (.int .i64 0) := DW.out.b.cell 3
    have d4 : U3.cell? ⟨p, 4, none⟩ = some (.int .i64 0) := DW.out.b.cell 4
    have d5 : U3.cell? ⟨p, 5, none⟩ = some (.int .i64 q) := DW.out.b.cell 5
    have d6 : U3.cell? ⟨p, 6, none⟩ = some (.int .i64 t) := DW.out.b.cell 6
    have d7 : U3.cell? ⟨p, 7, none⟩ = some (.int .i64 0) := DW.out.b.cell 7
    obtain ⟨⟨a0, a1, a2, a3, a4, a5, a6, a7⟩, z0, z1, z2, z3, z4, z5, z6, z7⟩ := cells8 DW.out.r
    go_wp2
    exact bodyPost_ret (v := .agg #[.int .i64 (m - 1), .int .i64 0, .int .i64 0, .int .i64 0, .int .i64 0, .int .i64 q, .int .i64 t, .int .i64 0]) (results_cell_row rfl _ _ w.heap.size 27 #[.int .i64 (m - 1), .int .i64 0, .int .i64 0, .int .i64 0, .int .i64 0, .int .i64 q, .int .i64 t, .int .i64 0] (0, 0) _ rfl (DW.out.r.put8 (.int .i64 (m - 1)) (.int .i64 0) (.int .i64 0) (.int .i64 0) (.int .i64 0) (.int .i64 q) (.int .i64 t) (.int .i64 0)) Tryz.underlying27 rfl Tryz.sizeOpR) rfl (drewOp ⟨(m - 1), ⟨0, 0, 0, 0⟩, q, t, 0⟩ rfl (DW.out.c.put8 HGL.out _ _ _ _ _ _ _ _) (gr_put8 DW.out.g (Nat.le_refl _) _ _ _ _ _ _ _ _))
end Go.Proofs.YteecjnnompjmiaaGreatDoor
