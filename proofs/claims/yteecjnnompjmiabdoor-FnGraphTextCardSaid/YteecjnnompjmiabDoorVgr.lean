/-
  Helper text (no claim of its own): connected graphs and valid graphs, by the program and by the reference.
-/
import Derived.Test.YteecjnnompjmiabDoorGds
import Derived.Test.YteecjnnompjmiabDoorSeenE
import Derived.Test.YteecjnnompjmiabDoorCmq
namespace Go.Proofs.YteecjnnompjmiabDoor
open Go.ChangeShapes Go.WideShapes Go.ChangeAt Go.RowKit Go.Deep
/-- Every vertex is reached from the first one. -/
def conn (x : Gr) : Bool := decide (1 ≤ x.n) && decide (x.n ≤ 4) && (List.range x.n.toNat).all fun k => decide (0 ≤ gd x 0 (k : Int))
theorem conn_lo {x : Gr} (h : x.n < 1) : conn x = false := by
  unfold conn; rw [show decide (1 ≤ x.n) = false from by simpa using h]; rfl
theorem conn_hi {x : Gr} (h : 4 < x.n) : conn x = false := by
  unfold conn; rw [show decide (x.n ≤ 4) = false from by simpa using h]; simp
theorem conn_no {x : Gr} {k n : Nat} (hn : x.n = n) (h : k < n) (h0 : gd x 0 (k : Int) = -1) : conn x = false := by
  unfold conn
  have : ((List.range x.n.toNat).all fun k => decide (0 ≤ gd x 0 (k : Int))) = false := by
    rw [List.all_eq_false]
    exact ⟨k, by rw [hn]; simpa using h, by rw [h0]; simp⟩
  rw [this, Bool.and_false]
theorem conn_yes {x : Gr} {n : Nat} (hn : x.n = n) (h1 : 1 ≤ n) (h4 : n ≤ 4) (h : ∀ k, k < n → 0 ≤ gd x 0 (k : Int)) : conn x = true := by
  unfold conn
  have : ((List.range x.n.toNat).all fun k => decide (0 ≤ gd x 0 (k : Int))) = true := by
    rw [List.all_eq_true]
    intro k hk
    rw [hn] at hk
    simp at hk
    simpa using h k hk
  rw [this, hn]
  simp; omega
set_option maxRecDepth 100000 in
set_option maxHeartbeats 4000000 in
theorem impl_IsConnected_any (v : Value) (x : Gr) (w : World) (h : GrAt w w.heap.size v x) (hl : x.es.length ≤ 100000000) :
    Calls Tryd.prog 28 #[v] w fun e w' => e = .returned (.bool (conn x)) ∧ Ext w w' := by
  obtain ⟨A1, c1, rfl, h1⟩ := h
  have HG : Hid (∀ w', Ext w w' → GrAt w' w'.heap.size (.agg #[.int .i64 x.n, .slice A1 x.es.length c1]) x) := fun w' hx => ⟨A1, c1, rfl, h1.ext hx⟩
  clear h1
  have hB0 : Blk (w.alloc (.cells #[.int .i64 x.n, .slice A1 x.es.length c1] 26)) w.heap.size 26 #[.int .i64 x.n, .slice A1 x.es.length c1] := Blk.new _ _ _
  have hX0 : Ext w (w.alloc (.cells #[.int .i64 x.n, .slice A1 x.es.length c1] 26)) := by repeat (first | exact Ext.refl _ | assumption | refine Ext.alloc ?_ _ | refine Ext.drewN ?_ _ | refine Ext.drew ?_)
  have HB0 := Lib.hid hB0
  have HX0 := Lib.hid hX0
  clear hB0 hX0
  by_cases hlo : x.n < 1
  · have HF := Lib.hid (conn_lo hlo)
    have HN : Hid (x.n < 1 ∨ 4 < x.n) := .inl hlo
    go_enter Tryd.func28, Tryd.ntmps28
    go_wp2
    have hB0 := HB0.out
    have hX0 := HX0.out
    clear HB0 HX0
    generalize (w.alloc (.cells #[.int .i64 x.n, .slice A1 x.es.length c1] 26)) = Wb at *
    go_loop [3] (fun i => i = .int .i64 0) (fun _ => 0)
    case atStart => rfl
    case round =>
      obtain rfl := hrel
      have d0 : Wb.cell? ⟨w.heap.size, 0, none⟩ = some (.int .i64 x.n) := hB0.cell 0
      have hx4 : x.n ≤ 4 := by omega
      have hx0 : ¬ (0 : Int) < x.n := by omega
      go_wp2_with fail
      refine (in_no _ _ _ _ HN.out).mono ?_
      rintro e w1 ⟨rfl, rfl⟩
      go_wp2
      go_ret
      exact ⟨ret_bool HF.out.symm, hX0⟩
  by_cases hhi : 4 < x.n
  · have HF := Lib.hid (conn_hi hhi)
    have HGD := Lib.hid (gd_no (x := x) (a := 0) (b := 0) (by omega))
    go_enter Tryd.func28, Tryd.ntmps28
    go_wp2
    have hB0 := HB0.out
    have hX0 := HX0.out
    clear HB0 HX0
    generalize (w.alloc (.cells #[.int .i64 x.n, .slice A1 x.es.length c1] 26)) = Wb at *
    go_loop [3] (fun i => i = .int .i64 0) (fun _ => 0)
    case atStart => rfl
    case round =>
      obtain rfl := hrel
      have d0 : Wb.cell? ⟨w.heap.size, 0, none⟩ = some (.int .i64 x.n) := hB0.cell 0
      have d1 : Wb.cell? ⟨w.heap.size, 1, none⟩ = some (.slice A1 x.es.length c1) := hB0.cell 1
      have hx4 : ¬ x.n ≤ 4 := by omega
      have hx0 : 4 ≤ x.n := by omega
      go_wp2_with fail
      refine (impl_GraphDistance_any _ x 0 0 _ (HG.out _ hX0) hl).mono ?_
      rintro e w1 ⟨rfl, hy1⟩
      rw [HGD.out]
      go_wp2
      go_ret
      exact ⟨ret_bool HF.out.symm, hX0.trans hy1⟩
  obtain ⟨n, hn⟩ := Int.eq_ofNat_of_zero_le (by omega : 0 ≤ x.n)
  have hn1 : 1 ≤ n := by omega
  have hn4 : n ≤ 4 := by omega
  have HN := Lib.hid hn
  rw [hn] at HB0 HX0 HG ⊢
  clear hn hlo hhi
  go_enter Tryd.func28, Tryd.ntmps28
  go_wp2
  have hB0 := HB0.out
  have hX0 := HX0.out
  clear HB0 HX0
  generalize (w.alloc (.cells #[.int .i64 (n : Int), .slice A1 x.es.length c1] 26)) = Wb at *
  go_loopw [3] (fun i wr => ∃ k : Nat, k ≤ n ∧ i = .int .i64 k ∧ Hid (∀ j, j < k → 0 ≤ gd x 0 (j : Int)) ∧ Ext Wb wr) (fun i _ => n - (intOf i).toNat)
  case atStart => exact ⟨0, Nat.zero_le _, rfl, fun j hj => absurd hj (by omega), Ext.refl _⟩
  case round =>
    obtain ⟨k, hk, rfl, HQ, hx⟩ := hrel
    have hB := hB0.ext hx
    have d0 : wr.cell? ⟨w.heap.size, 0, none⟩ = some (.int .i64 (n : Int)) := hB.cell 0
    have d1 : wr.cell? ⟨w.heap.size, 1, none⟩ = some (.slice A1 x.es.length c1) := hB.cell 1
    by_cases hlt : k < n
    · go_wp2_with fail
      refine (impl_GraphDistance_any _ x 0 k _ (HG.out _ (hX0.trans hx)) hl).mono ?_
      rintro e w1 ⟨rfl, hy1⟩
      have hgr := gd_range x 0 (k : Int)
      by_cases hg : gd x 0 (k : Int) = -1
      · have HF := Lib.hid (conn_no HN.out hlt hg)
        rw [hg]
        clear hg hgr
        go_wp2
        go_ret
        exact ⟨ret_bool HF.out.symm, (hX0.trans hx).trans hy1⟩
      · have HQ2 : Hid (∀ j, j < k + 1 → 0 ≤ gd x 0 (j : Int)) := fun j hj => by
          by_cases e : j = k
          · subst e; omega
          · exact HQ.out j (by omega)
        have hgb : (gd x 0 (k : Int) == -1) = false := by rw [beq_eq_false_iff_ne]; exact hg
        clear hg hgr
        generalize gd x 0 (k : Int) = G at *
        go_wp2
        go_roundw
        case rel => exact ⟨k + 1, by omega, by go_num, HQ2, hx.trans hy1⟩
        case measure => simp [intOf]; omega
    · obtain rfl : k = n := by omega
      have HF := Lib.hid (conn_yes HN.out hn1 hn4 HQ.out)
      go_wp2_with fail
      refine (in_yes _ _ _ _ (by omega) (by omega)).mono ?_
      rintro e w1 ⟨rfl, rfl⟩
      go_wp2
      go_ret
      exact ⟨ret_bool HF.out.symm, hX0.trans hx⟩
set_option maxRecDepth 100000 in
set_option maxHeartbeats 4000000 in
theorem spec_IsConnected_any (v : Value) (x : Gr) (w : World) (h : GrAt w w.heap.size v x) (hl : x.es.length ≤ 100000000) :
    Calls Tryd.prog 23 #[v] w fun e w' => e = .returned (.bool (conn x)) ∧ Ext w w' := by
  obtain ⟨A1, c1, rfl, h1⟩ := h
  have HG : Hid (∀ w', Ext w w' → GrAt w' w'.heap.size (.agg #[.int .i64 x.n, .slice A1 x.es.length c1]) x) := fun w' hx => ⟨A1, c1, rfl, h1.ext hx⟩
  clear h1
  have hB0 : Blk (w.alloc (.cells #[.int .i64 x.n, .slice A1 x.es.length c1] 26)) w.heap.size 26 #[.int .i64 x.n, .slice A1 x.es.length c1] := Blk.new _ _ _
  have hX0 : Ext w (w.alloc (.cells #[.int .i64 x.n, .slice A1 x.es.length c1] 26)) := by repeat (first | exact Ext.refl _ | assumption | refine Ext.alloc ?_ _ | refine Ext.drewN ?_ _ | refine Ext.drew ?_)
  have HB0 := Lib.hid hB0
  have HX0 := Lib.hid hX0
  clear hB0 hX0
  by_cases hlo : x.n < 1
  · have HF := Lib.hid (conn_lo hlo)
    have HN : Hid (x.n < 1 ∨ 4 < x.n) := .inl hlo
    go_enter Tryd.func23, Tryd.ntmps23
    go_wp2
    have hB0 := HB0.out
    have hX0 := HX0.out
    clear HB0 HX0
    generalize (w.alloc (.cells #[.int .i64 x.n, .slice A1 x.es.length c1] 26)) = Wb at *
    go_loop [3] (fun i => i = .int .i64 0) (fun _ => 0)
    case atStart => rfl
    case round =>
      obtain rfl := hrel
      have d0 : Wb.cell? ⟨w.heap.size, 0, none⟩ = some (.int .i64 x.n) := hB0.cell 0
      have hx4 : x.n ≤ 4 := by omega
      have hx0 : ¬ (0 : Int) < x.n := by omega
      go_wp2_with fail
      refine (l1In_no _ _ _ _ HN.out).mono ?_
      rintro e w1 ⟨rfl, rfl⟩
      go_wp2
      go_ret
      exact ⟨ret_bool HF.out.symm, hX0⟩
  by_cases hhi : 4 < x.n
  · have HF := Lib.hid (conn_hi hhi)
    have HGD := Lib.hid (gd_no (x := x) (a := 0) (b := 0) (by omega))
    go_enter Tryd.func23, Tryd.ntmps23
    go_wp2
    have hB0 := HB0.out
    have hX0 := HX0.out
    clear HB0 HX0
    generalize (w.alloc (.cells #[.int .i64 x.n, .slice A1 x.es.length c1] 26)) = Wb at *
    go_loop [3] (fun i => i = .int .i64 0) (fun _ => 0)
    case atStart => rfl
    case round =>
      obtain rfl := hrel
      have d0 : Wb.cell? ⟨w.heap.size, 0, none⟩ = some (.int .i64 x.n) := hB0.cell 0
      have d1 : Wb.cell? ⟨w.heap.size, 1, none⟩ = some (.slice A1 x.es.length c1) := hB0.cell 1
      have hx4 : ¬ x.n ≤ 4 := by omega
      have hx0 : 4 ≤ x.n := by omega
      go_wp2_with fail
      refine (spec_GraphDistance_any _ x 0 0 _ (HG.out _ hX0) hl).mono ?_
      rintro e w1 ⟨rfl, hy1⟩
      rw [HGD.out]
      go_wp2
      go_ret
      exact ⟨ret_bool HF.out.symm, hX0.trans hy1⟩
  obtain ⟨n, hn⟩ := Int.eq_ofNat_of_zero_le (by omega : 0 ≤ x.n)
  have hn1 : 1 ≤ n := by omega
  have hn4 : n ≤ 4 := by omega
  have HN := Lib.hid hn
  rw [hn] at HB0 HX0 HG ⊢
  clear hn hlo hhi
  go_enter Tryd.func23, Tryd.ntmps23
  go_wp2
  have hB0 := HB0.out
  have hX0 := HX0.out
  clear HB0 HX0
  generalize (w.alloc (.cells #[.int .i64 (n : Int), .slice A1 x.es.length c1] 26)) = Wb at *
  go_loopw [3] (fun i wr => ∃ k : Nat, k ≤ n ∧ i = .int .i64 k ∧ Hid (∀ j, j < k → 0 ≤ gd x 0 (j : Int)) ∧ Ext Wb wr) (fun i _ => n - (intOf i).toNat)
  case atStart => exact ⟨0, Nat.zero_le _, rfl, fun j hj => absurd hj (by omega), Ext.refl _⟩
  case round =>
    obtain ⟨k, hk, rfl, HQ, hx⟩ := hrel
    have hB := hB0.ext hx
    have d0 : wr.cell? ⟨w.heap.size, 0, none⟩ = some (.int .i64 (n : Int)) := hB.cell 0
    have d1 : wr.cell? ⟨w.heap.size, 1, none⟩ = some (.slice A1 x.es.length c1) := hB.cell 1
    by_cases hlt : k < n
    · go_wp2_with fail
      refine (spec_GraphDistance_any _ x 0 k _ (HG.out _ (hX0.trans hx)) hl).mono ?_
      rintro e w1 ⟨rfl, hy1⟩
      have hgr := gd_range x 0 (k : Int)
      by_cases hg : gd x 0 (k : Int) = -1
      · have HF := Lib.hid (conn_no HN.out hlt hg)
        rw [hg]
        clear hg hgr
        go_wp2
        go_ret
        exact ⟨ret_bool HF.out.symm, (hX0.trans hx).trans hy1⟩
      · have HQ2 : Hid (∀ j, j < k + 1 → 0 ≤ gd x 0 (j : Int)) := fun j hj => by
          by_cases e : j = k
          · subst e; omega
          · exact HQ.out j (by omega)
        have hgb : ¬ gd x 0 (k : Int) < 0 := by omega
        clear hg hgr
        generalize gd x 0 (k : Int) = G at *
        go_wp2
        go_roundw
        case rel => exact ⟨k + 1, by omega, by go_num, HQ2, hx.trans hy1⟩
        case measure => simp [intOf]; omega
    · obtain rfl : k = n := by omega
      have HF := Lib.hid (conn_yes HN.out hn1 hn4 HQ.out)
      go_wp2_with fail
      refine (l1In_yes _ _ _ _ (by omega) (by omega)).mono ?_
      rintro e w1 ⟨rfl, rfl⟩
      go_wp2
      go_ret
      exact ⟨ret_bool HF.out.symm, hX0.trans hx⟩
/-! ### Valid graphs -/
def okE1 (m : Int) (es : List Ed) (i : Nat) (e : Ed) : Bool := !(e.a == e.b) && decide (0 ≤ e.a) && decide (e.a ≤ m) && decide (0 ≤ e.b) && decide (e.b ≤ m) && !((es.take i).any fun y => eqE y e)
def vgrE (m : Int) (es : List Ed) : Bool := (List.range es.length).all fun i => match es[i]? with
  | some e => okE1 m es i e
  | none => true
/-- Is the graph valid? -/
def vgraph (x : Gr) : Bool := vgrE (wrap64 (x.n - 1)) x.es && conn x
theorem vgr_no {x : Gr} {m : Int} (hm : m = wrap64 (x.n - 1)) {k : Nat} {e : Ed} (h : x.es[k]? = some e) (ho : okE1 m x.es k e = false) : vgraph x = false := by
  subst hm
  have : vgrE (wrap64 (x.n - 1)) x.es = false := by
    unfold vgrE
    rw [List.all_eq_false]
    exact ⟨k, by simpa using (List.getElem?_eq_some_iff.1 h).1, by rw [h]; simp [ho]⟩
  unfold vgraph
  rw [this, Bool.false_and]
theorem vgr_yes {x : Gr} {m : Int} (hm : m = wrap64 (x.n - 1)) (h : ∀ i e, x.es[i]? = some e → okE1 m x.es i e = true) : vgraph x = conn x := by
  subst hm
  have : vgrE (wrap64 (x.n - 1)) x.es = true := by
    unfold vgrE
    rw [List.all_eq_true]
    intro i _
    split
    · rename_i e he
      exact h i e he
    · rfl
  unfold vgraph
  rw [this, Bool.true_and]
theorem okE1_same {m : Int} {es : List Ed} {i : Nat} {e : Ed} (h : (e.a == e.b) = true) : okE1 m es i e = false := by unfold okE1; rw [h]; simp
theorem okE1_a {m : Int} {es : List Ed} {i : Nat} {e : Ed} (h : e.a < 0 ∨ m < e.a) : okE1 m es i e = false := by
  unfold okE1
  rcases h with h | h
  · rw [show decide (0 ≤ e.a) = false from by simpa using h]; simp
  · rw [show decide (e.a ≤ m) = false from by simpa using h]; simp
theorem okE1_b {m : Int} {es : List Ed} {i : Nat} {e : Ed} (h : e.b < 0 ∨ m < e.b) : okE1 m es i e = false := by
  unfold okE1
  rcases h with h | h
  · rw [show decide (0 ≤ e.b) = false from by simpa using h]; simp
  · rw [show decide (e.b ≤ m) = false from by simpa using h]; simp
def metE (es : List Ed) (i : Nat) (e : Ed) : Bool := (es.take i).any fun y => eqE y e
theorem okE1_met {m : Int} {es : List Ed} {i : Nat} {e : Ed} (h : metE es i e = true) : okE1 m es i e = false := by unfold okE1; rw [show ((es.take i).any fun y => eqE y e) = true from h]; simp
theorem okE1_yes {m : Int} {es : List Ed} {i : Nat} {e : Ed} (h : (e.a == e.b) = false) (h1 : 0 ≤ e.a) (h2 : e.a ≤ m) (h3 : 0 ≤ e.b) (h4 : e.b ≤ m) (h5 : metE es i e = false) : okE1 m es i e = true := by
  unfold okE1
  rw [show ((es.take i).any fun y => eqE y e) = false from h5, h]
  simp [h1, h2, h3, h4]
theorem eqE_comm (x y : Ed) : eqE x y = eqE y x := by
  unfold eqE
  rw [Bool.eq_iff_iff]
  simp
  omega
theorem metE_snoc {es : List Ed} {i : Nat} {e : Ed} (h : es[i]? = some e) : metE es (i + 1) = fun z => eqE z e || metE es i z := by
  funext z
  unfold metE
  rw [take_snoc h, List.any_append, Bool.or_comm]
  simp [eqE_comm]
set_option maxRecDepth 100000 in
set_option maxHeartbeats 4000000 in
theorem impl_IsValidGraph_any (v : Value) (x : Gr) (w : World) (h : GrAt w w.heap.size v x) (hl : x.es.length ≤ 100000000) (hok : ∀ e ∈ x.es, e.ok) :
    Calls Tryd.prog 14 #[v] w fun e w' => e = .returned (.bool (vgraph x)) ∧ Ext w w' := by
  obtain ⟨A1, c1, rfl, h1⟩ := h
  have HG : Hid (∀ w', Ext w w' → GrAt w' w'.heap.size (.agg #[.int .i64 x.n, .slice A1 x.es.length c1]) x) := fun w' hx => ⟨A1, c1, rfl, h1.ext hx⟩
  have HOK := Lib.hid hok
  clear hok
  obtain ⟨L, hL⟩ : ∃ L, L = x.es.length := ⟨_, rfl⟩
  have HL := Lib.hid hL
  rw [← hL] at h1 HG hl ⊢
  clear hL
  have hB0 : Blk ((w.alloc (.cells #[.int .i64 x.n, .slice A1 L c1] 26)).alloc (.map #[] 0)) w.heap.size 26 #[.int .i64 x.n, .slice A1 L c1] := (Blk.new _ _ _).alloc _
  have hX0 : Ext w ((w.alloc (.cells #[.int .i64 x.n, .slice A1 L c1] 26)).alloc (.map #[] 0)) := by repeat (first | exact Ext.refl _ | assumption | refine Ext.alloc ?_ _ | refine Ext.drewN ?_ _ | refine Ext.drew ?_)
  have hS0 : SeenE ((w.alloc (.cells #[.int .i64 x.n, .slice A1 L c1] 26)).alloc (.map #[] 0)) (w.heap.size + 1) 0 (metE x.es 0) := by
    have h := SeenE.made (w.alloc (.cells #[.int .i64 x.n, .slice A1 L c1] 26))
    have e0 : metE x.es 0 = fun _ => false := by funext z; simp [metE]
    rw [e0]
    simpa using h
  have HB0 := Lib.hid hB0
  have HX0 := Lib.hid hX0
  have HS0 := Lib.hid hS0
  clear hB0 hX0 hS0
  have hmm := @run_makeMap Tryd.prog
  obtain ⟨m, hm⟩ : ∃ m, m = wrap64 (x.n - 1) := ⟨_, rfl⟩
  have HM := Lib.hid hm
  clear hm
  go_enter Tryd.func14, Tryd.ntmps14
  go_wp2
  clear hmm
  have hB0 := HB0.out
  have hX0 := HX0.out
  have hS0 := HS0.out
  clear HB0 HX0 HS0
  generalize ((w.alloc (.cells #[.int .i64 x.n, .slice A1 L c1] 26)).alloc (.map #[] 0)) = W0 at *
  go_loopw [10] (fun i wr => ∃ k : Nat, k ≤ L ∧ i = .int .i64 k ∧ Hid (∀ i e, i < k → x.es[i]? = some e → okE1 m x.es i e = true) ∧ SeenE wr (w.heap.size + 1) k (metE x.es k) ∧ Blk wr w.heap.size 26 #[.int .i64 x.n, .slice A1 L c1] ∧ Ext w wr) (fun i _ => L - (intOf i).toNat)
  case atStart => exact ⟨0, Nat.zero_le _, rfl, fun i e h => absurd h (by omega), hS0, hB0, hX0⟩
  case round =>
    clear hS0 hB0 hX0
    obtain ⟨k, hk, rfl, HQ, hS, hB, hx⟩ := hrel
    have d0 : wr.cell? ⟨w.heap.size, 0, none⟩ = some (.int .i64 x.n) := hB.cell 0
    have d1 : wr.cell? ⟨w.heap.size, 1, none⟩ = some (.slice A1 L c1) := hB.cell 1
    by_cases hlt : k < L
    · obtain ⟨b, o, e, rfl, hb, he, r0, r1⟩ := edge_at (h1.ext hx) hlt
      have HE := Lib.hid he
      have hok : e.ok := HOK.out e (List.mem_of_getElem? he)
      clear he
      have hblt := hB.lt
      cases hab : (e.a == e.b)
      · by_cases ha : e.a < 0 ∨ m < e.a
        · have HF := Lib.hid (vgr_no HM.out HE.out (okE1_a ha))
          have HA : Hid (e.a < 0 ∨ wrap64 (x.n - 1) < e.a) := by rw [← HM.out]; exact ha
          clear ha
          go_wp2_with fail
          refine (in_no _ _ _ _ HA.out).mono ?_
          rintro e1 w1 ⟨rfl, rfl⟩
          go_wp2
          go_ret
          exact ⟨ret_bool HF.out.symm, hx.alloc _⟩
        · have ha1 : 0 ≤ e.a := by omega
          have ha2 : e.a ≤ m := by omega
          have HA2 : Hid (e.a ≤ wrap64 (x.n - 1)) := by rw [← HM.out]; exact ha2
          clear ha
          by_cases hb' : e.b < 0 ∨ m < e.b
          · have HF := Lib.hid (vgr_no HM.out HE.out (okE1_b hb'))
            have HA : Hid (e.b < 0 ∨ wrap64 (x.n - 1) < e.b) := by rw [← HM.out]; exact hb'
            clear hb'
            go_wp2_with fail
            refine (in_yes _ _ _ _ ha1 HA2.out).mono ?_
            rintro e1 w1 ⟨rfl, rfl⟩
            go_wp2_with fail
            refine (in_no _ _ _ _ HA.out).mono ?_
            rintro e1 w1 ⟨rfl, rfl⟩
            go_wp2
            go_ret
            exact ⟨ret_bool HF.out.symm, hx.alloc _⟩
          · have hb1 : 0 ≤ e.b := by omega
            have hb2 : e.b ≤ m := by omega
            have HB2 : Hid (e.b ≤ wrap64 (x.n - 1)) := by rw [← HM.out]; exact hb2
            clear hb'
            have hS2 : SeenE (wr.alloc (.cells #[.int .i64 e.a, .int .i64 e.b] 38)) (w.heap.size + 1) k (metE x.es k) := by
              obtain ⟨D, q1, q2, q3⟩ := hS
              exact ⟨D, q1.alloc _, q2, q3⟩
            have hlk := hS2.look hok
            cases hs : metE x.es k e
            · rw [hs] at hlk
              have HY := Lib.hid (okE1_yes (m := m) hab ha1 ha2 hb1 hb2 hs)
              have HSN := Lib.hid (metE_snoc HE.out)
              have hB2 := hB.alloc (.cells #[.int .i64 e.a, .int .i64 e.b] 38)
              have hx2 := hx.alloc (.cells #[.int .i64 e.a, .int .i64 e.b] 38)
              clear hs
              go_wp2_with fail
              refine (in_yes _ _ _ _ ha1 HA2.out).mono ?_
              rintro e1 w1 ⟨rfl, rfl⟩
              go_wp2_with fail
              refine (in_yes _ _ _ _ hb1 HB2.out).mono ?_
              rintro e1 w1 ⟨rfl, rfl⟩
              go_wp2_with (at_mapUpdate; refine wpList_putE rfl _ _ _ rfl hS2 rfl (by omega) (y := e) rfl rfl hok ?_; intro w2 hS3 hg2)
              go_roundw
              case rel =>
                refine ⟨k + 1, by omega, by go_num, fun i e' hi he' => ?_, by rw [HSN.out]; exact hS3, hB2.grown hg2 (fun z hz => by injection hz; omega), hx2.grown hg2 (fun z hz => by injection hz; omega)⟩
                by_cases hik : i = k
                · subst hik
                  have := HE.out
                  rw [he'] at this
                  injection this with this
                  rw [this]
                  exact HY.out
                · exact HQ.out i e' (by omega) he'
              case measure => simp [intOf]; omega
            · rw [hs] at hlk
              have HF := Lib.hid (vgr_no HM.out HE.out (okE1_met hs))
              clear hs
              go_wp2_with fail
              refine (in_yes _ _ _ _ ha1 HA2.out).mono ?_
              rintro e1 w1 ⟨rfl, rfl⟩
              go_wp2_with fail
              refine (in_yes _ _ _ _ hb1 HB2.out).mono ?_
              rintro e1 w1 ⟨rfl, rfl⟩
              go_wp2
              go_ret
              exact ⟨ret_bool HF.out.symm, hx.alloc _⟩
      · have HF := Lib.hid (vgr_no HM.out HE.out (okE1_same hab))
        go_wp2
        go_ret
        exact ⟨ret_bool HF.out.symm, hx.alloc _⟩
    · obtain rfl : k = L := by omega
      have HF := Lib.hid (vgr_yes HM.out (fun i e h => HQ.out i e (by rw [HL.out]; exact (List.getElem?_eq_some_iff.1 h).1) h))
      go_wp2_with fail
      refine (impl_IsConnected_any _ x _ (HG.out _ hx) (by rw [← HL.out]; exact hl)).mono ?_
      rintro e1 w1 ⟨rfl, hy1⟩
      go_wp2
      go_ret
      exact ⟨ret_bool HF.out.symm, hx.trans hy1⟩
theorem metE_yes {es : List Ed} {i j : Nat} {y e : Ed} (h : es[j]? = some y) (hj : j < i) (hq : eqE y e = true) : metE es i e = true := by
  unfold metE
  rw [List.any_eq_true]
  exact ⟨y, List.mem_of_getElem? (by rw [List.getElem?_take_of_lt hj]; exact h), hq⟩
theorem metE_no {es : List Ed} {j : Nat} {y e : Ed} (h : es[j]? = some y) (h0 : metE es j e = false) (hq : eqE y e = false) : metE es (j + 1) e = false := by
  rw [metE_snoc h]
  show (eqE e y || metE es j e) = false
  rw [h0, eqE_comm, hq]; rfl
set_option maxRecDepth 100000 in
set_option maxHeartbeats 4000000 in
theorem spec_IsValidGraph_any (v : Value) (x : Gr) (w : World) (h : GrAt w w.heap.size v x) (hl : x.es.length ≤ 100000000) :
    Calls Tryd.prog 11 #[v] w fun e w' => e = .returned (.bool (vgraph x)) ∧ Ext w w' := by
  obtain ⟨A1, c1, rfl, h1⟩ := h
  have HG : Hid (∀ w', Ext w w' → GrAt w' w'.heap.size (.agg #[.int .i64 x.n, .slice A1 x.es.length c1]) x) := fun w' hx => ⟨A1, c1, rfl, h1.ext hx⟩
  obtain ⟨L, hL⟩ : ∃ L, L = x.es.length := ⟨_, rfl⟩
  have HL := Lib.hid hL
  rw [← hL] at h1 HG hl ⊢
  clear hL
  have hB0 : Blk (w.alloc (.cells #[.int .i64 x.n, .slice A1 L c1] 26)) w.heap.size 26 #[.int .i64 x.n, .slice A1 L c1] := Blk.new _ _ _
  have hX0 : Ext w (w.alloc (.cells #[.int .i64 x.n, .slice A1 L c1] 26)) := by repeat (first | exact Ext.refl _ | assumption | refine Ext.alloc ?_ _ | refine Ext.drewN ?_ _ | refine Ext.drew ?_)
  have HB0 := Lib.hid hB0
  have HX0 := Lib.hid hX0
  clear hB0 hX0
  obtain ⟨m, hm⟩ : ∃ m, m = wrap64 (x.n - 1) := ⟨_, rfl⟩
  have HM := Lib.hid hm
  clear hm
  go_enter Tryd.func11, Tryd.ntmps11
  go_wp2
  have hB0 := HB0.out
  have hX0 := HX0.out
  clear HB0 HX0
  generalize (w.alloc (.cells #[.int .i64 x.n, .slice A1 L c1] 26)) = W0 at *
  go_loopw [3] (fun i wr => ∃ k : Nat, k ≤ L ∧ i = .int .i64 k ∧ Hid (∀ i e, i < k → x.es[i]? = some e → okE1 m x.es i e = true) ∧ Blk wr w.heap.size 26 #[.int .i64 x.n, .slice A1 L c1] ∧ Ext w wr) (fun i _ => L - (intOf i).toNat)
  case atStart => exact ⟨0, Nat.zero_le _, rfl, fun i e h => absurd h (by omega), hB0, hX0⟩
  case round =>
    clear hB0 hX0
    obtain ⟨k, hk, rfl, HQ, hB, hx⟩ := hrel
    have d0 : wr.cell? ⟨w.heap.size, 0, none⟩ = some (.int .i64 x.n) := hB.cell 0
    have d1 : wr.cell? ⟨w.heap.size, 1, none⟩ = some (.slice A1 L c1) := hB.cell 1
    by_cases hlt : k < L
    · obtain ⟨b, o, e, rfl, hb, he, r0, r1⟩ := edge_at (h1.ext hx) hlt
      have HE := Lib.hid he
      clear he
      have hblt := hB.lt
      by_cases ha : e.a < 0 ∨ m < e.a
      · have HF := Lib.hid (vgr_no HM.out HE.out (okE1_a ha))
        have HA : Hid (e.a < 0 ∨ wrap64 (x.n - 1) < e.a) := by rw [← HM.out]; exact ha
        clear ha
        go_wp2_with fail
        refine (l1In_no _ _ _ _ HA.out).mono ?_
        rintro e1 w1 ⟨rfl, rfl⟩
        go_wp2
        go_ret
        exact ⟨ret_bool HF.out.symm, hx.alloc _⟩
      have ha1 : 0 ≤ e.a := by omega
      have ha2 : e.a ≤ m := by omega
      have HA2 : Hid (e.a ≤ wrap64 (x.n - 1)) := by rw [← HM.out]; exact ha2
      clear ha
      go_wp2_with fail
      refine (l1In_yes _ _ _ _ ha1 HA2.out).mono ?_
      rintro e1 w1 ⟨rfl, rfl⟩
      by_cases hb' : e.b < 0 ∨ m < e.b
      · have HF := Lib.hid (vgr_no HM.out HE.out (okE1_b hb'))
        have HA : Hid (e.b < 0 ∨ wrap64 (x.n - 1) < e.b) := by rw [← HM.out]; exact hb'
        clear hb'
        go_wp2_with fail
        refine (l1In_no _ _ _ _ HA.out).mono ?_
        rintro e1 w1 ⟨rfl, rfl⟩
        go_wp2
        go_ret
        exact ⟨ret_bool HF.out.symm, hx.alloc _⟩
      have hb1 : 0 ≤ e.b := by omega
      have hb2 : e.b ≤ m := by omega
      have HB2 : Hid (e.b ≤ wrap64 (x.n - 1)) := by rw [← HM.out]; exact hb2
      clear hb'
      go_wp2_with fail
      refine (l1In_yes _ _ _ _ hb1 HB2.out).mono ?_
      rintro e1 w1 ⟨rfl, rfl⟩
      cases hab : (e.a == e.b)
      case true =>
        have HF := Lib.hid (vgr_no HM.out HE.out (okE1_same hab))
        go_wp2
        go_ret
        exact ⟨ret_bool HF.out.symm, hx.alloc _⟩
      go_wp2
      have hBe : Blk (wr.alloc (.cells #[.int .i64 e.a, .int .i64 e.b] 38)) wr.heap.size 38 #[.int .i64 e.a, .int .i64 e.b] := Blk.new _ _ _
      have hB2 := hB.alloc (.cells #[.int .i64 e.a, .int .i64 e.b] 38)
      have hx2 := hx.alloc (.cells #[.int .i64 e.a, .int .i64 e.b] 38)
      clear r0 r1 d0 d1 hB hx
      generalize hs : wr.heap.size = s at *
      generalize (wr.alloc (.cells #[.int .i64 e.a, .int .i64 e.b] 38)) = We at *
      clear hs
      have hr2 := h1.ext hx2
      have d1 : We.cell? ⟨w.heap.size, 1, none⟩ = some (.slice (some ⟨b, o, none⟩) L c1) := hB2.cell 1
      have e0 : We.cell? ⟨s, 0, none⟩ = some (.int .i64 e.a) := hBe.cell 0
      have e1 : We.cell? ⟨s, 1, none⟩ = some (.int .i64 e.b) := hBe.cell 1
      go_loopw [5] (fun i wr => ∃ j : Nat, j ≤ k ∧ i = .int .i64 j ∧ Hid (metE x.es j e = false) ∧ ∃ q, wr = We.drewN q) (fun i _ => k - (intOf i).toNat)
      case atStart => exact ⟨0, Nat.zero_le _, rfl, by simp [Hid, metE], 0, rfl⟩
      case round =>
        obtain ⟨j, hj, rfl, HJ, q, rfl⟩ := hrel
        by_cases hlj : j < k
        · obtain ⟨b', o', y, eA, hb', hy, s0, s1⟩ := edge_at hr2 (by omega : j < L)
          injection eA with eA
          injection eA with eA1 eA2
          subst eA1 eA2
          have HY := Lib.hid hy
          clear hy
          have hj0 : (0 : Int) ≤ (j : Int) := by omega
          have hjL : (j : Int) < (L : Int) := by omega
          have HEG := Tryd.eqgEdge
          cases hq : eqE y e
          · have HN2 := Lib.hid (metE_no HY.out HJ.out hq)
            have HN := (show ∀ w, (Op.equalIn 10000 38 y.val e.val).run Tryd.prog w = .ok false w from fun w => by rw [eqIn_edge, hq])
            go_wp2
            go_quiet (fail)
            go_wp2
            go_roundw
            case rel => exact ⟨j + 1, by omega, by go_num, HN2, _, rfl⟩
            case measure => simp [intOf]; omega
          · have HF := Lib.hid (vgr_no HM.out HE.out (okE1_met (metE_yes HY.out hlj hq)))
            have HN := (show ∀ w, (Op.equalIn 10000 38 y.val e.val).run Tryd.prog w = .ok true w from fun w => by rw [eqIn_edge, hq])
            go_wp2
            go_quiet (fail)
            go_wp2
            go_ret
            exact ⟨ret_bool HF.out.symm, (by repeat (first | exact Ext.refl _ | assumption | refine Ext.alloc ?_ _ | refine Ext.drewN ?_ _ | refine Ext.drew ?_))⟩
        · obtain rfl : j = k := by omega
          have HY := Lib.hid (okE1_yes (m := m) (es := x.es) (i := j) hab ha1 ha2 hb1 hb2 HJ.out)
          go_wp2
          go_roundw
          case rel =>
            refine ⟨j + 1, by omega, by go_num, fun i e' hi he' => ?_, hB2.ext ((Ext.refl We).drewN q), hx2.drewN q⟩
            by_cases hik : i = j
            · subst hik
              have := HE.out
              rw [he'] at this
              injection this with this
              rw [this]
              exact HY.out
            · exact HQ.out i e' (by omega) he'
          case measure => simp [intOf]; omega
    · obtain rfl : k = L := by omega
      have HF := Lib.hid (vgr_yes HM.out (fun i e h => HQ.out i e (by rw [HL.out]; exact (List.getElem?_eq_some_iff.1 h).1) h))
      go_wp2_with fail
      refine (spec_IsConnected_any _ x _ (HG.out _ hx) (by rw [← HL.out]; exact hl)).mono ?_
      rintro e1 w1 ⟨rfl, hy1⟩
      go_wp2
      go_ret
      exact ⟨ret_bool HF.out.symm, hx.trans hy1⟩
end Go.Proofs.YteecjnnompjmiabDoor
