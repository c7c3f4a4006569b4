/-
  Helper text (no claim of its own): the distance in a graph, by the program and by the reference.
-/
import Derived.Test.YteecjnnompjmiabDoorDist
import Derived.Test.YteecjnnompjmiabDoorOrs
namespace Go.Proofs.YteecjnnompjmiabDoor
open Go.ChangeShapes Go.WideShapes Go.ChangeAt Go.RowKit Go.Deep
set_option maxRecDepth 100000 in
set_option maxHeartbeats 1000000 in
theorem impl_AreCoupled_any (v : Value) (x : Gr) (a b : Int) (w : World) (h : GrAt w w.heap.size v x) (hn : x.es.length ≤ 100000000) :
    Calls Tryd.prog 46 #[v, .int .i64 a, .int .i64 b] w fun e w' => e = .returned (.bool (cpl x.es a b)) ∧ Ext w w' := by
  obtain ⟨A1, c1, rfl, h1⟩ := h
  have hG : GrAt w w.heap.size (.agg #[.int .i64 x.n, .slice A1 x.es.length c1]) x := ⟨A1, c1, rfl, h1⟩
  clear h1
  go_enter Tryd.func46, Tryd.ntmps46
  go_wp2_with fail
  refine (impl_HasEdge_any _ x a b _ ((hG.up (by repeat (first | exact Ext.refl _ | assumption | refine Ext.alloc ?_ _ | refine Ext.drewN ?_ _ | refine Ext.drew ?_)) (Nat.le_refl _)).more (by simp)) hn).mono ?_
  rintro e w1 ⟨rfl, hx1⟩
  have hB : Blk w1 w.heap.size 26 #[.int .i64 x.n, .slice A1 x.es.length c1] := (Blk.new w _ _).ext hx1
  have hx : Ext w w1 := Ext.trans (by repeat (first | exact Ext.refl _ | assumption | refine Ext.alloc ?_ _ | refine Ext.drewN ?_ _ | refine Ext.drew ?_)) hx1
  have b0 : w1.cell? ⟨w.heap.size, 0, none⟩ = some (.int .i64 x.n) := hB.cell 0
  have b1 : w1.cell? ⟨w.heap.size, 1, none⟩ = some (.slice A1 x.es.length c1) := hB.cell 1
  clear hx1
  cases h1 : hasE x.es a b
  · have HC : Hid (cpl x.es a b = hasE x.es b a) := by unfold Hid cpl; rw [h1, Bool.false_or]
    go_wp2_with fail
    refine (impl_HasEdge_any _ x b a _ ((hG.up hx (Nat.le_refl _)).more hx.size) hn).mono ?_
    rintro e w2 ⟨rfl, hx2⟩
    go_wp2
    go_ret
    exact ⟨ret_bool HC.out.symm, hx.trans hx2⟩
  · have HC : Hid (cpl x.es a b = true) := by unfold Hid cpl; rw [h1, Bool.true_or]
    go_wp2
    go_ret
    exact ⟨ret_bool HC.out.symm, hx⟩
def farRow (R : Nat → Int) : Array Value := #[.int .i64 (R 0), .int .i64 (R 1), .int .i64 (R 2), .int .i64 (R 3)]
theorem farRow_at (R : Nat → Int) {j : Nat} (hj : j < 4) : (farRow R)[j]? = some (.int .i64 (R j)) := by
  rcases (by omega : j = 0 ∨ j = 1 ∨ j = 2 ∨ j = 3) with rfl | rfl | rfl | rfl <;> rfl
theorem farRow_set {R R' : Nat → Int} {j : Nat} {v : Int} (hj : j < 4) (h : ∀ z, R' z = if z = j then v else R z) : (farRow R).setIfInBounds j (.int .i64 v) = farRow R' := by
  unfold farRow
  rcases (by omega : j = 0 ∨ j = 1 ∨ j = 2 ∨ j = 3) with rfl | rfl | rfl | rfl <;> simp [h]
/-- What holds in the program's loops: the row of numbers, the graph's box, old memory. -/
def GdI (w wr : World) (n : Nat) (es : List Ed) (A1 : Option Addr) (c1 : Nat) (R : Nat → Int) : Prop :=
  Blk wr (w.heap.size + 1) 3 (farRow R) ∧ Blk wr w.heap.size 26 #[.int .i64 (n : Int), .slice A1 es.length c1] ∧ Ext w wr
theorem pCell_no {adj : Int → Int → Bool} {s x y : Nat} {R : Nat → Int} (h : ¬ (R x = (s : Int) ∧ R y < 0 ∧ adj (x : Int) (y : Int) = true)) : Dist.pCell adj s x y R = R := by
  funext z
  unfold Dist.pCell
  rw [if_neg (fun h' => h h'.2)]
set_option maxRecDepth 100000 in
set_option maxHeartbeats 8000000 in
theorem impl_gd (n a b : Nat) (es : List Ed) (A1 : Option Addr) (c1 : Nat) (w : World) (h1 : 1 ≤ n) (h4 : n ≤ 4) (ha : a < n) (hb : b < n) (h : Rd w w.heap.size 2 A1 es.length (ecells es)) (hl : es.length ≤ 100000000) :
    Calls Tryd.prog 39 #[.agg #[.int .i64 (n : Int), .slice A1 es.length c1], .int .i64 (a : Int), .int .i64 (b : Int)] w fun e w' => e = .returned (.int .i64 (Dist.gdist (cpl es) n a b)) ∧ Ext w w' := by
  have HG : Hid (∀ w', Ext w w' → GrAt w' w'.heap.size (.agg #[.int .i64 (n : Int), .slice A1 es.length c1]) ⟨n, es⟩) := fun w' hx => ⟨A1, c1, rfl, h.ext hx⟩
  have HD := Lib.hid (Dist.pS_dist (adj := cpl es) ha hb)
  have HR := Lib.hid (fun (s : Nat) (hs : s ≤ 4) (z : Nat) => Dist.pS_range (cpl es) n a s hs z)
  clear h
  go_enter Tryd.func39, Tryd.ntmps39
  go_wp2_with fail
  refine (in_yes _ _ _ _ (by omega) (by omega)).mono ?_
  rintro e w1 ⟨rfl, rfl⟩
  go_wp2_with fail
  refine (in_yes _ _ _ _ (by omega) (by omega)).mono ?_
  rintro e w1 ⟨rfl, rfl⟩
  go_wp2_with fail
  refine (in_yes _ _ _ _ (by omega) (by omega)).mono ?_
  rintro e w1 ⟨rfl, rfl⟩
  have ha4 : (a : Int) < 4 := by omega
  have ha0 : (0 : Int) ≤ (a : Int) := by omega
  go_upto_region 4 with (fail)
  have hb1 : Blk ((w.alloc (.cells #[.int .i64 (n : Int), .slice A1 es.length c1] 26)).alloc (.cells #[.int .i64 (-1), .int .i64 (-1), .int .i64 (-1), .int .i64 (-1)] 3)) (w.heap.size + 1) 3 (farRow fun _ => -1) := Blk.newAt (by simp)
  have hb0 : Blk ((w.alloc (.cells #[.int .i64 (n : Int), .slice A1 es.length c1] 26)).alloc (.cells #[.int .i64 (-1), .int .i64 (-1), .int .i64 (-1), .int .i64 (-1)] 3)) w.heap.size 26 #[.int .i64 (n : Int), .slice A1 es.length c1] := (Blk.new _ _ _).alloc _
  have hx0 : Ext w ((w.alloc (.cells #[.int .i64 (n : Int), .slice A1 es.length c1] 26)).alloc (.cells #[.int .i64 (-1), .int .i64 (-1), .int .i64 (-1), .int .i64 (-1)] 3)) := by repeat (first | exact Ext.refl _ | assumption | refine Ext.alloc ?_ _ | refine Ext.drewN ?_ _ | refine Ext.drew ?_)
  generalize ((w.alloc (.cells #[.int .i64 (n : Int), .slice A1 es.length c1] 26)).alloc (.cells #[.int .i64 (-1), .int .i64 (-1), .int .i64 (-1), .int .i64 (-1)] 3)) = W0 at *
  have ca : W0.cell? ⟨w.heap.size + 1, a, none⟩ = some (.int .i64 (-1)) := (hb1.cell a).trans (farRow_at _ (by omega))
  have fa : W0.frozen? ⟨w.heap.size + 1, a, none⟩ = false := hb1.frozen a
  have hI : GdI w (W0.setCell ⟨w.heap.size + 1, a, none⟩ (.int .i64 0)) n es A1 c1 (Dist.pS (cpl es) n a 0) := by
    refine ⟨?_, hb0.far (p := ⟨w.heap.size + 1, a, none⟩) (by simp) _, hx0.setCell (p := ⟨w.heap.size + 1, a, none⟩) (by simp) _⟩
    have h0 := hb1.set_ a (.int .i64 0)
    rw [farRow_set (R' := Dist.pS (cpl es) n a 0) (by omega) (fun z => rfl)] at h0
    exact h0
  have HI := Lib.hid hI
  clear hI hb1 hb0 hx0
  go_wp2
  clear ca fa
  replace HI := HI.out
  generalize (W0.setCell ⟨w.heap.size + 1, a, none⟩ (.int .i64 0)) = W1 at *
  clear W0
  go_loopw [8] (fun i wr => ∃ s : Nat, s ≤ n ∧ i = .int .i64 s ∧ GdI w wr n es A1 c1 (Dist.pS (cpl es) n a s)) (fun i _ => n - (intOf i).toNat)
  case atStart => exact ⟨0, Nat.zero_le _, rfl, HI⟩
  case round =>
    clear HI
    obtain ⟨s, hs, rfl, hI⟩ := hrel
    have d0 : wr.cell? ⟨w.heap.size, 0, none⟩ = some (.int .i64 (n : Int)) := hI.2.1.cell 0
    by_cases hlt : s < n
    · go_wp2
      obtain ⟨wo, rfl⟩ : ∃ wo : World, wo = wr := ⟨_, rfl⟩
      have hRS := HR.out s (by omega)
      have HRS := Lib.hid hRS
      clear hRS d0
      go_loopw [9] (fun i wr => ∃ x : Nat, x ≤ n ∧ i = .int .i64 x ∧ GdI w wr n es A1 c1 (Dist.pX (cpl es) n s (Dist.pS (cpl es) n a s) x)) (fun i _ => n - (intOf i).toNat)
      case atStart => exact ⟨0, Nat.zero_le _, rfl, hI⟩
      case round =>
        clear hI
        obtain ⟨x, hx, rfl, hI⟩ := hrel
        have d0 : wr.cell? ⟨w.heap.size, 0, none⟩ = some (.int .i64 (n : Int)) := hI.2.1.cell 0
        by_cases hltx : x < n
        · go_wp2
          obtain ⟨wo2, rfl⟩ : ∃ wo2 : World, wo2 = wr := ⟨_, rfl⟩
          clear d0
          go_loopw [10] (fun i wr => ∃ y : Nat, y ≤ n ∧ i = .int .i64 y ∧ GdI w wr n es A1 c1 (Dist.pY (cpl es) s x (Dist.pX (cpl es) n s (Dist.pS (cpl es) n a s) x) y)) (fun i _ => n - (intOf i).toNat)
          case atStart => exact ⟨0, Nat.zero_le _, rfl, hI⟩
          case round =>
            clear hI
            obtain ⟨y, hy, rfl, hI⟩ := hrel
            have d0 : wr.cell? ⟨w.heap.size, 0, none⟩ = some (.int .i64 (n : Int)) := hI.2.1.cell 0
            by_cases hlty : y < n
            · have HS : Hid (Dist.pY (cpl es) s x (Dist.pX (cpl es) n s (Dist.pS (cpl es) n a s) x) (y + 1) = Dist.pCell (cpl es) s x y (Dist.pY (cpl es) s x (Dist.pX (cpl es) n s (Dist.pS (cpl es) n a s) x) y)) := rfl
              generalize Dist.pY (cpl es) s x (Dist.pX (cpl es) n s (Dist.pS (cpl es) n a s) x) y = R at *
              have d1 : wr.cell? ⟨w.heap.size, 1, none⟩ = some (.slice A1 es.length c1) := hI.2.1.cell 1
              have cx : wr.cell? ⟨w.heap.size + 1, x, none⟩ = some (.int .i64 (R x)) := (hI.1.cell x).trans (farRow_at _ (by omega))
              have cy : wr.cell? ⟨w.heap.size + 1, y, none⟩ = some (.int .i64 (R y)) := (hI.1.cell y).trans (farRow_at _ (by omega))
              have hx4 : (x : Int) < 4 := by omega
              have hy4 : (y : Int) < 4 := by omega
              cases hc1 : (R x == (s : Int))
              · have HN := Lib.hid (pCell_no (adj := cpl es) (s := s) (x := x) (y := y) (R := R) (fun h => by rw [h.1, beq_self_eq_true] at hc1; cases hc1))
                go_wp2
                go_roundw
                case rel => exact ⟨y + 1, by omega, by go_num, by rw [HS.out, HN.out]; exact hI⟩
                case measure => simp [intOf]; omega
              · by_cases hc2 : R y < 0
                · have hd2 : decide (R y < 0) = true := by simpa using hc2
                  go_wp2_with fail
                  refine (impl_AreCoupled_any _ ⟨n, es⟩ x y _ (HG.out _ hI.2.2) hl).mono ?_
                  rintro e w2 ⟨rfl, hx2⟩
                  have hI2 : GdI w w2 n es A1 c1 R := ⟨hI.1.ext hx2, hI.2.1.ext hx2, hI.2.2.trans hx2⟩
                  clear cx cy d0 d1 hI
                  have cy : w2.cell? ⟨w.heap.size + 1, y, none⟩ = some (.int .i64 (R y)) := (hI2.1.cell y).trans (farRow_at _ (by omega))
                  have fy : w2.frozen? ⟨w.heap.size + 1, y, none⟩ = false := hI2.1.frozen y
                  have hy0 : (0 : Int) ≤ (y : Int) := by omega
                  cases hc3 : cpl es (x : Int) (y : Int)
                  · have HN := Lib.hid (pCell_no (adj := cpl es) (s := s) (x := x) (y := y) (R := R) (fun h => by rw [h.2.2] at hc3; cases hc3))
                    go_wp2
                    go_roundw
                    case rel => exact ⟨y + 1, by omega, by go_num, by rw [HS.out, HN.out]; exact hI2⟩
                    case measure => simp [intOf]; omega
                  · have HC : Hid (R x = (s : Int) ∧ R y < 0 ∧ cpl es (x : Int) (y : Int) = true) := ⟨by simpa using hc1, hc2, hc3⟩
                    clear hc1 hc2 hd2 hc3
                    go_wp2
                    go_roundw
                    case rel =>
                      refine ⟨y + 1, by omega, by go_num, ?_⟩
                      rw [HS.out]
                      refine ⟨?_, hI2.2.1.far (p := ⟨w.heap.size + 1, y, none⟩) (by simp) _, hI2.2.2.setCell (p := ⟨w.heap.size + 1, y, none⟩) (by simp) _⟩
                      have h0 := hI2.1.set_ y (.int .i64 ((s : Int) + 1))
                      rw [farRow_set (R' := Dist.pCell (cpl es) s x y R) (by omega) (fun z => by
                        unfold Dist.pCell
                        by_cases hz : z = y
                        · rw [if_pos ⟨hz, HC.out⟩, if_pos hz]
                        · rw [if_neg (fun h => hz h.1), if_neg hz])] at h0
                      exact h0
                    case measure => simp [intOf]; omega
                · have hd2 : decide (R y < 0) = false := by simpa using hc2
                  have HN := Lib.hid (pCell_no (adj := cpl es) (s := s) (x := x) (y := y) (R := R) (fun h => hc2 h.2.1))
                  clear hc2
                  go_wp2
                  go_roundw
                  case rel => exact ⟨y + 1, by omega, by go_num, by rw [HS.out, HN.out]; exact hI⟩
                  case measure => simp [intOf]; omega
            · obtain rfl : y = n := by omega
              go_wp2
              go_roundw
              case rel => exact ⟨x + 1, by omega, by go_num, hI⟩
              case measure => simp [intOf]; omega
        · obtain rfl : x = n := by omega
          go_wp2
          go_roundw
          case rel => exact ⟨s + 1, by omega, by go_num, hI⟩
          case measure => simp [intOf]; omega
    · obtain rfl : s = n := by omega
      have HD2 := HD.out
      have cb : wr.cell? ⟨w.heap.size + 1, b, none⟩ = some (.int .i64 (Dist.pS (cpl es) s a s b)) := (hI.1.cell b).trans (farRow_at _ (by omega))
      rw [HD2] at cb
      clear HD2
      have hb4 : (b : Int) < 4 := by omega
      go_wp2
      go_ret
      exact ⟨rfl, hI.2.2⟩
set_option maxRecDepth 100000 in
set_option maxHeartbeats 2000000 in
theorem impl_GraphDistance_any (v : Value) (x : Gr) (a b : Int) (w : World) (h : GrAt w w.heap.size v x) (hl : x.es.length ≤ 100000000) :
    Calls Tryd.prog 39 #[v, .int .i64 a, .int .i64 b] w fun e w' => e = .returned (.int .i64 (gd x a b)) ∧ Ext w w' := by
  obtain ⟨A1, c1, rfl, h1⟩ := h
  by_cases hN : 1 ≤ x.n ∧ x.n ≤ 4
  · obtain ⟨n, hn⟩ := Int.eq_ofNat_of_zero_le (by omega : 0 ≤ x.n)
    by_cases ha : 0 ≤ a ∧ a < x.n
    · by_cases hb : 0 ≤ b ∧ b < x.n
      · obtain ⟨i, rfl⟩ := Int.eq_ofNat_of_zero_le ha.1
        obtain ⟨j, rfl⟩ := Int.eq_ofNat_of_zero_le hb.1
        rw [gd_yes hn (by omega) (by omega) (by omega) (by omega) (by omega) (by omega), hn]
        exact impl_gd n i j x.es A1 c1 w (by omega) (by omega) (by omega) (by omega) h1 hl
      · have HF := Lib.hid (gd_no (x := x) (a := a) (b := b) (by omega))
        have HB : Hid (b < 0 ∨ x.n - 1 < b) := by unfold Hid; omega
        obtain ⟨hN1, hN4⟩ := hN
        obtain ⟨ha1, ha2⟩ := ha
        clear hb hn
        go_enter Tryd.func39, Tryd.ntmps39
        go_wp2_with fail
        refine (in_yes _ _ _ _ (by omega) (by omega)).mono ?_
        rintro e w1 ⟨rfl, rfl⟩
        go_wp2_with fail
        refine (in_yes _ _ _ _ (by omega) (by omega)).mono ?_
        rintro e w1 ⟨rfl, rfl⟩
        go_wp2_with fail
        refine (in_no _ _ _ _ HB.out).mono ?_
        rintro e w1 ⟨rfl, rfl⟩
        go_wp2
        go_ret
        exact ⟨ret_int HF.out.symm, (by repeat (first | exact Ext.refl _ | assumption | refine Ext.alloc ?_ _ | refine Ext.drewN ?_ _ | refine Ext.drew ?_))⟩
    · have HF := Lib.hid (gd_no (x := x) (a := a) (b := b) (by omega))
      have HB : Hid (a < 0 ∨ x.n - 1 < a) := by unfold Hid; omega
      obtain ⟨hN1, hN4⟩ := hN
      clear ha hn
      go_enter Tryd.func39, Tryd.ntmps39
      go_wp2_with fail
      refine (in_yes _ _ _ _ (by omega) (by omega)).mono ?_
      rintro e w1 ⟨rfl, rfl⟩
      go_wp2_with fail
      refine (in_no _ _ _ _ HB.out).mono ?_
      rintro e w1 ⟨rfl, rfl⟩
      go_wp2
      go_ret
      exact ⟨ret_int HF.out.symm, (by repeat (first | exact Ext.refl _ | assumption | refine Ext.alloc ?_ _ | refine Ext.drewN ?_ _ | refine Ext.drew ?_))⟩
  · have HF := Lib.hid (gd_no (x := x) (a := a) (b := b) (by omega))
    have HB : Hid (x.n < 1 ∨ 4 < x.n) := by unfold Hid; omega
    clear hN
    go_enter Tryd.func39, Tryd.ntmps39
    go_wp2_with fail
    refine (in_no _ _ _ _ HB.out).mono ?_
    rintro e w1 ⟨rfl, rfl⟩
    go_wp2
    go_ret
    exact ⟨ret_int HF.out.symm, (by repeat (first | exact Ext.refl _ | assumption | refine Ext.alloc ?_ _ | refine Ext.drewN ?_ _ | refine Ext.drew ?_))⟩
end Go.Proofs.YteecjnnompjmiabDoor
