/-
  Helper text (no claim of its own): a shortest path by the program.
-/
import Derived.Test.YtfbalkbcglejjaaSp
namespace Go.Proofs.Ytfbalkbcglejjaa
open Go.ChangeShapes Go.WideShapes Go.ChangeAt Go.RowKit Go.Deep
set_option maxRecDepth 100000 in
set_option maxHeartbeats 8000000 in
theorem impl_ShortestPath_any (v : Value) (x : Gr) (a b : Int) (w : World) (h : GrAt w w.heap.size v x) (hl : x.es.length ≤ 100000000) :
    Calls Try.prog 77 #[v, .int .i64 a, .int .i64 b] w fun e w' => ∃ A len cap, e = .returned (.slice A len cap) ∧ len = (spath x a b).length ∧ w'.ownsRow w.heap.size 3 1 (.slice A len cap) len (icells (spath x a b)) ∧ Ext w w' := by
  obtain ⟨A1, c1, rfl, h1⟩ := h
  have HG : Hid (∀ w', Ext w w' → GrAt w' w'.heap.size (.agg #[.int .i64 x.n, .slice A1 x.es.length c1]) x) := fun w' hx => ⟨A1, c1, rfl, h1.ext hx⟩
  have hgr := gd_range x a b
  clear h1
  have hB0 : Blk (w.alloc (.cells #[.int .i64 x.n, .slice A1 x.es.length c1] 27)) w.heap.size 27 #[.int .i64 x.n, .slice A1 x.es.length c1] := Blk.new _ _ _
  have hX0 : Ext w (w.alloc (.cells #[.int .i64 x.n, .slice A1 x.es.length c1] 27)) := by repeat (first | exact Ext.refl _ | assumption | refine Ext.alloc ?_ _ | refine Ext.drewN ?_ _ | refine Ext.drew ?_)
  have HB0 := Lib.hid hB0
  have HX0 := Lib.hid hX0
  clear hB0 hX0
  go_enter Try.func77, Try.ntmps77
  go_wp2_with fail
  have hB0 := HB0.out
  have hX0 := HX0.out
  clear HB0 HX0
  generalize (w.alloc (.cells #[.int .i64 x.n, .slice A1 x.es.length c1] 27)) = Wb at *
  refine (impl_GraphDistance_any _ x a b _ (HG.out _ hX0) hl).mono ?_
  rintro e w1 ⟨rfl, hx1⟩
  by_cases hneg : gd x a b = -1
  · have HS := Lib.hid (spath_no (x := x) (a := a) (b := b) (by omega))
    rw [hneg]
    clear hneg
    go_wp2
    go_ret
    refine ⟨_, _, _, rfl, by rw [HS.out]; rfl, by rw [HS.out]; exact World.ownsRow_nil _ _ _ _, hX0.trans hx1⟩
  obtain ⟨d, hd⟩ := Int.eq_ofNat_of_zero_le (by omega : 0 ≤ gd x a b)
  have HS := Lib.hid (spath_yes hd)
  have HD := Lib.hid hd
  rw [hd] at hgr ⊢
  have hd4 : d ≤ 4 := by omega
  have hdn : ((d : Int) == -1) = false := by rw [beq_eq_false_iff_ne]; omega
  clear hd hgr hneg
  go_wp2
  have ho2 : (w1.alloc (.cells #[.int .i64 a] 3)).ownsRow Wb.heap.size 3 1 (.slice (some ⟨w1.heap.size, 0, none⟩) 1 1) 1 (icells [a]) := own_lit hx1 _ _ 1 1 #[.int .i64 a] _ rfl rfl rfl (by omega)
  have hx2 : Ext Wb (w1.alloc (.cells #[.int .i64 a] 3)) := hx1.alloc _
  generalize (w1.alloc (.cells #[.int .i64 a] 3)) = W2 at *
  clear hx1 hdn
  go_loopw [7, 8] (fun vd v wr => ∃ (q : Nat) (z : Int) (pre : List Int) (m c : Nat) (A : Option Addr), q ≤ d ∧ vd = .int .i64 q ∧ v = .slice A (m + 1) c ∧ gd x z b = (q : Int) ∧ m ≤ 4 - q ∧ Hid (m = pre.length) ∧ Hid (spath x a b = (pre ++ [z]) ++ spw x b q z) ∧ wr.ownsRow Wb.heap.size 3 1 (.slice A (m + 1) c) (m + 1) (icells (pre ++ [z])) ∧ Ext Wb wr) (fun vd _ _ => (intOf vd).toNat)
  case atStart => exact ⟨d, a, [], 0, _, _, Nat.le_refl _, rfl, rfl, HD.out, by omega, rfl, HS.out, ho2, hx2⟩
  case round =>
    clear ho2 hx2
    obtain ⟨q, z, pre, m, c, A, hq, rfl, rfl, hz, hm, HM, HQ, ho, hx⟩ := hrel
    by_cases hq0 : 0 < q
    · obtain ⟨q, rfl⟩ : ∃ q', q = q' + 1 := ⟨q - 1, by omega⟩
      obtain ⟨k, hk⟩ := nxt_some hz
      obtain ⟨hkn, hkc, hkd, hkl⟩ := nxt_spec hk
      have hn4 : x.n ≤ 4 := by
        obtain ⟨n, i, j, hn, h1, h4, _⟩ := gd_ok (by omega : 0 ≤ gd x z b)
        omega
      have HST := Lib.hid (spw_step hk)
      have HKC := Lib.hid hkc
      have HKD := Lib.hid hkd
      have HKL := Lib.hid hkl
      obtain ⟨bo, oo, y, rfl, hbo, hy, c0⟩ := int_at (Rd.own ho) (by omega : m < m + 1)
      have hyz : y = z := by
        rw [HM.out, List.getElem?_append_right (Nat.le_refl _)] at hy
        simpa using hy.symm
      subst hyz
      clear hk hkc hkd hkl hz hy
      have hm4 : m ≤ 4 := by omega
      have hm0 : (0 : Int) ≤ (m : Int) := by omega
      have hw3 : IntKind.i64.wrap (m : Int) = (m : Int) := IntWalk.i64_in _ (by omega)
      have hmm1 : (m : Int) < ((m + 1 : Nat) : Int) := by omega
      have hmm2 : (m : Int) < (m : Int) + 1 := by omega
      have HW3 := Lib.hid hw3
      clear hw3
      go_wp2
      obtain ⟨wo, rfl⟩ : ∃ wo : World, wo = wr := ⟨_, rfl⟩
      go_loopw [8, 9] (fun vo i wr => ∃ j : Nat, j ≤ k ∧ i = .int .i64 j ∧ vo = .slice (some ⟨bo, oo, none⟩) (m + 1) c ∧ Ext wo wr) (fun _ i _ => k - (intOf i).toNat)
      case atStart => exact ⟨0, Nat.zero_le _, rfl, rfl, Ext.refl _⟩
      case round =>
        obtain ⟨j, hj, rfl, rfl, hxj⟩ := hrel
        have hX := hx.trans hxj
        have hB := hB0.ext hX
        have d0 : wr.cell? ⟨w.heap.size, 0, none⟩ = some (.int .i64 x.n) := hB.cell 0
        have d1 : wr.cell? ⟨w.heap.size, 1, none⟩ = some (.slice A1 x.es.length c1) := hB.cell 1
        have c1' : wr.cell? ⟨bo, oo + m, none⟩ = some (.int .i64 y) := (hxj.cell (p := ⟨bo, oo + m, none⟩) hbo).trans c0
        have hjn : (j : Int) < x.n := by omega
        have HK : Hid (∀ w', Ext wr w' → w'.cell? ⟨w.heap.size, 0, none⟩ = some (.int .i64 x.n) ∧ w'.cell? ⟨w.heap.size, 1, none⟩ = some (.slice A1 x.es.length c1) ∧ w'.cell? ⟨bo, oo + m, none⟩ = some (.int .i64 y)) := fun w' z => ⟨(hB.ext z).cell 0, (hB.ext z).cell 1, (z.cell (p := ⟨bo, oo + m, none⟩) (Nat.lt_of_lt_of_le hbo hxj.size)).trans c1'⟩
        by_cases hjk : j < k
        · have hlo := HKL.out j hjk
          cases hc : cpl x.es y (j : Int)
          · clear hlo
            go_wp2
            have hw3 := HW3.out
            refine wp_region_held_drew (S := (fun w' => w'.cell? ⟨w.heap.size, 0, none⟩ = some (.int .i64 x.n) ∧ w'.cell? ⟨w.heap.size, 1, none⟩ = some (.slice A1 x.es.length c1) ∧ w'.cell? ⟨bo, oo + m, none⟩ = some (.int .i64 y))) (by kernel_rfl) (HK.out _ (Ext.refl wr).drew) (fun hHeld => ?_)
            (refine wpAnyH_take (i := 0) (v := ?_) rfl (by kernel_rfl) (by kernel_rfl) (by kernel_rfl) (fun _ _ _ h => h) (Or.inl ⟨by rfl, ?_⟩) (by assumption) ?_; rotate_left; · (intro w hSw; (try dsimp only at hSw); go_simp; all_goals with_reducible rfl); (try simp only [Act.put, List.getElem_toArray, List.getElem_cons_zero, List.getElem_cons_succ, List.setIfInBounds_toArray, List.set_cons_zero, List.set_cons_succ]))
            (refine wpAnyH_take (i := 1) (v := ?_) rfl (by kernel_rfl) (by kernel_rfl) (by kernel_rfl) (fun _ _ _ h => h) (Or.inl ⟨by rfl, ?_⟩) (by assumption) ?_; rotate_left; · (intro w hSw; (try dsimp only at hSw); go_simp; all_goals with_reducible rfl); (try simp only [Act.put, List.getElem_toArray, List.getElem_cons_zero, List.getElem_cons_succ, List.setIfInBounds_toArray, List.set_cons_zero, List.set_cons_succ]))
            (refine wpAnyH_take (i := 2) (v := ?_) rfl (by kernel_rfl) (by kernel_rfl) (by kernel_rfl) (fun _ _ _ h => h) (Or.inl ⟨by rfl, ?_⟩) (by assumption) ?_; rotate_left; · (intro w hSw; (try dsimp only at hSw); go_simp; all_goals with_reducible rfl); (try simp only [Act.put, List.getElem_toArray, List.getElem_cons_zero, List.getElem_cons_succ, List.setIfInBounds_toArray, List.set_cons_zero, List.set_cons_succ]))
            (refine wpAnyH_take (i := 3) (v := ?_) rfl (by kernel_rfl) (by kernel_rfl) (by kernel_rfl) (fun _ _ _ h => h) (Or.inl ⟨by rfl, ?_⟩) (by assumption) ?_; rotate_left; · (intro w hSw; (try dsimp only at hSw); go_simp; all_goals with_reducible rfl); (try simp only [Act.put, List.getElem_toArray, List.getElem_cons_zero, List.getElem_cons_succ, List.setIfInBounds_toArray, List.set_cons_zero, List.set_cons_succ]))
            (refine wpAnyH_take (i := 4) (v := ?_) rfl (by kernel_rfl) (by kernel_rfl) (by kernel_rfl) (fun _ _ _ h => h) (Or.inl ⟨by rfl, ?_⟩) (by assumption) ?_; rotate_left; · (intro w hSw; (try dsimp only at hSw); go_simp; all_goals with_reducible rfl); (try simp only [Act.put, List.getElem_toArray, List.getElem_cons_zero, List.getElem_cons_succ, List.setIfInBounds_toArray, List.set_cons_zero, List.set_cons_succ]))
            (refine wpAnyH_take (i := 5) (v := ?_) rfl (by kernel_rfl) (by kernel_rfl) (by kernel_rfl) (fun _ _ _ h => h) (Or.inl ⟨by rfl, ?_⟩) (by assumption) ?_; rotate_left; · (intro w hSw; (try dsimp only at hSw); go_simp; all_goals with_reducible rfl); (try simp only [Act.put, List.getElem_toArray, List.getElem_cons_zero, List.getElem_cons_succ, List.setIfInBounds_toArray, List.set_cons_zero, List.set_cons_succ]))
            (refine wpAnyH_take (i := 6) (v := ?_) rfl (by kernel_rfl) (by kernel_rfl) (by kernel_rfl) (fun _ _ _ h => h) (Or.inl ⟨by rfl, ?_⟩) (by assumption) ?_; rotate_left; · (intro w hSw; (try dsimp only at hSw); go_simp; all_goals with_reducible rfl); (try simp only [Act.put, List.getElem_toArray, List.getElem_cons_zero, List.getElem_cons_succ, List.setIfInBounds_toArray, List.set_cons_zero, List.set_cons_succ]))
            (refine wpAnyH_take (i := 7) (v := ?_) rfl (by kernel_rfl) (by kernel_rfl) (by kernel_rfl) (fun _ _ _ h => h) (Or.inl ⟨by rfl, ?_⟩) (by assumption) ?_; rotate_left; · (intro w hSw; (try dsimp only at hSw); go_simp; all_goals with_reducible rfl); (try simp only [Act.put, List.getElem_toArray, List.getElem_cons_zero, List.getElem_cons_succ, List.setIfInBounds_toArray, List.set_cons_zero, List.set_cons_succ]))
            (refine wpAnyH_ready (rs := [8]) (by kernel_rfl) (by simp) ?_; refine AllReadyH.cons rfl (fun K hK => ?_) AllReadyH.nil; go_simp)
            refine (impl_AreCoupled_any _ x y j _ (HG.out _ (hX0.trans hX.drew)) hl).mono ?_
            rintro e w3 ⟨rfl, hy3⟩
            replace hy3 : Ext wr w3 := Ext.trans (Ext.refl wr).drew hy3
            rw [hc]
            refine hK.out _ _ (HK.out _ hy3) (fun hHeld => ?_)
            clear hK K
            (try simp only [Act.put, List.getElem_toArray, List.getElem_cons_zero, List.getElem_cons_succ, List.setIfInBounds_toArray, List.set_cons_zero, List.set_cons_succ])
            (refine wpAnyH_take (i := 9) (v := ?_) rfl (by kernel_rfl) (by kernel_rfl) (by kernel_rfl) (fun _ _ _ h => h) (Or.inl ⟨by rfl, ?_⟩) (by assumption) ?_; rotate_left; · (intro w hSw; (try dsimp only at hSw); go_simp; all_goals with_reducible rfl); (try simp only [Act.put, List.getElem_toArray, List.getElem_cons_zero, List.getElem_cons_succ, List.setIfInBounds_toArray, List.set_cons_zero, List.set_cons_succ]))
            (refine wpAnyH_take (i := 10) rfl (by kernel_rfl) (by kernel_rfl) (by kernel_rfl) (fun _ _ _ h => h) (Or.inr ⟨by rfl, rfl⟩) (by assumption) ?_; (try simp only [Act.put, List.getElem_toArray, List.getElem_cons_zero, List.getElem_cons_succ, List.setIfInBounds_toArray, List.set_cons_zero, List.set_cons_succ]))
            (refine wpAnyH_take (i := 11) rfl (by kernel_rfl) (by kernel_rfl) (by kernel_rfl) (fun _ _ _ h => h) (Or.inr ⟨by rfl, rfl⟩) (by assumption) ?_; (try simp only [Act.put, List.getElem_toArray, List.getElem_cons_zero, List.getElem_cons_succ, List.setIfInBounds_toArray, List.set_cons_zero, List.set_cons_succ]))
            (refine wpAnyH_take (i := 12) rfl (by kernel_rfl) (by kernel_rfl) (by kernel_rfl) (fun _ _ _ h => h) (Or.inr ⟨by rfl, rfl⟩) (by assumption) ?_; (try simp only [Act.put, List.getElem_toArray, List.getElem_cons_zero, List.getElem_cons_succ, List.setIfInBounds_toArray, List.set_cons_zero, List.set_cons_succ]))
            (refine wpAnyH_take (i := 13) rfl (by kernel_rfl) (by kernel_rfl) (by kernel_rfl) (fun _ _ _ h => h) (Or.inr ⟨by rfl, rfl⟩) (by assumption) ?_; (try simp only [Act.put, List.getElem_toArray, List.getElem_cons_zero, List.getElem_cons_succ, List.setIfInBounds_toArray, List.set_cons_zero, List.set_cons_succ]))
            (refine wpAnyH_take (i := 14) rfl (by kernel_rfl) (by kernel_rfl) (by kernel_rfl) (fun _ _ _ h => h) (Or.inr ⟨by rfl, rfl⟩) (by assumption) ?_; (try simp only [Act.put, List.getElem_toArray, List.getElem_cons_zero, List.getElem_cons_succ, List.setIfInBounds_toArray, List.set_cons_zero, List.set_cons_succ]))
            (refine wpAnyH_take (i := 15) rfl (by kernel_rfl) (by kernel_rfl) (by kernel_rfl) (fun _ _ _ h => h) (Or.inr ⟨by rfl, rfl⟩) (by assumption) ?_; (try simp only [Act.put, List.getElem_toArray, List.getElem_cons_zero, List.getElem_cons_succ, List.setIfInBounds_toArray, List.set_cons_zero, List.set_cons_succ]))
            (refine wpAnyH_take (i := 16) (v := ?_) rfl (by kernel_rfl) (by kernel_rfl) (by kernel_rfl) (fun _ _ _ h => h) (Or.inl ⟨by rfl, ?_⟩) (by assumption) ?_; rotate_left; · (intro w hSw; (try dsimp only at hSw); go_simp; all_goals with_reducible rfl); (try simp only [Act.put, List.getElem_toArray, List.getElem_cons_zero, List.getElem_cons_succ, List.setIfInBounds_toArray, List.set_cons_zero, List.set_cons_succ]))
            (refine wpAnyH_done (by kernel_rfl) ?_ _)
            clear hw3
            go_wp2
            go_roundw
            case rel => first | exact ⟨j + 1, by omega, by go_num, rfl, hxj.trans hy3⟩ | ((repeat apply Exists.intro); exact ⟨⟨j + 1, by omega, by go_num, rfl, hxj.trans hy3⟩, rfl⟩)
            case measure => simp [intOf]; omega
          · rw [hc, Bool.true_and] at hlo
            have HLO := Lib.hid hlo
            clear hlo
            obtain ⟨G, hGd⟩ : ∃ G, G = gd x (j : Int) b := ⟨_, rfl⟩
            rw [← hGd] at HLO
            have HGD := Lib.hid hGd
            clear hGd
            have hlo := HLO.out
            go_wp2
            have hw3 := HW3.out
            go_region_held3 (fun w' => w'.cell? ⟨w.heap.size, 0, none⟩ = some (.int .i64 x.n) ∧ w'.cell? ⟨w.heap.size, 1, none⟩ = some (.slice A1 x.es.length c1) ∧ w'.cell? ⟨bo, oo + m, none⟩ = some (.int .i64 y))
              (first | go_keep | exact HK.out _ (by assumption))
              (first
                | (go_at_call 30; refine (impl_AreCoupled_any _ x y j _ (HG.out _ (hX0.trans hX.drew)) hl).mono ?_; rintro e w3 ⟨rfl, hy3⟩; replace hy3 : Ext wr w3 := Ext.trans (Ext.refl wr).drew hy3; rw [hc])
                | (go_at_call 78; refine (impl_GraphDistance_any _ x j b _ (HG.out _ ((hX0.trans hX).trans hy3)) hl).mono ?_; rintro e w4 ⟨rfl, hy4⟩; have hx4 : Ext wr w4 := hy3.trans hy4; rw [← HGD.out]))
            all_goals
              clear hw3
              go_wp2
              go_roundw
              case rel => first | exact ⟨j + 1, by omega, by go_num, rfl, hxj.trans hx4⟩ | ((repeat apply Exists.intro); exact ⟨⟨j + 1, by omega, by go_num, rfl, hxj.trans hx4⟩, rfl⟩)
              case measure => simp [intOf]; omega
        · obtain rfl : j = k := by omega
          have hpl : pre.length = m := HM.out.symm
          have HPL := Lib.hid hpl
          clear hpl
          go_wp2
          have hw3 := HW3.out
          go_region_held3 (fun w' => w'.cell? ⟨w.heap.size, 0, none⟩ = some (.int .i64 x.n) ∧ w'.cell? ⟨w.heap.size, 1, none⟩ = some (.slice A1 x.es.length c1) ∧ w'.cell? ⟨bo, oo + m, none⟩ = some (.int .i64 y))
            (first | go_keep | exact HK.out _ (by assumption))
            (first
              | (go_at_call 30; refine (impl_AreCoupled_any _ x y j _ (HG.out _ (hX0.trans hX.drew)) hl).mono ?_; rintro e w3 ⟨rfl, hy3⟩; replace hy3 : Ext wr w3 := Ext.trans (Ext.refl wr).drew hy3; rw [HKC.out])
              | (go_at_call 78; refine (impl_GraphDistance_any _ x j b _ (HG.out _ ((hX0.trans hX).trans hy3)) hl).mono ?_; rintro e w4 ⟨rfl, hy4⟩; have hx4 : Ext wr w4 := hy3.trans hy4; rw [HKD.out]))
          all_goals
            clear hw3
            have ho4 := own_ext ho (hxj.trans hx4)
            have hX4 := hX.trans hx4
            go_wp2_with (at_builtin; refine appInt (w0 := Wb) rfl _ _ rfl _ (m + 1) (pre ++ [y]) rfl ho4 hX4 (j : Int) _ _ rfl (by simp) (by omega) ?_; intro v5 w5 ho5 hx5 hg5 hb5)
            obtain ⟨A5, c5, rfl, _⟩ := own_slice ho5
            go_roundw
            case rel => exact ⟨q, j, pre ++ [y], m + 1, c5, A5, by omega, by go_num, rfl, HKD.out, by omega, by simp [Hid, HPL.out], by rw [HQ.out, HST.out]; simp [Hid], ho5, hx5⟩
            case measure => simp [intOf]
    · obtain rfl : q = 0 := by omega
      have HE : Hid (spath x a b = pre ++ [z]) := by rw [HQ.out]; simp [spw, Hid]
      go_wp2
      go_ret
      exact ⟨_, _, _, rfl, by rw [HE.out, HM.out]; simp, by rw [HE.out]; exact own_base ho hX0.size, hX0.trans hx⟩
end Go.Proofs.Ytfbalkbcglejjaa
