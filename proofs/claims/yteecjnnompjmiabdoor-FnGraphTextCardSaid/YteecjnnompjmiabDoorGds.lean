/-
  Helper text (no claim of its own): the distance in a graph by the reference.
-/
import Derived.Test.YteecjnnompjmiabDoorGd
namespace Go.Proofs.YteecjnnompjmiabDoor
open Go.ChangeShapes Go.WideShapes Go.ChangeAt Go.RowKit Go.Deep
theorem rK_no {adj : Int → Int → Bool} {m : Int} {l : List Int} {k : Nat} (h : (adj m (k : Int) && !(hasI (Dist.rK adj m l k) (k : Int))) = false) : Dist.rK adj m l (k + 1) = Dist.rK adj m l k := by
  rw [Dist.rK, if_neg (by simp [h])]
theorem rK_yes {adj : Int → Int → Bool} {m : Int} {l : List Int} {k : Nat} (h : adj m (k : Int) = true) (h' : hasI (Dist.rK adj m l k) (k : Int) = false) : Dist.rK adj m l (k + 1) = Dist.rK adj m l k ++ [(k : Int)] := by
  rw [Dist.rK, if_pos (by simp [h, h'])]
set_option maxRecDepth 100000 in
set_option maxHeartbeats 8000000 in
theorem spec_gd (n a b : Nat) (es : List Ed) (A1 : Option Addr) (c1 : Nat) (w : World) (h1 : 1 ≤ n) (h4 : n ≤ 4) (ha : a < n) (hb : b < n) (h : Rd w w.heap.size 2 A1 es.length (ecells es)) (hl : es.length ≤ 100000000) :
    Calls Tryd.prog 34 #[.agg #[.int .i64 (n : Int), .slice A1 es.length c1], .int .i64 (a : Int), .int .i64 (b : Int)] w fun e w' => e = .returned (.int .i64 (Dist.gdist (cpl es) n a b)) ∧ Ext w w' := by
  have HG : Hid (∀ w', Ext w w' → GrAt w' w'.heap.size (.agg #[.int .i64 (n : Int), .slice A1 es.length c1]) ⟨n, es⟩) := fun w' hx => ⟨A1, c1, rfl, h.ext hx⟩
  have HS := Lib.hid (fun s => Dist.rS_has (adj := cpl es) ha hb s)
  have HL := Lib.hid (fun (s : Nat) (hs : s ≤ 4) => Dist.rS_small (adj := cpl es) h4 (a : Int) hs)
  clear h
  go_enter Tryd.func34, Tryd.ntmps34
  go_wp2_with fail
  refine (l1In_yes _ _ _ _ (by omega) (by omega)).mono ?_
  rintro e w1 ⟨rfl, rfl⟩
  go_wp2_with fail
  refine (l1In_yes _ _ _ _ (by omega) (by omega)).mono ?_
  rintro e w1 ⟨rfl, rfl⟩
  go_wp2_with fail
  refine (l1In_yes _ _ _ _ (by omega) (by omega)).mono ?_
  rintro e w1 ⟨rfl, rfl⟩
  have hB0 : Blk ((w.alloc (.cells #[.int .i64 (n : Int), .slice A1 es.length c1] 26)).alloc (.cells #[.int .i64 (a : Int)] 3)) w.heap.size 26 #[.int .i64 (n : Int), .slice A1 es.length c1] := (Blk.new _ _ _).alloc _
  have hX0 : Ext w ((w.alloc (.cells #[.int .i64 (n : Int), .slice A1 es.length c1] 26)).alloc (.cells #[.int .i64 (a : Int)] 3)) := by repeat (first | exact Ext.refl _ | assumption | refine Ext.alloc ?_ _ | refine Ext.drewN ?_ _ | refine Ext.drew ?_)
  have hO0 : ((w.alloc (.cells #[.int .i64 (n : Int), .slice A1 es.length c1] 26)).alloc (.cells #[.int .i64 (a : Int)] 3)).ownsRow w.heap.size 3 1 (.slice (some ⟨w.heap.size + 1, 0, none⟩) 1 1) 1 (icells [(a : Int)]) := own_lit (by repeat (first | exact Ext.refl _ | assumption | refine Ext.alloc ?_ _ | refine Ext.drewN ?_ _ | refine Ext.drew ?_)) _ _ 1 1 #[.int .i64 (a : Int)] _ (by simp) rfl rfl (by omega)
  have HB0 := Lib.hid hB0
  have HX0 := Lib.hid hX0
  have HO0 := Lib.hid hO0
  clear hB0 hX0 hO0
  go_wp2
  replace HB0 := HB0.out
  replace HX0 := HX0.out
  replace HO0 := HO0.out
  generalize ((w.alloc (.cells #[.int .i64 (n : Int), .slice A1 es.length c1] 26)).alloc (.cells #[.int .i64 (a : Int)] 3)) = W0 at *
  go_loopw [7, 8] (fun v i wr => ∃ s : Nat, s ≤ n ∧ i = .int .i64 s ∧ wr.ownsRow w.heap.size 3 1 v (Dist.rS (cpl es) n a s).length (icells (Dist.rS (cpl es) n a s)) ∧ Hid (∀ t, t < s → Dist.lvl (cpl es) n a t b = false) ∧ Blk wr w.heap.size 26 #[.int .i64 (n : Int), .slice A1 es.length c1] ∧ Ext w wr) (fun _ i _ => n - (intOf i).toNat)
  case atStart => exact ⟨0, Nat.zero_le _, rfl, HO0, fun t ht => absurd ht (by omega), HB0, HX0⟩
  case round =>
    clear HO0 HB0 HX0
    obtain ⟨s, hs, rfl, ho, HQ, hB, hx⟩ := hrel
    have hls := HL.out s (by omega)
    have hhs := HS.out s
    have HH := Lib.hid hhs
    have d0 : wr.cell? ⟨w.heap.size, 0, none⟩ = some (.int .i64 (n : Int)) := hB.cell 0
    clear hhs
    have hrS : Hid (Dist.rS (cpl es) n a (s + 1) = Dist.rI (cpl es) n (Dist.rS (cpl es) n a s) (Dist.rS (cpl es) n a s).length) := rfl
    generalize Dist.rS (cpl es) n a s = met at *
    obtain ⟨A7, c7, rfl, hr7⟩ := own_slice ho
    by_cases hlt : s < n
    · go_wp2_with fail
      refine (l1HasInt_any A7 _ c7 met (b : Int) _ hr7 (by omega)).mono ?_
      rintro e w1 ⟨rfl, rfl⟩
      cases hh : hasI met (b : Int)
      · have HQ2 : Hid (∀ t, t < s + 1 → Dist.lvl (cpl es) n a t b = false) := fun t ht => by
          by_cases e : t = s
          · subst e; rw [← HH.out]; exact hh
          · exact HQ.out t (by omega)
        go_wp2_with (at_builtin; refine appIntS (w0 := wr) rfl _ _ rfl _ 0 [] rfl (own_empty wr wr _ _ (Ext.refl _)) (by repeat (first | exact Ext.refl _ | assumption | refine Ext.alloc ?_ _ | refine Ext.drewN ?_ _ | refine Ext.drew ?_)) A7 _ c7 met rfl (hr7.ext (by repeat (first | exact Ext.refl _ | assumption | refine Ext.alloc ?_ _ | refine Ext.drewN ?_ _ | refine Ext.drew ?_))) (by omega) ?_; intro v9 w2 ho9 hx9 hg9 hb9)
        clear hg9 hb9
        simp only [Nat.zero_add, List.nil_append] at ho9
        have hB2 := hB.ext hx9
        have hr2 := hr7.ext hx9
        have hx2 := hx.trans hx9
        clear d0
        obtain ⟨L, hLm⟩ : ∃ L, L = met.length := ⟨_, rfl⟩
        have HLM := Lib.hid hLm
        have hmet := hr7.len icell_len (by omega)
        rw [← hLm] at hr7 ho9 hls ⊢
        have hL625 : L ≤ 625 := hls
        have HO9 : Hid (w2.ownsRow wr.heap.size 3 1 v9 (Dist.rI (cpl es) n met 0).length (icells (Dist.rI (cpl es) n met 0))) := by
          unfold Hid
          rw [show Dist.rI (cpl es) n met 0 = met from rfl, ← hLm]
          exact ho9
        have HLI : Hid (∀ p, p ≤ L → (Dist.rI (cpl es) n met p).length ≤ 3125) := fun p hp => Dist.rI_small (by omega) h4 (by omega)
        clear hLm hmet ho9 hB2 hr2 hx2 ho
        obtain ⟨wo, rfl⟩ : ∃ wo : World, wo = wr := ⟨_, rfl⟩
        go_loopw [9, 10] (fun v i wr => ∃ p : Nat, p ≤ L ∧ i = .int .i64 p ∧ wr.ownsRow wo.heap.size 3 1 v (Dist.rI (cpl es) n met p).length (icells (Dist.rI (cpl es) n met p)) ∧ Ext wo wr) (fun _ i _ => L - (intOf i).toNat)
        case atStart => exact ⟨0, Nat.zero_le _, rfl, HO9.out, hx9⟩
        case round =>
          clear HO9 hx9
          obtain ⟨p, hp, rfl, hop, hxp⟩ := hrel
          by_cases hltp : p < L
          · obtain ⟨b7, o7, m, rfl, hb7, hm, c0⟩ := int_at hr7 hltp
            have HM : Hid (Dist.rI (cpl es) n met (p + 1) = Dist.rK (cpl es) m (Dist.rI (cpl es) n met p) n) := by
              unfold Hid
              rw [Dist.rI, List.getD_eq_getElem?_getD, hm]
              rfl
            have hlp := HLI.out p hp
            clear hm
            go_wp2
            generalize Dist.rI (cpl es) n met p = nx at *
            obtain ⟨wp, rfl⟩ : ∃ wp : World, wp = wr := ⟨_, rfl⟩
            go_loopw [9, 11] (fun v i wr => ∃ q : Nat, q ≤ n ∧ i = .int .i64 q ∧ wr.ownsRow wo.heap.size 3 1 v (Dist.rK (cpl es) m nx q).length (icells (Dist.rK (cpl es) m nx q)) ∧ Ext wo wr) (fun _ i _ => n - (intOf i).toNat)
            case atStart => exact ⟨0, Nat.zero_le _, rfl, hop, hxp⟩
            case round =>
              clear hop hxp
              obtain ⟨q, hq, rfl, hoq, hxq⟩ := hrel
              have hBq := hB.ext hxq
              have d0 : wr.cell? ⟨w.heap.size, 0, none⟩ = some (.int .i64 (n : Int)) := hBq.cell 0
              by_cases hltq : q < n
              · have d1 : wr.cell? ⟨w.heap.size, 1, none⟩ = some (.slice A1 es.length c1) := hBq.cell 1
                have c1' : wr.cell? ⟨b7, o7 + p, none⟩ = some (.int .i64 m) := (hxq.cell (p := ⟨b7, o7 + p, none⟩) hb7).trans c0
                have hxw := hx.trans hxq
                have hlk := Dist.rK_len (adj := cpl es) (m := m) (l := nx) q
                have HY := Lib.hid (rK_yes (adj := cpl es) (m := m) (l := nx) (k := q))
                have HN := Lib.hid (rK_no (adj := cpl es) (m := m) (l := nx) (k := q))
                obtain ⟨A9, c9, rfl, hr9⟩ := own_slice hoq
                have hp0 : (0 : Int) ≤ (p : Int) := by omega
                have hpL : (p : Int) < (L : Int) := by omega
                have HK : Hid (∀ w', Ext wr w' → w'.cell? ⟨w.heap.size, 0, none⟩ = some (.int .i64 (n : Int)) ∧ w'.cell? ⟨w.heap.size, 1, none⟩ = some (.slice A1 es.length c1) ∧ w'.cell? ⟨b7, o7 + p, none⟩ = some (.int .i64 m)) := fun w' z => ⟨(hBq.ext z).cell 0, (hBq.ext z).cell 1, (z.cell (p := ⟨b7, o7 + p, none⟩) (Nat.lt_of_lt_of_le hb7 hxq.size)).trans c1'⟩
                generalize Dist.rK (cpl es) m nx q = nq at *
                cases hc : cpl es m (q : Int)
                · have HN2 := Lib.hid (HN.out (by rw [hc]; rfl))
                  go_wp2
                  first | go_region_with ((go_at_call 37; refine (spec_AreCoupled_any _ ⟨n, es⟩ m q _ (HG.out _ hxw.drew) hl).mono ?_; rintro e w3 ⟨rfl, hy3⟩; replace hy3 : Ext wr w3 := Ext.trans (Ext.refl wr).drew hy3; have hcc : (hasE es m (q : Int) || hasE es (q : Int) m) = false := hc; rw [hcc])) | fail
                  all_goals
                    go_wp2
                    go_roundw
                    case rel => exact ⟨q + 1, by omega, by go_num, by rw [HN2.out]; exact own_ext hoq hy3, hxq.trans hy3⟩
                    case measure => simp [intOf]; omega
                · cases hh2 : hasI nq (q : Int)
                  · have HY2 := Lib.hid (HY.out hc hh2)
                    go_wp2
                    go_region_held3 (fun w' => w'.cell? ⟨w.heap.size, 0, none⟩ = some (.int .i64 (n : Int)) ∧ w'.cell? ⟨w.heap.size, 1, none⟩ = some (.slice A1 es.length c1) ∧ w'.cell? ⟨b7, o7 + p, none⟩ = some (.int .i64 m))
                      (first | go_keep | exact HK.out _ (by assumption))
                      (first
                        | (go_at_call 37; refine (spec_AreCoupled_any _ ⟨n, es⟩ m q _ (HG.out _ hxw.drew) hl).mono ?_; rintro e w3 ⟨rfl, hy3⟩; replace hy3 : Ext wr w3 := Ext.trans (Ext.refl wr).drew hy3; have hcc : (hasE es m (q : Int) || hasE es (q : Int) m) = true := hc; rw [hcc])
                        | (go_at_call 43; refine (l1HasInt_any A9 _ c9 nq (q : Int) _ (hr9.ext hy3) (by omega)).mono ?_; rintro e w4 ⟨rfl, rfl⟩; rw [hh2]))
                    all_goals
                      go_wp2_with (at_builtin; refine appInt (w0 := wo) rfl _ _ rfl _ _ nq rfl (own_ext hoq hy3) (hxq.trans hy3) (q : Int) _ _ rfl (by simp) (by omega) ?_; intro v5 w5 ho5 hx5 hg5 hb5)
                      go_roundw
                      case rel => exact ⟨q + 1, by omega, by go_num, by rw [HY2.out, List.length_append]; exact ho5, hx5⟩
                      case measure => simp [intOf]; omega
                  · have HN2 := Lib.hid (HN.out (by rw [hh2]; simp))
                    go_wp2
                    go_region_held3 (fun w' => w'.cell? ⟨w.heap.size, 0, none⟩ = some (.int .i64 (n : Int)) ∧ w'.cell? ⟨w.heap.size, 1, none⟩ = some (.slice A1 es.length c1) ∧ w'.cell? ⟨b7, o7 + p, none⟩ = some (.int .i64 m))
                      (first | go_keep | exact HK.out _ (by assumption))
                      (first
                        | (go_at_call 37; refine (spec_AreCoupled_any _ ⟨n, es⟩ m q _ (HG.out _ hxw.drew) hl).mono ?_; rintro e w3 ⟨rfl, hy3⟩; replace hy3 : Ext wr w3 := Ext.trans (Ext.refl wr).drew hy3; have hcc : (hasE es m (q : Int) || hasE es (q : Int) m) = true := hc; rw [hcc])
                        | (go_at_call 43; refine (l1HasInt_any A9 _ c9 nq (q : Int) _ (hr9.ext hy3) (by omega)).mono ?_; rintro e w4 ⟨rfl, rfl⟩; rw [hh2]))
                    all_goals
                      go_wp2
                      go_roundw
                      case rel => exact ⟨q + 1, by omega, by go_num, by rw [HN2.out]; exact own_ext hoq hy3, hxq.trans hy3⟩
                      case measure => simp [intOf]; omega
              · obtain rfl : q = n := by omega
                go_wp2
                go_roundw
                case rel => exact ⟨p + 1, by omega, by go_num, by rw [HM.out]; exact hoq, hxq⟩
                case measure => simp [intOf]; omega
          · obtain rfl : p = L := by omega
            have HLM2 := HLM.out
            have hBp := hB.ext hxp
            subst HLM2
            go_wp2
            go_roundw
            case rel => exact ⟨s + 1, by omega, by go_num, by rw [hrS.out]; exact own_base hop hx.size, HQ2, hBp, hx.trans hxp⟩
            case measure => simp [intOf]; omega
      · have HF := Lib.hid (Dist.gdist_some hlt (HH.out.symm.trans hh) HQ.out)
        go_wp2
        go_ret
        exact ⟨ret_int HF.out.symm, hx⟩
    · obtain rfl : s = n := by omega
      have HF := Lib.hid (Dist.gdist_none HQ.out)
      go_wp2
      go_ret
      exact ⟨ret_int HF.out.symm, hx⟩
set_option maxRecDepth 100000 in
set_option maxHeartbeats 2000000 in
theorem spec_GraphDistance_any (v : Value) (x : Gr) (a b : Int) (w : World) (h : GrAt w w.heap.size v x) (hl : x.es.length ≤ 100000000) :
    Calls Tryd.prog 34 #[v, .int .i64 a, .int .i64 b] w fun e w' => e = .returned (.int .i64 (gd x a b)) ∧ Ext w w' := by
  obtain ⟨A1, c1, rfl, h1⟩ := h
  by_cases hN : 1 ≤ x.n ∧ x.n ≤ 4
  · obtain ⟨n, hn⟩ := Int.eq_ofNat_of_zero_le (by omega : 0 ≤ x.n)
    by_cases ha : 0 ≤ a ∧ a < x.n
    · by_cases hb : 0 ≤ b ∧ b < x.n
      · obtain ⟨i, rfl⟩ := Int.eq_ofNat_of_zero_le ha.1
        obtain ⟨j, rfl⟩ := Int.eq_ofNat_of_zero_le hb.1
        rw [gd_yes hn (by omega) (by omega) (by omega) (by omega) (by omega) (by omega), hn]
        exact spec_gd n i j x.es A1 c1 w (by omega) (by omega) (by omega) (by omega) h1 hl
      · have HF := Lib.hid (gd_no (x := x) (a := a) (b := b) (by omega))
        have HB : Hid (b < 0 ∨ x.n - 1 < b) := by unfold Hid; omega
        obtain ⟨hN1, hN4⟩ := hN
        obtain ⟨ha1, ha2⟩ := ha
        clear hb hn
        go_enter Tryd.func34, Tryd.ntmps34
        go_wp2_with fail
        refine (l1In_yes _ _ _ _ (by omega) (by omega)).mono ?_
        rintro e w1 ⟨rfl, rfl⟩
        go_wp2_with fail
        refine (l1In_yes _ _ _ _ (by omega) (by omega)).mono ?_
        rintro e w1 ⟨rfl, rfl⟩
        go_wp2_with fail
        refine (l1In_no _ _ _ _ HB.out).mono ?_
        rintro e w1 ⟨rfl, rfl⟩
        go_wp2
        go_ret
        exact ⟨ret_int HF.out.symm, (by repeat (first | exact Ext.refl _ | assumption | refine Ext.alloc ?_ _ | refine Ext.drewN ?_ _ | refine Ext.drew ?_))⟩
    · have HF := Lib.hid (gd_no (x := x) (a := a) (b := b) (by omega))
      have HB : Hid (a < 0 ∨ x.n - 1 < a) := by unfold Hid; omega
      obtain ⟨hN1, hN4⟩ := hN
      clear ha hn
      go_enter Tryd.func34, Tryd.ntmps34
      go_wp2_with fail
      refine (l1In_yes _ _ _ _ (by omega) (by omega)).mono ?_
      rintro e w1 ⟨rfl, rfl⟩
      go_wp2_with fail
      refine (l1In_no _ _ _ _ HB.out).mono ?_
      rintro e w1 ⟨rfl, rfl⟩
      go_wp2
      go_ret
      exact ⟨ret_int HF.out.symm, (by repeat (first | exact Ext.refl _ | assumption | refine Ext.alloc ?_ _ | refine Ext.drewN ?_ _ | refine Ext.drew ?_))⟩
  · have HF := Lib.hid (gd_no (x := x) (a := a) (b := b) (by omega))
    have HB : Hid (x.n < 1 ∨ 4 < x.n) := by unfold Hid; omega
    clear hN
    go_enter Tryd.func34, Tryd.ntmps34
    go_wp2_with fail
    refine (l1In_no _ _ _ _ HB.out).mono ?_
    rintro e w1 ⟨rfl, rfl⟩
    go_wp2
    go_ret
    exact ⟨ret_int HF.out.symm, (by repeat (first | exact Ext.refl _ | assumption | refine Ext.alloc ?_ _ | refine Ext.drewN ?_ _ | refine Ext.drew ?_))⟩
end Go.Proofs.YteecjnnompjmiabDoor
