/-
  Helper text (no claim of its own): a shortest path, by the program and by the reference.
-/
import Derived.Test.YtfbalkbcglejjaaGds
namespace Go.Proofs.Ytfbalkbcglejjaa
open Go.ChangeShapes Go.WideShapes Go.ChangeAt Go.RowKit Go.Deep
/-- The next vertex on the way from a to b, d away. -/
def nxt (x : Gr) (b a : Int) (d : Nat) : Option Nat := (List.range x.n.toNat).find? fun k => cpl x.es a (k : Int) && (gd x (k : Int) b == (d : Int))
/-- The vertices that follow a on the way to b, d away. -/
def spw (x : Gr) (b : Int) : Nat → Int → List Int
  | 0, _ => []
  | d + 1, a => match nxt x b a d with
    | some k => (k : Int) :: spw x b d (k : Int)
    | none => []
/-- A shortest path. -/
def spath (x : Gr) (a b : Int) : List Int := if gd x a b < 0 then [] else a :: spw x b (gd x a b).toNat a
theorem spath_no {x : Gr} {a b : Int} (h : gd x a b < 0) : spath x a b = [] := if_pos h
theorem spath_yes {x : Gr} {a b : Int} {d : Nat} (h : gd x a b = d) : spath x a b = a :: spw x b d a := by
  unfold spath
  rw [if_neg (by omega), h]
  rfl
theorem gd_ok {x : Gr} {a b : Int} (h : 0 ≤ gd x a b) : ∃ n i j : Nat, x.n = n ∧ 1 ≤ n ∧ n ≤ 4 ∧ a = i ∧ b = j ∧ i < n ∧ j < n ∧ gd x a b = Dist.gdist (cpl x.es) n (i : Int) (j : Int) := by
  by_cases hc : 1 ≤ x.n ∧ x.n ≤ 4 ∧ 0 ≤ a ∧ a < x.n ∧ 0 ≤ b ∧ b < x.n
  · obtain ⟨n, hn⟩ := Int.eq_ofNat_of_zero_le (by omega : 0 ≤ x.n)
    obtain ⟨i, hi⟩ := Int.eq_ofNat_of_zero_le (by omega : 0 ≤ a)
    obtain ⟨j, hj⟩ := Int.eq_ofNat_of_zero_le (by omega : 0 ≤ b)
    exact ⟨n, i, j, hn, by omega, by omega, hi, hj, by omega, by omega, by rw [gd_yes hn (by omega) (by omega) (by omega) (by omega) (by omega) (by omega), hi, hj]⟩
  · rw [gd_no hc] at h; omega
theorem nxt_some {x : Gr} {a b : Int} {d : Nat} (h : gd x a b = ((d + 1 : Nat) : Int)) : ∃ k, nxt x b a d = some k := by
  obtain ⟨n, i, j, hn, h1, h4, rfl, rfl, hi, hj, hg⟩ := gd_ok (by omega : 0 ≤ gd x a b)
  rw [hg] at h
  obtain ⟨k, hk, hc, hd⟩ := Dist.gdist_step hi hj h
  have hx : gd x (k : Int) (j : Int) = (d : Int) := by rw [gd_yes hn h1 h4 (by omega) (by omega) (by omega) (by omega), hd]
  cases hf : nxt x (j : Int) (i : Int) d with
  | some k => exact ⟨k, rfl⟩
  | none =>
    unfold nxt at hf
    rw [List.find?_eq_none] at hf
    have := hf k (by rw [hn]; simpa using hk)
    rw [hc, hx] at this
    simp at this
theorem nxt_spec {x : Gr} {a b : Int} {d k : Nat} (h : nxt x b a d = some k) : (k : Int) < x.n ∧ cpl x.es a (k : Int) = true ∧ gd x (k : Int) b = (d : Int) ∧ ∀ j : Nat, j < k → (cpl x.es a (j : Int) && (gd x (j : Int) b == (d : Int))) = false := by
  unfold nxt at h
  rw [List.find?_range_eq_some] at h
  obtain ⟨h1, h2, h3⟩ := h
  simp at h1 h2
  refine ⟨by omega, h1.1, h1.2, fun j hj => ?_⟩
  have := h3 j hj
  cases hq : (cpl x.es a (j : Int) && (gd x (j : Int) b == (d : Int)))
  · rfl
  · rw [hq] at this; cases this
theorem spw_step {x : Gr} {a b : Int} {d k : Nat} (h : nxt x b a d = some k) : spw x b (d + 1) a = (k : Int) :: spw x b d (k : Int) := by
  rw [spw, h]
theorem spw_len {x : Gr} {b : Int} : ∀ d a, (spw x b d a).length ≤ d
  | 0, _ => by simp [spw]
  | d + 1, a => by
    rw [spw]
    split
    · have := spw_len (x := x) (b := b) d
      simp
      rename_i k _
      exact this _
    · simp
theorem spath_len (x : Gr) (a b : Int) : (spath x a b).length ≤ 5 := by
  have h := gd_range x a b
  unfold spath
  split
  · simp
  · have := spw_len (x := x) (b := b) (gd x a b).toNat a
    simp; omega

set_option maxRecDepth 100000 in
set_option maxHeartbeats 8000000 in
theorem spec_ShortestPath_any (v : Value) (x : Gr) (a b : Int) (w : World) (h : GrAt w w.heap.size v x) (hl : x.es.length ≤ 100000000) :
    Calls Try.prog 83 #[v, .int .i64 a, .int .i64 b] w fun e w' => ∃ A len cap, e = .returned (.slice A len cap) ∧ len = (spath x a b).length ∧ w'.ownsRow w.heap.size 3 1 (.slice A len cap) len (icells (spath x a b)) ∧ Ext w w' := by
  obtain ⟨A1, c1, rfl, h1⟩ := h
  have HG : Hid (∀ w', Ext w w' → GrAt w' w'.heap.size (.agg #[.int .i64 x.n, .slice A1 x.es.length c1]) x) := fun w' hx => ⟨A1, c1, rfl, h1.ext hx⟩
  have hgr := gd_range x a b
  clear h1
  have hB0 : Blk (w.alloc (.cells #[.int .i64 x.n, .slice A1 x.es.length c1] 27)) w.heap.size 27 #[.int .i64 x.n, .slice A1 x.es.length c1] := Blk.new _ _ _
  have hX0 : Ext w (w.alloc (.cells #[.int .i64 x.n, .slice A1 x.es.length c1] 27)) := by repeat (first | exact Ext.refl _ | assumption | refine Ext.alloc ?_ _ | refine Ext.drewN ?_ _ | refine Ext.drew ?_)
  have HB0 := Lib.hid hB0
  have HX0 := Lib.hid hX0
  clear hB0 hX0
  go_enter Try.func83, Try.ntmps83
  go_wp2_with fail
  have hO0 : ((w.alloc (.cells #[.int .i64 x.n, .slice A1 x.es.length c1] 27)).alloc (.cells #[] 3)).ownsRow (w.alloc (.cells #[.int .i64 x.n, .slice A1 x.es.length c1] 27)).heap.size 3 1 (.slice (some ⟨w.heap.size + 1, 0, none⟩) 0 0) 0 (icells []) := own_lit (Ext.refl _) _ _ 1 0 #[] _ (by simp) rfl rfl (by omega)
  have hE0 : Ext (w.alloc (.cells #[.int .i64 x.n, .slice A1 x.es.length c1] 27)) ((w.alloc (.cells #[.int .i64 x.n, .slice A1 x.es.length c1] 27)).alloc (.cells #[] 3)) := (Ext.refl _).alloc _
  generalize ((w.alloc (.cells #[.int .i64 x.n, .slice A1 x.es.length c1] 27)).alloc (.cells #[] 3)) = W0 at *
  have hB0 := HB0.out
  have hX0 := HX0.out
  clear HB0 HX0
  generalize (w.alloc (.cells #[.int .i64 x.n, .slice A1 x.es.length c1] 27)) = Wb at *
  refine (spec_GraphDistance_any _ x a b _ (HG.out _ (hX0.trans hE0)) hl).mono ?_
  rintro e w1 ⟨rfl, hx1⟩
  have hO1 := own_ext hO0 hx1
  have hE1 := hE0.trans hx1
  clear hO0 hE0 hx1
  by_cases hneg : gd x a b < 0
  · have HS := Lib.hid (spath_no hneg)
    go_wp2
    go_ret
    refine ⟨_, _, _, rfl, by rw [HS.out]; rfl, by rw [HS.out]; exact own_base hO1 hX0.size, hX0.trans hE1⟩
  obtain ⟨d, hd⟩ := Int.eq_ofNat_of_zero_le (by omega : 0 ≤ gd x a b)
  have HS := Lib.hid (spath_yes hd)
  have HD := Lib.hid hd
  rw [hd] at hneg hgr ⊢
  have hd4 : d ≤ 4 := by omega
  clear hd hgr
  go_wp2_with (at_builtin; refine appInt (w0 := Wb) rfl _ _ rfl _ 0 [] rfl hO1 hE1 a _ _ rfl rfl (by omega) ?_; intro v2 w2 ho2 hx2 hg2 hb2)
  clear hg2 hb2 hO1 hE1
  replace ho2 : w2.ownsRow Wb.heap.size 3 1 v2 1 (icells [a]) := ho2
  go_loopw [1, 7, 8] (fun va v vd wr => ∃ (q : Nat) (z : Int) (out : List Int), q ≤ d ∧ va = .int .i64 z ∧ vd = .int .i64 q ∧ gd x z b = (q : Int) ∧ out.length ≤ 5 - q ∧ Hid (spath x a b = out ++ spw x b q z) ∧ wr.ownsRow Wb.heap.size 3 1 v out.length (icells out) ∧ Ext Wb wr) (fun _ _ vd _ => (intOf vd).toNat)
  case atStart => exact ⟨d, a, [a], Nat.le_refl _, rfl, rfl, HD.out, by simp; omega, HS.out, ho2, hx2⟩
  case round =>
    clear ho2 hx2
    obtain ⟨q, z, out, hq, rfl, rfl, hz, hlen, HQ, ho, hx⟩ := hrel
    by_cases hq0 : 0 < q
    · obtain ⟨q, rfl⟩ : ∃ q', q = q' + 1 := ⟨q - 1, by omega⟩
      obtain ⟨k, hk⟩ := nxt_some hz
      obtain ⟨hkn, hkc, hkd, hkl⟩ := nxt_spec hk
      have hn4 : x.n ≤ 4 := by
        obtain ⟨n, i, j, hn, h1, h4, _⟩ := gd_ok (by omega : 0 ≤ gd x z b)
        omega
      have HST := Lib.hid (spw_step hk)
      have HKC := Lib.hid hkc
      have HKD := Lib.hid hkd
      have HKL := Lib.hid hkl
      clear hk hkc hkd hkl hz
      go_wp2
      obtain ⟨wo, rfl⟩ : ∃ wo : World, wo = wr := ⟨_, rfl⟩
      go_loopw [1, 9] (fun va i wr => ∃ j : Nat, j ≤ k ∧ i = .int .i64 j ∧ va = .int .i64 z ∧ Ext wo wr) (fun _ i _ => k - (intOf i).toNat)
      case atStart => exact ⟨0, Nat.zero_le _, rfl, rfl, Ext.refl _⟩
      case round =>
        obtain ⟨j, hj, rfl, rfl, hxj⟩ := hrel
        have hX := hx.trans hxj
        have hB := hB0.ext hX
        have d0 : wr.cell? ⟨w.heap.size, 0, none⟩ = some (.int .i64 x.n) := hB.cell 0
        have d1 : wr.cell? ⟨w.heap.size, 1, none⟩ = some (.slice A1 x.es.length c1) := hB.cell 1
        have hjn : (j : Int) < x.n := by omega
        go_wp2_with fail
        refine (spec_AreCoupled_any _ x z j _ (HG.out _ (hX0.trans hX)) hl).mono ?_
        rintro e w3 ⟨rfl, hy3⟩
        have hX3 := hX.trans hy3
        have hB3 := hB0.ext hX3
        clear d0 d1
        have d0 : w3.cell? ⟨w.heap.size, 0, none⟩ = some (.int .i64 x.n) := hB3.cell 0
        have d1 : w3.cell? ⟨w.heap.size, 1, none⟩ = some (.slice A1 x.es.length c1) := hB3.cell 1
        by_cases hjk : j < k
        · have hlo := HKL.out j hjk
          cases hc : cpl x.es z (j : Int)
          · have hcc : (hasE x.es z (j : Int) || hasE x.es (j : Int) z) = false := hc
            rw [hcc]
            clear hcc hc hlo
            go_wp2
            go_roundw
            case rel => first | exact ⟨j + 1, by omega, by go_num, rfl, hxj.trans hy3⟩ | ((repeat apply Exists.intro); exact ⟨⟨j + 1, by omega, by go_num, rfl, hxj.trans hy3⟩, rfl⟩)
            case measure => simp [intOf]; omega
          · have hcc : (hasE x.es z (j : Int) || hasE x.es (j : Int) z) = true := hc
            rw [hcc]
            rw [hc, Bool.true_and] at hlo
            have HLO := Lib.hid hlo
            clear hcc hc hlo
            go_wp2_with fail
            refine (spec_GraphDistance_any _ x j b _ (HG.out _ (hX0.trans hX3)) hl).mono ?_
            rintro e w4 ⟨rfl, hy4⟩
            have hlo := HLO.out
            generalize gd x (j : Int) b = G at *
            go_wp2
            go_roundw
            case rel => first | exact ⟨j + 1, by omega, by go_num, rfl, (hxj.trans hy3).trans hy4⟩ | ((repeat apply Exists.intro); exact ⟨⟨j + 1, by omega, by go_num, rfl, (hxj.trans hy3).trans hy4⟩, rfl⟩)
            case measure => simp [intOf]; omega
        · obtain rfl : j = k := by omega
          have hcc : (hasE x.es z (j : Int) || hasE x.es (j : Int) z) = true := HKC.out
          rw [hcc]
          clear hcc
          go_wp2_with fail
          refine (spec_GraphDistance_any _ x j b _ (HG.out _ (hX0.trans hX3)) hl).mono ?_
          rintro e w4 ⟨rfl, hy4⟩
          have hX4 := hX3.trans hy4
          have ho4 := own_ext ho ((hxj.trans hy3).trans hy4)
          rw [HKD.out]
          go_wp2_with (at_builtin; refine appInt (w0 := Wb) rfl _ _ rfl _ out.length out rfl ho4 hX4 (j : Int) _ _ rfl (by simp) (by omega) ?_; intro v5 w5 ho5 hx5 hg5 hb5)
          go_roundw
          case rel => exact ⟨q, j, out ++ [(j : Int)], by omega, rfl, by go_num, HKD.out, by simp; omega, by rw [HQ.out, HST.out]; simp [Hid], by rw [List.length_append]; exact ho5, hx5⟩
          case measure => simp [intOf]
    · obtain rfl : q = 0 := by omega
      have HE : Hid (spath x a b = out) := by rw [HQ.out]; simp [spw, Hid]
      obtain ⟨A, c, rfl, _⟩ := own_slice ho
      go_wp2
      go_ret
      exact ⟨_, _, _, rfl, by rw [HE.out], by rw [HE.out]; exact own_base ho hX0.size, hX0.trans hx⟩
end Go.Proofs.Ytfbalkbcglejjaa
