/-
  Helper text (no claim of its own): routing by bridges, by the program and by the reference. Printed by gen_br.py.
-/
import Derived.Test.YtfbalkbcglejjaaRtg
import Derived.Test.YtfbalkbcglejjaaLr
import Derived.Test.YtfbalkbcglejjaaAll
namespace Go.Proofs.Ytfbalkbcglejjaa
open Go.ChangeShapes Go.WideShapes Go.ChangeAt Go.RowKit Go.Deep
set_option linter.unusedVariables false
/-- The gates in place of g. -/
def brG (x : Gr) (p : List Int) (g : Gt) : List Gt := if (ar g.k == 1) = true then [g1 g.k (loc p g.a)] else lr (spath x (loc p g.a) (loc p g.b))
theorem brG_1 {x : Gr} {p : List Int} {g : Gt} (h : (ar g.k == 1) = true) : brG x p g = [g1 g.k (loc p g.a)] := if_pos h
theorem brG_2 {x : Gr} {p : List Int} {g : Gt} (h : (ar g.k == 1) = false) : brG x p g = lr (spath x (loc p g.a) (loc p g.b)) := if_neg (by simp [h])
theorem brG_len (x : Gr) (p : List Int) (g : Gt) : (brG x p g).length ≤ 10 := by
  unfold brG
  split
  · simp
  · exact lr_len _
def mayR (x : Gr) (p : List Int) (g : Gt) : Bool := may g x p
def brOk (x : Gr) (p : List Int) (gs : List Gt) : Bool := lay x p && gs.all (mayR x p)
def brR (x : Gr) (p : List Int) (gs : List Gt) : List Gt := if brOk x p gs = true then gs.flatMap (brG x p) else []
theorem brR_no {x : Gr} {p : List Int} {gs : List Gt} (h : brOk x p gs = false) : brR x p gs = [] := if_neg (by simp [h])
theorem brR_yes {x : Gr} {p : List Int} {gs : List Gt} (h : brOk x p gs = true) : brR x p gs = gs.flatMap (brG x p) := if_pos h
theorem brOk_l {x : Gr} {p : List Int} {gs : List Gt} (h : lay x p = false) : brOk x p gs = false := by unfold brOk; rw [h]; rfl
theorem brOk_n {x : Gr} {p : List Int} {gs : List Gt} (h : gs.all (mayR x p) = false) : brOk x p gs = false := by unfold brOk; rw [h]; simp
theorem brOk_y {x : Gr} {p : List Int} {gs : List Gt} (h : lay x p = true) (h' : gs.all (mayR x p) = true) : brOk x p gs = true := by unfold brOk; rw [h, h']; rfl
theorem lay_n {x : Gr} {p : List Int} (h : lay x p = true) : x.n = (p.length : Int) ∧ p.length ≤ 4 ∧ perm p = true := by
  unfold lay at h
  simp only [Bool.and_eq_true, beq_iff_eq] at h
  exact ⟨h.2.symm, (perm_le h.1.2).2, h.1.2⟩

set_option maxRecDepth 100000 in
set_option maxHeartbeats 16000000 in
theorem impl_BridgeRoute_any (A : Option Addr) (n c : Nat) (gs : List Gt) (v : Value) (x : Gr) (Ap : Option Addr) (np cp : Nat) (p : List Int) (w : World) (h : Rd w w.heap.size 4 A n (gcells gs)) (hn : n ≤ 1048576) (hv : GrAt w w.heap.size v x) (hl : x.es.length ≤ 100000000) (hok : ∀ e ∈ x.es, e.ok) (hp : Rd w w.heap.size 1 Ap np (icells p)) (hnp : np ≤ 100000000) (hcp : np ≤ cp) :
    Calls Try.prog 61 #[.slice A n c, v, .slice Ap np cp] w (AllE 43 4 gcells w (brOk x p gs) (brR x p gs)) := by
  have hlen := Lib.hid (h.len Gt.cells_len (by omega))
  have hlp := Lib.hid (hp.len icell_len (by omega))
  obtain ⟨A1, c1, rfl, h1⟩ := hv
  have HG : Hid (∀ w', Ext w w' → GrAt w' w'.heap.size (.agg #[.int .i64 x.n, .slice A1 x.es.length c1]) x) := fun w' hx => ⟨A1, c1, rfl, h1.ext hx⟩
  have HOK := Lib.hid hok
  clear hok
  clear h1
  have hB0 : Blk (w.alloc (.cells #[.int .i64 x.n, .slice A1 x.es.length c1] 27)) w.heap.size 27 #[.int .i64 x.n, .slice A1 x.es.length c1] := Blk.new _ _ _
  have hX0 : Ext w (w.alloc (.cells #[.int .i64 x.n, .slice A1 x.es.length c1] 27)) := by repeat (first | exact Ext.refl _ | assumption | refine Ext.alloc ?_ _ | refine Ext.drewN ?_ _ | refine Ext.drew ?_)
  have HB0 := Lib.hid hB0
  have HX0 := Lib.hid hX0
  clear hB0 hX0
  go_enter Try.func61, Try.ntmps61
  go_upto_region 1 with (fail)
  have hB0 := HB0.out
  have hX0 := HX0.out
  clear HB0 HX0
  generalize (w.alloc (.cells #[.int .i64 x.n, .slice A1 x.es.length c1] 27)) = Wb at *
  have d0 : Wb.cell? ⟨w.heap.size, 0, none⟩ = some (.int .i64 x.n) := hB0.cell 0
  have d1 : Wb.cell? ⟨w.heap.size, 1, none⟩ = some (.slice A1 x.es.length c1) := hB0.cell 1
  go_wp2_with fail
  refine (impl_isLayout_any _ x Ap np cp p _ (HG.out _ hX0) hl HOK.out (hp.ext hX0) hnp).mono ?_
  rintro e w2 ⟨rfl, hx1⟩
  clear d0 d1
  cases hlay : lay x p
  · have HO := Lib.hid (brOk_l (gs := gs) hlay)
    go_wp2
    go_ret2
    exact AllE.mk HO.out (brR_no HO.out) (World.ownsRow_nil _ _ _ _) (hX0.trans hx1)
  have HLAY := Lib.hid hlay
  clear hlay
  go_wp2
  have ho0 : (w2.alloc (.cells #[] 43)).ownsRow Wb.heap.size 43 4 (.slice (some ⟨w2.heap.size, 0, none⟩) 0 0) 0 (gcells []) := own_lit hx1 _ _ 4 0 #[] _ rfl rfl rfl (by omega)
  replace hx1 := hx1.alloc (.cells #[] 43)
  have HO0 := Lib.hid ho0
  have HX1 := Lib.hid hx1
  clear ho0 hx1
  go_loopw [8, 18] (fun v i wr => ∃ (k : Nat) (Ao : Option Addr) (m co : Nat), k ≤ n ∧ i = .int .i64 k ∧ v = .slice Ao m co ∧ Hid (m = ((gs.take k).flatMap (brG x p)).length) ∧ Hid ((gs.take k).all (mayR x p) = true) ∧ wr.ownsRow Wb.heap.size 43 4 (.slice Ao m co) m (gcells ((gs.take k).flatMap (brG x p))) ∧ Ext Wb wr) (fun _ i _ => n - (intOf i).toNat)
  case atStart => exact ⟨0, _, 0, _, Nat.zero_le _, rfl, rfl, rfl, Lib.hid (by simp), HO0.out, HX1.out⟩
  case round =>
    clear HO0 HX1
    obtain ⟨k, Ao, m, co, hk, rfl, rfl, HM, HQ, ho, hx⟩ := hrel
    by_cases hlt : k < n
    · obtain ⟨b, o, g, rfl, hb, hg, r0, r1, r2, r3⟩ := gate_at (h.ext (hX0.trans hx)) hlt
      have HGA := Lib.hid hg
      clear hg
      have hf := fm_take (brG x p) (brG_len x p) gs k
      rw [← HM.out] at hf
      have d0 : wr.cell? ⟨w.heap.size, 0, none⟩ = some (.int .i64 x.n) := (hB0.ext hx).cell 0
      have d1 : wr.cell? ⟨w.heap.size, 1, none⟩ = some (.slice A1 x.es.length c1) := (hB0.ext hx).cell 1
      have hzb := hB0.lt
      have hzx := (hB0.ext hx).lt
      go_wp2_with fail
      have hs0 : Blk (wr.alloc (.cells #[.int .i64 g.k, .int .i64 g.a, .int .i64 g.b, .int .i64 g.c] 43)) wr.heap.size 43 #[.int .i64 g.k, .int .i64 g.a, .int .i64 g.b, .int .i64 g.c] := Blk.new _ _ _
      have hxs : Ext wr (wr.alloc (.cells #[.int .i64 g.k, .int .i64 g.a, .int .i64 g.b, .int .i64 g.c] 43)) := (Ext.refl _).alloc _
      have hlo := ho.lt
      have HLO := Lib.hid hlo
      clear hlo
      refine (impl_mayRoute_any g _ x Ap np cp p _ (HG.out _ (hX0.trans (hx.trans hxs))) hl HOK.out (hp.ext (hX0.trans (hx.trans hxs))) hnp).mono ?_
      rintro e w2 ⟨rfl, hy2⟩
      have hxw2 : Ext wr w2 := hxs.trans hy2
      have hs2 := hs0.ext hy2
      have ho2 := own_ext ho hxw2
      have hx2 := hx.trans hxw2
      obtain ⟨s, hs⟩ : ∃ s, s = wr.heap.size := ⟨_, rfl⟩
      rw [← hs] at hs2 HLO ⊢
      clear r0 r1 r2 r3 d0 d1 hs0 hxs hy2 hs
      cases hm : may g x p
      · have HO := Lib.hid (brOk_n (all_no HGA.out (f := mayR x p) hm))
        go_wp2
        go_ret2
        exact AllE.mk HO.out (brR_no HO.out) (World.ownsRow_nil _ _ _ _) (hX0.trans hx2)
      have HQ2 := Lib.hid (all_snoc HGA.out HQ.out (f := mayR x p) hm)
      have HSN := Lib.hid (fm_snoc (brG x p) HGA.out)
      obtain ⟨ia, y, hga, hia, hy, hlo, hp4, _⟩ := loc_at hm
      have hpn := hlp.out
      have hian : ia < np := by omega
      have hi0 : (0 : Int) ≤ (ia : Int) := by omega
      have hin : (ia : Int) < (np : Int) := by omega
      have hle2 := ho2.lt
      have HLE2 := Lib.hid hle2
      clear hle2
      cases h1 : (ar g.k == 1)
      case true =>
        have HBG := Lib.hid ((brG_1 (x := x) (p := p) h1).trans (by rw [hlo]))
        obtain ⟨bl, ol, y', rfl, hbl, hy', q0⟩ := int_at hp hian
        have hyy : y' = y := by rw [hy] at hy'; injection hy' with hy'; exact hy'.symm
        subst hyy
        have HK : Hid (∀ w', Ext Wb w' → Blk w' s 43 #[.int .i64 g.k, .int .i64 g.a, .int .i64 g.b, .int .i64 g.c] → w'.cell? ⟨s, 0, none⟩ = some (.int .i64 g.k) ∧ w'.cell? ⟨s, 1, none⟩ = some (.int .i64 (ia : Int)) ∧ w'.cell? ⟨bl, ol + ia, none⟩ = some (.int .i64 y')) := fun w' z q => ⟨q.cell 0, by rw [← hga]; exact q.cell 1, ((hX0.trans z).cell (p := ⟨bl, ol + ia, none⟩) hbl).trans q0⟩
        have HS2 := Lib.hid hs2
        clear hy hy' hlo hpn hm hga
        obtain ⟨k0, k1, k2⟩ := HK.out w2 hx2 HS2.out
        go_wp2_with fail
        refine (impl_Arity_any _ _).mono ?_
        rintro e w3 ⟨rfl, rfl⟩
        go_wp2
        have hz0 := Ext.refl w2
        first | go_region_held3 (fun w' => w'.cell? ⟨s, 0, none⟩ = some (.int .i64 g.k) ∧ w'.cell? ⟨s, 1, none⟩ = some (.int .i64 (ia : Int)) ∧ w'.cell? ⟨bl, ol + ia, none⟩ = some (.int .i64 y'))
          (first | (refine HK.out _ ?_ ?_ <;> assumption) | exact HK.out _ (hx2.drew) (HS2.out.ext (Ext.refl w2).drew) | exact HK.out _ (hx2.trans hz0) (HS2.out.ext hz0) | go_keep | exact HK.out _ (hx2.trans (hz0.alloc _)) (HS2.out.ext (hz0.alloc _)))
          (first
            | (go_at_call 50; (with_reducible refine (impl_one_any (w0 := w2) _ _ _ (by repeat (first | exact Ext.refl _ | assumption | refine Ext.alloc ?_ _ | refine Ext.drewN ?_ _ | refine Ext.drew ?_))).mono ?_); clear hz0; rintro e w' ⟨rfl, hz0⟩)
            | (refine stepG1 (B := Wb.heap.size) (by rfl) _ _ (by rfl) _ m _ (by rfl) (own_ext ho2 hz0) (Nat.le_trans hx2.size hz0.size) (g1 g.k y') _ _ (by rfl) (by rfl) (by omega) ?_; intro A4 c4 w4 ho4 hg4 hb4; have hx4 : Ext Wb w4 := (hx2.trans hz0).grown hg4 (fun k hk => (HLE2.out k hk).1); have hs4 := (HS2.out.ext hz0).grown hg4 (fun k hk => by have := HLO.out k hk; omega))) | fail
        all_goals
          clear k0 k1 k2
          go_wp2
          go_roundw
          case rel => exact ⟨k + 1, A4, m + 1, c4, by omega, by go_num, rfl, by unfold Hid; rw [HSN.out, HBG.out, List.length_append, ← HM.out]; rfl, HQ2, by rw [HSN.out, HBG.out]; exact ho4, hx4⟩
          case measure => simp [intOf]; omega
      obtain ⟨ja, jb, hja, hjb, _, hW⟩ := OnWay.of hm h1
      obtain ⟨y1, hy1, ly1, _, _⟩ := hW.at_ hW.ha
      obtain ⟨z1, hz1, lz1, _, _⟩ := hW.at_ hW.hb
      have hjan : ja < np := by have := hW.ha; omega
      have hjbn : jb < np := by have := hW.hb; omega
      have HBG := Lib.hid ((brG_2 (x := x) (p := p) h1).trans (by rw [hja, hjb, ly1, lz1]))
      obtain ⟨bl, ol, rfl, hbl, q0, q1⟩ := two_at hp hjan hjbn hy1 hz1
      have HK : Hid (∀ w', Ext Wb w' → Blk w' s 43 #[.int .i64 g.k, .int .i64 g.a, .int .i64 g.b, .int .i64 g.c] → w'.cell? ⟨w.heap.size, 0, none⟩ = some (.int .i64 x.n) ∧ w'.cell? ⟨w.heap.size, 1, none⟩ = some (.slice A1 x.es.length c1) ∧ w'.cell? ⟨s, 1, none⟩ = some (.int .i64 (ja : Int)) ∧ w'.cell? ⟨s, 2, none⟩ = some (.int .i64 (jb : Int)) ∧ w'.cell? ⟨bl, ol + ja, none⟩ = some (.int .i64 y1) ∧ w'.cell? ⟨bl, ol + jb, none⟩ = some (.int .i64 z1)) := fun w' z q => ⟨(hB0.ext z).cell 0, (hB0.ext z).cell 1, by rw [← hja]; exact q.cell 1, by rw [← hjb]; exact q.cell 2, ((hX0.trans z).cell (p := ⟨bl, ol + ja, none⟩) hbl).trans q0, ((hX0.trans z).cell (p := ⟨bl, ol + jb, none⟩) hbl).trans q1⟩
      have HS2 := Lib.hid hs2
      have HS0 : Hid (w2.cell? ⟨s, 0, none⟩ = some (.int .i64 g.k)) := hs2.cell 0
      have hll := lr_len (spath x y1 z1)
      have hpl := spath_len x y1 z1
      have hj0 : (0 : Int) ≤ (ja : Int) := by omega
      have hj1 : (ja : Int) < (np : Int) := by omega
      have hj2 : (0 : Int) ≤ (jb : Int) := by omega
      have hj3 : (jb : Int) < (np : Int) := by omega
      clear hy hlo hpn hm hga hja hjb hy1 hz1 ly1 lz1 hW hs2
      have k9 := HS0.out
      go_wp2_with fail
      refine (impl_Arity_any _ _).mono ?_
      rintro e w3 ⟨rfl, rfl⟩
      go_wp2
      clear k9
      obtain ⟨k0, k1, k2, k3, k4, k5⟩ := HK.out w2 hx2 HS2.out
      first | go_region_held3 (fun w' => w'.cell? ⟨w.heap.size, 0, none⟩ = some (.int .i64 x.n) ∧ w'.cell? ⟨w.heap.size, 1, none⟩ = some (.slice A1 x.es.length c1) ∧ w'.cell? ⟨s, 1, none⟩ = some (.int .i64 (ja : Int)) ∧ w'.cell? ⟨s, 2, none⟩ = some (.int .i64 (jb : Int)) ∧ w'.cell? ⟨bl, ol + ja, none⟩ = some (.int .i64 y1) ∧ w'.cell? ⟨bl, ol + jb, none⟩ = some (.int .i64 z1))
        (first | (refine HK.out _ ?_ ?_ <;> assumption) | exact HK.out _ (hx2.drew) (HS2.out.ext (Ext.refl w2).drew) | go_keep)
        (first
          | (go_at_call 77; refine (impl_ShortestPath_any _ x y1 z1 _ (HG.out _ (hX0.trans hx2.drew)) hl).mono ?_; rintro e w3 ⟨Aw, lw, cw, rfl, hlw', how', hy3⟩; have HLW := Lib.hid hlw'; have HOW := Lib.hid how'; clear hlw' how'; replace hy3 : Ext w2 w3 := Ext.trans (Ext.refl w2).drew hy3; have hx3 : Ext Wb w3 := hx2.trans hy3; have hs3 := HS2.out.ext hy3)
          | (go_at_call 76; refine (impl_LongRangeCX_any lw Aw cw (spath x y1 z1) _ (by rw [HLW.out]; omega) (Rd.own HOW.out) (own_le HOW.out)).mono ?_; rintro e w4 ⟨v4, rfl, ho4, hy4⟩; have hq4 : Ext w2 w4 := hy3.trans hy4; obtain ⟨A4, c4, rfl, hr4⟩ := own_slice ho4; have hx4 : Ext Wb w4 := hx2.trans hq4; have hs4 := HS2.out.ext hq4)
          | (refine stepGateS (w0 := Wb) (by rfl) _ _ (by rfl) _ m _ (by rfl) (own_ext ho2 hq4) hx4 A4 _ c4 (lr (spath x y1 z1)) (by rfl) hr4 (by omega) ?_; intro v5 w5 ho5 hx5 hg5 hb5; have hs5 := hs4.grown hg5 (fun k hk => by have := HLO.out k hk; omega))) | fail
      all_goals
        clear k0 k1 k2 k3 k4 k5
        obtain ⟨A5, c5, rfl, _⟩ := own_slice ho5
        go_wp2
        go_roundw
        case rel => exact ⟨k + 1, A5, m + (lr (spath x y1 z1)).length, c5, by omega, by go_num, rfl, by unfold Hid; rw [HSN.out, HBG.out, List.length_append, ← HM.out], HQ2, by rw [HSN.out, HBG.out]; exact ho5, hx5⟩
        case measure => simp [intOf]; omega
    · rw [List.take_of_length_le (by rw [hlen.out]; omega)] at ho HQ HM
      have HO := Lib.hid (brOk_y HLAY.out HQ.out)
      go_wp2
      go_ret2
      exact AllE.mk HO.out (brR_yes HO.out) (by rw [← HM.out]; exact own_base ho hX0.size) (hX0.trans hx)

set_option maxRecDepth 100000 in
set_option maxHeartbeats 16000000 in
theorem spec_BridgeRoute_any (A : Option Addr) (n c : Nat) (gs : List Gt) (v : Value) (x : Gr) (Ap : Option Addr) (np cp : Nat) (p : List Int) (w : World) (h : Rd w w.heap.size 4 A n (gcells gs)) (hn : n ≤ 1048576) (hv : GrAt w w.heap.size v x) (hl : x.es.length ≤ 100000000) (hp : Rd w w.heap.size 1 Ap np (icells p)) (hnp : np ≤ 100000000) (hcp : np ≤ cp) :
    Calls Try.prog 65 #[.slice A n c, v, .slice Ap np cp] w (AllE 43 4 gcells w (brOk x p gs) (brR x p gs)) := by
  have hlen := Lib.hid (h.len Gt.cells_len (by omega))
  have hlp := Lib.hid (hp.len icell_len (by omega))
  obtain ⟨A1, c1, rfl, h1⟩ := hv
  have HG : Hid (∀ w', Ext w w' → GrAt w' w'.heap.size (.agg #[.int .i64 x.n, .slice A1 x.es.length c1]) x) := fun w' hx => ⟨A1, c1, rfl, h1.ext hx⟩
  clear h1
  have hB0 : Blk (w.alloc (.cells #[.int .i64 x.n, .slice A1 x.es.length c1] 27)) w.heap.size 27 #[.int .i64 x.n, .slice A1 x.es.length c1] := Blk.new _ _ _
  have hX0 : Ext w (w.alloc (.cells #[.int .i64 x.n, .slice A1 x.es.length c1] 27)) := by repeat (first | exact Ext.refl _ | assumption | refine Ext.alloc ?_ _ | refine Ext.drewN ?_ _ | refine Ext.drew ?_)
  have HB0 := Lib.hid hB0
  have HX0 := Lib.hid hX0
  clear hB0 hX0
  go_enter Try.func65, Try.ntmps65
  go_upto_region 1 with (fail)
  have hB0 := HB0.out
  have hX0 := HX0.out
  clear HB0 HX0
  generalize (w.alloc (.cells #[.int .i64 x.n, .slice A1 x.es.length c1] 27)) = Wb at *
  go_upto_region 2 with (fail)
  have ho0 : (Wb.alloc (.cells #[] 43)).ownsRow Wb.heap.size 43 4 (.slice (some ⟨Wb.heap.size, 0, none⟩) 0 0) 0 (gcells []) := own_lit (Ext.refl _) _ _ 4 0 #[] _ rfl rfl rfl (by omega)
  have hx1 : Ext Wb (Wb.alloc (.cells #[] 43)) := (Ext.refl _).alloc _
  generalize (Wb.alloc (.cells #[] 43)) = W1 at *
  have d0 : W1.cell? ⟨w.heap.size, 0, none⟩ = some (.int .i64 x.n) := (hB0.ext hx1).cell 0
  have d1 : W1.cell? ⟨w.heap.size, 1, none⟩ = some (.slice A1 x.es.length c1) := (hB0.ext hx1).cell 1
  go_wp2_with fail
  refine (spec_IsValidGraph_any _ x _ (HG.out _ (hX0.trans hx1)) hl).mono ?_
  rintro e w2 ⟨rfl, hx2⟩
  replace hx1 := hx1.trans hx2
  replace ho0 := own_ext ho0 hx2
  clear d0 d1 hx2
  have htok := True.intro
  cases hvg : vgraph x
  · have HO := Lib.hid (brOk_l (gs := gs) (lay_v (p := p) hvg))
    go_wp2
    go_ret2
    exact AllE.mk HO.out (brR_no HO.out) (own_base ho0 hX0.size) (hX0.trans hx1)
  go_wp2_with fail
  refine (spec_IsPermutation_any Ap np cp p _ (hp.ext (hX0.trans hx1)) hnp hcp).mono ?_
  rintro e w3 ⟨rfl, hx3⟩
  replace hx1 := hx1.trans hx3
  replace ho0 := own_ext ho0 hx3
  clear hx3
  cases hpp : perm p
  · have HO := Lib.hid (brOk_l (gs := gs) (lay_p (x := x) hpp))
    go_wp2
    go_ret2
    exact AllE.mk HO.out (brR_no HO.out) (own_base ho0 hX0.size) (hX0.trans hx1)
  have HLE := Lib.hid (lay_e hvg hpp)
  clear hvg hpp
  have d0 : w3.cell? ⟨w.heap.size, 0, none⟩ = some (.int .i64 x.n) := (hB0.ext hx1).cell 0
  cases hne : ((np : Int) == x.n)
  · have hne' : ((np : Int) != x.n) = true := by simp [bne, hne]
    have HO := Lib.hid (brOk_l (gs := gs) (HLE.out.trans (by rw [hlp.out]; exact hne)))
    go_wp2
    go_ret2
    exact AllE.mk HO.out (brR_no HO.out) (own_base ho0 hX0.size) (hX0.trans hx1)
  have hne' : ((np : Int) != x.n) = false := by simp [bne, hne]
  have HLAY : Hid (lay x p = true) := HLE.out.trans (by rw [hlp.out]; exact hne)
  go_wp2
  clear d0 hne hne' htok
  have HO0 := Lib.hid ho0
  have HX1 := Lib.hid hx1
  clear ho0 hx1
  go_loopw [8, 9] (fun v i wr => ∃ (k : Nat) (Ao : Option Addr) (m co : Nat), k ≤ n ∧ i = .int .i64 k ∧ v = .slice Ao m co ∧ Hid (m = ((gs.take k).flatMap (brG x p)).length) ∧ Hid ((gs.take k).all (mayR x p) = true) ∧ wr.ownsRow Wb.heap.size 43 4 (.slice Ao m co) m (gcells ((gs.take k).flatMap (brG x p))) ∧ Ext Wb wr) (fun _ i _ => n - (intOf i).toNat)
  case atStart => exact ⟨0, _, 0, _, Nat.zero_le _, rfl, rfl, rfl, Lib.hid (by simp), HO0.out, HX1.out⟩
  case round =>
    clear HO0 HX1
    obtain ⟨k, Ao, m, co, hk, rfl, rfl, HM, HQ, ho, hx⟩ := hrel
    by_cases hlt : k < n
    · obtain ⟨b, o, g, rfl, hb, hg, r0, r1, r2, r3⟩ := gate_at (h.ext (hX0.trans hx)) hlt
      have HGA := Lib.hid hg
      clear hg
      have hf := fm_take (brG x p) (brG_len x p) gs k
      rw [← HM.out] at hf
      have d0 : wr.cell? ⟨w.heap.size, 0, none⟩ = some (.int .i64 x.n) := (hB0.ext hx).cell 0
      have d1 : wr.cell? ⟨w.heap.size, 1, none⟩ = some (.slice A1 x.es.length c1) := (hB0.ext hx).cell 1
      have hzb := hB0.lt
      have hzx := (hB0.ext hx).lt
      go_wp2_with fail
      have hs0 : Blk (wr.alloc (.cells #[.int .i64 g.k, .int .i64 g.a, .int .i64 g.b, .int .i64 g.c] 43)) wr.heap.size 43 #[.int .i64 g.k, .int .i64 g.a, .int .i64 g.b, .int .i64 g.c] := Blk.new _ _ _
      have hxs : Ext wr (wr.alloc (.cells #[.int .i64 g.k, .int .i64 g.a, .int .i64 g.b, .int .i64 g.c] 43)) := (Ext.refl _).alloc _
      have hlo := ho.lt
      have HLO := Lib.hid hlo
      clear hlo
      refine (spec_l38Right_any g _ x Ap np cp p _ (HG.out _ (hX0.trans (hx.trans hxs))) hl (hp.ext (hX0.trans (hx.trans hxs))) hnp hcp).mono ?_
      rintro e w2 ⟨rfl, hy2⟩
      have hxw2 : Ext wr w2 := hxs.trans hy2
      have hs2 := hs0.ext hy2
      have ho2 := own_ext ho hxw2
      have hx2 := hx.trans hxw2
      obtain ⟨s, hs⟩ : ∃ s, s = wr.heap.size := ⟨_, rfl⟩
      rw [← hs] at hs2 HLO ⊢
      clear r0 r1 r2 r3 d0 d1 hs0 hxs hy2 hs
      cases hm : may g x p
      · have HO := Lib.hid (brOk_n (all_no HGA.out (f := mayR x p) hm))
        go_wp2
        go_ret2
        exact AllE.mk HO.out (brR_no HO.out) (own_lit (hX0.trans hx2) _ _ 4 0 #[] _ rfl rfl rfl (by omega)) ((hX0.trans hx2).alloc _)
      have HQ2 := Lib.hid (all_snoc HGA.out HQ.out (f := mayR x p) hm)
      have HSN := Lib.hid (fm_snoc (brG x p) HGA.out)
      obtain ⟨ia, y, hga, hia, hy, hlo, hp4, _⟩ := loc_at hm
      have hpn := hlp.out
      have hian : ia < np := by omega
      have hi0 : (0 : Int) ≤ (ia : Int) := by omega
      have hin : (ia : Int) < (np : Int) := by omega
      have hle2 := ho2.lt
      have HLE2 := Lib.hid hle2
      clear hle2
      cases h1 : (ar g.k == 1)
      case true =>
        have HBG := Lib.hid ((brG_1 (x := x) (p := p) h1).trans (by rw [hlo]))
        have h9 : (g.k == 9) = false := by cases hq : (g.k == 9) with | false => rfl | true => (rw [beq_iff_eq] at hq; rw [hq] at h1; cases h1)
        obtain ⟨bl, ol, y', rfl, hbl, hy', q0⟩ := int_at hp hian
        have hyy : y' = y := by rw [hy] at hy'; injection hy' with hy'; exact hy'.symm
        subst hyy
        have HK : Hid (∀ w', Ext Wb w' → Blk w' s 43 #[.int .i64 g.k, .int .i64 g.a, .int .i64 g.b, .int .i64 g.c] → w'.cell? ⟨s, 0, none⟩ = some (.int .i64 g.k) ∧ w'.cell? ⟨s, 1, none⟩ = some (.int .i64 (ia : Int)) ∧ w'.cell? ⟨bl, ol + ia, none⟩ = some (.int .i64 y')) := fun w' z q => ⟨q.cell 0, by rw [← hga]; exact q.cell 1, ((hX0.trans z).cell (p := ⟨bl, ol + ia, none⟩) hbl).trans q0⟩
        have HS2 := Lib.hid hs2
        clear hy hy' hlo hpn hm hga
        obtain ⟨k0, k1, k2⟩ := HK.out w2 hx2 HS2.out
        go_wp2
        have hz0 := Ext.refl w2
        first | go_region_held3 (fun w' => w'.cell? ⟨s, 0, none⟩ = some (.int .i64 g.k) ∧ w'.cell? ⟨s, 1, none⟩ = some (.int .i64 (ia : Int)) ∧ w'.cell? ⟨bl, ol + ia, none⟩ = some (.int .i64 y'))
          (first | (refine HK.out _ ?_ ?_ <;> assumption) | exact HK.out _ (hx2.drew) (HS2.out.ext (Ext.refl w2).drew) | exact HK.out _ (hx2.trans hz0) (HS2.out.ext hz0) | go_keep | exact HK.out _ (hx2.trans (hz0.alloc _)) (HS2.out.ext (hz0.alloc _)))
          (first
            | (go_at_call 72; (with_reducible refine (spec_one_any (w0 := w2) _ _ _ (by repeat (first | exact Ext.refl _ | assumption | refine Ext.alloc ?_ _ | refine Ext.drewN ?_ _ | refine Ext.drew ?_))).mono ?_); clear hz0; rintro e w' ⟨rfl, hz0⟩)
            | (refine stepG1 (B := Wb.heap.size) (by rfl) _ _ (by rfl) _ m _ (by rfl) (own_ext ho2 hz0) (Nat.le_trans hx2.size hz0.size) (g1 g.k y') _ _ (by rfl) (by rfl) (by omega) ?_; intro A4 c4 w4 ho4 hg4 hb4; have hx4 : Ext Wb w4 := (hx2.trans hz0).grown hg4 (fun k hk => (HLE2.out k hk).1); have hs4 := (HS2.out.ext hz0).grown hg4 (fun k hk => by have := HLO.out k hk; omega))) | fail
        all_goals
          clear k0 k1 k2
          go_wp2
          go_roundw
          case rel => exact ⟨k + 1, A4, m + 1, c4, by omega, by go_num, rfl, by unfold Hid; rw [HSN.out, HBG.out, List.length_append, ← HM.out]; rfl, HQ2, by rw [HSN.out, HBG.out]; exact ho4, hx4⟩
          case measure => simp [intOf]; omega
      obtain ⟨ja, jb, hja, hjb, _, hW⟩ := OnWay.of hm h1
      obtain ⟨y1, hy1, ly1, _, _⟩ := hW.at_ hW.ha
      obtain ⟨z1, hz1, lz1, _, _⟩ := hW.at_ hW.hb
      have hjan : ja < np := by have := hW.ha; omega
      have hjbn : jb < np := by have := hW.hb; omega
      have HBG := Lib.hid ((brG_2 (x := x) (p := p) h1).trans (by rw [hja, hjb, ly1, lz1]))
      have h9 : (g.k == 9) = true := by (have hbb : bas g = true := by { unfold may at hm; simp only [Bool.and_eq_true] at hm; exact hm.1.2 }); unfold bas at hbb; rw [h1, Bool.false_or] at hbb; exact hbb
      obtain ⟨bl, ol, rfl, hbl, q0, q1⟩ := two_at hp hjan hjbn hy1 hz1
      have HK : Hid (∀ w', Ext Wb w' → Blk w' s 43 #[.int .i64 g.k, .int .i64 g.a, .int .i64 g.b, .int .i64 g.c] → w'.cell? ⟨w.heap.size, 0, none⟩ = some (.int .i64 x.n) ∧ w'.cell? ⟨w.heap.size, 1, none⟩ = some (.slice A1 x.es.length c1) ∧ w'.cell? ⟨s, 1, none⟩ = some (.int .i64 (ja : Int)) ∧ w'.cell? ⟨s, 2, none⟩ = some (.int .i64 (jb : Int)) ∧ w'.cell? ⟨bl, ol + ja, none⟩ = some (.int .i64 y1) ∧ w'.cell? ⟨bl, ol + jb, none⟩ = some (.int .i64 z1)) := fun w' z q => ⟨(hB0.ext z).cell 0, (hB0.ext z).cell 1, by rw [← hja]; exact q.cell 1, by rw [← hjb]; exact q.cell 2, ((hX0.trans z).cell (p := ⟨bl, ol + ja, none⟩) hbl).trans q0, ((hX0.trans z).cell (p := ⟨bl, ol + jb, none⟩) hbl).trans q1⟩
      have HS2 := Lib.hid hs2
      have HS0 : Hid (w2.cell? ⟨s, 0, none⟩ = some (.int .i64 g.k)) := hs2.cell 0
      have hll := lr_len (spath x y1 z1)
      have hpl := spath_len x y1 z1
      have hj0 : (0 : Int) ≤ (ja : Int) := by omega
      have hj1 : (ja : Int) < (np : Int) := by omega
      have hj2 : (0 : Int) ≤ (jb : Int) := by omega
      have hj3 : (jb : Int) < (np : Int) := by omega
      clear hy hlo hpn hm hga hja hjb hy1 hz1 ly1 lz1 hW hs2
      have k9 := HS0.out
      go_wp2
      clear k9
      obtain ⟨k0, k1, k2, k3, k4, k5⟩ := HK.out w2 hx2 HS2.out
      first | go_region_held3 (fun w' => w'.cell? ⟨w.heap.size, 0, none⟩ = some (.int .i64 x.n) ∧ w'.cell? ⟨w.heap.size, 1, none⟩ = some (.slice A1 x.es.length c1) ∧ w'.cell? ⟨s, 1, none⟩ = some (.int .i64 (ja : Int)) ∧ w'.cell? ⟨s, 2, none⟩ = some (.int .i64 (jb : Int)) ∧ w'.cell? ⟨bl, ol + ja, none⟩ = some (.int .i64 y1) ∧ w'.cell? ⟨bl, ol + jb, none⟩ = some (.int .i64 z1))
        (first | (refine HK.out _ ?_ ?_ <;> assumption) | exact HK.out _ (hx2.drew) (HS2.out.ext (Ext.refl w2).drew) | go_keep)
        (first
          | (go_at_call 83; refine (spec_ShortestPath_any _ x y1 z1 _ (HG.out _ (hX0.trans hx2.drew)) hl).mono ?_; rintro e w3 ⟨Aw, lw, cw, rfl, hlw', how', hy3⟩; have HLW := Lib.hid hlw'; have HOW := Lib.hid how'; clear hlw' how'; replace hy3 : Ext w2 w3 := Ext.trans (Ext.refl w2).drew hy3; have hx3 : Ext Wb w3 := hx2.trans hy3; have hs3 := HS2.out.ext hy3)
          | (go_at_call 82; refine (spec_LongRangeCX_any lw Aw cw (spath x y1 z1) _ (by rw [HLW.out]; omega) (Rd.own HOW.out) (own_le HOW.out)).mono ?_; rintro e w4 ⟨v4, rfl, ho4, hy4⟩; have hq4 : Ext w2 w4 := hy3.trans hy4; obtain ⟨A4, c4, rfl, hr4⟩ := own_slice ho4; have hx4 : Ext Wb w4 := hx2.trans hq4; have hs4 := HS2.out.ext hq4)
          | (refine stepGateS (w0 := Wb) (by rfl) _ _ (by rfl) _ m _ (by rfl) (own_ext ho2 hq4) hx4 A4 _ c4 (lr (spath x y1 z1)) (by rfl) hr4 (by omega) ?_; intro v5 w5 ho5 hx5 hg5 hb5; have hs5 := hs4.grown hg5 (fun k hk => by have := HLO.out k hk; omega))) | fail
      all_goals
        clear k0 k1 k2 k3 k4 k5
        obtain ⟨A5, c5, rfl, _⟩ := own_slice ho5
        go_wp2
        go_roundw
        case rel => exact ⟨k + 1, A5, m + (lr (spath x y1 z1)).length, c5, by omega, by go_num, rfl, by unfold Hid; rw [HSN.out, HBG.out, List.length_append, ← HM.out], HQ2, by rw [HSN.out, HBG.out]; exact ho5, hx5⟩
        case measure => simp [intOf]; omega
    · rw [List.take_of_length_le (by rw [hlen.out]; omega)] at ho HQ HM
      have HO := Lib.hid (brOk_y HLAY.out HQ.out)
      go_wp2
      go_ret2
      exact AllE.mk HO.out (brR_yes HO.out) (by rw [← HM.out]; exact own_base ho hX0.size) (hX0.trans hx)
end Go.Proofs.Ytfbalkbcglejjaa
