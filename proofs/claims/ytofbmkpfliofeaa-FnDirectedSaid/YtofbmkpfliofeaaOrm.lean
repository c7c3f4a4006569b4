/-
  Helper text (no claim of its own): orientation of gates by the program. Printed by gen_orient3.py.
-/
import Derived.Test.YtofbmkpfliofeaaOrs
namespace Go.Proofs.Ytofbmkpfliofeaa
open Go.ChangeShapes Go.WideShapes Go.ChangeAt Go.RowKit Go.Deep
theorem oriOk_9 {x : Gr} {g : Gt} (hv : vg g x.n = true) (h9 : (g.k == 9) = true) : oriOk x g = coup x g := by
  have h1 : (ar g.k == 1) = false := by rw [ar_9_11 (.inl h9)]; rfl
  unfold oriOk
  rw [hv, h1, h9]
  simp
theorem oriL_9 {x : Gr} {g : Gt} (hv : vg g x.n = true) (h9 : (g.k == 9) = true) (hc : coup x g = true) : oriL x g = cx1 x g := by
  have h1 : (ar g.k == 1) = false := by rw [ar_9_11 (.inl h9)]; rfl
  rw [oriL_2 (by rw [oriOk_9 hv h9]; exact hc) h1, dec_9 h9]
  simp
theorem oriL_9a {x : Gr} {g : Gt} (hv : vg g x.n = true) (h9 : (g.k == 9) = true) (he : hasE x.es g.a g.b = true) : oriOk x g = true ∧ oriL x g = [g] := by
  have hc : coup x g = true := by unfold coup; rw [he]; rfl
  refine ⟨by rw [oriOk_9 hv h9]; exact hc, ?_⟩
  rw [oriL_9 hv h9 hc]
  unfold cx1
  rw [if_pos he, ← cx_of_vg hv h9]
theorem oriL_9b {x : Gr} {g : Gt} (hv : vg g x.n = true) (h9 : (g.k == 9) = true) (he : hasE x.es g.a g.b = false) (he2 : hasE x.es g.b g.a = true) : oriOk x g = true ∧ oriL x g = [g1 4 g.a, g1 4 g.b, gcx g.b g.a, g1 4 g.a, g1 4 g.b] := by
  have hc : coup x g = true := by unfold coup; rw [he, he2]; rfl
  refine ⟨by rw [oriOk_9 hv h9]; exact hc, ?_⟩
  rw [oriL_9 hv h9 hc]
  unfold cx1
  rw [if_neg (by simp [he])]
theorem oriL_9c {x : Gr} {g : Gt} (hv : vg g x.n = true) (h9 : (g.k == 9) = true) (he : hasE x.es g.a g.b = false) (he2 : hasE x.es g.b g.a = false) : oriOk x g = false := by
  rw [oriOk_9 hv h9]; unfold coup; rw [he, he2]; rfl
theorem ori_cx {x : Gr} {a b : Int} (hv : vg (gcx a b) x.n = true) : oriOk x (gcx a b) = coup x (gcx a b) := oriOk_9 hv rfl
/-- A valid swap is oriented as the three CX that it is made of. -/
theorem ori_swap {x : Gr} {g : Gt} (hv : vg g x.n = true) (h : (g.k == 11) = true) : oriAllOk x (dec g) = oriOk x g ∧ oriAll x (dec g) = oriL x g := by
  have h2 := vg_two hv (ar_9_11 (.inr h))
  obtain ⟨n1, n2, p1, p2, p3, p4, p5, p6⟩ := h2
  have v1 := vg_cx n1 n2 p1 p2 p3 p4 p5
  have v2 := vg_cx n1 n2 p3 p4 p1 p2 (Ne.symm p5)
  have h1 : (ar g.k == 1) = false := by rw [ar_9_11 (.inr h)]; rfl
  have c1 : coup x (gcx g.a g.b) = coup x g := rfl
  have c2 : coup x (gcx g.b g.a) = coup x g := by unfold coup; exact Bool.or_comm _ _
  have e1 : oriOk x g = coup x g := by unfold oriOk; rw [hv, h1, h]; simp
  have e2 : oriAllOk x (dec g) = coup x g := by
    unfold oriAllOk
    rw [dec_11 h]
    simp [ori_cx v1, ori_cx v2, c1, c2]
  refine ⟨by rw [e1, e2], ?_⟩
  cases hc : coup x g
  · rw [oriAll_no (by rw [e2]; exact hc), oriL_no (by rw [e1]; exact hc)]
  · rw [oriAll_yes (by rw [e2]; exact hc), oriL_2 (by rw [e1]; exact hc) h1, dec_11 h]
    have l1 : oriL x (gcx g.a g.b) = cx1 x (gcx g.a g.b) := oriL_9 v1 rfl (by rw [c1]; exact hc)
    have l2 : oriL x (gcx g.b g.a) = cx1 x (gcx g.b g.a) := oriL_9 v2 rfl (by rw [c2]; exact hc)
    simp [l1, l2]
/-- What is to be shown of the program's OrientGate at a gate. -/
def OriC (x : Gr) (g : Gt) : Prop := ∀ (v : Value) (w : World), GrAt w w.heap.size v x →
    Calls Try.prog 13 #[g.val, v] w fun e w' => ∃ v, e = .returned (.tuple #[v, .bool (oriOk x g)]) ∧ w'.ownsRow w.heap.size 37 4 v (oriL x g).length (gcells (oriL x g)) ∧ Ext w w'

set_option maxRecDepth 100000 in
set_option maxHeartbeats 8000000 in
theorem impl_OrientGates_of (A : Option Addr) (n c : Nat) (gs : List Gt) (v : Value) (x : Gr) (w : World) (h : Rd w w.heap.size 4 A n (gcells gs)) (hv : GrAt w w.heap.size v x) (hn : n ≤ 1048576) (hC : ∀ g ∈ gs, OriC x g) :
    Calls Try.prog 6 #[.slice A n c, v] w fun e w' => ∃ v, e = .returned (.tuple #[v, .bool (oriAllOk x gs)]) ∧ w'.ownsRow w.heap.size 37 4 v (oriAll x gs).length (gcells (oriAll x gs)) ∧ Ext w w' := by
  have HC := Lib.hid hC
  clear hC
  have hlen := Lib.hid (h.len Gt.cells_len (by omega))
  obtain ⟨A1, c1, rfl, h1⟩ := hv
  have hG : GrAt w w.heap.size (.agg #[.int .i64 x.n, .slice A1 x.es.length c1]) x := ⟨A1, c1, rfl, h1⟩
  clear h1
  have hx0 : Ext w (w.alloc (.cells #[.int .i64 x.n, .slice A1 x.es.length c1] 27)) := by repeat (first | exact Ext.refl _ | assumption | refine Ext.alloc ?_ _ | refine Ext.drewN ?_ _ | refine Ext.drew ?_)
  have hb1 : Blk (w.alloc (.cells #[.int .i64 x.n, .slice A1 x.es.length c1] 27)) w.heap.size 27 #[.int .i64 x.n, .slice A1 x.es.length c1] := Blk.new _ _ _
  have ho0 : ((w.alloc (.cells #[.int .i64 x.n, .slice A1 x.es.length c1] 27)).alloc (.cells #[] 37)).ownsRow (w.alloc (.cells #[.int .i64 x.n, .slice A1 x.es.length c1] 27)).heap.size 37 4 (.slice (some ⟨w.heap.size + 1, 0, none⟩) 0 0) 0 (gcells []) := own_lit (Ext.refl _) _ _ 4 0 #[] _ (by simp) rfl rfl (by omega)
  have HO0 := Lib.hid ho0
  have HX0 := Lib.hid hx0
  have HB1 := Lib.hid hb1
  clear ho0 hx0 hb1
  go_enter Try.func6, Try.ntmps6
  go_wp2
  have ho0 := HO0.out
  have hx0 := HX0.out
  have hb1 := HB1.out
  clear HO0 HX0 HB1
  have hxs : Ext (w.alloc (.cells #[.int .i64 x.n, .slice A1 x.es.length c1] 27)) ((w.alloc (.cells #[.int .i64 x.n, .slice A1 x.es.length c1] 27)).alloc (.cells #[] 37)) := (Ext.refl _).alloc _
  generalize ((w.alloc (.cells #[.int .i64 x.n, .slice A1 x.es.length c1] 27)).alloc (.cells #[] 37)) = Ws at *
  generalize (w.alloc (.cells #[.int .i64 x.n, .slice A1 x.es.length c1] 27)) = W at *
  go_loopw [6, 14] (fun v i wr => ∃ k : Nat, k ≤ n ∧ i = .int .i64 k ∧ Hid (oriAllOk x (gs.take k) = true) ∧ wr.ownsRow W.heap.size 37 4 v ((gs.take k).flatMap (oriL x)).length (gcells ((gs.take k).flatMap (oriL x))) ∧ Ext W wr) (fun _ i _ => n - (intOf i).toNat)
  case atStart => exact ⟨0, Nat.zero_le _, rfl, Lib.hid (by simp [oriAllOk]), ho0, hxs⟩
  case round =>
    obtain ⟨k, hk, rfl, HQ, hown, hX⟩ := hrel
    have hxr := hx0.trans hX
    by_cases hlt : k < n
    · obtain ⟨b, o, g, rfl, hb, hg, r0, r1, r2, r3⟩ := gate_at (h.ext hxr) hlt
      have HG := Lib.hid hg
      clear hg
      have hB := hb1.ext hX
      have hlb := hB.lt
      have d0 : wr.cell? ⟨w.heap.size, 0, none⟩ = some (.int .i64 x.n) := hB.cell 0
      have d1 : wr.cell? ⟨w.heap.size, 1, none⟩ = some (.slice A1 x.es.length c1) := hB.cell 1
      have hf : ((gs.take k).flatMap (oriL x)).length ≤ 80000000 := by
        have z1 := oriF_len x (gs.take k)
        have z2 : (gs.take k).length ≤ k := List.length_take_le _ _
        omega
      have hol := oriL_len x g
      go_wp2_with fail
      refine (HC.out g (List.mem_of_getElem? HG.out) _ _ ((hG.up (hxr.alloc _) (Nat.le_refl _)).more (hxr.alloc _).size)).mono ?_
      rintro e w1 ⟨v1, rfl, hl1, hy1⟩
      replace hy1 := Ext.trans ((Ext.refl wr).alloc _) hy1
      obtain ⟨A1', c1', rfl, hr1⟩ := own_slice hl1
      have hX1 := hX.trans hy1
      have ho1 := own_ext hown hy1
      clear r0 r1 r2 r3 d0 d1 hl1
      cases hok : oriOk x g
      · have HO := Lib.hid (oriAllOk_no HG.out hok)
        have HL := Lib.hid (oriAll_no HO.out)
        go_wp2
        go_ret2
        refine ⟨_, by rw [HO.out]; rfl, ?_, hx0.trans hX1⟩
        rw [HL.out]
        exact World.ownsRow_nil _ _ _ _
      · have HQ2 := Lib.hid (oriAllOk_snoc HG.out HQ.out hok)
        have HS := Lib.hid (oriF_snoc (x := x) HG.out)
        go_wp2_with (at_builtin; refine appGateS (w0 := W) rfl _ _ rfl _ _ ((gs.take k).flatMap (oriL x)) rfl ho1 hX1 A1' _ c1' (oriL x g) rfl hr1 (by omega) ?_; intro v2 w2 ho2 hX2 hg2 hl2)
        go_roundw
        case rel => exact ⟨k + 1, by omega, by go_num, HQ2, by rw [HS.out, List.length_append]; exact ho2, hX2⟩
        case measure => simp [intOf]; omega
    · rw [List.take_of_length_le (by rw [hlen.out]; omega)] at hown HQ
      have HL := Lib.hid (oriAll_yes HQ.out)
      go_wp2
      go_ret2
      refine ⟨_, by rw [HQ.out]; rfl, ?_, hxr⟩
      rw [HL.out]
      exact own_base hown hx0.size

set_option maxRecDepth 100000 in
set_option maxHeartbeats 8000000 in
theorem impl_OrientGate_pre (x : Gr) (g : Gt) (hn : x.es.length ≤ 100000000) (hsw : (g.k == 11) = true → ∀ g' ∈ dec g, OriC x g') : OriC x g := by
  intro v w h
  have HSW := Lib.hid hsw
  clear hsw
  obtain ⟨A1, c1, rfl, h1⟩ := h
  have hG : GrAt w w.heap.size (.agg #[.int .i64 x.n, .slice A1 x.es.length c1]) x := ⟨A1, c1, rfl, h1⟩
  clear h1
  go_enter Try.func13, Try.ntmps13
  go_wp2_with fail
  have hx0 : Ext w ((w.alloc (.cells #[.int .i64 g.k, .int .i64 g.a, .int .i64 g.b, .int .i64 g.c] 37)).alloc (.cells #[.int .i64 x.n, .slice A1 x.es.length c1] 27)) := by repeat (first | exact Ext.refl _ | assumption | refine Ext.alloc ?_ _ | refine Ext.drewN ?_ _ | refine Ext.drew ?_)
  have hb0 : Blk ((w.alloc (.cells #[.int .i64 g.k, .int .i64 g.a, .int .i64 g.b, .int .i64 g.c] 37)).alloc (.cells #[.int .i64 x.n, .slice A1 x.es.length c1] 27)) w.heap.size 37 #[.int .i64 g.k, .int .i64 g.a, .int .i64 g.b, .int .i64 g.c] := (Blk.new _ _ _).alloc _
  have hb1 : Blk ((w.alloc (.cells #[.int .i64 g.k, .int .i64 g.a, .int .i64 g.b, .int .i64 g.c] 37)).alloc (.cells #[.int .i64 x.n, .slice A1 x.es.length c1] 27)) (w.heap.size + 1) 27 #[.int .i64 x.n, .slice A1 x.es.length c1] := Blk.newAt (by simp)
  generalize ((w.alloc (.cells #[.int .i64 g.k, .int .i64 g.a, .int .i64 g.b, .int .i64 g.c] 37)).alloc (.cells #[.int .i64 x.n, .slice A1 x.es.length c1] 27)) = W at *
  refine (impl_IsValidGate_any g x.n _).mono ?_
  rintro e w1 ⟨rfl, hx1⟩
  have hx := hx0.trans hx1
  have hc := hb0.ext hx1
  have hd := hb1.ext hx1
  have b0 : w1.cell? ⟨w.heap.size, 0, none⟩ = some (.int .i64 g.k) := hc.cell 0
  have b1 : w1.cell? ⟨w.heap.size, 1, none⟩ = some (.int .i64 g.a) := hc.cell 1
  have b2 : w1.cell? ⟨w.heap.size, 2, none⟩ = some (.int .i64 g.b) := hc.cell 2
  have b3 : w1.cell? ⟨w.heap.size, 3, none⟩ = some (.int .i64 g.c) := hc.cell 3
  have d0 : w1.cell? ⟨w.heap.size + 1, 0, none⟩ = some (.int .i64 x.n) := hd.cell 0
  have d1 : w1.cell? ⟨w.heap.size + 1, 1, none⟩ = some (.slice A1 x.es.length c1) := hd.cell 1
  cases hv : vg g x.n
  · have HO : Hid (oriOk x g = false) := by unfold Hid oriOk; rw [hv]; rfl
    have HL := Lib.hid (oriL_no HO.out)
    go_wp2
    go_ret2
    refine ⟨_, by rw [HO.out]; rfl, ?_, hx⟩
    rw [HL.out]
    exact World.ownsRow_nil _ _ _ _
  go_wp2_with fail
  refine (impl_Arity_any _ _).mono ?_
  rintro e w2 ⟨rfl, rfl⟩
  cases ha : (ar g.k == 1)
  · cases h9 : (g.k == 9)
    · cases h11 : (g.k == 11)
      · have HO : Hid (oriOk x g = false) := by unfold Hid oriOk; rw [hv, ha, h9, h11]; simp
        have HL := Lib.hid (oriL_no HO.out)
        go_wp2
        go_ret2
        refine ⟨_, by rw [HO.out]; rfl, ?_, hx⟩
        rw [HL.out]
        exact World.ownsRow_nil _ _ _ _
      · have HS := Lib.hid (ori_swap hv h11)
        have hdl := dec_len g
        have HK : Hid (∀ w', Blk w' w.heap.size 37 #[.int .i64 g.k, .int .i64 g.a, .int .i64 g.b, .int .i64 g.c] → Blk w' (w.heap.size + 1) 27 #[.int .i64 x.n, .slice A1 x.es.length c1] → w'.cell? ⟨w.heap.size, 0, none⟩ = some (.int .i64 g.k) ∧ w'.cell? ⟨w.heap.size, 1, none⟩ = some (.int .i64 g.a) ∧ w'.cell? ⟨w.heap.size, 2, none⟩ = some (.int .i64 g.b) ∧ w'.cell? ⟨w.heap.size, 3, none⟩ = some (.int .i64 g.c) ∧ w'.cell? ⟨w.heap.size + 1, 0, none⟩ = some (.int .i64 x.n) ∧ w'.cell? ⟨w.heap.size + 1, 1, none⟩ = some (.slice A1 x.es.length c1)) := fun w' q1 q2 => ⟨q1.cell 0, q1.cell 1, q1.cell 2, q1.cell 3, q2.cell 0, q2.cell 1⟩
        go_wp2
        go_region_held3 (fun w' => w'.cell? ⟨w.heap.size, 0, none⟩ = some (.int .i64 g.k) ∧ w'.cell? ⟨w.heap.size, 1, none⟩ = some (.int .i64 g.a) ∧ w'.cell? ⟨w.heap.size, 2, none⟩ = some (.int .i64 g.b) ∧ w'.cell? ⟨w.heap.size, 3, none⟩ = some (.int .i64 g.c) ∧ w'.cell? ⟨w.heap.size + 1, 0, none⟩ = some (.int .i64 x.n) ∧ w'.cell? ⟨w.heap.size + 1, 1, none⟩ = some (.slice A1 x.es.length c1))
          (first | go_keep | exact HK.out _ (by assumption) (by assumption))
          (first
            | (go_at_call 30; refine (impl_DecomposeGate_any g _).mono ?_; rintro e w3 ⟨v3, rfl, hl3, hy3⟩; replace hy3 : Ext w1 w3 := Ext.trans (Ext.refl w1).drew hy3; have hx3 := hx.trans hy3; have hc3 := hc.ext hy3; have hd3 := hd.ext hy3; obtain ⟨A3, c3, rfl, hr3⟩ := own_slice hl3)
            | (go_at_call 6; refine (impl_OrientGates_of A3 _ c3 (dec g) _ x _ hr3 ((hG.up hx3 (Nat.le_refl _)).more hx3.size) (by omega) (HSW.out h11)).mono ?_; rintro e w4 ⟨v4, rfl, hl4, hy4⟩; have hx4 := hx3.trans hy4; have hc4 := hc3.ext hy4; have hd4 := hd3.ext hy4))
        go_wp2
        go_ret2
        refine ⟨v4, by rw [← HS.out.1]; rfl, ?_, hx4⟩
        rw [← HS.out.2]
        exact own_base hl4 hx3.size
    · go_wp2_with fail
      refine (impl_HasEdge_any _ x g.a g.b _ ((hG.up hx (Nat.le_refl _)).more hx.size) hn).mono ?_
      rintro e w2 ⟨rfl, hy2⟩
      have hx2 := hx.trans hy2
      replace hc := hc.ext hy2
      replace hd := hd.ext hy2
      clear b0 b1 b2 b3 d0 d1
      have b0 : w2.cell? ⟨w.heap.size, 0, none⟩ = some (.int .i64 g.k) := hc.cell 0
      have b1 : w2.cell? ⟨w.heap.size, 1, none⟩ = some (.int .i64 g.a) := hc.cell 1
      have b2 : w2.cell? ⟨w.heap.size, 2, none⟩ = some (.int .i64 g.b) := hc.cell 2
      have b3 : w2.cell? ⟨w.heap.size, 3, none⟩ = some (.int .i64 g.c) := hc.cell 3
      have d0 : w2.cell? ⟨w.heap.size + 1, 0, none⟩ = some (.int .i64 x.n) := hd.cell 0
      have d1 : w2.cell? ⟨w.heap.size + 1, 1, none⟩ = some (.slice A1 x.es.length c1) := hd.cell 1
      cases he : hasE x.es g.a g.b
      · go_wp2_with fail
        refine (impl_HasEdge_any _ x g.b g.a _ ((hG.up hx2 (Nat.le_refl _)).more hx2.size) hn).mono ?_
        rintro e w3 ⟨rfl, hy3⟩
        have hx3 := hx2.trans hy3
        replace hc := hc.ext hy3
        replace hd := hd.ext hy3
        clear b0 b1 b2 b3 d0 d1
        have b0 : w3.cell? ⟨w.heap.size, 0, none⟩ = some (.int .i64 g.k) := hc.cell 0
        have b1 : w3.cell? ⟨w.heap.size, 1, none⟩ = some (.int .i64 g.a) := hc.cell 1
        have b2 : w3.cell? ⟨w.heap.size, 2, none⟩ = some (.int .i64 g.b) := hc.cell 2
        have b3 : w3.cell? ⟨w.heap.size, 3, none⟩ = some (.int .i64 g.c) := hc.cell 3
        have d0 : w3.cell? ⟨w.heap.size + 1, 0, none⟩ = some (.int .i64 x.n) := hd.cell 0
        have d1 : w3.cell? ⟨w.heap.size + 1, 1, none⟩ = some (.slice A1 x.es.length c1) := hd.cell 1
        cases he2 : hasE x.es g.b g.a
        · have HO := Lib.hid (oriL_9c hv h9 he he2)
          have HL := Lib.hid (oriL_no HO.out)
          have h11 : (g.k == 11) = false := by rw [beq_iff_eq] at h9; rw [h9]; rfl
          go_wp2
          go_ret2
          refine ⟨_, by rw [HO.out]; rfl, ?_, hx3⟩
          rw [HL.out]
          exact World.ownsRow_nil _ _ _ _
        · have HO := Lib.hid (oriL_9b hv h9 he he2)
          have hz := hx3
          clear hx hx1 hx2 hy3
          go_wp2_with (first | (go_at_call 28; refine (impl_one_any _ _ _ hz).mono ?_; clear hz; rintro e w' ⟨rfl, hz⟩) | (go_at_call 29; refine (impl_cx_any _ _ _ hz).mono ?_; clear hz; rintro e w' ⟨rfl, hz⟩))
          go_ret2
          refine ⟨_, by rw [HO.out.1]; rfl, ?_, hz.alloc _⟩
          rw [HO.out.2]
          exact own_lit hz _ _ 4 5 _ _ rfl (by simp [Gt.cells, g1, gcx]) rfl (by omega)
      · have HO := Lib.hid (oriL_9a hv h9 he)
        go_wp2
        go_ret2
        refine ⟨_, by rw [HO.out.1]; rfl, ?_, hx2.alloc _⟩
        rw [HO.out.2]
        exact own_lit hx2 _ _ 4 1 _ _ rfl (by simp [Gt.cells]) rfl (by omega)
  · have HO : Hid (oriOk x g = true) := by unfold Hid oriOk; rw [hv, ha]; rfl
    have HL := Lib.hid (oriL_1 HO.out ha)
    go_wp2
    go_ret2
    refine ⟨_, by rw [HO.out]; rfl, ?_, hx.alloc _⟩
    rw [HL.out]
    exact own_lit hx _ _ 4 1 _ _ rfl (by simp [Gt.cells]) rfl (by omega)
theorem impl_OrientGate_any (x : Gr) (g : Gt) (hn : x.es.length ≤ 100000000) : OriC x g := by
  refine impl_OrientGate_pre x g hn (fun h g' hg' => impl_OrientGate_pre x g' hn (fun h' => ?_))
  rw [dec_11 h] at hg'
  simp at hg'
  rcases hg' with rfl | rfl | rfl <;> cases h'
end Go.Proofs.Ytofbmkpfliofeaa
