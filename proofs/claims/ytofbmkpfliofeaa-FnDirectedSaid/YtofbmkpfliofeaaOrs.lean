/-
  Helper text (no claim of its own): orientation of gates by the reference. Printed by gen_orient2.py.
-/
import Derived.Test.YtofbmkpfliofeaaOri
namespace Go.Proofs.Ytofbmkpfliofeaa
open Go.ChangeShapes Go.WideShapes Go.ChangeAt Go.RowKit Go.Deep
set_option maxRecDepth 100000 in
set_option maxHeartbeats 1000000 in
theorem spec_AreCoupled_any (v : Value) (x : Gr) (a b : Int) (w : World) (h : GrAt w w.heap.size v x) (hn : x.es.length ≤ 100000000) :
    Calls Try.prog 31 #[v, .int .i64 a, .int .i64 b] w fun e w' => e = .returned (.bool (hasE x.es a b || hasE x.es b a)) ∧ Ext w w' := by
  obtain ⟨A1, c1, rfl, h1⟩ := h
  have hG : GrAt w w.heap.size (.agg #[.int .i64 x.n, .slice A1 x.es.length c1]) x := ⟨A1, c1, rfl, h1⟩
  clear h1
  go_enter Try.func31, Try.ntmps31
  go_wp2_with fail
  refine (spec_HasEdge_any _ x a b _ ((hG.up (by repeat (first | exact Ext.refl _ | assumption | refine Ext.alloc ?_ _ | refine Ext.drewN ?_ _ | refine Ext.drew ?_)) (Nat.le_refl _)).more (by simp)) hn).mono ?_
  rintro e w1 ⟨rfl, hx1⟩
  have hB : Blk w1 w.heap.size 27 #[.int .i64 x.n, .slice A1 x.es.length c1] := (Blk.new w _ _).ext hx1
  have hx : Ext w w1 := Ext.trans (by repeat (first | exact Ext.refl _ | assumption | refine Ext.alloc ?_ _ | refine Ext.drewN ?_ _ | refine Ext.drew ?_)) hx1
  have b0 : w1.cell? ⟨w.heap.size, 0, none⟩ = some (.int .i64 x.n) := hB.cell 0
  have b1 : w1.cell? ⟨w.heap.size, 1, none⟩ = some (.slice A1 x.es.length c1) := hB.cell 1
  clear hx1
  cases h1 : hasE x.es a b
  · go_wp2_with fail
    refine (spec_HasEdge_any _ x b a _ ((hG.up hx (Nat.le_refl _)).more hx.size) hn).mono ?_
    rintro e w2 ⟨rfl, hx2⟩
    go_wp2
    go_ret
    exact ⟨ret_bool (by rw [h1, Bool.false_or]), hx.trans hx2⟩
  · go_wp2
    go_ret
    exact ⟨ret_bool (by rw [h1, Bool.true_or]), hx⟩

set_option maxRecDepth 100000 in
set_option maxHeartbeats 1000000 in
theorem l40Cx_any (v : Value) (x : Gr) (g : Gt) (w : World) (h : GrAt w w.heap.size v x) (hn : x.es.length ≤ 100000000) :
    Calls Try.prog 33 #[.int .i64 g.a, .int .i64 g.b, v] w fun e w' => ∃ v, e = .returned v ∧ w'.ownsRow w.heap.size 37 4 v (cx1 x g).length (gcells (cx1 x g)) ∧ Ext w w' := by
  obtain ⟨A1, c1, rfl, h1⟩ := h
  have hG : GrAt w w.heap.size (.agg #[.int .i64 x.n, .slice A1 x.es.length c1]) x := ⟨A1, c1, rfl, h1⟩
  clear h1
  go_enter Try.func33, Try.ntmps33
  go_wp2_with fail
  refine (spec_HasEdge_any _ x g.a g.b _ ((hG.up (by repeat (first | exact Ext.refl _ | assumption | refine Ext.alloc ?_ _ | refine Ext.drewN ?_ _ | refine Ext.drew ?_)) (Nat.le_refl _)).more (by simp)) hn).mono ?_
  rintro e w1 ⟨rfl, hx1⟩
  have hx : Ext w w1 := Ext.trans (by repeat (first | exact Ext.refl _ | assumption | refine Ext.alloc ?_ _ | refine Ext.drewN ?_ _ | refine Ext.drew ?_)) hx1
  clear hx1
  cases h1 : hasE x.es g.a g.b
  · have HC : Hid (cx1 x g = [g1 4 g.a, g1 4 g.b, gcx g.b g.a, g1 4 g.a, g1 4 g.b]) := by unfold Hid cx1; rw [if_neg (by simp [h1])]
    go_wp2_with (first | (go_at_call 54; refine (spec_one_any _ _ _ hx).mono ?_; clear hx; rintro e w' ⟨rfl, hx⟩) | (go_at_call 55; refine (spec_cx_any _ _ _ hx).mono ?_; clear hx; rintro e w' ⟨rfl, hx⟩))
    go_ret
    refine ⟨_, rfl, ?_, hx.alloc _⟩
    rw [HC.out]
    exact own_lit hx _ _ 4 5 _ _ rfl (by simp [Gt.cells, g1, gcx]) rfl (by omega)
  · have HC : Hid (cx1 x g = [gcx g.a g.b]) := by unfold Hid cx1; rw [if_pos h1]
    go_wp2_with (first | (go_at_call 55; refine (spec_cx_any _ _ _ hx).mono ?_; clear hx; rintro e w' ⟨rfl, hx⟩))
    go_ret
    refine ⟨_, rfl, ?_, hx.alloc _⟩
    rw [HC.out]
    exact own_lit hx _ _ 4 1 _ _ rfl (by simp [Gt.cells, gcx]) rfl (by omega)

theorem Rd.keepRow {w w' : World} {B size n : Nat} {A : Option Addr} {xs : List Value} {row : Option Nat} (h : Rd w B size A n xs) (hg : w.grownBy w' row) (hB : B ≤ w.heap.size) (hne : ∀ b o, A = some ⟨b, o, none⟩ → row ≠ some b) : Rd w' B size A n xs :=
  ⟨h.1, fun hn => by
    obtain ⟨b, o, e, hb, hc⟩ := h.2 hn
    exact ⟨b, o, e, hb, fun j u hu => (World.cell?_of_block (a := ⟨b, o + j, none⟩) (hg.block b (by omega) (fun e1 => hne b o e e1.symm))).trans (hc j u hu)⟩⟩
theorem flat_snoc {α β : Type} (f : α → List β) {l : List α} {k : Nat} {a : α} (h : l[k]? = some a) : (l.take (k + 1)).flatMap f = (l.take k).flatMap f ++ f a := by
  rw [take_snoc h, List.flatMap_append]; simp

set_option maxRecDepth 100000 in
set_option maxHeartbeats 8000000 in
theorem spec_OrientGate_any (v : Value) (x : Gr) (g : Gt) (w : World) (h : GrAt w w.heap.size v x) (hn : x.es.length ≤ 100000000) :
    Calls Try.prog 14 #[g.val, v] w fun e w' => ∃ v, e = .returned (.tuple #[v, .bool (oriOk x g)]) ∧ w'.ownsRow w.heap.size 37 4 v (oriL x g).length (gcells (oriL x g)) ∧ Ext w w' := by
  obtain ⟨A1, c1, rfl, h1⟩ := h
  have hG : GrAt w w.heap.size (.agg #[.int .i64 x.n, .slice A1 x.es.length c1]) x := ⟨A1, c1, rfl, h1⟩
  clear h1
  go_enter Try.func14, Try.ntmps14
  go_wp2_with fail
  have hx0 : Ext w ((w.alloc (.cells #[.int .i64 g.k, .int .i64 g.a, .int .i64 g.b, .int .i64 g.c] 37)).alloc (.cells #[.int .i64 x.n, .slice A1 x.es.length c1] 27)) := by repeat (first | exact Ext.refl _ | assumption | refine Ext.alloc ?_ _ | refine Ext.drewN ?_ _ | refine Ext.drew ?_)
  have hb0 : Blk ((w.alloc (.cells #[.int .i64 g.k, .int .i64 g.a, .int .i64 g.b, .int .i64 g.c] 37)).alloc (.cells #[.int .i64 x.n, .slice A1 x.es.length c1] 27)) w.heap.size 37 #[.int .i64 g.k, .int .i64 g.a, .int .i64 g.b, .int .i64 g.c] := (Blk.new _ _ _).alloc _
  have hb1 : Blk ((w.alloc (.cells #[.int .i64 g.k, .int .i64 g.a, .int .i64 g.b, .int .i64 g.c] 37)).alloc (.cells #[.int .i64 x.n, .slice A1 x.es.length c1] 27)) (w.heap.size + 1) 27 #[.int .i64 x.n, .slice A1 x.es.length c1] := Blk.newAt (by simp)
  have hz0 : ((w.alloc (.cells #[.int .i64 g.k, .int .i64 g.a, .int .i64 g.b, .int .i64 g.c] 37)).alloc (.cells #[.int .i64 x.n, .slice A1 x.es.length c1] 27)).heap.size = w.heap.size + 1 + 1 := by simp
  generalize ((w.alloc (.cells #[.int .i64 g.k, .int .i64 g.a, .int .i64 g.b, .int .i64 g.c] 37)).alloc (.cells #[.int .i64 x.n, .slice A1 x.es.length c1] 27)) = W at *
  have ho0 : (W.alloc (.cells #[] 37)).ownsRow W.heap.size 37 4 (.slice (some ⟨w.heap.size + 1 + 1, 0, none⟩) 0 0) 0 (gcells []) := own_lit (Ext.refl W) _ _ 4 0 #[] _ (by rw [hz0]) rfl rfl (by omega)
  have HZ := Lib.hid hz0
  clear hz0
  refine (spec_IsValidGate_any g x.n _).mono ?_
  rintro e w1 ⟨rfl, hy1⟩
  have hx1 : Ext W w1 := Ext.trans ((Ext.refl W).alloc _) hy1
  have ho1 := own_ext ho0 hy1
  clear hy1 ho0
  have hc1 := hb0.ext hx1
  have hd1 := hb1.ext hx1
  have b0 : w1.cell? ⟨w.heap.size, 0, none⟩ = some (.int .i64 g.k) := hc1.cell 0
  have b1 : w1.cell? ⟨w.heap.size, 1, none⟩ = some (.int .i64 g.a) := hc1.cell 1
  have b2 : w1.cell? ⟨w.heap.size, 2, none⟩ = some (.int .i64 g.b) := hc1.cell 2
  have b3 : w1.cell? ⟨w.heap.size, 3, none⟩ = some (.int .i64 g.c) := hc1.cell 3
  have d0 : w1.cell? ⟨w.heap.size + 1, 0, none⟩ = some (.int .i64 x.n) := hd1.cell 0
  have d1 : w1.cell? ⟨w.heap.size + 1, 1, none⟩ = some (.slice A1 x.es.length c1) := hd1.cell 1
  clear hc1 hd1
  cases hv : vg g x.n
  · have HO : Hid (oriOk x g = false) := by unfold Hid oriOk; rw [hv]; rfl
    have HL := Lib.hid (oriL_no HO.out)
    go_wp2
    go_ret2
    refine ⟨_, by rw [HO.out]; rfl, ?_, hx0.trans hx1⟩
    rw [HL.out]
    exact own_base ho1 hx0.size
  go_wp2_with fail
  refine (spec_Arity_any _ _).mono ?_
  rintro e w2 ⟨rfl, rfl⟩
  cases ha : (ar g.k == 1)
  · go_wp2_with fail
    refine (spec_AreCoupled_any _ x g.a g.b _ ((hG.up (hx0.trans hx1) (Nat.le_refl _)).more (hx0.trans hx1).size) hn).mono ?_
    rintro e w2 ⟨rfl, hy2⟩
    have hx2 := hx1.trans hy2
    have ho2 := own_ext ho1 hy2
    clear hy2 ho1 hx1 b0 b1 b2 b3 d0 d1
    have hc1 := hb0.ext hx2
    have hd1 := hb1.ext hx2
    have b0 : w2.cell? ⟨w.heap.size, 0, none⟩ = some (.int .i64 g.k) := hc1.cell 0
    have b1 : w2.cell? ⟨w.heap.size, 1, none⟩ = some (.int .i64 g.a) := hc1.cell 1
    have b2 : w2.cell? ⟨w.heap.size, 2, none⟩ = some (.int .i64 g.b) := hc1.cell 2
    have b3 : w2.cell? ⟨w.heap.size, 3, none⟩ = some (.int .i64 g.c) := hc1.cell 3
    have d0 : w2.cell? ⟨w.heap.size + 1, 0, none⟩ = some (.int .i64 x.n) := hd1.cell 0
    have d1 : w2.cell? ⟨w.heap.size + 1, 1, none⟩ = some (.slice A1 x.es.length c1) := hd1.cell 1
    clear hc1 hd1
    cases hcp : (hasE x.es g.a g.b || hasE x.es g.b g.a)
    · have HO : Hid (oriOk x g = false) := by unfold Hid oriOk coup; rw [hv, ha, hcp]; rfl
      have HL := Lib.hid (oriL_no HO.out)
      go_wp2
      go_ret2
      refine ⟨_, by rw [HO.out]; rfl, ?_, hx0.trans hx2⟩
      rw [HL.out]
      exact own_base ho2 hx0.size
    cases h9 : (g.k == 9)
    · have h9' : (g.k != 9) = true := by simp [bne, h9]
      cases h11 : (g.k == 11)
      · have h11' : (g.k != 11) = true := by simp [bne, h11]
        have HO : Hid (oriOk x g = false) := by unfold Hid oriOk coup; rw [hv, ha, hcp, h9, h11]; rfl
        have HL := Lib.hid (oriL_no HO.out)
        go_wp2
        go_ret2
        refine ⟨_, by rw [HO.out]; rfl, ?_, hx0.trans hx2⟩
        rw [HL.out]
        exact own_base ho2 hx0.size
      have h11' : (g.k != 11) = false := by simp [bne, h11]
      have HO : Hid (oriOk x g = true) := by unfold Hid oriOk coup; rw [hv, ha, hcp, h9, h11]; rfl
      have HL := Lib.hid (oriL_2 HO.out ha)
      go_wp2_with fail
      refine (spec_DecomposeGate_any g _).mono ?_
      rintro e w3 ⟨v3, rfl, hl3, hy3⟩
      obtain ⟨A3, c3, rfl, hr3⟩ := own_slice hl3
      have hx3 := hx2.trans hy3
      have ho3 := own_ext ho2 hy3
      have HB3 : Hid (∀ b o, A3 = some ⟨b, o, none⟩ → w2.heap.size ≤ b ∧ b < w3.heap.size) := fun b o e => hl3.lt b (by rw [e]; rfl)
      have HB2 : Hid (∀ q, (Value.slice (some ⟨w.heap.size + 1 + 1, 0, none⟩) 0 0).ownBlock = some q → q < w2.heap.size ∨ w3.heap.size ≤ q) := fun q hq => .inl (ho2.lt q hq).2
      have hz3 := hy3.size
      clear hy3 hl3 hx2 ho2 b0 b1 b2 b3 d0 d1
      have hdl := dec_len g
      generalize hL : (dec g).length = L at *
      have HLL := Lib.hid hL
      clear hL
      go_wp2
      go_loopw [6, 8] (fun v i wr => ∃ k : Nat, k ≤ L ∧ i = .int .i64 k ∧ wr.ownsRow W.heap.size 37 4 v (((dec g).take k).flatMap (cx1 x)).length (gcells (((dec g).take k).flatMap (cx1 x))) ∧ Hid (∀ q, v.ownBlock = some q → q < w2.heap.size ∨ w3.heap.size ≤ q) ∧ Rd wr w3.heap.size 4 A3 L (gcells (dec g)) ∧ Ext W wr ∧ w3.heap.size ≤ wr.heap.size) (fun _ i _ => L - (intOf i).toNat)
      case atStart => exact ⟨0, Nat.zero_le _, rfl, ho3, HB2, hr3, hx3, Nat.le_refl _⟩
      case round =>
        obtain ⟨k, hk, rfl, hown, HV, hR, hX, hzr⟩ := hrel
        by_cases hlt : k < L
        · obtain ⟨b, o, y, rfl, hbb, hg, r0, r1, r2, r3⟩ := gate_at hR hlt
          have HG := Lib.hid hg
          clear hg
          have HS := Lib.hid (flat_snoc (cx1 x) HG.out)
          have hf : (((dec g).take k).flatMap (cx1 x)).length ≤ 100 := by
            have z1 := flat_cx1_len x ((dec g).take k)
            have z2 : ((dec g).take k).length ≤ k := List.length_take_le _ _
            omega
          have hc5 := cx1_len x y
          have HK : Hid (∀ w', Rd w' w3.heap.size 4 (some ⟨b, o, none⟩) L (gcells (dec g)) → Ext W w' → w'.cell? ⟨b, o + k * 4 + 1, none⟩ = some (.int .i64 y.a) ∧ w'.cell? ⟨b, o + k * 4 + 2, none⟩ = some (.int .i64 y.b) ∧ w'.cell? ⟨w.heap.size + 1, 0, none⟩ = some (.int .i64 x.n) ∧ w'.cell? ⟨w.heap.size + 1, 1, none⟩ = some (.slice A1 x.es.length c1)) := by
            intro w' hR' hX'
            obtain ⟨b', o', y', e', _, hy', z0, z1, z2, z3⟩ := gate_at hR' hlt
            injection e' with e'
            injection e' with e1 e2
            subst e1 e2
            have hyy : y' = y := by have := HG.out; rw [hy'] at this; injection this
            subst hyy
            exact ⟨z1, z2, (hb1.ext hX').cell 0, (hb1.ext hX').cell 1⟩
          obtain ⟨q1, q2, q3, q4⟩ := HK.out wr hR hX
          clear r0 r1 r2 r3
          have hk0 : (0 : Int) ≤ (k : Int) := by omega
          have hkL : (k : Int) < (L : Int) := by omega
          go_wp2
          go_region_held3 (fun w' => w'.cell? ⟨b, o + k * 4 + 1, none⟩ = some (.int .i64 y.a) ∧ w'.cell? ⟨b, o + k * 4 + 2, none⟩ = some (.int .i64 y.b) ∧ w'.cell? ⟨w.heap.size + 1, 0, none⟩ = some (.int .i64 x.n) ∧ w'.cell? ⟨w.heap.size + 1, 1, none⟩ = some (.slice A1 x.es.length c1))
            (first | go_keep | exact HK.out _ (by assumption) (by assumption))
            (first
              | (go_at_call 33; refine (l40Cx_any _ x y _ ((hG.up (hx0.trans hX.drew) (Nat.le_refl _)).more (hx0.trans hX.drew).size) hn).mono ?_; rintro e w4 ⟨v4, rfl, hl4, hy4⟩; replace hy4 : Ext wr w4 := Ext.trans (Ext.refl wr).drew hy4; have hR4 := hR.up hy4 hzr; have hX4 := hX.trans hy4; obtain ⟨A4, c4, rfl, hr4⟩ := own_slice hl4)
              | (refine stepGateS (w0 := W) (by rfl) _ _ (by rfl) _ _ (((dec g).take k).flatMap (cx1 x)) (by rfl) (own_ext hown hy4) hX4 A4 _ c4 (cx1 x y) (by rfl) hr4 (by omega) ?_; intro v5 w5 ho5 hX5 hg5 hl5; have hz4 := hy4.size; have hR5 := hR4.keepRow hg5 (by omega) (fun b' o' e1 e2 => by have z1 := HB3.out b' o' e1; have z2 := HV.out b' e2; omega)))
          go_wp2
          go_roundw
          case rel =>
            refine ⟨k + 1, by omega, by go_num, by rw [HS.out, List.length_append]; exact ho5, fun q hq => ?_, hR5, hX5, by have := hg5.size; omega⟩
            rcases hl5 with e | e
            · exact HV.out q (e ▸ hq)
            · rw [e] at hq
              injection hq with hq
              omega
          case measure => simp [intOf]; omega
        · rw [List.take_of_length_le (by rw [HLL.out]; omega)] at hown
          go_wp2
          go_ret2
          refine ⟨_, by rw [HO.out]; rfl, ?_, hx0.trans hX⟩
          rw [HL.out]
          exact own_base hown hx0.size
    have h9' : (g.k != 9) = false := by simp [bne, h9]
    have HO : Hid (oriOk x g = true) := by unfold Hid oriOk coup; rw [hv, ha, hcp, h9]; rfl
    have HL := Lib.hid (oriL_2 HO.out ha)
    go_wp2_with fail
    refine (spec_DecomposeGate_any g _).mono ?_
    rintro e w3 ⟨v3, rfl, hl3, hy3⟩
    obtain ⟨A3, c3, rfl, hr3⟩ := own_slice hl3
    have hx3 := hx2.trans hy3
    have ho3 := own_ext ho2 hy3
    have HB3 : Hid (∀ b o, A3 = some ⟨b, o, none⟩ → w2.heap.size ≤ b ∧ b < w3.heap.size) := fun b o e => hl3.lt b (by rw [e]; rfl)
    have HB2 : Hid (∀ q, (Value.slice (some ⟨w.heap.size + 1 + 1, 0, none⟩) 0 0).ownBlock = some q → q < w2.heap.size ∨ w3.heap.size ≤ q) := fun q hq => .inl (ho2.lt q hq).2
    have hz3 := hy3.size
    clear hy3 hl3 hx2 ho2 b0 b1 b2 b3 d0 d1
    have hdl := dec_len g
    generalize hL : (dec g).length = L at *
    have HLL := Lib.hid hL
    clear hL
    go_wp2
    go_loopw [6, 8] (fun v i wr => ∃ k : Nat, k ≤ L ∧ i = .int .i64 k ∧ wr.ownsRow W.heap.size 37 4 v (((dec g).take k).flatMap (cx1 x)).length (gcells (((dec g).take k).flatMap (cx1 x))) ∧ Hid (∀ q, v.ownBlock = some q → q < w2.heap.size ∨ w3.heap.size ≤ q) ∧ Rd wr w3.heap.size 4 A3 L (gcells (dec g)) ∧ Ext W wr ∧ w3.heap.size ≤ wr.heap.size) (fun _ i _ => L - (intOf i).toNat)
    case atStart => exact ⟨0, Nat.zero_le _, rfl, ho3, HB2, hr3, hx3, Nat.le_refl _⟩
    case round =>
      obtain ⟨k, hk, rfl, hown, HV, hR, hX, hzr⟩ := hrel
      by_cases hlt : k < L
      · obtain ⟨b, o, y, rfl, hbb, hg, r0, r1, r2, r3⟩ := gate_at hR hlt
        have HG := Lib.hid hg
        clear hg
        have HS := Lib.hid (flat_snoc (cx1 x) HG.out)
        have hf : (((dec g).take k).flatMap (cx1 x)).length ≤ 100 := by
          have z1 := flat_cx1_len x ((dec g).take k)
          have z2 : ((dec g).take k).length ≤ k := List.length_take_le _ _
          omega
        have hc5 := cx1_len x y
        have HK : Hid (∀ w', Rd w' w3.heap.size 4 (some ⟨b, o, none⟩) L (gcells (dec g)) → Ext W w' → w'.cell? ⟨b, o + k * 4 + 1, none⟩ = some (.int .i64 y.a) ∧ w'.cell? ⟨b, o + k * 4 + 2, none⟩ = some (.int .i64 y.b) ∧ w'.cell? ⟨w.heap.size + 1, 0, none⟩ = some (.int .i64 x.n) ∧ w'.cell? ⟨w.heap.size + 1, 1, none⟩ = some (.slice A1 x.es.length c1)) := by
          intro w' hR' hX'
          obtain ⟨b', o', y', e', _, hy', z0, z1, z2, z3⟩ := gate_at hR' hlt
          injection e' with e'
          injection e' with e1 e2
          subst e1 e2
          have hyy : y' = y := by have := HG.out; rw [hy'] at this; injection this
          subst hyy
          exact ⟨z1, z2, (hb1.ext hX').cell 0, (hb1.ext hX').cell 1⟩
        obtain ⟨q1, q2, q3, q4⟩ := HK.out wr hR hX
        clear r0 r1 r2 r3
        have hk0 : (0 : Int) ≤ (k : Int) := by omega
        have hkL : (k : Int) < (L : Int) := by omega
        go_wp2
        go_region_held3 (fun w' => w'.cell? ⟨b, o + k * 4 + 1, none⟩ = some (.int .i64 y.a) ∧ w'.cell? ⟨b, o + k * 4 + 2, none⟩ = some (.int .i64 y.b) ∧ w'.cell? ⟨w.heap.size + 1, 0, none⟩ = some (.int .i64 x.n) ∧ w'.cell? ⟨w.heap.size + 1, 1, none⟩ = some (.slice A1 x.es.length c1))
          (first | go_keep | exact HK.out _ (by assumption) (by assumption))
          (first
            | (go_at_call 33; refine (l40Cx_any _ x y _ ((hG.up (hx0.trans hX.drew) (Nat.le_refl _)).more (hx0.trans hX.drew).size) hn).mono ?_; rintro e w4 ⟨v4, rfl, hl4, hy4⟩; replace hy4 : Ext wr w4 := Ext.trans (Ext.refl wr).drew hy4; have hR4 := hR.up hy4 hzr; have hX4 := hX.trans hy4; obtain ⟨A4, c4, rfl, hr4⟩ := own_slice hl4)
            | (refine stepGateS (w0 := W) (by rfl) _ _ (by rfl) _ _ (((dec g).take k).flatMap (cx1 x)) (by rfl) (own_ext hown hy4) hX4 A4 _ c4 (cx1 x y) (by rfl) hr4 (by omega) ?_; intro v5 w5 ho5 hX5 hg5 hl5; have hz4 := hy4.size; have hR5 := hR4.keepRow hg5 (by omega) (fun b' o' e1 e2 => by have z1 := HB3.out b' o' e1; have z2 := HV.out b' e2; omega)))
        go_wp2
        go_roundw
        case rel =>
          refine ⟨k + 1, by omega, by go_num, by rw [HS.out, List.length_append]; exact ho5, fun q hq => ?_, hR5, hX5, by have := hg5.size; omega⟩
          rcases hl5 with e | e
          · exact HV.out q (e ▸ hq)
          · rw [e] at hq
            injection hq with hq
            omega
        case measure => simp [intOf]; omega
      · rw [List.take_of_length_le (by rw [HLL.out]; omega)] at hown
        go_wp2
        go_ret2
        refine ⟨_, by rw [HO.out]; rfl, ?_, hx0.trans hX⟩
        rw [HL.out]
        exact own_base hown hx0.size
  · have HO : Hid (oriOk x g = true) := by unfold Hid oriOk; rw [hv, ha]; rfl
    have HL := Lib.hid (oriL_1 HO.out ha)
    go_wp2_with (at_builtin; refine appGate (w0 := W) rfl _ _ rfl _ _ [] rfl ho1 hx1 g _ _ rfl rfl (by omega) ?_; intro v3 w3 ho3 hx3 hg3 hb3)
    go_ret2
    refine ⟨v3, by rw [HO.out]; rfl, ?_, hx0.trans hx3⟩
    rw [HL.out]
    exact own_base ho3 hx0.size
end Go.Proofs.Ytofbmkpfliofeaa
