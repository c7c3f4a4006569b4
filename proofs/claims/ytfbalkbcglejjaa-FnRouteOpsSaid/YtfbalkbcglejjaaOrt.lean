/-
  Helper text (no claim of its own): orientation of lists of gates by the reference.
-/
import Derived.Test.YtfbalkbcglejjaaOrs
namespace Go.Proofs.Ytfbalkbcglejjaa
open Go.ChangeShapes Go.WideShapes Go.ChangeAt Go.RowKit Go.Deep
set_option maxRecDepth 100000 in
set_option maxHeartbeats 8000000 in
theorem spec_OrientGates_any (A : Option Addr) (n c : Nat) (gs : List Gt) (v : Value) (x : Gr) (w : World) (h : Rd w w.heap.size 4 A n (gcells gs)) (hv : GrAt w w.heap.size v x) (hn : n ≤ 1048576) (hm : x.es.length ≤ 100000000) :
    Calls Try.prog 21 #[.slice A n c, v] w fun e w' => ∃ v, e = .returned (.tuple #[v, .bool (oriAllOk x gs)]) ∧ w'.ownsRow w.heap.size 43 4 v (oriAll x gs).length (gcells (oriAll x gs)) ∧ Ext w w' := by
  have hlen := Lib.hid (h.len Gt.cells_len (by omega))
  obtain ⟨A1, c1, rfl, h1⟩ := hv
  have hG : GrAt w w.heap.size (.agg #[.int .i64 x.n, .slice A1 x.es.length c1]) x := ⟨A1, c1, rfl, h1⟩
  clear h1
  have hx0 : Ext w (w.alloc (.cells #[.int .i64 x.n, .slice A1 x.es.length c1] 27)) := by repeat (first | exact Ext.refl _ | assumption | refine Ext.alloc ?_ _ | refine Ext.drewN ?_ _ | refine Ext.drew ?_)
  have hb1 : Blk (w.alloc (.cells #[.int .i64 x.n, .slice A1 x.es.length c1] 27)) w.heap.size 27 #[.int .i64 x.n, .slice A1 x.es.length c1] := Blk.new _ _ _
  have ho0 : ((w.alloc (.cells #[.int .i64 x.n, .slice A1 x.es.length c1] 27)).alloc (.cells #[] 43)).ownsRow (w.alloc (.cells #[.int .i64 x.n, .slice A1 x.es.length c1] 27)).heap.size 43 4 (.slice (some ⟨w.heap.size + 1, 0, none⟩) 0 0) 0 (gcells []) := own_lit (Ext.refl _) _ _ 4 0 #[] _ (by simp) rfl rfl (by omega)
  have HO0 := Lib.hid ho0
  have HX0 := Lib.hid hx0
  have HB1 := Lib.hid hb1
  clear ho0 hx0 hb1
  go_enter Try.func21, Try.ntmps21
  go_wp2
  have ho0 := HO0.out
  have hx0 := HX0.out
  have hb1 := HB1.out
  clear HO0 HX0 HB1
  have hxs : Ext (w.alloc (.cells #[.int .i64 x.n, .slice A1 x.es.length c1] 27)) ((w.alloc (.cells #[.int .i64 x.n, .slice A1 x.es.length c1] 27)).alloc (.cells #[] 43)) := (Ext.refl _).alloc _
  generalize ((w.alloc (.cells #[.int .i64 x.n, .slice A1 x.es.length c1] 27)).alloc (.cells #[] 43)) = Ws at *
  generalize (w.alloc (.cells #[.int .i64 x.n, .slice A1 x.es.length c1] 27)) = W at *
  go_loopw [6, 7] (fun v i wr => ∃ k : Nat, k ≤ n ∧ i = .int .i64 k ∧ Hid (oriAllOk x (gs.take k) = true) ∧ wr.ownsRow W.heap.size 43 4 v ((gs.take k).flatMap (oriL x)).length (gcells ((gs.take k).flatMap (oriL x))) ∧ Ext W wr) (fun _ i _ => n - (intOf i).toNat)
  case atStart => exact ⟨0, Nat.zero_le _, rfl, Lib.hid (by simp [oriAllOk]), ho0, hxs⟩
  case round =>
    obtain ⟨k, hk, rfl, HQ, hown, hX⟩ := hrel
    have hxr := hx0.trans hX
    by_cases hlt : k < n
    · obtain ⟨b, o, g, rfl, hb, hg, r0, r1, r2, r3⟩ := gate_at (h.ext hxr) hlt
      have HG := Lib.hid hg
      clear hg
      have hB := hb1.ext hX
      have hlb := hB.lt
      have d0 : wr.cell? ⟨w.heap.size, 0, none⟩ = some (.int .i64 x.n) := hB.cell 0
      have d1 : wr.cell? ⟨w.heap.size, 1, none⟩ = some (.slice A1 x.es.length c1) := hB.cell 1
      have hf : ((gs.take k).flatMap (oriL x)).length ≤ 80000000 := by
        have z1 := oriF_len x (gs.take k)
        have z2 : (gs.take k).length ≤ k := List.length_take_le _ _
        omega
      have hol := oriL_len x g
      have hk0 : (0 : Int) ≤ (k : Int) := by omega
      have hkn : (k : Int) < (n : Int) := by omega
      have HK : Hid (∀ w', Ext wr w' → w'.cell? ⟨b, o + k * 4, none⟩ = some (.int .i64 g.k) ∧ w'.cell? ⟨b, o + k * 4 + 1, none⟩ = some (.int .i64 g.a) ∧ w'.cell? ⟨b, o + k * 4 + 2, none⟩ = some (.int .i64 g.b) ∧ w'.cell? ⟨b, o + k * 4 + 3, none⟩ = some (.int .i64 g.c) ∧ w'.cell? ⟨w.heap.size, 0, none⟩ = some (.int .i64 x.n) ∧ w'.cell? ⟨w.heap.size, 1, none⟩ = some (.slice A1 x.es.length c1)) := fun w' q => ⟨(q.cell (p := ⟨b, o + k * 4, none⟩) hb).trans r0, (q.cell (p := ⟨b, o + k * 4 + 1, none⟩) hb).trans r1, (q.cell (p := ⟨b, o + k * 4 + 2, none⟩) hb).trans r2, (q.cell (p := ⟨b, o + k * 4 + 3, none⟩) hb).trans r3, (hB.ext q).cell 0, (hB.ext q).cell 1⟩
      go_wp2
      go_region_held3 (fun w' => w'.cell? ⟨b, o + k * 4, none⟩ = some (.int .i64 g.k) ∧ w'.cell? ⟨b, o + k * 4 + 1, none⟩ = some (.int .i64 g.a) ∧ w'.cell? ⟨b, o + k * 4 + 2, none⟩ = some (.int .i64 g.b) ∧ w'.cell? ⟨b, o + k * 4 + 3, none⟩ = some (.int .i64 g.c) ∧ w'.cell? ⟨w.heap.size, 0, none⟩ = some (.int .i64 x.n) ∧ w'.cell? ⟨w.heap.size, 1, none⟩ = some (.slice A1 x.es.length c1))
        (first | go_keep | exact HK.out _ (by assumption))
        (first
          | (go_at_call 46; refine (spec_OrientGate_any _ x g _ ((hG.up hxr.drew (Nat.le_refl _)).more hxr.drew.size) hm).mono ?_; rintro e w1 ⟨v1, rfl, hl1, hy1⟩; replace hy1 : Ext wr w1 := Ext.trans (Ext.refl wr).drew hy1))
      obtain ⟨A1', c1', rfl, hr1⟩ := own_slice hl1
      have hX1 := hX.trans hy1
      have ho1 := own_ext hown hy1
      clear r0 r1 r2 r3 d0 d1 hl1
      cases hok : oriOk x g
      · have HO := Lib.hid (oriAllOk_no HG.out hok)
        have HL := Lib.hid (oriAll_no HO.out)
        go_wp2
        go_ret2
        refine ⟨_, by rw [HO.out]; rfl, ?_, (hx0.trans hX1).alloc _⟩
        rw [HL.out]
        exact own_lit (hx0.trans hX1) _ _ 4 0 #[] _ rfl rfl rfl (by omega)
      · have HQ2 := Lib.hid (oriAllOk_snoc HG.out HQ.out hok)
        have HS := Lib.hid (oriF_snoc (x := x) HG.out)
        go_wp2_with (at_builtin; refine appGateS (w0 := W) rfl _ _ rfl _ _ ((gs.take k).flatMap (oriL x)) rfl ho1 hX1 A1' _ c1' (oriL x g) rfl hr1 (by omega) ?_; intro v2 w2 ho2 hX2 hg2 hl2)
        go_roundw
        case rel => exact ⟨k + 1, by omega, by go_num, HQ2, by rw [HS.out, List.length_append]; exact ho2, hX2⟩
        case measure => simp [intOf]; omega
    · rw [List.take_of_length_le (by rw [hlen.out]; omega)] at hown HQ
      have HL := Lib.hid (oriAll_yes HQ.out)
      go_wp2
      go_ret2
      refine ⟨_, by rw [HQ.out]; rfl, ?_, hxr⟩
      rw [HL.out]
      exact own_base hown hx0.size

theorem oriAll_len (x : Gr) (gs : List Gt) : (oriAll x gs).length ≤ 75 * gs.length := by
  unfold oriAll
  split
  · exact oriF_len x gs
  · simp
end Go.Proofs.Ytfbalkbcglejjaa
