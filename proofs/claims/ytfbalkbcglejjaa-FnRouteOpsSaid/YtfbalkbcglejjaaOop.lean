/-
  Helper text (no claim of its own): orientation of ops, by the program and by the reference. Printed by gen_orient4.py.
-/
import Derived.Test.YtfbalkbcglejjaaGops
import Derived.Test.YtfbalkbcglejjaaOrm
import Derived.Test.YtfbalkbcglejjaaOrt
namespace Go.Proofs.Ytfbalkbcglejjaa
open Go.ChangeShapes Go.WideShapes Go.ChangeAt Go.RowKit Go.Deep
def oo1k (x : Gr) (o : Oq) : Bool := if (o.k == 1) = true then oriOk x o.g else true
def oo1 (x : Gr) (o : Oq) : List Oq := if (o.k == 1) = true then gops (oriL x o.g) o.cond else [o]
theorem oo1_1 {x : Gr} {o : Oq} (h : (o.k == 1) = true) : oo1 x o = gops (oriL x o.g) o.cond := if_pos h
theorem oo1_n {x : Gr} {o : Oq} (h : (o.k == 1) = false) : oo1 x o = [o] := by unfold oo1; rw [if_neg (by simp [h])]
theorem oo1k_1 {x : Gr} {o : Oq} (h : (o.k == 1) = true) : oo1k x o = oriOk x o.g := if_pos h
theorem oo1k_n {x : Gr} {o : Oq} (h : (o.k == 1) = false) : oo1k x o = true := by unfold oo1k; rw [if_neg (by simp [h])]
def ooAllOk (x : Gr) (os : List Oq) : Bool := os.all (oo1k x)
def ooAll (x : Gr) (os : List Oq) : List Oq := if ooAllOk x os = true then os.flatMap (oo1 x) else []
theorem ooAllOk_no {x : Gr} {os : List Oq} {k : Nat} {o : Oq} (h : os[k]? = some o) (hg : oo1k x o = false) : ooAllOk x os = false := by
  unfold ooAllOk
  cases hh : os.all (oo1k x)
  · rfl
  · rw [List.all_eq_true] at hh
    have := hh o (List.mem_of_getElem? h)
    rw [hg] at this
    cases this
theorem ooAllOk_snoc {x : Gr} {os : List Oq} {k : Nat} {o : Oq} (h : os[k]? = some o) (hk : ooAllOk x (os.take k) = true) (hg : oo1k x o = true) : ooAllOk x (os.take (k + 1)) = true := by
  unfold ooAllOk at *
  rw [take_snoc h, List.all_append, hk]
  simp [hg]
theorem ooAll_no {x : Gr} {os : List Oq} (h : ooAllOk x os = false) : ooAll x os = [] := by unfold ooAll; rw [if_neg (by simp [h])]
theorem ooAll_yes {x : Gr} {os : List Oq} (h : ooAllOk x os = true) : ooAll x os = os.flatMap (oo1 x) := by unfold ooAll; rw [if_pos h]
theorem ooF_snoc {x : Gr} {os : List Oq} {k : Nat} {o : Oq} (h : os[k]? = some o) : (os.take (k + 1)).flatMap (oo1 x) = (os.take k).flatMap (oo1 x) ++ oo1 x o := by
  rw [take_snoc h, List.flatMap_append]; simp
theorem oo1_len (x : Gr) (o : Oq) : (oo1 x o).length ≤ 75 := by
  unfold oo1
  split
  · rw [gops_len]; exact oriL_len _ _
  · simp
theorem ooF_len (x : Gr) (os : List Oq) : (os.flatMap (oo1 x)).length ≤ 75 * os.length := by
  induction os with
  | nil => simp
  | cons o os ih => have := oo1_len x o; rw [List.flatMap_cons, List.length_append, List.length_cons]; omega
theorem ooAll_len (x : Gr) (os : List Oq) : (ooAll x os).length ≤ 75 * os.length := by
  unfold ooAll
  split
  · exact ooF_len x os
  · simp

set_option maxRecDepth 100000 in
set_option maxHeartbeats 8000000 in
theorem impl_OrientOps_any (A : Option Addr) (n c : Nat) (os : List Oq) (v : Value) (x : Gr) (w : World) (h : Rd w w.heap.size 8 A n (ocells os)) (hv : GrAt w w.heap.size v x) (hn : n ≤ 1048576) (hm : x.es.length ≤ 100000000) :
    Calls Try.prog 17 #[.slice A n c, v] w fun e w' => ∃ v, e = .returned (.tuple #[v, .bool (ooAllOk x os)]) ∧ w'.ownsRow w.heap.size 45 8 v (ooAll x os).length (ocells (ooAll x os)) ∧ Ext w w' := by
  have hlen := Lib.hid (h.len Oq.cells_len (by omega))
  obtain ⟨A1, c1, rfl, h1⟩ := hv
  have hG : GrAt w w.heap.size (.agg #[.int .i64 x.n, .slice A1 x.es.length c1]) x := ⟨A1, c1, rfl, h1⟩
  clear h1
  have hx0 : Ext w (w.alloc (.cells #[.int .i64 x.n, .slice A1 x.es.length c1] 27)) := by repeat (first | exact Ext.refl _ | assumption | refine Ext.alloc ?_ _ | refine Ext.drewN ?_ _ | refine Ext.drew ?_)
  have hb1 : Blk (w.alloc (.cells #[.int .i64 x.n, .slice A1 x.es.length c1] 27)) w.heap.size 27 #[.int .i64 x.n, .slice A1 x.es.length c1] := Blk.new _ _ _
  have ho0 : ((w.alloc (.cells #[.int .i64 x.n, .slice A1 x.es.length c1] 27)).alloc (.cells #[] 45)).ownsRow (w.alloc (.cells #[.int .i64 x.n, .slice A1 x.es.length c1] 27)).heap.size 45 8 (.slice (some ⟨w.heap.size + 1, 0, none⟩) 0 0) 0 (ocells []) := own_lit (Ext.refl _) _ _ 8 0 #[] _ (by simp) rfl rfl (by omega)
  have HO0 := Lib.hid ho0
  have HX0 := Lib.hid hx0
  have HB1 := Lib.hid hb1
  clear ho0 hx0 hb1
  go_enter Try.func17, Try.ntmps17
  go_wp2
  have ho0 := HO0.out
  have hx0 := HX0.out
  have hb1 := HB1.out
  clear HO0 HX0 HB1
  have hxs : Ext (w.alloc (.cells #[.int .i64 x.n, .slice A1 x.es.length c1] 27)) ((w.alloc (.cells #[.int .i64 x.n, .slice A1 x.es.length c1] 27)).alloc (.cells #[] 45)) := (Ext.refl _).alloc _
  generalize ((w.alloc (.cells #[.int .i64 x.n, .slice A1 x.es.length c1] 27)).alloc (.cells #[] 45)) = Ws at *
  generalize (w.alloc (.cells #[.int .i64 x.n, .slice A1 x.es.length c1] 27)) = W at *
  go_loopw [6, 14] (fun v i wr => ∃ k : Nat, k ≤ n ∧ i = .int .i64 k ∧ Hid (ooAllOk x (os.take k) = true) ∧ wr.ownsRow W.heap.size 45 8 v ((os.take k).flatMap (oo1 x)).length (ocells ((os.take k).flatMap (oo1 x))) ∧ Ext W wr) (fun _ i _ => n - (intOf i).toNat)
  case atStart => exact ⟨0, Nat.zero_le _, rfl, Lib.hid (by simp [ooAllOk]), ho0, hxs⟩
  case round =>
    obtain ⟨k, hk, rfl, HQ, hown, hX⟩ := hrel
    have hxr := hx0.trans hX
    by_cases hlt : k < n
    · obtain ⟨b, o, y, rfl, hb, hg, r0, r1, r2, r3, r4, r5, r6, r7⟩ := op_at (h.ext hxr) hlt
      have HG := Lib.hid hg
      clear hg
      have hB := hb1.ext hX
      have hlb := hB.lt
      have d0 : wr.cell? ⟨w.heap.size, 0, none⟩ = some (.int .i64 x.n) := hB.cell 0
      have d1 : wr.cell? ⟨w.heap.size, 1, none⟩ = some (.slice A1 x.es.length c1) := hB.cell 1
      have hf : ((os.take k).flatMap (oo1 x)).length ≤ 80000000 := by
        have z1 := ooF_len x (os.take k)
        have z2 : (os.take k).length ≤ k := List.length_take_le _ _
        omega
      have hol := oriL_len x y.g
      have hk0 : (0 : Int) ≤ (k : Int) := by omega
      have hkn : (k : Int) < (n : Int) := by omega
      have HS := Lib.hid (ooF_snoc (x := x) HG.out)
      cases hk1 : (y.k == 1)
      · have HD := Lib.hid (oo1_n (x := x) hk1)
        have HQ2 := Lib.hid (ooAllOk_snoc HG.out HQ.out (oo1k_n hk1))
        go_wp2_with (at_builtin; refine appOp (w0 := W) rfl _ _ rfl _ _ ((os.take k).flatMap (oo1 x)) rfl (hown.alloc _) (hX.alloc _) y _ _ rfl (by simp) (by omega) ?_; intro v1 w1 hown1 hx1 hg1 hb1)
        go_roundw
        case rel => exact ⟨k + 1, by omega, by go_num, HQ2, by rw [HS.out, HD.out, List.length_append]; exact hown1, hx1⟩
        case measure => simp [intOf]; omega
      · have HD := Lib.hid (oo1_1 (x := x) hk1)
        have HE := Lib.hid (oo1k_1 (x := x) hk1)
        have hBo := Lib.hid (Blk.new wr 45 #[.int .i64 y.k, .int .i64 y.g.k, .int .i64 y.g.a, .int .i64 y.g.b, .int .i64 y.g.c, .int .i64 y.q, .int .i64 y.bit, .int .i64 y.cond])
        go_wp2_with fail
        refine (impl_OrientGate_any x y.g hm _ _ ((hG.up (hxr.alloc _) (Nat.le_refl _)).more (hxr.alloc _).size)).mono ?_
        rintro e w1 ⟨v1, rfl, hl1, hy1⟩
        have hbo := hBo.out.ext hy1
        have hlo := hbo.lt
        have e7 : w1.cell? ⟨wr.heap.size, 7, none⟩ = some (.int .i64 y.cond) := hbo.cell 7
        replace hy1 : Ext wr w1 := Ext.trans ((Ext.refl wr).alloc _) hy1
        obtain ⟨A1', c1', rfl, hr1⟩ := own_slice hl1
        have hX1 := hX.trans hy1
        have ho1 := own_ext hown hy1
        clear r0 r1 r2 r3 r4 r5 r6 r7 d0 d1 hl1
        cases hok : oriOk x y.g
        · have HO := Lib.hid (ooAllOk_no HG.out (HE.out.trans hok))
          have HL := Lib.hid (ooAll_no HO.out)
          go_wp2
          go_ret2
          refine ⟨_, by rw [HO.out]; rfl, ?_, hx0.trans hX1⟩
          rw [HL.out]
          exact World.ownsRow_nil _ _ _ _
        · have HQ2 := Lib.hid (ooAllOk_snoc HG.out HQ.out (HE.out.trans hok))
          have HL := Lib.hid (gops_len (oriL x y.g) y.cond)
          go_wp2_with (first
            | (go_at_call 38; refine (impl_GateOps_any A1' _ c1' (oriL x y.g) y.cond _ hr1 (by omega)).mono ?_; rintro e w2 ⟨v2, rfl, ho2, hy2⟩; have hX2 := hX1.trans hy2; obtain ⟨A2, c2, rfl, hr2⟩ := own_slice ho2)
            | (at_builtin; refine appOpS (w0 := W) rfl _ _ rfl _ _ ((os.take k).flatMap (oo1 x)) rfl (own_ext ho1 hy2) hX2 A2 _ c2 (gops (oriL x y.g) y.cond) rfl hr2 (by rw [HL.out]; omega) ?_; intro v3 w3 ho3 hX3 hg3 hl3))
          go_roundw
          case rel => exact ⟨k + 1, by omega, by go_num, HQ2, by rw [HS.out, HD.out, List.length_append]; exact ho3, hX3⟩
          case measure => simp [intOf]; omega
    · rw [List.take_of_length_le (by rw [hlen.out]; omega)] at hown HQ
      have HL := Lib.hid (ooAll_yes HQ.out)
      go_wp2
      go_ret2
      refine ⟨_, by rw [HQ.out]; rfl, ?_, hxr⟩
      rw [HL.out]
      exact own_base hown hx0.size
end Go.Proofs.Ytfbalkbcglejjaa
