/-
  Helper text (no claim of its own): validity of a compiled program, by the program and by the reference.
-/
import Derived.Test.YteecjnnompjmiacGreatDoorVop
import Derived.Test.YteecjnnompjmiacGreatDoorPerm
import Derived.Test.YteecjnnompjmiacGreatDoorCm
namespace Go.Proofs.YteecjnnompjmiacGreatDoor
open Go.ChangeShapes Go.WideShapes Go.ChangeAt Go.RowKit Go.Deep
def okRun (n bits : Int) (k : Nat) (o : Oq) : Bool := vOp o n bits && !(decide ((k : Int) < o.cond)) && (!(o.k == 2) || o.bit == (k : Int))
def runS (n bits : Int) (s : Option Nat) (o : Oq) : Option Nat :=
  match s with
  | none => none
  | some k => if okRun n bits k o = true then some (if (o.k == 2) = true then k + 1 else k) else none
def runF (n bits : Int) (l : List Oq) : Option Nat := l.foldl (runS n bits) (some 0)
def lst (l : List Oq) (n bits : Int) : Bool := (runF n bits l).any fun k => (k : Int) == bits
theorem runS_none (n bits : Int) (l : List Oq) : l.foldl (runS n bits) none = none := by
  induction l with
  | nil => rfl
  | cons o l ih => exact ih
theorem runF_snoc {n bits : Int} {l : List Oq} {k : Nat} {o : Oq} (h : l[k]? = some o) : runF n bits (l.take (k + 1)) = runS n bits (runF n bits (l.take k)) o := by
  unfold runF; rw [take_snoc h, List.foldl_append]; rfl
theorem lst_no {n bits : Int} {l : List Oq} {k j : Nat} {o : Oq} (h : l[k]? = some o) (hk : runF n bits (l.take k) = some j) (ho : okRun n bits j o = false) : lst l n bits = false := by
  have h1 := runF_snoc (n := n) (bits := bits) h
  rw [hk] at h1
  have h2 : runS n bits (some j) o = none := by simp [runS, ho]
  rw [h2] at h1
  have h3 : runF n bits l = none := by
    have e : l = l.take (k + 1) ++ l.drop (k + 1) := (List.take_append_drop _ _).symm
    unfold runF at h1 ⊢
    rw [e, List.foldl_append, h1]
    exact runS_none _ _ _
  simp [lst, h3]
theorem runF_yes {n bits : Int} {l : List Oq} {k j : Nat} {o : Oq} (h : l[k]? = some o) (hk : runF n bits (l.take k) = some j) (ho : okRun n bits j o = true) : runF n bits (l.take (k + 1)) = some (if (o.k == 2) = true then j + 1 else j) := by
  rw [runF_snoc h, hk]
  simp [runS, ho]
theorem okRun_v {n bits : Int} {j : Nat} {o : Oq} (h : vOp o n bits = false) : okRun n bits j o = false := by simp [okRun, h]
theorem okRun_c {n bits : Int} {j : Nat} {o : Oq} (h : (j : Int) < o.cond) : okRun n bits j o = false := by simp [okRun, h]
theorem okRun_b {n bits : Int} {j : Nat} {o : Oq} (h : (o.k == 2) = true) (hb : (o.bit == (j : Int)) = false) : okRun n bits j o = false := by simp [okRun, h, hb]
theorem okRun_n {n bits : Int} {j : Nat} {o : Oq} (hv : vOp o n bits = true) (hc : ¬ (j : Int) < o.cond) (h : (o.k == 2) = false) : okRun n bits j o = true := by simp [okRun, hv, hc, h]
theorem okRun_m {n bits : Int} {j : Nat} {o : Oq} (hv : vOp o n bits = true) (hc : ¬ (j : Int) < o.cond) (hb : (o.bit == (j : Int)) = true) : okRun n bits j o = true := by simp [okRun, hv, hc, hb]
theorem lst_end {n bits : Int} {l : List Oq} {j : Nat} (h : runF n bits l = some j) : lst l n bits = ((j : Int) == bits) := by simp [lst, h]
def noA (l : List Oq) : Bool := l.all fun o => !(o.k == 3)
theorem noA_no {l : List Oq} {k : Nat} {o : Oq} (h : l[k]? = some o) (ho : (o.k == 3) = true) : noA l = false := by
  unfold noA
  rw [Bool.eq_false_iff]
  intro ha
  rw [List.all_eq_true] at ha
  have := ha o (List.mem_of_getElem? h)
  simp [ho] at this
theorem noA_snoc {l : List Oq} {k : Nat} {o : Oq} (h : l[k]? = some o) (hk : noA (l.take k) = true) (ho : (o.k == 3) = false) : noA (l.take (k + 1)) = true := by
  unfold noA at *
  rw [take_snoc h, List.all_append, hk]
  simp [ho]
def isRunF (x : Cm) : Bool := inB x.n 1 4 && inB x.bits 0 3 && lst x.ops x.n x.bits
def vC (x : Cm) : Bool := perm x.st && perm x.fin && ((x.st.length : Int) == x.n) && ((x.fin.length : Int) == x.n) && decide (x.ops.length ≤ 1200) && inB x.bits 0 3 && lst x.ops x.n x.bits && noA x.ops
theorem perm_range {p : List Int} (h : perm p = true) : 1 ≤ p.length ∧ p.length ≤ 4 := by
  unfold perm at h
  simp at h
  omega
set_option maxRecDepth 100000 in
set_option maxHeartbeats 4000000 in
theorem l43List_any (A1 A2 A3 : Option Addr) (c1 c2 c3 : Nat) (x : Cm) (w : World) (h1 : Rd w w.heap.size 8 A1 x.ops.length (ocells x.ops)) (s1 : x.ops.length ≤ 100000000) :
    Calls Tryz.prog 46 #[.agg #[.int .i64 x.n, .int .i64 x.bits, .slice A1 x.ops.length c1, .slice A2 x.st.length c2, .slice A3 x.fin.length c3]] w fun e w' => e = .returned (.bool (lst x.ops x.n x.bits)) ∧ Ext w w' := by
  go_enter Tryz.func46, Tryz.ntmps46
  go_wp2
  go_loopw [3, 4] (fun kn i wr => ∃ k j : Nat, k ≤ x.ops.length ∧ j ≤ k ∧ i = .int .i64 k ∧ kn = .int .i64 j ∧ Hid (runF x.n x.bits (x.ops.take k) = some j) ∧ Blk wr w.heap.size 25 #[.int .i64 x.n, .int .i64 x.bits, .slice A1 x.ops.length c1, .slice A2 x.st.length c2, .slice A3 x.fin.length c3] ∧ Ext w wr) (fun _ i _ => x.ops.length - (intOf i).toNat)
  case atStart => exact ⟨0, 0, Nat.zero_le _, Nat.zero_le _, rfl, rfl, Lib.hid rfl, Blk.new _ _ _, (by repeat (first | exact Ext.refl _ | assumption | refine Ext.alloc ?_ _ | refine Ext.drewN ?_ _ | refine Ext.drew ?_))⟩
  case round =>
    obtain ⟨k, j, hk, hj, rfl, rfl, HQ, hB, hx⟩ := hrel
    have b0 : wr.cell? ⟨w.heap.size, 0, none⟩ = some (.int .i64 x.n) := hB.cell 0
    have b1 : wr.cell? ⟨w.heap.size, 1, none⟩ = some (.int .i64 x.bits) := hB.cell 1
    have b2 : wr.cell? ⟨w.heap.size, 2, none⟩ = some (.slice A1 x.ops.length c1) := hB.cell 2
    have hltw := hB.lt
    by_cases hlt : k < x.ops.length
    · obtain ⟨b, o, g, rfl, hb, hg, h0, h1', h2, h3, h4, h5, h6, h7⟩ := op_at (h1.ext hx) hlt
      have HG := Lib.hid hg
      clear hg
      go_wp2_with fail
      refine (spec_IsValidOp_any g x.n x.bits _).mono ?_
      rintro e w1 ⟨rfl, hy1⟩
      have hO : Blk w1 wr.heap.size 39 #[.int .i64 g.k, .int .i64 g.g.k, .int .i64 g.g.a, .int .i64 g.g.b, .int .i64 g.g.c, .int .i64 g.q, .int .i64 g.bit, .int .i64 g.cond] := (Blk.new wr _ _).ext hy1
      have hB1 := (hB.alloc (.cells #[.int .i64 g.k, .int .i64 g.g.k, .int .i64 g.g.a, .int .i64 g.g.b, .int .i64 g.g.c, .int .i64 g.q, .int .i64 g.bit, .int .i64 g.cond] 39)).ext hy1
      have hx1 : Ext w w1 := Ext.trans (hx.alloc _) hy1
      clear h0 h1' h2 h3 h4 h5 h6 h7 b0 b1 b2 hB hx hy1
      have o0 : w1.cell? ⟨wr.heap.size, 0, none⟩ = some (.int .i64 g.k) := hO.cell 0
      have o6 : w1.cell? ⟨wr.heap.size, 6, none⟩ = some (.int .i64 g.bit) := hO.cell 6
      have o7 : w1.cell? ⟨wr.heap.size, 7, none⟩ = some (.int .i64 g.cond) := hO.cell 7
      clear hO
      cases hv : vOp g x.n x.bits
      · have HF := Lib.hid (lst_no HG.out HQ.out (okRun_v hv))
        go_wp2
        go_ret
        exact ⟨ret_bool (HF.out).symm, hx1⟩
      by_cases hc : (j : Int) < g.cond
      · have HF := Lib.hid (lst_no HG.out HQ.out (okRun_c hc))
        go_wp2
        go_ret
        exact ⟨ret_bool (HF.out).symm, hx1⟩
      have hc' : g.cond ≤ (j : Int) := by omega
      cases h2 : (g.k == 2)
      · have HN := Lib.hid (runF_yes HG.out HQ.out (okRun_n hv hc h2))
        rw [if_neg (by simp [h2])] at HN
        clear hc
        go_wp2
        go_roundw
        case rel => exact ⟨k + 1, j, by omega, by omega, by go_num, rfl, HN, hB1, hx1⟩
        case measure => simp [intOf]; omega
      cases hbt : (g.bit == (j : Int))
      · have HF := Lib.hid (lst_no HG.out HQ.out (okRun_b h2 hbt))
        have hbn : (g.bit != (j : Int)) = true := by simp [bne, hbt]
        clear hc
        go_wp2
        go_ret
        exact ⟨ret_bool (HF.out).symm, hx1⟩
      have HN := Lib.hid (runF_yes HG.out HQ.out (okRun_m hv hc hbt))
      rw [if_pos h2] at HN
      have hbn : (g.bit != (j : Int)) = false := by simp [bne, hbt]
      clear hc
      go_wp2
      go_roundw
      case rel => exact ⟨k + 1, j + 1, by omega, by omega, by go_num, by go_num, HN, hB1, hx1⟩
      case measure => simp [intOf]; omega
    · rw [List.take_of_length_le (by omega)] at HQ
      have HF := Lib.hid (lst_end HQ.out)
      go_wp2
      go_ret
      exact ⟨ret_bool (HF.out).symm, hx⟩
set_option maxRecDepth 100000 in
set_option maxHeartbeats 4000000 in
theorem isRun_any (A1 A2 A3 : Option Addr) (c1 c2 c3 : Nat) (x : Cm) (w : World) (h1 : Rd w w.heap.size 8 A1 x.ops.length (ocells x.ops)) (s1 : x.ops.length ≤ 100000000) :
    Calls Tryz.prog 56 #[.agg #[.int .i64 x.n, .int .i64 x.bits, .slice A1 x.ops.length c1, .slice A2 x.st.length c2, .slice A3 x.fin.length c3]] w fun e w' => e = .returned (.bool (isRunF x)) ∧ Ext w w' := by
  go_enter Tryz.func56, Tryz.ntmps56
  by_cases hn : x.n < 1 ∨ 4 < x.n
  · have Hn := Lib.hid hn
    have HF : Hid (isRunF x = false) := by unfold Hid isRunF; rw [inB_no hn]; simp
    clear hn
    go_wp2_with fail
    refine (in_no _ _ _ _ Hn.out).mono ?_
    rintro e w1 ⟨rfl, rfl⟩
    go_wp2
    go_ret
    exact ⟨ret_bool (HF.out).symm, (by repeat (first | exact Ext.refl _ | assumption | refine Ext.alloc ?_ _ | refine Ext.drewN ?_ _ | refine Ext.drew ?_))⟩
  have hn1 : 1 ≤ x.n ∧ x.n ≤ 4 := ⟨by omega, by omega⟩
  have Hn1 := Lib.hid hn1
  clear hn hn1
  go_wp2_with fail
  refine (in_yes _ _ _ _ Hn1.out.1 Hn1.out.2).mono ?_
  rintro e w1 ⟨rfl, rfl⟩
  by_cases hn : x.bits < 0 ∨ 3 < x.bits
  · have Hn := Lib.hid hn
    have HF : Hid (isRunF x = false) := by unfold Hid isRunF; rw [inB_no hn]; simp
    clear hn
    go_wp2_with fail
    refine (in_no _ _ _ _ Hn.out).mono ?_
    rintro e w1 ⟨rfl, rfl⟩
    go_wp2
    go_ret
    exact ⟨ret_bool (HF.out).symm, (by repeat (first | exact Ext.refl _ | assumption | refine Ext.alloc ?_ _ | refine Ext.drewN ?_ _ | refine Ext.drew ?_))⟩
  have hn1 : 0 ≤ x.bits ∧ x.bits ≤ 3 := ⟨by omega, by omega⟩
  have Hn2 := Lib.hid hn1
  clear hn hn1
  go_wp2_with fail
  refine (in_yes _ _ _ _ Hn2.out.1 Hn2.out.2).mono ?_
  rintro e w1 ⟨rfl, rfl⟩
  have HI : Hid (isRunF x = lst x.ops x.n x.bits) := by unfold Hid isRunF; rw [inB_yes Hn1.out.1 Hn1.out.2, inB_yes Hn2.out.1 Hn2.out.2]; rfl
  go_wp2
  go_loopw [3, 19] (fun kn i wr => ∃ k j : Nat, k ≤ x.ops.length ∧ j ≤ k ∧ i = .int .i64 k ∧ kn = .int .i64 j ∧ Hid (runF x.n x.bits (x.ops.take k) = some j) ∧ Blk wr w.heap.size 25 #[.int .i64 x.n, .int .i64 x.bits, .slice A1 x.ops.length c1, .slice A2 x.st.length c2, .slice A3 x.fin.length c3] ∧ Ext w wr) (fun _ i _ => x.ops.length - (intOf i).toNat)
  case atStart => exact ⟨0, 0, Nat.zero_le _, Nat.zero_le _, rfl, rfl, Lib.hid rfl, Blk.new _ _ _, (by repeat (first | exact Ext.refl _ | assumption | refine Ext.alloc ?_ _ | refine Ext.drewN ?_ _ | refine Ext.drew ?_))⟩
  case round =>
    obtain ⟨k, j, hk, hj, rfl, rfl, HQ, hB, hx⟩ := hrel
    have b0 : wr.cell? ⟨w.heap.size, 0, none⟩ = some (.int .i64 x.n) := hB.cell 0
    have b1 : wr.cell? ⟨w.heap.size, 1, none⟩ = some (.int .i64 x.bits) := hB.cell 1
    have b2 : wr.cell? ⟨w.heap.size, 2, none⟩ = some (.slice A1 x.ops.length c1) := hB.cell 2
    have hltw := hB.lt
    by_cases hlt : k < x.ops.length
    · obtain ⟨b, o, g, rfl, hb, hg, h0, h1', h2, h3, h4, h5, h6, h7⟩ := op_at (h1.ext hx) hlt
      have HG := Lib.hid hg
      clear hg
      go_wp2_with fail
      refine (impl_IsValidOp_any g x.n x.bits _).mono ?_
      rintro e w1 ⟨rfl, hy1⟩
      have hO : Blk w1 wr.heap.size 39 #[.int .i64 g.k, .int .i64 g.g.k, .int .i64 g.g.a, .int .i64 g.g.b, .int .i64 g.g.c, .int .i64 g.q, .int .i64 g.bit, .int .i64 g.cond] := (Blk.new wr _ _).ext hy1
      have hB1 := (hB.alloc (.cells #[.int .i64 g.k, .int .i64 g.g.k, .int .i64 g.g.a, .int .i64 g.g.b, .int .i64 g.g.c, .int .i64 g.q, .int .i64 g.bit, .int .i64 g.cond] 39)).ext hy1
      have hx1 : Ext w w1 := Ext.trans (hx.alloc _) hy1
      clear h0 h1' h2 h3 h4 h5 h6 h7 b0 b1 b2 hB hx hy1
      have o0 : w1.cell? ⟨wr.heap.size, 0, none⟩ = some (.int .i64 g.k) := hO.cell 0
      have o6 : w1.cell? ⟨wr.heap.size, 6, none⟩ = some (.int .i64 g.bit) := hO.cell 6
      have o7 : w1.cell? ⟨wr.heap.size, 7, none⟩ = some (.int .i64 g.cond) := hO.cell 7
      clear hO
      cases hv : vOp g x.n x.bits
      · have HF := Lib.hid (lst_no HG.out HQ.out (okRun_v hv))
        go_wp2
        go_ret
        exact ⟨ret_bool (HI.out.trans HF.out).symm, hx1⟩
      by_cases hc : (j : Int) < g.cond
      · have HF := Lib.hid (lst_no HG.out HQ.out (okRun_c hc))
        cases h2 : (g.k == 2)
        · go_wp2
          go_ret
          exact ⟨ret_bool (HI.out.trans HF.out).symm, hx1⟩
        cases hbt : (g.bit == (j : Int))
        · have hbn : (g.bit != (j : Int)) = true := by simp [bne, hbt]
          go_wp2
          go_ret
          exact ⟨ret_bool (HI.out.trans HF.out).symm, hx1⟩
        have hbn : (g.bit != (j : Int)) = false := by simp [bne, hbt]
        go_wp2
        go_ret
        exact ⟨ret_bool (HI.out.trans HF.out).symm, hx1⟩
      have hc' : g.cond ≤ (j : Int) := by omega
      cases h2 : (g.k == 2)
      · have HN := Lib.hid (runF_yes HG.out HQ.out (okRun_n hv hc h2))
        rw [if_neg (by simp [h2])] at HN
        clear hc
        go_wp2
        go_roundw
        case rel => exact ⟨k + 1, j, by omega, by omega, by go_num, rfl, HN, hB1, hx1⟩
        case measure => simp [intOf]; omega
      cases hbt : (g.bit == (j : Int))
      · have HF := Lib.hid (lst_no HG.out HQ.out (okRun_b h2 hbt))
        have hbn : (g.bit != (j : Int)) = true := by simp [bne, hbt]
        clear hc
        go_wp2
        go_ret
        exact ⟨ret_bool (HI.out.trans HF.out).symm, hx1⟩
      have HN := Lib.hid (runF_yes HG.out HQ.out (okRun_m hv hc hbt))
      rw [if_pos h2] at HN
      have hbn : (g.bit != (j : Int)) = false := by simp [bne, hbt]
      clear hc
      go_wp2
      go_roundw
      case rel => exact ⟨k + 1, j + 1, by omega, by omega, by go_num, by go_num, HN, hB1, hx1⟩
      case measure => simp [intOf]; omega
    · rw [List.take_of_length_le (by omega)] at HQ
      have HF := Lib.hid (lst_end HQ.out)
      go_wp2
      go_ret
      exact ⟨ret_bool (HI.out.trans HF.out).symm, hx⟩
set_option maxRecDepth 100000 in
set_option maxHeartbeats 4000000 in
theorem spec_IsValidCompiled_any (A1 A2 A3 : Option Addr) (c1 c2 c3 : Nat) (x : Cm) (w : World) (h1 : Rd w w.heap.size 8 A1 x.ops.length (ocells x.ops)) (s1 : x.ops.length ≤ 100000000) (h2 : Rd w w.heap.size 1 A2 x.st.length (icells x.st)) (h3 : Rd w w.heap.size 1 A3 x.fin.length (icells x.fin)) (s2 : x.st.length ≤ 100000000) (s3 : x.fin.length ≤ 100000000) (k2 : x.st.length ≤ c2) (k3 : x.fin.length ≤ c3) :
    Calls Tryz.prog 27 #[.agg #[.int .i64 x.n, .int .i64 x.bits, .slice A1 x.ops.length c1, .slice A2 x.st.length c2, .slice A3 x.fin.length c3]] w fun e w' => e = .returned (.bool (vC x)) ∧ Ext w w' := by
  go_enter Tryz.func27, Tryz.ntmps27
  go_wp2_with fail
  refine (spec_IsPermutation_any A2 x.st.length c2 x.st _ (h2.ext (by repeat (first | exact Ext.refl _ | assumption | refine Ext.alloc ?_ _ | refine Ext.drewN ?_ _ | refine Ext.drew ?_))) s2 k2).mono ?_
  rintro e w1 ⟨rfl, hy1⟩
  have hB : Blk w1 w.heap.size 25 #[.int .i64 x.n, .int .i64 x.bits, .slice A1 x.ops.length c1, .slice A2 x.st.length c2, .slice A3 x.fin.length c3] := (Blk.new w _ _).ext hy1
  have hx : Ext w w1 := Ext.trans (by repeat (first | exact Ext.refl _ | assumption | refine Ext.alloc ?_ _ | refine Ext.drewN ?_ _ | refine Ext.drew ?_)) hy1
  have bw1_0 : w1.cell? ⟨w.heap.size, 0, none⟩ = some (.int .i64 x.n) := hB.cell 0
  have bw1_1 : w1.cell? ⟨w.heap.size, 1, none⟩ = some (.int .i64 x.bits) := hB.cell 1
  have bw1_2 : w1.cell? ⟨w.heap.size, 2, none⟩ = some (.slice A1 x.ops.length c1) := hB.cell 2
  have bw1_3 : w1.cell? ⟨w.heap.size, 3, none⟩ = some (.slice A2 x.st.length c2) := hB.cell 3
  have bw1_4 : w1.cell? ⟨w.heap.size, 4, none⟩ = some (.slice A3 x.fin.length c3) := hB.cell 4
  cases i1 : perm x.st
  · have HF : Hid (vC x = false) := by unfold Hid vC; rw [i1]; simp
    go_wp2
    go_ret
    exact ⟨ret_bool (HF.out).symm, hx⟩
  go_wp2_with fail
  refine (spec_IsPermutation_any A3 x.fin.length c3 x.fin _ (h3.ext hx) s3 k3).mono ?_
  rintro e w2 ⟨rfl, hy2⟩
  replace hB := hB.ext hy2
  replace hx := hx.trans hy2
  clear bw1_0 bw1_1 bw1_2 bw1_3 bw1_4
  have bw2_0 : w2.cell? ⟨w.heap.size, 0, none⟩ = some (.int .i64 x.n) := hB.cell 0
  have bw2_1 : w2.cell? ⟨w.heap.size, 1, none⟩ = some (.int .i64 x.bits) := hB.cell 1
  have bw2_2 : w2.cell? ⟨w.heap.size, 2, none⟩ = some (.slice A1 x.ops.length c1) := hB.cell 2
  have bw2_3 : w2.cell? ⟨w.heap.size, 3, none⟩ = some (.slice A2 x.st.length c2) := hB.cell 3
  have bw2_4 : w2.cell? ⟨w.heap.size, 4, none⟩ = some (.slice A3 x.fin.length c3) := hB.cell 4
  cases i2 : perm x.fin
  · have HF : Hid (vC x = false) := by unfold Hid vC; rw [i2]; simp
    go_wp2
    go_ret
    exact ⟨ret_bool (HF.out).symm, hx⟩
  cases i3 : ((x.st.length : Int) == x.n)
  · have HF : Hid (vC x = false) := by unfold Hid vC; rw [i3]; simp
    have j3 : ((x.st.length : Int) != x.n) = true := by simp [bne, i3]
    go_wp2
    go_ret
    exact ⟨ret_bool (HF.out).symm, hx⟩
  have j3 : ((x.st.length : Int) != x.n) = false := by simp [bne, i3]
  cases i4 : ((x.fin.length : Int) == x.n)
  · have HF : Hid (vC x = false) := by unfold Hid vC; rw [i4]; simp
    have j4 : ((x.fin.length : Int) != x.n) = true := by simp [bne, i4]
    go_wp2
    go_ret
    exact ⟨ret_bool (HF.out).symm, hx⟩
  have j4 : ((x.fin.length : Int) != x.n) = false := by simp [bne, i4]
  have HR := Lib.hid (perm_range i1)
  by_cases hn : x.bits < 0 ∨ 3 < x.bits
  · have Hn := Lib.hid hn
    have HF : Hid (vC x = false) := by unfold Hid vC; rw [inB_no hn]; simp
    clear hn
    go_wp2_with fail
    refine (l1In_no _ _ _ _ Hn.out).mono ?_
    rintro e w3 ⟨rfl, rfl⟩
    go_wp2
    go_ret
    exact ⟨ret_bool (HF.out).symm, hx⟩
  have hn1 : 0 ≤ x.bits ∧ x.bits ≤ 3 := ⟨by omega, by omega⟩
  have Hn2 := Lib.hid hn1
  clear hn hn1
  go_wp2_with fail
  refine (l1In_yes _ _ _ _ Hn2.out.1 Hn2.out.2).mono ?_
  rintro e w3 ⟨rfl, rfl⟩
  by_cases hl : 1200 < x.ops.length
  · have HF : Hid (vC x = false) := by unfold Hid vC; rw [decide_eq_false (p := x.ops.length ≤ 1200) (by omega)]; simp
    go_wp2
    go_ret
    exact ⟨ret_bool (HF.out).symm, hx⟩
  have hl' : x.ops.length ≤ 1200 := by omega
  clear hl
  go_wp2_with fail
  refine (l43List_any A1 A2 A3 c1 c2 c3 x _ (h1.ext hx) s1).mono ?_
  rintro e w3 ⟨rfl, hy3⟩
  replace hB := hB.ext hy3
  replace hx := hx.trans hy3
  clear bw2_0 bw2_1 bw2_2 bw2_3 bw2_4
  cases i5 : lst x.ops x.n x.bits
  · have HF : Hid (vC x = false) := by unfold Hid vC; rw [i5]; simp
    go_wp2
    go_ret
    exact ⟨ret_bool (HF.out).symm, hx⟩
  have HI : Hid (vC x = noA x.ops) := by unfold Hid vC; rw [i1, i2, i3, i4, i5, decide_eq_true hl', inB_yes Hn2.out.1 Hn2.out.2]; rfl
  go_wp2
  go_loopw [3] (fun i wr => ∃ k : Nat, k ≤ x.ops.length ∧ i = .int .i64 k ∧ Hid (noA (x.ops.take k) = true) ∧ Blk wr w.heap.size 25 #[.int .i64 x.n, .int .i64 x.bits, .slice A1 x.ops.length c1, .slice A2 x.st.length c2, .slice A3 x.fin.length c3] ∧ Ext w wr) (fun i _ => x.ops.length - (intOf i).toNat)
  case atStart => exact ⟨0, Nat.zero_le _, rfl, Lib.hid rfl, hB, hx⟩
  case round =>
    clear hB hx
    obtain ⟨k, hk, rfl, HQ, hB, hx⟩ := hrel
    have hltw := hB.lt
    have b2 : wr.cell? ⟨w.heap.size, 2, none⟩ = some (.slice A1 x.ops.length c1) := hB.cell 2
    by_cases hlt : k < x.ops.length
    · obtain ⟨b, o, g, rfl, hb, hg, h0, h1', h2, h3, h4, h5, h6, h7⟩ := op_at (h1.ext hx) hlt
      have HG := Lib.hid hg
      clear hg
      cases h3k : (g.k == 3)
      · have HN := Lib.hid (noA_snoc HG.out HQ.out h3k)
        go_wp2
        go_roundw
        case rel => exact ⟨k + 1, by omega, by go_num, HN, hB, hx⟩
        case measure => simp [intOf]; omega
      · have HF0 := Lib.hid (noA_no HG.out h3k)
        have HF : Hid (vC x = false) := by unfold Hid vC; rw [HF0.out]; simp
        go_wp2
        go_ret
        exact ⟨ret_bool (HF.out).symm, (by repeat (first | exact Ext.refl _ | assumption | refine Ext.alloc ?_ _ | refine Ext.drewN ?_ _ | refine Ext.drew ?_))⟩
    · rw [List.take_of_length_le (by omega)] at HQ
      go_wp2
      go_ret
      exact ⟨ret_bool (HI.out.trans HQ.out).symm, hx⟩
set_option maxRecDepth 100000 in
set_option maxHeartbeats 4000000 in
theorem impl_IsValidCompiled_any (A1 A2 A3 : Option Addr) (c1 c2 c3 : Nat) (x : Cm) (w : World) (h1 : Rd w w.heap.size 8 A1 x.ops.length (ocells x.ops)) (s1 : x.ops.length ≤ 100000000) (h2 : Rd w w.heap.size 1 A2 x.st.length (icells x.st)) (h3 : Rd w w.heap.size 1 A3 x.fin.length (icells x.fin)) (s2 : x.st.length ≤ 100000000) (s3 : x.fin.length ≤ 100000000) :
    Calls Tryz.prog 36 #[.agg #[.int .i64 x.n, .int .i64 x.bits, .slice A1 x.ops.length c1, .slice A2 x.st.length c2, .slice A3 x.fin.length c3]] w fun e w' => e = .returned (.bool (vC x)) ∧ Ext w w' := by
  go_enter Tryz.func36, Tryz.ntmps36
  go_wp2_with fail
  refine (impl_IsPermutation_any A2 x.st.length c2 x.st _ (h2.ext (by repeat (first | exact Ext.refl _ | assumption | refine Ext.alloc ?_ _ | refine Ext.drewN ?_ _ | refine Ext.drew ?_))) s2).mono ?_
  rintro e w1 ⟨rfl, hy1⟩
  have hB : Blk w1 w.heap.size 25 #[.int .i64 x.n, .int .i64 x.bits, .slice A1 x.ops.length c1, .slice A2 x.st.length c2, .slice A3 x.fin.length c3] := (Blk.new w _ _).ext hy1
  have hx : Ext w w1 := Ext.trans (by repeat (first | exact Ext.refl _ | assumption | refine Ext.alloc ?_ _ | refine Ext.drewN ?_ _ | refine Ext.drew ?_)) hy1
  have bw1_0 : w1.cell? ⟨w.heap.size, 0, none⟩ = some (.int .i64 x.n) := hB.cell 0
  have bw1_1 : w1.cell? ⟨w.heap.size, 1, none⟩ = some (.int .i64 x.bits) := hB.cell 1
  have bw1_2 : w1.cell? ⟨w.heap.size, 2, none⟩ = some (.slice A1 x.ops.length c1) := hB.cell 2
  have bw1_3 : w1.cell? ⟨w.heap.size, 3, none⟩ = some (.slice A2 x.st.length c2) := hB.cell 3
  have bw1_4 : w1.cell? ⟨w.heap.size, 4, none⟩ = some (.slice A3 x.fin.length c3) := hB.cell 4
  cases i1 : perm x.st
  · have HF : Hid (vC x = false) := by unfold Hid vC; rw [i1]; simp
    go_wp2
    go_ret
    exact ⟨ret_bool (HF.out).symm, hx⟩
  go_wp2_with fail
  refine (impl_IsPermutation_any A3 x.fin.length c3 x.fin _ (h3.ext hx) s3).mono ?_
  rintro e w2 ⟨rfl, hy2⟩
  replace hB := hB.ext hy2
  replace hx := hx.trans hy2
  clear bw1_0 bw1_1 bw1_2 bw1_3 bw1_4
  have bw2_0 : w2.cell? ⟨w.heap.size, 0, none⟩ = some (.int .i64 x.n) := hB.cell 0
  have bw2_1 : w2.cell? ⟨w.heap.size, 1, none⟩ = some (.int .i64 x.bits) := hB.cell 1
  have bw2_2 : w2.cell? ⟨w.heap.size, 2, none⟩ = some (.slice A1 x.ops.length c1) := hB.cell 2
  have bw2_3 : w2.cell? ⟨w.heap.size, 3, none⟩ = some (.slice A2 x.st.length c2) := hB.cell 3
  have bw2_4 : w2.cell? ⟨w.heap.size, 4, none⟩ = some (.slice A3 x.fin.length c3) := hB.cell 4
  cases i2 : perm x.fin
  · have HF : Hid (vC x = false) := by unfold Hid vC; rw [i2]; simp
    go_wp2
    go_ret
    exact ⟨ret_bool (HF.out).symm, hx⟩
  cases i3 : ((x.st.length : Int) == x.n)
  · have HF : Hid (vC x = false) := by unfold Hid vC; rw [i3]; simp
    have j3 : ((x.st.length : Int) != x.n) = true := by simp [bne, i3]
    go_wp2
    go_ret
    exact ⟨ret_bool (HF.out).symm, hx⟩
  have j3 : ((x.st.length : Int) != x.n) = false := by simp [bne, i3]
  cases i4 : ((x.fin.length : Int) == x.n)
  · have HF : Hid (vC x = false) := by unfold Hid vC; rw [i4]; simp
    have j4 : ((x.fin.length : Int) != x.n) = true := by simp [bne, i4]
    go_wp2
    go_ret
    exact ⟨ret_bool (HF.out).symm, hx⟩
  have j4 : ((x.fin.length : Int) != x.n) = false := by simp [bne, i4]
  have HR := Lib.hid (perm_range i1)
  by_cases hl : 1200 < x.ops.length
  · have HF : Hid (vC x = false) := by unfold Hid vC; rw [decide_eq_false (p := x.ops.length ≤ 1200) (by omega)]; simp
    go_wp2
    go_ret
    exact ⟨ret_bool (HF.out).symm, hx⟩
  have hl' : x.ops.length ≤ 1200 := by omega
  clear hl
  go_wp2
  go_loopw [40] (fun i wr => ∃ k : Nat, k ≤ x.ops.length ∧ i = .int .i64 k ∧ Hid (noA (x.ops.take k) = true) ∧ Blk wr w.heap.size 25 #[.int .i64 x.n, .int .i64 x.bits, .slice A1 x.ops.length c1, .slice A2 x.st.length c2, .slice A3 x.fin.length c3] ∧ Ext w wr) (fun i _ => x.ops.length - (intOf i).toNat)
  case atStart => exact ⟨0, Nat.zero_le _, rfl, Lib.hid rfl, hB, hx⟩
  case round =>
    clear hB hx
    obtain ⟨k, hk, rfl, HQ, hB, hx⟩ := hrel
    have hltw := hB.lt
    have b2 : wr.cell? ⟨w.heap.size, 2, none⟩ = some (.slice A1 x.ops.length c1) := hB.cell 2
    by_cases hlt : k < x.ops.length
    · obtain ⟨b, o, g, rfl, hb, hg, h0, h1', h2, h3, h4, h5, h6, h7⟩ := op_at (h1.ext hx) hlt
      have HG := Lib.hid hg
      clear hg
      cases h3k : (g.k == 3)
      · have HN := Lib.hid (noA_snoc HG.out HQ.out h3k)
        go_wp2
        go_roundw
        case rel => exact ⟨k + 1, by omega, by go_num, HN, hB.alloc _, hx.alloc _⟩
        case measure => simp [intOf]; omega
      · have HF0 := Lib.hid (noA_no HG.out h3k)
        have HF : Hid (vC x = false) := by unfold Hid vC; rw [HF0.out]; simp
        go_wp2
        go_ret
        exact ⟨ret_bool (HF.out).symm, (by repeat (first | exact Ext.refl _ | assumption | refine Ext.alloc ?_ _ | refine Ext.drewN ?_ _ | refine Ext.drew ?_))⟩
    · rw [List.take_of_length_le (by omega)] at HQ
      have bwr_0 : wr.cell? ⟨w.heap.size, 0, none⟩ = some (.int .i64 x.n) := hB.cell 0
      have bwr_1 : wr.cell? ⟨w.heap.size, 1, none⟩ = some (.int .i64 x.bits) := hB.cell 1
      have bwr_3 : wr.cell? ⟨w.heap.size, 3, none⟩ = some (.slice A2 x.st.length c2) := hB.cell 3
      have bwr_4 : wr.cell? ⟨w.heap.size, 4, none⟩ = some (.slice A3 x.fin.length c3) := hB.cell 4
      go_wp2_with fail
      refine (isRun_any A1 A2 A3 c1 c2 c3 x _ (h1.ext hx) s1).mono ?_
      rintro e w3 ⟨rfl, hy3⟩
      have HI : Hid (vC x = isRunF x) := by
        unfold Hid vC isRunF
        have hr := HR.out
        have hN : x.n = (x.st.length : Int) := by simpa using (beq_iff_eq.1 i3).symm
        rw [inB_yes (x := x.n) (lo := 1) (hi := 4) (by omega) (by omega), i1, i2, i3, i4, HQ.out, decide_eq_true hl']
        simp
      go_wp2
      go_ret
      exact ⟨ret_bool (HI.out).symm, hx.trans hy3⟩
theorem own_cap {w : World} {B e size n c : Nat} {A : Option Addr} {xs : List Value} (h : w.ownsRow B e size (.slice A n c) n xs) : n ≤ c := by
  rcases Nat.eq_zero_or_pos n with h0 | h0
  · omega
  · obtain ⟨g, _, hc⟩ := own_head h h0
    exact hc
theorem spec_IsValidCompiled_own {b0 b1 b2 b3 : Nat} (v : Value) (x : Cm) (w : World) (h : CmOwn w b0 b1 b2 b3 v x) (hs : x.small) :
    Calls Tryz.prog 27 #[v] w fun e w' => e = .returned (.bool (vC x)) ∧ Ext w w' := by
  obtain ⟨A1, A2, A3, c1, c2, c3, rfl, h1, _, h2, _, h3, _⟩ := h
  obtain ⟨s1, s2, s3⟩ := hs
  exact spec_IsValidCompiled_any A1 A2 A3 c1 c2 c3 x w (Rd.own h1) (by omega) (Rd.own h2) (Rd.own h3) (by omega) (by omega) (own_cap h2) (own_cap h3)
theorem impl_IsValidCompiled_at (v : Value) (x : Cm) (w : World) (h : CmAt w w.heap.size v x) (hs : x.small) :
    Calls Tryz.prog 36 #[v] w fun e w' => e = .returned (.bool (vC x)) ∧ Ext w w' := by
  obtain ⟨A1, A2, A3, c1, c2, c3, rfl, h1, h2, h3⟩ := h
  obtain ⟨s1, s2, s3⟩ := hs
  exact impl_IsValidCompiled_any A1 A2 A3 c1 c2 c3 x w h1 (by omega) h2 h3 (by omega) (by omega)
end Go.Proofs.YteecjnnompjmiacGreatDoor
