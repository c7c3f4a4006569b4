/-
  Helper text (no claim of its own): edges of a graph, and whether gates can be executed on it, by the program and by the reference. Printed by gen_exe.py.
-/
import Derived.Test.YtofbmkpfliofeaaGr
import Derived.Test.YtofbmkpfliofeaaSvg
namespace Go.Proofs.Ytofbmkpfliofeaa
open Go.ChangeShapes Go.WideShapes Go.ChangeAt Go.RowKit Go.Deep
def hitE (a b : Int) (e : Ed) : Bool := e.a == a && e.b == b
def hasE (es : List Ed) (a b : Int) : Bool := es.any (hitE a b)
theorem hasE_yes {es : List Ed} {a b : Int} {k : Nat} {e : Ed} (h : es[k]? = some e) (h1 : (e.a == a) = true) (h2 : (e.b == b) = true) : hasE es a b = true := by
  unfold hasE
  rw [List.any_eq_true]
  exact ⟨e, List.mem_of_getElem? h, by unfold hitE; rw [h1, h2]; rfl⟩
theorem hasE_snoc {es : List Ed} {a b : Int} {k : Nat} {e : Ed} (h : es[k]? = some e) (hk : hasE (es.take k) a b = false) (he : hitE a b e = false) : hasE (es.take (k + 1)) a b = false := by
  unfold hasE at *
  rw [take_snoc h, List.any_append, hk]
  simp [he]
def exe1 (x : Gr) (g : Gt) : Bool := vg g x.n && (ar g.k == 1 || (g.k == 9 && hasE x.es g.a g.b))
def exeN (x : Gr) (gs : List Gt) : Bool := gs.all (exe1 x)
theorem exeN_no {x : Gr} {gs : List Gt} {k : Nat} {g : Gt} (h : gs[k]? = some g) (hg : exe1 x g = false) : exeN x gs = false := by
  unfold exeN
  rw [Bool.eq_false_iff]
  intro ha
  rw [List.all_eq_true] at ha
  rw [ha g (List.mem_of_getElem? h)] at hg
  cases hg
theorem exeN_snoc {x : Gr} {gs : List Gt} {k : Nat} {g : Gt} (h : gs[k]? = some g) (hk : exeN x (gs.take k) = true) (hg : exe1 x g = true) : exeN x (gs.take (k + 1)) = true := by
  unfold exeN at *
  rw [take_snoc h, List.all_append, hk]
  simp [hg]

set_option maxRecDepth 100000 in
set_option maxHeartbeats 1000000 in
theorem spec_HasEdge_any (v : Value) (x : Gr) (a b : Int) (w : World) (h : GrAt w w.heap.size v x) (hn : x.es.length ≤ 100000000) :
    Calls Try.prog 20 #[v, .int .i64 a, .int .i64 b] w fun e w' => e = .returned (.bool (hasE x.es a b)) ∧ Ext w w' := by
  obtain ⟨A1, c1, rfl, h1⟩ := h
  go_enter Try.func20, Try.ntmps20
  go_wp2
  go_loop [7] (fun i => ∃ k : Nat, k ≤ x.es.length ∧ i = .int .i64 k ∧ Hid (hasE (x.es.take k) a b = false)) (fun i => x.es.length - (intOf i).toNat)
  case atStart => exact ⟨0, Nat.zero_le _, rfl, Lib.hid (by simp [hasE])⟩
  case round =>
    obtain ⟨k, hk, rfl, HQ⟩ := hrel
    by_cases hlt : k < x.es.length
    · obtain ⟨b0, o, e, rfl, hb, hg, r0, r1⟩ := edge_at h1 hlt
      have HG := Lib.hid hg
      clear hg
      cases e1 : (e.a == a)
      · have HE : Hid (hitE a b e = false) := by unfold Hid hitE; rw [e1]; rfl
        go_wp2
        go_round
        case rel => exact ⟨k + 1, by omega, by go_num, Lib.hid (hasE_snoc HG.out HQ.out HE.out)⟩
        case measure => simp [intOf]; omega
      · cases e2 : (e.b == b)
        · have HE : Hid (hitE a b e = false) := by unfold Hid hitE; rw [e1, e2]; rfl
          go_wp2
          go_round
          case rel => exact ⟨k + 1, by omega, by go_num, Lib.hid (hasE_snoc HG.out HQ.out HE.out)⟩
          case measure => simp [intOf]; omega
        · have HF := Lib.hid (hasE_yes HG.out e1 e2)
          go_wp2
          go_ret
          exact ⟨ret_bool HF.out.symm, (by repeat (first | exact Ext.refl _ | assumption | refine Ext.alloc ?_ _ | refine Ext.drewN ?_ _ | refine Ext.drew ?_))⟩
    · rw [List.take_of_length_le (by omega)] at HQ
      go_wp2
      go_ret
      exact ⟨ret_bool HQ.out.symm, (by repeat (first | exact Ext.refl _ | assumption | refine Ext.alloc ?_ _ | refine Ext.drewN ?_ _ | refine Ext.drew ?_))⟩

set_option maxRecDepth 100000 in
set_option maxHeartbeats 1000000 in
theorem impl_HasEdge_any (v : Value) (x : Gr) (a b : Int) (w : World) (h : GrAt w w.heap.size v x) (hn : x.es.length ≤ 100000000) :
    Calls Try.prog 17 #[v, .int .i64 a, .int .i64 b] w fun e w' => e = .returned (.bool (hasE x.es a b)) ∧ Ext w w' := by
  obtain ⟨A1, c1, rfl, h1⟩ := h
  go_enter Try.func17, Try.ntmps17
  go_wp2
  go_loopw [12] (fun i wr => ∃ k : Nat, k ≤ x.es.length ∧ i = .int .i64 k ∧ Hid (hasE (x.es.take k) a b = false) ∧ Ext w wr) (fun i _ => x.es.length - (intOf i).toNat)
  case atStart => exact ⟨0, Nat.zero_le _, rfl, Lib.hid (by simp [hasE]), (by repeat (first | exact Ext.refl _ | assumption | refine Ext.alloc ?_ _ | refine Ext.drewN ?_ _ | refine Ext.drew ?_))⟩
  case round =>
    obtain ⟨k, hk, rfl, HQ, hx⟩ := hrel
    by_cases hlt : k < x.es.length
    · obtain ⟨b0, o, e, rfl, hb, hg, r0, r1⟩ := edge_at (h1.ext hx) hlt
      have HG := Lib.hid hg
      clear hg
      cases e1 : (e.a == a)
      · have HE : Hid (hitE a b e = false) := by unfold Hid hitE; rw [e1]; rfl
        go_wp2
        go_roundw
        case rel => exact ⟨k + 1, by omega, by go_num, Lib.hid (hasE_snoc HG.out HQ.out HE.out), hx.alloc _⟩
        case measure => simp [intOf]; omega
      · cases e2 : (e.b == b)
        · have HE : Hid (hitE a b e = false) := by unfold Hid hitE; rw [e1, e2]; rfl
          go_wp2
          go_roundw
          case rel => exact ⟨k + 1, by omega, by go_num, Lib.hid (hasE_snoc HG.out HQ.out HE.out), hx.alloc _⟩
          case measure => simp [intOf]; omega
        · have HF := Lib.hid (hasE_yes HG.out e1 e2)
          go_wp2
          go_ret
          exact ⟨ret_bool HF.out.symm, (by repeat (first | exact Ext.refl _ | assumption | refine Ext.alloc ?_ _ | refine Ext.drewN ?_ _ | refine Ext.drew ?_))⟩
    · rw [List.take_of_length_le (by omega)] at HQ
      go_wp2
      go_ret
      exact ⟨ret_bool HQ.out.symm, hx⟩

set_option maxRecDepth 100000 in
set_option maxHeartbeats 4000000 in
theorem spec_IsExecutable_any (A : Option Addr) (n c : Nat) (gs : List Gt) (v : Value) (x : Gr) (w : World) (h : Rd w w.heap.size 4 A n (gcells gs)) (hv : GrAt w w.heap.size v x) (hn : n ≤ 100000000) (hm : x.es.length ≤ 100000000) :
    Calls Try.prog 10 #[.slice A n c, v] w fun e w' => e = .returned (.bool (exeN x gs)) ∧ Ext w w' := by
  have hlen := Lib.hid (h.len Gt.cells_len (by omega))
  obtain ⟨A1, c1, rfl, h1⟩ := hv
  have hG : GrAt w w.heap.size (.agg #[.int .i64 x.n, .slice A1 x.es.length c1]) x := ⟨A1, c1, rfl, h1⟩
  clear h1
  go_enter Try.func10, Try.ntmps10
  go_wp2
  go_loopw [5] (fun i wr => ∃ k : Nat, k ≤ n ∧ i = .int .i64 k ∧ Hid (exeN x (gs.take k) = true) ∧ Blk wr w.heap.size 27 #[.int .i64 x.n, .slice A1 x.es.length c1] ∧ Ext w wr) (fun i _ => n - (intOf i).toNat)
  case atStart => exact ⟨0, Nat.zero_le _, rfl, Lib.hid (by simp [exeN]), Blk.new _ _ _, (by repeat (first | exact Ext.refl _ | assumption | refine Ext.alloc ?_ _ | refine Ext.drewN ?_ _ | refine Ext.drew ?_))⟩
  case round =>
    obtain ⟨k, hk, rfl, HQ, hB, hx⟩ := hrel
    by_cases hlt : k < n
    · obtain ⟨b, o, g, rfl, hb, hg, r0, r1, r2, r3⟩ := gate_at (h.ext hx) hlt
      have HG := Lib.hid hg
      clear hg
      have hlb := hB.lt
      have q0 : wr.cell? ⟨w.heap.size, 0, none⟩ = some (.int .i64 x.n) := hB.cell 0
      have q1 : wr.cell? ⟨w.heap.size, 1, none⟩ = some (.slice A1 x.es.length c1) := hB.cell 1
      go_wp2_with fail
      refine (spec_IsValidGate_any g x.n _).mono ?_
      rintro e w1 ⟨rfl, hy1⟩
      have hL1 : Blk w1 wr.heap.size 37 #[.int .i64 g.k, .int .i64 g.a, .int .i64 g.b, .int .i64 g.c] := (Blk.new wr _ _).ext hy1
      have hB1 := (hB.alloc (.cells #[.int .i64 g.k, .int .i64 g.a, .int .i64 g.b, .int .i64 g.c] 37)).ext hy1
      have hx1 : Ext w w1 := Ext.trans (hx.alloc _) hy1
      clear hy1 q0 q1 r0 r1 r2 r3 hB
      have p0 : w1.cell? ⟨wr.heap.size, 0, none⟩ = some (.int .i64 g.k) := hL1.cell 0
      have p1 : w1.cell? ⟨wr.heap.size, 1, none⟩ = some (.int .i64 g.a) := hL1.cell 1
      have p2 : w1.cell? ⟨wr.heap.size, 2, none⟩ = some (.int .i64 g.b) := hL1.cell 2
      have q0 : w1.cell? ⟨w.heap.size, 0, none⟩ = some (.int .i64 x.n) := hB1.cell 0
      have q1 : w1.cell? ⟨w.heap.size, 1, none⟩ = some (.slice A1 x.es.length c1) := hB1.cell 1
      cases hv : vg g x.n
      · have HF := Lib.hid (exeN_no HG.out (x := x) (by unfold exe1; rw [hv]; rfl))
        go_wp2
        go_ret
        exact ⟨ret_bool HF.out.symm, hx1⟩
      · go_wp2_with fail
        refine (spec_Arity_any _ _).mono ?_
        rintro e w2 ⟨rfl, rfl⟩
        cases ha : (ar g.k == 1)
        · have ha' : (ar g.k != 1) = true := by simp [bne, ha]
          cases hk9 : (g.k == 9)
          · have hk9' : (g.k != 9) = true := by simp [bne, hk9]
            have HF := Lib.hid (exeN_no HG.out (x := x) (by unfold exe1; rw [hv, ha, hk9]; rfl))
            go_wp2
            go_ret
            exact ⟨ret_bool HF.out.symm, hx1⟩
          · have hk9' : (g.k != 9) = false := by simp [bne, hk9]
            go_wp2_with fail
            refine (spec_HasEdge_any _ x g.a g.b _ ((hG.up hx1 (Nat.le_refl _)).more hx1.size) hm).mono ?_
            rintro e w2 ⟨rfl, hy2⟩
            have hB2 := hB1.ext hy2
            have hx2 := hx1.trans hy2
            clear hy2
            cases he : hasE x.es g.a g.b
            · have HF := Lib.hid (exeN_no HG.out (x := x) (by unfold exe1; rw [hv, ha, hk9, he]; rfl))
              go_wp2
              go_ret
              exact ⟨ret_bool HF.out.symm, hx2⟩
            · have HT : Hid (exe1 x g = true) := by unfold Hid exe1; rw [hv, ha, hk9, he]; rfl
              go_wp2
              go_roundw
              case rel => exact ⟨k + 1, by omega, by go_num, Lib.hid (exeN_snoc HG.out HQ.out HT.out), hB2, hx2⟩
              case measure => simp [intOf]; omega
        · have ha' : (ar g.k != 1) = false := by simp [bne, ha]
          have HT : Hid (exe1 x g = true) := by unfold Hid exe1; rw [hv, ha]; rfl
          go_wp2
          go_roundw
          case rel => exact ⟨k + 1, by omega, by go_num, Lib.hid (exeN_snoc HG.out HQ.out HT.out), hB1, hx1⟩
          case measure => simp [intOf]; omega
    · rw [List.take_of_length_le (by rw [hlen.out]; omega)] at HQ
      have q0 : wr.cell? ⟨w.heap.size, 0, none⟩ = some (.int .i64 x.n) := hB.cell 0
      go_wp2
      go_ret
      exact ⟨ret_bool HQ.out.symm, hx⟩

set_option maxRecDepth 100000 in
set_option maxHeartbeats 4000000 in
theorem impl_IsExecutable_any (A : Option Addr) (n c : Nat) (gs : List Gt) (v : Value) (x : Gr) (w : World) (h : Rd w w.heap.size 4 A n (gcells gs)) (hv : GrAt w w.heap.size v x) (hn : n ≤ 100000000) (hm : x.es.length ≤ 100000000) :
    Calls Try.prog 9 #[.slice A n c, v] w fun e w' => e = .returned (.bool (exeN x gs)) ∧ Ext w w' := by
  have hlen := Lib.hid (h.len Gt.cells_len (by omega))
  obtain ⟨A1, c1, rfl, h1⟩ := hv
  have hG : GrAt w w.heap.size (.agg #[.int .i64 x.n, .slice A1 x.es.length c1]) x := ⟨A1, c1, rfl, h1⟩
  clear h1
  go_enter Try.func9, Try.ntmps9
  go_wp2
  go_loopw [9] (fun i wr => ∃ k : Nat, k ≤ n ∧ i = .int .i64 k ∧ Hid (exeN x (gs.take k) = true) ∧ Blk wr w.heap.size 27 #[.int .i64 x.n, .slice A1 x.es.length c1] ∧ Ext w wr) (fun i _ => n - (intOf i).toNat)
  case atStart => exact ⟨0, Nat.zero_le _, rfl, Lib.hid (by simp [exeN]), Blk.new _ _ _, (by repeat (first | exact Ext.refl _ | assumption | refine Ext.alloc ?_ _ | refine Ext.drewN ?_ _ | refine Ext.drew ?_))⟩
  case round =>
    obtain ⟨k, hk, rfl, HQ, hB, hx⟩ := hrel
    by_cases hlt : k < n
    · obtain ⟨b, o, g, rfl, hb, hg, r0, r1, r2, r3⟩ := gate_at (h.ext hx) hlt
      have HG := Lib.hid hg
      clear hg
      have hlb := hB.lt
      have q0 : wr.cell? ⟨w.heap.size, 0, none⟩ = some (.int .i64 x.n) := hB.cell 0
      have q1 : wr.cell? ⟨w.heap.size, 1, none⟩ = some (.slice A1 x.es.length c1) := hB.cell 1
      go_wp2_with fail
      refine (impl_IsValidGate_any g x.n _).mono ?_
      rintro e w1 ⟨rfl, hy1⟩
      have hL1 : Blk w1 wr.heap.size 37 #[.int .i64 g.k, .int .i64 g.a, .int .i64 g.b, .int .i64 g.c] := (Blk.new wr _ _).ext hy1
      have hB1 := (hB.alloc (.cells #[.int .i64 g.k, .int .i64 g.a, .int .i64 g.b, .int .i64 g.c] 37)).ext hy1
      have hx1 : Ext w w1 := Ext.trans (hx.alloc _) hy1
      clear hy1 q0 q1 r0 r1 r2 r3 hB
      have p0 : w1.cell? ⟨wr.heap.size, 0, none⟩ = some (.int .i64 g.k) := hL1.cell 0
      have p1 : w1.cell? ⟨wr.heap.size, 1, none⟩ = some (.int .i64 g.a) := hL1.cell 1
      have p2 : w1.cell? ⟨wr.heap.size, 2, none⟩ = some (.int .i64 g.b) := hL1.cell 2
      have q0 : w1.cell? ⟨w.heap.size, 0, none⟩ = some (.int .i64 x.n) := hB1.cell 0
      have q1 : w1.cell? ⟨w.heap.size, 1, none⟩ = some (.slice A1 x.es.length c1) := hB1.cell 1
      cases hv : vg g x.n
      · have HF := Lib.hid (exeN_no HG.out (x := x) (by unfold exe1; rw [hv]; rfl))
        go_wp2
        go_ret
        exact ⟨ret_bool HF.out.symm, hx1⟩
      · go_wp2_with fail
        refine (impl_Arity_any _ _).mono ?_
        rintro e w2 ⟨rfl, rfl⟩
        cases ha : (ar g.k == 1)
        · have ha' : (ar g.k != 1) = true := by simp [bne, ha]
          cases hk9 : (g.k == 9)
          · have hk9' : (g.k != 9) = true := by simp [bne, hk9]
            have HF := Lib.hid (exeN_no HG.out (x := x) (by unfold exe1; rw [hv, ha, hk9]; rfl))
            go_wp2
            go_ret
            exact ⟨ret_bool HF.out.symm, hx1⟩
          · have hk9' : (g.k != 9) = false := by simp [bne, hk9]
            go_wp2_with fail
            refine (impl_HasEdge_any _ x g.a g.b _ ((hG.up hx1 (Nat.le_refl _)).more hx1.size) hm).mono ?_
            rintro e w2 ⟨rfl, hy2⟩
            have hB2 := hB1.ext hy2
            have hx2 := hx1.trans hy2
            clear hy2
            cases he : hasE x.es g.a g.b
            · have HF := Lib.hid (exeN_no HG.out (x := x) (by unfold exe1; rw [hv, ha, hk9, he]; rfl))
              go_wp2
              go_ret
              exact ⟨ret_bool HF.out.symm, hx2⟩
            · have HT : Hid (exe1 x g = true) := by unfold Hid exe1; rw [hv, ha, hk9, he]; rfl
              go_wp2
              go_roundw
              case rel => exact ⟨k + 1, by omega, by go_num, Lib.hid (exeN_snoc HG.out HQ.out HT.out), hB2, hx2⟩
              case measure => simp [intOf]; omega
        · have ha' : (ar g.k != 1) = false := by simp [bne, ha]
          have HT : Hid (exe1 x g = true) := by unfold Hid exe1; rw [hv, ha]; rfl
          go_wp2
          go_roundw
          case rel => exact ⟨k + 1, by omega, by go_num, Lib.hid (exeN_snoc HG.out HQ.out HT.out), hB1, hx1⟩
          case measure => simp [intOf]; omega
    · rw [List.take_of_length_le (by rw [hlen.out]; omega)] at HQ
      have q0 : wr.cell? ⟨w.heap.size, 0, none⟩ = some (.int .i64 x.n) := hB.cell 0
      go_wp2
      go_ret
      exact ⟨ret_bool HQ.out.symm, hx⟩

end Go.Proofs.Ytofbmkpfliofeaa
