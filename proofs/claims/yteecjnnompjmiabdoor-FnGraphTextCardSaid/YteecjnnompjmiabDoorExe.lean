/-
  Helper text (no claim of its own): edges of a graph, and whether gates can be executed on it, by the program and by the reference. Printed by gen_exe.py.
-/
import Derived.Test.YteecjnnompjmiabDoorGr
import Derived.Test.YteecjnnompjmiabDoorSvg
namespace Go.Proofs.YteecjnnompjmiabDoor
open Go.ChangeShapes Go.WideShapes Go.ChangeAt Go.RowKit Go.Deep
def hitE (a b : Int) (e : Ed) : Bool := e.a == a && e.b == b
def hasE (es : List Ed) (a b : Int) : Bool := es.any (hitE a b)
theorem hasE_yes {es : List Ed} {a b : Int} {k : Nat} {e : Ed} (h : es[k]? = some e) (h1 : (e.a == a) = true) (h2 : (e.b == b) = true) : hasE es a b = true := by
  unfold hasE
  rw [List.any_eq_true]
  exact ⟨e, List.mem_of_getElem? h, by unfold hitE; rw [h1, h2]; rfl⟩
theorem hasE_snoc {es : List Ed} {a b : Int} {k : Nat} {e : Ed} (h : es[k]? = some e) (hk : hasE (es.take k) a b = false) (he : hitE a b e = false) : hasE (es.take (k + 1)) a b = false := by
  unfold hasE at *
  rw [take_snoc h, List.any_append, hk]
  simp [he]
def exe1 (x : Gr) (g : Gt) : Bool := vg g x.n && (ar g.k == 1 || (g.k == 9 && hasE x.es g.a g.b))
def exeN (x : Gr) (gs : List Gt) : Bool := gs.all (exe1 x)
theorem exeN_no {x : Gr} {gs : List Gt} {k : Nat} {g : Gt} (h : gs[k]? = some g) (hg : exe1 x g = false) : exeN x gs = false := by
  unfold exeN
  rw [Bool.eq_false_iff]
  intro ha
  rw [List.all_eq_true] at ha
  rw [ha g (List.mem_of_getElem? h)] at hg
  cases hg
theorem exeN_snoc {x : Gr} {gs : List Gt} {k : Nat} {g : Gt} (h : gs[k]? = some g) (hk : exeN x (gs.take k) = true) (hg : exe1 x g = true) : exeN x (gs.take (k + 1)) = true := by
  unfold exeN at *
  rw [take_snoc h, List.all_append, hk]
  simp [hg]

set_option maxRecDepth 100000 in
set_option maxHeartbeats 1000000 in
theorem spec_HasEdge_any (v : Value) (x : Gr) (a b : Int) (w : World) (h : GrAt w w.heap.size v x) (hn : x.es.length ≤ 100000000) :
    Calls Tryd.prog 45 #[v, .int .i64 a, .int .i64 b] w fun e w' => e = .returned (.bool (hasE x.es a b)) ∧ Ext w w' := by
  obtain ⟨A1, c1, rfl, h1⟩ := h
  go_enter Tryd.func45, Tryd.ntmps45
  go_wp2
  go_loop [7] (fun i => ∃ k : Nat, k ≤ x.es.length ∧ i = .int .i64 k ∧ Hid (hasE (x.es.take k) a b = false)) (fun i => x.es.length - (intOf i).toNat)
  case atStart => exact ⟨0, Nat.zero_le _, rfl, Lib.hid (by simp [hasE])⟩
  case round =>
    obtain ⟨k, hk, rfl, HQ⟩ := hrel
    by_cases hlt : k < x.es.length
    · obtain ⟨b0, o, e, rfl, hb, hg, r0, r1⟩ := edge_at h1 hlt
      have HG := Lib.hid hg
      clear hg
      cases e1 : (e.a == a)
      · have HE : Hid (hitE a b e = false) := by unfold Hid hitE; rw [e1]; rfl
        go_wp2
        go_round
        case rel => exact ⟨k + 1, by omega, by go_num, Lib.hid (hasE_snoc HG.out HQ.out HE.out)⟩
        case measure => simp [intOf]; omega
      · cases e2 : (e.b == b)
        · have HE : Hid (hitE a b e = false) := by unfold Hid hitE; rw [e1, e2]; rfl
          go_wp2
          go_round
          case rel => exact ⟨k + 1, by omega, by go_num, Lib.hid (hasE_snoc HG.out HQ.out HE.out)⟩
          case measure => simp [intOf]; omega
        · have HF := Lib.hid (hasE_yes HG.out e1 e2)
          go_wp2
          go_ret
          exact ⟨ret_bool HF.out.symm, (by repeat (first | exact Ext.refl _ | assumption | refine Ext.alloc ?_ _ | refine Ext.drewN ?_ _ | refine Ext.drew ?_))⟩
    · rw [List.take_of_length_le (by omega)] at HQ
      go_wp2
      go_ret
      exact ⟨ret_bool HQ.out.symm, (by repeat (first | exact Ext.refl _ | assumption | refine Ext.alloc ?_ _ | refine Ext.drewN ?_ _ | refine Ext.drew ?_))⟩

set_option maxRecDepth 100000 in
set_option maxHeartbeats 1000000 in
theorem impl_HasEdge_any (v : Value) (x : Gr) (a b : Int) (w : World) (h : GrAt w w.heap.size v x) (hn : x.es.length ≤ 100000000) :
    Calls Tryd.prog 53 #[v, .int .i64 a, .int .i64 b] w fun e w' => e = .returned (.bool (hasE x.es a b)) ∧ Ext w w' := by
  obtain ⟨A1, c1, rfl, h1⟩ := h
  go_enter Tryd.func53, Tryd.ntmps53
  go_wp2
  go_loopw [12] (fun i wr => ∃ k : Nat, k ≤ x.es.length ∧ i = .int .i64 k ∧ Hid (hasE (x.es.take k) a b = false) ∧ Ext w wr) (fun i _ => x.es.length - (intOf i).toNat)
  case atStart => exact ⟨0, Nat.zero_le _, rfl, Lib.hid (by simp [hasE]), (by repeat (first | exact Ext.refl _ | assumption | refine Ext.alloc ?_ _ | refine Ext.drewN ?_ _ | refine Ext.drew ?_))⟩
  case round =>
    obtain ⟨k, hk, rfl, HQ, hx⟩ := hrel
    by_cases hlt : k < x.es.length
    · obtain ⟨b0, o, e, rfl, hb, hg, r0, r1⟩ := edge_at (h1.ext hx) hlt
      have HG := Lib.hid hg
      clear hg
      cases e1 : (e.a == a)
      · have HE : Hid (hitE a b e = false) := by unfold Hid hitE; rw [e1]; rfl
        go_wp2
        go_roundw
        case rel => exact ⟨k + 1, by omega, by go_num, Lib.hid (hasE_snoc HG.out HQ.out HE.out), hx.alloc _⟩
        case measure => simp [intOf]; omega
      · cases e2 : (e.b == b)
        · have HE : Hid (hitE a b e = false) := by unfold Hid hitE; rw [e1, e2]; rfl
          go_wp2
          go_roundw
          case rel => exact ⟨k + 1, by omega, by go_num, Lib.hid (hasE_snoc HG.out HQ.out HE.out), hx.alloc _⟩
          case measure => simp [intOf]; omega
        · have HF := Lib.hid (hasE_yes HG.out e1 e2)
          go_wp2
          go_ret
          exact ⟨ret_bool HF.out.symm, (by repeat (first | exact Ext.refl _ | assumption | refine Ext.alloc ?_ _ | refine Ext.drewN ?_ _ | refine Ext.drew ?_))⟩
    · rw [List.take_of_length_le (by omega)] at HQ
      go_wp2
      go_ret
      exact ⟨ret_bool HQ.out.symm, hx⟩

end Go.Proofs.YteecjnnompjmiabDoor
