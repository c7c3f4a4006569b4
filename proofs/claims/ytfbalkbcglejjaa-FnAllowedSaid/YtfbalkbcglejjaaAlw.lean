/-
  Helper text (no claim of its own): executable gates respect the graph and are not changed by orientation (plain Lean), and whether gates respect a graph, by the program.
-/
import Derived.Test.YtfbalkbcglejjaaOrm
import Derived.Test.YtfbalkbcglejjaaGd
namespace Go.Proofs.Ytfbalkbcglejjaa
open Go.ChangeShapes Go.WideShapes Go.ChangeAt Go.RowKit Go.Deep
set_option linter.unusedVariables false
def resp1 (x : Gr) (g : Gt) : Bool := vg g x.n && (ar g.k == 1 || (ar g.k == 2 && coup x g))
def respN (x : Gr) (gs : List Gt) : Bool := gs.all (resp1 x)
theorem respN_no {x : Gr} {gs : List Gt} {k : Nat} {g : Gt} (h : gs[k]? = some g) (hg : resp1 x g = false) : respN x gs = false := by
  unfold respN
  rw [Bool.eq_false_iff]
  intro ha
  rw [List.all_eq_true] at ha
  rw [ha g (List.mem_of_getElem? h)] at hg
  cases hg
theorem respN_snoc {x : Gr} {gs : List Gt} {k : Nat} {g : Gt} (h : gs[k]? = some g) (hk : respN x (gs.take k) = true) (hg : resp1 x g = true) : respN x (gs.take (k + 1)) = true := by
  unfold respN at *
  rw [take_snoc h, List.all_append, hk]
  simp [hg]
theorem exe_parts {x : Gr} {g : Gt} (h : exe1 x g = true) : vg g x.n = true ∧ ((ar g.k == 1) = true ∨ ((g.k == 9) = true ∧ hasE x.es g.a g.b = true)) := by
  unfold exe1 at h
  simp only [Bool.and_eq_true, Bool.or_eq_true] at h
  exact h
theorem exe_resp1 {x : Gr} {g : Gt} (h : exe1 x g = true) : resp1 x g = true := by
  obtain ⟨h1, h2 | ⟨h3, h4⟩⟩ := exe_parts h
  · unfold resp1; rw [h1, h2]; rfl
  · unfold resp1 coup; rw [h1, ar_9_11 (.inl h3), h4]; rfl
theorem exe_ori1 {x : Gr} {g : Gt} (h : exe1 x g = true) : oriOk x g = true ∧ oriL x g = [g] := by
  obtain ⟨h1, h2 | ⟨h3, h4⟩⟩ := exe_parts h
  · have : oriOk x g = true := by unfold oriOk; rw [h1, h2]; rfl
    exact ⟨this, oriL_1 this h2⟩
  · exact oriL_9a h1 h3 h4
theorem exe_resp {x : Gr} {gs : List Gt} (h : exeN x gs = true) : respN x gs = true := by
  unfold exeN at h
  unfold respN
  rw [List.all_eq_true] at *
  exact fun g hg => exe_resp1 (h g hg)
theorem exe_ori {x : Gr} {gs : List Gt} (h : exeN x gs = true) : oriAllOk x gs = true ∧ oriAll x gs = gs := by
  unfold exeN at h
  rw [List.all_eq_true] at h
  have h1 : oriAllOk x gs = true := by
    unfold oriAllOk
    rw [List.all_eq_true]
    exact fun g hg => (exe_ori1 (h g hg)).1
  refine ⟨h1, ?_⟩
  rw [oriAll_yes h1]
  clear h1
  induction gs with
  | nil => rfl
  | cons g gs ih =>
    rw [List.flatMap_cons, (exe_ori1 (h g (by simp))).2, ih (fun g' hg' => h g' (by simp [hg']))]
    rfl
theorem resp1_bad {x : Gr} {g : Gt} (h : vg g x.n = false) : resp1 x g = false := by unfold resp1; rw [h]; rfl
theorem resp1_3 {x : Gr} {g : Gt} (h : ar g.k = 3) : resp1 x g = false := by unfold resp1; rw [h]; simp
theorem resp1_2 {x : Gr} {g : Gt} (hv : vg g x.n = true) (h : ar g.k = 2) : resp1 x g = coup x g := by unfold resp1; rw [hv, h]; simp
theorem resp1_1 {x : Gr} {g : Gt} (hv : vg g x.n = true) (h : ar g.k = 1) : resp1 x g = true := by unfold resp1; rw [hv, h]; simp

set_option maxRecDepth 100000 in
set_option maxHeartbeats 4000000 in
theorem impl_RespectsGraph_any (A : Option Addr) (n c : Nat) (gs : List Gt) (v : Value) (x : Gr) (w : World) (h : Rd w w.heap.size 4 A n (gcells gs)) (hv : GrAt w w.heap.size v x) (hn : n ≤ 100000000) (hm : x.es.length ≤ 100000000) :
    Calls Try.prog 10 #[.slice A n c, v] w fun e w' => e = .returned (.bool (respN x gs)) ∧ Ext w w' := by
  have hlen := Lib.hid (h.len Gt.cells_len (by omega))
  obtain ⟨A1, c1, rfl, h1⟩ := hv
  have hG : GrAt w w.heap.size (.agg #[.int .i64 x.n, .slice A1 x.es.length c1]) x := ⟨A1, c1, rfl, h1⟩
  clear h1
  go_enter Try.func10, Try.ntmps10
  go_wp2
  go_loopw [9] (fun i wr => ∃ k : Nat, k ≤ n ∧ i = .int .i64 k ∧ Hid (respN x (gs.take k) = true) ∧ Blk wr w.heap.size 27 #[.int .i64 x.n, .slice A1 x.es.length c1] ∧ Ext w wr) (fun i _ => n - (intOf i).toNat)
  case atStart => exact ⟨0, Nat.zero_le _, rfl, Lib.hid (by simp [respN]), Blk.new _ _ _, (by repeat (first | exact Ext.refl _ | assumption | refine Ext.alloc ?_ _ | refine Ext.drewN ?_ _ | refine Ext.drew ?_))⟩
  case round =>
    obtain ⟨k, hk, rfl, HQ, hB, hx⟩ := hrel
    by_cases hlt : k < n
    · obtain ⟨b, o, g, rfl, hb, hg, r0, r1, r2, r3⟩ := gate_at (h.ext hx) hlt
      have HG := Lib.hid hg
      clear hg
      have hlb := hB.lt
      have q0 : wr.cell? ⟨w.heap.size, 0, none⟩ = some (.int .i64 x.n) := hB.cell 0
      have q1 : wr.cell? ⟨w.heap.size, 1, none⟩ = some (.slice A1 x.es.length c1) := hB.cell 1
      go_wp2_with fail
      refine (impl_IsValidGate_any g x.n _).mono ?_
      rintro e w1 ⟨rfl, hy1⟩
      have hL1 : Blk w1 wr.heap.size 43 #[.int .i64 g.k, .int .i64 g.a, .int .i64 g.b, .int .i64 g.c] := (Blk.new wr _ _).ext hy1
      have hB1 := (hB.alloc (.cells #[.int .i64 g.k, .int .i64 g.a, .int .i64 g.b, .int .i64 g.c] 43)).ext hy1
      have hx1 : Ext w w1 := Ext.trans (hx.alloc _) hy1
      clear hy1 q0 q1 r0 r1 r2 r3 hB
      have p0 : w1.cell? ⟨wr.heap.size, 0, none⟩ = some (.int .i64 g.k) := hL1.cell 0
      have p1 : w1.cell? ⟨wr.heap.size, 1, none⟩ = some (.int .i64 g.a) := hL1.cell 1
      have p2 : w1.cell? ⟨wr.heap.size, 2, none⟩ = some (.int .i64 g.b) := hL1.cell 2
      have q0 : w1.cell? ⟨w.heap.size, 0, none⟩ = some (.int .i64 x.n) := hB1.cell 0
      have q1 : w1.cell? ⟨w.heap.size, 1, none⟩ = some (.slice A1 x.es.length c1) := hB1.cell 1
      cases hv : vg g x.n
      · have HF := Lib.hid (respN_no HG.out (x := x) (resp1_bad hv))
        go_wp2
        go_ret
        exact ⟨ret_bool HF.out.symm, hx1⟩
      · have HV := Lib.hid hv
        clear hv
        go_wp2_with fail
        refine (impl_Arity_any _ _).mono ?_
        rintro e w2 ⟨rfl, rfl⟩
        cases h3 : (ar g.k == 3)
        · go_wp2_with fail
          refine (impl_Arity_any _ _).mono ?_
          rintro e w2 ⟨rfl, rfl⟩
          cases h2 : (ar g.k == 2)
          · have HT : Hid (resp1 x g = true) := resp1_1 HV.out (by have z1 := (vg_parts HV.out).2.2.1; have z2 := ar_range g.k; simp at h2 h3; omega)
            go_wp2
            go_roundw
            case rel => exact ⟨k + 1, by omega, by go_num, Lib.hid (respN_snoc HG.out HQ.out HT.out), hB1, hx1⟩
            case measure => simp [intOf]; omega
          · have HC : Hid (resp1 x g = cpl x.es g.a g.b) := resp1_2 HV.out (by simpa using h2)
            go_wp2_with fail
            refine (impl_AreCoupled_any _ x g.a g.b _ ((hG.up hx1 (Nat.le_refl _)).more hx1.size) hm).mono ?_
            rintro e w2 ⟨rfl, hy2⟩
            have hB2 := hB1.ext hy2
            have hx2 := hx1.trans hy2
            clear hy2
            cases he : cpl x.es g.a g.b
            · have HF := Lib.hid (respN_no HG.out (x := x) (HC.out.trans he))
              go_wp2
              go_ret
              exact ⟨ret_bool HF.out.symm, hx2⟩
            · have HT := Lib.hid (HC.out.trans he)
              go_wp2
              go_roundw
              case rel => exact ⟨k + 1, by omega, by go_num, Lib.hid (respN_snoc HG.out HQ.out HT.out), hB2, hx2⟩
              case measure => simp [intOf]; omega
        · have HF := Lib.hid (respN_no HG.out (x := x) (resp1_3 (by simpa using h3)))
          go_wp2
          go_ret
          exact ⟨ret_bool HF.out.symm, hx1⟩
    · rw [List.take_of_length_le (by rw [hlen.out]; omega)] at HQ
      have q0 : wr.cell? ⟨w.heap.size, 0, none⟩ = some (.int .i64 x.n) := hB.cell 0
      go_wp2
      go_ret
      exact ⟨ret_bool HQ.out.symm, hx⟩
end Go.Proofs.Ytfbalkbcglejjaa
