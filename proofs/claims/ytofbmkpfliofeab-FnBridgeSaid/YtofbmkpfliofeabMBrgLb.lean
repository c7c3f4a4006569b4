/-
  Helper text (no claim of its own): the routing of a gate by swaps, by the program and by the reference. Printed by gen_rtg.py.
-/
import Derived.Test.YtofbmkpfliofeabMBrgLa
import Derived.Test.YtofbmkpfliofeabSeen
import Derived.DeepKeys4
import Derived.Test.YtofbmkpfliofeabGate
import Derived.Test.YtofbmkpfliofeabInt
import Derived.Laws.StructEq
import Derived.Test.YtofbmkpfliofeabDec
import Derived.Test.YtofbmkpfliofeabDrawD
import Derived.Deep.RegionLaw
/-
  Helper text (no claim of its own): a layout after a swap, by the program and by the reference.
-/
namespace Go.Proofs.Ytofbmkpfliofeab
open Go.ChangeShapes Go.WideShapes Go.ChangeAt Go.RowKit Go.Deep
def sw1 (a b x : Int) : Int := if (x == a) = true then b else if (x == b) = true then a else x
theorem sw1_a {a b x : Int} (h : (x == a) = true) : sw1 a b x = b := if_pos h
theorem sw1_b {a b x : Int} (h : (x == a) = false) (h' : (x == b) = true) : sw1 a b x = a := by unfold sw1; rw [if_neg (by simp [h]), if_pos h']
theorem sw1_n {a b x : Int} (h : (x == a) = false) (h' : (x == b) = false) : sw1 a b x = x := by unfold sw1; rw [if_neg (by simp [h]), if_neg (by simp [h'])]
/-- The layout p after a swap of a and b. -/
def swapL (p : List Int) (a b : Int) : List Int := if perm p = true then p.map (sw1 a b) else []
theorem swapL_no {p : List Int} {a b : Int} (h : perm p = false) : swapL p a b = [] := if_neg (by simp [h])
theorem swapL_yes {p : List Int} {a b : Int} (h : perm p = true) : swapL p a b = p.map (sw1 a b) := if_pos h
theorem map_snoc {α β : Type} (f : α → β) {p : List α} {k : Nat} {x : α} (h : p[k]? = some x) : (p.take (k + 1)).map f = (p.take k).map f ++ [f x] := by
  rw [take_snoc h, List.map_append]; rfl
theorem map_take_len {α β : Type} (f : α → β) {p : List α} {k n : Nat} (hk : k ≤ n) (hn : p.length = n) : ((p.take k).map f).length = k := by
  rw [List.length_map, List.length_take]; omega
theorem perm_le {p : List Int} (h : perm p = true) : 1 ≤ p.length ∧ p.length ≤ 4 := by
  unfold perm at h
  simp only [Bool.and_eq_true, decide_eq_true_eq] at h
  exact h.2
end Go.Proofs.Ytofbmkpfliofeab
/-
  Helper text (no claim of its own): a set of edges kept as a map from edge to bool that the call made.
-/
namespace Go.Proofs.Ytofbmkpfliofeab
open Go.ChangeShapes Go.WideShapes Go.ChangeAt Go.RowKit Go.Deep
open Go.Maps
theorem Try.rowEdge : (74 : TypeId) < Try.prog.types.size := of_decide_eq_true (by kernel_rfl)
theorem Try.wideEdge : (match Try.prog.underlying 74 with | some (.array _ _) | some (.struct _) => true | _ => false) = true := by kernel_rfl
set_option maxRecDepth 100000 in
theorem keyedEdge : Keyed Try.prog 74 := Keyed.of_law (deep_law_laid laidOut (m := 2) (by omega) Try.rowEdge (by kernel_rfl) Try.wideEdge)
theorem Try.keyTypeEdge : Try.prog.keyType 74 = true := by kernel_rfl
theorem Try.cellsEdge : Try.prog.cellsOf 74 = 2 := by kernel_rfl
def keyE (e : Ed) : Lit := .string (keyBytes [.int .i64 e.a, .int .i64 e.b])
theorem keyOf_edge (e : Ed) (h : e.ok) : keyOf Try.prog 74 e.val = some (keyE e) := by
  obtain ⟨h1, h2⟩ := h
  have w1 := wf_of_I64 h1
  have w2 := wf_of_I64 h2
  have hf : e.val.formed Try.prog 74 = true := by
    simp [Value.formed, Try.underlying74, Try.cellsEdge]
  have hD : ∃ D, Try.prog.types.size + 1 = D + 1 + 1 := ⟨Try.prog.types.size - 1, by have : 0 < Try.prog.types.size := Nat.lt_of_le_of_lt (Nat.zero_le _) Try.rowEdge; omega⟩
  obtain ⟨D, hD⟩ := hD
  simp only [keyOf, Try.underlying74, Try.keyTypeEdge, hf, Bool.and_self, if_true, hD]
  simp [Program.keyLits, Try.underlying74, Try.underlying3, Try.cellsEdge, Try.cellsInt, w1, w2, Value.cells, keyE]
theorem keyE_inj {e f : Ed} (h : e.ok) (h' : f.ok) (hk : keyE e = keyE f) : e = f := by
  have := keyedEdge.inj (keyOf_edge e h) (by rw [hk]; exact keyOf_edge f h')
  obtain ⟨a, b⟩ := e
  obtain ⟨c, d⟩ := f
  simp [Ed.val] at this
  simp [this]
/-- Block b is a map of at most n entries that holds true at just the edges of p. -/
def SeenE (w : World) (b n : Nat) (p : Ed → Bool) : Prop :=
  ∃ D : DataW Unit, w.ownsMap Try.prog 74 (plainElem Try.prog 4) b n D ∧ IsMap D ∧ ∀ x : Ed, x.ok → D.atKey (keyE x) (.lit (.bool false)) = .lit (.bool (p x))
theorem SeenE.made (w : World) : SeenE (w.alloc (.map #[] 0)) w.heap.size 0 (fun _ => false) :=
  ⟨.map [], World.ownsMap_made _ _ _ _, isMap_empty, fun _ _ => rfl⟩
theorem SeenE.lt {w : World} {b n : Nat} {p : Ed → Bool} (h : SeenE w b n p) : b < w.heap.size := let ⟨_, h, _, _⟩ := h; h.lt
set_option maxRecDepth 100000 in
theorem SeenE.look {w : World} {b n : Nat} {p : Ed → Bool} (h : SeenE w b n p) {x : Ed} (hx : x.ok) :
    (Instr.lookup 99 (.map (some b)) x.val false).run Try.prog w = .ok (.bool (p x)) w := by
  obtain ⟨D, ho, _, hp⟩ := h
  obtain ⟨v, ps, hrun, hv⟩ := ho.lookup keyedEdge Try.underlying99 (zeroBool w) (plainElem_bool Try.underlying4 false) (keyOf_edge x hx)
  rw [hp x hx] at hv
  obtain ⟨c, rfl, hc⟩ := plainElem_bool_inv Try.underlying4 hv
  have hcc : p x = c := by
    injection hc with hc _
    injection hc with hc
    injection hc
  rw [hcc]
  exact hrun
theorem wpList_putE {w : World} {b n : Nat} {p : Ed → Bool} {ops : Array Oper} {rest : List Oper} {o : Oper} {a : Act} {Q : Exit → Act → World → Prop}
    (hg : o.guard = none) (m x v : Operand) (hop : o.op = Op.mapUpdate 99 m x v) (h : SeenE w b n p) (hm : a.eval m = .map (some b)) (hn : n ≤ 100000000) {y : Ed} (hx : a.eval x = y.val) (hv : a.eval v = .bool true) (hy : y.ok)
    (hK : ∀ w', SeenE w' b (n + 1) (fun z => eqE z y || p z) → w.grownBy w' (some b) → wpList Try.prog ops Q rest (a.put o.dst undef) w') : wpList Try.prog ops Q (o :: rest) a w := by
  obtain ⟨D, ho, hD, hp⟩ := h
  refine wpList_mapUpdate_own w hg m x v 99 hop 74 4 keyedEdge Try.underlying99 _ b n D hm ho (by unfold maxLen; omega) _ _ _ hx hv (keyOf_edge y hy) _ [] (plainElem_bool Try.underlying4 true) ?_
  intro w' ho' hg'
  refine hK w' ⟨_, ho', hD.put _ _, fun z hz => ?_⟩ hg'
  by_cases e : z = y
  · subst e
    rw [atKey_put_same hD (by simp [WideAt.IsKeyLit, keyE])]
    simp [eqE_self]
  · rw [atKey_put_other (fun h => e (keyE_inj hz hy h)), hp z hz]
    have : eqE z y = false := by
      unfold eqE
      obtain ⟨a, b⟩ := z
      obtain ⟨c, d⟩ := y
      simp at e ⊢
      exact e
    simp [this]
end Go.Proofs.Ytofbmkpfliofeab
/-
  Helper text (no claim of its own): Op as records, slices of them, and the laws' own helpers on them (size, copy, comparison). Printed by gen_fam.py.
-/
namespace Go.Proofs.Ytofbmkpfliofeab
open Go.ChangeShapes Go.WideShapes Go.ChangeAt Go.RowKit Go.Deep

structure Oq where
  k : Int
  g : Gt
  q : Int
  bit : Int
  cond : Int
def eqO (x y : Oq) : Bool := x.k == y.k && eqG x.g y.g && x.q == y.q && x.bit == y.bit && x.cond == y.cond
def Oq.ok (x : Oq) : Prop := I64 x.k ∧ x.g.ok ∧ I64 x.q ∧ I64 x.bit ∧ I64 x.cond
abbrev Oq.val (x : Oq) : Value := .agg #[.int .i64 x.k, .int .i64 x.g.k, .int .i64 x.g.a, .int .i64 x.g.b, .int .i64 x.g.c, .int .i64 x.q, .int .i64 x.bit, .int .i64 x.cond]
def Oq.cells (x : Oq) : List Value := [.int .i64 x.k, .int .i64 x.g.k, .int .i64 x.g.a, .int .i64 x.g.b, .int .i64 x.g.c, .int .i64 x.q, .int .i64 x.bit, .int .i64 x.cond]
abbrev ocells (xs : List Oq) : List Value := xs.flatMap Oq.cells
theorem Oq.cells_len (x : Oq) : x.cells.length = 8 := rfl
theorem op_at {w : World} {B n i : Nat} {A : Option Addr} {xs : List Oq} (h : Rd w B 8 A n (ocells xs)) (hi : i < n) :
    ∃ b o x, A = some ⟨b, o, none⟩ ∧ b < B ∧ xs[i]? = some x ∧ w.cell? ⟨b, o + i * 8, none⟩ = some (.int .i64 x.k) ∧ w.cell? ⟨b, o + i * 8 + 1, none⟩ = some (.int .i64 x.g.k) ∧ w.cell? ⟨b, o + i * 8 + 2, none⟩ = some (.int .i64 x.g.a) ∧ w.cell? ⟨b, o + i * 8 + 3, none⟩ = some (.int .i64 x.g.b) ∧ w.cell? ⟨b, o + i * 8 + 4, none⟩ = some (.int .i64 x.g.c) ∧ w.cell? ⟨b, o + i * 8 + 5, none⟩ = some (.int .i64 x.q) ∧ w.cell? ⟨b, o + i * 8 + 6, none⟩ = some (.int .i64 x.bit) ∧ w.cell? ⟨b, o + i * 8 + 7, none⟩ = some (.int .i64 x.cond) := by
  obtain ⟨b, o, x, rfl, hb, hx, hc⟩ := elem_at Oq.cells_len (by omega) h hi
  exact ⟨b, o, x, rfl, hb, hx, hc 0 _ rfl, hc 1 _ rfl, hc 2 _ rfl, hc 3 _ rfl, hc 4 _ rfl, hc 5 _ rfl, hc 6 _ rfl, hc 7 _ rfl⟩


theorem Oq.one (xs : List Oq) : ∀ u ∈ ocells xs, u.oneCell' = true := by
  intro u hu
  obtain ⟨x, _, hx⟩ := List.mem_flatMap.1 hu
  simp [Oq.cells] at hx
  rcases hx with rfl | rfl | rfl | rfl | rfl | rfl | rfl | rfl <;> rfl
theorem eqO_self (x : Oq) : eqO x x = true := by simp [eqO, eqG_self]
end Go.Proofs.Ytofbmkpfliofeab
/-
  Helper text (no claim of its own): comparisons of slices by the program and by the reference.
-/
namespace Go.Proofs.Ytofbmkpfliofeab
open Go.ChangeShapes Go.WideShapes Go.ChangeAt Go.RowKit Go.Deep
theorem Try.stoodGate : Try.prog.stoodInHeld 43 = false := by kernel_rfl
theorem Try.eqgGate : Try.prog.eqGuardType Try.prog.depth 43 = false := by kernel_rfl
set_option maxRecDepth 100000 in
set_option maxHeartbeats 1000000 in
theorem eqIn_gate (x y : Gt) (w : World) : (Op.equalIn 10000 43 x.val y.val).run Try.prog w = .ok (eqG x y) w := by
  have h1 := Try.stoodGate
  unfold eqG
  by_cases e1 : x.k = y.k <;> by_cases e2 : x.a = y.a <;> by_cases e3 : x.b = y.b <;> by_cases e4 : x.c = y.c <;> (go_simp <;> simp [*])
end Go.Proofs.Ytofbmkpfliofeab
/-
  Helper text (no claim of its own): further comparisons of slices. Printed by gen_cmp.py.
-/
namespace Go.Proofs.Ytofbmkpfliofeab
open Go.ChangeShapes Go.WideShapes Go.ChangeAt Go.RowKit Go.Deep
theorem Try.stoodEdge : Try.prog.stoodInHeld 74 = false := by kernel_rfl
theorem Try.eqgEdge : Try.prog.eqGuardType Try.prog.depth 74 = false := by kernel_rfl
set_option maxRecDepth 100000 in
set_option maxHeartbeats 1000000 in
theorem eqIn_edge (x y : Ed) (w : World) : (Op.equalIn 10000 74 x.val y.val).run Try.prog w = .ok (eqE x y) w := by
  have h1 := Try.stoodEdge
  unfold eqE
  by_cases e1 : x.a = y.a <;> by_cases e2 : x.b = y.b <;> (go_simp <;> simp [*])
set_option maxRecDepth 100000 in
set_option maxHeartbeats 2000000 in
theorem sameGates_any (A B : Option Addr) (n m c d : Nat) (xs ys : List Gt) (w : World) (h : Rd w w.heap.size 4 A n (gcells xs)) (h' : Rd w w.heap.size 4 B m (gcells ys)) (hn : n ≤ 100000000) (hm : m ≤ 100000000) :
    Calls Try.prog 8 #[.slice A n c, .slice B m d] w fun e w' => e = .returned (.bool (eqL eqG xs ys)) ∧ Ext w w' := by
  by_cases hnm : n = m
  · subst hnm
    go_enter Try.func8, Try.ntmps8
    go_wp2
    go_loopw [5] (fun i wr => ∃ k : Nat, k ≤ n ∧ i = .int .i64 k ∧ Hid (eqL eqG (xs.take k) (ys.take k) = true) ∧ ∃ q, wr = w.drewN q) (fun i _ => n - (intOf i).toNat)
    case atStart => exact ⟨0, Nat.zero_le _, rfl, by simp [Hid, eqL], 0, rfl⟩
    case round =>
      obtain ⟨k, hk, rfl, HQ, q, rfl⟩ := hrel
      by_cases hlt : k < n
      · obtain ⟨b, o, g, rfl, hb, hg, h0, h1, h2, h3⟩ := gate_at h hlt
        obtain ⟨b', o', g', rfl, hb', hg', r0, r1, r2, r3⟩ := gate_at h' hlt
        have HG := Lib.hid hg
        have HG' := Lib.hid hg'
        clear hg hg'
        cases hq : eqG g g'
        · have HF := Lib.hid (eqL_false eqG HG.out HG'.out hq)
          have HN := (show ∀ w, (Op.equalIn 10000 43 g.val g'.val).run Try.prog w = .ok false w from fun w => by rw [eqIn_gate, hq])
          have HE := Try.eqgGate
          go_wp2
          go_quiet (fail)
          go_wp2
          go_ret
          exact ⟨ret_bool HF.out.symm, (by repeat (first | exact Ext.refl _ | assumption | refine Ext.alloc ?_ _ | refine Ext.drewN ?_ _ | refine Ext.drew ?_))⟩
        · have HN := (show ∀ w, (Op.equalIn 10000 43 g.val g'.val).run Try.prog w = .ok true w from fun w => by rw [eqIn_gate, hq])
          have HE := Try.eqgGate
          go_wp2
          go_quiet (fail)
          go_wp2
          go_roundw
          case rel => exact ⟨k + 1, by omega, by go_num, by unfold Hid; rw [eqL_snoc _ HG.out HG'.out, HQ.out, hq]; rfl, _, rfl⟩
          case measure => simp [intOf]; omega
      · have : k = n := by omega
        subst this
        rw [List.take_of_length_le (by rw [h.len Gt.cells_len (by omega)]; omega), List.take_of_length_le (by rw [h'.len Gt.cells_len (by omega)]; omega)] at HQ
        go_wp2
        go_ret
        exact ⟨ret_bool HQ.out.symm, (by repeat (first | exact Ext.refl _ | assumption | refine Ext.alloc ?_ _ | refine Ext.drewN ?_ _ | refine Ext.drew ?_))⟩
  · have hnm' : ((n : Int) != (m : Int)) = true := by rw [bne_iff_ne]; omega
    have HF := Lib.hid (eqL_len eqG xs ys (by rw [h.len Gt.cells_len (by omega), h'.len Gt.cells_len (by omega)]; exact hnm))
    go_enter Try.func8, Try.ntmps8
    go_wp2
    go_ret
    exact ⟨ret_bool HF.out.symm, Ext.refl _⟩
end Go.Proofs.Ytofbmkpfliofeab
/-
  Helper text (no claim of its own): connected graphs and valid graphs, by the program and by the reference.
-/
namespace Go.Proofs.Ytofbmkpfliofeab
open Go.ChangeShapes Go.WideShapes Go.ChangeAt Go.RowKit Go.Deep
/-- Every vertex is reached from the first one. -/
def conn (x : Gr) : Bool := decide (1 ≤ x.n) && decide (x.n ≤ 4) && (List.range x.n.toNat).all fun k => decide (0 ≤ gd x 0 (k : Int))
theorem conn_lo {x : Gr} (h : x.n < 1) : conn x = false := by
  unfold conn; rw [show decide (1 ≤ x.n) = false from by simpa using h]; rfl
theorem conn_hi {x : Gr} (h : 4 < x.n) : conn x = false := by
  unfold conn; rw [show decide (x.n ≤ 4) = false from by simpa using h]; simp
theorem conn_no {x : Gr} {k n : Nat} (hn : x.n = n) (h : k < n) (h0 : gd x 0 (k : Int) = -1) : conn x = false := by
  unfold conn
  have : ((List.range x.n.toNat).all fun k => decide (0 ≤ gd x 0 (k : Int))) = false := by
    rw [List.all_eq_false]
    exact ⟨k, by rw [hn]; simpa using h, by rw [h0]; simp⟩
  rw [this, Bool.and_false]
theorem conn_yes {x : Gr} {n : Nat} (hn : x.n = n) (h1 : 1 ≤ n) (h4 : n ≤ 4) (h : ∀ k, k < n → 0 ≤ gd x 0 (k : Int)) : conn x = true := by
  unfold conn
  have : ((List.range x.n.toNat).all fun k => decide (0 ≤ gd x 0 (k : Int))) = true := by
    rw [List.all_eq_true]
    intro k hk
    rw [hn] at hk
    simp at hk
    simpa using h k hk
  rw [this, hn]
  simp; omega
set_option maxRecDepth 100000 in
set_option maxHeartbeats 4000000 in
theorem impl_IsConnected_any (v : Value) (x : Gr) (w : World) (h : GrAt w w.heap.size v x) (hl : x.es.length ≤ 100000000) :
    Calls Try.prog 69 #[v] w fun e w' => e = .returned (.bool (conn x)) ∧ Ext w w' := by
  obtain ⟨A1, c1, rfl, h1⟩ := h
  have HG : Hid (∀ w', Ext w w' → GrAt w' w'.heap.size (.agg #[.int .i64 x.n, .slice A1 x.es.length c1]) x) := fun w' hx => ⟨A1, c1, rfl, h1.ext hx⟩
  clear h1
  have hB0 : Blk (w.alloc (.cells #[.int .i64 x.n, .slice A1 x.es.length c1] 27)) w.heap.size 27 #[.int .i64 x.n, .slice A1 x.es.length c1] := Blk.new _ _ _
  have hX0 : Ext w (w.alloc (.cells #[.int .i64 x.n, .slice A1 x.es.length c1] 27)) := by repeat (first | exact Ext.refl _ | assumption | refine Ext.alloc ?_ _ | refine Ext.drewN ?_ _ | refine Ext.drew ?_)
  have HB0 := Lib.hid hB0
  have HX0 := Lib.hid hX0
  clear hB0 hX0
  by_cases hlo : x.n < 1
  · have HF := Lib.hid (conn_lo hlo)
    have HN : Hid (x.n < 1 ∨ 4 < x.n) := .inl hlo
    go_enter Try.func69, Try.ntmps69
    go_wp2
    have hB0 := HB0.out
    have hX0 := HX0.out
    clear HB0 HX0
    generalize (w.alloc (.cells #[.int .i64 x.n, .slice A1 x.es.length c1] 27)) = Wb at *
    go_loop [3] (fun i => i = .int .i64 0) (fun _ => 0)
    case atStart => rfl
    case round =>
      obtain rfl := hrel
      have d0 : Wb.cell? ⟨w.heap.size, 0, none⟩ = some (.int .i64 x.n) := hB0.cell 0
      have hx4 : x.n ≤ 4 := by omega
      have hx0 : ¬ (0 : Int) < x.n := by omega
      go_wp2_with fail
      refine (in_no _ _ _ _ HN.out).mono ?_
      rintro e w1 ⟨rfl, rfl⟩
      go_wp2
      go_ret
      exact ⟨ret_bool HF.out.symm, hX0⟩
  by_cases hhi : 4 < x.n
  · have HF := Lib.hid (conn_hi hhi)
    have HGD := Lib.hid (gd_no (x := x) (a := 0) (b := 0) (by omega))
    go_enter Try.func69, Try.ntmps69
    go_wp2
    have hB0 := HB0.out
    have hX0 := HX0.out
    clear HB0 HX0
    generalize (w.alloc (.cells #[.int .i64 x.n, .slice A1 x.es.length c1] 27)) = Wb at *
    go_loop [3] (fun i => i = .int .i64 0) (fun _ => 0)
    case atStart => rfl
    case round =>
      obtain rfl := hrel
      have d0 : Wb.cell? ⟨w.heap.size, 0, none⟩ = some (.int .i64 x.n) := hB0.cell 0
      have d1 : Wb.cell? ⟨w.heap.size, 1, none⟩ = some (.slice A1 x.es.length c1) := hB0.cell 1
      have hx4 : ¬ x.n ≤ 4 := by omega
      have hx0 : 4 ≤ x.n := by omega
      go_wp2_with fail
      refine (impl_GraphDistance_any _ x 0 0 _ (HG.out _ hX0) hl).mono ?_
      rintro e w1 ⟨rfl, hy1⟩
      rw [HGD.out]
      go_wp2
      go_ret
      exact ⟨ret_bool HF.out.symm, hX0.trans hy1⟩
  obtain ⟨n, hn⟩ := Int.eq_ofNat_of_zero_le (by omega : 0 ≤ x.n)
  have hn1 : 1 ≤ n := by omega
  have hn4 : n ≤ 4 := by omega
  have HN := Lib.hid hn
  rw [hn] at HB0 HX0 HG ⊢
  clear hn hlo hhi
  go_enter Try.func69, Try.ntmps69
  go_wp2
  have hB0 := HB0.out
  have hX0 := HX0.out
  clear HB0 HX0
  generalize (w.alloc (.cells #[.int .i64 (n : Int), .slice A1 x.es.length c1] 27)) = Wb at *
  go_loopw [3] (fun i wr => ∃ k : Nat, k ≤ n ∧ i = .int .i64 k ∧ Hid (∀ j, j < k → 0 ≤ gd x 0 (j : Int)) ∧ Ext Wb wr) (fun i _ => n - (intOf i).toNat)
  case atStart => exact ⟨0, Nat.zero_le _, rfl, fun j hj => absurd hj (by omega), Ext.refl _⟩
  case round =>
    obtain ⟨k, hk, rfl, HQ, hx⟩ := hrel
    have hB := hB0.ext hx
    have d0 : wr.cell? ⟨w.heap.size, 0, none⟩ = some (.int .i64 (n : Int)) := hB.cell 0
    have d1 : wr.cell? ⟨w.heap.size, 1, none⟩ = some (.slice A1 x.es.length c1) := hB.cell 1
    by_cases hlt : k < n
    · go_wp2_with fail
      refine (impl_GraphDistance_any _ x 0 k _ (HG.out _ (hX0.trans hx)) hl).mono ?_
      rintro e w1 ⟨rfl, hy1⟩
      have hgr := gd_range x 0 (k : Int)
      by_cases hg : gd x 0 (k : Int) = -1
      · have HF := Lib.hid (conn_no HN.out hlt hg)
        rw [hg]
        clear hg hgr
        go_wp2
        go_ret
        exact ⟨ret_bool HF.out.symm, (hX0.trans hx).trans hy1⟩
      · have HQ2 : Hid (∀ j, j < k + 1 → 0 ≤ gd x 0 (j : Int)) := fun j hj => by
          by_cases e : j = k
          · subst e; omega
          · exact HQ.out j (by omega)
        have hgb : (gd x 0 (k : Int) == -1) = false := by rw [beq_eq_false_iff_ne]; exact hg
        clear hg hgr
        generalize gd x 0 (k : Int) = G at *
        go_wp2
        go_roundw
        case rel => exact ⟨k + 1, by omega, by go_num, HQ2, hx.trans hy1⟩
        case measure => simp [intOf]; omega
    · obtain rfl : k = n := by omega
      have HF := Lib.hid (conn_yes HN.out hn1 hn4 HQ.out)
      go_wp2_with fail
      refine (in_yes _ _ _ _ (by omega) (by omega)).mono ?_
      rintro e w1 ⟨rfl, rfl⟩
      go_wp2
      go_ret
      exact ⟨ret_bool HF.out.symm, hX0.trans hx⟩
set_option maxRecDepth 100000 in
set_option maxHeartbeats 4000000 in
theorem spec_IsConnected_any (v : Value) (x : Gr) (w : World) (h : GrAt w w.heap.size v x) (hl : x.es.length ≤ 100000000) :
    Calls Try.prog 45 #[v] w fun e w' => e = .returned (.bool (conn x)) ∧ Ext w w' := by
  obtain ⟨A1, c1, rfl, h1⟩ := h
  have HG : Hid (∀ w', Ext w w' → GrAt w' w'.heap.size (.agg #[.int .i64 x.n, .slice A1 x.es.length c1]) x) := fun w' hx => ⟨A1, c1, rfl, h1.ext hx⟩
  clear h1
  have hB0 : Blk (w.alloc (.cells #[.int .i64 x.n, .slice A1 x.es.length c1] 27)) w.heap.size 27 #[.int .i64 x.n, .slice A1 x.es.length c1] := Blk.new _ _ _
  have hX0 : Ext w (w.alloc (.cells #[.int .i64 x.n, .slice A1 x.es.length c1] 27)) := by repeat (first | exact Ext.refl _ | assumption | refine Ext.alloc ?_ _ | refine Ext.drewN ?_ _ | refine Ext.drew ?_)
  have HB0 := Lib.hid hB0
  have HX0 := Lib.hid hX0
  clear hB0 hX0
  by_cases hlo : x.n < 1
  · have HF := Lib.hid (conn_lo hlo)
    have HN : Hid (x.n < 1 ∨ 4 < x.n) := .inl hlo
    go_enter Try.func45, Try.ntmps45
    go_wp2
    have hB0 := HB0.out
    have hX0 := HX0.out
    clear HB0 HX0
    generalize (w.alloc (.cells #[.int .i64 x.n, .slice A1 x.es.length c1] 27)) = Wb at *
    go_loop [3] (fun i => i = .int .i64 0) (fun _ => 0)
    case atStart => rfl
    case round =>
      obtain rfl := hrel
      have d0 : Wb.cell? ⟨w.heap.size, 0, none⟩ = some (.int .i64 x.n) := hB0.cell 0
      have hx4 : x.n ≤ 4 := by omega
      have hx0 : ¬ (0 : Int) < x.n := by omega
      go_wp2_with fail
      refine (l1In_no _ _ _ _ HN.out).mono ?_
      rintro e w1 ⟨rfl, rfl⟩
      go_wp2
      go_ret
      exact ⟨ret_bool HF.out.symm, hX0⟩
  by_cases hhi : 4 < x.n
  · have HF := Lib.hid (conn_hi hhi)
    have HGD := Lib.hid (gd_no (x := x) (a := 0) (b := 0) (by omega))
    go_enter Try.func45, Try.ntmps45
    go_wp2
    have hB0 := HB0.out
    have hX0 := HX0.out
    clear HB0 HX0
    generalize (w.alloc (.cells #[.int .i64 x.n, .slice A1 x.es.length c1] 27)) = Wb at *
    go_loop [3] (fun i => i = .int .i64 0) (fun _ => 0)
    case atStart => rfl
    case round =>
      obtain rfl := hrel
      have d0 : Wb.cell? ⟨w.heap.size, 0, none⟩ = some (.int .i64 x.n) := hB0.cell 0
      have d1 : Wb.cell? ⟨w.heap.size, 1, none⟩ = some (.slice A1 x.es.length c1) := hB0.cell 1
      have hx4 : ¬ x.n ≤ 4 := by omega
      have hx0 : 4 ≤ x.n := by omega
      go_wp2_with fail
      refine (spec_GraphDistance_any _ x 0 0 _ (HG.out _ hX0) hl).mono ?_
      rintro e w1 ⟨rfl, hy1⟩
      rw [HGD.out]
      go_wp2
      go_ret
      exact ⟨ret_bool HF.out.symm, hX0.trans hy1⟩
  obtain ⟨n, hn⟩ := Int.eq_ofNat_of_zero_le (by omega : 0 ≤ x.n)
  have hn1 : 1 ≤ n := by omega
  have hn4 : n ≤ 4 := by omega
  have HN := Lib.hid hn
  rw [hn] at HB0 HX0 HG ⊢
  clear hn hlo hhi
  go_enter Try.func45, Try.ntmps45
  go_wp2
  have hB0 := HB0.out
  have hX0 := HX0.out
  clear HB0 HX0
  generalize (w.alloc (.cells #[.int .i64 (n : Int), .slice A1 x.es.length c1] 27)) = Wb at *
  go_loopw [3] (fun i wr => ∃ k : Nat, k ≤ n ∧ i = .int .i64 k ∧ Hid (∀ j, j < k → 0 ≤ gd x 0 (j : Int)) ∧ Ext Wb wr) (fun i _ => n - (intOf i).toNat)
  case atStart => exact ⟨0, Nat.zero_le _, rfl, fun j hj => absurd hj (by omega), Ext.refl _⟩
  case round =>
    obtain ⟨k, hk, rfl, HQ, hx⟩ := hrel
    have hB := hB0.ext hx
    have d0 : wr.cell? ⟨w.heap.size, 0, none⟩ = some (.int .i64 (n : Int)) := hB.cell 0
    have d1 : wr.cell? ⟨w.heap.size, 1, none⟩ = some (.slice A1 x.es.length c1) := hB.cell 1
    by_cases hlt : k < n
    · go_wp2_with fail
      refine (spec_GraphDistance_any _ x 0 k _ (HG.out _ (hX0.trans hx)) hl).mono ?_
      rintro e w1 ⟨rfl, hy1⟩
      have hgr := gd_range x 0 (k : Int)
      by_cases hg : gd x 0 (k : Int) = -1
      · have HF := Lib.hid (conn_no HN.out hlt hg)
        rw [hg]
        clear hg hgr
        go_wp2
        go_ret
        exact ⟨ret_bool HF.out.symm, (hX0.trans hx).trans hy1⟩
      · have HQ2 : Hid (∀ j, j < k + 1 → 0 ≤ gd x 0 (j : Int)) := fun j hj => by
          by_cases e : j = k
          · subst e; omega
          · exact HQ.out j (by omega)
        have hgb : ¬ gd x 0 (k : Int) < 0 := by omega
        clear hg hgr
        generalize gd x 0 (k : Int) = G at *
        go_wp2
        go_roundw
        case rel => exact ⟨k + 1, by omega, by go_num, HQ2, hx.trans hy1⟩
        case measure => simp [intOf]; omega
    · obtain rfl : k = n := by omega
      have HF := Lib.hid (conn_yes HN.out hn1 hn4 HQ.out)
      go_wp2_with fail
      refine (l1In_yes _ _ _ _ (by omega) (by omega)).mono ?_
      rintro e w1 ⟨rfl, rfl⟩
      go_wp2
      go_ret
      exact ⟨ret_bool HF.out.symm, hX0.trans hx⟩
/-! ### Valid graphs -/
def okE1 (m : Int) (es : List Ed) (i : Nat) (e : Ed) : Bool := !(e.a == e.b) && decide (0 ≤ e.a) && decide (e.a ≤ m) && decide (0 ≤ e.b) && decide (e.b ≤ m) && !((es.take i).any fun y => eqE y e)
def vgrE (m : Int) (es : List Ed) : Bool := (List.range es.length).all fun i => match es[i]? with
  | some e => okE1 m es i e
  | none => true
/-- Is the graph valid? -/
def vgraph (x : Gr) : Bool := vgrE (wrap64 (x.n - 1)) x.es && conn x
theorem vgr_no {x : Gr} {m : Int} (hm : m = wrap64 (x.n - 1)) {k : Nat} {e : Ed} (h : x.es[k]? = some e) (ho : okE1 m x.es k e = false) : vgraph x = false := by
  subst hm
  have : vgrE (wrap64 (x.n - 1)) x.es = false := by
    unfold vgrE
    rw [List.all_eq_false]
    exact ⟨k, by simpa using (List.getElem?_eq_some_iff.1 h).1, by rw [h]; simp [ho]⟩
  unfold vgraph
  rw [this, Bool.false_and]
theorem vgr_yes {x : Gr} {m : Int} (hm : m = wrap64 (x.n - 1)) (h : ∀ i e, x.es[i]? = some e → okE1 m x.es i e = true) : vgraph x = conn x := by
  subst hm
  have : vgrE (wrap64 (x.n - 1)) x.es = true := by
    unfold vgrE
    rw [List.all_eq_true]
    intro i _
    split
    · rename_i e he
      exact h i e he
    · rfl
  unfold vgraph
  rw [this, Bool.true_and]
theorem okE1_same {m : Int} {es : List Ed} {i : Nat} {e : Ed} (h : (e.a == e.b) = true) : okE1 m es i e = false := by unfold okE1; rw [h]; simp
theorem okE1_a {m : Int} {es : List Ed} {i : Nat} {e : Ed} (h : e.a < 0 ∨ m < e.a) : okE1 m es i e = false := by
  unfold okE1
  rcases h with h | h
  · rw [show decide (0 ≤ e.a) = false from by simpa using h]; simp
  · rw [show decide (e.a ≤ m) = false from by simpa using h]; simp
theorem okE1_b {m : Int} {es : List Ed} {i : Nat} {e : Ed} (h : e.b < 0 ∨ m < e.b) : okE1 m es i e = false := by
  unfold okE1
  rcases h with h | h
  · rw [show decide (0 ≤ e.b) = false from by simpa using h]; simp
  · rw [show decide (e.b ≤ m) = false from by simpa using h]; simp
def metE (es : List Ed) (i : Nat) (e : Ed) : Bool := (es.take i).any fun y => eqE y e
theorem okE1_met {m : Int} {es : List Ed} {i : Nat} {e : Ed} (h : metE es i e = true) : okE1 m es i e = false := by unfold okE1; rw [show ((es.take i).any fun y => eqE y e) = true from h]; simp
theorem okE1_yes {m : Int} {es : List Ed} {i : Nat} {e : Ed} (h : (e.a == e.b) = false) (h1 : 0 ≤ e.a) (h2 : e.a ≤ m) (h3 : 0 ≤ e.b) (h4 : e.b ≤ m) (h5 : metE es i e = false) : okE1 m es i e = true := by
  unfold okE1
  rw [show ((es.take i).any fun y => eqE y e) = false from h5, h]
  simp [h1, h2, h3, h4]
theorem eqE_comm (x y : Ed) : eqE x y = eqE y x := by
  unfold eqE
  rw [Bool.eq_iff_iff]
  simp
  omega
theorem metE_snoc {es : List Ed} {i : Nat} {e : Ed} (h : es[i]? = some e) : metE es (i + 1) = fun z => eqE z e || metE es i z := by
  funext z
  unfold metE
  rw [take_snoc h, List.any_append, Bool.or_comm]
  simp [eqE_comm]
set_option maxRecDepth 100000 in
set_option maxHeartbeats 4000000 in
theorem impl_IsValidGraph_any (v : Value) (x : Gr) (w : World) (h : GrAt w w.heap.size v x) (hl : x.es.length ≤ 100000000) (hok : ∀ e ∈ x.es, e.ok) :
    Calls Try.prog 39 #[v] w fun e w' => e = .returned (.bool (vgraph x)) ∧ Ext w w' := by
  obtain ⟨A1, c1, rfl, h1⟩ := h
  have HG : Hid (∀ w', Ext w w' → GrAt w' w'.heap.size (.agg #[.int .i64 x.n, .slice A1 x.es.length c1]) x) := fun w' hx => ⟨A1, c1, rfl, h1.ext hx⟩
  have HOK := Lib.hid hok
  clear hok
  obtain ⟨L, hL⟩ : ∃ L, L = x.es.length := ⟨_, rfl⟩
  have HL := Lib.hid hL
  rw [← hL] at h1 HG hl ⊢
  clear hL
  have hB0 : Blk ((w.alloc (.cells #[.int .i64 x.n, .slice A1 L c1] 27)).alloc (.map #[] 0)) w.heap.size 27 #[.int .i64 x.n, .slice A1 L c1] := (Blk.new _ _ _).alloc _
  have hX0 : Ext w ((w.alloc (.cells #[.int .i64 x.n, .slice A1 L c1] 27)).alloc (.map #[] 0)) := by repeat (first | exact Ext.refl _ | assumption | refine Ext.alloc ?_ _ | refine Ext.drewN ?_ _ | refine Ext.drew ?_)
  have hS0 : SeenE ((w.alloc (.cells #[.int .i64 x.n, .slice A1 L c1] 27)).alloc (.map #[] 0)) (w.heap.size + 1) 0 (metE x.es 0) := by
    have h := SeenE.made (w.alloc (.cells #[.int .i64 x.n, .slice A1 L c1] 27))
    have e0 : metE x.es 0 = fun _ => false := by funext z; simp [metE]
    rw [e0]
    simpa using h
  have HB0 := Lib.hid hB0
  have HX0 := Lib.hid hX0
  have HS0 := Lib.hid hS0
  clear hB0 hX0 hS0
  have hmm := @run_makeMap Try.prog
  obtain ⟨m, hm⟩ : ∃ m, m = wrap64 (x.n - 1) := ⟨_, rfl⟩
  have HM := Lib.hid hm
  clear hm
  go_enter Try.func39, Try.ntmps39
  go_wp2
  clear hmm
  have hB0 := HB0.out
  have hX0 := HX0.out
  have hS0 := HS0.out
  clear HB0 HX0 HS0
  generalize ((w.alloc (.cells #[.int .i64 x.n, .slice A1 L c1] 27)).alloc (.map #[] 0)) = W0 at *
  go_loopw [10] (fun i wr => ∃ k : Nat, k ≤ L ∧ i = .int .i64 k ∧ Hid (∀ i e, i < k → x.es[i]? = some e → okE1 m x.es i e = true) ∧ SeenE wr (w.heap.size + 1) k (metE x.es k) ∧ Blk wr w.heap.size 27 #[.int .i64 x.n, .slice A1 L c1] ∧ Ext w wr) (fun i _ => L - (intOf i).toNat)
  case atStart => exact ⟨0, Nat.zero_le _, rfl, fun i e h => absurd h (by omega), hS0, hB0, hX0⟩
  case round =>
    clear hS0 hB0 hX0
    obtain ⟨k, hk, rfl, HQ, hS, hB, hx⟩ := hrel
    have d0 : wr.cell? ⟨w.heap.size, 0, none⟩ = some (.int .i64 x.n) := hB.cell 0
    have d1 : wr.cell? ⟨w.heap.size, 1, none⟩ = some (.slice A1 L c1) := hB.cell 1
    by_cases hlt : k < L
    · obtain ⟨b, o, e, rfl, hb, he, r0, r1⟩ := edge_at (h1.ext hx) hlt
      have HE := Lib.hid he
      have hok : e.ok := HOK.out e (List.mem_of_getElem? he)
      clear he
      have hblt := hB.lt
      cases hab : (e.a == e.b)
      · by_cases ha : e.a < 0 ∨ m < e.a
        · have HF := Lib.hid (vgr_no HM.out HE.out (okE1_a ha))
          have HA : Hid (e.a < 0 ∨ wrap64 (x.n - 1) < e.a) := by rw [← HM.out]; exact ha
          clear ha
          go_wp2_with fail
          refine (in_no _ _ _ _ HA.out).mono ?_
          rintro e1 w1 ⟨rfl, rfl⟩
          go_wp2
          go_ret
          exact ⟨ret_bool HF.out.symm, hx.alloc _⟩
        · have ha1 : 0 ≤ e.a := by omega
          have ha2 : e.a ≤ m := by omega
          have HA2 : Hid (e.a ≤ wrap64 (x.n - 1)) := by rw [← HM.out]; exact ha2
          clear ha
          by_cases hb' : e.b < 0 ∨ m < e.b
          · have HF := Lib.hid (vgr_no HM.out HE.out (okE1_b hb'))
            have HA : Hid (e.b < 0 ∨ wrap64 (x.n - 1) < e.b) := by rw [← HM.out]; exact hb'
            clear hb'
            go_wp2_with fail
            refine (in_yes _ _ _ _ ha1 HA2.out).mono ?_
            rintro e1 w1 ⟨rfl, rfl⟩
            go_wp2_with fail
            refine (in_no _ _ _ _ HA.out).mono ?_
            rintro e1 w1 ⟨rfl, rfl⟩
            go_wp2
            go_ret
            exact ⟨ret_bool HF.out.symm, hx.alloc _⟩
          · have hb1 : 0 ≤ e.b := by omega
            have hb2 : e.b ≤ m := by omega
            have HB2 : Hid (e.b ≤ wrap64 (x.n - 1)) := by rw [← HM.out]; exact hb2
            clear hb'
            have hS2 : SeenE (wr.alloc (.cells #[.int .i64 e.a, .int .i64 e.b] 74)) (w.heap.size + 1) k (metE x.es k) := by
              obtain ⟨D, q1, q2, q3⟩ := hS
              exact ⟨D, q1.alloc _, q2, q3⟩
            have hlk := hS2.look hok
            cases hs : metE x.es k e
            · rw [hs] at hlk
              have HY := Lib.hid (okE1_yes (m := m) hab ha1 ha2 hb1 hb2 hs)
              have HSN := Lib.hid (metE_snoc HE.out)
              have hB2 := hB.alloc (.cells #[.int .i64 e.a, .int .i64 e.b] 74)
              have hx2 := hx.alloc (.cells #[.int .i64 e.a, .int .i64 e.b] 74)
              clear hs
              go_wp2_with fail
              refine (in_yes _ _ _ _ ha1 HA2.out).mono ?_
              rintro e1 w1 ⟨rfl, rfl⟩
              go_wp2_with fail
              refine (in_yes _ _ _ _ hb1 HB2.out).mono ?_
              rintro e1 w1 ⟨rfl, rfl⟩
              go_wp2_with (at_mapUpdate; refine wpList_putE rfl _ _ _ rfl hS2 rfl (by omega) (y := e) rfl rfl hok ?_; intro w2 hS3 hg2)
              go_roundw
              case rel =>
                refine ⟨k + 1, by omega, by go_num, fun i e' hi he' => ?_, by rw [HSN.out]; exact hS3, hB2.grown hg2 (fun z hz => by injection hz; omega), hx2.grown hg2 (fun z hz => by injection hz; omega)⟩
                by_cases hik : i = k
                · subst hik
                  have := HE.out
                  rw [he'] at this
                  injection this with this
                  rw [this]
                  exact HY.out
                · exact HQ.out i e' (by omega) he'
              case measure => simp [intOf]; omega
            · rw [hs] at hlk
              have HF := Lib.hid (vgr_no HM.out HE.out (okE1_met hs))
              clear hs
              go_wp2_with fail
              refine (in_yes _ _ _ _ ha1 HA2.out).mono ?_
              rintro e1 w1 ⟨rfl, rfl⟩
              go_wp2_with fail
              refine (in_yes _ _ _ _ hb1 HB2.out).mono ?_
              rintro e1 w1 ⟨rfl, rfl⟩
              go_wp2
              go_ret
              exact ⟨ret_bool HF.out.symm, hx.alloc _⟩
      · have HF := Lib.hid (vgr_no HM.out HE.out (okE1_same hab))
        go_wp2
        go_ret
        exact ⟨ret_bool HF.out.symm, hx.alloc _⟩
    · obtain rfl : k = L := by omega
      have HF := Lib.hid (vgr_yes HM.out (fun i e h => HQ.out i e (by rw [HL.out]; exact (List.getElem?_eq_some_iff.1 h).1) h))
      go_wp2_with fail
      refine (impl_IsConnected_any _ x _ (HG.out _ hx) (by rw [← HL.out]; exact hl)).mono ?_
      rintro e1 w1 ⟨rfl, hy1⟩
      go_wp2
      go_ret
      exact ⟨ret_bool HF.out.symm, hx.trans hy1⟩
theorem metE_yes {es : List Ed} {i j : Nat} {y e : Ed} (h : es[j]? = some y) (hj : j < i) (hq : eqE y e = true) : metE es i e = true := by
  unfold metE
  rw [List.any_eq_true]
  exact ⟨y, List.mem_of_getElem? (by rw [List.getElem?_take_of_lt hj]; exact h), hq⟩
theorem metE_no {es : List Ed} {j : Nat} {y e : Ed} (h : es[j]? = some y) (h0 : metE es j e = false) (hq : eqE y e = false) : metE es (j + 1) e = false := by
  rw [metE_snoc h]
  show (eqE e y || metE es j e) = false
  rw [h0, eqE_comm, hq]; rfl
set_option maxRecDepth 100000 in
set_option maxHeartbeats 4000000 in
theorem spec_IsValidGraph_any (v : Value) (x : Gr) (w : World) (h : GrAt w w.heap.size v x) (hl : x.es.length ≤ 100000000) :
    Calls Try.prog 19 #[v] w fun e w' => e = .returned (.bool (vgraph x)) ∧ Ext w w' := by
  obtain ⟨A1, c1, rfl, h1⟩ := h
  have HG : Hid (∀ w', Ext w w' → GrAt w' w'.heap.size (.agg #[.int .i64 x.n, .slice A1 x.es.length c1]) x) := fun w' hx => ⟨A1, c1, rfl, h1.ext hx⟩
  obtain ⟨L, hL⟩ : ∃ L, L = x.es.length := ⟨_, rfl⟩
  have HL := Lib.hid hL
  rw [← hL] at h1 HG hl ⊢
  clear hL
  have hB0 : Blk (w.alloc (.cells #[.int .i64 x.n, .slice A1 L c1] 27)) w.heap.size 27 #[.int .i64 x.n, .slice A1 L c1] := Blk.new _ _ _
  have hX0 : Ext w (w.alloc (.cells #[.int .i64 x.n, .slice A1 L c1] 27)) := by repeat (first | exact Ext.refl _ | assumption | refine Ext.alloc ?_ _ | refine Ext.drewN ?_ _ | refine Ext.drew ?_)
  have HB0 := Lib.hid hB0
  have HX0 := Lib.hid hX0
  clear hB0 hX0
  obtain ⟨m, hm⟩ : ∃ m, m = wrap64 (x.n - 1) := ⟨_, rfl⟩
  have HM := Lib.hid hm
  clear hm
  go_enter Try.func19, Try.ntmps19
  go_wp2
  have hB0 := HB0.out
  have hX0 := HX0.out
  clear HB0 HX0
  generalize (w.alloc (.cells #[.int .i64 x.n, .slice A1 L c1] 27)) = W0 at *
  go_loopw [3] (fun i wr => ∃ k : Nat, k ≤ L ∧ i = .int .i64 k ∧ Hid (∀ i e, i < k → x.es[i]? = some e → okE1 m x.es i e = true) ∧ Blk wr w.heap.size 27 #[.int .i64 x.n, .slice A1 L c1] ∧ Ext w wr) (fun i _ => L - (intOf i).toNat)
  case atStart => exact ⟨0, Nat.zero_le _, rfl, fun i e h => absurd h (by omega), hB0, hX0⟩
  case round =>
    clear hB0 hX0
    obtain ⟨k, hk, rfl, HQ, hB, hx⟩ := hrel
    have d0 : wr.cell? ⟨w.heap.size, 0, none⟩ = some (.int .i64 x.n) := hB.cell 0
    have d1 : wr.cell? ⟨w.heap.size, 1, none⟩ = some (.slice A1 L c1) := hB.cell 1
    by_cases hlt : k < L
    · obtain ⟨b, o, e, rfl, hb, he, r0, r1⟩ := edge_at (h1.ext hx) hlt
      have HE := Lib.hid he
      clear he
      have hblt := hB.lt
      by_cases ha : e.a < 0 ∨ m < e.a
      · have HF := Lib.hid (vgr_no HM.out HE.out (okE1_a ha))
        have HA : Hid (e.a < 0 ∨ wrap64 (x.n - 1) < e.a) := by rw [← HM.out]; exact ha
        clear ha
        go_wp2_with fail
        refine (l1In_no _ _ _ _ HA.out).mono ?_
        rintro e1 w1 ⟨rfl, rfl⟩
        go_wp2
        go_ret
        exact ⟨ret_bool HF.out.symm, hx.alloc _⟩
      have ha1 : 0 ≤ e.a := by omega
      have ha2 : e.a ≤ m := by omega
      have HA2 : Hid (e.a ≤ wrap64 (x.n - 1)) := by rw [← HM.out]; exact ha2
      clear ha
      go_wp2_with fail
      refine (l1In_yes _ _ _ _ ha1 HA2.out).mono ?_
      rintro e1 w1 ⟨rfl, rfl⟩
      by_cases hb' : e.b < 0 ∨ m < e.b
      · have HF := Lib.hid (vgr_no HM.out HE.out (okE1_b hb'))
        have HA : Hid (e.b < 0 ∨ wrap64 (x.n - 1) < e.b) := by rw [← HM.out]; exact hb'
        clear hb'
        go_wp2_with fail
        refine (l1In_no _ _ _ _ HA.out).mono ?_
        rintro e1 w1 ⟨rfl, rfl⟩
        go_wp2
        go_ret
        exact ⟨ret_bool HF.out.symm, hx.alloc _⟩
      have hb1 : 0 ≤ e.b := by omega
      have hb2 : e.b ≤ m := by omega
      have HB2 : Hid (e.b ≤ wrap64 (x.n - 1)) := by rw [← HM.out]; exact hb2
      clear hb'
      go_wp2_with fail
      refine (l1In_yes _ _ _ _ hb1 HB2.out).mono ?_
      rintro e1 w1 ⟨rfl, rfl⟩
      cases hab : (e.a == e.b)
      case true =>
        have HF := Lib.hid (vgr_no HM.out HE.out (okE1_same hab))
        go_wp2
        go_ret
        exact ⟨ret_bool HF.out.symm, hx.alloc _⟩
      go_wp2
      have hBe : Blk (wr.alloc (.cells #[.int .i64 e.a, .int .i64 e.b] 74)) wr.heap.size 74 #[.int .i64 e.a, .int .i64 e.b] := Blk.new _ _ _
      have hB2 := hB.alloc (.cells #[.int .i64 e.a, .int .i64 e.b] 74)
      have hx2 := hx.alloc (.cells #[.int .i64 e.a, .int .i64 e.b] 74)
      clear r0 r1 d0 d1 hB hx
      generalize hs : wr.heap.size = s at *
      generalize (wr.alloc (.cells #[.int .i64 e.a, .int .i64 e.b] 74)) = We at *
      clear hs
      have hr2 := h1.ext hx2
      have d1 : We.cell? ⟨w.heap.size, 1, none⟩ = some (.slice (some ⟨b, o, none⟩) L c1) := hB2.cell 1
      have e0 : We.cell? ⟨s, 0, none⟩ = some (.int .i64 e.a) := hBe.cell 0
      have e1 : We.cell? ⟨s, 1, none⟩ = some (.int .i64 e.b) := hBe.cell 1
      go_loopw [5] (fun i wr => ∃ j : Nat, j ≤ k ∧ i = .int .i64 j ∧ Hid (metE x.es j e = false) ∧ ∃ q, wr = We.drewN q) (fun i _ => k - (intOf i).toNat)
      case atStart => exact ⟨0, Nat.zero_le _, rfl, by simp [Hid, metE], 0, rfl⟩
      case round =>
        obtain ⟨j, hj, rfl, HJ, q, rfl⟩ := hrel
        by_cases hlj : j < k
        · obtain ⟨b', o', y, eA, hb', hy, s0, s1⟩ := edge_at hr2 (by omega : j < L)
          injection eA with eA
          injection eA with eA1 eA2
          subst eA1 eA2
          have HY := Lib.hid hy
          clear hy
          have hj0 : (0 : Int) ≤ (j : Int) := by omega
          have hjL : (j : Int) < (L : Int) := by omega
          have HEG := Try.eqgEdge
          cases hq : eqE y e
          · have HN2 := Lib.hid (metE_no HY.out HJ.out hq)
            have HN := (show ∀ w, (Op.equalIn 10000 74 y.val e.val).run Try.prog w = .ok false w from fun w => by rw [eqIn_edge, hq])
            go_wp2
            go_quiet (fail)
            go_wp2
            go_roundw
            case rel => exact ⟨j + 1, by omega, by go_num, HN2, _, rfl⟩
            case measure => simp [intOf]; omega
          · have HF := Lib.hid (vgr_no HM.out HE.out (okE1_met (metE_yes HY.out hlj hq)))
            have HN := (show ∀ w, (Op.equalIn 10000 74 y.val e.val).run Try.prog w = .ok true w from fun w => by rw [eqIn_edge, hq])
            go_wp2
            go_quiet (fail)
            go_wp2
            go_ret
            exact ⟨ret_bool HF.out.symm, (by repeat (first | exact Ext.refl _ | assumption | refine Ext.alloc ?_ _ | refine Ext.drewN ?_ _ | refine Ext.drew ?_))⟩
        · obtain rfl : j = k := by omega
          have HY := Lib.hid (okE1_yes (m := m) (es := x.es) (i := j) hab ha1 ha2 hb1 hb2 HJ.out)
          go_wp2
          go_roundw
          case rel =>
            refine ⟨j + 1, by omega, by go_num, fun i e' hi he' => ?_, hB2.ext ((Ext.refl We).drewN q), hx2.drewN q⟩
            by_cases hik : i = j
            · subst hik
              have := HE.out
              rw [he'] at this
              injection this with this
              rw [this]
              exact HY.out
            · exact HQ.out i e' (by omega) he'
          case measure => simp [intOf]; omega
    · obtain rfl : k = L := by omega
      have HF := Lib.hid (vgr_yes HM.out (fun i e h => HQ.out i e (by rw [HL.out]; exact (List.getElem?_eq_some_iff.1 h).1) h))
      go_wp2_with fail
      refine (spec_IsConnected_any _ x _ (HG.out _ hx) (by rw [← HL.out]; exact hl)).mono ?_
      rintro e1 w1 ⟨rfl, hy1⟩
      go_wp2
      go_ret
      exact ⟨ret_bool HF.out.symm, hx.trans hy1⟩
end Go.Proofs.Ytofbmkpfliofeab
/-
  Helper text (no claim of its own): basic gates, layouts, and whether a gate can be routed, by the program and by the reference.
-/
namespace Go.Proofs.Ytofbmkpfliofeab
open Go.ChangeShapes Go.WideShapes Go.ChangeAt Go.RowKit Go.Deep
/-- A basic gate: on one qubit, or a CX. -/
def bas (g : Gt) : Bool := ar g.k == 1 || g.k == 9
set_option maxRecDepth 100000 in
set_option maxHeartbeats 1000000 in
theorem impl_IsBasicGate_any (g : Gt) (w : World) : Calls Try.prog 40 #[g.val] w fun e w' => e = .returned (.bool (bas g)) ∧ Ext w w' := by
  go_enter Try.func40, Try.ntmps40
  go_wp2_with fail
  refine (impl_Arity_any _ _).mono ?_
  rintro e w1 ⟨rfl, rfl⟩
  cases h : (ar g.k == 1)
  · have HF : Hid (bas g = (g.k == 9)) := by unfold Hid bas; rw [h, Bool.false_or]
    go_wp2
    go_ret
    exact ⟨ret_bool HF.out.symm, (by repeat (first | exact Ext.refl _ | assumption | refine Ext.alloc ?_ _ | refine Ext.drewN ?_ _ | refine Ext.drew ?_))⟩
  · have HF : Hid (bas g = true) := by unfold Hid bas; rw [h, Bool.true_or]
    go_wp2
    go_ret
    exact ⟨ret_bool HF.out.symm, (by repeat (first | exact Ext.refl _ | assumption | refine Ext.alloc ?_ _ | refine Ext.drewN ?_ _ | refine Ext.drew ?_))⟩
set_option maxRecDepth 100000 in
set_option maxHeartbeats 1000000 in
theorem spec_IsBasicGate_any (g : Gt) (w : World) : Calls Try.prog 47 #[g.val] w fun e w' => e = .returned (.bool (bas g)) ∧ Ext w w' := by
  go_enter Try.func47, Try.ntmps47
  go_wp2_with fail
  refine (spec_Arity_any _ _).mono ?_
  rintro e w1 ⟨rfl, rfl⟩
  cases h : (ar g.k == 1)
  · have HF : Hid (bas g = (g.k == 9)) := by unfold Hid bas; rw [h, Bool.false_or]
    go_wp2
    go_ret
    exact ⟨ret_bool HF.out.symm, (by repeat (first | exact Ext.refl _ | assumption | refine Ext.alloc ?_ _ | refine Ext.drewN ?_ _ | refine Ext.drew ?_))⟩
  · have HF : Hid (bas g = true) := by unfold Hid bas; rw [h, Bool.true_or]
    go_wp2
    go_ret
    exact ⟨ret_bool HF.out.symm, (by repeat (first | exact Ext.refl _ | assumption | refine Ext.alloc ?_ _ | refine Ext.drewN ?_ _ | refine Ext.drew ?_))⟩
/-- Is p a layout for the graph x? -/
def lay (x : Gr) (p : List Int) : Bool := vgraph x && perm p && ((p.length : Int) == x.n)
/-- Can gate g be routed on graph x with layout p? -/
def may (g : Gt) (x : Gr) (p : List Int) : Bool := lay x p && bas g && vg g x.n
theorem lay_v {x : Gr} {p : List Int} (h : vgraph x = false) : lay x p = false := by unfold lay; rw [h]; rfl
theorem lay_p {x : Gr} {p : List Int} (h : perm p = false) : lay x p = false := by unfold lay; rw [h]; simp
theorem lay_e {x : Gr} {p : List Int} (h : vgraph x = true) (h' : perm p = true) : lay x p = ((p.length : Int) == x.n) := by unfold lay; rw [h, h']; rfl
theorem may_l {g : Gt} {x : Gr} {p : List Int} (h : lay x p = false) : may g x p = false := by unfold may; rw [h]; rfl
theorem may_b {g : Gt} {x : Gr} {p : List Int} (h : bas g = false) : may g x p = false := by unfold may; rw [h]; simp
theorem may_v {g : Gt} {x : Gr} {p : List Int} (h : vg g x.n = false) : may g x p = false := by unfold may; rw [h]; simp
theorem may_e {g : Gt} {x : Gr} {p : List Int} (h : lay x p = true) (h' : bas g = true) : may g x p = vg g x.n := by unfold may; rw [h, h']; rfl
theorem may_e2 {g : Gt} {x : Gr} {p : List Int} (h : vg g x.n = true) (h' : bas g = true) : may g x p = lay x p := by unfold may; rw [h, h']; simp
set_option maxRecDepth 100000 in
set_option maxHeartbeats 2000000 in
theorem impl_isLayout_any (v : Value) (x : Gr) (A : Option Addr) (n c : Nat) (p : List Int) (w : World) (h : GrAt w w.heap.size v x) (hl : x.es.length ≤ 100000000) (hok : ∀ e ∈ x.es, e.ok) (hp : Rd w w.heap.size 1 A n (icells p)) (hn : n ≤ 100000000) :
    Calls Try.prog 13 #[v, .slice A n c] w fun e w' => e = .returned (.bool (lay x p)) ∧ Ext w w' := by
  have hlen := Lib.hid (hp.len icell_len (by omega))
  obtain ⟨A1, c1, rfl, h1⟩ := h
  have HG : Hid (∀ w', Ext w w' → GrAt w' w'.heap.size (.agg #[.int .i64 x.n, .slice A1 x.es.length c1]) x) := fun w' hx => ⟨A1, c1, rfl, h1.ext hx⟩
  have HOK := Lib.hid hok
  clear hok h1
  have hB0 : Blk (w.alloc (.cells #[.int .i64 x.n, .slice A1 x.es.length c1] 27)) w.heap.size 27 #[.int .i64 x.n, .slice A1 x.es.length c1] := Blk.new _ _ _
  have hX0 : Ext w (w.alloc (.cells #[.int .i64 x.n, .slice A1 x.es.length c1] 27)) := by repeat (first | exact Ext.refl _ | assumption | refine Ext.alloc ?_ _ | refine Ext.drewN ?_ _ | refine Ext.drew ?_)
  have HB0 := Lib.hid hB0
  have HX0 := Lib.hid hX0
  clear hB0 hX0
  go_enter Try.func13, Try.ntmps13
  go_wp2_with fail
  have hB0 := HB0.out
  have hX0 := HX0.out
  clear HB0 HX0
  generalize (w.alloc (.cells #[.int .i64 x.n, .slice A1 x.es.length c1] 27)) = W at *
  refine (impl_IsValidGraph_any _ x _ (HG.out _ hX0) hl HOK.out).mono ?_
  rintro e w1 ⟨rfl, hx1⟩
  have hx := hX0.trans hx1
  have hB := hB0.ext hx1
  clear hB0 hX0 hx1
  have d0 : w1.cell? ⟨w.heap.size, 0, none⟩ = some (.int .i64 x.n) := hB.cell 0
  cases hv : vgraph x
  · have HF := Lib.hid (lay_v (p := p) hv)
    go_wp2
    go_ret
    exact ⟨ret_bool HF.out.symm, hx⟩
  have HV := Lib.hid hv
  clear hv
  go_wp2_with fail
  refine (impl_IsPermutation_any A n c p _ (hp.ext hx) hn).mono ?_
  rintro e w2 ⟨rfl, hx2⟩
  have hB2 := hB.ext hx2
  clear d0
  have d0 : w2.cell? ⟨w.heap.size, 0, none⟩ = some (.int .i64 x.n) := hB2.cell 0
  cases hpp : perm p
  · have HF := Lib.hid (lay_p (x := x) hpp)
    go_wp2
    go_ret
    exact ⟨ret_bool HF.out.symm, hx.trans hx2⟩
  have HF := Lib.hid (lay_e HV.out hpp)
  clear hpp
  go_wp2
  go_ret
  exact ⟨ret_bool (by rw [HF.out, hlen.out]), hx.trans hx2⟩
set_option maxRecDepth 100000 in
set_option maxHeartbeats 4000000 in
theorem impl_mayRoute_any (g : Gt) (v : Value) (x : Gr) (A : Option Addr) (n c : Nat) (p : List Int) (w : World) (h : GrAt w w.heap.size v x) (hl : x.es.length ≤ 100000000) (hok : ∀ e ∈ x.es, e.ok) (hp : Rd w w.heap.size 1 A n (icells p)) (hn : n ≤ 100000000) :
    Calls Try.prog 14 #[g.val, v, .slice A n c] w fun e w' => e = .returned (.bool (may g x p)) ∧ Ext w w' := by
  obtain ⟨A1, c1, rfl, h1⟩ := h
  have HG : Hid (∀ w', Ext w w' → GrAt w' w'.heap.size (.agg #[.int .i64 x.n, .slice A1 x.es.length c1]) x) := fun w' hx => ⟨A1, c1, rfl, h1.ext hx⟩
  have HOK := Lib.hid hok
  clear hok h1
  have hG0 : Blk ((w.alloc (.cells #[.int .i64 g.k, .int .i64 g.a, .int .i64 g.b, .int .i64 g.c] 43)).alloc (.cells #[.int .i64 x.n, .slice A1 x.es.length c1] 27)) w.heap.size 43 #[.int .i64 g.k, .int .i64 g.a, .int .i64 g.b, .int .i64 g.c] := (Blk.new _ _ _).alloc _
  have hB0 : Blk ((w.alloc (.cells #[.int .i64 g.k, .int .i64 g.a, .int .i64 g.b, .int .i64 g.c] 43)).alloc (.cells #[.int .i64 x.n, .slice A1 x.es.length c1] 27)) (w.heap.size + 1) 27 #[.int .i64 x.n, .slice A1 x.es.length c1] := Blk.newAt (by simp)
  have hX0 : Ext w ((w.alloc (.cells #[.int .i64 g.k, .int .i64 g.a, .int .i64 g.b, .int .i64 g.c] 43)).alloc (.cells #[.int .i64 x.n, .slice A1 x.es.length c1] 27)) := by repeat (first | exact Ext.refl _ | assumption | refine Ext.alloc ?_ _ | refine Ext.drewN ?_ _ | refine Ext.drew ?_)
  have HG0 := Lib.hid hG0
  have HB0 := Lib.hid hB0
  have HX0 := Lib.hid hX0
  clear hB0 hX0 hG0
  go_enter Try.func14, Try.ntmps14
  go_wp2_with fail
  have hG0 := HG0.out
  have hB0 := HB0.out
  have hX0 := HX0.out
  clear HB0 HX0 HG0
  generalize ((w.alloc (.cells #[.int .i64 g.k, .int .i64 g.a, .int .i64 g.b, .int .i64 g.c] 43)).alloc (.cells #[.int .i64 x.n, .slice A1 x.es.length c1] 27)) = W at *
  refine (impl_isLayout_any _ x A n c p _ (HG.out _ hX0) hl HOK.out (hp.ext hX0) hn).mono ?_
  rintro e w1 ⟨rfl, hx1⟩
  have hx := hX0.trans hx1
  have hG := hG0.ext hx1
  have hB := hB0.ext hx1
  clear hB0 hX0 hx1 hG0
  have b0 : w1.cell? ⟨w.heap.size, 0, none⟩ = some (.int .i64 g.k) := hG.cell 0
  have b1 : w1.cell? ⟨w.heap.size, 1, none⟩ = some (.int .i64 g.a) := hG.cell 1
  have b2 : w1.cell? ⟨w.heap.size, 2, none⟩ = some (.int .i64 g.b) := hG.cell 2
  have b3 : w1.cell? ⟨w.heap.size, 3, none⟩ = some (.int .i64 g.c) := hG.cell 3
  cases hv : lay x p
  · have HF := Lib.hid (may_l (g := g) hv)
    go_wp2
    go_ret
    exact ⟨ret_bool HF.out.symm, hx⟩
  have HV := Lib.hid hv
  clear hv
  go_wp2_with fail
  refine (impl_IsBasicGate_any g _).mono ?_
  rintro e w2 ⟨rfl, hx2⟩
  replace hx := hx.trans hx2
  replace hG := hG.ext hx2
  replace hB := hB.ext hx2
  clear b0 b1 b2 b3 hx2
  have b0 : w2.cell? ⟨w.heap.size, 0, none⟩ = some (.int .i64 g.k) := hG.cell 0
  have b1 : w2.cell? ⟨w.heap.size, 1, none⟩ = some (.int .i64 g.a) := hG.cell 1
  have b2 : w2.cell? ⟨w.heap.size, 2, none⟩ = some (.int .i64 g.b) := hG.cell 2
  have b3 : w2.cell? ⟨w.heap.size, 3, none⟩ = some (.int .i64 g.c) := hG.cell 3
  have d0 : w2.cell? ⟨w.heap.size + 1, 0, none⟩ = some (.int .i64 x.n) := hB.cell 0
  cases hb : bas g
  · have HF := Lib.hid (may_b (x := x) (p := p) hb)
    go_wp2
    go_ret
    exact ⟨ret_bool HF.out.symm, hx⟩
  have HF := Lib.hid (may_e HV.out hb)
  clear hb
  go_wp2_with fail
  refine (impl_IsValidGate_any g x.n _).mono ?_
  rintro e w3 ⟨rfl, hx3⟩
  go_wp2
  go_ret
  exact ⟨ret_bool HF.out.symm, hx.trans hx3⟩
set_option maxRecDepth 100000 in
set_option maxHeartbeats 4000000 in
theorem spec_l38Right_any (g : Gt) (v : Value) (x : Gr) (A : Option Addr) (n c : Nat) (p : List Int) (w : World) (h : GrAt w w.heap.size v x) (hl : x.es.length ≤ 100000000) (hp : Rd w w.heap.size 1 A n (icells p)) (hn : n ≤ 100000000) (hc : n ≤ c) :
    Calls Try.prog 21 #[g.val, v, .slice A n c] w fun e w' => e = .returned (.bool (may g x p)) ∧ Ext w w' := by
  have hlen := Lib.hid (hp.len icell_len (by omega))
  obtain ⟨A1, c1, rfl, h1⟩ := h
  have HG : Hid (∀ w', Ext w w' → GrAt w' w'.heap.size (.agg #[.int .i64 x.n, .slice A1 x.es.length c1]) x) := fun w' hx => ⟨A1, c1, rfl, h1.ext hx⟩
  clear h1
  have hG0 : Blk ((w.alloc (.cells #[.int .i64 g.k, .int .i64 g.a, .int .i64 g.b, .int .i64 g.c] 43)).alloc (.cells #[.int .i64 x.n, .slice A1 x.es.length c1] 27)) w.heap.size 43 #[.int .i64 g.k, .int .i64 g.a, .int .i64 g.b, .int .i64 g.c] := (Blk.new _ _ _).alloc _
  have hB0 : Blk ((w.alloc (.cells #[.int .i64 g.k, .int .i64 g.a, .int .i64 g.b, .int .i64 g.c] 43)).alloc (.cells #[.int .i64 x.n, .slice A1 x.es.length c1] 27)) (w.heap.size + 1) 27 #[.int .i64 x.n, .slice A1 x.es.length c1] := Blk.newAt (by simp)
  have hX0 : Ext w ((w.alloc (.cells #[.int .i64 g.k, .int .i64 g.a, .int .i64 g.b, .int .i64 g.c] 43)).alloc (.cells #[.int .i64 x.n, .slice A1 x.es.length c1] 27)) := by repeat (first | exact Ext.refl _ | assumption | refine Ext.alloc ?_ _ | refine Ext.drewN ?_ _ | refine Ext.drew ?_)
  have HG0 := Lib.hid hG0
  have HB0 := Lib.hid hB0
  have HX0 := Lib.hid hX0
  clear hB0 hX0 hG0
  go_enter Try.func21, Try.ntmps21
  go_wp2_with fail
  have hG0 := HG0.out
  have hB0 := HB0.out
  have hX0 := HX0.out
  clear HB0 HX0 HG0
  generalize ((w.alloc (.cells #[.int .i64 g.k, .int .i64 g.a, .int .i64 g.b, .int .i64 g.c] 43)).alloc (.cells #[.int .i64 x.n, .slice A1 x.es.length c1] 27)) = W at *
  refine (spec_IsBasicGate_any g _).mono ?_
  rintro e w1 ⟨rfl, hx1⟩
  have hx := hX0.trans hx1
  have hG := hG0.ext hx1
  have hB := hB0.ext hx1
  clear hB0 hX0 hx1 hG0
  have b0 : w1.cell? ⟨w.heap.size, 0, none⟩ = some (.int .i64 g.k) := hG.cell 0
  have b1 : w1.cell? ⟨w.heap.size, 1, none⟩ = some (.int .i64 g.a) := hG.cell 1
  have b2 : w1.cell? ⟨w.heap.size, 2, none⟩ = some (.int .i64 g.b) := hG.cell 2
  have b3 : w1.cell? ⟨w.heap.size, 3, none⟩ = some (.int .i64 g.c) := hG.cell 3
  have d0 : w1.cell? ⟨w.heap.size + 1, 0, none⟩ = some (.int .i64 x.n) := hB.cell 0
  cases hb : bas g
  · have HF := Lib.hid (may_b (x := x) (p := p) hb)
    go_wp2
    go_ret
    exact ⟨ret_bool HF.out.symm, hx⟩
  have HBS := Lib.hid hb
  clear hb
  go_wp2_with fail
  refine (spec_IsValidGate_any g x.n _).mono ?_
  rintro e w2 ⟨rfl, hx2⟩
  replace hx := hx.trans hx2
  replace hB := hB.ext hx2
  clear b0 b1 b2 b3 hx2 d0 hG
  have d0 : w2.cell? ⟨w.heap.size + 1, 0, none⟩ = some (.int .i64 x.n) := hB.cell 0
  have d1 : w2.cell? ⟨w.heap.size + 1, 1, none⟩ = some (.slice A1 x.es.length c1) := hB.cell 1
  cases hv : vg g x.n
  · have HF := Lib.hid (may_v (p := p) hv)
    go_wp2
    go_ret
    exact ⟨ret_bool HF.out.symm, hx⟩
  have HM := Lib.hid (may_e2 (p := p) hv HBS.out)
  clear hv
  go_wp2_with fail
  refine (spec_IsValidGraph_any _ x _ (HG.out _ hx) hl).mono ?_
  rintro e w3 ⟨rfl, hx3⟩
  replace hx := hx.trans hx3
  replace hB := hB.ext hx3
  clear d0 d1 hx3
  have d0 : w3.cell? ⟨w.heap.size + 1, 0, none⟩ = some (.int .i64 x.n) := hB.cell 0
  cases hv : vgraph x
  · have HF := Lib.hid (HM.out.trans (lay_v (p := p) hv))
    go_wp2
    go_ret
    exact ⟨ret_bool HF.out.symm, hx⟩
  have HV := Lib.hid hv
  clear hv
  go_wp2_with fail
  refine (spec_IsPermutation_any A n c p _ (hp.ext hx) hn hc).mono ?_
  rintro e w4 ⟨rfl, hx4⟩
  replace hx := hx.trans hx4
  replace hB := hB.ext hx4
  clear d0 hx4
  have d0 : w4.cell? ⟨w.heap.size + 1, 0, none⟩ = some (.int .i64 x.n) := hB.cell 0
  cases hpp : perm p
  · have HF := Lib.hid (HM.out.trans (lay_p (x := x) hpp))
    go_wp2
    go_ret
    exact ⟨ret_bool HF.out.symm, hx⟩
  have HF := Lib.hid (HM.out.trans (lay_e HV.out hpp))
  clear hpp
  go_wp2
  go_ret
  exact ⟨ret_bool (by rw [HF.out, hlen.out]), hx⟩
end Go.Proofs.Ytofbmkpfliofeab
/-
  Helper text (no claim of its own): the routing of a gate by swaps (plain Lean).
-/
namespace Go.Proofs.Ytofbmkpfliofeab
open Go.ChangeShapes Go.WideShapes Go.ChangeAt Go.RowKit Go.Deep
/-! ### Permutations -/
theorem getD_of {p : List Int} {i : Nat} {x : Int} (h : p[i]? = some x) : p.getD i 0 = x := by rw [List.getD_eq_getElem?_getD, h]; rfl
theorem perm_iff {p : List Int} : perm p = true ↔ (1 ≤ p.length ∧ p.length ≤ 4) ∧ (∀ x ∈ p, 0 ≤ x ∧ x < (p.length : Int)) ∧ p.Nodup := by
  have hG : permG p p.length = true ↔ (∀ x ∈ p, 0 ≤ x ∧ x < (p.length : Int)) ∧ p.Nodup := by
    unfold permG
    rw [List.all_eq_true]
    constructor
    · intro h
      have h' : ∀ (i : Nat) (hi : i < p.length), (0 ≤ p[i] ∧ p[i] < (p.length : Int)) ∧ p[i] ∉ p.take i := fun i hi => by
        have := h i (by simpa using hi)
        rw [getD_of (List.getElem?_eq_getElem hi)] at this
        unfold okP hasI at this
        simp only [Bool.and_eq_true, decide_eq_true_eq, Bool.not_eq_true', List.contains_eq_mem, decide_eq_false_iff_not] at this
        exact ⟨⟨this.1.1, by have := this.1.2; omega⟩, this.2⟩
      refine ⟨fun x hx => ?_, ?_⟩
      · obtain ⟨i, hi, rfl⟩ := List.getElem_of_mem hx
        exact (h' i hi).1
      · refine List.pairwise_iff_getElem.2 fun i j hi hj hij => ?_
        intro e
        refine (h' j hj).2 ?_
        rw [← e]
        rw [List.mem_iff_getElem?]
        exact ⟨i, by rw [List.getElem?_take_of_lt hij, List.getElem?_eq_getElem hi]⟩
    · rintro ⟨h1, h2⟩ i hi
      simp at hi
      rw [getD_of (List.getElem?_eq_getElem hi)]
      unfold okP hasI
      have h3 := h1 p[i] (List.getElem_mem hi)
      have h4 : p[i] ∉ p.take i := fun hm => by
        obtain ⟨j, hj, he⟩ := List.getElem_of_mem hm
        rw [List.length_take] at hj
        rw [List.getElem_take] at he
        exact List.pairwise_iff_getElem.1 h2 j i (by omega) hi (by omega) he
      simp only [Bool.and_eq_true, decide_eq_true_eq, Bool.not_eq_true', List.contains_eq_mem, decide_eq_false_iff_not]
      exact ⟨⟨h3.1, by omega⟩, h4⟩
  unfold perm
  rw [Bool.and_eq_true, hG, Bool.and_eq_true, decide_eq_true_eq, decide_eq_true_eq]
  constructor
  · rintro ⟨h1, h2⟩; exact ⟨h2, h1⟩
  · rintro ⟨h1, h2⟩; exact ⟨h2, h1⟩
theorem sw1_inj {a b x y : Int} (h : sw1 a b x = sw1 a b y) : x = y := by
  unfold sw1 at h
  simp only [beq_iff_eq] at h
  split at h <;> split at h <;> (try split at h) <;> (try split at h) <;> omega
theorem sw1_in {a b x : Int} {n : Int} (ha : 0 ≤ a ∧ a < n) (hb : 0 ≤ b ∧ b < n) (hx : 0 ≤ x ∧ x < n) : 0 ≤ sw1 a b x ∧ sw1 a b x < n := by
  unfold sw1
  split
  · exact hb
  · split
    · exact ha
    · exact hx
theorem perm_sw {p : List Int} {a b : Int} (h : perm p = true) (ha : 0 ≤ a ∧ a < (p.length : Int)) (hb : 0 ≤ b ∧ b < (p.length : Int)) : perm (p.map (sw1 a b)) = true := by
  obtain ⟨h1, h2, h3⟩ := perm_iff.1 h
  refine perm_iff.2 ⟨by rw [List.length_map]; exact h1, fun x hx => ?_, ?_⟩
  · rw [List.length_map]
    obtain ⟨y, hy, rfl⟩ := List.mem_map.1 hx
    exact sw1_in ha hb (h2 y hy)
  · refine List.pairwise_map.2 (h3.imp fun hne e => hne (sw1_inj e))
/-! ### Routing -/
/-- The qubit at which place i lies. -/
def loc (p : List Int) (i : Int) : Int := p.getD i.toNat 0
/-- The swaps that bring a and b together, and the layout behind them. -/
def rgL (x : Gr) (a b : Int) : Nat → List Int → List Gt × List Int
  | 0, now => ([], now)
  | f + 1, now => if 1 < gd x (loc now a) (loc now b) then
      let s := (spath x (loc now a) (loc now b)).getD 0 0
      let t := (spath x (loc now a) (loc now b)).getD 1 0
      let r := rgL x a b f (swapL now s t)
      (⟨11, s, t, 0⟩ :: r.1, r.2)
    else ([], now)
/-- What RouteGate hands back: gates and a layout. -/
def routG (x : Gr) (g : Gt) (p : List Int) : List Gt × List Int :=
  if may g x p = true then
    if (ar g.k == 1) = true then ([g1 g.k (loc p g.a)], p)
    else ((rgL x g.a g.b 4 p).1 ++ [gcx (loc (rgL x g.a g.b 4 p).2 g.a) (loc (rgL x g.a g.b 4 p).2 g.b)], (rgL x g.a g.b 4 p).2)
  else ([], p)
theorem routG_no {x : Gr} {g : Gt} {p : List Int} (h : may g x p = false) : routG x g p = ([], p) := by unfold routG; rw [if_neg (by simp [h])]
theorem routG_1 {x : Gr} {g : Gt} {p : List Int} (h : may g x p = true) (h1 : (ar g.k == 1) = true) : routG x g p = ([g1 g.k (loc p g.a)], p) := by unfold routG; rw [if_pos h, if_pos h1]
theorem routG_2 {x : Gr} {g : Gt} {p : List Int} (h : may g x p = true) (h1 : (ar g.k == 1) = false) : routG x g p = ((rgL x g.a g.b 4 p).1 ++ [gcx (loc (rgL x g.a g.b 4 p).2 g.a) (loc (rgL x g.a g.b 4 p).2 g.b)], (rgL x g.a g.b 4 p).2) := by unfold routG; rw [if_pos h, if_neg (by simp [h1])]
theorem rgL_stop {x : Gr} {a b : Int} {now : List Int} (f : Nat) (h : ¬ 1 < gd x (loc now a) (loc now b)) : rgL x a b f now = ([], now) := by
  cases f
  · rfl
  · rw [rgL, if_neg h]
theorem rgL_len (x : Gr) (a b : Int) : ∀ f now, (rgL x a b f now).1.length ≤ f
  | 0, _ => by simp [rgL]
  | f + 1, now => by
    rw [rgL]
    split
    · have := rgL_len x a b f
      simp
      exact this _
    · simp
theorem routG_len (x : Gr) (g : Gt) (p : List Int) : (routG x g p).1.length ≤ 5 := by
  have := rgL_len x g.a g.b 4 p
  unfold routG
  split
  · split
    · simp
    · simp; omega
  · simp
/-- What is known of a layout on the way. -/
structure OnWay (x : Gr) (a b : Nat) (now : List Int) : Prop where
  perm : perm now = true
  len : (now.length : Int) = x.n
  ha : a < now.length
  hb : b < now.length
theorem OnWay.at_ {x : Gr} {a b i : Nat} {now : List Int} (h : OnWay x a b now) (hi : i < now.length) : ∃ y, now[i]? = some y ∧ loc now (i : Int) = y ∧ 0 ≤ y ∧ y < x.n := by
  have hp := (perm_iff.1 h.perm).2.1 now[i] (List.getElem_mem hi)
  have hl := h.len
  refine ⟨now[i], List.getElem?_eq_getElem hi, ?_, hp.1, by omega⟩
  unfold loc
  exact getD_of (by simp)
theorem spath_two {x : Gr} {a b : Int} {d : Nat} (h : gd x a b = ((d + 1 : Nat) : Int)) : ∃ k : Nat, nxt x b a d = some k ∧ spath x a b = a :: (k : Int) :: spw x b d (k : Int) ∧ gd x (k : Int) b = (d : Int) ∧ (k : Int) < x.n := by
  obtain ⟨k, hk⟩ := nxt_some h
  obtain ⟨h1, h2, h3, _⟩ := nxt_spec hk
  exact ⟨k, hk, by rw [spath_yes h, spw_step hk], h3, h1⟩
theorem gd_in {x : Gr} {a b : Int} (h : 0 ≤ gd x a b) : (0 ≤ a ∧ a < x.n) ∧ (0 ≤ b ∧ b < x.n) := by
  obtain ⟨n, i, j, hn, h1, h4, hi', hj', hi, hj, _⟩ := gd_ok h
  omega
theorem gd_same {x : Gr} {a b : Int} (ha : 0 ≤ a ∧ a < x.n) (h4 : x.n ≤ 4) (e : a = b) : gd x a b = 0 := by
  subst e
  obtain ⟨n, hn⟩ := Int.eq_ofNat_of_zero_le (by omega : 0 ≤ x.n)
  rw [gd_yes hn (by omega) (by omega) ha.1 (by omega) ha.1 (by omega)]
  exact Dist.gdist_self (by omega) rfl
/-- One swap along a shortest path. -/
theorem OnWay.step {x : Gr} {a b : Nat} {now : List Int} (h : OnWay x a b now) (hg : 1 < gd x (loc now (a : Int)) (loc now (b : Int))) :
    ∃ (s t : Int) (rest : List Int), spath x (loc now (a : Int)) (loc now (b : Int)) = s :: t :: rest ∧ OnWay x a b (swapL now s t) ∧ gd x (loc (swapL now s t) (a : Int)) (loc (swapL now s t) (b : Int)) = gd x (loc now (a : Int)) (loc now (b : Int)) - 1 ∧ (0 ≤ s ∧ s < x.n) ∧ (0 ≤ t ∧ t < x.n) ∧
      ∀ f, rgL x a b (f + 1) now = (⟨11, s, t, 0⟩ :: (rgL x a b f (swapL now s t)).1, (rgL x a b f (swapL now s t)).2) := by
  obtain ⟨y, hy, ly, y0, y1⟩ := h.at_ h.ha
  obtain ⟨z, hz, lz, z0, z1⟩ := h.at_ h.hb
  have hl := h.len
  have h4 := (perm_le h.perm).2
  obtain ⟨d, hd⟩ := Int.eq_ofNat_of_zero_le (by omega : 0 ≤ gd x (loc now (a : Int)) (loc now (b : Int)) - 1)
  have hd' : gd x y z = ((d + 1 : Nat) : Int) := by rw [← ly, ← lz]; omega
  obtain ⟨k, _, hs, hk, hkn⟩ := spath_two hd'
  have hzy : z ≠ y := fun e => by
    have := gd_same ⟨y0, y1⟩ (by omega) e.symm
    rw [ly, lz] at hg
    omega
  have hzk : z ≠ (k : Int) := fun e => by
    have := gd_same (x := x) (a := (k : Int)) ⟨by omega, hkn⟩ (by omega) e.symm
    rw [ly, lz] at hg
    omega
  have hsw : swapL now y (k : Int) = now.map (sw1 y (k : Int)) := swapL_yes h.perm
  have hkr : 0 ≤ (k : Int) ∧ (k : Int) < x.n := ⟨by omega, hkn⟩
  have ha' : loc (swapL now y (k : Int)) (a : Int) = (k : Int) := by
    unfold loc
    rw [hsw]
    refine getD_of ?_
    rw [Int.toNat_natCast, List.getElem?_map, hy]
    simp [sw1]
  have hb' : loc (swapL now y (k : Int)) (b : Int) = z := by
    unfold loc
    rw [hsw]
    refine getD_of ?_
    rw [Int.toNat_natCast, List.getElem?_map, hz]
    simp only [Option.map_some]
    rw [sw1_n (by simpa using hzy) (by simpa using hzk)]
  rw [ly, lz]
  refine ⟨y, k, _, hs, ⟨by rw [hsw]; exact perm_sw h.perm (by omega) (by omega), by rw [hsw, List.length_map]; exact hl, by rw [hsw, List.length_map]; exact h.ha, by rw [hsw, List.length_map]; exact h.hb⟩, by rw [ha', hb', hk, hd']; omega, ⟨y0, y1⟩, hkr, fun f => ?_⟩
  rw [rgL, if_pos hg, ly, lz, hs]
  rfl
theorem OnWay.of {g : Gt} {x : Gr} {p : List Int} (h : may g x p = true) (h1 : (ar g.k == 1) = false) : ∃ a b : Nat, g.a = a ∧ g.b = b ∧ a ≠ b ∧ OnWay x a b p := by
  unfold may lay at h
  simp only [Bool.and_eq_true] at h
  obtain ⟨⟨⟨⟨hv, hp⟩, hn⟩, hb⟩, hg⟩ := h
  have h9 : (g.k == 9) = true := by
    unfold bas at hb
    rw [h1, Bool.false_or] at hb
    exact hb
  have h2 : ar g.k = 2 := by
    rw [beq_iff_eq] at h9
    rw [h9]; unfold ar; omega
  obtain ⟨p1, p2, p3, p4, p5, p6⟩ : 1 ≤ x.n ∧ x.n ≤ 4 ∧ 0 < ar g.k ∧ okI g x.n 0 g.a = true ∧ okI g x.n 1 g.b = true ∧ okI g x.n 2 g.c = true := by
    unfold vg at hg
    simp only [Bool.and_eq_true, decide_eq_true_eq] at hg
    obtain ⟨⟨⟨⟨⟨q1, q2⟩, q3⟩, q4⟩, q5⟩, q6⟩ := hg
    exact ⟨q1, q2, q3, q4, q5, q6⟩
  rw [okI_lo (by rw [h2]; omega)] at p4 p5
  simp only [Bool.and_eq_true, decide_eq_true_eq, qs, List.take_zero, Bool.not_eq_true', beq_iff_eq] at p4 p5 hn
  obtain ⟨a, ha⟩ := Int.eq_ofNat_of_zero_le p4.1.1
  obtain ⟨b, hb'⟩ := Int.eq_ofNat_of_zero_le p5.1.1
  refine ⟨a, b, ha, hb', fun e => ?_, hp, hn, by omega, by omega⟩
  subst e
  have := p5.2
  rw [hb', ha] at this
  simp at this
theorem loc_at {g : Gt} {x : Gr} {p : List Int} (h : may g x p = true) : ∃ (a : Nat) (y : Int), g.a = a ∧ a < p.length ∧ p[a]? = some y ∧ loc p g.a = y ∧ p.length ≤ 4 ∧ perm p = true := by
  unfold may lay at h
  simp only [Bool.and_eq_true] at h
  obtain ⟨⟨⟨⟨hv, hp⟩, hn⟩, hb⟩, hg⟩ := h
  have hpos : 0 < ar g.k := by
    unfold vg at hg
    simp only [Bool.and_eq_true, decide_eq_true_eq] at hg
    exact hg.1.1.1.2
  have p4 : okI g x.n 0 g.a = true := by
    unfold vg at hg
    simp only [Bool.and_eq_true, decide_eq_true_eq] at hg
    exact hg.1.1.2
  rw [okI_lo (by omega)] at p4
  simp only [Bool.and_eq_true, decide_eq_true_eq, beq_iff_eq] at p4 hn
  obtain ⟨a, ha⟩ := Int.eq_ofNat_of_zero_le p4.1.1
  have hlt : a < p.length := by omega
  refine ⟨a, p[a], ha, hlt, List.getElem?_eq_getElem hlt, ?_, (perm_le hp).2, hp⟩
  unfold loc
  rw [ha]
  exact getD_of (by simp)
/-- Whatever the ways are, the layouts on them are layouts. -/
theorem rgL_way {x : Gr} {a b : Nat} : ∀ f {now : List Int}, OnWay x a b now → OnWay x a b (rgL x a b f now).2
  | 0, _, h => h
  | f + 1, now, h => by
    by_cases hg : 1 < gd x (loc now (a : Int)) (loc now (b : Int))
    · obtain ⟨s, t, rest, _, h2, _, _, _, h6⟩ := h.step hg
      rw [h6]
      exact rgL_way f h2
    · rw [rgL_stop _ hg]
      exact h
theorem routG_way {x : Gr} {g : Gt} {p : List Int} (hp : perm p = true) : perm (routG x g p).2 = true ∧ (routG x g p).2.length = p.length := by
  cases h : may g x p
  · rw [routG_no h]; exact ⟨hp, rfl⟩
  · cases h1 : (ar g.k == 1)
    · obtain ⟨a, b, ha, hb, _, hw⟩ := OnWay.of h h1
      have h2 := rgL_way 4 hw
      have h3 := h2.len
      have h4 := hw.len
      rw [routG_2 h h1, ha, hb]
      exact ⟨h2.perm, show (rgL x a b 4 p).2.length = p.length by omega⟩
    · rw [routG_1 h h1]; exact ⟨hp, rfl⟩
end Go.Proofs.Ytofbmkpfliofeab
/-
  Helper text (no claim of its own): drawn circuits. Only that they return, and what their results are made of.
-/
namespace Go.Proofs.Ytofbmkpfliofeab
open Go.ChangeShapes Go.WideShapes Go.ChangeAt Go.RowKit Go.Deep
theorem blk2 {w : World} {g t : Nat} {a b : Value} (h : Blk w g t #[a, b]) : (w.cell? ⟨g, 0, none⟩ = some a ∧ w.cell? ⟨g, 1, none⟩ = some b) ∧ w.frozen? ⟨g, 0, none⟩ = false ∧ w.frozen? ⟨g, 1, none⟩ = false :=
  ⟨⟨h.cell 0, h.cell 1⟩, h.frozen 0, h.frozen 1⟩
theorem Blk.set2 {w : World} {g t : Nat} {z0 z1 : Value} (h : Blk w g t #[z0, z1]) (a b : Value) : Blk ((w.setCell ⟨g, 0, none⟩ a).setCell ⟨g, 1, none⟩ b) g t #[a, b] := (h.set_ 0 a).set_ 1 b
theorem Cur.set2 {w : World} {g q : Nat} (h : Cur w g) (hq : g < q) (a b : Value) : Cur ((w.setCell ⟨q, 0, none⟩ a).setCell ⟨q, 1, none⟩ b) g :=
  (h.set_ (p := ⟨q, 0, none⟩) hq a).set_ (p := ⟨q, 1, none⟩) hq b
theorem gr_set2 {w0 w : World} {g q : Nat} (h : w0.grownBy w (some g)) (hq : w0.heap.size ≤ q) (a b : Value) : w0.grownBy ((w.setCell ⟨q, 0, none⟩ a).setCell ⟨q, 1, none⟩ b) (some g) :=
  gr_set (gr_set h (p := ⟨q, 0, none⟩) hq a) (p := ⟨q, 1, none⟩) hq b
theorem Try.sizeCirc : (Try.prog.info? 35).map (·.size) = some 2 := by kernel_rfl
theorem ret2c {fn : Func} {p : Tmp} (hf : fn.results = #[.cell p 35]) {W : World} {q : Nat} {z0 z1 : Value} (hB : Blk W q 35 #[z0, z1]) (a b : Value) (tmps : Array Value)
    (hp : tmps.getD p undef = .pointer (some ⟨q, 0, none⟩)) : (results fn tmps).run Try.prog ((W.setCell ⟨q, 0, none⟩ a).setCell ⟨q, 1, none⟩ b) = .ok (.agg #[a, b]) ((W.setCell ⟨q, 0, none⟩ a).setCell ⟨q, 1, none⟩ b) :=
  results_cell_row hf tmps _ q 35 _ (0, 0) _ hp (hB.set2 a b) Try.underlying35 rfl Try.sizeCirc
/-- append of one drawn gate in a drawn region. -/
theorem stepG1 {w : World} {B : Nat} {ops : Array Oper} {o : Oper} {a : Act} {K : Act → World → Prop} {Q : Exit → Act → World → Prop} {E : Prop} (hgd : o.guard = none) (s x : Operand)
    (ho : o.op = .call { callee := .builtin .append, args := #[s, x], argTypes := #[24, 24] }) (v : Value) (n : Nat) (xs : List Gt) (hs : a.eval s = v)
    (hown : w.ownsRow B 43 4 v n (gcells xs)) (hB : B ≤ w.heap.size) (y : Gt) (e : TypeId) (b : Nat) (hx : a.eval x = .slice (some ⟨b, 0, none⟩) 1 1) (hbs : b = w.heap.size) (hn : n ≤ 90000000)
    (h : ∀ A' c' w', w'.ownsRow B 43 4 (.slice A' (n + 1) c') (n + 1) (gcells (xs ++ [y])) → w.grownBy w' v.ownBlock → ((Value.slice A' (n + 1) c').ownBlock = v.ownBlock ∨ (Value.slice A' (n + 1) c').ownBlock = some (w.heap.size + 1)) → K (a.put o.dst (.slice A' (n + 1) c')) w') :
    if Region.wanted o (yielded ops a.tmps) = true then Oper.wp Try.prog o a (w.alloc (.cells #[.int .i64 y.k, .int .i64 y.a, .int .i64 y.b, .int .i64 y.c] e)) K Q else E := by
  subst hbs
  have hcs := cutW_size hB
  refine stepGateS (w0 := cutW w B) hgd s x ho v n xs hs (by rw [hcs]; exact hown.alloc _) ((cutW_ext hB).alloc _) _ 1 1 [y] hx (rd_new w _ e 4 _ (by simp [Gt.cells]) (by simp [Gt.cells])) (by omega) ?_
  intro v' w' h1 h2 h3 h4
  rw [hcs] at h1
  obtain ⟨A', c', rfl, _⟩ := own_slice h1
  exact h A' c' w' h1 (World.grownBy.trans (((Ext.refl w).alloc _).gr _) h3) (by simpa using h4)

set_option maxRecDepth 100000 in
set_option maxHeartbeats 8000000 in
theorem l11Right_any (g n most : Nat) (hn : 1 ≤ n ∧ n ≤ 4) (hm : most ≤ 200) (w : World) (h : Cur w g) :
    Calls Try.prog 64 #[.pointer (some ⟨g, 0, none⟩), .int .i64 n, .int .i64 most] w fun e w' => ∃ A len cap gs, e = .returned (.agg #[.int .i64 n, .slice A len cap]) ∧ len ≤ most ∧ w'.ownsRow w.heap.size 43 4 (.slice A len cap) len (gcells gs) ∧ Cur w' g ∧ w.grownBy w' (some g) := by
  have hgl := h.lt
  go_enter Try.func64, Try.ntmps64
  go_wp2_with fail
  refine (l1Below_any g _ _ ((h.alloc _).alloc _) (by omega)).mono ?_
  rintro e w2 ⟨x, rfl, ⟨hx0, hx1, _⟩, hC2, hG2⟩
  obtain ⟨m, rfl⟩ := Int.eq_ofNat_of_zero_le hx0
  have hx2 : m ≤ most := by have := hx1 (by omega); omega
  clear hx1 hx0
  have hB6 := ((Blk.new w 35 #[.int .i64 0, .slice none 0 0]).alloc _).grown hG2 (fun k hk => by injection hk; omega)
  have hB7 := (Blk.newAt (w := w.alloc (.cells #[.int .i64 0, .slice none 0 0] 35)) (t := 35) (cs := #[.int .i64 n, .slice none 0 0]) (b := w.heap.size + 1) (by simp)).grown hG2 (fun k hk => by injection hk; omega)
  have hg2 : w.grownBy w2 (some g) := gr_trans ((((Ext.refl w).alloc _).alloc _).gr _) hG2
  clear hG2
  go_wp2
  go_loopw [9] (fun i wr => ∃ (k : Nat) (A : Option Addr) (cap : Nat) (gs : List Gt), k ≤ m ∧ i = .int .i64 k ∧ Blk wr w.heap.size 35 #[.int .i64 0, .slice none 0 0] ∧ Blk wr (w.heap.size + 1) 35 #[.int .i64 n, .slice A k cap] ∧ wr.ownsRow (w.heap.size + 2) 43 4 (.slice A k cap) k (gcells gs) ∧ Cur wr g ∧ w.grownBy wr (some g)) (fun i _ => m - (intOf i).toNat)
  case atStart => exact ⟨0, none, 0, [], Nat.zero_le _, rfl, hB6, hB7, ⟨by simp, .inl ⟨rfl, rfl⟩⟩, hC2, hg2⟩
  case round =>
    clear hB6 hB7 hC2 hg2
    obtain ⟨k, A, cap, gs, hk, rfl, hB6, hB7, hown, hC, hG⟩ := hrel
    have hl7 := hB7.lt
    by_cases hlt : k < m
    · have HOWN := Lib.hid hown
      have HROW := Lib.hid hown.lt
      have c1 : wr.cell? ⟨w.heap.size + 1, 1, none⟩ = some (.slice A k cap) := hB7.cell 1
      have f1 : wr.frozen? ⟨w.heap.size + 1, 1, none⟩ = false := hB7.frozen 1
      clear hown
      go_wp2
      go_region_law (first
        | (go_simp; go_at_call 80; refine (l9Gate_any g n hn _ (hC.ext (Ext.refl wr).drew)).mono ?_; rintro e w3 ⟨y, rfl, hC3, hG3⟩; have hB73 := Blk.grown (w := wr.drew) hB7 hG3 (fun k hk => by injection hk; omega); have hB63 := Blk.grown (w := wr.drew) hB6 hG3 (fun k hk => by injection hk; omega); have k3 : w3.cell? ⟨w.heap.size + 1, 1, none⟩ = some (.slice A k cap) := hB73.cell 1; have g3 : w3.frozen? ⟨w.heap.size + 1, 1, none⟩ = false := hB73.frozen 1; have hl3 := hB73.lt)
        | (refine stepG1 (B := w.heap.size + 2) (by rfl) _ _ (by rfl) _ k gs (by rfl) (own_kept (w := wr.drew) HOWN.out hG3 (fun q hq => by injection hq; omega)) (by omega) y _ _ (by rfl) (by rfl) (by omega) ?_; intro A4 c4 w4 ho4 hg4 _; have hB74 := hB73.grown hg4 (fun k hk => by have := HROW.out k hk; omega); have hB64 := hB63.grown hg4 (fun k hk => by have := HROW.out k hk; omega); have k4 : w4.cell? ⟨w.heap.size + 1, 1, none⟩ = some (.slice A k cap) := hB74.cell 1; have g4 : w4.frozen? ⟨w.heap.size + 1, 1, none⟩ = false := hB74.frozen 1))
      all_goals
        have hC4 := hC3.grown hg4 (fun q hq => by have := HROW.out q hq; omega)
        have hG4 := gr_new (gr_trans (gr_ext hG (Ext.refl wr).drew) hG3) hg4 (fun q hq => by have := HROW.out q hq; omega)
        clear k4 g4 k3 g3
        go_wp2
        go_roundw
        case rel => exact ⟨k + 1, A4, c4, gs ++ [y], by omega, by go_num, hB64.far (p := ⟨w.heap.size + 1, 1, none⟩) (by simp) _, hB74.set_ 1 _, own_set ho4 (p := ⟨w.heap.size + 1, 1, none⟩) (by simp) _, hC4.set_ (p := ⟨w.heap.size + 1, 1, none⟩) (by simp; omega) _, gr_set hG4 (p := ⟨w.heap.size + 1, 1, none⟩) (by simp) _⟩
        case measure => simp [intOf]; omega
    · obtain ⟨⟨b0, b1⟩, z0, z1⟩ := blk2 hB7
      obtain ⟨⟨a0, a1⟩, y0, y1⟩ := blk2 hB6
      have HOWN := Lib.hid hown
      clear hown
      go_wp2
      exact bodyPost_ret (v := .agg #[.int .i64 n, .slice A k cap]) (ret2c rfl hB6 (.int .i64 n) (.slice A k cap) _ rfl) rfl ⟨A, k, cap, gs, rfl, by omega, own_base (own_set (own_set HOWN.out (p := ⟨w.heap.size, 0, none⟩) (by simp) _) (p := ⟨w.heap.size, 1, none⟩) (by simp) _) (by omega), Cur.set2 hC hgl _ _, gr_set2 hG (Nat.le_refl _) _ _⟩
end Go.Proofs.Ytofbmkpfliofeab
/-
  Helper text (no claim of its own): a shortest path by the program.
-/
namespace Go.Proofs.Ytofbmkpfliofeab
open Go.ChangeShapes Go.WideShapes Go.ChangeAt Go.RowKit Go.Deep
set_option maxRecDepth 100000 in
set_option maxHeartbeats 8000000 in
theorem impl_ShortestPath_any (v : Value) (x : Gr) (a b : Int) (w : World) (h : GrAt w w.heap.size v x) (hl : x.es.length ≤ 100000000) :
    Calls Try.prog 18 #[v, .int .i64 a, .int .i64 b] w fun e w' => ∃ A len cap, e = .returned (.slice A len cap) ∧ len = (spath x a b).length ∧ w'.ownsRow w.heap.size 3 1 (.slice A len cap) len (icells (spath x a b)) ∧ Ext w w' := by
  obtain ⟨A1, c1, rfl, h1⟩ := h
  have HG : Hid (∀ w', Ext w w' → GrAt w' w'.heap.size (.agg #[.int .i64 x.n, .slice A1 x.es.length c1]) x) := fun w' hx => ⟨A1, c1, rfl, h1.ext hx⟩
  have hgr := gd_range x a b
  clear h1
  have hB0 : Blk (w.alloc (.cells #[.int .i64 x.n, .slice A1 x.es.length c1] 27)) w.heap.size 27 #[.int .i64 x.n, .slice A1 x.es.length c1] := Blk.new _ _ _
  have hX0 : Ext w (w.alloc (.cells #[.int .i64 x.n, .slice A1 x.es.length c1] 27)) := by repeat (first | exact Ext.refl _ | assumption | refine Ext.alloc ?_ _ | refine Ext.drewN ?_ _ | refine Ext.drew ?_)
  have HB0 := Lib.hid hB0
  have HX0 := Lib.hid hX0
  clear hB0 hX0
  go_enter Try.func18, Try.ntmps18
  go_wp2_with fail
  have hB0 := HB0.out
  have hX0 := HX0.out
  clear HB0 HX0
  generalize (w.alloc (.cells #[.int .i64 x.n, .slice A1 x.es.length c1] 27)) = Wb at *
  refine (impl_GraphDistance_any _ x a b _ (HG.out _ hX0) hl).mono ?_
  rintro e w1 ⟨rfl, hx1⟩
  by_cases hneg : gd x a b = -1
  · have HS := Lib.hid (spath_no (x := x) (a := a) (b := b) (by omega))
    rw [hneg]
    clear hneg
    go_wp2
    go_ret
    refine ⟨_, _, _, rfl, by rw [HS.out]; rfl, by rw [HS.out]; exact World.ownsRow_nil _ _ _ _, hX0.trans hx1⟩
  obtain ⟨d, hd⟩ := Int.eq_ofNat_of_zero_le (by omega : 0 ≤ gd x a b)
  have HS := Lib.hid (spath_yes hd)
  have HD := Lib.hid hd
  rw [hd] at hgr ⊢
  have hd4 : d ≤ 4 := by omega
  have hdn : ((d : Int) == -1) = false := by rw [beq_eq_false_iff_ne]; omega
  clear hd hgr hneg
  go_wp2
  have ho2 : (w1.alloc (.cells #[.int .i64 a] 3)).ownsRow Wb.heap.size 3 1 (.slice (some ⟨w1.heap.size, 0, none⟩) 1 1) 1 (icells [a]) := own_lit hx1 _ _ 1 1 #[.int .i64 a] _ rfl rfl rfl (by omega)
  have hx2 : Ext Wb (w1.alloc (.cells #[.int .i64 a] 3)) := hx1.alloc _
  generalize (w1.alloc (.cells #[.int .i64 a] 3)) = W2 at *
  clear hx1 hdn
  go_loopw [7, 8] (fun vd v wr => ∃ (q : Nat) (z : Int) (pre : List Int) (m c : Nat) (A : Option Addr), q ≤ d ∧ vd = .int .i64 q ∧ v = .slice A (m + 1) c ∧ gd x z b = (q : Int) ∧ m ≤ 4 - q ∧ Hid (m = pre.length) ∧ Hid (spath x a b = (pre ++ [z]) ++ spw x b q z) ∧ wr.ownsRow Wb.heap.size 3 1 (.slice A (m + 1) c) (m + 1) (icells (pre ++ [z])) ∧ Ext Wb wr) (fun vd _ _ => (intOf vd).toNat)
  case atStart => exact ⟨d, a, [], 0, _, _, Nat.le_refl _, rfl, rfl, HD.out, by omega, rfl, HS.out, ho2, hx2⟩
  case round =>
    clear ho2 hx2
    obtain ⟨q, z, pre, m, c, A, hq, rfl, rfl, hz, hm, HM, HQ, ho, hx⟩ := hrel
    by_cases hq0 : 0 < q
    · obtain ⟨q, rfl⟩ : ∃ q', q = q' + 1 := ⟨q - 1, by omega⟩
      obtain ⟨k, hk⟩ := nxt_some hz
      obtain ⟨hkn, hkc, hkd, hkl⟩ := nxt_spec hk
      have hn4 : x.n ≤ 4 := by
        obtain ⟨n, i, j, hn, h1, h4, _⟩ := gd_ok (by omega : 0 ≤ gd x z b)
        omega
      have HST := Lib.hid (spw_step hk)
      have HKC := Lib.hid hkc
      have HKD := Lib.hid hkd
      have HKL := Lib.hid hkl
      obtain ⟨bo, oo, y, rfl, hbo, hy, c0⟩ := int_at (Rd.own ho) (by omega : m < m + 1)
      have hyz : y = z := by
        rw [HM.out, List.getElem?_append_right (Nat.le_refl _)] at hy
        simpa using hy.symm
      subst hyz
      clear hk hkc hkd hkl hz hy
      have hm4 : m ≤ 4 := by omega
      have hm0 : (0 : Int) ≤ (m : Int) := by omega
      have hw3 : IntKind.i64.wrap (m : Int) = (m : Int) := IntWalk.i64_in _ (by omega)
      have hmm1 : (m : Int) < ((m + 1 : Nat) : Int) := by omega
      have hmm2 : (m : Int) < (m : Int) + 1 := by omega
      have HW3 := Lib.hid hw3
      clear hw3
      go_wp2
      obtain ⟨wo, rfl⟩ : ∃ wo : World, wo = wr := ⟨_, rfl⟩
      go_loopw [8, 9] (fun vo i wr => ∃ j : Nat, j ≤ k ∧ i = .int .i64 j ∧ vo = .slice (some ⟨bo, oo, none⟩) (m + 1) c ∧ Ext wo wr) (fun _ i _ => k - (intOf i).toNat)
      case atStart => exact ⟨0, Nat.zero_le _, rfl, rfl, Ext.refl _⟩
      case round =>
        obtain ⟨j, hj, rfl, rfl, hxj⟩ := hrel
        have hX := hx.trans hxj
        have hB := hB0.ext hX
        have d0 : wr.cell? ⟨w.heap.size, 0, none⟩ = some (.int .i64 x.n) := hB.cell 0
        have d1 : wr.cell? ⟨w.heap.size, 1, none⟩ = some (.slice A1 x.es.length c1) := hB.cell 1
        have c1' : wr.cell? ⟨bo, oo + m, none⟩ = some (.int .i64 y) := (hxj.cell (p := ⟨bo, oo + m, none⟩) hbo).trans c0
        have hjn : (j : Int) < x.n := by omega
        have HK : Hid (∀ w', Ext wr w' → w'.cell? ⟨w.heap.size, 0, none⟩ = some (.int .i64 x.n) ∧ w'.cell? ⟨w.heap.size, 1, none⟩ = some (.slice A1 x.es.length c1) ∧ w'.cell? ⟨bo, oo + m, none⟩ = some (.int .i64 y)) := fun w' z => ⟨(hB.ext z).cell 0, (hB.ext z).cell 1, (z.cell (p := ⟨bo, oo + m, none⟩) (Nat.lt_of_lt_of_le hbo hxj.size)).trans c1'⟩
        by_cases hjk : j < k
        · have hlo := HKL.out j hjk
          cases hc : cpl x.es y (j : Int)
          · clear hlo
            go_wp2
            have hw3 := HW3.out
            refine wp_region_held_drew (S := (fun w' => w'.cell? ⟨w.heap.size, 0, none⟩ = some (.int .i64 x.n) ∧ w'.cell? ⟨w.heap.size, 1, none⟩ = some (.slice A1 x.es.length c1) ∧ w'.cell? ⟨bo, oo + m, none⟩ = some (.int .i64 y))) (by kernel_rfl) (HK.out _ (Ext.refl wr).drew) (fun hHeld => ?_)
            (refine wpAnyH_take (i := 0) (v := ?_) rfl (by kernel_rfl) (by kernel_rfl) (by kernel_rfl) (fun _ _ _ h => h) (Or.inl ⟨by rfl, ?_⟩) (by assumption) ?_; rotate_left; · (intro w hSw; (try dsimp only at hSw); go_simp; all_goals with_reducible rfl); (try simp only [Act.put, List.getElem_toArray, List.getElem_cons_zero, List.getElem_cons_succ, List.setIfInBounds_toArray, List.set_cons_zero, List.set_cons_succ]))
            (refine wpAnyH_take (i := 1) (v := ?_) rfl (by kernel_rfl) (by kernel_rfl) (by kernel_rfl) (fun _ _ _ h => h) (Or.inl ⟨by rfl, ?_⟩) (by assumption) ?_; rotate_left; · (intro w hSw; (try dsimp only at hSw); go_simp; all_goals with_reducible rfl); (try simp only [Act.put, List.getElem_toArray, List.getElem_cons_zero, List.getElem_cons_succ, List.setIfInBounds_toArray, List.set_cons_zero, List.set_cons_succ]))
            (refine wpAnyH_take (i := 2) (v := ?_) rfl (by kernel_rfl) (by kernel_rfl) (by kernel_rfl) (fun _ _ _ h => h) (Or.inl ⟨by rfl, ?_⟩) (by assumption) ?_; rotate_left; · (intro w hSw; (try dsimp only at hSw); go_simp; all_goals with_reducible rfl); (try simp only [Act.put, List.getElem_toArray, List.getElem_cons_zero, List.getElem_cons_succ, List.setIfInBounds_toArray, List.set_cons_zero, List.set_cons_succ]))
            (refine wpAnyH_take (i := 3) (v := ?_) rfl (by kernel_rfl) (by kernel_rfl) (by kernel_rfl) (fun _ _ _ h => h) (Or.inl ⟨by rfl, ?_⟩) (by assumption) ?_; rotate_left; · (intro w hSw; (try dsimp only at hSw); go_simp; all_goals with_reducible rfl); (try simp only [Act.put, List.getElem_toArray, List.getElem_cons_zero, List.getElem_cons_succ, List.setIfInBounds_toArray, List.set_cons_zero, List.set_cons_succ]))
            (refine wpAnyH_take (i := 4) (v := ?_) rfl (by kernel_rfl) (by kernel_rfl) (by kernel_rfl) (fun _ _ _ h => h) (Or.inl ⟨by rfl, ?_⟩) (by assumption) ?_; rotate_left; · (intro w hSw; (try dsimp only at hSw); go_simp; all_goals with_reducible rfl); (try simp only [Act.put, List.getElem_toArray, List.getElem_cons_zero, List.getElem_cons_succ, List.setIfInBounds_toArray, List.set_cons_zero, List.set_cons_succ]))
            (refine wpAnyH_take (i := 5) (v := ?_) rfl (by kernel_rfl) (by kernel_rfl) (by kernel_rfl) (fun _ _ _ h => h) (Or.inl ⟨by rfl, ?_⟩) (by assumption) ?_; rotate_left; · (intro w hSw; (try dsimp only at hSw); go_simp; all_goals with_reducible rfl); (try simp only [Act.put, List.getElem_toArray, List.getElem_cons_zero, List.getElem_cons_succ, List.setIfInBounds_toArray, List.set_cons_zero, List.set_cons_succ]))
            (refine wpAnyH_take (i := 6) (v := ?_) rfl (by kernel_rfl) (by kernel_rfl) (by kernel_rfl) (fun _ _ _ h => h) (Or.inl ⟨by rfl, ?_⟩) (by assumption) ?_; rotate_left; · (intro w hSw; (try dsimp only at hSw); go_simp; all_goals with_reducible rfl); (try simp only [Act.put, List.getElem_toArray, List.getElem_cons_zero, List.getElem_cons_succ, List.setIfInBounds_toArray, List.set_cons_zero, List.set_cons_succ]))
            (refine wpAnyH_take (i := 7) (v := ?_) rfl (by kernel_rfl) (by kernel_rfl) (by kernel_rfl) (fun _ _ _ h => h) (Or.inl ⟨by rfl, ?_⟩) (by assumption) ?_; rotate_left; · (intro w hSw; (try dsimp only at hSw); go_simp; all_goals with_reducible rfl); (try simp only [Act.put, List.getElem_toArray, List.getElem_cons_zero, List.getElem_cons_succ, List.setIfInBounds_toArray, List.set_cons_zero, List.set_cons_succ]))
            (refine wpAnyH_ready (rs := [8]) (by kernel_rfl) (by simp) ?_; refine AllReadyH.cons rfl (fun K hK => ?_) AllReadyH.nil; go_simp)
            refine (impl_AreCoupled_any _ x y j _ (HG.out _ (hX0.trans hX.drew)) hl).mono ?_
            rintro e w3 ⟨rfl, hy3⟩
            replace hy3 : Ext wr w3 := Ext.trans (Ext.refl wr).drew hy3
            rw [hc]
            refine hK.out _ _ (HK.out _ hy3) (fun hHeld => ?_)
            clear hK K
            (try simp only [Act.put, List.getElem_toArray, List.getElem_cons_zero, List.getElem_cons_succ, List.setIfInBounds_toArray, List.set_cons_zero, List.set_cons_succ])
            (refine wpAnyH_take (i := 9) (v := ?_) rfl (by kernel_rfl) (by kernel_rfl) (by kernel_rfl) (fun _ _ _ h => h) (Or.inl ⟨by rfl, ?_⟩) (by assumption) ?_; rotate_left; · (intro w hSw; (try dsimp only at hSw); go_simp; all_goals with_reducible rfl); (try simp only [Act.put, List.getElem_toArray, List.getElem_cons_zero, List.getElem_cons_succ, List.setIfInBounds_toArray, List.set_cons_zero, List.set_cons_succ]))
            (refine wpAnyH_take (i := 10) rfl (by kernel_rfl) (by kernel_rfl) (by kernel_rfl) (fun _ _ _ h => h) (Or.inr ⟨by first | kernel_rfl | rfl, rfl⟩) (by assumption) ?_; (try simp only [Act.put, List.getElem_toArray, List.getElem_cons_zero, List.getElem_cons_succ, List.setIfInBounds_toArray, List.set_cons_zero, List.set_cons_succ]))
            (refine wpAnyH_take (i := 11) rfl (by kernel_rfl) (by kernel_rfl) (by kernel_rfl) (fun _ _ _ h => h) (Or.inr ⟨by first | kernel_rfl | rfl, rfl⟩) (by assumption) ?_; (try simp only [Act.put, List.getElem_toArray, List.getElem_cons_zero, List.getElem_cons_succ, List.setIfInBounds_toArray, List.set_cons_zero, List.set_cons_succ]))
            (refine wpAnyH_take (i := 12) rfl (by kernel_rfl) (by kernel_rfl) (by kernel_rfl) (fun _ _ _ h => h) (Or.inr ⟨by first | kernel_rfl | rfl, rfl⟩) (by assumption) ?_; (try simp only [Act.put, List.getElem_toArray, List.getElem_cons_zero, List.getElem_cons_succ, List.setIfInBounds_toArray, List.set_cons_zero, List.set_cons_succ]))
            (refine wpAnyH_take (i := 13) rfl (by kernel_rfl) (by kernel_rfl) (by kernel_rfl) (fun _ _ _ h => h) (Or.inr ⟨by first | kernel_rfl | rfl, rfl⟩) (by assumption) ?_; (try simp only [Act.put, List.getElem_toArray, List.getElem_cons_zero, List.getElem_cons_succ, List.setIfInBounds_toArray, List.set_cons_zero, List.set_cons_succ]))
            (refine wpAnyH_take (i := 14) rfl (by kernel_rfl) (by kernel_rfl) (by kernel_rfl) (fun _ _ _ h => h) (Or.inr ⟨by first | kernel_rfl | rfl, rfl⟩) (by assumption) ?_; (try simp only [Act.put, List.getElem_toArray, List.getElem_cons_zero, List.getElem_cons_succ, List.setIfInBounds_toArray, List.set_cons_zero, List.set_cons_succ]))
            (refine wpAnyH_take (i := 15) rfl (by kernel_rfl) (by kernel_rfl) (by kernel_rfl) (fun _ _ _ h => h) (Or.inr ⟨by first | kernel_rfl | rfl, rfl⟩) (by assumption) ?_; (try simp only [Act.put, List.getElem_toArray, List.getElem_cons_zero, List.getElem_cons_succ, List.setIfInBounds_toArray, List.set_cons_zero, List.set_cons_succ]))
            (refine wpAnyH_take (i := 16) (v := ?_) rfl (by kernel_rfl) (by kernel_rfl) (by kernel_rfl) (fun _ _ _ h => h) (Or.inl ⟨by rfl, ?_⟩) (by assumption) ?_; rotate_left; · (intro w hSw; (try dsimp only at hSw); go_simp; all_goals with_reducible rfl); (try simp only [Act.put, List.getElem_toArray, List.getElem_cons_zero, List.getElem_cons_succ, List.setIfInBounds_toArray, List.set_cons_zero, List.set_cons_succ]))
            (refine wpAnyH_done (by kernel_rfl) ?_ _)
            clear hw3
            go_wp2
            go_roundw
            case rel => first | exact ⟨j + 1, by omega, by go_num, rfl, hxj.trans hy3⟩ | ((repeat apply Exists.intro); exact ⟨⟨j + 1, by omega, by go_num, rfl, hxj.trans hy3⟩, rfl⟩)
            case measure => simp [intOf]; omega
          · rw [hc, Bool.true_and] at hlo
            have HLO := Lib.hid hlo
            clear hlo
            obtain ⟨G, hGd⟩ : ∃ G, G = gd x (j : Int) b := ⟨_, rfl⟩
            rw [← hGd] at HLO
            have HGD := Lib.hid hGd
            clear hGd
            have hlo := HLO.out
            go_wp2
            have hw3 := HW3.out
            go_region_held3 (fun w' => w'.cell? ⟨w.heap.size, 0, none⟩ = some (.int .i64 x.n) ∧ w'.cell? ⟨w.heap.size, 1, none⟩ = some (.slice A1 x.es.length c1) ∧ w'.cell? ⟨bo, oo + m, none⟩ = some (.int .i64 y))
              (first | go_keep | exact HK.out _ (by assumption))
              (first
                | (go_at_call 32; refine (impl_AreCoupled_any _ x y j _ (HG.out _ (hX0.trans hX.drew)) hl).mono ?_; rintro e w3 ⟨rfl, hy3⟩; replace hy3 : Ext wr w3 := Ext.trans (Ext.refl wr).drew hy3; rw [hc])
                | (go_at_call 44; refine (impl_GraphDistance_any _ x j b _ (HG.out _ ((hX0.trans hX).trans hy3)) hl).mono ?_; rintro e w4 ⟨rfl, hy4⟩; have hx4 : Ext wr w4 := hy3.trans hy4; rw [← HGD.out]))
            all_goals
              clear hw3
              go_wp2
              go_roundw
              case rel => first | exact ⟨j + 1, by omega, by go_num, rfl, hxj.trans hx4⟩ | ((repeat apply Exists.intro); exact ⟨⟨j + 1, by omega, by go_num, rfl, hxj.trans hx4⟩, rfl⟩)
              case measure => simp [intOf]; omega
        · obtain rfl : j = k := by omega
          have hpl : pre.length = m := HM.out.symm
          have HPL := Lib.hid hpl
          clear hpl
          go_wp2
          have hw3 := HW3.out
          go_region_held3 (fun w' => w'.cell? ⟨w.heap.size, 0, none⟩ = some (.int .i64 x.n) ∧ w'.cell? ⟨w.heap.size, 1, none⟩ = some (.slice A1 x.es.length c1) ∧ w'.cell? ⟨bo, oo + m, none⟩ = some (.int .i64 y))
            (first | go_keep | exact HK.out _ (by assumption))
            (first
              | (go_at_call 32; refine (impl_AreCoupled_any _ x y j _ (HG.out _ (hX0.trans hX.drew)) hl).mono ?_; rintro e w3 ⟨rfl, hy3⟩; replace hy3 : Ext wr w3 := Ext.trans (Ext.refl wr).drew hy3; rw [HKC.out])
              | (go_at_call 44; refine (impl_GraphDistance_any _ x j b _ (HG.out _ ((hX0.trans hX).trans hy3)) hl).mono ?_; rintro e w4 ⟨rfl, hy4⟩; have hx4 : Ext wr w4 := hy3.trans hy4; rw [HKD.out]))
          all_goals
            clear hw3
            have ho4 := own_ext ho (hxj.trans hx4)
            have hX4 := hX.trans hx4
            go_wp2_with (at_builtin; refine appInt (w0 := Wb) rfl _ _ rfl _ (m + 1) (pre ++ [y]) rfl ho4 hX4 (j : Int) _ _ rfl (by simp) (by omega) ?_; intro v5 w5 ho5 hx5 hg5 hb5)
            obtain ⟨A5, c5, rfl, _⟩ := own_slice ho5
            go_roundw
            case rel => exact ⟨q, j, pre ++ [y], m + 1, c5, A5, by omega, by go_num, rfl, HKD.out, by omega, by simp [Hid, HPL.out], by rw [HQ.out, HST.out]; simp [Hid], ho5, hx5⟩
            case measure => simp [intOf]
    · obtain rfl : q = 0 := by omega
      have HE : Hid (spath x a b = pre ++ [z]) := by rw [HQ.out]; simp [spw, Hid]
      go_wp2
      go_ret
      exact ⟨_, _, _, rfl, by rw [HE.out, HM.out]; simp, by rw [HE.out]; exact own_base ho hX0.size, hX0.trans hx⟩
end Go.Proofs.Ytofbmkpfliofeab
namespace Go.Proofs.Ytofbmkpfliofeab
open Go.ChangeShapes Go.WideShapes Go.ChangeAt Go.RowKit Go.Deep
set_option linter.unusedVariables false
theorem own_apart {w : World} {B B' e e' size size' n n' : Nat} {v v' : Value} {xs xs' : List Value} (h : w.ownsRow B e size v n xs) (h' : w.ownsRow B' e' size' v' n' xs') (hne : e ≠ e') {g : Nat} (hg : v.ownBlock = some g) : v'.ownBlock ≠ some g := by
  intro hg'
  rcases h.2 with ⟨rfl, _⟩ | ⟨b, cap, cur, rfl, _, hc, _⟩
  · cases hg
  · rcases h'.2 with ⟨rfl, _⟩ | ⟨b', cap', cur', rfl, _, hc', _⟩
    · cases hg'
    · injection hg with hg
      injection hg' with hg'
      subst hg hg'
      rw [hc] at hc'
      injection hc' with hc'
      injection hc' with _ hc'
      exact hne hc'
/-- A row is kept where a row of other elements is written. -/
theorem own_other {w w' : World} {B B' e e' size size' n n' : Nat} {v v' : Value} {xs xs' : List Value} (h : w.ownsRow B e size v n xs) (h' : w.ownsRow B' e' size' v' n' xs') (hne : e ≠ e') (hg : w.grownBy w' v'.ownBlock) : w'.ownsRow B e size v n xs := by
  refine h.kept hg ?_
  cases hv : v.ownBlock with
  | none => exact .inl rfl
  | some k => exact .inr fun e1 => own_apart h h' hne hv e1.symm
/-- What RouteGate hands back. -/
def RoutE (w : World) (r : List Gt × List Int) (e : Ending) (w' : World) : Prop :=
  ∃ v A len cap, e = .returned (.tuple #[v, .slice A len cap]) ∧ len = r.2.length ∧ len ≤ cap ∧ w'.ownsRow w.heap.size 43 4 v r.1.length (gcells r.1) ∧ w'.ownsRow w.heap.size 3 1 (.slice A len cap) len (icells r.2) ∧ Ext w w'
theorem own_le {w : World} {B e size n c : Nat} {A : Option Addr} {xs : List Value} (h : w.ownsRow B e size (.slice A n c) n xs) : n ≤ c := by
  rcases h.2 with ⟨h0, rfl⟩ | ⟨g, cap, cur, hv, _, _, hnc, _⟩
  · omega
  · injection hv with _ _ h3
    omega
theorem RoutE.mk {w Wb w' : World} {r : List Gt × List Int} {v : Value} {A : Option Addr} {n cap : Nat} {gs : List Gt} {q : List Int} (hr : r = (gs, q)) (hx : Ext w Wb) (hg : w'.ownsRow Wb.heap.size 43 4 v gs.length (gcells gs)) (hp : w'.ownsRow Wb.heap.size 3 1 (.slice A n cap) n (icells q)) (hw : Ext Wb w') (hq : q.length = n) : RoutE w r (.returned (.tuple #[v, .slice A n cap])) w' := by
  subst hr
  exact ⟨v, A, n, cap, rfl, hq.symm, own_le hp, own_base hg hx.size, own_base hp hx.size, hx.trans hw⟩
theorem two_at {w : World} {B n i j : Nat} {A : Option Addr} {xs : List Int} {y z : Int} (h : Rd w B 1 A n (icells xs)) (hi : i < n) (hj : j < n) (hy : xs[i]? = some y) (hz : xs[j]? = some z) :
    ∃ b o, A = some ⟨b, o, none⟩ ∧ b < B ∧ w.cell? ⟨b, o + i, none⟩ = some (.int .i64 y) ∧ w.cell? ⟨b, o + j, none⟩ = some (.int .i64 z) := by
  obtain ⟨b, o, y', rfl, hb, hy', c1⟩ := int_at h hi
  obtain ⟨b', o', z', e, _, hz', c2⟩ := int_at h hj
  injection e with e
  injection e with e1 e2
  subst e1 e2
  rw [hy] at hy'
  rw [hz] at hz'
  injection hy' with hy'
  injection hz' with hz'
  subst hy' hz'
  exact ⟨b, o, rfl, hb, c1, c2⟩
def slen : Value → Nat
  | .slice _ n _ => n
  | _ => 0
theorem gint_ne : (43 : Nat) ≠ 3 := by decide
theorem intg_ne : (3 : Nat) ≠ 43 := by decide

end Go.Proofs.Ytofbmkpfliofeab
