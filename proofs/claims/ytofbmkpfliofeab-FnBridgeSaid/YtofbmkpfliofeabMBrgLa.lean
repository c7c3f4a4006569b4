/-
  Helper text (no claim of its own): permutations, by the program and by the reference.
-/
import Derived.Test.YtofbmkpfliofeabBase
import Derived.Test.YtofbmkpfliofeabSvg
import Derived.Test.YtofbmkpfliofeabDec
import Derived.Test.YtofbmkpfliofeabCho
/-
  Helper text (no claim of its own): Edge as records, slices of them, and the laws' own helpers on them (size, copy, comparison). Printed by gen_fam.py.
-/
namespace Go.Proofs.Ytofbmkpfliofeab
open Go.ChangeShapes Go.WideShapes Go.ChangeAt Go.RowKit Go.Deep

structure Ed where
  a : Int
  b : Int
def eqE (x y : Ed) : Bool := x.a == y.a && x.b == y.b
def Ed.ok (x : Ed) : Prop := I64 x.a ∧ I64 x.b
abbrev Ed.val (x : Ed) : Value := .agg #[.int .i64 x.a, .int .i64 x.b]
def Ed.cells (x : Ed) : List Value := [.int .i64 x.a, .int .i64 x.b]
abbrev ecells (xs : List Ed) : List Value := xs.flatMap Ed.cells
theorem Ed.cells_len (x : Ed) : x.cells.length = 2 := rfl
theorem edge_at {w : World} {B n i : Nat} {A : Option Addr} {xs : List Ed} (h : Rd w B 2 A n (ecells xs)) (hi : i < n) :
    ∃ b o x, A = some ⟨b, o, none⟩ ∧ b < B ∧ xs[i]? = some x ∧ w.cell? ⟨b, o + i * 2, none⟩ = some (.int .i64 x.a) ∧ w.cell? ⟨b, o + i * 2 + 1, none⟩ = some (.int .i64 x.b) := by
  obtain ⟨b, o, x, rfl, hb, hx, hc⟩ := elem_at Ed.cells_len (by omega) h hi
  exact ⟨b, o, x, rfl, hb, hx, hc 0 _ rfl, hc 1 _ rfl⟩


theorem Try.infoEdge : (Try.prog.info? 74).map (fun i => (i.zero, i.size, i.bytes)) = some (some (.agg #[.int .i64 0, .int .i64 0]), 2, 16) := by kernel_rfl
theorem Ed.one (xs : List Ed) : ∀ u ∈ ecells xs, u.oneCell' = true := by
  intro u hu
  obtain ⟨x, _, hx⟩ := List.mem_flatMap.1 hu
  simp [Ed.cells] at hx
  rcases hx with rfl | rfl <;> rfl
/-- append of a slice. -/
theorem appEdgeS {w0 w : World} {ops : Array Oper} {rest : List Oper} {o : Oper} {a : Act} {Q : Exit → Act → World → Prop} (hgd : o.guard = none) (s x : Operand)
    (ho : o.op = .call { callee := .builtin .append, args := #[s, x], argTypes := #[25, 25] }) (v : Value) (n : Nat) (xs : List Ed) (hs : a.eval s = v)
    (hown : w.ownsRow w0.heap.size 74 2 v n (ecells xs)) (hx0 : Ext w0 w) (A : Option Addr) (m c : Nat) (ys : List Ed) (hx : a.eval x = .slice A m c) (hr : Rd w w.heap.size 2 A m (ecells ys)) (hn : n + m ≤ 100000000)
    (h : ∀ v' w', w'.ownsRow w0.heap.size 74 2 v' (n + m) (ecells (xs ++ ys)) → Ext w0 w' → w.grownBy w' v.ownBlock → (v'.ownBlock = v.ownBlock ∨ v'.ownBlock = some w.heap.size) → wpList Try.prog ops Q rest (a.put o.dst v') w') : wpList Try.prog ops Q (o :: rest) a w := by
  obtain ⟨i0, hi, hz0, hz1, hz2⟩ := info_parts Try.infoEdge
  exact wpList_app hgd s x _ ho 74 i0 _ 2 16 Try.underlying25 hi hz0 hz1 hz2 rfl (by decide) (by decide) v n _ hs hown hx0 A m c _ hx hr (Ed.one ys) hn (fun v' w' h1 => h v' w' (by unfold ecells; rw [List.flatMap_append]; exact h1))
/-- append of a slice, in a region that draws its order. -/
theorem stepEdgeS {w0 w : World} {ops : Array Oper} {o : Oper} {a : Act} {K : Act → World → Prop} {Q : Exit → Act → World → Prop} {E : Prop} (hgd : o.guard = none) (s x : Operand)
    (ho : o.op = .call { callee := .builtin .append, args := #[s, x], argTypes := #[25, 25] }) (v : Value) (n : Nat) (xs : List Ed) (hs : a.eval s = v)
    (hown : w.ownsRow w0.heap.size 74 2 v n (ecells xs)) (hx0 : Ext w0 w) (A : Option Addr) (m c : Nat) (ys : List Ed) (hx : a.eval x = .slice A m c) (hr : Rd w w.heap.size 2 A m (ecells ys)) (hn : n + m ≤ 100000000)
    (h : ∀ v' w', w'.ownsRow w0.heap.size 74 2 v' (n + m) (ecells (xs ++ ys)) → Ext w0 w' → w.grownBy w' v.ownBlock → (v'.ownBlock = v.ownBlock ∨ v'.ownBlock = some w.heap.size) → K (a.put o.dst v') w') : if Region.wanted o (yielded ops a.tmps) = true then Oper.wp Try.prog o a w K Q else E := by
  obtain ⟨i0, hi, hz0, hz1, hz2⟩ := info_parts Try.infoEdge
  exact step_app hgd s x _ ho 74 i0 _ 2 16 Try.underlying25 hi hz0 hz1 hz2 rfl (by decide) (by decide) v n _ hs hown hx0 A m c _ hx hr (Ed.one ys) hn (fun v' w' h1 => h v' w' (by unfold ecells; rw [List.flatMap_append]; exact h1))
/-- append of one element. -/
theorem appEdge {w0 w : World} {ops : Array Oper} {rest : List Oper} {o : Oper} {a : Act} {Q : Exit → Act → World → Prop} (hgd : o.guard = none) (s x : Operand)
    (ho : o.op = .call { callee := .builtin .append, args := #[s, x], argTypes := #[25, 25] }) (v : Value) (n : Nat) (xs : List Ed) (hs : a.eval s = v)
    (hown : w.ownsRow w0.heap.size 74 2 v n (ecells xs)) (hx0 : Ext w0 w) (y : Ed) (e : TypeId) (b : Nat) (hx : a.eval x = .slice (some ⟨b, 0, none⟩) 1 1) (hbs : b = w.heap.size) (hn : n ≤ 90000000)
    (h : ∀ v' w', w'.ownsRow w0.heap.size 74 2 v' (n + 1) (ecells (xs ++ [y])) → Ext w0 w' → (w.alloc (.cells #[.int .i64 y.a, .int .i64 y.b] e)).grownBy w' v.ownBlock → (v'.ownBlock = v.ownBlock ∨ v'.ownBlock = some (w.heap.size + 1)) → wpList Try.prog ops Q rest (a.put o.dst v') w') : wpList Try.prog ops Q (o :: rest) a (w.alloc (.cells #[.int .i64 y.a, .int .i64 y.b] e)) := by
  subst hbs
  refine appEdgeS hgd s x ho v n xs hs (hown.alloc _) (hx0.alloc _) _ 1 1 [y] hx (rd_new w _ e 2 _ (by simp [Ed.cells]) (by simp [Ed.cells])) (by omega) ?_
  intro v' w' h1 h2 h3 h4
  exact h v' w' h1 h2 h3 (by simpa using h4)
theorem eqE_self (x : Ed) : eqE x x = true := by simp [eqE]
end Go.Proofs.Ytofbmkpfliofeab
/-
  Helper text (no claim of its own): graphs, as records, and the laws' own helpers on them. Printed in part by gen_struct.py.
-/
namespace Go.Proofs.Ytofbmkpfliofeab
open Go.ChangeShapes Go.WideShapes Go.ChangeAt Go.RowKit Go.Deep
structure Gr where
  n : Int
  es : List Ed
/-- The struct value v reads as the record x; its slices lie below block B. -/
def GrAt (w : World) (B : Nat) (v : Value) (x : Gr) : Prop :=
  ∃ (A1 : Option Addr) (c1 : Nat), v = .agg #[.int .i64 x.n, .slice A1 x.es.length c1] ∧ Rd w B 2 A1 x.es.length (ecells x.es)
/-- The same, each slice in new memory of its own: slice j from block b(j-1) on and below bj. -/
def GrOwn (w : World) (b0 b1 : Nat) (v : Value) (x : Gr) : Prop :=
  ∃ (A1 : Option Addr) (c1 : Nat), v = .agg #[.int .i64 x.n, .slice A1 x.es.length c1] ∧ w.ownsRow b0 74 2 (.slice A1 x.es.length c1) x.es.length (ecells x.es) ∧ (∀ g, (Value.slice A1 x.es.length c1).ownBlock = some g → g < b1)
theorem GrAt.up {w w' : World} {B : Nat} {v : Value} {x : Gr} (h : GrAt w B v x) (hx : Ext w w') (hB : B ≤ w.heap.size) : GrAt w' B v x := by
  obtain ⟨A1, c1, hv, h1⟩ := h
  exact ⟨A1, c1, hv, h1.up hx hB⟩
theorem GrAt.more {w : World} {B B' : Nat} {v : Value} {x : Gr} (h : GrAt w B v x) (hB : B ≤ B') : GrAt w B' v x := by
  obtain ⟨A1, c1, hv, h1⟩ := h
  exact ⟨A1, c1, hv, h1.more hB⟩
theorem GrAt.grown {w w' : World} {B : Nat} {v : Value} {x : Gr} {row : Option Nat} (h : GrAt w B v x) (hg : w.grownBy w' row) (hB : B ≤ w.heap.size) (hr : ∀ g, row = some g → B ≤ g) : GrAt w' B v x := by
  obtain ⟨A1, c1, hv, h1⟩ := h
  exact ⟨A1, c1, hv, h1.grown hg hB hr⟩
theorem GrOwn.at_ {w : World} {b0 b1 : Nat} {v : Value} {x : Gr} (h : GrOwn w b0 b1 v x) : GrAt w w.heap.size v x := by
  obtain ⟨A1, c1, hv, h1, l1⟩ := h
  exact ⟨A1, c1, hv, Rd.own h1⟩
theorem GrOwn.ext {w w' : World} {b0 b1 : Nat} {v : Value} {x : Gr} (h : GrOwn w b0 b1 v x) (hx : Ext w w') : GrOwn w' b0 b1 v x := by
  obtain ⟨A1, c1, hv, h1, l1⟩ := h
  exact ⟨A1, c1, hv, own_ext h1 hx, l1⟩
def Gr.small (x : Gr) : Prop := x.es.length ≤ 1048576

def eqGr (x y : Gr) : Bool := (x.n == y.n) && (eqL eqE x.es y.es)
theorem eqGr_self (x : Gr) : eqGr x x = true := by
  unfold eqGr
  simp [eqL_self eqE eqE_self]
def Gr.ok (x : Gr) : Prop := I64 x.n ∧ x.es.length ≤ maxLen ∧ (∀ g ∈ x.es, g.ok)
end Go.Proofs.Ytofbmkpfliofeab
/-
  Helper text (no claim of its own): edges of a graph, and whether gates can be executed on it, by the program and by the reference. Printed by gen_exe.py.
-/
namespace Go.Proofs.Ytofbmkpfliofeab
open Go.ChangeShapes Go.WideShapes Go.ChangeAt Go.RowKit Go.Deep
def hitE (a b : Int) (e : Ed) : Bool := e.a == a && e.b == b
def hasE (es : List Ed) (a b : Int) : Bool := es.any (hitE a b)
theorem hasE_yes {es : List Ed} {a b : Int} {k : Nat} {e : Ed} (h : es[k]? = some e) (h1 : (e.a == a) = true) (h2 : (e.b == b) = true) : hasE es a b = true := by
  unfold hasE
  rw [List.any_eq_true]
  exact ⟨e, List.mem_of_getElem? h, by unfold hitE; rw [h1, h2]; rfl⟩
theorem hasE_snoc {es : List Ed} {a b : Int} {k : Nat} {e : Ed} (h : es[k]? = some e) (hk : hasE (es.take k) a b = false) (he : hitE a b e = false) : hasE (es.take (k + 1)) a b = false := by
  unfold hasE at *
  rw [take_snoc h, List.any_append, hk]
  simp [he]
def exe1 (x : Gr) (g : Gt) : Bool := vg g x.n && (ar g.k == 1 || (g.k == 9 && hasE x.es g.a g.b))
def exeN (x : Gr) (gs : List Gt) : Bool := gs.all (exe1 x)
theorem exeN_no {x : Gr} {gs : List Gt} {k : Nat} {g : Gt} (h : gs[k]? = some g) (hg : exe1 x g = false) : exeN x gs = false := by
  unfold exeN
  rw [Bool.eq_false_iff]
  intro ha
  rw [List.all_eq_true] at ha
  rw [ha g (List.mem_of_getElem? h)] at hg
  cases hg
theorem exeN_snoc {x : Gr} {gs : List Gt} {k : Nat} {g : Gt} (h : gs[k]? = some g) (hk : exeN x (gs.take k) = true) (hg : exe1 x g = true) : exeN x (gs.take (k + 1)) = true := by
  unfold exeN at *
  rw [take_snoc h, List.all_append, hk]
  simp [hg]

set_option maxRecDepth 100000 in
set_option maxHeartbeats 1000000 in
theorem spec_HasEdge_any (v : Value) (x : Gr) (a b : Int) (w : World) (h : GrAt w w.heap.size v x) (hn : x.es.length ≤ 100000000) :
    Calls Try.prog 72 #[v, .int .i64 a, .int .i64 b] w fun e w' => e = .returned (.bool (hasE x.es a b)) ∧ Ext w w' := by
  obtain ⟨A1, c1, rfl, h1⟩ := h
  go_enter Try.func72, Try.ntmps72
  go_wp2
  go_loop [7] (fun i => ∃ k : Nat, k ≤ x.es.length ∧ i = .int .i64 k ∧ Hid (hasE (x.es.take k) a b = false)) (fun i => x.es.length - (intOf i).toNat)
  case atStart => exact ⟨0, Nat.zero_le _, rfl, Lib.hid (by simp [hasE])⟩
  case round =>
    obtain ⟨k, hk, rfl, HQ⟩ := hrel
    by_cases hlt : k < x.es.length
    · obtain ⟨b0, o, e, rfl, hb, hg, r0, r1⟩ := edge_at h1 hlt
      have HG := Lib.hid hg
      clear hg
      cases e1 : (e.a == a)
      · have HE : Hid (hitE a b e = false) := by unfold Hid hitE; rw [e1]; rfl
        go_wp2
        go_round
        case rel => exact ⟨k + 1, by omega, by go_num, Lib.hid (hasE_snoc HG.out HQ.out HE.out)⟩
        case measure => simp [intOf]; omega
      · cases e2 : (e.b == b)
        · have HE : Hid (hitE a b e = false) := by unfold Hid hitE; rw [e1, e2]; rfl
          go_wp2
          go_round
          case rel => exact ⟨k + 1, by omega, by go_num, Lib.hid (hasE_snoc HG.out HQ.out HE.out)⟩
          case measure => simp [intOf]; omega
        · have HF := Lib.hid (hasE_yes HG.out e1 e2)
          go_wp2
          go_ret
          exact ⟨ret_bool HF.out.symm, (by repeat (first | exact Ext.refl _ | assumption | refine Ext.alloc ?_ _ | refine Ext.drewN ?_ _ | refine Ext.drew ?_))⟩
    · rw [List.take_of_length_le (by omega)] at HQ
      go_wp2
      go_ret
      exact ⟨ret_bool HQ.out.symm, (by repeat (first | exact Ext.refl _ | assumption | refine Ext.alloc ?_ _ | refine Ext.drewN ?_ _ | refine Ext.drew ?_))⟩

set_option maxRecDepth 100000 in
set_option maxHeartbeats 1000000 in
theorem impl_HasEdge_any (v : Value) (x : Gr) (a b : Int) (w : World) (h : GrAt w w.heap.size v x) (hn : x.es.length ≤ 100000000) :
    Calls Try.prog 60 #[v, .int .i64 a, .int .i64 b] w fun e w' => e = .returned (.bool (hasE x.es a b)) ∧ Ext w w' := by
  obtain ⟨A1, c1, rfl, h1⟩ := h
  go_enter Try.func60, Try.ntmps60
  go_wp2
  go_loopw [12] (fun i wr => ∃ k : Nat, k ≤ x.es.length ∧ i = .int .i64 k ∧ Hid (hasE (x.es.take k) a b = false) ∧ Ext w wr) (fun i _ => x.es.length - (intOf i).toNat)
  case atStart => exact ⟨0, Nat.zero_le _, rfl, Lib.hid (by simp [hasE]), (by repeat (first | exact Ext.refl _ | assumption | refine Ext.alloc ?_ _ | refine Ext.drewN ?_ _ | refine Ext.drew ?_))⟩
  case round =>
    obtain ⟨k, hk, rfl, HQ, hx⟩ := hrel
    by_cases hlt : k < x.es.length
    · obtain ⟨b0, o, e, rfl, hb, hg, r0, r1⟩ := edge_at (h1.ext hx) hlt
      have HG := Lib.hid hg
      clear hg
      cases e1 : (e.a == a)
      · have HE : Hid (hitE a b e = false) := by unfold Hid hitE; rw [e1]; rfl
        go_wp2
        go_roundw
        case rel => exact ⟨k + 1, by omega, by go_num, Lib.hid (hasE_snoc HG.out HQ.out HE.out), hx.alloc _⟩
        case measure => simp [intOf]; omega
      · cases e2 : (e.b == b)
        · have HE : Hid (hitE a b e = false) := by unfold Hid hitE; rw [e1, e2]; rfl
          go_wp2
          go_roundw
          case rel => exact ⟨k + 1, by omega, by go_num, Lib.hid (hasE_snoc HG.out HQ.out HE.out), hx.alloc _⟩
          case measure => simp [intOf]; omega
        · have HF := Lib.hid (hasE_yes HG.out e1 e2)
          go_wp2
          go_ret
          exact ⟨ret_bool HF.out.symm, (by repeat (first | exact Ext.refl _ | assumption | refine Ext.alloc ?_ _ | refine Ext.drewN ?_ _ | refine Ext.drew ?_))⟩
    · rw [List.take_of_length_le (by omega)] at HQ
      go_wp2
      go_ret
      exact ⟨ret_bool HQ.out.symm, hx⟩

end Go.Proofs.Ytofbmkpfliofeab
/-
  Helper text (no claim of its own): what the orientation of gates gives (plain Lean).
-/
namespace Go.Proofs.Ytofbmkpfliofeab
open Go.ChangeShapes Go.WideShapes Go.ChangeAt Go.RowKit Go.Deep
/-- A CX along an edge, or turned by four Hadamard gates. -/
def cx1 (x : Gr) (g : Gt) : List Gt := if hasE x.es g.a g.b = true then [gcx g.a g.b] else [g1 4 g.a, g1 4 g.b, gcx g.b g.a, g1 4 g.a, g1 4 g.b]
def coup (x : Gr) (g : Gt) : Bool := hasE x.es g.a g.b || hasE x.es g.b g.a
/-- Can the gate be oriented? -/
def oriOk (x : Gr) (g : Gt) : Bool := vg g x.n && (ar g.k == 1 || (coup x g && (g.k == 9 || g.k == 11)))
/-- The oriented gates. -/
def oriL (x : Gr) (g : Gt) : List Gt := if oriOk x g = true then (if (ar g.k == 1) = true then [g] else (dec g).flatMap (cx1 x)) else []
theorem oriL_no {x : Gr} {g : Gt} (h : oriOk x g = false) : oriL x g = [] := by unfold oriL; rw [if_neg (by simp [h])]
theorem oriL_1 {x : Gr} {g : Gt} (h : oriOk x g = true) (h1 : (ar g.k == 1) = true) : oriL x g = [g] := by unfold oriL; rw [if_pos h, if_pos h1]
theorem oriL_2 {x : Gr} {g : Gt} (h : oriOk x g = true) (h1 : (ar g.k == 1) = false) : oriL x g = (dec g).flatMap (cx1 x) := by unfold oriL; rw [if_pos h, if_neg (by simp [h1])]
theorem cx1_len (x : Gr) (g : Gt) : (cx1 x g).length ≤ 5 := by unfold cx1; split <;> simp
theorem flat_cx1_len (x : Gr) (gs : List Gt) : (gs.flatMap (cx1 x)).length ≤ 5 * gs.length := by
  induction gs with
  | nil => simp
  | cons g gs ih => have := cx1_len x g; rw [List.flatMap_cons, List.length_append, List.length_cons]; omega
theorem oriL_len (x : Gr) (g : Gt) : (oriL x g).length ≤ 75 := by
  unfold oriL
  split
  · split
    · simp
    · have h1 := flat_cx1_len x (dec g)
      have h2 := dec_len g
      omega
  · simp
def oriAllOk (x : Gr) (gs : List Gt) : Bool := gs.all (oriOk x)
def oriAll (x : Gr) (gs : List Gt) : List Gt := if oriAllOk x gs = true then gs.flatMap (oriL x) else []
theorem oriAllOk_no {x : Gr} {gs : List Gt} {k : Nat} {g : Gt} (h : gs[k]? = some g) (hg : oriOk x g = false) : oriAllOk x gs = false := by
  unfold oriAllOk
  rw [Bool.eq_false_iff]
  intro ha
  rw [List.all_eq_true] at ha
  rw [ha g (List.mem_of_getElem? h)] at hg
  cases hg
theorem oriAllOk_snoc {x : Gr} {gs : List Gt} {k : Nat} {g : Gt} (h : gs[k]? = some g) (hk : oriAllOk x (gs.take k) = true) (hg : oriOk x g = true) : oriAllOk x (gs.take (k + 1)) = true := by
  unfold oriAllOk at *
  rw [take_snoc h, List.all_append, hk]
  simp [hg]
theorem oriAll_no {x : Gr} {gs : List Gt} (h : oriAllOk x gs = false) : oriAll x gs = [] := by unfold oriAll; rw [if_neg (by simp [h])]
theorem oriAll_yes {x : Gr} {gs : List Gt} (h : oriAllOk x gs = true) : oriAll x gs = gs.flatMap (oriL x) := by unfold oriAll; rw [if_pos h]
theorem oriF_snoc {x : Gr} {gs : List Gt} {k : Nat} {g : Gt} (h : gs[k]? = some g) : (gs.take (k + 1)).flatMap (oriL x) = (gs.take k).flatMap (oriL x) ++ oriL x g := by
  rw [take_snoc h, List.flatMap_append]; simp
theorem oriF_len (x : Gr) (gs : List Gt) : (gs.flatMap (oriL x)).length ≤ 75 * gs.length := by
  induction gs with
  | nil => simp
  | cons g gs ih => have := oriL_len x g; rw [List.flatMap_cons, List.length_append, List.length_cons]; omega
/-! A valid two-qubit gate is a CX on valid qubits once its kind is 9. -/
theorem ar9 : ar 9 = 2 := by unfold ar; omega
theorem vg_parts {g : Gt} {n : Int} (h : vg g n = true) : 1 ≤ n ∧ n ≤ 4 ∧ 0 < ar g.k ∧ okI g n 0 g.a = true ∧ okI g n 1 g.b = true ∧ okI g n 2 g.c = true := by
  unfold vg at h
  simp only [Bool.and_eq_true, decide_eq_true_eq] at h
  obtain ⟨⟨⟨⟨⟨h1, h2⟩, h3⟩, h4⟩, h5⟩, h6⟩ := h
  exact ⟨h1, h2, h3, h4, h5, h6⟩
theorem vg_two {g : Gt} {n : Int} (h : vg g n = true) (h2 : ar g.k = 2) : 1 ≤ n ∧ n ≤ 4 ∧ 0 ≤ g.a ∧ g.a ≤ n - 1 ∧ 0 ≤ g.b ∧ g.b ≤ n - 1 ∧ g.a ≠ g.b ∧ g.c = 0 := by
  obtain ⟨p1, p2, p3, p4, p5, p6⟩ := vg_parts h
  rw [okI_lo (by rw [h2]; omega)] at p4
  rw [okI_lo (by rw [h2]; omega)] at p5
  rw [okI_hi (by rw [h2]; omega)] at p6
  simp only [Bool.and_eq_true, decide_eq_true_eq, qs, List.take_zero, Bool.not_eq_true', beq_iff_eq] at p4 p5 p6
  obtain ⟨⟨p5a, p5b⟩, p5c⟩ := p5
  refine ⟨p1, p2, p4.1.1, p4.1.2, p5a, p5b, fun e => ?_, p6⟩
  rw [e] at p5c
  simp at p5c
theorem vg_cx {n a b : Int} (h1 : 1 ≤ n) (h2 : n ≤ 4) (ha : 0 ≤ a) (ha' : a ≤ n - 1) (hb : 0 ≤ b) (hb' : b ≤ n - 1) (hne : a ≠ b) : vg (gcx a b) n = true := by
  refine vg_good h1 h2 (by show 0 < ar 9; rw [ar9]; omega) ?_
  intro i q hq
  have hk : (gcx a b).k = 9 := rfl
  rcases (by have := (List.getElem?_eq_some_iff.1 hq).1; simp [qs] at this; omega : i = 0 ∨ i = 1 ∨ i = 2) with rfl | rfl | rfl
  · rw [okI_lo (by rw [hk, ar9]; omega)]
    simp [qs, gcx] at hq
    subst hq
    simp [ha, ha']
  · rw [okI_lo (by rw [hk, ar9]; omega)]
    simp [qs, gcx] at hq
    subst hq
    simp [hb, hb', qs, gcx, hne.symm]
  · rw [okI_hi (by rw [hk, ar9]; omega)]
    simp [qs, gcx] at hq
    subst hq
    simp
theorem ar_9_11 {k : Int} (h : (k == 9) = true ∨ (k == 11) = true) : ar k = 2 := by
  rcases h with h | h <;> (rw [beq_iff_eq] at h; subst h; unfold ar; omega)
theorem cx_of_vg {g : Gt} {n : Int} (h : vg g n = true) (h9 : (g.k == 9) = true) : g = gcx g.a g.b := by
  have h2 := vg_two h (ar_9_11 (.inl h9))
  rw [beq_iff_eq] at h9
  obtain ⟨k, a, b, c⟩ := g
  simp at h2 h9
  simp [gcx, h9, h2.2.2.2.2.2.2.2]
theorem dec_9 {g : Gt} (h9 : (g.k == 9) = true) : dec g = [g] := by
  rw [beq_iff_eq] at h9
  exact decN (by rw [h9]; rfl) (by rw [h9]; rfl) (by rw [h9]; rfl)
theorem dec_11 {g : Gt} (h : (g.k == 11) = true) : dec g = [gcx g.a g.b, gcx g.b g.a, gcx g.a g.b] := by
  have h' := h
  rw [beq_iff_eq] at h'
  exact dec11 (by rw [h']; rfl) h
end Go.Proofs.Ytofbmkpfliofeab
/-
  Helper text (no claim of its own): orientation of gates by the reference. Printed by gen_orient2.py.
-/
namespace Go.Proofs.Ytofbmkpfliofeab
open Go.ChangeShapes Go.WideShapes Go.ChangeAt Go.RowKit Go.Deep
set_option maxRecDepth 100000 in
set_option maxHeartbeats 1000000 in
theorem spec_AreCoupled_any (v : Value) (x : Gr) (a b : Int) (w : World) (h : GrAt w w.heap.size v x) (hn : x.es.length ≤ 100000000) :
    Calls Try.prog 51 #[v, .int .i64 a, .int .i64 b] w fun e w' => e = .returned (.bool (hasE x.es a b || hasE x.es b a)) ∧ Ext w w' := by
  obtain ⟨A1, c1, rfl, h1⟩ := h
  have hG : GrAt w w.heap.size (.agg #[.int .i64 x.n, .slice A1 x.es.length c1]) x := ⟨A1, c1, rfl, h1⟩
  clear h1
  go_enter Try.func51, Try.ntmps51
  go_wp2_with fail
  refine (spec_HasEdge_any _ x a b _ ((hG.up (by repeat (first | exact Ext.refl _ | assumption | refine Ext.alloc ?_ _ | refine Ext.drewN ?_ _ | refine Ext.drew ?_)) (Nat.le_refl _)).more (by simp)) hn).mono ?_
  rintro e w1 ⟨rfl, hx1⟩
  have hB : Blk w1 w.heap.size 27 #[.int .i64 x.n, .slice A1 x.es.length c1] := (Blk.new w _ _).ext hx1
  have hx : Ext w w1 := Ext.trans (by repeat (first | exact Ext.refl _ | assumption | refine Ext.alloc ?_ _ | refine Ext.drewN ?_ _ | refine Ext.drew ?_)) hx1
  have b0 : w1.cell? ⟨w.heap.size, 0, none⟩ = some (.int .i64 x.n) := hB.cell 0
  have b1 : w1.cell? ⟨w.heap.size, 1, none⟩ = some (.slice A1 x.es.length c1) := hB.cell 1
  clear hx1
  cases h1 : hasE x.es a b
  · go_wp2_with fail
    refine (spec_HasEdge_any _ x b a _ ((hG.up hx (Nat.le_refl _)).more hx.size) hn).mono ?_
    rintro e w2 ⟨rfl, hx2⟩
    go_wp2
    go_ret
    exact ⟨ret_bool (by rw [h1, Bool.false_or]), hx.trans hx2⟩
  · go_wp2
    go_ret
    exact ⟨ret_bool (by rw [h1, Bool.true_or]), hx⟩

theorem Rd.keepRow {w w' : World} {B size n : Nat} {A : Option Addr} {xs : List Value} {row : Option Nat} (h : Rd w B size A n xs) (hg : w.grownBy w' row) (hB : B ≤ w.heap.size) (hne : ∀ b o, A = some ⟨b, o, none⟩ → row ≠ some b) : Rd w' B size A n xs :=
  ⟨h.1, fun hn => by
    obtain ⟨b, o, e, hb, hc⟩ := h.2 hn
    exact ⟨b, o, e, hb, fun j u hu => (World.cell?_of_block (a := ⟨b, o + j, none⟩) (hg.block b (by omega) (fun e1 => hne b o e e1.symm))).trans (hc j u hu)⟩⟩
theorem flat_snoc {α β : Type} (f : α → List β) {l : List α} {k : Nat} {a : α} (h : l[k]? = some a) : (l.take (k + 1)).flatMap f = (l.take k).flatMap f ++ f a := by
  rw [take_snoc h, List.flatMap_append]; simp

end Go.Proofs.Ytofbmkpfliofeab
/-
  Helper text (no claim of its own): orientation of gates by the program. Printed by gen_orient3.py.
-/
namespace Go.Proofs.Ytofbmkpfliofeab
open Go.ChangeShapes Go.WideShapes Go.ChangeAt Go.RowKit Go.Deep
theorem oriOk_9 {x : Gr} {g : Gt} (hv : vg g x.n = true) (h9 : (g.k == 9) = true) : oriOk x g = coup x g := by
  have h1 : (ar g.k == 1) = false := by rw [ar_9_11 (.inl h9)]; rfl
  unfold oriOk
  rw [hv, h1, h9]
  simp
theorem oriL_9 {x : Gr} {g : Gt} (hv : vg g x.n = true) (h9 : (g.k == 9) = true) (hc : coup x g = true) : oriL x g = cx1 x g := by
  have h1 : (ar g.k == 1) = false := by rw [ar_9_11 (.inl h9)]; rfl
  rw [oriL_2 (by rw [oriOk_9 hv h9]; exact hc) h1, dec_9 h9]
  simp
theorem oriL_9a {x : Gr} {g : Gt} (hv : vg g x.n = true) (h9 : (g.k == 9) = true) (he : hasE x.es g.a g.b = true) : oriOk x g = true ∧ oriL x g = [g] := by
  have hc : coup x g = true := by unfold coup; rw [he]; rfl
  refine ⟨by rw [oriOk_9 hv h9]; exact hc, ?_⟩
  rw [oriL_9 hv h9 hc]
  unfold cx1
  rw [if_pos he, ← cx_of_vg hv h9]
theorem oriL_9b {x : Gr} {g : Gt} (hv : vg g x.n = true) (h9 : (g.k == 9) = true) (he : hasE x.es g.a g.b = false) (he2 : hasE x.es g.b g.a = true) : oriOk x g = true ∧ oriL x g = [g1 4 g.a, g1 4 g.b, gcx g.b g.a, g1 4 g.a, g1 4 g.b] := by
  have hc : coup x g = true := by unfold coup; rw [he, he2]; rfl
  refine ⟨by rw [oriOk_9 hv h9]; exact hc, ?_⟩
  rw [oriL_9 hv h9 hc]
  unfold cx1
  rw [if_neg (by simp [he])]
theorem oriL_9c {x : Gr} {g : Gt} (hv : vg g x.n = true) (h9 : (g.k == 9) = true) (he : hasE x.es g.a g.b = false) (he2 : hasE x.es g.b g.a = false) : oriOk x g = false := by
  rw [oriOk_9 hv h9]; unfold coup; rw [he, he2]; rfl
theorem ori_cx {x : Gr} {a b : Int} (hv : vg (gcx a b) x.n = true) : oriOk x (gcx a b) = coup x (gcx a b) := oriOk_9 hv rfl
/-- A valid swap is oriented as the three CX that it is made of. -/
theorem ori_swap {x : Gr} {g : Gt} (hv : vg g x.n = true) (h : (g.k == 11) = true) : oriAllOk x (dec g) = oriOk x g ∧ oriAll x (dec g) = oriL x g := by
  have h2 := vg_two hv (ar_9_11 (.inr h))
  obtain ⟨n1, n2, p1, p2, p3, p4, p5, p6⟩ := h2
  have v1 := vg_cx n1 n2 p1 p2 p3 p4 p5
  have v2 := vg_cx n1 n2 p3 p4 p1 p2 (Ne.symm p5)
  have h1 : (ar g.k == 1) = false := by rw [ar_9_11 (.inr h)]; rfl
  have c1 : coup x (gcx g.a g.b) = coup x g := rfl
  have c2 : coup x (gcx g.b g.a) = coup x g := by unfold coup; exact Bool.or_comm _ _
  have e1 : oriOk x g = coup x g := by unfold oriOk; rw [hv, h1, h]; simp
  have e2 : oriAllOk x (dec g) = coup x g := by
    unfold oriAllOk
    rw [dec_11 h]
    simp [ori_cx v1, ori_cx v2, c1, c2]
  refine ⟨by rw [e1, e2], ?_⟩
  cases hc : coup x g
  · rw [oriAll_no (by rw [e2]; exact hc), oriL_no (by rw [e1]; exact hc)]
  · rw [oriAll_yes (by rw [e2]; exact hc), oriL_2 (by rw [e1]; exact hc) h1, dec_11 h]
    have l1 : oriL x (gcx g.a g.b) = cx1 x (gcx g.a g.b) := oriL_9 v1 rfl (by rw [c1]; exact hc)
    have l2 : oriL x (gcx g.b g.a) = cx1 x (gcx g.b g.a) := oriL_9 v2 rfl (by rw [c2]; exact hc)
    simp [l1, l2]
end Go.Proofs.Ytofbmkpfliofeab
/-
  Helper text (no claim of its own): oriented gates do the same, and are executable (plain Lean).
-/
namespace Go.Proofs.Ytofbmkpfliofeab
open Go.ChangeShapes Go.WideShapes Go.ChangeAt Go.RowKit Go.Deep
set_option linter.unusedVariables false
set_option linter.unusedSimpArgs false
theorem Same.left {n : Nat} {gs gs' hs : List Gt} (hc : hcs gs = hcs gs') (he : ∀ f j, j < 2 ^ n → apG gs f j = apG gs' f j) (h : Same n gs' hs) : Same n gs hs := fun K M vs us hs' h0 hK hM hr => by
  rw [hc] at hK hM
  refine h K M vs us hs' h0 hK hM ⟨?_, fun j hj => ?_⟩
  · rw [← hc]; exact hr.1
  · rw [← hc, hr.2 j hj, he _ j hj]
/-- A valid gate on two qubits. -/
theorem two_nat {g : Gt} {n : Nat} (hv : vg g n = true) (h : (g.k == 9) = true ∨ (g.k == 11) = true) : (1 ≤ n ∧ n ≤ 4) ∧ ∃ a b : Nat, g = ⟨g.k, a, b, (0 : Nat)⟩ ∧ a < n ∧ b < n ∧ a ≠ b := by
  obtain ⟨p1, p2, p3, p4, p5, p6, p7, p8⟩ := vg_two hv (ar_9_11 h)
  obtain ⟨k, a, b, c⟩ := g
  simp only at p3 p4 p5 p6 p7 p8
  obtain ⟨a, rfl⟩ := Int.eq_ofNat_of_zero_le p3
  obtain ⟨b, rfl⟩ := Int.eq_ofNat_of_zero_le p5
  subst p8
  exact ⟨by omega, a, b, rfl, by omega, by omega, by omega⟩
theorem vg_cxN {n a b : Nat} (hn : 1 ≤ n ∧ n ≤ 4) (ha : a < n) (hb : b < n) (hab : a ≠ b) : vg (gcx a b) n = true := vg_cx (by omega) (by omega) (by omega) (by omega) (by omega) (by omega) (by omega)
theorem vg_hN {n a : Nat} (hn : 1 ≤ n ∧ n ≤ 4) (ha : a < n) : vg (g1 4 a) n = true := by
  rcases (show n = 1 ∨ n = 2 ∨ n = 3 ∨ n = 4 by omega) with rfl | rfl | rfl | rfl
  · obtain rfl : a = 0 := by omega
    rfl
  · rcases (show a = 0 ∨ a = 1 by omega) with rfl | rfl <;> rfl
  · rcases (show a = 0 ∨ a = 1 ∨ a = 2 by omega) with rfl | rfl | rfl <;> rfl
  · rcases (show a = 0 ∨ a = 1 ∨ a = 2 ∨ a = 3 by omega) with rfl | rfl | rfl | rfl <;> rfl
theorem same_cx1 {x : Gr} {n a b : Nat} (hn : 1 ≤ n ∧ n ≤ 4) (ha : a < n) (hb : b < n) (hab : a ≠ b) : Same n [gcx a b] (cx1 x (gcx a b)) := by
  unfold cx1
  split
  · exact Same.refl fun g hg => by
      obtain rfl := List.mem_singleton.1 hg
      exact vg_cxN hn ha hb hab
  · refine Same.of (d := 2) (by omega) ?_ rfl fun f j hj => rev_eq hn.2 ha hb hab f j hj
    intro g hg
    simp only [List.mem_cons, List.not_mem_nil, or_false] at hg
    rcases hg with rfl | rfl | rfl | rfl | rfl
    · exact vg_hN hn ha
    · exact vg_hN hn hb
    · exact vg_cxN hn hb ha (fun e => hab e.symm)
    · exact vg_hN hn ha
    · exact vg_hN hn hb
theorem same_oriL {x : Gr} {g : Gt} {n : Nat} (hx : x.n = n) (h : oriOk x g = true) : Same n [g] (oriL x g) := by
  have hv : vg g n = true := by
    unfold oriOk at h
    rw [Bool.and_eq_true, hx] at h
    exact h.1
  cases h1 : (ar g.k == 1)
  · rw [oriL_2 h h1]
    have hk : (g.k == 9) = true ∨ (g.k == 11) = true := by
      unfold oriOk at h
      rw [h1, Bool.false_or, Bool.and_eq_true, Bool.and_eq_true, Bool.or_eq_true] at h
      exact h.2.2
    obtain ⟨hn, a, b, hg, ha, hb, hab⟩ := two_nat hv hk
    have e1 : g.a = (a : Int) := by rw [hg]
    have e2 : g.b = (b : Int) := by rw [hg]
    rcases hk with hk | hk
    · have e3 : g = gcx a b := by rw [hg, beq_iff_eq.1 hk]; rfl
      rw [dec_9 hk, e3]
      show Same n _ (cx1 x (gcx a b) ++ [])
      rw [List.append_nil]
      exact same_cx1 hn ha hb hab
    · rw [dec_11 hk, e1, e2]
      have e3 : g = ⟨11, a, b, (0 : Nat)⟩ := by rw [hg, beq_iff_eq.1 hk]
      rw [e3]
      refine Same.left (gs' := [gcx a b, gcx b a, gcx a b]) rfl (fun f j hj => (swap_eq hn.2 ha hb hab f j hj).symm) ?_
      have v1 : ∀ g ∈ [gcx a b], vg g n = true := fun g hg => by
        obtain rfl := List.mem_singleton.1 hg
        exact vg_cxN hn ha hb hab
      have v2 : ∀ g ∈ [gcx b a], vg g n = true := fun g hg => by
        obtain rfl := List.mem_singleton.1 hg
        exact vg_cxN hn hb ha (fun e => hab e.symm)
      have s1 := same_cx1 (x := x) hn ha hb hab
      have s2 := same_cx1 (x := x) hn hb ha (fun e => hab e.symm)
      have s3 := Same.app v2 v1 s2 s1
      have s4 := Same.app v1 (fun g hg => by
        rcases List.mem_append.1 hg with hg | hg
        · exact v2 g hg
        · exact v1 g hg) s1 s3
      show Same n [gcx a b, gcx b a, gcx a b] (cx1 x (gcx a b) ++ (cx1 x (gcx b a) ++ (cx1 x (gcx a b) ++ [])))
      rw [List.append_nil]
      exact s4
  · rw [oriL_1 h h1]
    exact Same.refl fun g' hg => by
      obtain rfl := List.mem_singleton.1 hg
      exact hv
theorem ori_vg {x : Gr} {g : Gt} (h : oriOk x g = true) : vg g x.n = true := by
  unfold oriOk at h
  rw [Bool.and_eq_true] at h
  exact h.1
theorem same_ori {x : Gr} {n : Nat} (hx : x.n = n) : ∀ {gs : List Gt}, (∀ g ∈ gs, oriOk x g = true) → Same n gs (gs.flatMap (oriL x))
  | [], _ => Same.nil n
  | g :: gs, h => by
    have h1 := h g (List.mem_cons_self ..)
    have ih := same_ori hx (gs := gs) (fun g' h' => h g' (List.mem_cons_of_mem _ h'))
    exact Same.app (gs := [g]) (fun g' hg => by
      obtain rfl := List.mem_singleton.1 hg
      rw [← hx]; exact ori_vg h1) (fun g' hg => by rw [← hx]; exact ori_vg (h g' (List.mem_cons_of_mem _ hg))) (same_oriL hx h1) ih
theorem exe_cx1 {x : Gr} {n a b : Nat} (hx : x.n = n) (hn : 1 ≤ n ∧ n ≤ 4) (ha : a < n) (hb : b < n) (hab : a ≠ b) (hc : coup x (gcx a b) = true) : ∀ g ∈ cx1 x (gcx a b), exe1 x g = true := by
  intro g hg
  unfold cx1 at hg
  unfold exe1
  rw [hx]
  split at hg
  · rename_i he
    obtain rfl := List.mem_singleton.1 hg
    have he' : hasE x.es (a : Int) (b : Int) = true := he
    show (vg (gcx a b) n && (_ || (_ && hasE x.es (a : Int) (b : Int)))) = true
    rw [vg_cxN hn ha hb hab, he']
    rfl
  · rename_i he
    have hb' : hasE x.es (b : Int) (a : Int) = true := by
      unfold coup at hc
      rw [Bool.or_eq_true] at hc
      rcases hc with hc | hc
      · exact absurd hc he
      · exact hc
    simp only [List.mem_cons, List.not_mem_nil, or_false] at hg
    rcases hg with rfl | rfl | rfl | rfl | rfl
    · show (vg (g1 4 a) n && _) = true
      rw [vg_hN hn ha]; rfl
    · show (vg (g1 4 b) n && _) = true
      rw [vg_hN hn hb]; rfl
    · show (vg (gcx b a) n && (_ || (_ && hasE x.es (b : Int) (a : Int)))) = true
      rw [vg_cxN hn hb ha (fun e => hab e.symm), hb']; rfl
    · show (vg (g1 4 a) n && _) = true
      rw [vg_hN hn ha]; rfl
    · show (vg (g1 4 b) n && _) = true
      rw [vg_hN hn hb]; rfl
theorem coup_sym (x : Gr) (a b : Int) : coup x (gcx a b) = coup x (gcx b a) := by
  show (hasE x.es a b || hasE x.es b a) = (hasE x.es b a || hasE x.es a b)
  rw [Bool.or_comm]
theorem exe_oriL {x : Gr} {g : Gt} (h : oriOk x g = true) : ∀ g' ∈ oriL x g, exe1 x g' = true := by
  have hv := ori_vg h
  intro g' hg'
  cases h1 : (ar g.k == 1)
  · rw [oriL_2 h h1] at hg'
    have hk : (g.k == 9) = true ∨ (g.k == 11) = true := by
      unfold oriOk at h
      rw [h1, Bool.false_or, Bool.and_eq_true, Bool.and_eq_true, Bool.or_eq_true] at h
      exact h.2.2
    have hc : coup x g = true := by
      unfold oriOk at h
      rw [h1, Bool.false_or, Bool.and_eq_true, Bool.and_eq_true] at h
      exact h.2.1
    obtain ⟨n, hx⟩ : ∃ n : Nat, x.n = n := ⟨x.n.toNat, by have := (vg_parts hv).1; omega⟩
    rw [hx] at hv
    obtain ⟨hn, a, b, hg, ha, hb, hab⟩ := two_nat hv hk
    have e1 : g.a = (a : Int) := by rw [hg]
    have e2 : g.b = (b : Int) := by rw [hg]
    have hc' : coup x (gcx a b) = true := by
      unfold coup at hc
      rw [e1, e2] at hc
      exact hc
    rcases hk with hk | hk
    · have e3 : g = gcx a b := by rw [hg, beq_iff_eq.1 hk]; rfl
      rw [dec_9 hk, e3] at hg'
      have hg'' : g' ∈ cx1 x (gcx a b) ++ [] := hg'
      rw [List.append_nil] at hg''
      exact exe_cx1 hx hn ha hb hab hc' g' hg''
    · rw [dec_11 hk, e1, e2] at hg'
      have hg'' : g' ∈ cx1 x (gcx a b) ++ (cx1 x (gcx b a) ++ (cx1 x (gcx a b) ++ [])) := hg'
      rw [List.append_nil, List.mem_append, List.mem_append] at hg''
      rcases hg'' with q | q | q
      · exact exe_cx1 hx hn ha hb hab hc' g' q
      · exact exe_cx1 hx hn hb ha (fun e => hab e.symm) (by rw [coup_sym]; exact hc') g' q
      · exact exe_cx1 hx hn ha hb hab hc' g' q
  · rw [oriL_1 h h1] at hg'
    obtain rfl := List.mem_singleton.1 hg'
    unfold exe1
    rw [hv, h1]
    rfl
theorem exe_oriAll {x : Gr} {gs : List Gt} (h : oriAllOk x gs = true) : exeN x (oriAll x gs) = true := by
  rw [oriAll_yes h]
  unfold exeN
  rw [List.all_eq_true]
  intro g' hg'
  obtain ⟨g, hg, hg'⟩ := List.mem_flatMap.1 hg'
  exact exe_oriL (List.all_eq_true.1 h g hg) g' hg'
end Go.Proofs.Ytofbmkpfliofeab
/-
  Helper text (no claim of its own): distances in a graph, as the program and as the reference find them (plain Lean).
-/
namespace Go.Proofs.Ytofbmkpfliofeab
open Go.ChangeShapes Go.WideShapes Go.ChangeAt Go.RowKit Go.Deep
namespace Dist
section
variable (adj : Int → Int → Bool) (n : Nat)
/-- Which vertices are reached from a by at most s steps. -/
def lvl (a : Int) : Nat → Int → Bool
  | 0, y => y == a
  | s + 1, y => lvl a s y || (List.range n).any fun x => lvl a s (x : Int) && adj (x : Int) y
/-- The least number of steps, below n; -1 where there is none. -/
def gdist (a b : Int) : Int := match (List.range n).find? fun s => lvl adj n a s b with
  | some s => (s : Int)
  | none => -1
end
section
variable {adj : Int → Int → Bool} {n : Nat} {a b : Int}
theorem lvl_succ {s : Nat} {y : Int} : lvl adj n a (s + 1) y = true ↔ lvl adj n a s y = true ∨ ∃ x : Nat, x < n ∧ lvl adj n a s (x : Int) = true ∧ adj (x : Int) y = true := by
  rw [lvl, Bool.or_eq_true, List.any_eq_true]
  simp
theorem lvl_mono1 {s : Nat} {y : Int} (h : lvl adj n a s y = true) : lvl adj n a (s + 1) y = true := lvl_succ.2 (.inl h)
theorem lvl_mono {s t : Nat} {y : Int} (hst : s ≤ t) (h : lvl adj n a s y = true) : lvl adj n a t y = true := by
  induction hst with
  | refl => exact h
  | step _ ih => exact lvl_mono1 ih
theorem gdist_some {s : Nat} (hs : s < n) (h : lvl adj n a s b = true) (h0 : ∀ t, t < s → lvl adj n a t b = false) : gdist adj n a b = s := by
  have : (List.range n).find? (fun s => lvl adj n a s b) = some s := by
    rw [List.find?_range_eq_some]
    exact ⟨h, by simpa using hs, fun j hj => by simp [h0 j hj]⟩
  unfold gdist
  rw [this]
theorem gdist_none (h : ∀ t, t < n → lvl adj n a t b = false) : gdist adj n a b = -1 := by
  have : (List.range n).find? (fun s => lvl adj n a s b) = none := by
    rw [List.find?_eq_none]
    intro x hx
    simp at hx
    simp [h x hx]
  unfold gdist
  rw [this]
/-- A least number exists. -/
theorem least {p : Nat → Bool} : ∀ {m : Nat}, p m = true → ∃ s, s ≤ m ∧ p s = true ∧ ∀ t, t < s → p t = false
  | 0, h => ⟨0, Nat.le_refl _, h, fun t ht => absurd ht (by omega)⟩
  | m + 1, h => by
    by_cases hx : ∃ t, t ≤ m ∧ p t = true
    · obtain ⟨t, ht, hp⟩ := hx
      obtain ⟨s, hs, h1, h2⟩ := least hp
      exact ⟨s, by omega, h1, h2⟩
    · refine ⟨m + 1, Nat.le_refl _, h, fun t ht => ?_⟩
      cases hp : p t
      · rfl
      · exact absurd ⟨t, by omega, hp⟩ hx
theorem gdist_range (adj : Int → Int → Bool) (n : Nat) (a b : Int) : -1 ≤ gdist adj n a b ∧ gdist adj n a b ≤ n := by
  unfold gdist
  split
  · rename_i s h
    have := List.mem_of_find?_eq_some h
    simp at this
    omega
  · omega
theorem gdist_lvl {s : Nat} (h : gdist adj n a b = s) : s < n ∧ lvl adj n a s b = true ∧ ∀ t, t < s → lvl adj n a t b = false := by
  by_cases hx : ∃ t, t < n ∧ lvl adj n a t b = true
  · obtain ⟨t, ht, hp⟩ := hx
    obtain ⟨u, hu, h1, h2⟩ := least (p := fun t => lvl adj n a t b) hp
    have e := gdist_some (by omega : u < n) h1 h2
    rw [e] at h
    have : u = s := by omega
    subst this
    exact ⟨by omega, h1, h2⟩
  · have e := gdist_none (adj := adj) (n := n) (a := a) (b := b) (fun t ht => by
      cases hp : lvl adj n a t b
      · rfl
      · exact absurd ⟨t, ht, hp⟩ hx)
    omega
theorem gdist_self (hn : 0 < n) (ha : a = b) : gdist adj n a b = 0 := by
  subst ha
  exact gdist_some (s := 0) hn (by simp [lvl]) (fun t ht => absurd ht (Nat.not_lt_zero t))
/-! ### The first step of a way -/
theorem lvl_front {i : Nat} (hi : i < n) : ∀ {s : Nat} {j : Nat}, j < n → (lvl adj n (i : Int) (s + 1) (j : Int) = true ↔ lvl adj n (i : Int) s (j : Int) = true ∨ ∃ k : Nat, k < n ∧ adj (i : Int) (k : Int) = true ∧ lvl adj n (k : Int) s (j : Int) = true)
  | 0, j, hj => by
    rw [lvl_succ]
    constructor
    · rintro (h | ⟨x, hx, h1, h2⟩)
      · exact .inl h
      · simp [lvl] at h1
        have : x = i := by omega
        subst this
        exact .inr ⟨j, hj, h2, by simp [lvl]⟩
    · rintro (h | ⟨k, hk, h1, h2⟩)
      · exact .inl h
      · simp [lvl] at h2
        have : k = j := by omega
        subst this
        exact .inr ⟨i, hi, by simp [lvl], h1⟩
  | s + 1, j, hj => by
    rw [lvl_succ]
    constructor
    · rintro (h | ⟨x, hx, h1, h2⟩)
      · exact .inl h
      · rcases (lvl_front hi hx).1 h1 with h | ⟨k, hk, h3, h4⟩
        · exact .inl (lvl_succ.2 (.inr ⟨x, hx, h, h2⟩))
        · exact .inr ⟨k, hk, h3, lvl_succ.2 (.inr ⟨x, hx, h4, h2⟩)⟩
    · rintro (h | ⟨k, hk, h1, h2⟩)
      · exact .inl h
      · rcases lvl_succ.1 h2 with h | ⟨x, hx, h3, h4⟩
        · exact .inl ((lvl_front hi hj).2 (.inr ⟨k, hk, h1, h⟩))
        · exact .inr ⟨x, hx, (lvl_front hi hx).2 (.inr ⟨k, hk, h1, h3⟩), h4⟩
/-- A vertex that is d + 1 away has a neighbour that is d away. -/
theorem gdist_step {i j d : Nat} (hi : i < n) (hj : j < n) (h : gdist adj n (i : Int) (j : Int) = ((d + 1 : Nat) : Int)) : ∃ k : Nat, k < n ∧ adj (i : Int) (k : Int) = true ∧ gdist adj n (k : Int) (j : Int) = (d : Int) := by
  obtain ⟨h1, h2, h3⟩ := gdist_lvl h
  rcases (lvl_front hi hj).1 h2 with h4 | ⟨k, hk, h4, h5⟩
  · rw [h3 d (by omega)] at h4
    cases h4
  · refine ⟨k, hk, h4, gdist_some (by omega) h5 (fun t ht => ?_)⟩
    cases hp : lvl adj n (k : Int) t (j : Int)
    · rfl
    · have := (lvl_front hi hj).2 (.inr ⟨k, hk, h4, hp⟩)
      rw [h3 (t + 1) (by omega)] at this
      cases this
/-! ### No way is longer than there are vertices -/
theorem countP_lt {α : Type} {p q : α → Bool} : ∀ {l : List α}, (∀ x ∈ l, p x = true → q x = true) → (∃ x ∈ l, q x = true ∧ p x = false) → l.countP p < l.countP q
  | [], _, ⟨_, h, _⟩ => by simp at h
  | y :: l, hm, ⟨x, hx, hq, hp⟩ => by
    have hle : l.countP p ≤ l.countP q := List.countP_mono_left (fun z hz => hm z (by simp [hz]))
    rcases List.mem_cons.1 hx with rfl | hx
    · rw [List.countP_cons_of_neg (by simp [hp]), List.countP_cons_of_pos hq]; omega
    · have ih := countP_lt (fun z hz => hm z (by simp [hz])) ⟨x, hx, hq, hp⟩
      cases h : p y
      · rw [List.countP_cons_of_neg (by simp [h])]
        have := List.countP_le_length (p := q) (l := l)
        cases h' : q y
        · rw [List.countP_cons_of_neg (by simp [h'])]; exact ih
        · rw [List.countP_cons_of_pos h']; omega
      · rw [List.countP_cons_of_pos h, List.countP_cons_of_pos (hm y (by simp) h)]; omega
theorem lvl_prev {s : Nat} {y : Int} (h : lvl adj n a (s + 1 + 1) y = true) (h0 : lvl adj n a (s + 1) y = false) : ∃ x : Nat, x < n ∧ lvl adj n a (s + 1) (x : Int) = true ∧ lvl adj n a s (x : Int) = false := by
  rcases lvl_succ.1 h with h1 | ⟨x, hx, h1, h2⟩
  · rw [h0] at h1; cases h1
  · refine ⟨x, hx, h1, ?_⟩
    cases hp : lvl adj n a s (x : Int)
    · rfl
    · rw [lvl_succ.2 (.inr ⟨x, hx, hp, h2⟩)] at h0; cases h0
theorem lvl_new : ∀ {s : Nat} {y : Int}, lvl adj n a (s + 1) y = true → lvl adj n a s y = false → ∀ u, u < s → ∃ x : Nat, x < n ∧ lvl adj n a (u + 1) (x : Int) = true ∧ lvl adj n a u (x : Int) = false
  | 0, _, _, _, u, hu => absurd hu (by omega)
  | s + 1, y, h, h0, u, hu => by
    obtain ⟨x, hx, h1, h2⟩ := lvl_prev h h0
    by_cases e : u = s
    · subst e; exact ⟨x, hx, h1, h2⟩
    · exact lvl_new h1 h2 u (by omega)
theorem lvl_count {i t : Nat} (hi : i < n) (h : ∀ u, u < t → ∃ x : Nat, x < n ∧ lvl adj n (i : Int) (u + 1) (x : Int) = true ∧ lvl adj n (i : Int) u (x : Int) = false) : t + 1 ≤ (List.range n).countP fun x : Nat => lvl adj n (i : Int) t (x : Int) := by
  induction t with
  | zero =>
    have : 0 < (List.range n).countP fun x : Nat => lvl adj n (i : Int) 0 (x : Int) := List.countP_pos_iff.2 ⟨i, by simpa using hi, by simp [lvl]⟩
    omega
  | succ t ih =>
    have h1 := ih (fun u hu => h u (by omega))
    obtain ⟨x, hx, h2, h3⟩ := h t (by omega)
    have := countP_lt (l := List.range n) (p := fun x : Nat => lvl adj n (i : Int) t (x : Int)) (q := fun x : Nat => lvl adj n (i : Int) (t + 1) (x : Int)) (fun z _ hz => lvl_mono1 hz) ⟨x, by simpa using hx, h2, h3⟩
    omega
/-- What is first reached by t steps shows that there are more than t vertices. -/
theorem lvl_lt {i t y : Nat} (hi : i < n) (hy : y < n) (h : lvl adj n (i : Int) t (y : Int) = true) (h0 : ∀ u, u < t → lvl adj n (i : Int) u (y : Int) = false) : t < n := by
  cases t with
  | zero => omega
  | succ t =>
    have h1 := lvl_new h (h0 t (by omega))
    have h2 : ∀ u, u < t + 1 → ∃ x : Nat, x < n ∧ lvl adj n (i : Int) (u + 1) (x : Int) = true ∧ lvl adj n (i : Int) u (x : Int) = false := fun u hu => by
      by_cases e : u = t
      · subst e; exact ⟨y, hy, h, h0 u (by omega)⟩
      · exact h1 u (by omega)
    have h3 := lvl_count hi h2
    have h4 := List.countP_le_length (p := fun x : Nat => lvl adj n (i : Int) (t + 1) (x : Int)) (l := List.range n)
    rw [List.length_range] at h4
    omega
end

/-! ### As the program finds them -/
section
variable (adj : Int → Int → Bool) (n : Nat)
def pCell (s x y : Nat) (R : Nat → Int) : Nat → Int := fun z => if z = y ∧ R x = (s : Int) ∧ R y < 0 ∧ adj (x : Int) (y : Int) = true then (s : Int) + 1 else R z
def pY (s x : Nat) (R : Nat → Int) : Nat → (Nat → Int)
  | 0 => R
  | y + 1 => pCell adj s x y (pY s x R y)
def pX (s : Nat) (R : Nat → Int) : Nat → (Nat → Int)
  | 0 => R
  | x + 1 => pY adj s x (pX s R x) n
def pS (a : Nat) : Nat → (Nat → Int)
  | 0 => fun z => if z = a then 0 else -1
  | s + 1 => pX adj n s (pS a s) n
end
section
variable {adj : Int → Int → Bool} {n : Nat}
/-- The state within a round s, begun with R0, before the place (x, y). -/
def Q (adj : Int → Int → Bool) (n s : Nat) (R0 : Nat → Int) (x y : Nat) (R : Nat → Int) : Prop :=
  ∀ z, z < n → (0 ≤ R0 z → R z = R0 z) ∧ (R0 z < 0 → (R z = (s : Int) + 1 ∧ ∃ x' : Nat, x' < n ∧ R0 x' = (s : Int) ∧ adj (x' : Int) (z : Int) = true) ∨ (R z = R0 z ∧ ∀ x' : Nat, x' < x ∨ (x' = x ∧ z < y) → ¬ (R0 x' = (s : Int) ∧ adj (x' : Int) (z : Int) = true)))
theorem Q.cell {s x y : Nat} {R0 R : Nat → Int} (hx : x < n) (hy : y < n) (h : Q adj n s R0 x y R) : Q adj n s R0 x (y + 1) (pCell adj s x y R) := by
  intro z hz
  have hRx : R x = (s : Int) ↔ R0 x = (s : Int) := by
    rcases Int.lt_or_le (R0 x) 0 with hneg | hpos
    · rcases (h x hx).2 hneg with ⟨e, _⟩ | ⟨e, _⟩ <;> omega
    · rw [(h x hx).1 hpos]
  have hRy : R y < 0 → R0 y < 0 ∧ R y = R0 y := fun hlt => by
    rcases Int.lt_or_le (R0 y) 0 with hneg | hpos
    · rcases (h y hy).2 hneg with ⟨e, _⟩ | ⟨e, _⟩
      · omega
      · exact ⟨hneg, e⟩
    · have := (h y hy).1 hpos; omega
  unfold pCell
  by_cases hc : z = y ∧ R x = (s : Int) ∧ R y < 0 ∧ adj (x : Int) (y : Int) = true
  · rw [if_pos hc]
    obtain ⟨rfl, h1, h2, h3⟩ := hc
    have h4 := hRy h2
    exact ⟨fun h0 => by omega, fun _ => .inl ⟨rfl, x, hx, hRx.1 h1, h3⟩⟩
  · rw [if_neg hc]
    refine ⟨(h z hz).1, fun hneg => ?_⟩
    rcases (h z hz).2 hneg with h1 | ⟨h1, h2⟩
    · exact .inl h1
    · refine .inr ⟨h1, fun x' hx' => ?_⟩
      by_cases e : x' = x ∧ z = y
      · obtain ⟨rfl, rfl⟩ := e
        rintro ⟨h5, h6⟩
        exact hc ⟨rfl, hRx.2 h5, by omega, h6⟩
      · refine h2 x' ?_
        omega
theorem Q.row {s x : Nat} {R0 R : Nat → Int} (hx : x < n) (h : Q adj n s R0 x 0 R) : ∀ y, y ≤ n → Q adj n s R0 x y (pY adj s x R y)
  | 0, _ => h
  | y + 1, hy => (Q.row hx h y (by omega)).cell hx (by omega)
theorem Q.next {s x : Nat} {R0 R : Nat → Int} (h : Q adj n s R0 x n R) : Q adj n s R0 (x + 1) 0 R := by
  intro z hz
  refine ⟨(h z hz).1, fun hneg => ?_⟩
  rcases (h z hz).2 hneg with h1 | ⟨h1, h2⟩
  · exact .inl h1
  · exact .inr ⟨h1, fun x' hx' => h2 x' (by omega)⟩
theorem Q.start (adj : Int → Int → Bool) (n s : Nat) (R0 : Nat → Int) : Q adj n s R0 0 0 R0 := fun z _ => ⟨fun _ => rfl, fun _ => .inr ⟨rfl, fun x' hx' => by omega⟩⟩
theorem Q.all {s : Nat} (R0 : Nat → Int) : ∀ x, x ≤ n → Q adj n s R0 x 0 (pX adj n s R0 x)
  | 0, _ => Q.start _ _ _ _
  | x + 1, hx => ((Q.all R0 x (by omega)).row (by omega) n (Nat.le_refl _)).next
/-- What the row of numbers says after s rounds. -/
def Far (adj : Int → Int → Bool) (n : Nat) (a : Int) (s : Nat) (R : Nat → Int) : Prop :=
  ∀ z, z < n → (R z = -1 ∧ lvl adj n a s (z : Int) = false) ∨ ∃ t : Nat, t ≤ s ∧ R z = (t : Int) ∧ lvl adj n a t (z : Int) = true ∧ ∀ u, u < t → lvl adj n a u (z : Int) = false
theorem Far.start (adj : Int → Int → Bool) (n a : Nat) : Far adj n (a : Int) 0 (pS adj n a 0) := by
  intro z hz
  unfold pS
  by_cases e : z = a
  · rw [if_pos e]
    exact .inr ⟨0, Nat.le_refl _, rfl, by simp [lvl, e], fun u hu => absurd hu (by omega)⟩
  · rw [if_neg e]
    exact .inl ⟨rfl, by simp [lvl]; omega⟩
theorem Far.step {a : Int} {s : Nat} {R : Nat → Int} (h : Far adj n a s R) : Far adj n a (s + 1) (pX adj n s R n) := by
  have hQ := Q.all (adj := adj) (s := s) R n (Nat.le_refl n)
  have hval : ∀ x, x < n → (R x = (s : Int) ↔ lvl adj n a s (x : Int) = true ∧ ∀ u, u < s → lvl adj n a u (x : Int) = false) := fun x hx => by
    rcases h x hx with ⟨e, h1⟩ | ⟨t, ht, e, h1, h2⟩
    · exact ⟨fun h' => by omega, fun h' => by rw [h'.1] at h1; cases h1⟩
    · constructor
      · intro h'
        have : t = s := by omega
        subst this
        exact ⟨h1, h2⟩
      · intro h'
        have : t = s := by
          rcases Nat.lt_or_ge t s with hlt | hge
          · rw [h'.2 t hlt] at h1; cases h1
          · omega
        omega
  intro z hz
  rcases h z hz with ⟨e, h1⟩ | ⟨t, ht, e, h1, h2⟩
  · rcases (hQ z hz).2 (by omega) with ⟨h3, x, hx, h4, h5⟩ | ⟨h3, h4⟩
    · refine .inr ⟨s + 1, Nat.le_refl _, by rw [h3]; omega, lvl_succ.2 (.inr ⟨x, hx, ((hval x hx).1 h4).1, h5⟩), fun u hu => ?_⟩
      cases hp : lvl adj n a u (z : Int)
      · rfl
      · rw [lvl_mono (by omega : u ≤ s) hp] at h1; cases h1
    · refine .inl ⟨by rw [h3, e], ?_⟩
      cases hp : lvl adj n a (s + 1) (z : Int)
      · rfl
      · rcases lvl_succ.1 hp with h5 | ⟨x, hx, h5, h6⟩
        · rw [h1] at h5; cases h5
        · refine absurd ⟨(hval x hx).2 ⟨h5, fun u hu => ?_⟩, h6⟩ (h4 x (.inl hx))
          cases hq : lvl adj n a u (x : Int)
          · rfl
          · rw [lvl_mono (by omega : u + 1 ≤ s) (lvl_succ.2 (.inr ⟨x, hx, hq, h6⟩))] at h1; cases h1
  · refine .inr ⟨t, by omega, ?_, h1, h2⟩
    rw [(hQ z hz).1 (by omega), e]
theorem Far.all (adj : Int → Int → Bool) (n a : Nat) : ∀ s, Far adj n (a : Int) s (pS adj n a s)
  | 0 => Far.start adj n a
  | s + 1 => (Far.all adj n a s).step
theorem pS_dist {a b : Nat} (ha : a < n) (hb : b < n) : pS adj n a n b = gdist adj n (a : Int) (b : Int) := by
  rcases Far.all adj n a n b hb with ⟨e, h1⟩ | ⟨t, ht, e, h1, h2⟩
  · rw [e, gdist_none]
    intro t ht
    cases hp : lvl adj n (a : Int) t (b : Int)
    · rfl
    · rw [lvl_mono (by omega : t ≤ n) hp] at h1; cases h1
  · rw [e, gdist_some (lvl_lt ha hb h1 h2) h1 h2]
theorem pCell_range {s x y : Nat} {R : Nat → Int} (h : ∀ z, -1 ≤ R z ∧ R z ≤ 5) (hs : s ≤ 4) (z : Nat) : -1 ≤ pCell adj s x y R z ∧ pCell adj s x y R z ≤ 5 := by
  unfold pCell
  split
  · omega
  · exact h z
theorem pY_range {s x : Nat} {R : Nat → Int} (h : ∀ z, -1 ≤ R z ∧ R z ≤ 5) (hs : s ≤ 4) : ∀ y z, -1 ≤ pY adj s x R y z ∧ pY adj s x R y z ≤ 5
  | 0, z => h z
  | y + 1, z => pCell_range (pY_range h hs y) hs z
theorem pX_range {s : Nat} {R : Nat → Int} (h : ∀ z, -1 ≤ R z ∧ R z ≤ 5) (hs : s ≤ 4) : ∀ x z, -1 ≤ pX adj n s R x z ∧ pX adj n s R x z ≤ 5
  | 0, z => h z
  | x + 1, z => pY_range (pX_range h hs x) hs n z
theorem pS_range (adj : Int → Int → Bool) (n a : Nat) : ∀ s, s ≤ 4 → ∀ z, -1 ≤ pS adj n a s z ∧ pS adj n a s z ≤ 5
  | 0, _, z => by unfold pS; split <;> omega
  | s + 1, hs, z => pX_range (pS_range adj n a s (by omega)) (by omega) n z
end

/-! ### As the reference finds them -/
section
variable (adj : Int → Int → Bool) (n : Nat)
def rK (m : Int) (l : List Int) : Nat → List Int
  | 0 => l
  | k + 1 => if (adj m (k : Int) && !(hasI (rK m l k) (k : Int))) = true then rK m l k ++ [(k : Int)] else rK m l k
def rI (met : List Int) : Nat → List Int
  | 0 => met
  | i + 1 => rK adj (met.getD i 0) (rI met i) n
def rS (a : Int) : Nat → List Int
  | 0 => [a]
  | s + 1 => rI adj n (rS a s) (rS a s).length
end
section
variable {adj : Int → Int → Bool} {n : Nat}
theorem hasI_mem {l : List Int} {y : Int} : hasI l y = true ↔ y ∈ l := by unfold hasI; simp
theorem rK_mem {m : Int} {l : List Int} {y : Int} : ∀ k, y ∈ rK adj m l k ↔ y ∈ l ∨ ∃ j : Nat, j < k ∧ y = (j : Int) ∧ adj m (j : Int) = true
  | 0 => by simp [rK]
  | k + 1 => by
    have ih := rK_mem (m := m) (l := l) (y := y) k
    unfold rK
    split
    · rename_i hc
      simp at hc
      rw [List.mem_append, ih]
      constructor
      · rintro ((h | ⟨j, h1, h2⟩) | h)
        · exact .inl h
        · exact .inr ⟨j, by omega, h2⟩
        · simp at h; exact .inr ⟨k, by omega, h, hc.1⟩
      · rintro (h | ⟨j, h1, h2, h3⟩)
        · exact .inl (.inl h)
        · by_cases e : j = k
          · subst e; exact .inr (by simp [h2])
          · exact .inl (.inr ⟨j, by omega, h2, h3⟩)
    · rename_i hc
      rw [ih]
      constructor
      · rintro (h | ⟨j, h1, h2⟩)
        · exact .inl h
        · exact .inr ⟨j, by omega, h2⟩
      · rintro (h | ⟨j, h1, h2, h3⟩)
        · exact .inl h
        · by_cases e : j = k
          · subst e
            subst h2
            cases hh : hasI (rK adj m l j) (j : Int)
            · rw [h3, hh] at hc; simp at hc
            · exact ih.1 (hasI_mem.1 hh)
          · exact .inr ⟨j, by omega, h2, h3⟩
theorem rI_mem {met : List Int} {y : Int} : ∀ i, i ≤ met.length → (y ∈ rI adj n met i ↔ y ∈ met ∨ ∃ i' : Nat, i' < i ∧ ∃ j : Nat, j < n ∧ y = (j : Int) ∧ adj (met.getD i' 0) (j : Int) = true)
  | 0, _ => by simp [rI]
  | i + 1, hi => by
    rw [rI, rK_mem, rI_mem i (by omega)]
    constructor
    · rintro ((h | ⟨i', h1, h2⟩) | h)
      · exact .inl h
      · exact .inr ⟨i', by omega, h2⟩
      · exact .inr ⟨i, by omega, h⟩
    · rintro (h | ⟨i', h1, h2⟩)
      · exact .inl (.inl h)
      · by_cases e : i' = i
        · subst e; exact .inr h2
        · exact .inl (.inr ⟨i', by omega, h2⟩)
theorem rI_all {met : List Int} {y : Int} : y ∈ rI adj n met met.length ↔ y ∈ met ∨ ∃ m ∈ met, ∃ j : Nat, j < n ∧ y = (j : Int) ∧ adj m (j : Int) = true := by
  rw [rI_mem _ (Nat.le_refl _)]
  constructor
  · rintro (h | ⟨i, hi, h⟩)
    · exact .inl h
    · refine .inr ⟨met.getD i 0, ?_, h⟩
      rw [List.getD_eq_getElem?_getD, List.getElem?_eq_getElem hi]
      exact List.getElem_mem hi
  · rintro (h | ⟨m, hm, h⟩)
    · exact .inl h
    · obtain ⟨i, hi, rfl⟩ := List.getElem_of_mem hm
      refine .inr ⟨i, hi, ?_⟩
      rw [List.getD_eq_getElem?_getD, List.getElem?_eq_getElem hi]
      exact h
theorem rS_mem {a : Nat} (ha : a < n) : ∀ s {y : Int}, y ∈ rS adj n (a : Int) s ↔ ∃ j : Nat, j < n ∧ y = (j : Int) ∧ lvl adj n (a : Int) s (j : Int) = true
  | 0, y => by
    unfold rS
    constructor
    · intro h
      simp at h
      exact ⟨a, ha, h, by simp [lvl]⟩
    · rintro ⟨j, hj, h1, h2⟩
      simp [lvl] at h2
      simp [h1, h2]
  | s + 1, y => by
    rw [rS, rI_all, rS_mem ha s]
    constructor
    · rintro (⟨j, hj, h1, h2⟩ | ⟨m, hm, j, hj, h1, h2⟩)
      · exact ⟨j, hj, h1, lvl_mono1 h2⟩
      · obtain ⟨x, hx, rfl, h3⟩ := (rS_mem ha s).1 hm
        exact ⟨j, hj, h1, lvl_succ.2 (.inr ⟨x, hx, h3, h2⟩)⟩
    · rintro ⟨j, hj, h1, h2⟩
      rcases lvl_succ.1 h2 with h3 | ⟨x, hx, h3, h4⟩
      · exact .inl ⟨j, hj, h1, h3⟩
      · exact .inr ⟨(x : Int), (rS_mem ha s).2 ⟨x, hx, rfl, h3⟩, j, hj, h1, h4⟩
theorem rS_has {a b : Nat} (ha : a < n) (hb : b < n) (s : Nat) : hasI (rS adj n (a : Int) s) (b : Int) = lvl adj n (a : Int) s (b : Int) := by
  rw [Bool.eq_iff_iff, hasI_mem, rS_mem ha s]
  constructor
  · rintro ⟨j, hj, h1, h2⟩
    rwa [h1]
  · intro h
    exact ⟨b, hb, rfl, h⟩
theorem rK_len {m : Int} {l : List Int} : ∀ k, (rK adj m l k).length ≤ l.length + k
  | 0 => by simp [rK]
  | k + 1 => by
    have := rK_len (m := m) (l := l) k
    unfold rK
    split
    · simp; omega
    · omega
theorem rI_len {met : List Int} : ∀ i, (rI adj n met i).length ≤ met.length + i * n
  | 0 => by simp [rI]
  | i + 1 => by
    have h1 := rI_len (met := met) i
    have h2 := rK_len (adj := adj) (m := met.getD i 0) (l := rI adj n met i) n
    rw [rI, Nat.succ_mul]
    omega
theorem rS_len (hn : n ≤ 4) (a : Int) : ∀ s, (rS adj n a s).length ≤ 5 ^ s
  | 0 => by simp [rS]
  | s + 1 => by
    have h1 := rS_len hn a s
    have h2 := rI_len (adj := adj) (n := n) (met := rS adj n a s) (rS adj n a s).length
    have h3 : (rS adj n a s).length * n ≤ (rS adj n a s).length * 4 := Nat.mul_le_mul_left _ hn
    rw [rS, Nat.pow_succ]
    omega
theorem rS_small (hn : n ≤ 4) (a : Int) {s : Nat} (hs : s ≤ 4) : (rS adj n a s).length ≤ 625 := by
  have h1 := rS_len (adj := adj) hn a s
  have h2 : 5 ^ s ≤ 5 ^ 4 := Nat.pow_le_pow_right (by omega) hs
  omega
theorem rI_small {met : List Int} (hm : met.length ≤ 625) (hn : n ≤ 4) {i : Nat} (hi : i ≤ met.length) : (rI adj n met i).length ≤ 3125 := by
  have h1 := rI_len (adj := adj) (n := n) (met := met) i
  have h2 : i * n ≤ 625 * 4 := Nat.mul_le_mul (by omega) hn
  omega
end
end Dist
/-- Are two qubits coupled? -/
def cpl (es : List Ed) (a b : Int) : Bool := hasE es a b || hasE es b a
/-- The distance in a graph; -1 where one is not asked for rightly, or where there is no way. -/
def gd (x : Gr) (a b : Int) : Int := if 1 ≤ x.n ∧ x.n ≤ 4 ∧ 0 ≤ a ∧ a < x.n ∧ 0 ≤ b ∧ b < x.n then Dist.gdist (cpl x.es) x.n.toNat a b else -1
theorem gd_no {x : Gr} {a b : Int} (h : ¬ (1 ≤ x.n ∧ x.n ≤ 4 ∧ 0 ≤ a ∧ a < x.n ∧ 0 ≤ b ∧ b < x.n)) : gd x a b = -1 := if_neg h
theorem gd_yes {x : Gr} {a b : Int} {n : Nat} (h : x.n = n) (h1 : 1 ≤ n) (h2 : n ≤ 4) (h3 : 0 ≤ a) (h4 : a < n) (h5 : 0 ≤ b) (h6 : b < n) : gd x a b = Dist.gdist (cpl x.es) n a b := by
  unfold gd
  rw [if_pos (by omega), h]
  rfl
theorem gd_range (x : Gr) (a b : Int) : -1 ≤ gd x a b ∧ gd x a b ≤ 4 := by
  unfold gd
  split
  · have := Dist.gdist_range (cpl x.es) x.n.toNat a b
    omega
  · omega
end Go.Proofs.Ytofbmkpfliofeab
/-
  Helper text (no claim of its own): the distance in a graph, by the program and by the reference.
-/
namespace Go.Proofs.Ytofbmkpfliofeab
open Go.ChangeShapes Go.WideShapes Go.ChangeAt Go.RowKit Go.Deep
set_option maxRecDepth 100000 in
set_option maxHeartbeats 1000000 in
theorem impl_AreCoupled_any (v : Value) (x : Gr) (a b : Int) (w : World) (h : GrAt w w.heap.size v x) (hn : x.es.length ≤ 100000000) :
    Calls Try.prog 32 #[v, .int .i64 a, .int .i64 b] w fun e w' => e = .returned (.bool (cpl x.es a b)) ∧ Ext w w' := by
  obtain ⟨A1, c1, rfl, h1⟩ := h
  have hG : GrAt w w.heap.size (.agg #[.int .i64 x.n, .slice A1 x.es.length c1]) x := ⟨A1, c1, rfl, h1⟩
  clear h1
  go_enter Try.func32, Try.ntmps32
  go_wp2_with fail
  refine (impl_HasEdge_any _ x a b _ ((hG.up (by repeat (first | exact Ext.refl _ | assumption | refine Ext.alloc ?_ _ | refine Ext.drewN ?_ _ | refine Ext.drew ?_)) (Nat.le_refl _)).more (by simp)) hn).mono ?_
  rintro e w1 ⟨rfl, hx1⟩
  have hB : Blk w1 w.heap.size 27 #[.int .i64 x.n, .slice A1 x.es.length c1] := (Blk.new w _ _).ext hx1
  have hx : Ext w w1 := Ext.trans (by repeat (first | exact Ext.refl _ | assumption | refine Ext.alloc ?_ _ | refine Ext.drewN ?_ _ | refine Ext.drew ?_)) hx1
  have b0 : w1.cell? ⟨w.heap.size, 0, none⟩ = some (.int .i64 x.n) := hB.cell 0
  have b1 : w1.cell? ⟨w.heap.size, 1, none⟩ = some (.slice A1 x.es.length c1) := hB.cell 1
  clear hx1
  cases h1 : hasE x.es a b
  · have HC : Hid (cpl x.es a b = hasE x.es b a) := by unfold Hid cpl; rw [h1, Bool.false_or]
    go_wp2_with fail
    refine (impl_HasEdge_any _ x b a _ ((hG.up hx (Nat.le_refl _)).more hx.size) hn).mono ?_
    rintro e w2 ⟨rfl, hx2⟩
    go_wp2
    go_ret
    exact ⟨ret_bool HC.out.symm, hx.trans hx2⟩
  · have HC : Hid (cpl x.es a b = true) := by unfold Hid cpl; rw [h1, Bool.true_or]
    go_wp2
    go_ret
    exact ⟨ret_bool HC.out.symm, hx⟩
def farRow (R : Nat → Int) : Array Value := #[.int .i64 (R 0), .int .i64 (R 1), .int .i64 (R 2), .int .i64 (R 3)]
theorem farRow_at (R : Nat → Int) {j : Nat} (hj : j < 4) : (farRow R)[j]? = some (.int .i64 (R j)) := by
  rcases (by omega : j = 0 ∨ j = 1 ∨ j = 2 ∨ j = 3) with rfl | rfl | rfl | rfl <;> rfl
theorem farRow_set {R R' : Nat → Int} {j : Nat} {v : Int} (hj : j < 4) (h : ∀ z, R' z = if z = j then v else R z) : (farRow R).setIfInBounds j (.int .i64 v) = farRow R' := by
  unfold farRow
  rcases (by omega : j = 0 ∨ j = 1 ∨ j = 2 ∨ j = 3) with rfl | rfl | rfl | rfl <;> simp [h]
/-- What holds in the program's loops: the row of numbers, the graph's box, old memory. -/
def GdI (w wr : World) (n : Nat) (es : List Ed) (A1 : Option Addr) (c1 : Nat) (R : Nat → Int) : Prop :=
  Blk wr (w.heap.size + 1) 3 (farRow R) ∧ Blk wr w.heap.size 27 #[.int .i64 (n : Int), .slice A1 es.length c1] ∧ Ext w wr
theorem pCell_no {adj : Int → Int → Bool} {s x y : Nat} {R : Nat → Int} (h : ¬ (R x = (s : Int) ∧ R y < 0 ∧ adj (x : Int) (y : Int) = true)) : Dist.pCell adj s x y R = R := by
  funext z
  unfold Dist.pCell
  rw [if_neg (fun h' => h h'.2)]
set_option maxRecDepth 100000 in
set_option maxHeartbeats 8000000 in
theorem impl_gd (n a b : Nat) (es : List Ed) (A1 : Option Addr) (c1 : Nat) (w : World) (h1 : 1 ≤ n) (h4 : n ≤ 4) (ha : a < n) (hb : b < n) (h : Rd w w.heap.size 2 A1 es.length (ecells es)) (hl : es.length ≤ 100000000) :
    Calls Try.prog 44 #[.agg #[.int .i64 (n : Int), .slice A1 es.length c1], .int .i64 (a : Int), .int .i64 (b : Int)] w fun e w' => e = .returned (.int .i64 (Dist.gdist (cpl es) n a b)) ∧ Ext w w' := by
  have HG : Hid (∀ w', Ext w w' → GrAt w' w'.heap.size (.agg #[.int .i64 (n : Int), .slice A1 es.length c1]) ⟨n, es⟩) := fun w' hx => ⟨A1, c1, rfl, h.ext hx⟩
  have HD := Lib.hid (Dist.pS_dist (adj := cpl es) ha hb)
  have HR := Lib.hid (fun (s : Nat) (hs : s ≤ 4) (z : Nat) => Dist.pS_range (cpl es) n a s hs z)
  clear h
  go_enter Try.func44, Try.ntmps44
  go_wp2_with fail
  refine (in_yes _ _ _ _ (by omega) (by omega)).mono ?_
  rintro e w1 ⟨rfl, rfl⟩
  go_wp2_with fail
  refine (in_yes _ _ _ _ (by omega) (by omega)).mono ?_
  rintro e w1 ⟨rfl, rfl⟩
  go_wp2_with fail
  refine (in_yes _ _ _ _ (by omega) (by omega)).mono ?_
  rintro e w1 ⟨rfl, rfl⟩
  have ha4 : (a : Int) < 4 := by omega
  have ha0 : (0 : Int) ≤ (a : Int) := by omega
  go_upto_region 4 with (fail)
  have hb1 : Blk ((w.alloc (.cells #[.int .i64 (n : Int), .slice A1 es.length c1] 27)).alloc (.cells #[.int .i64 (-1), .int .i64 (-1), .int .i64 (-1), .int .i64 (-1)] 3)) (w.heap.size + 1) 3 (farRow fun _ => -1) := Blk.newAt (by simp)
  have hb0 : Blk ((w.alloc (.cells #[.int .i64 (n : Int), .slice A1 es.length c1] 27)).alloc (.cells #[.int .i64 (-1), .int .i64 (-1), .int .i64 (-1), .int .i64 (-1)] 3)) w.heap.size 27 #[.int .i64 (n : Int), .slice A1 es.length c1] := (Blk.new _ _ _).alloc _
  have hx0 : Ext w ((w.alloc (.cells #[.int .i64 (n : Int), .slice A1 es.length c1] 27)).alloc (.cells #[.int .i64 (-1), .int .i64 (-1), .int .i64 (-1), .int .i64 (-1)] 3)) := by repeat (first | exact Ext.refl _ | assumption | refine Ext.alloc ?_ _ | refine Ext.drewN ?_ _ | refine Ext.drew ?_)
  generalize ((w.alloc (.cells #[.int .i64 (n : Int), .slice A1 es.length c1] 27)).alloc (.cells #[.int .i64 (-1), .int .i64 (-1), .int .i64 (-1), .int .i64 (-1)] 3)) = W0 at *
  have ca : W0.cell? ⟨w.heap.size + 1, a, none⟩ = some (.int .i64 (-1)) := (hb1.cell a).trans (farRow_at _ (by omega))
  have fa : W0.frozen? ⟨w.heap.size + 1, a, none⟩ = false := hb1.frozen a
  have hI : GdI w (W0.setCell ⟨w.heap.size + 1, a, none⟩ (.int .i64 0)) n es A1 c1 (Dist.pS (cpl es) n a 0) := by
    refine ⟨?_, hb0.far (p := ⟨w.heap.size + 1, a, none⟩) (by simp) _, hx0.setCell (p := ⟨w.heap.size + 1, a, none⟩) (by simp) _⟩
    have h0 := hb1.set_ a (.int .i64 0)
    rw [farRow_set (R' := Dist.pS (cpl es) n a 0) (by omega) (fun z => rfl)] at h0
    exact h0
  have HI := Lib.hid hI
  clear hI hb1 hb0 hx0
  go_wp2
  clear ca fa
  replace HI := HI.out
  generalize (W0.setCell ⟨w.heap.size + 1, a, none⟩ (.int .i64 0)) = W1 at *
  clear W0
  go_loopw [8] (fun i wr => ∃ s : Nat, s ≤ n ∧ i = .int .i64 s ∧ GdI w wr n es A1 c1 (Dist.pS (cpl es) n a s)) (fun i _ => n - (intOf i).toNat)
  case atStart => exact ⟨0, Nat.zero_le _, rfl, HI⟩
  case round =>
    clear HI
    obtain ⟨s, hs, rfl, hI⟩ := hrel
    have d0 : wr.cell? ⟨w.heap.size, 0, none⟩ = some (.int .i64 (n : Int)) := hI.2.1.cell 0
    by_cases hlt : s < n
    · go_wp2
      obtain ⟨wo, rfl⟩ : ∃ wo : World, wo = wr := ⟨_, rfl⟩
      have hRS := HR.out s (by omega)
      have HRS := Lib.hid hRS
      clear hRS d0
      go_loopw [9] (fun i wr => ∃ x : Nat, x ≤ n ∧ i = .int .i64 x ∧ GdI w wr n es A1 c1 (Dist.pX (cpl es) n s (Dist.pS (cpl es) n a s) x)) (fun i _ => n - (intOf i).toNat)
      case atStart => exact ⟨0, Nat.zero_le _, rfl, hI⟩
      case round =>
        clear hI
        obtain ⟨x, hx, rfl, hI⟩ := hrel
        have d0 : wr.cell? ⟨w.heap.size, 0, none⟩ = some (.int .i64 (n : Int)) := hI.2.1.cell 0
        by_cases hltx : x < n
        · go_wp2
          obtain ⟨wo2, rfl⟩ : ∃ wo2 : World, wo2 = wr := ⟨_, rfl⟩
          clear d0
          go_loopw [10] (fun i wr => ∃ y : Nat, y ≤ n ∧ i = .int .i64 y ∧ GdI w wr n es A1 c1 (Dist.pY (cpl es) s x (Dist.pX (cpl es) n s (Dist.pS (cpl es) n a s) x) y)) (fun i _ => n - (intOf i).toNat)
          case atStart => exact ⟨0, Nat.zero_le _, rfl, hI⟩
          case round =>
            clear hI
            obtain ⟨y, hy, rfl, hI⟩ := hrel
            have d0 : wr.cell? ⟨w.heap.size, 0, none⟩ = some (.int .i64 (n : Int)) := hI.2.1.cell 0
            by_cases hlty : y < n
            · have HS : Hid (Dist.pY (cpl es) s x (Dist.pX (cpl es) n s (Dist.pS (cpl es) n a s) x) (y + 1) = Dist.pCell (cpl es) s x y (Dist.pY (cpl es) s x (Dist.pX (cpl es) n s (Dist.pS (cpl es) n a s) x) y)) := rfl
              generalize Dist.pY (cpl es) s x (Dist.pX (cpl es) n s (Dist.pS (cpl es) n a s) x) y = R at *
              have d1 : wr.cell? ⟨w.heap.size, 1, none⟩ = some (.slice A1 es.length c1) := hI.2.1.cell 1
              have cx : wr.cell? ⟨w.heap.size + 1, x, none⟩ = some (.int .i64 (R x)) := (hI.1.cell x).trans (farRow_at _ (by omega))
              have cy : wr.cell? ⟨w.heap.size + 1, y, none⟩ = some (.int .i64 (R y)) := (hI.1.cell y).trans (farRow_at _ (by omega))
              have hx4 : (x : Int) < 4 := by omega
              have hy4 : (y : Int) < 4 := by omega
              cases hc1 : (R x == (s : Int))
              · have HN := Lib.hid (pCell_no (adj := cpl es) (s := s) (x := x) (y := y) (R := R) (fun h => by rw [h.1, beq_self_eq_true] at hc1; cases hc1))
                go_wp2
                go_roundw
                case rel => exact ⟨y + 1, by omega, by go_num, by rw [HS.out, HN.out]; exact hI⟩
                case measure => simp [intOf]; omega
              · by_cases hc2 : R y < 0
                · have hd2 : decide (R y < 0) = true := by simpa using hc2
                  go_wp2_with fail
                  refine (impl_AreCoupled_any _ ⟨n, es⟩ x y _ (HG.out _ hI.2.2) hl).mono ?_
                  rintro e w2 ⟨rfl, hx2⟩
                  have hI2 : GdI w w2 n es A1 c1 R := ⟨hI.1.ext hx2, hI.2.1.ext hx2, hI.2.2.trans hx2⟩
                  clear cx cy d0 d1 hI
                  have cy : w2.cell? ⟨w.heap.size + 1, y, none⟩ = some (.int .i64 (R y)) := (hI2.1.cell y).trans (farRow_at _ (by omega))
                  have fy : w2.frozen? ⟨w.heap.size + 1, y, none⟩ = false := hI2.1.frozen y
                  have hy0 : (0 : Int) ≤ (y : Int) := by omega
                  cases hc3 : cpl es (x : Int) (y : Int)
                  · have HN := Lib.hid (pCell_no (adj := cpl es) (s := s) (x := x) (y := y) (R := R) (fun h => by rw [h.2.2] at hc3; cases hc3))
                    go_wp2
                    go_roundw
                    case rel => exact ⟨y + 1, by omega, by go_num, by rw [HS.out, HN.out]; exact hI2⟩
                    case measure => simp [intOf]; omega
                  · have HC : Hid (R x = (s : Int) ∧ R y < 0 ∧ cpl es (x : Int) (y : Int) = true) := ⟨by simpa using hc1, hc2, hc3⟩
                    clear hc1 hc2 hd2 hc3
                    go_wp2
                    go_roundw
                    case rel =>
                      refine ⟨y + 1, by omega, by go_num, ?_⟩
                      rw [HS.out]
                      refine ⟨?_, hI2.2.1.far (p := ⟨w.heap.size + 1, y, none⟩) (by simp) _, hI2.2.2.setCell (p := ⟨w.heap.size + 1, y, none⟩) (by simp) _⟩
                      have h0 := hI2.1.set_ y (.int .i64 ((s : Int) + 1))
                      rw [farRow_set (R' := Dist.pCell (cpl es) s x y R) (by omega) (fun z => by
                        unfold Dist.pCell
                        by_cases hz : z = y
                        · rw [if_pos ⟨hz, HC.out⟩, if_pos hz]
                        · rw [if_neg (fun h => hz h.1), if_neg hz])] at h0
                      exact h0
                    case measure => simp [intOf]; omega
                · have hd2 : decide (R y < 0) = false := by simpa using hc2
                  have HN := Lib.hid (pCell_no (adj := cpl es) (s := s) (x := x) (y := y) (R := R) (fun h => hc2 h.2.1))
                  clear hc2
                  go_wp2
                  go_roundw
                  case rel => exact ⟨y + 1, by omega, by go_num, by rw [HS.out, HN.out]; exact hI⟩
                  case measure => simp [intOf]; omega
            · obtain rfl : y = n := by omega
              go_wp2
              go_roundw
              case rel => exact ⟨x + 1, by omega, by go_num, hI⟩
              case measure => simp [intOf]; omega
        · obtain rfl : x = n := by omega
          go_wp2
          go_roundw
          case rel => exact ⟨s + 1, by omega, by go_num, hI⟩
          case measure => simp [intOf]; omega
    · obtain rfl : s = n := by omega
      have HD2 := HD.out
      have cb : wr.cell? ⟨w.heap.size + 1, b, none⟩ = some (.int .i64 (Dist.pS (cpl es) s a s b)) := (hI.1.cell b).trans (farRow_at _ (by omega))
      rw [HD2] at cb
      clear HD2
      have hb4 : (b : Int) < 4 := by omega
      go_wp2
      go_ret
      exact ⟨rfl, hI.2.2⟩
set_option maxRecDepth 100000 in
set_option maxHeartbeats 2000000 in
theorem impl_GraphDistance_any (v : Value) (x : Gr) (a b : Int) (w : World) (h : GrAt w w.heap.size v x) (hl : x.es.length ≤ 100000000) :
    Calls Try.prog 44 #[v, .int .i64 a, .int .i64 b] w fun e w' => e = .returned (.int .i64 (gd x a b)) ∧ Ext w w' := by
  obtain ⟨A1, c1, rfl, h1⟩ := h
  by_cases hN : 1 ≤ x.n ∧ x.n ≤ 4
  · obtain ⟨n, hn⟩ := Int.eq_ofNat_of_zero_le (by omega : 0 ≤ x.n)
    by_cases ha : 0 ≤ a ∧ a < x.n
    · by_cases hb : 0 ≤ b ∧ b < x.n
      · obtain ⟨i, rfl⟩ := Int.eq_ofNat_of_zero_le ha.1
        obtain ⟨j, rfl⟩ := Int.eq_ofNat_of_zero_le hb.1
        rw [gd_yes hn (by omega) (by omega) (by omega) (by omega) (by omega) (by omega), hn]
        exact impl_gd n i j x.es A1 c1 w (by omega) (by omega) (by omega) (by omega) h1 hl
      · have HF := Lib.hid (gd_no (x := x) (a := a) (b := b) (by omega))
        have HB : Hid (b < 0 ∨ x.n - 1 < b) := by unfold Hid; omega
        obtain ⟨hN1, hN4⟩ := hN
        obtain ⟨ha1, ha2⟩ := ha
        clear hb hn
        go_enter Try.func44, Try.ntmps44
        go_wp2_with fail
        refine (in_yes _ _ _ _ (by omega) (by omega)).mono ?_
        rintro e w1 ⟨rfl, rfl⟩
        go_wp2_with fail
        refine (in_yes _ _ _ _ (by omega) (by omega)).mono ?_
        rintro e w1 ⟨rfl, rfl⟩
        go_wp2_with fail
        refine (in_no _ _ _ _ HB.out).mono ?_
        rintro e w1 ⟨rfl, rfl⟩
        go_wp2
        go_ret
        exact ⟨ret_int HF.out.symm, (by repeat (first | exact Ext.refl _ | assumption | refine Ext.alloc ?_ _ | refine Ext.drewN ?_ _ | refine Ext.drew ?_))⟩
    · have HF := Lib.hid (gd_no (x := x) (a := a) (b := b) (by omega))
      have HB : Hid (a < 0 ∨ x.n - 1 < a) := by unfold Hid; omega
      obtain ⟨hN1, hN4⟩ := hN
      clear ha hn
      go_enter Try.func44, Try.ntmps44
      go_wp2_with fail
      refine (in_yes _ _ _ _ (by omega) (by omega)).mono ?_
      rintro e w1 ⟨rfl, rfl⟩
      go_wp2_with fail
      refine (in_no _ _ _ _ HB.out).mono ?_
      rintro e w1 ⟨rfl, rfl⟩
      go_wp2
      go_ret
      exact ⟨ret_int HF.out.symm, (by repeat (first | exact Ext.refl _ | assumption | refine Ext.alloc ?_ _ | refine Ext.drewN ?_ _ | refine Ext.drew ?_))⟩
  · have HF := Lib.hid (gd_no (x := x) (a := a) (b := b) (by omega))
    have HB : Hid (x.n < 1 ∨ 4 < x.n) := by unfold Hid; omega
    clear hN
    go_enter Try.func44, Try.ntmps44
    go_wp2_with fail
    refine (in_no _ _ _ _ HB.out).mono ?_
    rintro e w1 ⟨rfl, rfl⟩
    go_wp2
    go_ret
    exact ⟨ret_int HF.out.symm, (by repeat (first | exact Ext.refl _ | assumption | refine Ext.alloc ?_ _ | refine Ext.drewN ?_ _ | refine Ext.drew ?_))⟩
end Go.Proofs.Ytofbmkpfliofeab
/-
  Helper text (no claim of its own): the distance in a graph by the reference.
-/
namespace Go.Proofs.Ytofbmkpfliofeab
open Go.ChangeShapes Go.WideShapes Go.ChangeAt Go.RowKit Go.Deep
theorem rK_no {adj : Int → Int → Bool} {m : Int} {l : List Int} {k : Nat} (h : (adj m (k : Int) && !(hasI (Dist.rK adj m l k) (k : Int))) = false) : Dist.rK adj m l (k + 1) = Dist.rK adj m l k := by
  rw [Dist.rK, if_neg (by simp [h])]
theorem rK_yes {adj : Int → Int → Bool} {m : Int} {l : List Int} {k : Nat} (h : adj m (k : Int) = true) (h' : hasI (Dist.rK adj m l k) (k : Int) = false) : Dist.rK adj m l (k + 1) = Dist.rK adj m l k ++ [(k : Int)] := by
  rw [Dist.rK, if_pos (by simp [h, h'])]
set_option maxRecDepth 100000 in
set_option maxHeartbeats 8000000 in
theorem spec_gd (n a b : Nat) (es : List Ed) (A1 : Option Addr) (c1 : Nat) (w : World) (h1 : 1 ≤ n) (h4 : n ≤ 4) (ha : a < n) (hb : b < n) (h : Rd w w.heap.size 2 A1 es.length (ecells es)) (hl : es.length ≤ 100000000) :
    Calls Try.prog 50 #[.agg #[.int .i64 (n : Int), .slice A1 es.length c1], .int .i64 (a : Int), .int .i64 (b : Int)] w fun e w' => e = .returned (.int .i64 (Dist.gdist (cpl es) n a b)) ∧ Ext w w' := by
  have HG : Hid (∀ w', Ext w w' → GrAt w' w'.heap.size (.agg #[.int .i64 (n : Int), .slice A1 es.length c1]) ⟨n, es⟩) := fun w' hx => ⟨A1, c1, rfl, h.ext hx⟩
  have HS := Lib.hid (fun s => Dist.rS_has (adj := cpl es) ha hb s)
  have HL := Lib.hid (fun (s : Nat) (hs : s ≤ 4) => Dist.rS_small (adj := cpl es) h4 (a : Int) hs)
  clear h
  go_enter Try.func50, Try.ntmps50
  go_wp2_with fail
  refine (l1In_yes _ _ _ _ (by omega) (by omega)).mono ?_
  rintro e w1 ⟨rfl, rfl⟩
  go_wp2_with fail
  refine (l1In_yes _ _ _ _ (by omega) (by omega)).mono ?_
  rintro e w1 ⟨rfl, rfl⟩
  go_wp2_with fail
  refine (l1In_yes _ _ _ _ (by omega) (by omega)).mono ?_
  rintro e w1 ⟨rfl, rfl⟩
  have hB0 : Blk ((w.alloc (.cells #[.int .i64 (n : Int), .slice A1 es.length c1] 27)).alloc (.cells #[.int .i64 (a : Int)] 3)) w.heap.size 27 #[.int .i64 (n : Int), .slice A1 es.length c1] := (Blk.new _ _ _).alloc _
  have hX0 : Ext w ((w.alloc (.cells #[.int .i64 (n : Int), .slice A1 es.length c1] 27)).alloc (.cells #[.int .i64 (a : Int)] 3)) := by repeat (first | exact Ext.refl _ | assumption | refine Ext.alloc ?_ _ | refine Ext.drewN ?_ _ | refine Ext.drew ?_)
  have hO0 : ((w.alloc (.cells #[.int .i64 (n : Int), .slice A1 es.length c1] 27)).alloc (.cells #[.int .i64 (a : Int)] 3)).ownsRow w.heap.size 3 1 (.slice (some ⟨w.heap.size + 1, 0, none⟩) 1 1) 1 (icells [(a : Int)]) := own_lit (by repeat (first | exact Ext.refl _ | assumption | refine Ext.alloc ?_ _ | refine Ext.drewN ?_ _ | refine Ext.drew ?_)) _ _ 1 1 #[.int .i64 (a : Int)] _ (by simp) rfl rfl (by omega)
  have HB0 := Lib.hid hB0
  have HX0 := Lib.hid hX0
  have HO0 := Lib.hid hO0
  clear hB0 hX0 hO0
  go_wp2
  replace HB0 := HB0.out
  replace HX0 := HX0.out
  replace HO0 := HO0.out
  generalize ((w.alloc (.cells #[.int .i64 (n : Int), .slice A1 es.length c1] 27)).alloc (.cells #[.int .i64 (a : Int)] 3)) = W0 at *
  go_loopw [7, 8] (fun v i wr => ∃ s : Nat, s ≤ n ∧ i = .int .i64 s ∧ wr.ownsRow w.heap.size 3 1 v (Dist.rS (cpl es) n a s).length (icells (Dist.rS (cpl es) n a s)) ∧ Hid (∀ t, t < s → Dist.lvl (cpl es) n a t b = false) ∧ Blk wr w.heap.size 27 #[.int .i64 (n : Int), .slice A1 es.length c1] ∧ Ext w wr) (fun _ i _ => n - (intOf i).toNat)
  case atStart => exact ⟨0, Nat.zero_le _, rfl, HO0, fun t ht => absurd ht (by omega), HB0, HX0⟩
  case round =>
    clear HO0 HB0 HX0
    obtain ⟨s, hs, rfl, ho, HQ, hB, hx⟩ := hrel
    have hls := HL.out s (by omega)
    have hhs := HS.out s
    have HH := Lib.hid hhs
    have d0 : wr.cell? ⟨w.heap.size, 0, none⟩ = some (.int .i64 (n : Int)) := hB.cell 0
    clear hhs
    have hrS : Hid (Dist.rS (cpl es) n a (s + 1) = Dist.rI (cpl es) n (Dist.rS (cpl es) n a s) (Dist.rS (cpl es) n a s).length) := rfl
    generalize Dist.rS (cpl es) n a s = met at *
    obtain ⟨A7, c7, rfl, hr7⟩ := own_slice ho
    by_cases hlt : s < n
    · go_wp2_with fail
      refine (l1HasInt_any A7 _ c7 met (b : Int) _ hr7 (by omega)).mono ?_
      rintro e w1 ⟨rfl, rfl⟩
      cases hh : hasI met (b : Int)
      · have HQ2 : Hid (∀ t, t < s + 1 → Dist.lvl (cpl es) n a t b = false) := fun t ht => by
          by_cases e : t = s
          · subst e; rw [← HH.out]; exact hh
          · exact HQ.out t (by omega)
        go_wp2_with (at_builtin; refine appIntS (w0 := wr) rfl _ _ rfl _ 0 [] rfl (own_empty wr wr _ _ (Ext.refl _)) (by repeat (first | exact Ext.refl _ | assumption | refine Ext.alloc ?_ _ | refine Ext.drewN ?_ _ | refine Ext.drew ?_)) A7 _ c7 met rfl (hr7.ext (by repeat (first | exact Ext.refl _ | assumption | refine Ext.alloc ?_ _ | refine Ext.drewN ?_ _ | refine Ext.drew ?_))) (by omega) ?_; intro v9 w2 ho9 hx9 hg9 hb9)
        clear hg9 hb9
        simp only [Nat.zero_add, List.nil_append] at ho9
        have hB2 := hB.ext hx9
        have hr2 := hr7.ext hx9
        have hx2 := hx.trans hx9
        clear d0
        obtain ⟨L, hLm⟩ : ∃ L, L = met.length := ⟨_, rfl⟩
        have HLM := Lib.hid hLm
        have hmet := hr7.len icell_len (by omega)
        rw [← hLm] at hr7 ho9 hls ⊢
        have hL625 : L ≤ 625 := hls
        have HO9 : Hid (w2.ownsRow wr.heap.size 3 1 v9 (Dist.rI (cpl es) n met 0).length (icells (Dist.rI (cpl es) n met 0))) := by
          unfold Hid
          rw [show Dist.rI (cpl es) n met 0 = met from rfl, ← hLm]
          exact ho9
        have HLI : Hid (∀ p, p ≤ L → (Dist.rI (cpl es) n met p).length ≤ 3125) := fun p hp => Dist.rI_small (by omega) h4 (by omega)
        clear hLm hmet ho9 hB2 hr2 hx2 ho
        obtain ⟨wo, rfl⟩ : ∃ wo : World, wo = wr := ⟨_, rfl⟩
        go_loopw [9, 10] (fun v i wr => ∃ p : Nat, p ≤ L ∧ i = .int .i64 p ∧ wr.ownsRow wo.heap.size 3 1 v (Dist.rI (cpl es) n met p).length (icells (Dist.rI (cpl es) n met p)) ∧ Ext wo wr) (fun _ i _ => L - (intOf i).toNat)
        case atStart => exact ⟨0, Nat.zero_le _, rfl, HO9.out, hx9⟩
        case round =>
          clear HO9 hx9
          obtain ⟨p, hp, rfl, hop, hxp⟩ := hrel
          by_cases hltp : p < L
          · obtain ⟨b7, o7, m, rfl, hb7, hm, c0⟩ := int_at hr7 hltp
            have HM : Hid (Dist.rI (cpl es) n met (p + 1) = Dist.rK (cpl es) m (Dist.rI (cpl es) n met p) n) := by
              unfold Hid
              rw [Dist.rI, List.getD_eq_getElem?_getD, hm]
              rfl
            have hlp := HLI.out p hp
            clear hm
            go_wp2
            generalize Dist.rI (cpl es) n met p = nx at *
            obtain ⟨wp, rfl⟩ : ∃ wp : World, wp = wr := ⟨_, rfl⟩
            go_loopw [9, 11] (fun v i wr => ∃ q : Nat, q ≤ n ∧ i = .int .i64 q ∧ wr.ownsRow wo.heap.size 3 1 v (Dist.rK (cpl es) m nx q).length (icells (Dist.rK (cpl es) m nx q)) ∧ Ext wo wr) (fun _ i _ => n - (intOf i).toNat)
            case atStart => exact ⟨0, Nat.zero_le _, rfl, hop, hxp⟩
            case round =>
              clear hop hxp
              obtain ⟨q, hq, rfl, hoq, hxq⟩ := hrel
              have hBq := hB.ext hxq
              have d0 : wr.cell? ⟨w.heap.size, 0, none⟩ = some (.int .i64 (n : Int)) := hBq.cell 0
              by_cases hltq : q < n
              · have d1 : wr.cell? ⟨w.heap.size, 1, none⟩ = some (.slice A1 es.length c1) := hBq.cell 1
                have c1' : wr.cell? ⟨b7, o7 + p, none⟩ = some (.int .i64 m) := (hxq.cell (p := ⟨b7, o7 + p, none⟩) hb7).trans c0
                have hxw := hx.trans hxq
                have hlk := Dist.rK_len (adj := cpl es) (m := m) (l := nx) q
                have HY := Lib.hid (rK_yes (adj := cpl es) (m := m) (l := nx) (k := q))
                have HN := Lib.hid (rK_no (adj := cpl es) (m := m) (l := nx) (k := q))
                obtain ⟨A9, c9, rfl, hr9⟩ := own_slice hoq
                have hp0 : (0 : Int) ≤ (p : Int) := by omega
                have hpL : (p : Int) < (L : Int) := by omega
                have HK : Hid (∀ w', Ext wr w' → w'.cell? ⟨w.heap.size, 0, none⟩ = some (.int .i64 (n : Int)) ∧ w'.cell? ⟨w.heap.size, 1, none⟩ = some (.slice A1 es.length c1) ∧ w'.cell? ⟨b7, o7 + p, none⟩ = some (.int .i64 m)) := fun w' z => ⟨(hBq.ext z).cell 0, (hBq.ext z).cell 1, (z.cell (p := ⟨b7, o7 + p, none⟩) (Nat.lt_of_lt_of_le hb7 hxq.size)).trans c1'⟩
                generalize Dist.rK (cpl es) m nx q = nq at *
                cases hc : cpl es m (q : Int)
                · have HN2 := Lib.hid (HN.out (by rw [hc]; rfl))
                  go_wp2
                  first | go_region_with ((go_at_call 51; refine (spec_AreCoupled_any _ ⟨n, es⟩ m q _ (HG.out _ hxw.drew) hl).mono ?_; rintro e w3 ⟨rfl, hy3⟩; replace hy3 : Ext wr w3 := Ext.trans (Ext.refl wr).drew hy3; have hcc : (hasE es m (q : Int) || hasE es (q : Int) m) = false := hc; rw [hcc])) | fail
                  all_goals
                    go_wp2
                    go_roundw
                    case rel => exact ⟨q + 1, by omega, by go_num, by rw [HN2.out]; exact own_ext hoq hy3, hxq.trans hy3⟩
                    case measure => simp [intOf]; omega
                · cases hh2 : hasI nq (q : Int)
                  · have HY2 := Lib.hid (HY.out hc hh2)
                    go_wp2
                    go_region_held3 (fun w' => w'.cell? ⟨w.heap.size, 0, none⟩ = some (.int .i64 (n : Int)) ∧ w'.cell? ⟨w.heap.size, 1, none⟩ = some (.slice A1 es.length c1) ∧ w'.cell? ⟨b7, o7 + p, none⟩ = some (.int .i64 m))
                      (first | go_keep | exact HK.out _ (by assumption))
                      (first
                        | (go_at_call 51; refine (spec_AreCoupled_any _ ⟨n, es⟩ m q _ (HG.out _ hxw.drew) hl).mono ?_; rintro e w3 ⟨rfl, hy3⟩; replace hy3 : Ext wr w3 := Ext.trans (Ext.refl wr).drew hy3; have hcc : (hasE es m (q : Int) || hasE es (q : Int) m) = true := hc; rw [hcc])
                        | (go_at_call 46; refine (l1HasInt_any A9 _ c9 nq (q : Int) _ (hr9.ext hy3) (by omega)).mono ?_; rintro e w4 ⟨rfl, rfl⟩; rw [hh2]))
                    all_goals
                      go_wp2_with (at_builtin; refine appInt (w0 := wo) rfl _ _ rfl _ _ nq rfl (own_ext hoq hy3) (hxq.trans hy3) (q : Int) _ _ rfl (by simp) (by omega) ?_; intro v5 w5 ho5 hx5 hg5 hb5)
                      go_roundw
                      case rel => exact ⟨q + 1, by omega, by go_num, by rw [HY2.out, List.length_append]; exact ho5, hx5⟩
                      case measure => simp [intOf]; omega
                  · have HN2 := Lib.hid (HN.out (by rw [hh2]; simp))
                    go_wp2
                    go_region_held3 (fun w' => w'.cell? ⟨w.heap.size, 0, none⟩ = some (.int .i64 (n : Int)) ∧ w'.cell? ⟨w.heap.size, 1, none⟩ = some (.slice A1 es.length c1) ∧ w'.cell? ⟨b7, o7 + p, none⟩ = some (.int .i64 m))
                      (first | go_keep | exact HK.out _ (by assumption))
                      (first
                        | (go_at_call 51; refine (spec_AreCoupled_any _ ⟨n, es⟩ m q _ (HG.out _ hxw.drew) hl).mono ?_; rintro e w3 ⟨rfl, hy3⟩; replace hy3 : Ext wr w3 := Ext.trans (Ext.refl wr).drew hy3; have hcc : (hasE es m (q : Int) || hasE es (q : Int) m) = true := hc; rw [hcc])
                        | (go_at_call 46; refine (l1HasInt_any A9 _ c9 nq (q : Int) _ (hr9.ext hy3) (by omega)).mono ?_; rintro e w4 ⟨rfl, rfl⟩; rw [hh2]))
                    all_goals
                      go_wp2
                      go_roundw
                      case rel => exact ⟨q + 1, by omega, by go_num, by rw [HN2.out]; exact own_ext hoq hy3, hxq.trans hy3⟩
                      case measure => simp [intOf]; omega
              · obtain rfl : q = n := by omega
                go_wp2
                go_roundw
                case rel => exact ⟨p + 1, by omega, by go_num, by rw [HM.out]; exact hoq, hxq⟩
                case measure => simp [intOf]; omega
          · obtain rfl : p = L := by omega
            have HLM2 := HLM.out
            have hBp := hB.ext hxp
            subst HLM2
            go_wp2
            go_roundw
            case rel => exact ⟨s + 1, by omega, by go_num, by rw [hrS.out]; exact own_base hop hx.size, HQ2, hBp, hx.trans hxp⟩
            case measure => simp [intOf]; omega
      · have HF := Lib.hid (Dist.gdist_some hlt (HH.out.symm.trans hh) HQ.out)
        go_wp2
        go_ret
        exact ⟨ret_int HF.out.symm, hx⟩
    · obtain rfl : s = n := by omega
      have HF := Lib.hid (Dist.gdist_none HQ.out)
      go_wp2
      go_ret
      exact ⟨ret_int HF.out.symm, hx⟩
set_option maxRecDepth 100000 in
set_option maxHeartbeats 2000000 in
theorem spec_GraphDistance_any (v : Value) (x : Gr) (a b : Int) (w : World) (h : GrAt w w.heap.size v x) (hl : x.es.length ≤ 100000000) :
    Calls Try.prog 50 #[v, .int .i64 a, .int .i64 b] w fun e w' => e = .returned (.int .i64 (gd x a b)) ∧ Ext w w' := by
  obtain ⟨A1, c1, rfl, h1⟩ := h
  by_cases hN : 1 ≤ x.n ∧ x.n ≤ 4
  · obtain ⟨n, hn⟩ := Int.eq_ofNat_of_zero_le (by omega : 0 ≤ x.n)
    by_cases ha : 0 ≤ a ∧ a < x.n
    · by_cases hb : 0 ≤ b ∧ b < x.n
      · obtain ⟨i, rfl⟩ := Int.eq_ofNat_of_zero_le ha.1
        obtain ⟨j, rfl⟩ := Int.eq_ofNat_of_zero_le hb.1
        rw [gd_yes hn (by omega) (by omega) (by omega) (by omega) (by omega) (by omega), hn]
        exact spec_gd n i j x.es A1 c1 w (by omega) (by omega) (by omega) (by omega) h1 hl
      · have HF := Lib.hid (gd_no (x := x) (a := a) (b := b) (by omega))
        have HB : Hid (b < 0 ∨ x.n - 1 < b) := by unfold Hid; omega
        obtain ⟨hN1, hN4⟩ := hN
        obtain ⟨ha1, ha2⟩ := ha
        clear hb hn
        go_enter Try.func50, Try.ntmps50
        go_wp2_with fail
        refine (l1In_yes _ _ _ _ (by omega) (by omega)).mono ?_
        rintro e w1 ⟨rfl, rfl⟩
        go_wp2_with fail
        refine (l1In_yes _ _ _ _ (by omega) (by omega)).mono ?_
        rintro e w1 ⟨rfl, rfl⟩
        go_wp2_with fail
        refine (l1In_no _ _ _ _ HB.out).mono ?_
        rintro e w1 ⟨rfl, rfl⟩
        go_wp2
        go_ret
        exact ⟨ret_int HF.out.symm, (by repeat (first | exact Ext.refl _ | assumption | refine Ext.alloc ?_ _ | refine Ext.drewN ?_ _ | refine Ext.drew ?_))⟩
    · have HF := Lib.hid (gd_no (x := x) (a := a) (b := b) (by omega))
      have HB : Hid (a < 0 ∨ x.n - 1 < a) := by unfold Hid; omega
      obtain ⟨hN1, hN4⟩ := hN
      clear ha hn
      go_enter Try.func50, Try.ntmps50
      go_wp2_with fail
      refine (l1In_yes _ _ _ _ (by omega) (by omega)).mono ?_
      rintro e w1 ⟨rfl, rfl⟩
      go_wp2_with fail
      refine (l1In_no _ _ _ _ HB.out).mono ?_
      rintro e w1 ⟨rfl, rfl⟩
      go_wp2
      go_ret
      exact ⟨ret_int HF.out.symm, (by repeat (first | exact Ext.refl _ | assumption | refine Ext.alloc ?_ _ | refine Ext.drewN ?_ _ | refine Ext.drew ?_))⟩
  · have HF := Lib.hid (gd_no (x := x) (a := a) (b := b) (by omega))
    have HB : Hid (x.n < 1 ∨ 4 < x.n) := by unfold Hid; omega
    clear hN
    go_enter Try.func50, Try.ntmps50
    go_wp2_with fail
    refine (l1In_no _ _ _ _ HB.out).mono ?_
    rintro e w1 ⟨rfl, rfl⟩
    go_wp2
    go_ret
    exact ⟨ret_int HF.out.symm, (by repeat (first | exact Ext.refl _ | assumption | refine Ext.alloc ?_ _ | refine Ext.drewN ?_ _ | refine Ext.drew ?_))⟩
end Go.Proofs.Ytofbmkpfliofeab
/-
  Helper text (no claim of its own): a shortest path, by the program and by the reference.
-/
namespace Go.Proofs.Ytofbmkpfliofeab
open Go.ChangeShapes Go.WideShapes Go.ChangeAt Go.RowKit Go.Deep
/-- The next vertex on the way from a to b, d away. -/
def nxt (x : Gr) (b a : Int) (d : Nat) : Option Nat := (List.range x.n.toNat).find? fun k => cpl x.es a (k : Int) && (gd x (k : Int) b == (d : Int))
/-- The vertices that follow a on the way to b, d away. -/
def spw (x : Gr) (b : Int) : Nat → Int → List Int
  | 0, _ => []
  | d + 1, a => match nxt x b a d with
    | some k => (k : Int) :: spw x b d (k : Int)
    | none => []
/-- A shortest path. -/
def spath (x : Gr) (a b : Int) : List Int := if gd x a b < 0 then [] else a :: spw x b (gd x a b).toNat a
theorem spath_no {x : Gr} {a b : Int} (h : gd x a b < 0) : spath x a b = [] := if_pos h
theorem spath_yes {x : Gr} {a b : Int} {d : Nat} (h : gd x a b = d) : spath x a b = a :: spw x b d a := by
  unfold spath
  rw [if_neg (by omega), h]
  rfl
theorem gd_ok {x : Gr} {a b : Int} (h : 0 ≤ gd x a b) : ∃ n i j : Nat, x.n = n ∧ 1 ≤ n ∧ n ≤ 4 ∧ a = i ∧ b = j ∧ i < n ∧ j < n ∧ gd x a b = Dist.gdist (cpl x.es) n (i : Int) (j : Int) := by
  by_cases hc : 1 ≤ x.n ∧ x.n ≤ 4 ∧ 0 ≤ a ∧ a < x.n ∧ 0 ≤ b ∧ b < x.n
  · obtain ⟨n, hn⟩ := Int.eq_ofNat_of_zero_le (by omega : 0 ≤ x.n)
    obtain ⟨i, hi⟩ := Int.eq_ofNat_of_zero_le (by omega : 0 ≤ a)
    obtain ⟨j, hj⟩ := Int.eq_ofNat_of_zero_le (by omega : 0 ≤ b)
    exact ⟨n, i, j, hn, by omega, by omega, hi, hj, by omega, by omega, by rw [gd_yes hn (by omega) (by omega) (by omega) (by omega) (by omega) (by omega), hi, hj]⟩
  · rw [gd_no hc] at h; omega
theorem nxt_some {x : Gr} {a b : Int} {d : Nat} (h : gd x a b = ((d + 1 : Nat) : Int)) : ∃ k, nxt x b a d = some k := by
  obtain ⟨n, i, j, hn, h1, h4, rfl, rfl, hi, hj, hg⟩ := gd_ok (by omega : 0 ≤ gd x a b)
  rw [hg] at h
  obtain ⟨k, hk, hc, hd⟩ := Dist.gdist_step hi hj h
  have hx : gd x (k : Int) (j : Int) = (d : Int) := by rw [gd_yes hn h1 h4 (by omega) (by omega) (by omega) (by omega), hd]
  cases hf : nxt x (j : Int) (i : Int) d with
  | some k => exact ⟨k, rfl⟩
  | none =>
    unfold nxt at hf
    rw [List.find?_eq_none] at hf
    have := hf k (by rw [hn]; simpa using hk)
    rw [hc, hx] at this
    simp at this
theorem nxt_spec {x : Gr} {a b : Int} {d k : Nat} (h : nxt x b a d = some k) : (k : Int) < x.n ∧ cpl x.es a (k : Int) = true ∧ gd x (k : Int) b = (d : Int) ∧ ∀ j : Nat, j < k → (cpl x.es a (j : Int) && (gd x (j : Int) b == (d : Int))) = false := by
  unfold nxt at h
  rw [List.find?_range_eq_some] at h
  obtain ⟨h1, h2, h3⟩ := h
  simp at h1 h2
  refine ⟨by omega, h1.1, h1.2, fun j hj => ?_⟩
  have := h3 j hj
  cases hq : (cpl x.es a (j : Int) && (gd x (j : Int) b == (d : Int)))
  · rfl
  · rw [hq] at this; cases this
theorem spw_step {x : Gr} {a b : Int} {d k : Nat} (h : nxt x b a d = some k) : spw x b (d + 1) a = (k : Int) :: spw x b d (k : Int) := by
  rw [spw, h]
theorem spw_len {x : Gr} {b : Int} : ∀ d a, (spw x b d a).length ≤ d
  | 0, _ => by simp [spw]
  | d + 1, a => by
    rw [spw]
    split
    · have := spw_len (x := x) (b := b) d
      simp
      rename_i k _
      exact this _
    · simp
theorem spath_len (x : Gr) (a b : Int) : (spath x a b).length ≤ 5 := by
  have h := gd_range x a b
  unfold spath
  split
  · simp
  · have := spw_len (x := x) (b := b) (gd x a b).toNat a
    simp; omega

set_option maxRecDepth 100000 in
set_option maxHeartbeats 8000000 in
theorem spec_ShortestPath_any (v : Value) (x : Gr) (a b : Int) (w : World) (h : GrAt w w.heap.size v x) (hl : x.es.length ≤ 100000000) :
    Calls Try.prog 23 #[v, .int .i64 a, .int .i64 b] w fun e w' => ∃ A len cap, e = .returned (.slice A len cap) ∧ len = (spath x a b).length ∧ w'.ownsRow w.heap.size 3 1 (.slice A len cap) len (icells (spath x a b)) ∧ Ext w w' := by
  obtain ⟨A1, c1, rfl, h1⟩ := h
  have HG : Hid (∀ w', Ext w w' → GrAt w' w'.heap.size (.agg #[.int .i64 x.n, .slice A1 x.es.length c1]) x) := fun w' hx => ⟨A1, c1, rfl, h1.ext hx⟩
  have hgr := gd_range x a b
  clear h1
  have hB0 : Blk (w.alloc (.cells #[.int .i64 x.n, .slice A1 x.es.length c1] 27)) w.heap.size 27 #[.int .i64 x.n, .slice A1 x.es.length c1] := Blk.new _ _ _
  have hX0 : Ext w (w.alloc (.cells #[.int .i64 x.n, .slice A1 x.es.length c1] 27)) := by repeat (first | exact Ext.refl _ | assumption | refine Ext.alloc ?_ _ | refine Ext.drewN ?_ _ | refine Ext.drew ?_)
  have HB0 := Lib.hid hB0
  have HX0 := Lib.hid hX0
  clear hB0 hX0
  go_enter Try.func23, Try.ntmps23
  go_wp2_with fail
  have hO0 : ((w.alloc (.cells #[.int .i64 x.n, .slice A1 x.es.length c1] 27)).alloc (.cells #[] 3)).ownsRow (w.alloc (.cells #[.int .i64 x.n, .slice A1 x.es.length c1] 27)).heap.size 3 1 (.slice (some ⟨w.heap.size + 1, 0, none⟩) 0 0) 0 (icells []) := own_lit (Ext.refl _) _ _ 1 0 #[] _ (by simp) rfl rfl (by omega)
  have hE0 : Ext (w.alloc (.cells #[.int .i64 x.n, .slice A1 x.es.length c1] 27)) ((w.alloc (.cells #[.int .i64 x.n, .slice A1 x.es.length c1] 27)).alloc (.cells #[] 3)) := (Ext.refl _).alloc _
  generalize ((w.alloc (.cells #[.int .i64 x.n, .slice A1 x.es.length c1] 27)).alloc (.cells #[] 3)) = W0 at *
  have hB0 := HB0.out
  have hX0 := HX0.out
  clear HB0 HX0
  generalize (w.alloc (.cells #[.int .i64 x.n, .slice A1 x.es.length c1] 27)) = Wb at *
  refine (spec_GraphDistance_any _ x a b _ (HG.out _ (hX0.trans hE0)) hl).mono ?_
  rintro e w1 ⟨rfl, hx1⟩
  have hO1 := own_ext hO0 hx1
  have hE1 := hE0.trans hx1
  clear hO0 hE0 hx1
  by_cases hneg : gd x a b < 0
  · have HS := Lib.hid (spath_no hneg)
    go_wp2
    go_ret
    refine ⟨_, _, _, rfl, by rw [HS.out]; rfl, by rw [HS.out]; exact own_base hO1 hX0.size, hX0.trans hE1⟩
  obtain ⟨d, hd⟩ := Int.eq_ofNat_of_zero_le (by omega : 0 ≤ gd x a b)
  have HS := Lib.hid (spath_yes hd)
  have HD := Lib.hid hd
  rw [hd] at hneg hgr ⊢
  have hd4 : d ≤ 4 := by omega
  clear hd hgr
  go_wp2_with (at_builtin; refine appInt (w0 := Wb) rfl _ _ rfl _ 0 [] rfl hO1 hE1 a _ _ rfl rfl (by omega) ?_; intro v2 w2 ho2 hx2 hg2 hb2)
  clear hg2 hb2 hO1 hE1
  replace ho2 : w2.ownsRow Wb.heap.size 3 1 v2 1 (icells [a]) := ho2
  go_loopw [1, 7, 8] (fun va v vd wr => ∃ (q : Nat) (z : Int) (out : List Int), q ≤ d ∧ va = .int .i64 z ∧ vd = .int .i64 q ∧ gd x z b = (q : Int) ∧ out.length ≤ 5 - q ∧ Hid (spath x a b = out ++ spw x b q z) ∧ wr.ownsRow Wb.heap.size 3 1 v out.length (icells out) ∧ Ext Wb wr) (fun _ _ vd _ => (intOf vd).toNat)
  case atStart => exact ⟨d, a, [a], Nat.le_refl _, rfl, rfl, HD.out, by simp; omega, HS.out, ho2, hx2⟩
  case round =>
    clear ho2 hx2
    obtain ⟨q, z, out, hq, rfl, rfl, hz, hlen, HQ, ho, hx⟩ := hrel
    by_cases hq0 : 0 < q
    · obtain ⟨q, rfl⟩ : ∃ q', q = q' + 1 := ⟨q - 1, by omega⟩
      obtain ⟨k, hk⟩ := nxt_some hz
      obtain ⟨hkn, hkc, hkd, hkl⟩ := nxt_spec hk
      have hn4 : x.n ≤ 4 := by
        obtain ⟨n, i, j, hn, h1, h4, _⟩ := gd_ok (by omega : 0 ≤ gd x z b)
        omega
      have HST := Lib.hid (spw_step hk)
      have HKC := Lib.hid hkc
      have HKD := Lib.hid hkd
      have HKL := Lib.hid hkl
      clear hk hkc hkd hkl hz
      go_wp2
      obtain ⟨wo, rfl⟩ : ∃ wo : World, wo = wr := ⟨_, rfl⟩
      go_loopw [1, 9] (fun va i wr => ∃ j : Nat, j ≤ k ∧ i = .int .i64 j ∧ va = .int .i64 z ∧ Ext wo wr) (fun _ i _ => k - (intOf i).toNat)
      case atStart => exact ⟨0, Nat.zero_le _, rfl, rfl, Ext.refl _⟩
      case round =>
        obtain ⟨j, hj, rfl, rfl, hxj⟩ := hrel
        have hX := hx.trans hxj
        have hB := hB0.ext hX
        have d0 : wr.cell? ⟨w.heap.size, 0, none⟩ = some (.int .i64 x.n) := hB.cell 0
        have d1 : wr.cell? ⟨w.heap.size, 1, none⟩ = some (.slice A1 x.es.length c1) := hB.cell 1
        have hjn : (j : Int) < x.n := by omega
        go_wp2_with fail
        refine (spec_AreCoupled_any _ x z j _ (HG.out _ (hX0.trans hX)) hl).mono ?_
        rintro e w3 ⟨rfl, hy3⟩
        have hX3 := hX.trans hy3
        have hB3 := hB0.ext hX3
        clear d0 d1
        have d0 : w3.cell? ⟨w.heap.size, 0, none⟩ = some (.int .i64 x.n) := hB3.cell 0
        have d1 : w3.cell? ⟨w.heap.size, 1, none⟩ = some (.slice A1 x.es.length c1) := hB3.cell 1
        by_cases hjk : j < k
        · have hlo := HKL.out j hjk
          cases hc : cpl x.es z (j : Int)
          · have hcc : (hasE x.es z (j : Int) || hasE x.es (j : Int) z) = false := hc
            rw [hcc]
            clear hcc hc hlo
            go_wp2
            go_roundw
            case rel => first | exact ⟨j + 1, by omega, by go_num, rfl, hxj.trans hy3⟩ | ((repeat apply Exists.intro); exact ⟨⟨j + 1, by omega, by go_num, rfl, hxj.trans hy3⟩, rfl⟩)
            case measure => simp [intOf]; omega
          · have hcc : (hasE x.es z (j : Int) || hasE x.es (j : Int) z) = true := hc
            rw [hcc]
            rw [hc, Bool.true_and] at hlo
            have HLO := Lib.hid hlo
            clear hcc hc hlo
            go_wp2_with fail
            refine (spec_GraphDistance_any _ x j b _ (HG.out _ (hX0.trans hX3)) hl).mono ?_
            rintro e w4 ⟨rfl, hy4⟩
            have hlo := HLO.out
            generalize gd x (j : Int) b = G at *
            go_wp2
            go_roundw
            case rel => first | exact ⟨j + 1, by omega, by go_num, rfl, (hxj.trans hy3).trans hy4⟩ | ((repeat apply Exists.intro); exact ⟨⟨j + 1, by omega, by go_num, rfl, (hxj.trans hy3).trans hy4⟩, rfl⟩)
            case measure => simp [intOf]; omega
        · obtain rfl : j = k := by omega
          have hcc : (hasE x.es z (j : Int) || hasE x.es (j : Int) z) = true := HKC.out
          rw [hcc]
          clear hcc
          go_wp2_with fail
          refine (spec_GraphDistance_any _ x j b _ (HG.out _ (hX0.trans hX3)) hl).mono ?_
          rintro e w4 ⟨rfl, hy4⟩
          have hX4 := hX3.trans hy4
          have ho4 := own_ext ho ((hxj.trans hy3).trans hy4)
          rw [HKD.out]
          go_wp2_with (at_builtin; refine appInt (w0 := Wb) rfl _ _ rfl _ out.length out rfl ho4 hX4 (j : Int) _ _ rfl (by simp) (by omega) ?_; intro v5 w5 ho5 hx5 hg5 hb5)
          go_roundw
          case rel => exact ⟨q, j, out ++ [(j : Int)], by omega, rfl, by go_num, HKD.out, by simp; omega, by rw [HQ.out, HST.out]; simp [Hid], by rw [List.length_append]; exact ho5, hx5⟩
          case measure => simp [intOf]
    · obtain rfl : q = 0 := by omega
      have HE : Hid (spath x a b = out) := by rw [HQ.out]; simp [spw, Hid]
      obtain ⟨A, c, rfl, _⟩ := own_slice ho
      go_wp2
      go_ret
      exact ⟨_, _, _, rfl, by rw [HE.out], by rw [HE.out]; exact own_base ho hX0.size, hX0.trans hx⟩
end Go.Proofs.Ytofbmkpfliofeab
namespace Go.Proofs.Ytofbmkpfliofeab
open Go.ChangeShapes Go.WideShapes Go.ChangeAt Go.RowKit Go.Deep
def okP (p : List Int) (i : Nat) (x : Int) : Bool := decide (0 ≤ x) && decide (x ≤ (p.length : Int) - 1) && !(hasI (p.take i) x)
def permG (p : List Int) (k : Nat) : Bool := (List.range k).all fun i => okP p i (p.getD i 0)
def perm (p : List Int) : Bool := permG p p.length && (decide (1 ≤ p.length) && decide (p.length ≤ 4))
theorem permG_snoc {p : List Int} {k : Nat} {x : Int} (h : p[k]? = some x) : permG p (k + 1) = (permG p k && okP p k x) := by
  unfold permG
  rw [List.range_succ, List.all_append]
  simp [h]
theorem perm_no {p : List Int} {k : Nat} {x : Int} (h : p[k]? = some x) (hx : okP p k x = false) : perm p = false := by
  have hk := (List.getElem?_eq_some_iff.1 h).1
  have : permG p p.length = false := by
    rw [Bool.eq_false_iff]
    intro ha
    unfold permG at ha
    rw [List.all_eq_true] at ha
    have := ha k (by simp [hk])
    rw [List.getD_eq_getElem?_getD, h] at this
    simp [hx] at this
  simp [perm, this]
theorem perm_len {p : List Int} (h : p.length < 1 ∨ 4 < p.length) : perm p = false := by
  unfold perm
  rcases h with h | h
  · have e : decide (1 ≤ p.length) = false := decide_eq_false (by omega)
    rw [e]; simp
  · have e : decide (p.length ≤ 4) = false := decide_eq_false (by omega)
    rw [e]; simp
theorem perm_yes {p : List Int} (h : permG p p.length = true) (h1 : 1 ≤ p.length) (h2 : p.length ≤ 4) : perm p = true := by
  simp [perm, h, h1, h2]
theorem okP_out {p : List Int} {k n : Nat} {x : Int} (hn : p.length = n) (h : x < 0 ∨ (n : Int) - 1 < x) : okP p k x = false := by
  subst hn
  unfold okP
  rcases h with h | h
  · have e : decide (0 ≤ x) = false := by simp; omega
    simp [e]
  · have e : decide (x ≤ (p.length : Int) - 1) = false := by simp; omega
    simp [e]
theorem okP_in {p : List Int} {k n : Nat} {x : Int} {s : Bool} (hn : p.length = n) (h1 : 0 ≤ x) (h2 : x ≤ (n : Int) - 1) (hs : hasI (p.take k) x = s) : okP p k x = !s := by
  subst hn
  unfold okP
  rw [hs]
  simp [h1, h2]
def seenA (p : List Int) (k : Nat) : Array Value := #[.bool (hasI (p.take k) 0), .bool (hasI (p.take k) 1), .bool (hasI (p.take k) 2), .bool (hasI (p.take k) 3)]
theorem hasI_snoc {p : List Int} {k : Nat} {x : Int} (h : p[k]? = some x) (y : Int) : hasI (p.take (k + 1)) y = (hasI (p.take k) y || y == x) := by
  unfold hasI
  rw [take_snoc h]
  simp [List.contains_eq_mem]
  by_cases e : y = x <;> simp [e]
theorem seenA_set {p : List Int} {k j : Nat} (h : p[k]? = some (j : Int)) (hj : j < 4) : (seenA p k).setIfInBounds j (.bool true) = seenA p (k + 1) := by
  unfold seenA
  simp only [hasI_snoc h]
  rcases (by omega : j = 0 ∨ j = 1 ∨ j = 2 ∨ j = 3) with rfl | rfl | rfl | rfl <;> simp [Array.setIfInBounds] <;> rfl
theorem seenA_at (p : List Int) (k j : Nat) (hj : j < 4) : (seenA p k)[j]? = some (.bool (hasI (p.take k) (j : Int))) := by
  rcases (by omega : j = 0 ∨ j = 1 ∨ j = 2 ∨ j = 3) with rfl | rfl | rfl | rfl <;> rfl

set_option maxRecDepth 100000 in
set_option maxHeartbeats 2000000 in
theorem impl_IsPermutation_any (A : Option Addr) (n c : Nat) (p : List Int) (w : World) (h : Rd w w.heap.size 1 A n (icells p)) (hn : n ≤ 100000000) :
    Calls Try.prog 26 #[.slice A n c] w fun e w' => e = .returned (.bool (perm p)) ∧ Ext w w' := by
  have hlen := Lib.hid (h.len icell_len (by omega))
  go_enter Try.func26, Try.ntmps26
  by_cases hb : n < 1 ∨ 4 < n
  · have HF := Lib.hid (perm_len (p := p) (by rw [hlen.out]; exact hb))
    have HR : Hid ((n : Int) < 1 ∨ (4 : Int) < n) := by unfold Hid; omega
    clear hb
    go_wp2_with fail
    refine (in_no _ _ _ _ HR.out).mono ?_
    rintro e w1 ⟨rfl, rfl⟩
    go_wp2
    go_ret
    exact ⟨ret_bool HF.out.symm, (by repeat (first | exact Ext.refl _ | assumption | refine Ext.alloc ?_ _ | refine Ext.drewN ?_ _ | refine Ext.drew ?_))⟩
  have hn1 : 1 ≤ n := by omega
  have hn4 : n ≤ 4 := by omega
  clear hb
  go_wp2_with fail
  refine (in_yes _ _ _ _ (by omega) (by omega)).mono ?_
  rintro e w1 ⟨rfl, rfl⟩
  go_wp2
  go_loopw [13] (fun i wr => ∃ k : Nat, k ≤ n ∧ i = .int .i64 k ∧ Hid (permG p k = true) ∧ Blk wr w.heap.size 76 (seenA p k) ∧ Ext w wr) (fun i _ => n - (intOf i).toNat)
  case atStart => exact ⟨0, Nat.zero_le _, rfl, Lib.hid (by simp [permG]), Blk.new _ _ _, (by repeat (first | exact Ext.refl _ | assumption | refine Ext.alloc ?_ _ | refine Ext.drewN ?_ _ | refine Ext.drew ?_))⟩
  case round =>
    obtain ⟨k, hk, rfl, HQ, hB, hx⟩ := hrel
    by_cases hlt : k < n
    · obtain ⟨b, o, x, rfl, hb, hx0, h0⟩ := int_at (h.ext hx) hlt
      have HG := Lib.hid hx0
      clear hx0
      by_cases hr : x < 0 ∨ (n : Int) - 1 < x
      · have HF := Lib.hid (perm_no HG.out (okP_out hlen.out hr))
        have HR := Lib.hid hr
        clear hr
        go_wp2_with fail
        refine (in_no _ _ _ _ HR.out).mono ?_
        rintro e w1 ⟨rfl, rfl⟩
        go_wp2
        go_ret
        exact ⟨ret_bool HF.out.symm, hx⟩
      · obtain ⟨j, rfl⟩ := Int.eq_ofNat_of_zero_le (show 0 ≤ x by omega)
        have hj : j < n := by omega
        clear hr
        have hc : wr.cell? ⟨w.heap.size, j, none⟩ = some (.bool (hasI (p.take k) (j : Int))) := by rw [hB.cell j, seenA_at _ _ _ (by omega)]
        have hf : wr.frozen? ⟨w.heap.size, j, none⟩ = false := hB.frozen j
        have HB := Lib.hid hB
        clear hB
        cases hs : hasI (p.take k) (j : Int)
        · rw [hs] at hc
          have HN := Lib.hid (permG_snoc HG.out)
          rw [HQ.out, okP_in hlen.out (by omega) (by omega) hs] at HN
          go_wp2_with fail
          refine (in_yes _ _ _ _ (by omega) (by omega)).mono ?_
          rintro e w1 ⟨rfl, rfl⟩
          go_wp2
          go_roundw
          case rel => exact ⟨k + 1, by omega, by go_num, HN, by rw [← seenA_set HG.out (by omega)]; exact HB.out.set_ j _, hx.setCell (Nat.le_refl _) _⟩
          case measure => simp [intOf]; omega
        · rw [hs] at hc
          have HF := Lib.hid (perm_no HG.out (okP_in hlen.out (by omega) (by omega) hs))
          go_wp2_with fail
          refine (in_yes _ _ _ _ (by omega) (by omega)).mono ?_
          rintro e w1 ⟨rfl, rfl⟩
          go_wp2
          go_ret
          exact ⟨ret_bool HF.out.symm, hx⟩
    · obtain rfl : k = n := by omega
      have HF := Lib.hid (perm_yes (p := p) (by rw [hlen.out]; exact HQ.out) (by rw [hlen.out]; omega) (by rw [hlen.out]; omega))
      go_wp2
      go_ret
      exact ⟨ret_bool HF.out.symm, hx⟩

set_option maxRecDepth 100000 in
set_option maxHeartbeats 2000000 in
theorem spec_IsPermutation_any (A : Option Addr) (n c : Nat) (p : List Int) (w : World) (h : Rd w w.heap.size 1 A n (icells p)) (hn : n ≤ 100000000) (hc : n ≤ c) :
    Calls Try.prog 20 #[.slice A n c] w fun e w' => e = .returned (.bool (perm p)) ∧ Ext w w' := by
  have hlen := Lib.hid (h.len icell_len (by omega))
  go_enter Try.func20, Try.ntmps20
  go_wp2
  go_loopw [3] (fun i wr => ∃ k : Nat, k ≤ n ∧ i = .int .i64 k ∧ Hid (permG p k = true) ∧ ∃ r, wr = w.drewN r) (fun i _ => n - (intOf i).toNat)
  case atStart => exact ⟨0, by omega, rfl, Lib.hid (by simp [permG]), 0, rfl⟩
  case round =>
    obtain ⟨k, hk, rfl, HQ, r, rfl⟩ := hrel
    by_cases hlt : k < n
    · obtain ⟨b, o, x, rfl, hb, hx0, h0⟩ := int_at h hlt
      have HG := Lib.hid hx0
      clear hx0
      have hkc : (k : Int) ≤ (c : Int) := by omega
      have hdl : decide ((k : Int) < (n : Int)) = true := by simp; omega
      by_cases hr : x < 0 ∨ (n : Int) - 1 < x
      · have HF := Lib.hid (perm_no HG.out (okP_out hlen.out hr))
        have HR := Lib.hid hr
        clear hr
        go_wp2
        go_quiet ((go_at_call 35; (with_reducible refine quiet_more (l1In_no _ _ _ _ ?_)); exact HR.out))
        go_wp2
        go_ret
        exact ⟨ret_bool HF.out.symm, (by repeat (first | exact Ext.refl _ | assumption | refine Ext.alloc ?_ _ | refine Ext.drewN ?_ _ | refine Ext.drew ?_))⟩
      · have HH1 : Hid (0 ≤ x) := by unfold Hid; omega
        have HH2 : Hid (x ≤ (n : Int) - 1) := by unfold Hid; omega
        clear hr
        have hRk := rd_cut h (Nat.le_of_lt hlt)
        rw [icells_take] at hRk
        have HRk : Hid (∀ z, Rd (w.drewN z) (w.drewN z).heap.size 1 (some ⟨b, o, none⟩) k (icells (p.take k))) := fun z => hRk.ext ((Ext.refl w).drewN z)
        clear hRk
        cases hs : hasI (p.take k) x
        · have HN := Lib.hid (permG_snoc HG.out)
          rw [HQ.out, okP_in hlen.out HH1.out HH2.out hs] at HN
          go_wp2
          go_quiet (first | (go_at_call 35; (with_reducible refine quiet_more (l1In_yes _ _ _ _ HH1.out ?_)); exact HH2.out) | (go_at_call 46; (with_reducible refine quiet_more (l1HasInt_any _ k c (p.take k) x _ (HRk.out _) ?_)); omega))
          go_wp2
          go_roundw
          case rel => exact ⟨k + 1, by omega, by go_num, HN, _, rfl⟩
          case measure => simp [intOf]; omega
        · have HF := Lib.hid (perm_no HG.out (okP_in hlen.out HH1.out HH2.out hs))
          go_wp2
          go_quiet (first | (go_at_call 35; (with_reducible refine quiet_more (l1In_yes _ _ _ _ HH1.out ?_)); exact HH2.out) | (go_at_call 46; (with_reducible refine quiet_more (l1HasInt_any _ k c (p.take k) x _ (HRk.out _) ?_)); omega))
          go_wp2
          go_ret
          exact ⟨ret_bool HF.out.symm, (by repeat (first | exact Ext.refl _ | assumption | refine Ext.alloc ?_ _ | refine Ext.drewN ?_ _ | refine Ext.drew ?_))⟩
    · obtain rfl : k = n := by omega
      by_cases hb : k < 1 ∨ 4 < k
      · have HF := Lib.hid (perm_len (p := p) (by rw [hlen.out]; exact hb))
        have HR : Hid ((k : Int) < 1 ∨ (4 : Int) < k) := by unfold Hid; omega
        clear hb
        go_wp2_with fail
        refine (l1In_no _ _ _ _ HR.out).mono ?_
        rintro e w1 ⟨rfl, rfl⟩
        go_wp2
        go_ret
        exact ⟨ret_bool HF.out.symm, (by repeat (first | exact Ext.refl _ | assumption | refine Ext.alloc ?_ _ | refine Ext.drewN ?_ _ | refine Ext.drew ?_))⟩
      · have HF := Lib.hid (perm_yes (p := p) (by rw [hlen.out]; exact HQ.out) (by rw [hlen.out]; omega) (by rw [hlen.out]; omega))
        go_wp2_with fail
        refine (l1In_yes _ _ _ _ (by omega) (by omega)).mono ?_
        rintro e w1 ⟨rfl, rfl⟩
        go_wp2
        go_ret
        exact ⟨ret_bool HF.out.symm, (by repeat (first | exact Ext.refl _ | assumption | refine Ext.alloc ?_ _ | refine Ext.drewN ?_ _ | refine Ext.drew ?_))⟩
end Go.Proofs.Ytofbmkpfliofeab
