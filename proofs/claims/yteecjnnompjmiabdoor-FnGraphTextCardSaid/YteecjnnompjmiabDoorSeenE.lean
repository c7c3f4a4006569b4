/-
  Helper text (no claim of its own): a set of edges kept as a map from edge to bool that the call made.
-/
import Derived.Test.YteecjnnompjmiabDoorSeen
import Derived.Test.YteecjnnompjmiabDoorEdge
import Derived.DeepKeys4
namespace Go.Proofs.YteecjnnompjmiabDoor
open Go.ChangeShapes Go.WideShapes Go.ChangeAt Go.RowKit Go.Deep
open Go.Maps
theorem Tryd.rowEdge : (38 : TypeId) < Tryd.prog.types.size := of_decide_eq_true (by kernel_rfl)
theorem Tryd.wideEdge : (match Tryd.prog.underlying 38 with | some (.array _ _) | some (.struct _) => true | _ => false) = true := by kernel_rfl
set_option maxRecDepth 100000 in
theorem keyedEdge : Keyed Tryd.prog 38 := Keyed.of_law (deep_law_laid laidOut (m := 2) (by omega) Tryd.rowEdge (by kernel_rfl) Tryd.wideEdge)
theorem Tryd.keyTypeEdge : Tryd.prog.keyType 38 = true := by kernel_rfl
theorem Tryd.cellsEdge : Tryd.prog.cellsOf 38 = 2 := by kernel_rfl
def keyE (e : Ed) : Lit := .string (keyBytes [.int .i64 e.a, .int .i64 e.b])
theorem keyOf_edge (e : Ed) (h : e.ok) : keyOf Tryd.prog 38 e.val = some (keyE e) := by
  obtain ⟨h1, h2⟩ := h
  have w1 := wf_of_I64 h1
  have w2 := wf_of_I64 h2
  have hf : e.val.formed Tryd.prog 38 = true := by
    simp [Value.formed, Tryd.underlying38, Tryd.cellsEdge]
  have hD : ∃ D, Tryd.prog.types.size + 1 = D + 1 + 1 := ⟨Tryd.prog.types.size - 1, by have : 0 < Tryd.prog.types.size := Nat.lt_of_le_of_lt (Nat.zero_le _) Tryd.rowEdge; omega⟩
  obtain ⟨D, hD⟩ := hD
  simp only [keyOf, Tryd.underlying38, Tryd.keyTypeEdge, hf, Bool.and_self, if_true, hD]
  simp [Program.keyLits, Tryd.underlying38, Tryd.underlying3, Tryd.cellsEdge, Tryd.cellsInt, w1, w2, Value.cells, keyE]
theorem keyE_inj {e f : Ed} (h : e.ok) (h' : f.ok) (hk : keyE e = keyE f) : e = f := by
  have := keyedEdge.inj (keyOf_edge e h) (by rw [hk]; exact keyOf_edge f h')
  obtain ⟨a, b⟩ := e
  obtain ⟨c, d⟩ := f
  simp [Ed.val] at this
  simp [this]
/-- Block b is a map of at most n entries that holds true at just the edges of p. -/
def SeenE (w : World) (b n : Nat) (p : Ed → Bool) : Prop :=
  ∃ D : DataW Unit, w.ownsMap Tryd.prog 38 (plainElem Tryd.prog 4) b n D ∧ IsMap D ∧ ∀ x : Ed, x.ok → D.atKey (keyE x) (.lit (.bool false)) = .lit (.bool (p x))
theorem SeenE.made (w : World) : SeenE (w.alloc (.map #[] 0)) w.heap.size 0 (fun _ => false) :=
  ⟨.map [], World.ownsMap_made _ _ _ _, isMap_empty, fun _ _ => rfl⟩
theorem SeenE.lt {w : World} {b n : Nat} {p : Ed → Bool} (h : SeenE w b n p) : b < w.heap.size := let ⟨_, h, _, _⟩ := h; h.lt
set_option maxRecDepth 100000 in
theorem SeenE.look {w : World} {b n : Nat} {p : Ed → Bool} (h : SeenE w b n p) {x : Ed} (hx : x.ok) :
    (Instr.lookup 51 (.map (some b)) x.val false).run Tryd.prog w = .ok (.bool (p x)) w := by
  obtain ⟨D, ho, _, hp⟩ := h
  obtain ⟨v, ps, hrun, hv⟩ := ho.lookup keyedEdge Tryd.underlying51 (zeroBool w) (plainElem_bool Tryd.underlying4 false) (keyOf_edge x hx)
  rw [hp x hx] at hv
  obtain ⟨c, rfl, hc⟩ := plainElem_bool_inv Tryd.underlying4 hv
  have hcc : p x = c := by
    injection hc with hc _
    injection hc with hc
    injection hc
  rw [hcc]
  exact hrun
theorem wpList_putE {w : World} {b n : Nat} {p : Ed → Bool} {ops : Array Oper} {rest : List Oper} {o : Oper} {a : Act} {Q : Exit → Act → World → Prop}
    (hg : o.guard = none) (m x v : Operand) (hop : o.op = Op.mapUpdate 51 m x v) (h : SeenE w b n p) (hm : a.eval m = .map (some b)) (hn : n ≤ 100000000) {y : Ed} (hx : a.eval x = y.val) (hv : a.eval v = .bool true) (hy : y.ok)
    (hK : ∀ w', SeenE w' b (n + 1) (fun z => eqE z y || p z) → w.grownBy w' (some b) → wpList Tryd.prog ops Q rest (a.put o.dst undef) w') : wpList Tryd.prog ops Q (o :: rest) a w := by
  obtain ⟨D, ho, hD, hp⟩ := h
  refine wpList_mapUpdate_own w hg m x v 51 hop 38 4 keyedEdge Tryd.underlying51 _ b n D hm ho (by unfold maxLen; omega) _ _ _ hx hv (keyOf_edge y hy) _ [] (plainElem_bool Tryd.underlying4 true) ?_
  intro w' ho' hg'
  refine hK w' ⟨_, ho', hD.put _ _, fun z hz => ?_⟩ hg'
  by_cases e : z = y
  · subst e
    rw [atKey_put_same hD (by simp [WideAt.IsKeyLit, keyE])]
    simp [eqE_self]
  · rw [atKey_put_other (fun h => e (keyE_inj hz hy h)), hp z hz]
    have : eqE z y = false := by
      unfold eqE
      obtain ⟨a, b⟩ := z
      obtain ⟨c, d⟩ := y
      simp at e ⊢
      exact e
    simp [this]
end Go.Proofs.YteecjnnompjmiabDoor
