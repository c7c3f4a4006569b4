/-
 Helper text (no claim of its own): a set of ints kept as a map from int to bool that the call made.
-/
import Derived.Test.YtioimnplhmgbgaaGreatBase
import Derived.Maps.Own
import Derived.Maps.OwnOps
import Derived.Maps.OwnSet
import Derived.Maps.Views
namespace Go.Proofs.YtioimnplhmgbgaaGreat
open Go.ChangeShapes Go.WideShapes Go.ChangeAt Go.RowKit Go.Deep
open Go.Maps
theorem keyedInt : Keyed Tryz.prog 3 := int_keyed Tryz.underlying3
theorem zeroBool (w : World) : (zeroValue 4).run Tryz.prog w = .ok (.bool false) w := by kernel_rfl
theorem wf_of_I64 {x : Int} (h : I64 x) : (Lit.int .i64 x).wf = true := by
 simpa [Lit.wf, IntKind.min, IntKind.max, IntKind.signed, IntKind.bits, I64] using h
theorem plainElem_bool_inv {H : Type} {P : Program} {e : TypeId} (he : P.underlying e = some .bool) {v : Value} {z : DataW H × List MemPlace} (h : plainElem P e v = some z) : ∃ x, v = .bool x ∧ z = (.lit (.bool x), []) := by
 unfold plainElem at h
 rw [he] at h
 cases v <;> simp at h
 exact ⟨_, rfl, h.symm⟩
/-- Block b is a map of at most n entries that holds true at just the ints of p. -/
def Seen (w : World) (b n : Nat) (p : Int → Bool) : Prop :=
 ∃ D : DataW Unit, w.ownsMap Tryz.prog 3 (plainElem Tryz.prog 4) b n D ∧ IsMap D ∧ ∀ x, I64 x → D.atKey (.int .i64 x) (.lit (.bool false)) = .lit (.bool (p x))
theorem Seen.made (w : World) : Seen (w.alloc (.map #[] 0)) w.heap.size 0 (fun _ => false) :=
 ⟨.map [], World.ownsMap_made _ _ _ _, isMap_empty, fun _ _ => rfl⟩
theorem Seen.lt {w : World} {b n : Nat} {p : Int → Bool} (h : Seen w b n p) : b < w.heap.size := let ⟨_, h, _, _⟩ := h; h.lt
set_option maxRecDepth 100000 in
theorem Seen.look {w : World} {b n : Nat} {p : Int → Bool} (h : Seen w b n p) {x : Int} (hx : I64 x) :
  (Instr.lookup 94 (.map (some b)) (.int .i64 x) false).run Tryz.prog w = .ok (.bool (p x)) w := by
 obtain ⟨D, ho, _, hp⟩ := h
 obtain ⟨v, ps, hrun, hv⟩ := ho.lookup keyedInt Tryz.underlying94 (zeroBool w) (plainElem_bool Tryz.underlying4 false) (keyOf_int_mk Tryz.underlying3 (wf_of_I64 hx))
 rw [hp x hx] at hv
 obtain ⟨c, rfl, hc⟩ := plainElem_bool_inv Tryz.underlying4 hv
 have hcc : p x = c := by
  injection hc with hc _
  injection hc with hc
  injection hc
 rw [hcc]
 exact hrun
theorem wpList_put {w : World} {b n : Nat} {p : Int → Bool} {ops : Array Oper} {rest : List Oper} {o : Oper} {a : Act} {Q : Exit → Act → World → Prop}
  (hg : o.guard = none) (m x v : Operand) (hop : o.op = Op.mapUpdate 94 m x v) (h : Seen w b n p) (hm : a.eval m = .map (some b)) (hn : n ≤ 100000000) {y : Int} (hx : a.eval x = .int .i64 y) (hv : a.eval v = .bool true) (hy : I64 y)
  (hK : ∀ w', Seen w' b (n + 1) (fun z => z == y || p z) → w.grownBy w' (some b) → wpList Tryz.prog ops Q rest (a.put o.dst undef) w') : wpList Tryz.prog ops Q (o :: rest) a w := by
 obtain ⟨D, ho, hD, hp⟩ := h
 refine wpList_mapUpdate_own w hg m x v 94 hop 3 4 keyedInt Tryz.underlying94 _ b n D hm ho (by unfold maxLen; omega) _ _ _ hx hv (keyOf_int_mk Tryz.underlying3 (wf_of_I64 hy)) _ [] (plainElem_bool Tryz.underlying4 true) ?_
 intro w' ho' hg'
 refine hK w' ⟨_, ho', hD.put _ _, fun z hz => ?_⟩ hg'
 by_cases e : z = y
 ·subst e
  rw [atKey_put_same hD (by simp [WideAt.IsKeyLit])]
  simp
 ·rw [atKey_put_other (by intro h; injection h with _ h; exact e h), hp z hz]
  simp [e]
end Go.Proofs.YtioimnplhmgbgaaGreat
