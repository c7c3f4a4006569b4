/-
  Helper text (no claim of its own): the routing of ops (plain Lean).
-/
import Derived.Test.YtfbalkbcglejjaaRop
import Derived.Test.YtfbalkbcglejjaaGops
namespace Go.Proofs.Ytfbalkbcglejjaa
open Go.ChangeShapes Go.WideShapes Go.ChangeAt Go.RowKit Go.Deep
/-- Routed gates as ops: swaps without a condition. -/
def opW (c : Int) (h : Gt) : Oq := ⟨1, h, 0, 0, if (h.k == 11) = true then 0 else c⟩
theorem opW_s {c : Int} {h : Gt} (hk : (h.k == 11) = true) : opW c h = gop 0 h := by unfold opW gop; rw [if_pos hk]
theorem opW_n {c : Int} {h : Gt} (hk : (h.k == 11) = false) : opW c h = gop c h := by unfold opW gop; rw [if_neg (by simp [hk])]
def moved (p : List Int) (o : Oq) : Oq := ⟨o.k, o.g, loc p o.q, o.bit, o.cond⟩
/-- Routed ops and the layout behind them. -/
def ropS (x : Gr) (mode : Int) : List Oq → List Int → Option (List Oq × List Int)
  | [], now => some ([], now)
  | o :: r, now =>
    if (o.k == 1) = true then
      if may o.g x now = true then (ropS x mode r (rop x mode o.g now).2).map fun t => ((rop x mode o.g now).1.map (opW o.cond) ++ t.1, t.2) else none
    else if (o.k == 2) = true then
      if 0 ≤ o.q ∧ o.q ≤ x.n - 1 then (ropS x mode r now).map fun t => (moved now o :: t.1, t.2) else none
    else ropS x mode r now
def rosR (x : Gr) (xs : List Oq) (p : List Int) (mode : Int) : Option (List Oq × List Int) := if (lay x p && (mode == 0 || mode == 1)) = true then ropS x mode xs p else none
theorem rosR_no {x : Gr} {xs : List Oq} {p : List Int} {mode : Int} (h : (lay x p && (mode == 0 || mode == 1)) = false) : rosR x xs p mode = none := if_neg (by simp [h])
theorem rosR_yes {x : Gr} {xs : List Oq} {p : List Int} {mode : Int} (h : lay x p = true) (h' : (mode == 0 || mode == 1) = true) : rosR x xs p mode = ropS x mode xs p := if_pos (by rw [h, h']; rfl)
/-- What is still to come, behind what has been put out. -/
def ropK (x : Gr) (mode : Int) (xs : List Oq) (k : Nat) (out : List Oq) (now : List Int) : Option (List Oq × List Int) := (ropS x mode (xs.drop k) now).map fun t => (out ++ t.1, t.2)
theorem ropK_0 (x : Gr) (mode : Int) (xs : List Oq) (p : List Int) : ropK x mode xs 0 [] p = ropS x mode xs p := by
  unfold ropK
  simp
theorem ropK_end {x : Gr} {mode : Int} {xs : List Oq} {k : Nat} {out : List Oq} {now : List Int} (h : xs.length ≤ k) : ropK x mode xs k out now = some (out, now) := by
  unfold ropK
  rw [List.drop_eq_nil_of_le h]
  simp [ropS]
section
variable {x : Gr} {mode : Int} {xs : List Oq} {k : Nat} {out : List Oq} {now : List Int} {o : Oq}
theorem drop_at (h : xs[k]? = some o) : xs.drop k = o :: xs.drop (k + 1) := by
  obtain ⟨hk, rfl⟩ := List.getElem?_eq_some_iff.1 h
  exact List.drop_eq_getElem_cons hk
theorem ropK_gate (h : xs[k]? = some o) (h1 : (o.k == 1) = true) (hm : may o.g x now = true) : ropK x mode xs k out now = ropK x mode xs (k + 1) (out ++ (rop x mode o.g now).1.map (opW o.cond)) (rop x mode o.g now).2 := by
  unfold ropK
  rw [drop_at h, ropS, if_pos h1, if_pos hm, Option.map_map]
  simp [Function.comp_def, List.append_assoc]
theorem ropK_gate_no (h : xs[k]? = some o) (h1 : (o.k == 1) = true) (hm : may o.g x now = false) : ropK x mode xs k out now = none := by
  unfold ropK
  rw [drop_at h, ropS, if_pos h1, if_neg (by simp [hm])]
  rfl
theorem ropK_meas (h : xs[k]? = some o) (h1 : (o.k == 1) = false) (h2 : (o.k == 2) = true) (hq : 0 ≤ o.q ∧ o.q ≤ x.n - 1) : ropK x mode xs k out now = ropK x mode xs (k + 1) (out ++ [moved now o]) now := by
  unfold ropK
  rw [drop_at h, ropS, if_neg (by simp [h1]), if_pos h2, if_pos hq, Option.map_map]
  simp [Function.comp_def]
theorem ropK_meas_no (h : xs[k]? = some o) (h1 : (o.k == 1) = false) (h2 : (o.k == 2) = true) (hq : ¬ (0 ≤ o.q ∧ o.q ≤ x.n - 1)) : ropK x mode xs k out now = none := by
  unfold ropK
  rw [drop_at h, ropS, if_neg (by simp [h1]), if_pos h2, if_neg hq]
  rfl
theorem ropK_other (h : xs[k]? = some o) (h1 : (o.k == 1) = false) (h2 : (o.k == 2) = false) : ropK x mode xs k out now = ropK x mode xs (k + 1) out now := by
  unfold ropK
  rw [drop_at h, ropS, if_neg (by simp [h1]), if_neg (by simp [h2])]
end
/-- What RouteOps hands back. -/
def RosE (w : World) (r : Option (List Oq × List Int)) (e : Ending) (w' : World) : Prop :=
  ∃ v1 v2 b1, e = .returned (.tuple #[v1, v2, .bool r.isSome]) ∧ w'.ownsRow w.heap.size 45 8 v1 (r.getD ([], [])).1.length (ocells (r.getD ([], [])).1) ∧ (∀ g, v1.ownBlock = some g → g < b1) ∧ (w.heap.size ≤ b1 ∧ b1 ≤ w'.heap.size) ∧ w'.ownsRow b1 3 1 v2 (r.getD ([], [])).2.length (icells (r.getD ([], [])).2) ∧ Ext w w'
theorem RosE.no {w w' : World} {r : Option (List Oq × List Int)} {v1 v2 : Value} {b1 : Nat} (hr : r = none) (h1 : w'.ownsRow w.heap.size 45 8 v1 0 []) (hb : ∀ g, v1.ownBlock = some g → g < b1) (hw : w.heap.size ≤ b1 ∧ b1 ≤ w'.heap.size) (h2 : w'.ownsRow b1 3 1 v2 0 []) (hx : Ext w w') : RosE w r (.returned (.tuple #[v1, v2, .bool false])) w' := by
  subst hr
  exact ⟨v1, v2, b1, rfl, h1, hb, hw, h2, hx⟩
theorem RosE.yes {w w' : World} {r : Option (List Oq × List Int)} {v1 v2 : Value} {b1 m n : Nat} {out : List Oq} {q : List Int} (hr : r = some (out, q)) (hm : out.length = m) (hn : q.length = n) (h1 : w'.ownsRow w.heap.size 45 8 v1 m (ocells out)) (hb : ∀ g, v1.ownBlock = some g → g < b1) (hw : w.heap.size ≤ b1 ∧ b1 ≤ w'.heap.size) (h2 : w'.ownsRow b1 3 1 v2 n (icells q)) (hx : Ext w w') : RosE w r (.returned (.tuple #[v1, v2, .bool true])) w' := by
  subst hr hm hn
  exact ⟨v1, v2, b1, rfl, h1, hb, hw, h2, hx⟩
end Go.Proofs.Ytfbalkbcglejjaa
