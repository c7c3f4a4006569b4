/-
 Helper text (no claim of its own): a text cut at a byte, in plain Lean; the shelf's form of it.
-/
import Derived.Test.YtdjckjfclhjpcaaGreatFi
import Derived.Lib.SplitLaws
namespace Go.Proofs.YtdjckjfclhjpcaaGreat
open Go.ChangeShapes Go.WideShapes Go.ChangeAt Go.RowKit Go.Deep
set_option linter.unusedVariables false
set_option linter.unusedSimpArgs false
/-- A piece put ahead of the first one. -/
def prep (p : List UInt8) : List (List UInt8) → List (List UInt8)
 | [] => [p]
 | x :: r => (p ++ x) :: r
/-- A text cut at each byte c. -/
def cutL (c : UInt8) : List UInt8 → List (List UInt8)
 | [] => [[]]
 | b :: l => if b = c then [] :: cutL c l else prep [b] (cutL c l)
theorem cutL_ne (c : UInt8) (l : List UInt8) : cutL c l ≠ [] := by
 cases l with
 | nil => simp [cutL]
 | cons b l =>
  unfold cutL
  split
  ·simp
  ·cases cutL c l <;> simp [prep]
theorem prep_prep (p q : List UInt8) (X : List (List UInt8)) : prep p (prep q X) = prep (p ++ q) X := by
 cases X <;> simp [prep]
theorem prep_nil {X : List (List UInt8)} (h : X ≠ []) : prep [] X = X := by
 cases X with
 | nil => exact absurd rfl h
 | cons x r => rfl
theorem take_at {l : List UInt8} {f k : Nat} {b : UInt8} (hf : f ≤ k) (h : l[k]? = some b) : (l.drop f).take (k + 1 - f) = (l.drop f).take (k - f) ++ [b] := by
 have h1 : (l.drop f)[k - f]? = some b := by rw [List.getElem?_drop]; rw [show f + (k - f) = k by omega]; exact h
 rw [show k + 1 - f = (k - f) + 1 by omega]
 exact take_snoc h1
/-- The state of the loop that cuts: done, and from where the piece at hand goes. -/
def CutAt (c : UInt8) (l : List UInt8) (done : List (List UInt8)) (f k : Nat) : Prop := f ≤ k ∧ k ≤ l.length ∧ cutL c l = done ++ prep ((l.drop f).take (k - f)) (cutL c (l.drop k))
theorem CutAt.start (c : UInt8) (l : List UInt8) : CutAt c l [] 0 0 := by
 refine ⟨Nat.le_refl _, Nat.zero_le _, ?_⟩
 simp only [List.nil_append, Nat.sub_self, List.take_zero, List.drop_zero]
 exact (prep_nil (cutL_ne c l)).symm
theorem drop_cons {l : List UInt8} {k : Nat} {b : UInt8} (h : l[k]? = some b) : l.drop k = b :: l.drop (k + 1) := by
 obtain ⟨hl, rfl⟩ := List.getElem?_eq_some_iff.1 h
 exact List.drop_eq_getElem_cons hl
theorem CutAt.skip {c : UInt8} {l : List UInt8} {done : List (List UInt8)} {f k : Nat} (h : CutAt c l done f k) {b : UInt8} (hb : l[k]? = some b) (hc : b ≠ c) : CutAt c l done f (k + 1) := by
 obtain ⟨h1, h2, h3⟩ := h
 have hl := (List.getElem?_eq_some_iff.1 hb).1
 refine ⟨by omega, by omega, ?_⟩
 rw [h3, drop_cons hb, cutL, if_neg hc, prep_prep, take_at h1 hb]
theorem CutAt.cut {c : UInt8} {l : List UInt8} {done : List (List UInt8)} {f k : Nat} (h : CutAt c l done f k) (hb : l[k]? = some c) : CutAt c l (done ++ [(l.drop f).take (k - f)]) (k + 1) (k + 1) := by
 obtain ⟨h1, h2, h3⟩ := h
 have hl := (List.getElem?_eq_some_iff.1 hb).1
 refine ⟨by omega, by omega, ?_⟩
 rw [h3, drop_cons hb, cutL, if_pos rfl, Nat.sub_self, List.take_zero, prep_nil (cutL_ne _ _)]
 simp [prep]
theorem CutAt.fin {c : UInt8} {l : List UInt8} {done : List (List UInt8)} {f : Nat} (h : CutAt c l done f l.length) : cutL c l = done ++ [(l.drop f).take (l.length - f)] := by
 obtain ⟨h1, h2, h3⟩ := h
 rw [h3, List.drop_of_length_le (Nat.le_refl _), cutL]
 simp [prep]
/-- The pieces. -/
def cut (c : UInt8) (s : ByteArray) : List ByteArray := (cutL c s.data.toList).map fun l => ⟨l.toArray⟩
/-! ### the shelf's form -/
/-! ### how great the pieces are -/
end Go.Proofs.YtdjckjfclhjpcaaGreat
