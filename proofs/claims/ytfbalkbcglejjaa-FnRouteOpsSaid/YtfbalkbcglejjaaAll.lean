/-
  Helper text (no claim of its own): lists that are all right, and what each element gives.
-/
import Derived.Test.YtfbalkbcglejjaaBase
namespace Go.Proofs.Ytfbalkbcglejjaa
open Go.ChangeShapes Go.WideShapes Go.ChangeAt Go.RowKit Go.Deep
/-! ### Lists that are all right, and what each element gives -/
section
variable {α β : Type} {xs : List α} {x : α} {k m : Nat}
theorem all_no {f : α → Bool} (h : xs[k]? = some x) (hf : f x = false) : xs.all f = false := by
  rw [List.all_eq_false]
  exact ⟨x, List.mem_of_getElem? h, by simp [hf]⟩
theorem all_snoc {f : α → Bool} (h : xs[k]? = some x) (hq : (xs.take k).all f = true) (hf : f x = true) : (xs.take (k + 1)).all f = true := by
  rw [take_snoc h, List.all_append, hq]; simp [hf]
theorem fm_snoc (f : α → List β) (h : xs[k]? = some x) : (xs.take (k + 1)).flatMap f = (xs.take k).flatMap f ++ f x := by
  rw [take_snoc h, List.flatMap_append]; simp
theorem fm_len (f : α → List β) (hf : ∀ x, (f x).length ≤ m) (xs : List α) : (xs.flatMap f).length ≤ m * xs.length := by
  induction xs with
  | nil => simp
  | cons o xs ih => have := hf o; rw [List.flatMap_cons, List.length_append, List.length_cons, Nat.mul_succ]; omega
theorem fm_take (f : α → List β) (hf : ∀ x, (f x).length ≤ m) (xs : List α) (k : Nat) : ((xs.take k).flatMap f).length ≤ m * k :=
  Nat.le_trans (fm_len f hf _) (Nat.mul_le_mul_left _ (List.length_take_le _ _))
end
/-- What a list gives that is right throughout; nothing else gives anything. -/
def allR {α β : Type} (ok : α → Bool) (f : α → List β) (xs : List α) : List β := if xs.all ok = true then xs.flatMap f else []
theorem allR_no {α β : Type} {ok : α → Bool} {f : α → List β} {xs : List α} (h : xs.all ok = false) : allR ok f xs = [] := if_neg (by simp [h])
theorem allR_yes {α β : Type} {ok : α → Bool} {f : α → List β} {xs : List α} (h : xs.all ok = true) : allR ok f xs = xs.flatMap f := if_pos h
def AllE {α : Type} (T size : Nat) (cells : List α → List Value) (w : World) (ok : Bool) (r : List α) (e : Ending) (w' : World) : Prop := ∃ v, e = .returned (.tuple #[v, .bool ok]) ∧ w'.ownsRow w.heap.size T size v r.length (cells r) ∧ Ext w w'
theorem AllE.mk {α : Type} {T size : Nat} {cells : List α → List Value} {w w' : World} {v : Value} {ok b : Bool} {r xs : List α} (hb : ok = b) (hx : r = xs) (ho : w'.ownsRow w.heap.size T size v xs.length (cells xs)) (hw : Ext w w') : AllE T size cells w ok r (.returned (.tuple #[v, .bool b])) w' := by
  subst hb hx; exact ⟨v, rfl, ho, hw⟩

end Go.Proofs.Ytfbalkbcglejjaa
