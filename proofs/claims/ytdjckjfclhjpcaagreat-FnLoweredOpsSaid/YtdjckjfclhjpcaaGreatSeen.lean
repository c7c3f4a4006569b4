/-
 Helper text (no claim of its own): a set of ints kept as a map from int to bool that the call made.
-/
import Derived.Test.YtdjckjfclhjpcaaGreatBase
import Derived.Maps.Own
import Derived.Maps.OwnOps
import Derived.Maps.OwnSet
import Derived.Maps.Views
namespace Go.Proofs.YtdjckjfclhjpcaaGreat
open Go.ChangeShapes Go.WideShapes Go.ChangeAt Go.RowKit Go.Deep
open Go.Maps
/-- Block b is a map of at most n entries that holds true at just the ints of p. -/
def Seen (w : World) (b n : Nat) (p : Int → Bool) : Prop :=
 ∃ D : DataW Unit, w.ownsMap Tryz.prog 3 (plainElem Tryz.prog 4) b n D ∧ IsMap D ∧ ∀ x, I64 x → D.atKey (.int .i64 x) (.lit (.bool false)) = .lit (.bool (p x))
theorem Seen.made (w : World) : Seen (w.alloc (.map #[] 0)) w.heap.size 0 (fun _ => false) :=
 ⟨.map [], World.ownsMap_made _ _ _ _, isMap_empty, fun _ _ => rfl⟩
theorem Seen.lt {w : World} {b n : Nat} {p : Int → Bool} (h : Seen w b n p) : b < w.heap.size := let ⟨_, h, _, _⟩ := h; h.lt
end Go.Proofs.YtdjckjfclhjpcaaGreat
