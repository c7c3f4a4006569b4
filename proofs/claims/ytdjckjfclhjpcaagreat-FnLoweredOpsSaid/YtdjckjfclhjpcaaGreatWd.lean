/-
 Helper text (no claim of its own): the words of which the texts of gates and operations are made; cut at the blanks, a text gives its words.
-/
import Derived.Test.YtdjckjfclhjpcaaGreatFop
import Derived.Test.YtdjckjfclhjpcaaGreatCut
namespace Go.Proofs.YtdjckjfclhjpcaaGreat
open Go.ChangeShapes Go.WideShapes Go.ChangeAt Go.RowKit Go.Deep
set_option linter.unusedVariables false
set_option linter.unusedSimpArgs false
theorem str_beq {a b : ByteArray} : (a.toList == b.toList) = true ↔ a = b := by
 rw [ByteArray.toList_eq, ByteArray.toList_eq]
 constructor
 ·intro h
  have := eq_of_beq h
  apply ByteArray.ext
  exact Array.ext' this
 ·rintro rfl
  simp
/-! ### gates -/
theorem gnm_inj {j k : Int} (hj : 1 ≤ j ∧ j ≤ 12) (hk : 1 ≤ k ∧ k ≤ 12) (h : gnm j = gnm k) : j = k := by
 have key : ∀ a b : Fin 12, (gnm ((a.val + 1 : Nat) : Int)).data.toList = (gnm ((b.val + 1 : Nat) : Int)).data.toList → a = b := by decide +kernel
 have := key ⟨(j - 1).toNat, by omega⟩ ⟨(k - 1).toNat, by omega⟩ (by
  rw [show (((j - 1).toNat + 1 : Nat) : Int) = j by omega, show (((k - 1).toNat + 1 : Nat) : Int) = k by omega, h])
 have := congrArg Fin.val this
 simp at this
 omega
/-! ### operations -/
/-! ### how great a part of the pieces, joined again, may be -/
end Go.Proofs.YtdjckjfclhjpcaaGreat
