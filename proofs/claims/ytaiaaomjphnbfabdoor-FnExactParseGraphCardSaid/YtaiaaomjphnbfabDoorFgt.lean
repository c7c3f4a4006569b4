/-
  Helper text (no claim of its own): the text of a gate, by the program and by the reference. Printed by gen_fgt.py.
-/
import Derived.Test.YtaiaaomjphnbfabDoorGn
import Derived.Test.YtaiaaomjphnbfabDoorGq
namespace Go.Proofs.YtaiaaomjphnbfabDoor
open Go.ChangeShapes Go.WideShapes Go.ChangeAt Go.RowKit Go.Deep
set_option linter.unusedVariables false
theorem vg_q {g : Gt} {n : Int} (h : vg g n = true) {k : Nat} {q : Int} (hq : (qus g)[k]? = some q) : 0 ≤ q ∧ q ≤ n - 1 := by
  have hlt : k < (qus g).length := (List.getElem?_eq_some_iff.1 hq).1
  rw [qus_len] at hlt
  have hq' : (qs g)[k]? = some q := by
    unfold qus at hq
    rw [List.getElem?_take_of_lt hlt] at hq
    exact hq
  rcases (by omega : (0 ≤ q ∧ q ≤ n - 1) ∨ (q < 0 ∨ n - 1 < q)) with h1 | h1
  · exact h1
  · have := vg_bad hq' (okI_out (n := n) (i := k) (by omega) h1)
    rw [this] at h
    cases h
theorem gtx_no {g : Gt} (h : vg g 4 = false) : gtx g = ⟨#[]⟩ := by unfold gtx; rw [if_neg (by rw [h]; decide)]
theorem gtx_yes {g : Gt} (h : vg g 4 = true) : gtx g = rowS (gnm g.k) (qus g) := by unfold gtx; rw [if_pos h]
theorem joins2 (s : ByteArray) (q : Int) (hs : s.size ≤ 100000000) :
    (∀ w, (Op.stringOp .add s ⟨#[32]⟩).run Tryd.prog w = .ok (.string (s ++ ⟨#[32]⟩)) w) ∧ (∀ w, (Op.stringOp .add (s ++ ⟨#[32]⟩) (dig q)).run Tryd.prog w = .ok (.string (s ++ ⟨#[32]⟩ ++ dig q)) w) := by
  have e1 : (⟨#[32]⟩ : ByteArray).size = 1 := rfl
  exact ⟨fun w => run_string_add_sum w _ _ (by rw [e1]; omega), fun w => run_string_add_sum w _ _ (by rw [ByteArray.size_append, e1, dig_size]; omega)⟩
end Go.Proofs.YtaiaaomjphnbfabDoor
