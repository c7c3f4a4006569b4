/-
  Helper text (no claim of its own): what a Clifford gate makes of X and Z of a qubit, by the program (whole). Printed by gen_img.py.
-/
import Derived.Test.YtcocabflinlbbaaImh
import Derived.Test.YtcocabflinlbbaaImi
namespace Go.Proofs.Ytcocabflinlbbaa
open Go.ChangeShapes Go.WideShapes Go.ChangeAt Go.RowKit Go.Deep
set_option linter.unusedVariables false
theorem images_hs2 {g : Gt} {q : Int} (h : ar g.k = 2) (hs : (ar g.k == 2 && q == g.b) = false) : (q == g.b) = false := by
  have h3 : (ar g.k == 2) = true := by rw [h]; decide
  rw [h3, Bool.true_and] at hs; exact hs
theorem impl_images_any (g : Gt) (n q : Int) (w : World) (hq0 : 0 ≤ q) (hq3 : q ≤ 3) (ha0 : 0 ≤ g.a) (ha3 : g.a ≤ 3) (hb0 : 0 ≤ g.b) (hb3 : g.b ≤ 3) (hc : cliff g = true) (hne : ar g.k = 2 → g.a ≠ g.b) :
    Calls Try.prog 47 #[g.val, .int .i64 n, .int .i64 q] w fun e w' => e = .returned (.tuple #[(imgX n g q).val, (imgZ n g q).val]) ∧ Ext w w' := by
  have hk := cliff_k hc
  cases hf : (q == g.a)
  · cases hs : (ar g.k == 2 && q == g.b)
    · exact impl_images_none g n q w hq0 hq3 ha0 ha3 hb0 hb3 hf hs
    · have h2 : ar g.k = 2 ∧ q = g.b := by simpa using hs
      have hs2 : (q == g.b) = true := by simpa using h2.2
      have h3 := h2.1
      have h4 : g.k = 9 ∨ g.k = 10 ∨ g.k = 11 := by unfold ar at h3; omega
      rcases h4 with h | h | h
      · exact impl_images_9b g n q w hq0 hq3 ha0 ha3 hb0 hb3 h hf hs hs2
      · exact impl_images_10b g n q w hq0 hq3 ha0 ha3 hb0 hb3 h hf hs hs2
      · exact impl_images_11b g n q w hq0 hq3 ha0 ha3 hb0 hb3 h hf hs hs2
  · have hqa : q = g.a := by simpa using hf
    have hs : (ar g.k == 2 && q == g.b) = false := by
      cases e : (ar g.k == 2 && q == g.b) with
      | false => rfl
      | true =>
        have h3 : ar g.k = 2 ∧ q = g.b := by simpa using e
        exact absurd (hqa.symm.trans h3.2) (hne h3.1)
    rcases hk with h | h | h | h | h | h | h | h | h
    · exact impl_images_1a g n q w hq0 hq3 ha0 ha3 hb0 hb3 h hf hs
    · exact impl_images_2a g n q w hq0 hq3 ha0 ha3 hb0 hb3 h hf hs
    · exact impl_images_3a g n q w hq0 hq3 ha0 ha3 hb0 hb3 h hf hs
    · exact impl_images_4a g n q w hq0 hq3 ha0 ha3 hb0 hb3 h hf hs
    · exact impl_images_5a g n q w hq0 hq3 ha0 ha3 hb0 hb3 h hf hs
    · exact impl_images_6a g n q w hq0 hq3 ha0 ha3 hb0 hb3 h hf hs
    · exact impl_images_9a g n q w hq0 hq3 ha0 ha3 hb0 hb3 h hf hs (images_hs2 (by rw [h]; decide) hs)
    · exact impl_images_10a g n q w hq0 hq3 ha0 ha3 hb0 hb3 h hf hs (images_hs2 (by rw [h]; decide) hs)
    · exact impl_images_11a g n q w hq0 hq3 ha0 ha3 hb0 hb3 h hf hs (images_hs2 (by rw [h]; decide) hs)
end Go.Proofs.Ytcocabflinlbbaa
