/-
 Helper text (no claim of its own): what a Clifford gate makes of X and Z of a qubit, by the reference (whole). Printed by gen_isp.py.
-/
import Derived.Test.YtioimnplhmgbgaaGreatIsq
import Derived.Test.YtioimnplhmgbgaaGreatIsr
import Derived.Test.YtioimnplhmgbgaaGreatIss
namespace Go.Proofs.YtioimnplhmgbgaaGreat
open Go.ChangeShapes Go.WideShapes Go.ChangeAt Go.RowKit Go.Deep
set_option linter.unusedVariables false
theorem spec_l25Image_any (g : Gt) (n q : Int) (z : Bool) (w : World) (hq0 : 0 ≤ q) (hq3 : q ≤ 3) (ha0 : 0 ≤ g.a) (ha3 : g.a ≤ 3) (hb0 : 0 ≤ g.b) (hb3 : g.b ≤ 3) (hc : cliff g = true) (hne : ar g.k = 2 → g.a ≠ g.b) :
  Calls Tryz.prog 71 #[.int .i64 n, g.val, .int .i64 q, .bool z] w fun e w' => e = .returned (img n g q z).val ∧ Ext w w' := by
 cases hs : acts g q
 ·cases z
  ·exact spec_image_none_false g n q w hq0 hq3 hc hs
  ·exact spec_image_none_true g n q w hq0 hq3 hc hs
 have hk := cliff_k hc
 obtain ⟨k, a, b, c⟩ := g
 have hac := acts_eq hc q
 rw [hs] at hac
 dsimp only at ha0 ha3 hb0 hb3 hne hk
 cases hf : isFst ⟨k, a, b, c⟩ q
 ·have h2 : ar k = 2 ∧ q = b := by rw [hf] at hac; simpa [isSnd] using hac.symm
  have hqa : q ≠ a := by simpa [isFst] using hf
  have h4 : k = 9 ∨ k = 10 ∨ k = 11 := by have h3 := h2.1; unfold ar at h3; omega
  rcases h4 with rfl | rfl | rfl <;> cases z
  ·exact spec_image_9fb a b c n q w hq0 hq3 ha0 ha3 hb0 hb3 hs hf hqa h2.2
  ·exact spec_image_9tb a b c n q w hq0 hq3 ha0 ha3 hb0 hb3 hs hf hqa h2.2
  ·exact spec_image_10fb a b c n q w hq0 hq3 ha0 ha3 hb0 hb3 hs hf hqa h2.2
  ·exact spec_image_10tb a b c n q w hq0 hq3 ha0 ha3 hb0 hb3 hs hf hqa h2.2
  ·exact spec_image_11fb a b c n q w hq0 hq3 ha0 ha3 hb0 hb3 hs hf hqa h2.2
  ·exact spec_image_11tb a b c n q w hq0 hq3 ha0 ha3 hb0 hb3 hs hf hqa h2.2
 ·have hqa : q = a := by simpa [isFst] using hf
  rcases hk with rfl | rfl | rfl | rfl | rfl | rfl | rfl | rfl | rfl
  ·cases z
   ·exact spec_image_1f a b c n q w hq0 hq3 ha0 ha3 hb0 hb3 hs hf hqa
   ·exact spec_image_1t a b c n q w hq0 hq3 ha0 ha3 hb0 hb3 hs hf hqa
  ·cases z
   ·exact spec_image_2f a b c n q w hq0 hq3 ha0 ha3 hb0 hb3 hs hf hqa
   ·exact spec_image_2t a b c n q w hq0 hq3 ha0 ha3 hb0 hb3 hs hf hqa
  ·cases z
   ·exact spec_image_3f a b c n q w hq0 hq3 ha0 ha3 hb0 hb3 hs hf hqa
   ·exact spec_image_3t a b c n q w hq0 hq3 ha0 ha3 hb0 hb3 hs hf hqa
  ·cases z
   ·exact spec_image_4f a b c n q w hq0 hq3 ha0 ha3 hb0 hb3 hs hf hqa
   ·exact spec_image_4t a b c n q w hq0 hq3 ha0 ha3 hb0 hb3 hs hf hqa
  ·cases z
   ·exact spec_image_5f a b c n q w hq0 hq3 ha0 ha3 hb0 hb3 hs hf hqa
   ·exact spec_image_5t a b c n q w hq0 hq3 ha0 ha3 hb0 hb3 hs hf hqa
  ·cases z
   ·exact spec_image_6f a b c n q w hq0 hq3 ha0 ha3 hb0 hb3 hs hf hqa
   ·exact spec_image_6t a b c n q w hq0 hq3 ha0 ha3 hb0 hb3 hs hf hqa
  ·cases z
   ·exact spec_image_9fa a b c n q w hq0 hq3 ha0 ha3 hb0 hb3 hs hf hqa (by rw [hqa]; exact hne (by decide))
   ·exact spec_image_9ta a b c n q w hq0 hq3 ha0 ha3 hb0 hb3 hs hf hqa (by rw [hqa]; exact hne (by decide))
  ·cases z
   ·exact spec_image_10fa a b c n q w hq0 hq3 ha0 ha3 hb0 hb3 hs hf hqa (by rw [hqa]; exact hne (by decide))
   ·exact spec_image_10ta a b c n q w hq0 hq3 ha0 ha3 hb0 hb3 hs hf hqa (by rw [hqa]; exact hne (by decide))
  ·cases z
   ·exact spec_image_11fa a b c n q w hq0 hq3 ha0 ha3 hb0 hb3 hs hf hqa (by rw [hqa]; exact hne (by decide))
   ·exact spec_image_11ta a b c n q w hq0 hq3 ha0 ha3 hb0 hb3 hs hf hqa (by rw [hqa]; exact hne (by decide))
end Go.Proofs.YtioimnplhmgbgaaGreat
