/-
 Helper text (no claim of its own): a gate on a tableau, by the reference (out of Tbx).
-/
import Derived.Test.YtioimnplhmgbgaaGreatTbx
namespace Go.Proofs.YtioimnplhmgbgaaGreat
open Go.ChangeShapes Go.WideShapes Go.ChangeAt Go.RowKit Go.Deep
set_option linter.unusedVariables false
set_option linter.unusedSimpArgs false
theorem spec_TableauApplyGate_any (A : Option Addr) (c : Nat) (n : Int) (rs : List Pa) (g : Gt) (w : World) (h : Rd w w.heap.size 4 A rs.length (pcells rs)) (hl : rs.length ≤ 100000000) (hcap : rs.length ≤ c) :
  Calls Tryz.prog 23 #[.agg #[.int .i64 n, .slice A rs.length c], g.val] w fun e w' => TabRes n (tabG n rs g) e w' ∧ Ext w w' :=
 (spec_TableauApplyGate_P A c n rs g w h hl hcap).mono fun e w' hh => ⟨by
  have h1 := hh.1
  cases ht : tabG n rs g with
  | none => rw [ht] at h1; exact h1
  | some r =>
   rw [ht] at h1
   obtain ⟨v, he, B, d, hv, hr, hc, -⟩ := h1
   exact ⟨v, he, B, d, hv, hr, hc⟩, hh.2⟩
end Go.Proofs.YtioimnplhmgbgaaGreat
