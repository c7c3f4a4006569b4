/-
  Helper text (no claim of its own): the text of a number, by the program: strconv's own, by the shelf's contract.
-/
import Derived.Test.YteecjnnompjmiacGreatDoorFii
import Derived.Test.YteecjnnompjmiacGreatDoorShelf
namespace Go.Proofs.YteecjnnompjmiacGreatDoor
open Go.ChangeShapes Go.WideShapes Go.ChangeAt Go.RowKit Go.Deep
set_option linter.unusedVariables false
/-- The table that strconv reads. -/
def Pow (w : World) : Prop := Lib.TabIs Tryz.prog w "internal/strconv.uint64pow10" .u64 Lib.pow10Tab
theorem Ext.growN {w w' : World} (h : Ext w w') (os : Array Obj) : Ext w (Go.Sort.grow w' os) := by
  refine ⟨h.os, h.tape, h.output, ?_, ?_⟩
  · have := h.size
    simp [Go.Sort.grow]
    omega
  · intro k hk
    have hs := h.size
    have hb := h.block k hk
    show (w'.heap ++ os)[k]? = _
    rw [Array.getElem?_append_left (by omega)]
    exact hb
theorem Pow.ext {w w' : World} (h : Pow w) (hx : Ext w w') (g : Nat) (hg : Tryz.prog.globalNamed "internal/strconv.uint64pow10" = some g) : Pow w' := by
  unfold Pow Lib.TabIs World.var? at h ⊢
  rw [hg] at h ⊢
  simp only [Option.bind_some] at h ⊢
  have hlt : g < w.heap.size := by
    rcases Nat.lt_or_ge g w.heap.size with h' | h'
    · exact h'
    · rw [Array.getElem?_eq_none h'] at h; cases h
  rw [hx.block g hlt]
  exact h
set_option maxRecDepth 100000 in
set_option maxHeartbeats 4000000 in
theorem impl_FormatInt_nat (m : Nat) (hm : m ≤ 1000000000) (w : World) (hp : Pow w) : Calls Tryz.prog 38 #[.int .i64 m] w fun e w' => e = .returned (.string (num m)) ∧ Ext w w' := by
  go_enter Tryz.func38, Tryz.ntmps38
  go_wp2_with fail
  refine (Tryz.strconv_Itoa _ (by omega) (by omega) _ hp).mono ?_
  rintro e w2 ⟨rfl, k, os, rfl⟩
  go_wp2
  go_ret
  exact ⟨by unfold num; rw [Lib.itoa_nonneg]; rfl, ((Ext.refl _).drewN _).growN _⟩
end Go.Proofs.YteecjnnompjmiacGreatDoor
