/-
  Helper text (no claim of its own): the names of the gates, by the program and by the reference.
-/
import Derived.Test.YteecjnnompjmiacGreatDoorLst
import Derived.Test.YteecjnnompjmiacGreatDoorTxt
namespace Go.Proofs.YteecjnnompjmiacGreatDoor
open Go.ChangeShapes Go.WideShapes Go.ChangeAt Go.RowKit Go.Deep
set_option linter.unusedVariables false
set_option maxRecDepth 100000 in
set_option maxHeartbeats 4000000 in
theorem spec_GateName_any (k : Int) (w : World) : Calls Tryz.prog 59 #[.int .i64 k] w fun e w' => e = .returned (.string (gnm k)) ∧ Ext w w' := by
  by_cases hr : 1 ≤ k ∧ k ≤ 12
  · rcases (by omega : k = 1 ∨ k = 2 ∨ k = 3 ∨ k = 4 ∨ k = 5 ∨ k = 6 ∨ k = 7 ∨ k = 8 ∨ k = 9 ∨ k = 10 ∨ k = 11 ∨ k = 12) with rfl | rfl | rfl | rfl | rfl | rfl | rfl | rfl | rfl | rfl | rfl | rfl
    all_goals
      go_enter Tryz.func59, Tryz.ntmps59
      go_wp2_with fail
      refine (l1In_yes _ _ _ _ (by decide) (by decide)).mono ?_
      rintro e w' ⟨rfl, rfl⟩
      go_wp2
      go_ret
      exact ⟨ret_str (by first | rfl | decide), (by repeat (first | exact Ext.refl _ | assumption | refine Ext.alloc ?_ _ | refine Ext.drewN ?_ _ | refine Ext.drew ?_))⟩
  · rw [gnm_none (by omega)]
    go_enter Tryz.func59, Tryz.ntmps59
    go_wp2_with fail
    refine (l1In_no _ _ _ _ (by omega)).mono ?_
    rintro e w' ⟨rfl, rfl⟩
    go_wp2
    go_ret
    exact ⟨rfl, Ext.refl _⟩
set_option maxRecDepth 100000 in
set_option maxHeartbeats 4000000 in
theorem impl_GateName_any (k : Int) (w : World) (hg : GN w) : Calls Tryz.prog 67 #[.int .i64 k] w fun e w' => e = .returned (.string (gnm k)) ∧ Ext w w' := by
  by_cases hr : 1 ≤ k ∧ k ≤ 12
  · obtain ⟨R, o, c, q0, hq⟩ := hg
    rcases (by omega : k = 1 ∨ k = 2 ∨ k = 3 ∨ k = 4 ∨ k = 5 ∨ k = 6 ∨ k = 7 ∨ k = 8 ∨ k = 9 ∨ k = 10 ∨ k = 11 ∨ k = 12) with rfl | rfl | rfl | rfl | rfl | rfl | rfl | rfl | rfl | rfl | rfl | rfl
    · have q1 : w.cell? ⟨R, o + 1, none⟩ = some (.string (gnm 1)) := hq 1 (by decide)
      clear hq
      go_enter Tryz.func67, Tryz.ntmps67
      go_wp2_with fail
      refine (in_yes _ _ _ _ (by decide) (by decide)).mono ?_
      rintro e w' ⟨rfl, rfl⟩
      go_wp2
      go_ret
      exact ⟨rfl, Ext.refl _⟩
    · have q1 : w.cell? ⟨R, o + 2, none⟩ = some (.string (gnm 2)) := hq 2 (by decide)
      clear hq
      go_enter Tryz.func67, Tryz.ntmps67
      go_wp2_with fail
      refine (in_yes _ _ _ _ (by decide) (by decide)).mono ?_
      rintro e w' ⟨rfl, rfl⟩
      go_wp2
      go_ret
      exact ⟨rfl, Ext.refl _⟩
    · have q1 : w.cell? ⟨R, o + 3, none⟩ = some (.string (gnm 3)) := hq 3 (by decide)
      clear hq
      go_enter Tryz.func67, Tryz.ntmps67
      go_wp2_with fail
      refine (in_yes _ _ _ _ (by decide) (by decide)).mono ?_
      rintro e w' ⟨rfl, rfl⟩
      go_wp2
      go_ret
      exact ⟨rfl, Ext.refl _⟩
    · have q1 : w.cell? ⟨R, o + 4, none⟩ = some (.string (gnm 4)) := hq 4 (by decide)
      clear hq
      go_enter Tryz.func67, Tryz.ntmps67
      go_wp2_with fail
      refine (in_yes _ _ _ _ (by decide) (by decide)).mono ?_
      rintro e w' ⟨rfl, rfl⟩
      go_wp2
      go_ret
      exact ⟨rfl, Ext.refl _⟩
    · have q1 : w.cell? ⟨R, o + 5, none⟩ = some (.string (gnm 5)) := hq 5 (by decide)
      clear hq
      go_enter Tryz.func67, Tryz.ntmps67
      go_wp2_with fail
      refine (in_yes _ _ _ _ (by decide) (by decide)).mono ?_
      rintro e w' ⟨rfl, rfl⟩
      go_wp2
      go_ret
      exact ⟨rfl, Ext.refl _⟩
    · have q1 : w.cell? ⟨R, o + 6, none⟩ = some (.string (gnm 6)) := hq 6 (by decide)
      clear hq
      go_enter Tryz.func67, Tryz.ntmps67
      go_wp2_with fail
      refine (in_yes _ _ _ _ (by decide) (by decide)).mono ?_
      rintro e w' ⟨rfl, rfl⟩
      go_wp2
      go_ret
      exact ⟨rfl, Ext.refl _⟩
    · have q1 : w.cell? ⟨R, o + 7, none⟩ = some (.string (gnm 7)) := hq 7 (by decide)
      clear hq
      go_enter Tryz.func67, Tryz.ntmps67
      go_wp2_with fail
      refine (in_yes _ _ _ _ (by decide) (by decide)).mono ?_
      rintro e w' ⟨rfl, rfl⟩
      go_wp2
      go_ret
      exact ⟨rfl, Ext.refl _⟩
    · have q1 : w.cell? ⟨R, o + 8, none⟩ = some (.string (gnm 8)) := hq 8 (by decide)
      clear hq
      go_enter Tryz.func67, Tryz.ntmps67
      go_wp2_with fail
      refine (in_yes _ _ _ _ (by decide) (by decide)).mono ?_
      rintro e w' ⟨rfl, rfl⟩
      go_wp2
      go_ret
      exact ⟨rfl, Ext.refl _⟩
    · have q1 : w.cell? ⟨R, o + 9, none⟩ = some (.string (gnm 9)) := hq 9 (by decide)
      clear hq
      go_enter Tryz.func67, Tryz.ntmps67
      go_wp2_with fail
      refine (in_yes _ _ _ _ (by decide) (by decide)).mono ?_
      rintro e w' ⟨rfl, rfl⟩
      go_wp2
      go_ret
      exact ⟨rfl, Ext.refl _⟩
    · have q1 : w.cell? ⟨R, o + 10, none⟩ = some (.string (gnm 10)) := hq 10 (by decide)
      clear hq
      go_enter Tryz.func67, Tryz.ntmps67
      go_wp2_with fail
      refine (in_yes _ _ _ _ (by decide) (by decide)).mono ?_
      rintro e w' ⟨rfl, rfl⟩
      go_wp2
      go_ret
      exact ⟨rfl, Ext.refl _⟩
    · have q1 : w.cell? ⟨R, o + 11, none⟩ = some (.string (gnm 11)) := hq 11 (by decide)
      clear hq
      go_enter Tryz.func67, Tryz.ntmps67
      go_wp2_with fail
      refine (in_yes _ _ _ _ (by decide) (by decide)).mono ?_
      rintro e w' ⟨rfl, rfl⟩
      go_wp2
      go_ret
      exact ⟨rfl, Ext.refl _⟩
    · have q1 : w.cell? ⟨R, o + 12, none⟩ = some (.string (gnm 12)) := hq 12 (by decide)
      clear hq
      go_enter Tryz.func67, Tryz.ntmps67
      go_wp2_with fail
      refine (in_yes _ _ _ _ (by decide) (by decide)).mono ?_
      rintro e w' ⟨rfl, rfl⟩
      go_wp2
      go_ret
      exact ⟨rfl, Ext.refl _⟩
  · rw [gnm_none (by omega)]
    clear hg
    go_enter Tryz.func67, Tryz.ntmps67
    go_wp2_with fail
    refine (in_no _ _ _ _ (by omega)).mono ?_
    rintro e w' ⟨rfl, rfl⟩
    go_wp2
    go_ret
    exact ⟨rfl, Ext.refl _⟩
end Go.Proofs.YteecjnnompjmiacGreatDoor
