/-
 Helper text (no claim of its own): the decomposition of a gate, by the program and by the reference.
-/
import Derived.Test.YtioimnplhmgbgaaGreatGate
namespace Go.Proofs.YtioimnplhmgbgaaGreat
open Go.ChangeShapes Go.WideShapes Go.ChangeAt Go.RowKit Go.Deep
def g1 (k a : Int) : Gt := ⟨k, a, 0, 0⟩
/-- One for H, none for any other gate. -/
def hct (g : Gt) : Nat := if (g.k == 4) = true then 1 else 0
def hcs (gs : List Gt) : Nat := (gs.map hct).sum
theorem hcs_cons (g : Gt) (gs : List Gt) : hcs (g :: gs) = hct g + hcs gs := by unfold hcs; rw [List.map_cons, List.sum_cons]
theorem hcs_app (gs hs : List Gt) : hcs (gs ++ hs) = hcs gs + hcs hs := by unfold hcs; rw [List.map_append, List.sum_append]
theorem hct_le (g : Gt) : hct g ≤ 1 := by unfold hct; split <;> omega
theorem hcs_le (gs : List Gt) : hcs gs ≤ gs.length := by
 induction gs with
 | nil => exact Nat.le_refl _
 | cons g gs ih => rw [hcs_cons, List.length_cons]; have := hct_le g; omega
theorem hcs_snoc (gs : List Gt) (g : Gt) : hcs (gs ++ [g]) = hcs gs + hct g := by rw [hcs_app, hcs_cons]; rfl
theorem spec_one_any {w0 : World} (a b : Int) (w : World) (hx : Ext w0 w) : Calls Tryz.prog 97 #[.int .i64 a, .int .i64 b] w fun e w' => e = .returned (.agg #[.int .i64 a, .int .i64 b, .int .i64 0, .int .i64 0]) ∧ Ext w0 w' := by
 have H := Lib.hid hx
 clear hx
 go_enter Tryz.func97, Tryz.ntmps97
 go_wp2
 exact bodyPost_ret (v := .agg #[.int .i64 a, .int .i64 b, .int .i64 0, .int .i64 0]) (by simp [results, Tryz.results97, go_sem]) rfl ⟨rfl, H.out.alloc _⟩

theorem spec_cx_any {w0 : World} (a b : Int) (w : World) (hx : Ext w0 w) : Calls Tryz.prog 98 #[.int .i64 a, .int .i64 b] w fun e w' => e = .returned (.agg #[.int .i64 9, .int .i64 a, .int .i64 b, .int .i64 0]) ∧ Ext w0 w' := by
 have H := Lib.hid hx
 clear hx
 go_enter Tryz.func98, Tryz.ntmps98
 go_wp2
 exact bodyPost_ret (v := .agg #[.int .i64 9, .int .i64 a, .int .i64 b, .int .i64 0]) (by simp [results, Tryz.results98, go_sem]) rfl ⟨rfl, H.out.alloc _⟩

end Go.Proofs.YtioimnplhmgbgaaGreat
