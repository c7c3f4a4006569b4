/-
  Helper text (no claim of its own): the decomposition of a gate, by the program and by the reference.
-/
import Derived.Test.YteecjnnompjmiabDoorGate
namespace Go.Proofs.YteecjnnompjmiabDoor
open Go.ChangeShapes Go.WideShapes Go.ChangeAt Go.RowKit Go.Deep
def g1 (k a : Int) : Gt := ⟨k, a, 0, 0⟩
def gcx (a b : Int) : Gt := ⟨9, a, b, 0⟩
def dec (g : Gt) : List Gt :=
  if (g.k == 10) = true then [g1 4 g.b, gcx g.a g.b, g1 4 g.b]
  else if (g.k == 11) = true then [gcx g.a g.b, gcx g.b g.a, gcx g.a g.b]
  else if (g.k == 12) = true then [g1 4 g.c, gcx g.b g.c, g1 8 g.c, gcx g.a g.c, g1 7 g.c, gcx g.b g.c, g1 8 g.c, gcx g.a g.c, g1 7 g.b, g1 7 g.c, g1 4 g.c, gcx g.a g.b, g1 7 g.a, g1 8 g.b, gcx g.a g.b]
  else [g]
theorem dec10 {g : Gt} (h : (g.k == 10) = true) : dec g = [g1 4 g.b, gcx g.a g.b, g1 4 g.b] := if_pos h
theorem dec11 {g : Gt} (h0 : (g.k == 10) = false) (h : (g.k == 11) = true) : dec g = [gcx g.a g.b, gcx g.b g.a, gcx g.a g.b] := by unfold dec; rw [if_neg (by simp [h0]), if_pos h]
theorem dec12 {g : Gt} (h0 : (g.k == 10) = false) (h1 : (g.k == 11) = false) (h : (g.k == 12) = true) : dec g = [g1 4 g.c, gcx g.b g.c, g1 8 g.c, gcx g.a g.c, g1 7 g.c, gcx g.b g.c, g1 8 g.c, gcx g.a g.c] ++ [g1 7 g.b, g1 7 g.c, g1 4 g.c, gcx g.a g.b, g1 7 g.a, g1 8 g.b, gcx g.a g.b] := by unfold dec; rw [if_neg (by simp [h0]), if_neg (by simp [h1]), if_pos h]; rfl
theorem decN {g : Gt} (h0 : (g.k == 10) = false) (h1 : (g.k == 11) = false) (h2 : (g.k == 12) = false) : dec g = [g] := by unfold dec; rw [if_neg (by simp [h0]), if_neg (by simp [h1]), if_neg (by simp [h2])]
theorem dec_len (g : Gt) : (dec g).length ≤ 15 := by unfold dec; split <;> (try split) <;> (try split) <;> simp

end Go.Proofs.YteecjnnompjmiabDoor
