/-
 Helper text (no claim of its own): validity of a gate, by the program and by the reference.
-/
import Derived.Test.YtdjckjfclhjpcaaGreatSeen
import Derived.Test.YtdjckjfclhjpcaaGreatGate
import Derived.Test.YtdjckjfclhjpcaaGreatInt
import Derived.Test.YtdjckjfclhjpcaaGreatArity
namespace Go.Proofs.YtdjckjfclhjpcaaGreat
open Go.ChangeShapes Go.WideShapes Go.ChangeAt Go.RowKit Go.Deep
def qs (g : Gt) : List Int := [g.a, g.b, g.c]
def okI (g : Gt) (n : Int) (i : Nat) (q : Int) : Bool :=
 if ar g.k ≤ i then q == 0 else decide (0 ≤ q) && decide (q ≤ n - 1) && !(((qs g).take i).contains q)
def vg (g : Gt) (n : Int) : Bool := decide (1 ≤ n) && decide (n ≤ 4) && decide (0 < ar g.k) && okI g n 0 g.a && okI g n 1 g.b && okI g n 2 g.c
theorem qs_at {g : Gt} {k : Nat} (h : k < 3) : ∃ q, (qs g)[k]? = some q := by
 rcases (by omega : k = 0 ∨ k = 1 ∨ k = 2) with rfl | rfl | rfl <;> exact ⟨_, rfl⟩
theorem vg_bad {g : Gt} {n : Int} {k : Nat} {q : Int} (h : (qs g)[k]? = some q) (hk : okI g n k q = false) : vg g n = false := by
 have hk3 : k < 3 := by have := (List.getElem?_eq_some_iff.1 h).1; simpa [qs] using this
 rcases (by omega : k = 0 ∨ k = 1 ∨ k = 2) with rfl | rfl | rfl <;> (simp [qs] at h; subst h; unfold vg; simp [hk])
theorem vg_n {g : Gt} {n : Int} (h : n < 1 ∨ 4 < n) : vg g n = false := by
 unfold vg
 rcases h with h | h
 ·have : decide (1 ≤ n) = false := by simp; omega
  simp [this]
 ·have : decide (n ≤ 4) = false := by simp; omega
  simp [this]
theorem vg_0 {g : Gt} {n : Int} (h : ar g.k = 0) : vg g n = false := by
 unfold vg; simp [h]
theorem vg_good {g : Gt} {n : Int} (h1 : 1 ≤ n) (h2 : n ≤ 4) (h3 : 0 < ar g.k) (h : ∀ i q, (qs g)[i]? = some q → okI g n i q = true) : vg g n = true := by
 unfold vg
 rw [h 0 g.a rfl, h 1 g.b rfl, h 2 g.c rfl]
 simp [h1, h2, h3]
end Go.Proofs.YtdjckjfclhjpcaaGreat
