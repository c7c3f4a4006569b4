/-
  Helper text (no claim of its own): validity of a gate, by the program and by the reference.
-/
import Derived.Test.YtgnijfmgfpckeaaSeen
import Derived.Test.YtgnijfmgfpckeaaGate
import Derived.Test.YtgnijfmgfpckeaaInt
import Derived.Test.YtgnijfmgfpckeaaArity
namespace Go.Proofs.Ytgnijfmgfpckeaa
open Go.ChangeShapes Go.WideShapes Go.ChangeAt Go.RowKit Go.Deep
def qs (g : Gt) : List Int := [g.a, g.b, g.c]
def okI (g : Gt) (n : Int) (i : Nat) (q : Int) : Bool :=
  if ar g.k ≤ i then q == 0 else decide (0 ≤ q) && decide (q ≤ n - 1) && !(((qs g).take i).contains q)
def vg (g : Gt) (n : Int) : Bool := decide (1 ≤ n) && decide (n ≤ 4) && decide (0 < ar g.k) && okI g n 0 g.a && okI g n 1 g.b && okI g n 2 g.c
theorem qs_at {g : Gt} {k : Nat} (h : k < 3) : ∃ q, (qs g)[k]? = some q := by
  rcases (by omega : k = 0 ∨ k = 1 ∨ k = 2) with rfl | rfl | rfl <;> exact ⟨_, rfl⟩
theorem vg_bad {g : Gt} {n : Int} {k : Nat} {q : Int} (h : (qs g)[k]? = some q) (hk : okI g n k q = false) : vg g n = false := by
  have hk3 : k < 3 := by have := (List.getElem?_eq_some_iff.1 h).1; simpa [qs] using this
  rcases (by omega : k = 0 ∨ k = 1 ∨ k = 2) with rfl | rfl | rfl <;> (simp [qs] at h; subst h; unfold vg; simp [hk])
theorem vg_n {g : Gt} {n : Int} (h : n < 1 ∨ 4 < n) : vg g n = false := by
  unfold vg
  rcases h with h | h
  · have : decide (1 ≤ n) = false := by simp; omega
    simp [this]
  · have : decide (n ≤ 4) = false := by simp; omega
    simp [this]
theorem vg_0 {g : Gt} {n : Int} (h : ar g.k = 0) : vg g n = false := by
  unfold vg; simp [h]
theorem vg_good {g : Gt} {n : Int} (h1 : 1 ≤ n) (h2 : n ≤ 4) (h3 : 0 < ar g.k) (h : ∀ i q, (qs g)[i]? = some q → okI g n i q = true) : vg g n = true := by
  unfold vg
  rw [h 0 g.a rfl, h 1 g.b rfl, h 2 g.c rfl]
  simp [h1, h2, h3]
theorem okI_hi {g : Gt} {n : Int} {i : Nat} {q : Int} (h : ar g.k ≤ i) : okI g n i q = (q == 0) := if_pos h
theorem okI_lo {g : Gt} {n : Int} {i : Nat} {q : Int} (h : ¬ ar g.k ≤ i) : okI g n i q = (decide (0 ≤ q) && decide (q ≤ n - 1) && !(((qs g).take i).contains q)) := if_neg h
theorem okI_out {g : Gt} {n : Int} {i : Nat} {q : Int} (h : ¬ ar g.k ≤ i) (hr : q < 0 ∨ n - 1 < q) : okI g n i q = false := by
  rw [okI_lo h]
  rcases hr with hr | hr
  · have e : decide (0 ≤ q) = false := by simp; omega
    simp [e]
  · have e : decide (q ≤ n - 1) = false := by simp; omega
    simp [e]
/-- The qubits seen before round k. -/
def seenK (g : Gt) (k : Nat) (x : Int) : Bool := ((qs g).take (min k (ar g.k).toNat)).contains x
theorem seenK_hi {g : Gt} {k : Nat} (h : ar g.k ≤ k) : seenK g (k + 1) = seenK g k := by
  funext x
  unfold seenK
  rw [show min (k + 1) (ar g.k).toNat = min k (ar g.k).toNat from by omega]
theorem seenK_lo {g : Gt} {k : Nat} {q : Int} (h : ¬ ar g.k ≤ k) (hq : (qs g)[k]? = some q) : seenK g (k + 1) = fun z => z == q || seenK g k z := by
  funext x
  unfold seenK
  rw [show min (k + 1) (ar g.k).toNat = k + 1 from by omega, show min k (ar g.k).toNat = k from by omega, take_snoc hq]
  rw [Bool.eq_iff_iff]
  simp
  constructor
  · rintro (h | h)
    · exact .inr h
    · exact .inl h
  · rintro (h | h)
    · exact .inr h
    · exact .inl h
theorem seenK_take {g : Gt} {k : Nat} (h : ¬ ar g.k ≤ k) (x : Int) : seenK g k x = ((qs g).take k).contains x := by
  unfold seenK
  rw [show min k (ar g.k).toNat = k from by omega]

end Go.Proofs.Ytgnijfmgfpckeaa
