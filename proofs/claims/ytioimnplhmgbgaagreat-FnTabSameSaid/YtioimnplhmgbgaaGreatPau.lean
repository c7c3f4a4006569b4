/-
 Helper text (no claim of its own): products of Paulis, what a Clifford gate makes of them, and tableaux, in plain Lean.
-/
import Derived.Test.YtioimnplhmgbgaaGreatValid
import Derived.Test.YtioimnplhmgbgaaGreatGq
namespace Go.Proofs.YtioimnplhmgbgaaGreat
open Go.ChangeShapes Go.WideShapes Go.ChangeAt Go.RowKit Go.Deep
set_option linter.unusedVariables false
structure Pa where
 n : Int
 x : Int
 z : Int
 p : Int
def P0 : Pa := ⟨0, 0, 0, 0⟩
def pw (q : Int) : Int := 2 ^ q.toNat
def topOf (n : Int) : Int := pw n - 1
def ones (v : Int) : Int := v % 2 + v / 2 % 2 + v / 4 % 2 + v / 8 % 2
def xorI (a b : Int) : Int := bits .xor .i64 a b
def andI (a b : Int) : Int := bits .and .i64 a b
def orI (a b : Int) : Int := bits .or .i64 a b
/-- The bit q of x. -/
def bitI (x q : Int) : Bool := andI (x / 2 ^ q.toNat) 1 == 1
def vPa (p : Pa) : Bool := decide (1 ≤ p.n) && decide (p.n ≤ 4) && (decide (0 ≤ p.x) && decide (p.x ≤ topOf p.n)) && (decide (0 ≤ p.z) && decide (p.z ≤ topOf p.n)) && (decide (0 ≤ p.p) && decide (p.p ≤ 3))
def mulP (a b : Pa) : Pa := ⟨a.n, xorI a.x b.x, xorI a.z b.z, (a.p + b.p + 2 * ones (andI a.z b.x)) % 4⟩
def mulR (a b : Pa) : Pa := if (vPa a && vPa b && a.n == b.n) = true then mulP a b else P0
def comm (a b : Pa) : Bool := (ones (andI a.x b.z) + ones (andI a.z b.x)) % 2 == 0
def herm (p : Pa) : Bool := vPa p && (p.p % 2 == ones (andI p.x p.z) % 2)
def eqP (a b : Pa) : Bool := a.n == b.n && a.x == b.x && a.z == b.z && a.p == b.p
theorem eqP_self (a : Pa) : eqP a a = true := by simp [eqP]
theorem topOf_le {n : Int} (h0 : 1 ≤ n) (h4 : n ≤ 4) : 1 ≤ topOf n ∧ topOf n ≤ 15 := by
 rcases (show n = 1 ∨ n = 2 ∨ n = 3 ∨ n = 4 by omega) with rfl | rfl | rfl | rfl <;> decide
theorem nib (v : Int) (h0 : 0 ≤ v) (h1 : v ≤ 15) : ∃ k : Fin 16, v = (k.val : Int) := ⟨⟨v.toNat, by omega⟩, by simp; omega⟩
theorem and_nib : ∀ a b : Fin 16, 0 ≤ andI a.val b.val ∧ andI a.val b.val ≤ 15 := by decide
theorem andI_nib {a b : Int} (ha : 0 ≤ a ∧ a ≤ 15) (hb : 0 ≤ b ∧ b ≤ 15) : 0 ≤ andI a b ∧ andI a b ≤ 15 := by
 obtain ⟨k, rfl⟩ := nib a ha.1 ha.2
 obtain ⟨m, rfl⟩ := nib b hb.1 hb.2
 exact and_nib k m
theorem ones_le {v : Int} (h0 : 0 ≤ v) (h1 : v ≤ 15) : 0 ≤ ones v ∧ ones v ≤ 4 := by unfold ones; omega
theorem vPa_iff {p : Pa} : vPa p = true ↔ (1 ≤ p.n ∧ p.n ≤ 4) ∧ (0 ≤ p.x ∧ p.x ≤ topOf p.n) ∧ (0 ≤ p.z ∧ p.z ≤ topOf p.n) ∧ (0 ≤ p.p ∧ p.p ≤ 3) := by
 unfold vPa
 simp only [Bool.and_eq_true, decide_eq_true_eq]
 constructor
 ·rintro ⟨⟨⟨⟨a, b⟩, c⟩, d⟩, e⟩; exact ⟨⟨a, b⟩, c, d, e⟩
 ·rintro ⟨⟨a, b⟩, c, d, e⟩; exact ⟨⟨⟨⟨a, b⟩, c⟩, d⟩, e⟩
theorem vPa_no {p : Pa} (h : ¬ ((1 ≤ p.n ∧ p.n ≤ 4) ∧ (0 ≤ p.x ∧ p.x ≤ topOf p.n) ∧ (0 ≤ p.z ∧ p.z ≤ topOf p.n) ∧ (0 ≤ p.p ∧ p.p ≤ 3))) : vPa p = false := by
 cases e : vPa p with
 | false => rfl
 | true => exact absurd (vPa_iff.1 e) h
theorem vPa_nib {p : Pa} (h : vPa p = true) : (0 ≤ p.x ∧ p.x ≤ 15) ∧ (0 ≤ p.z ∧ p.z ≤ 15) ∧ (0 ≤ p.p ∧ p.p ≤ 3) ∧ (1 ≤ p.n ∧ p.n ≤ 4) := by
 obtain ⟨h1, h2, h3, h4⟩ := vPa_iff.1 h
 have := topOf_le h1.1 h1.2
 exact ⟨⟨by omega, by omega⟩, ⟨by omega, by omega⟩, h4, h1⟩
theorem herm_v {p : Pa} (h : herm p = true) : vPa p = true := by unfold herm at h; simp at h; exact h.1
/-- A Clifford gate. -/
def cliff (g : Gt) : Bool := decide (0 < ar g.k) && !(g.k == 7) && !(g.k == 8) && !(g.k == 12)
def isFst (g : Gt) (q : Int) : Bool := q == g.a
def isSnd (g : Gt) (q : Int) : Bool := ar g.k == 2 && q == g.b
/-- What the gate makes of X at q. -/
def imgX (n : Int) (g : Gt) (q : Int) : Pa :=
 if (isFst g q || isSnd g q) = false then ⟨n, pw q, 0, 0⟩
 else if g.k = 2 ∨ g.k = 3 then ⟨n, pw q, 0, 2⟩
 else if g.k = 4 then ⟨n, 0, pw q, 0⟩
 else if g.k = 5 then ⟨n, pw q, pw q, 1⟩
 else if g.k = 6 then ⟨n, pw q, pw q, 3⟩
 else if g.k = 9 then (if isFst g q = true then ⟨n, orI (pw q) (pw g.b), 0, 0⟩ else ⟨n, pw q, 0, 0⟩)
 else if g.k = 10 then ⟨n, pw q, if isFst g q = true then pw g.b else pw g.a, 0⟩
 else if g.k = 11 then ⟨n, if isFst g q = true then pw g.b else pw g.a, 0, 0⟩
 else ⟨n, pw q, 0, 0⟩
/-- What the gate makes of Z at q. -/
def imgZ (n : Int) (g : Gt) (q : Int) : Pa :=
 if (isFst g q || isSnd g q) = false then ⟨n, 0, pw q, 0⟩
 else if g.k = 1 ∨ g.k = 2 then ⟨n, 0, pw q, 2⟩
 else if g.k = 4 then ⟨n, pw q, 0, 0⟩
 else if g.k = 9 then (if isFst g q = true then ⟨n, 0, pw q, 0⟩ else ⟨n, 0, orI (pw q) (pw g.a), 0⟩)
 else if g.k = 11 then ⟨n, 0, if isFst g q = true then pw g.b else pw g.a, 0⟩
 else ⟨n, 0, pw q, 0⟩
/-- One qubit of a conjugation. -/
def cjX (p : Pa) (g : Gt) (q : Int) (o : Pa) : Pa := if bitI p.x q = true then mulR o (imgX p.n g q) else o
def cjZ (p : Pa) (g : Gt) (q : Int) (o : Pa) : Pa := if bitI p.z q = true then mulR o (imgZ p.n g q) else o
def cjN (p : Pa) (g : Gt) : Nat → Pa
 | 0 => ⟨p.n, 0, 0, p.p⟩
 | k + 1 => cjZ p g k (cjX p g k (cjN p g k))
def cjOk (p : Pa) (g : Gt) : Bool := vPa p && vg g p.n && cliff g
def cj (p : Pa) (g : Gt) : Pa := if cjOk p g = true then cjN p g p.n.toNat else P0
/-- The row k of a tableau. -/
def rowOk (n : Int) (rs : List Pa) (k : Nat) : Bool :=
 match rs[k]? with
 | none => true
 | some p => p.n == n && herm p && (List.range k).all fun i => match rs[i]? with
  | none => true
  | some x => comm x p != decide ((k : Int) = i + n)
def vTab (n : Int) (rs : List Pa) : Bool := decide (1 ≤ n) && decide (n ≤ 4) && ((rs.length : Int) == 2 * n) && (List.range rs.length).all (rowOk n rs)
def idT (n : Nat) : List Pa := (List.range n).map (fun q => ⟨n, pw q, 0, 0⟩) ++ (List.range n).map (fun q => ⟨n, 0, pw q, 0⟩)
/-- The rows behind a gate; none where the gate is refused. -/
def tabG (n : Int) (rs : List Pa) (g : Gt) : Option (List Pa) := if (vTab n rs && rs.all fun p => cjOk p g) = true then some (rs.map fun p => cj p g) else none
def tabN (n : Int) (gs : List Gt) : Option (List Pa) := gs.foldl (fun t g => t.bind fun rs => tabG n rs g) (some (idT n.toNat))
end Go.Proofs.YtioimnplhmgbgaaGreat
