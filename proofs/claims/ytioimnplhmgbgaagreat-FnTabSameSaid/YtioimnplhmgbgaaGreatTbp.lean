/-
 Helper text (no claim of its own): validity of a tableau: plain facts. Printed by gen_tb.py.
-/
import Derived.Test.YtioimnplhmgbgaaGreatTbe
namespace Go.Proofs.YtioimnplhmgbgaaGreat
open Go.ChangeShapes Go.WideShapes Go.ChangeAt Go.RowKit Go.Deep
set_option linter.unusedVariables false
theorem vTab_n {n : Int} {rs : List Pa} (h : n < 1 ∨ 4 < n) : vTab n rs = false := by
 unfold vTab
 rcases h with h | h
 ·rw [decide_eq_false (by omega : ¬ 1 ≤ n)]; simp
 ·rw [decide_eq_false (by omega : ¬ n ≤ 4)]; simp
theorem vTab_l {n : Int} {rs : List Pa} (h : ((rs.length : Int) == 2 * n) = false) : vTab n rs = false := by
 unfold vTab; rw [h]; simp
theorem vTab_bad {n : Int} {rs : List Pa} {k : Nat} (hk : k < rs.length) (h : rowOk n rs k = false) : vTab n rs = false := by
 unfold vTab
 have : (List.range rs.length).all (rowOk n rs) = false := by
  rw [List.all_eq_false]
  exact ⟨k, by simpa using hk, by simp [h]⟩
 rw [this, Bool.and_false]
theorem vTab_good {n : Int} {rs : List Pa} (h1 : 1 ≤ n) (h4 : n ≤ 4) (hl : ((rs.length : Int) == 2 * n) = true) (h : ∀ k, k < rs.length → rowOk n rs k = true) : vTab n rs = true := by
 unfold vTab
 have : (List.range rs.length).all (rowOk n rs) = true := by
  rw [List.all_eq_true]
  intro k hk
  exact h k (by simpa using hk)
 rw [this, hl]; simp [h1, h4]
theorem rowOk_n {n : Int} {rs : List Pa} {k : Nat} {p : Pa} (hp : rs[k]? = some p) (h : (p.n == n) = false) : rowOk n rs k = false := by
 unfold rowOk; rw [hp]; simp only [h, Bool.false_and]
theorem rowOk_h {n : Int} {rs : List Pa} {k : Nat} {p : Pa} (hp : rs[k]? = some p) (h : herm p = false) : rowOk n rs k = false := by
 unfold rowOk; rw [hp]; simp only [h, Bool.false_and, Bool.and_false]
theorem rowOk_pair {n : Int} {rs : List Pa} {k i : Nat} {p x : Pa} (hp : rs[k]? = some p) (hi : i < k) (hx : rs[i]? = some x) (h : comm x p = ((k : Int) == (i : Int) + n)) : rowOk n rs k = false := by
 unfold rowOk; rw [hp]
 refine (Bool.and_eq_false_iff.2 (Or.inr ?_))
 rw [List.all_eq_false]
 refine ⟨i, by simpa using hi, ?_⟩
 rw [hx]
 simp only
 rw [h]
 by_cases e : (k : Int) = i + n
 ·rw [decide_eq_true e, beq_iff_eq.2 e]; decide
 ·rw [decide_eq_false e, beq_eq_false_iff_ne.2 e]; decide
theorem rowOk_good {n : Int} {rs : List Pa} {k : Nat} {p : Pa} (hp : rs[k]? = some p) (hn : (p.n == n) = true) (hh : herm p = true) (h : ∀ (i : Nat) (x : Pa), i < k → rs[i]? = some x → comm x p = !((k : Int) == (i : Int) + n)) : rowOk n rs k = true := by
 unfold rowOk; rw [hp]
 simp only [hn, hh, Bool.true_and]
 rw [List.all_eq_true]
 intro i hi
 cases hx : rs[i]? with
 | none => rfl
 | some x =>
  simp only
  rw [h i x (by simpa using hi) hx]
  by_cases e : (k : Int) = i + n
  ·rw [decide_eq_true e, beq_iff_eq.2 e]; decide
  ·rw [decide_eq_false e, beq_eq_false_iff_ne.2 e]; decide
theorem rowOk_v {n : Int} {rs : List Pa} {k : Nat} {p : Pa} (hp : rs[k]? = some p) (h : rowOk n rs k = true) : vPa p = true := by
 apply herm_v
 cases e : herm p with
 | true => rfl
 | false => rw [rowOk_h hp e] at h; cases h
theorem row_at {w : World} {B b o l i : Nat} {rs : List Pa} (h : Rd w B 4 (some ⟨b, o, none⟩) l (pcells rs)) (hi : i < l) {x : Pa} (hx : rs[i]? = some x) :
  w.cell? ⟨b, o + i * 4, none⟩ = some (.int .i64 x.n) ∧ w.cell? ⟨b, o + i * 4 + 1, none⟩ = some (.int .i64 x.x) ∧ w.cell? ⟨b, o + i * 4 + 2, none⟩ = some (.int .i64 x.z) ∧ w.cell? ⟨b, o + i * 4 + 3, none⟩ = some (.int .i64 x.p) := by
 obtain ⟨b', o', x', he, -, hx', hc⟩ := pauli_at h hi
 simp only [Option.some.injEq, Addr.mk.injEq] at he
 obtain ⟨rfl, rfl, -⟩ := he
 rw [hx] at hx'
 obtain rfl := Option.some.inj hx'
 exact hc
end Go.Proofs.YtioimnplhmgbgaaGreat
