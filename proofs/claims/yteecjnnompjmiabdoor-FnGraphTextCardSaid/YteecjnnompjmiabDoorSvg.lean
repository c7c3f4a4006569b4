/-
  Helper text (no claim of its own): validity of a gate, by the reference.
-/
import Derived.Test.YteecjnnompjmiabDoorSval
namespace Go.Proofs.YteecjnnompjmiabDoor
open Go.ChangeShapes Go.WideShapes Go.ChangeAt Go.RowKit Go.Deep
def okS (g : Gt) (m : Int) (i : Nat) (q : Int) : Bool :=
  if ar g.k ≤ i then q == 0 else decide (0 ≤ q) && decide (q ≤ m) && !(hasI ((qus g).take i) q)
theorem okS_hi {g : Gt} {m : Int} {i : Nat} {q : Int} (h : ar g.k ≤ i) : okS g m i q = (q == 0) := if_pos h
theorem okS_lo {g : Gt} {m : Int} {i : Nat} {q : Int} (h : ¬ ar g.k ≤ i) : okS g m i q = (decide (0 ≤ q) && decide (q ≤ m) && !(hasI ((qus g).take i) q)) := if_neg h
theorem okS_out {g : Gt} {m : Int} {i : Nat} {q : Int} (h : ¬ ar g.k ≤ i) (hr : q < 0 ∨ m < q) : okS g m i q = false := by
  rw [okS_lo h]
  rcases hr with hr | hr
  · have e : decide (0 ≤ q) = false := by simp; omega
    simp [e]
  · have e : decide (q ≤ m) = false := by simp; omega
    simp [e]
theorem okS_eq (g : Gt) (n : Int) (i : Nat) (q : Int) : okS g (n - 1) i q = okI g n i q := by
  unfold okS okI
  by_cases h : ar g.k ≤ i
  · rw [if_pos h, if_pos h]
  · rw [if_neg h, if_neg h]
    have e : (qus g).take i = (qs g).take i := by
      unfold qus
      rw [List.take_take, show min i (ar g.k).toNat = i from by omega]
    rw [e]; rfl
theorem w64 (n : Int) : IntKind.i64.wrap n = wrap64 n := by rw [IntKind.wrap_i64]; unfold wrap64; omega
/-- What the reference's loop finds: all three places are right. -/
def vgS (g : Gt) (n : Int) : Bool := decide (0 < ar g.k) && decide (1 ≤ n) && decide (n ≤ 4)
theorem vg_of_bad {g : Gt} {n m : Int} (hm : m = IntKind.i64.wrap (n - 1)) {k : Nat} {q : Int} (hq : (qs g)[k]? = some q) (h : okS g m k q = false) : vg g n = false := by
  by_cases hn : n < 1 ∨ 4 < n
  · exact vg_n hn
  · have e : m = n - 1 := by rw [hm]; exact IntWalk.i64_in _ (by omega)
    subst e
    exact vg_bad hq (by rw [← okS_eq]; exact h)
theorem vg_of_good {g : Gt} {n m : Int} (hm : m = IntKind.i64.wrap (n - 1)) (h : ∀ i q, (qs g)[i]? = some q → okS g m i q = true) : vg g n = vgS g n := by
  unfold vgS
  by_cases hn : n < 1 ∨ 4 < n
  · rw [vg_n hn]
    rcases hn with hn | hn
    · have e : decide (1 ≤ n) = false := by simp; omega
      simp [e]
    · have e : decide (n ≤ 4) = false := by simp; omega
      simp [e]
  · have e : m = n - 1 := by rw [hm]; exact IntWalk.i64_in _ (by omega)
    subst e
    by_cases h0 : 0 < ar g.k
    · rw [vg_good (by omega) (by omega) h0 (fun i q hq => by rw [← okS_eq]; exact h i q hq)]
      have e1 : decide (1 ≤ n) = true := by simp; omega
      have e2 : decide (n ≤ 4) = true := by simp; omega
      simp [e1, e2, h0]
    · have h1 := ar_range g.k
      rw [vg_0 (by omega)]
      simp [h0]

end Go.Proofs.YteecjnnompjmiabDoor
