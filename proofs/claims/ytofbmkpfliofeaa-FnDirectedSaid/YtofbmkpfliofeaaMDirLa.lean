/-
  Helper text (no claim of its own): a shortest path by the program.
-/
import Derived.Test.YtofbmkpfliofeaaDrawF
import Derived.Test.YtofbmkpfliofeaaExe
import Derived.Test.YtofbmkpfliofeaaOrs
import Derived.Test.YtofbmkpfliofeaaGr
import Derived.Test.YtofbmkpfliofeaaSvg
import Derived.Test.YtofbmkpfliofeaaSeen
import Derived.Test.YtofbmkpfliofeaaEdge
import Derived.DeepKeys4
import Derived.Test.YtofbmkpfliofeaaGate
import Derived.Test.YtofbmkpfliofeaaInt
import Derived.Laws.StructEq
import Derived.Test.YtofbmkpfliofeaaDec
/-
  Helper text (no claim of its own): drawn circuits, bent. Only that they return, and what their results are made of.
-/
namespace Go.Proofs.Ytofbmkpfliofeaa
open Go.ChangeShapes Go.WideShapes Go.ChangeAt Go.RowKit Go.Deep
theorem l1Max_no (a b : Int) (w : World) (h : ¬ b < a) : Calls Try.prog 82 #[.int .i64 a, .int .i64 b] w fun e w' => e = .returned (.int .i64 b) ∧ w = w' := by
  have := l1Max_any a b w
  rwa [if_neg h] at this
theorem DC.done {w W : World} {g s : Nat} {N : Int} {A : Option Addr} {len cap : Nat} {gs : List Gt} (h : DC w W g s N A len cap gs) (hl : g < w.heap.size) :
    ((W.setCell ⟨w.heap.size, 0, none⟩ (.int .i64 N)).setCell ⟨w.heap.size, 1, none⟩ (.slice A len cap)).ownsRow w.heap.size 37 4 (.slice A len cap) len (gcells gs) ∧ Cur ((W.setCell ⟨w.heap.size, 0, none⟩ (.int .i64 N)).setCell ⟨w.heap.size, 1, none⟩ (.slice A len cap)) g ∧ w.grownBy ((W.setCell ⟨w.heap.size, 0, none⟩ (.int .i64 N)).setCell ⟨w.heap.size, 1, none⟩ (.slice A len cap)) (some g) :=
  ⟨own_base (own_set (own_set h.2.2.1 (p := ⟨w.heap.size, 0, none⟩) (by simp) _) (p := ⟨w.heap.size, 1, none⟩) (by simp) _) (by omega), Cur.set2 h.2.2.2.2.1 hl _ _, gr_set2 h.2.2.2.2.2 (Nat.le_refl _) _ _⟩
def lenAt (w : World) (s : Nat) : Nat := match w.cell? ⟨s, 1, none⟩ with | some (.slice _ n _) => n | _ => 0
theorem lenAt_blk {w : World} {s t : Nat} {a : Value} {A : Option Addr} {n c : Nat} (h : Blk w s t #[a, .slice A n c]) : lenAt w s = n := by
  have : w.cell? ⟨s, 1, none⟩ = some (.slice A n c) := h.cell 1
  unfold lenAt
  rw [this]
/-- What a drawn circuit is. -/
def DrewCirc (w : World) (g most : Nat) (e : Ending) (w' : World) : Prop :=
  ∃ (N : Int) (A : Option Addr) (len cap : Nat) (gs : List Gt), e = .returned (.agg #[.int .i64 N, .slice A len cap]) ∧ (-1 ≤ N ∧ N ≤ 5) ∧ len ≤ most + 61 ∧ w'.ownsRow w.heap.size 37 4 (.slice A len cap) len (gcells gs) ∧ Cur w' g ∧ w.grownBy w' (some g)
theorem DrewCirc.mk {w w' : World} {g most : Nat} (N : Int) (A : Option Addr) (len cap : Nat) (gs : List Gt) (h1 : -1 ≤ N ∧ N ≤ 5) (h2 : len ≤ most + 61) (h3 : w'.ownsRow w.heap.size 37 4 (.slice A len cap) len (gcells gs) ∧ Cur w' g ∧ w.grownBy w' (some g)) : DrewCirc w g most (.returned (.agg #[.int .i64 N, .slice A len cap])) w' :=
  ⟨N, A, len, cap, gs, rfl, h1, h2, h3⟩
end Go.Proofs.Ytofbmkpfliofeaa
/-
  Helper text (no claim of its own): distances in a graph, as the program and as the reference find them (plain Lean).
-/
namespace Go.Proofs.Ytofbmkpfliofeaa
open Go.ChangeShapes Go.WideShapes Go.ChangeAt Go.RowKit Go.Deep
namespace Dist
section
variable (adj : Int → Int → Bool) (n : Nat)
/-- Which vertices are reached from a by at most s steps. -/
def lvl (a : Int) : Nat → Int → Bool
  | 0, y => y == a
  | s + 1, y => lvl a s y || (List.range n).any fun x => lvl a s (x : Int) && adj (x : Int) y
/-- The least number of steps, below n; -1 where there is none. -/
def gdist (a b : Int) : Int := match (List.range n).find? fun s => lvl adj n a s b with
  | some s => (s : Int)
  | none => -1
end
section
variable {adj : Int → Int → Bool} {n : Nat} {a b : Int}
theorem lvl_succ {s : Nat} {y : Int} : lvl adj n a (s + 1) y = true ↔ lvl adj n a s y = true ∨ ∃ x : Nat, x < n ∧ lvl adj n a s (x : Int) = true ∧ adj (x : Int) y = true := by
  rw [lvl, Bool.or_eq_true, List.any_eq_true]
  simp
theorem lvl_mono1 {s : Nat} {y : Int} (h : lvl adj n a s y = true) : lvl adj n a (s + 1) y = true := lvl_succ.2 (.inl h)
theorem lvl_mono {s t : Nat} {y : Int} (hst : s ≤ t) (h : lvl adj n a s y = true) : lvl adj n a t y = true := by
  induction hst with
  | refl => exact h
  | step _ ih => exact lvl_mono1 ih
theorem gdist_some {s : Nat} (hs : s < n) (h : lvl adj n a s b = true) (h0 : ∀ t, t < s → lvl adj n a t b = false) : gdist adj n a b = s := by
  have : (List.range n).find? (fun s => lvl adj n a s b) = some s := by
    rw [List.find?_range_eq_some]
    exact ⟨h, by simpa using hs, fun j hj => by simp [h0 j hj]⟩
  unfold gdist
  rw [this]
theorem gdist_none (h : ∀ t, t < n → lvl adj n a t b = false) : gdist adj n a b = -1 := by
  have : (List.range n).find? (fun s => lvl adj n a s b) = none := by
    rw [List.find?_eq_none]
    intro x hx
    simp at hx
    simp [h x hx]
  unfold gdist
  rw [this]
/-- A least number exists. -/
theorem least {p : Nat → Bool} : ∀ {m : Nat}, p m = true → ∃ s, s ≤ m ∧ p s = true ∧ ∀ t, t < s → p t = false
  | 0, h => ⟨0, Nat.le_refl _, h, fun t ht => absurd ht (by omega)⟩
  | m + 1, h => by
    by_cases hx : ∃ t, t ≤ m ∧ p t = true
    · obtain ⟨t, ht, hp⟩ := hx
      obtain ⟨s, hs, h1, h2⟩ := least hp
      exact ⟨s, by omega, h1, h2⟩
    · refine ⟨m + 1, Nat.le_refl _, h, fun t ht => ?_⟩
      cases hp : p t
      · rfl
      · exact absurd ⟨t, by omega, hp⟩ hx
theorem gdist_range (adj : Int → Int → Bool) (n : Nat) (a b : Int) : -1 ≤ gdist adj n a b ∧ gdist adj n a b ≤ n := by
  unfold gdist
  split
  · rename_i s h
    have := List.mem_of_find?_eq_some h
    simp at this
    omega
  · omega
theorem gdist_lvl {s : Nat} (h : gdist adj n a b = s) : s < n ∧ lvl adj n a s b = true ∧ ∀ t, t < s → lvl adj n a t b = false := by
  by_cases hx : ∃ t, t < n ∧ lvl adj n a t b = true
  · obtain ⟨t, ht, hp⟩ := hx
    obtain ⟨u, hu, h1, h2⟩ := least (p := fun t => lvl adj n a t b) hp
    have e := gdist_some (by omega : u < n) h1 h2
    rw [e] at h
    have : u = s := by omega
    subst this
    exact ⟨by omega, h1, h2⟩
  · have e := gdist_none (adj := adj) (n := n) (a := a) (b := b) (fun t ht => by
      cases hp : lvl adj n a t b
      · rfl
      · exact absurd ⟨t, ht, hp⟩ hx)
    omega
theorem gdist_self (hn : 0 < n) (ha : a = b) : gdist adj n a b = 0 := by
  subst ha
  exact gdist_some (s := 0) hn (by simp [lvl]) (fun t ht => absurd ht (Nat.not_lt_zero t))
/-! ### The first step of a way -/
theorem lvl_front {i : Nat} (hi : i < n) : ∀ {s : Nat} {j : Nat}, j < n → (lvl adj n (i : Int) (s + 1) (j : Int) = true ↔ lvl adj n (i : Int) s (j : Int) = true ∨ ∃ k : Nat, k < n ∧ adj (i : Int) (k : Int) = true ∧ lvl adj n (k : Int) s (j : Int) = true)
  | 0, j, hj => by
    rw [lvl_succ]
    constructor
    · rintro (h | ⟨x, hx, h1, h2⟩)
      · exact .inl h
      · simp [lvl] at h1
        have : x = i := by omega
        subst this
        exact .inr ⟨j, hj, h2, by simp [lvl]⟩
    · rintro (h | ⟨k, hk, h1, h2⟩)
      · exact .inl h
      · simp [lvl] at h2
        have : k = j := by omega
        subst this
        exact .inr ⟨i, hi, by simp [lvl], h1⟩
  | s + 1, j, hj => by
    rw [lvl_succ]
    constructor
    · rintro (h | ⟨x, hx, h1, h2⟩)
      · exact .inl h
      · rcases (lvl_front hi hx).1 h1 with h | ⟨k, hk, h3, h4⟩
        · exact .inl (lvl_succ.2 (.inr ⟨x, hx, h, h2⟩))
        · exact .inr ⟨k, hk, h3, lvl_succ.2 (.inr ⟨x, hx, h4, h2⟩)⟩
    · rintro (h | ⟨k, hk, h1, h2⟩)
      · exact .inl h
      · rcases lvl_succ.1 h2 with h | ⟨x, hx, h3, h4⟩
        · exact .inl ((lvl_front hi hj).2 (.inr ⟨k, hk, h1, h⟩))
        · exact .inr ⟨x, hx, (lvl_front hi hx).2 (.inr ⟨k, hk, h1, h3⟩), h4⟩
/-- A vertex that is d + 1 away has a neighbour that is d away. -/
theorem gdist_step {i j d : Nat} (hi : i < n) (hj : j < n) (h : gdist adj n (i : Int) (j : Int) = ((d + 1 : Nat) : Int)) : ∃ k : Nat, k < n ∧ adj (i : Int) (k : Int) = true ∧ gdist adj n (k : Int) (j : Int) = (d : Int) := by
  obtain ⟨h1, h2, h3⟩ := gdist_lvl h
  rcases (lvl_front hi hj).1 h2 with h4 | ⟨k, hk, h4, h5⟩
  · rw [h3 d (by omega)] at h4
    cases h4
  · refine ⟨k, hk, h4, gdist_some (by omega) h5 (fun t ht => ?_)⟩
    cases hp : lvl adj n (k : Int) t (j : Int)
    · rfl
    · have := (lvl_front hi hj).2 (.inr ⟨k, hk, h4, hp⟩)
      rw [h3 (t + 1) (by omega)] at this
      cases this
/-! ### No way is longer than there are vertices -/
theorem countP_lt {α : Type} {p q : α → Bool} : ∀ {l : List α}, (∀ x ∈ l, p x = true → q x = true) → (∃ x ∈ l, q x = true ∧ p x = false) → l.countP p < l.countP q
  | [], _, ⟨_, h, _⟩ => by simp at h
  | y :: l, hm, ⟨x, hx, hq, hp⟩ => by
    have hle : l.countP p ≤ l.countP q := List.countP_mono_left (fun z hz => hm z (by simp [hz]))
    rcases List.mem_cons.1 hx with rfl | hx
    · rw [List.countP_cons_of_neg (by simp [hp]), List.countP_cons_of_pos hq]; omega
    · have ih := countP_lt (fun z hz => hm z (by simp [hz])) ⟨x, hx, hq, hp⟩
      cases h : p y
      · rw [List.countP_cons_of_neg (by simp [h])]
        have := List.countP_le_length (p := q) (l := l)
        cases h' : q y
        · rw [List.countP_cons_of_neg (by simp [h'])]; exact ih
        · rw [List.countP_cons_of_pos h']; omega
      · rw [List.countP_cons_of_pos h, List.countP_cons_of_pos (hm y (by simp) h)]; omega
theorem lvl_prev {s : Nat} {y : Int} (h : lvl adj n a (s + 1 + 1) y = true) (h0 : lvl adj n a (s + 1) y = false) : ∃ x : Nat, x < n ∧ lvl adj n a (s + 1) (x : Int) = true ∧ lvl adj n a s (x : Int) = false := by
  rcases lvl_succ.1 h with h1 | ⟨x, hx, h1, h2⟩
  · rw [h0] at h1; cases h1
  · refine ⟨x, hx, h1, ?_⟩
    cases hp : lvl adj n a s (x : Int)
    · rfl
    · rw [lvl_succ.2 (.inr ⟨x, hx, hp, h2⟩)] at h0; cases h0
theorem lvl_new : ∀ {s : Nat} {y : Int}, lvl adj n a (s + 1) y = true → lvl adj n a s y = false → ∀ u, u < s → ∃ x : Nat, x < n ∧ lvl adj n a (u + 1) (x : Int) = true ∧ lvl adj n a u (x : Int) = false
  | 0, _, _, _, u, hu => absurd hu (by omega)
  | s + 1, y, h, h0, u, hu => by
    obtain ⟨x, hx, h1, h2⟩ := lvl_prev h h0
    by_cases e : u = s
    · subst e; exact ⟨x, hx, h1, h2⟩
    · exact lvl_new h1 h2 u (by omega)
theorem lvl_count {i t : Nat} (hi : i < n) (h : ∀ u, u < t → ∃ x : Nat, x < n ∧ lvl adj n (i : Int) (u + 1) (x : Int) = true ∧ lvl adj n (i : Int) u (x : Int) = false) : t + 1 ≤ (List.range n).countP fun x : Nat => lvl adj n (i : Int) t (x : Int) := by
  induction t with
  | zero =>
    have : 0 < (List.range n).countP fun x : Nat => lvl adj n (i : Int) 0 (x : Int) := List.countP_pos_iff.2 ⟨i, by simpa using hi, by simp [lvl]⟩
    omega
  | succ t ih =>
    have h1 := ih (fun u hu => h u (by omega))
    obtain ⟨x, hx, h2, h3⟩ := h t (by omega)
    have := countP_lt (l := List.range n) (p := fun x : Nat => lvl adj n (i : Int) t (x : Int)) (q := fun x : Nat => lvl adj n (i : Int) (t + 1) (x : Int)) (fun z _ hz => lvl_mono1 hz) ⟨x, by simpa using hx, h2, h3⟩
    omega
/-- What is first reached by t steps shows that there are more than t vertices. -/
theorem lvl_lt {i t y : Nat} (hi : i < n) (hy : y < n) (h : lvl adj n (i : Int) t (y : Int) = true) (h0 : ∀ u, u < t → lvl adj n (i : Int) u (y : Int) = false) : t < n := by
  cases t with
  | zero => omega
  | succ t =>
    have h1 := lvl_new h (h0 t (by omega))
    have h2 : ∀ u, u < t + 1 → ∃ x : Nat, x < n ∧ lvl adj n (i : Int) (u + 1) (x : Int) = true ∧ lvl adj n (i : Int) u (x : Int) = false := fun u hu => by
      by_cases e : u = t
      · subst e; exact ⟨y, hy, h, h0 u (by omega)⟩
      · exact h1 u (by omega)
    have h3 := lvl_count hi h2
    have h4 := List.countP_le_length (p := fun x : Nat => lvl adj n (i : Int) (t + 1) (x : Int)) (l := List.range n)
    rw [List.length_range] at h4
    omega
end

/-! ### As the program finds them -/
section
variable (adj : Int → Int → Bool) (n : Nat)
def pCell (s x y : Nat) (R : Nat → Int) : Nat → Int := fun z => if z = y ∧ R x = (s : Int) ∧ R y < 0 ∧ adj (x : Int) (y : Int) = true then (s : Int) + 1 else R z
def pY (s x : Nat) (R : Nat → Int) : Nat → (Nat → Int)
  | 0 => R
  | y + 1 => pCell adj s x y (pY s x R y)
def pX (s : Nat) (R : Nat → Int) : Nat → (Nat → Int)
  | 0 => R
  | x + 1 => pY adj s x (pX s R x) n
def pS (a : Nat) : Nat → (Nat → Int)
  | 0 => fun z => if z = a then 0 else -1
  | s + 1 => pX adj n s (pS a s) n
end
section
variable {adj : Int → Int → Bool} {n : Nat}
/-- The state within a round s, begun with R0, before the place (x, y). -/
def Q (adj : Int → Int → Bool) (n s : Nat) (R0 : Nat → Int) (x y : Nat) (R : Nat → Int) : Prop :=
  ∀ z, z < n → (0 ≤ R0 z → R z = R0 z) ∧ (R0 z < 0 → (R z = (s : Int) + 1 ∧ ∃ x' : Nat, x' < n ∧ R0 x' = (s : Int) ∧ adj (x' : Int) (z : Int) = true) ∨ (R z = R0 z ∧ ∀ x' : Nat, x' < x ∨ (x' = x ∧ z < y) → ¬ (R0 x' = (s : Int) ∧ adj (x' : Int) (z : Int) = true)))
theorem Q.cell {s x y : Nat} {R0 R : Nat → Int} (hx : x < n) (hy : y < n) (h : Q adj n s R0 x y R) : Q adj n s R0 x (y + 1) (pCell adj s x y R) := by
  intro z hz
  have hRx : R x = (s : Int) ↔ R0 x = (s : Int) := by
    rcases Int.lt_or_le (R0 x) 0 with hneg | hpos
    · rcases (h x hx).2 hneg with ⟨e, _⟩ | ⟨e, _⟩ <;> omega
    · rw [(h x hx).1 hpos]
  have hRy : R y < 0 → R0 y < 0 ∧ R y = R0 y := fun hlt => by
    rcases Int.lt_or_le (R0 y) 0 with hneg | hpos
    · rcases (h y hy).2 hneg with ⟨e, _⟩ | ⟨e, _⟩
      · omega
      · exact ⟨hneg, e⟩
    · have := (h y hy).1 hpos; omega
  unfold pCell
  by_cases hc : z = y ∧ R x = (s : Int) ∧ R y < 0 ∧ adj (x : Int) (y : Int) = true
  · rw [if_pos hc]
    obtain ⟨rfl, h1, h2, h3⟩ := hc
    have h4 := hRy h2
    exact ⟨fun h0 => by omega, fun _ => .inl ⟨rfl, x, hx, hRx.1 h1, h3⟩⟩
  · rw [if_neg hc]
    refine ⟨(h z hz).1, fun hneg => ?_⟩
    rcases (h z hz).2 hneg with h1 | ⟨h1, h2⟩
    · exact .inl h1
    · refine .inr ⟨h1, fun x' hx' => ?_⟩
      by_cases e : x' = x ∧ z = y
      · obtain ⟨rfl, rfl⟩ := e
        rintro ⟨h5, h6⟩
        exact hc ⟨rfl, hRx.2 h5, by omega, h6⟩
      · refine h2 x' ?_
        omega
theorem Q.row {s x : Nat} {R0 R : Nat → Int} (hx : x < n) (h : Q adj n s R0 x 0 R) : ∀ y, y ≤ n → Q adj n s R0 x y (pY adj s x R y)
  | 0, _ => h
  | y + 1, hy => (Q.row hx h y (by omega)).cell hx (by omega)
theorem Q.next {s x : Nat} {R0 R : Nat → Int} (h : Q adj n s R0 x n R) : Q adj n s R0 (x + 1) 0 R := by
  intro z hz
  refine ⟨(h z hz).1, fun hneg => ?_⟩
  rcases (h z hz).2 hneg with h1 | ⟨h1, h2⟩
  · exact .inl h1
  · exact .inr ⟨h1, fun x' hx' => h2 x' (by omega)⟩
theorem Q.start (adj : Int → Int → Bool) (n s : Nat) (R0 : Nat → Int) : Q adj n s R0 0 0 R0 := fun z _ => ⟨fun _ => rfl, fun _ => .inr ⟨rfl, fun x' hx' => by omega⟩⟩
theorem Q.all {s : Nat} (R0 : Nat → Int) : ∀ x, x ≤ n → Q adj n s R0 x 0 (pX adj n s R0 x)
  | 0, _ => Q.start _ _ _ _
  | x + 1, hx => ((Q.all R0 x (by omega)).row (by omega) n (Nat.le_refl _)).next
/-- What the row of numbers says after s rounds. -/
def Far (adj : Int → Int → Bool) (n : Nat) (a : Int) (s : Nat) (R : Nat → Int) : Prop :=
  ∀ z, z < n → (R z = -1 ∧ lvl adj n a s (z : Int) = false) ∨ ∃ t : Nat, t ≤ s ∧ R z = (t : Int) ∧ lvl adj n a t (z : Int) = true ∧ ∀ u, u < t → lvl adj n a u (z : Int) = false
theorem Far.start (adj : Int → Int → Bool) (n a : Nat) : Far adj n (a : Int) 0 (pS adj n a 0) := by
  intro z hz
  unfold pS
  by_cases e : z = a
  · rw [if_pos e]
    exact .inr ⟨0, Nat.le_refl _, rfl, by simp [lvl, e], fun u hu => absurd hu (by omega)⟩
  · rw [if_neg e]
    exact .inl ⟨rfl, by simp [lvl]; omega⟩
theorem Far.step {a : Int} {s : Nat} {R : Nat → Int} (h : Far adj n a s R) : Far adj n a (s + 1) (pX adj n s R n) := by
  have hQ := Q.all (adj := adj) (s := s) R n (Nat.le_refl n)
  have hval : ∀ x, x < n → (R x = (s : Int) ↔ lvl adj n a s (x : Int) = true ∧ ∀ u, u < s → lvl adj n a u (x : Int) = false) := fun x hx => by
    rcases h x hx with ⟨e, h1⟩ | ⟨t, ht, e, h1, h2⟩
    · exact ⟨fun h' => by omega, fun h' => by rw [h'.1] at h1; cases h1⟩
    · constructor
      · intro h'
        have : t = s := by omega
        subst this
        exact ⟨h1, h2⟩
      · intro h'
        have : t = s := by
          rcases Nat.lt_or_ge t s with hlt | hge
          · rw [h'.2 t hlt] at h1; cases h1
          · omega
        omega
  intro z hz
  rcases h z hz with ⟨e, h1⟩ | ⟨t, ht, e, h1, h2⟩
  · rcases (hQ z hz).2 (by omega) with ⟨h3, x, hx, h4, h5⟩ | ⟨h3, h4⟩
    · refine .inr ⟨s + 1, Nat.le_refl _, by rw [h3]; omega, lvl_succ.2 (.inr ⟨x, hx, ((hval x hx).1 h4).1, h5⟩), fun u hu => ?_⟩
      cases hp : lvl adj n a u (z : Int)
      · rfl
      · rw [lvl_mono (by omega : u ≤ s) hp] at h1; cases h1
    · refine .inl ⟨by rw [h3, e], ?_⟩
      cases hp : lvl adj n a (s + 1) (z : Int)
      · rfl
      · rcases lvl_succ.1 hp with h5 | ⟨x, hx, h5, h6⟩
        · rw [h1] at h5; cases h5
        · refine absurd ⟨(hval x hx).2 ⟨h5, fun u hu => ?_⟩, h6⟩ (h4 x (.inl hx))
          cases hq : lvl adj n a u (x : Int)
          · rfl
          · rw [lvl_mono (by omega : u + 1 ≤ s) (lvl_succ.2 (.inr ⟨x, hx, hq, h6⟩))] at h1; cases h1
  · refine .inr ⟨t, by omega, ?_, h1, h2⟩
    rw [(hQ z hz).1 (by omega), e]
theorem Far.all (adj : Int → Int → Bool) (n a : Nat) : ∀ s, Far adj n (a : Int) s (pS adj n a s)
  | 0 => Far.start adj n a
  | s + 1 => (Far.all adj n a s).step
theorem pS_dist {a b : Nat} (ha : a < n) (hb : b < n) : pS adj n a n b = gdist adj n (a : Int) (b : Int) := by
  rcases Far.all adj n a n b hb with ⟨e, h1⟩ | ⟨t, ht, e, h1, h2⟩
  · rw [e, gdist_none]
    intro t ht
    cases hp : lvl adj n (a : Int) t (b : Int)
    · rfl
    · rw [lvl_mono (by omega : t ≤ n) hp] at h1; cases h1
  · rw [e, gdist_some (lvl_lt ha hb h1 h2) h1 h2]
theorem pCell_range {s x y : Nat} {R : Nat → Int} (h : ∀ z, -1 ≤ R z ∧ R z ≤ 5) (hs : s ≤ 4) (z : Nat) : -1 ≤ pCell adj s x y R z ∧ pCell adj s x y R z ≤ 5 := by
  unfold pCell
  split
  · omega
  · exact h z
theorem pY_range {s x : Nat} {R : Nat → Int} (h : ∀ z, -1 ≤ R z ∧ R z ≤ 5) (hs : s ≤ 4) : ∀ y z, -1 ≤ pY adj s x R y z ∧ pY adj s x R y z ≤ 5
  | 0, z => h z
  | y + 1, z => pCell_range (pY_range h hs y) hs z
theorem pX_range {s : Nat} {R : Nat → Int} (h : ∀ z, -1 ≤ R z ∧ R z ≤ 5) (hs : s ≤ 4) : ∀ x z, -1 ≤ pX adj n s R x z ∧ pX adj n s R x z ≤ 5
  | 0, z => h z
  | x + 1, z => pY_range (pX_range h hs x) hs n z
theorem pS_range (adj : Int → Int → Bool) (n a : Nat) : ∀ s, s ≤ 4 → ∀ z, -1 ≤ pS adj n a s z ∧ pS adj n a s z ≤ 5
  | 0, _, z => by unfold pS; split <;> omega
  | s + 1, hs, z => pX_range (pS_range adj n a s (by omega)) (by omega) n z
end

/-! ### As the reference finds them -/
section
variable (adj : Int → Int → Bool) (n : Nat)
def rK (m : Int) (l : List Int) : Nat → List Int
  | 0 => l
  | k + 1 => if (adj m (k : Int) && !(hasI (rK m l k) (k : Int))) = true then rK m l k ++ [(k : Int)] else rK m l k
def rI (met : List Int) : Nat → List Int
  | 0 => met
  | i + 1 => rK adj (met.getD i 0) (rI met i) n
def rS (a : Int) : Nat → List Int
  | 0 => [a]
  | s + 1 => rI adj n (rS a s) (rS a s).length
end
section
variable {adj : Int → Int → Bool} {n : Nat}
theorem hasI_mem {l : List Int} {y : Int} : hasI l y = true ↔ y ∈ l := by unfold hasI; simp
theorem rK_mem {m : Int} {l : List Int} {y : Int} : ∀ k, y ∈ rK adj m l k ↔ y ∈ l ∨ ∃ j : Nat, j < k ∧ y = (j : Int) ∧ adj m (j : Int) = true
  | 0 => by simp [rK]
  | k + 1 => by
    have ih := rK_mem (m := m) (l := l) (y := y) k
    unfold rK
    split
    · rename_i hc
      simp at hc
      rw [List.mem_append, ih]
      constructor
      · rintro ((h | ⟨j, h1, h2⟩) | h)
        · exact .inl h
        · exact .inr ⟨j, by omega, h2⟩
        · simp at h; exact .inr ⟨k, by omega, h, hc.1⟩
      · rintro (h | ⟨j, h1, h2, h3⟩)
        · exact .inl (.inl h)
        · by_cases e : j = k
          · subst e; exact .inr (by simp [h2])
          · exact .inl (.inr ⟨j, by omega, h2, h3⟩)
    · rename_i hc
      rw [ih]
      constructor
      · rintro (h | ⟨j, h1, h2⟩)
        · exact .inl h
        · exact .inr ⟨j, by omega, h2⟩
      · rintro (h | ⟨j, h1, h2, h3⟩)
        · exact .inl h
        · by_cases e : j = k
          · subst e
            subst h2
            cases hh : hasI (rK adj m l j) (j : Int)
            · rw [h3, hh] at hc; simp at hc
            · exact ih.1 (hasI_mem.1 hh)
          · exact .inr ⟨j, by omega, h2, h3⟩
theorem rI_mem {met : List Int} {y : Int} : ∀ i, i ≤ met.length → (y ∈ rI adj n met i ↔ y ∈ met ∨ ∃ i' : Nat, i' < i ∧ ∃ j : Nat, j < n ∧ y = (j : Int) ∧ adj (met.getD i' 0) (j : Int) = true)
  | 0, _ => by simp [rI]
  | i + 1, hi => by
    rw [rI, rK_mem, rI_mem i (by omega)]
    constructor
    · rintro ((h | ⟨i', h1, h2⟩) | h)
      · exact .inl h
      · exact .inr ⟨i', by omega, h2⟩
      · exact .inr ⟨i, by omega, h⟩
    · rintro (h | ⟨i', h1, h2⟩)
      · exact .inl (.inl h)
      · by_cases e : i' = i
        · subst e; exact .inr h2
        · exact .inl (.inr ⟨i', by omega, h2⟩)
theorem rI_all {met : List Int} {y : Int} : y ∈ rI adj n met met.length ↔ y ∈ met ∨ ∃ m ∈ met, ∃ j : Nat, j < n ∧ y = (j : Int) ∧ adj m (j : Int) = true := by
  rw [rI_mem _ (Nat.le_refl _)]
  constructor
  · rintro (h | ⟨i, hi, h⟩)
    · exact .inl h
    · refine .inr ⟨met.getD i 0, ?_, h⟩
      rw [List.getD_eq_getElem?_getD, List.getElem?_eq_getElem hi]
      exact List.getElem_mem hi
  · rintro (h | ⟨m, hm, h⟩)
    · exact .inl h
    · obtain ⟨i, hi, rfl⟩ := List.getElem_of_mem hm
      refine .inr ⟨i, hi, ?_⟩
      rw [List.getD_eq_getElem?_getD, List.getElem?_eq_getElem hi]
      exact h
theorem rS_mem {a : Nat} (ha : a < n) : ∀ s {y : Int}, y ∈ rS adj n (a : Int) s ↔ ∃ j : Nat, j < n ∧ y = (j : Int) ∧ lvl adj n (a : Int) s (j : Int) = true
  | 0, y => by
    unfold rS
    constructor
    · intro h
      simp at h
      exact ⟨a, ha, h, by simp [lvl]⟩
    · rintro ⟨j, hj, h1, h2⟩
      simp [lvl] at h2
      simp [h1, h2]
  | s + 1, y => by
    rw [rS, rI_all, rS_mem ha s]
    constructor
    · rintro (⟨j, hj, h1, h2⟩ | ⟨m, hm, j, hj, h1, h2⟩)
      · exact ⟨j, hj, h1, lvl_mono1 h2⟩
      · obtain ⟨x, hx, rfl, h3⟩ := (rS_mem ha s).1 hm
        exact ⟨j, hj, h1, lvl_succ.2 (.inr ⟨x, hx, h3, h2⟩)⟩
    · rintro ⟨j, hj, h1, h2⟩
      rcases lvl_succ.1 h2 with h3 | ⟨x, hx, h3, h4⟩
      · exact .inl ⟨j, hj, h1, h3⟩
      · exact .inr ⟨(x : Int), (rS_mem ha s).2 ⟨x, hx, rfl, h3⟩, j, hj, h1, h4⟩
theorem rS_has {a b : Nat} (ha : a < n) (hb : b < n) (s : Nat) : hasI (rS adj n (a : Int) s) (b : Int) = lvl adj n (a : Int) s (b : Int) := by
  rw [Bool.eq_iff_iff, hasI_mem, rS_mem ha s]
  constructor
  · rintro ⟨j, hj, h1, h2⟩
    rwa [h1]
  · intro h
    exact ⟨b, hb, rfl, h⟩
theorem rK_len {m : Int} {l : List Int} : ∀ k, (rK adj m l k).length ≤ l.length + k
  | 0 => by simp [rK]
  | k + 1 => by
    have := rK_len (m := m) (l := l) k
    unfold rK
    split
    · simp; omega
    · omega
theorem rI_len {met : List Int} : ∀ i, (rI adj n met i).length ≤ met.length + i * n
  | 0 => by simp [rI]
  | i + 1 => by
    have h1 := rI_len (met := met) i
    have h2 := rK_len (adj := adj) (m := met.getD i 0) (l := rI adj n met i) n
    rw [rI, Nat.succ_mul]
    omega
theorem rS_len (hn : n ≤ 4) (a : Int) : ∀ s, (rS adj n a s).length ≤ 5 ^ s
  | 0 => by simp [rS]
  | s + 1 => by
    have h1 := rS_len hn a s
    have h2 := rI_len (adj := adj) (n := n) (met := rS adj n a s) (rS adj n a s).length
    have h3 : (rS adj n a s).length * n ≤ (rS adj n a s).length * 4 := Nat.mul_le_mul_left _ hn
    rw [rS, Nat.pow_succ]
    omega
theorem rS_small (hn : n ≤ 4) (a : Int) {s : Nat} (hs : s ≤ 4) : (rS adj n a s).length ≤ 625 := by
  have h1 := rS_len (adj := adj) hn a s
  have h2 : 5 ^ s ≤ 5 ^ 4 := Nat.pow_le_pow_right (by omega) hs
  omega
theorem rI_small {met : List Int} (hm : met.length ≤ 625) (hn : n ≤ 4) {i : Nat} (hi : i ≤ met.length) : (rI adj n met i).length ≤ 3125 := by
  have h1 := rI_len (adj := adj) (n := n) (met := met) i
  have h2 : i * n ≤ 625 * 4 := Nat.mul_le_mul (by omega) hn
  omega
end
end Dist
/-- Are two qubits coupled? -/
def cpl (es : List Ed) (a b : Int) : Bool := hasE es a b || hasE es b a
/-- The distance in a graph; -1 where one is not asked for rightly, or where there is no way. -/
def gd (x : Gr) (a b : Int) : Int := if 1 ≤ x.n ∧ x.n ≤ 4 ∧ 0 ≤ a ∧ a < x.n ∧ 0 ≤ b ∧ b < x.n then Dist.gdist (cpl x.es) x.n.toNat a b else -1
theorem gd_no {x : Gr} {a b : Int} (h : ¬ (1 ≤ x.n ∧ x.n ≤ 4 ∧ 0 ≤ a ∧ a < x.n ∧ 0 ≤ b ∧ b < x.n)) : gd x a b = -1 := if_neg h
theorem gd_yes {x : Gr} {a b : Int} {n : Nat} (h : x.n = n) (h1 : 1 ≤ n) (h2 : n ≤ 4) (h3 : 0 ≤ a) (h4 : a < n) (h5 : 0 ≤ b) (h6 : b < n) : gd x a b = Dist.gdist (cpl x.es) n a b := by
  unfold gd
  rw [if_pos (by omega), h]
  rfl
theorem gd_range (x : Gr) (a b : Int) : -1 ≤ gd x a b ∧ gd x a b ≤ 4 := by
  unfold gd
  split
  · have := Dist.gdist_range (cpl x.es) x.n.toNat a b
    omega
  · omega
end Go.Proofs.Ytofbmkpfliofeaa
/-
  Helper text (no claim of its own): the distance in a graph, by the program and by the reference.
-/
namespace Go.Proofs.Ytofbmkpfliofeaa
open Go.ChangeShapes Go.WideShapes Go.ChangeAt Go.RowKit Go.Deep
def farRow (R : Nat → Int) : Array Value := #[.int .i64 (R 0), .int .i64 (R 1), .int .i64 (R 2), .int .i64 (R 3)]
theorem farRow_at (R : Nat → Int) {j : Nat} (hj : j < 4) : (farRow R)[j]? = some (.int .i64 (R j)) := by
  rcases (by omega : j = 0 ∨ j = 1 ∨ j = 2 ∨ j = 3) with rfl | rfl | rfl | rfl <;> rfl
theorem farRow_set {R R' : Nat → Int} {j : Nat} {v : Int} (hj : j < 4) (h : ∀ z, R' z = if z = j then v else R z) : (farRow R).setIfInBounds j (.int .i64 v) = farRow R' := by
  unfold farRow
  rcases (by omega : j = 0 ∨ j = 1 ∨ j = 2 ∨ j = 3) with rfl | rfl | rfl | rfl <;> simp [h]
/-- What holds in the program's loops: the row of numbers, the graph's box, old memory. -/
def GdI (w wr : World) (n : Nat) (es : List Ed) (A1 : Option Addr) (c1 : Nat) (R : Nat → Int) : Prop :=
  Blk wr (w.heap.size + 1) 3 (farRow R) ∧ Blk wr w.heap.size 27 #[.int .i64 (n : Int), .slice A1 es.length c1] ∧ Ext w wr
theorem pCell_no {adj : Int → Int → Bool} {s x y : Nat} {R : Nat → Int} (h : ¬ (R x = (s : Int) ∧ R y < 0 ∧ adj (x : Int) (y : Int) = true)) : Dist.pCell adj s x y R = R := by
  funext z
  unfold Dist.pCell
  rw [if_neg (fun h' => h h'.2)]
end Go.Proofs.Ytofbmkpfliofeaa
/-
  Helper text (no claim of its own): drawn graphs: the header in a block of its own, the edges in a row.
-/
namespace Go.Proofs.Ytofbmkpfliofeaa
open Go.ChangeShapes Go.WideShapes Go.ChangeAt Go.RowKit Go.Deep
/-- append of one drawn edge in a drawn region. -/
theorem stepE1 {w : World} {B : Nat} {ops : Array Oper} {o : Oper} {a : Act} {K : Act → World → Prop} {Q : Exit → Act → World → Prop} {E : Prop} (hgd : o.guard = none) (s x : Operand)
    (ho : o.op = .call { callee := .builtin .append, args := #[s, x], argTypes := #[25, 25] }) (v : Value) (n : Nat) (xs : List Ed) (hs : a.eval s = v)
    (hown : w.ownsRow B 63 2 v n (ecells xs)) (hB : B ≤ w.heap.size) (y : Ed) (e : TypeId) (b : Nat) (hx : a.eval x = .slice (some ⟨b, 0, none⟩) 1 1) (hbs : b = w.heap.size) (hn : n ≤ 90000000)
    (h : ∀ A' c' w', w'.ownsRow B 63 2 (.slice A' (n + 1) c') (n + 1) (ecells (xs ++ [y])) → w.grownBy w' v.ownBlock → ((Value.slice A' (n + 1) c').ownBlock = v.ownBlock ∨ (Value.slice A' (n + 1) c').ownBlock = some (w.heap.size + 1)) → K (a.put o.dst (.slice A' (n + 1) c')) w') :
    if Region.wanted o (yielded ops a.tmps) = true then Oper.wp Try.prog o a (w.alloc (.cells #[.int .i64 y.a, .int .i64 y.b] e)) K Q else E := by
  subst hbs
  have hcs := cutW_size hB
  refine stepEdgeS (w0 := cutW w B) hgd s x ho v n xs hs (by rw [hcs]; exact hown.alloc _) ((cutW_ext hB).alloc _) _ 1 1 [y] hx (rd_new w _ e 2 _ (by simp [Ed.cells]) (by simp [Ed.cells])) (by omega) ?_
  intro v' w' h1 h2 h3 h4
  rw [hcs] at h1
  obtain ⟨A', c', rfl, _⟩ := own_slice h1
  exact h A' c' w' h1 (World.grownBy.trans (((Ext.refl w).alloc _).gr _) h3) (by simpa using h4)

theorem Try.sizeGraph : (Try.prog.info? 27).map (·.size) = some 2 := by kernel_rfl
theorem ret2g {fn : Func} {p : Tmp} (hf : fn.results = #[.cell p 27]) {W : World} {q : Nat} {z0 z1 : Value} (hB : Blk W q 27 #[z0, z1]) (a b : Value) (tmps : Array Value)
    (hp : tmps.getD p undef = .pointer (some ⟨q, 0, none⟩)) : (results fn tmps).run Try.prog ((W.setCell ⟨q, 0, none⟩ a).setCell ⟨q, 1, none⟩ b) = .ok (.agg #[a, b]) ((W.setCell ⟨q, 0, none⟩ a).setCell ⟨q, 1, none⟩ b) :=
  results_cell_row hf tmps _ q 27 _ (0, 0) _ hp (hB.set2 a b) Try.underlying27 rfl Try.sizeGraph
theorem appE1 {w : World} {B : Nat} {ops : Array Oper} {rest : List Oper} {o : Oper} {a : Act} {Q : Exit → Act → World → Prop} (hgd : o.guard = none) (s x : Operand)
    (ho : o.op = .call { callee := .builtin .append, args := #[s, x], argTypes := #[25, 25] }) (v : Value) (n : Nat) (xs : List Ed) (hs : a.eval s = v)
    (hown : w.ownsRow B 63 2 v n (ecells xs)) (hB : B ≤ w.heap.size) (y : Ed) (e : TypeId) (b : Nat) (hx : a.eval x = .slice (some ⟨b, 0, none⟩) 1 1) (hbs : b = w.heap.size) (hn : n ≤ 90000000)
    (h : ∀ A' c' w', w'.ownsRow B 63 2 (.slice A' (n + 1) c') (n + 1) (ecells (xs ++ [y])) → w.grownBy w' v.ownBlock → ((Value.slice A' (n + 1) c').ownBlock = v.ownBlock ∨ (Value.slice A' (n + 1) c').ownBlock = some (w.heap.size + 1)) → wpList Try.prog ops Q rest (a.put o.dst (.slice A' (n + 1) c')) w') :
    wpList Try.prog ops Q (o :: rest) a (w.alloc (.cells #[.int .i64 y.a, .int .i64 y.b] e)) := by
  subst hbs
  have hcs := cutW_size hB
  refine appEdgeS (w0 := cutW w B) hgd s x ho v n xs hs (by rw [hcs]; exact hown.alloc _) ((cutW_ext hB).alloc _) _ 1 1 [y] hx (rd_new w _ e 2 _ (by simp [Ed.cells]) (by simp [Ed.cells])) (by omega) ?_
  intro v' w' h1 h2 h3 h4
  rw [hcs] at h1
  obtain ⟨A', c', rfl, _⟩ := own_slice h1
  exact h A' c' w' h1 (World.grownBy.trans (((Ext.refl w).alloc _).gr _) h3) (by simpa using h4)
/-- A drawn graph whose header lies in block s. -/
def DG (w0 w : World) (g s : Nat) (N : Int) (A : Option Addr) (len cap : Nat) (gs : List Ed) : Prop :=
  Blk w w0.heap.size 27 #[.int .i64 0, .slice none 0 0] ∧ Blk w s 27 #[.int .i64 N, .slice A len cap] ∧ w.ownsRow (w0.heap.size + 1) 63 2 (.slice A len cap) len (ecells gs) ∧ (∀ q, (Value.slice A len cap).ownBlock = some q → w0.heap.size + 1 ≤ q ∧ q ≠ s) ∧ Cur w g ∧ w0.grownBy w (some g) ∧ ∀ e ∈ gs, e.ok
theorem DG.grown {w0 w w' : World} {g s : Nat} {N : Int} {A : Option Addr} {len cap : Nat} {gs : List Ed} (h : DG w0 w g s N A len cap gs) (hg : w.grownBy w' (some g)) (hC : Cur w' g) (hs : g < s) (hl : g < w0.heap.size) : DG w0 w' g s N A len cap gs := by
  obtain ⟨h1, h2, h3, h4, h5, h6, h7⟩ := h
  exact ⟨h1.grown hg (fun k hk => by injection hk; omega), h2.grown hg (fun k hk => by injection hk; omega), own_kept h3 hg (fun k hk => by injection hk; omega), h4, hC, gr_trans h6 hg, h7⟩
theorem DG.drew {w0 w : World} {g s : Nat} {N : Int} {A : Option Addr} {len cap : Nat} {gs : List Ed} (h : DG w0 w g s N A len cap gs) : DG w0 w.drew g s N A len cap gs := by
  obtain ⟨h1, h2, h3, h4, h5, h6, h7⟩ := h
  exact ⟨h1, h2, own_ext h3 (Ext.refl w).drew, h4, h5.ext (Ext.refl w).drew, gr_ext h6 (Ext.refl w).drew, h7⟩
theorem DG.alloc {w0 w : World} {g s : Nat} {N : Int} {A : Option Addr} {len cap : Nat} {gs : List Ed} (h : DG w0 w g s N A len cap gs) (o : Obj) : DG w0 (w.alloc o) g s N A len cap gs := by
  obtain ⟨h1, h2, h3, h4, h5, h6, h7⟩ := h
  exact ⟨h1.alloc o, h2.alloc o, own_ext h3 ((Ext.refl w).alloc o), h4, h5.alloc o, gr_alloc h6 o, h7⟩
theorem DG.setN {w0 w : World} {g s : Nat} {N : Int} {A : Option Addr} {len cap : Nat} {gs : List Ed} (h : DG w0 w g s N A len cap gs) (M : Int) (hs : w0.heap.size < s) (hl : g < w0.heap.size) : DG w0 (w.setCell ⟨s, 0, none⟩ (.int .i64 M)) g s M A len cap gs := by
  obtain ⟨h1, h2, h3, h4, h5, h6, h7⟩ := h
  refine ⟨h1.far (p := ⟨s, 0, none⟩) (by simp; omega) _, h2.set_ 0 _, ?_, h4, h5.set_ (p := ⟨s, 0, none⟩) (by simp; omega) _, gr_set h6 (p := ⟨s, 0, none⟩) (by simp; omega) _, h7⟩
  refine h3.kept (row := some s) (gr_setCell (World.grownBy.refl w (some s)) 0 _) ?_
  cases hv : (Value.slice A len cap).ownBlock with
  | none => exact .inl rfl
  | some q => exact .inr (fun e => (h4 q hv).2 (by injection e))
/-- What an append to the graph's row leaves. -/
theorem DG.app {w0 w w' : World} {g s : Nat} {N : Int} {A A' : Option Addr} {len cap c' : Nat} {gs : List Ed} {y : Ed} (h : DG w0 w g s N A len cap gs) (hy : y.ok) (hs : w0.heap.size < s) (hl : g < w0.heap.size)
    (ho : w'.ownsRow (w0.heap.size + 1) 63 2 (.slice A' (len + 1) c') (len + 1) (ecells (gs ++ [y]))) (hg : w.grownBy w' (Value.slice A len cap).ownBlock)
    (hb : (Value.slice A' (len + 1) c').ownBlock = (Value.slice A len cap).ownBlock ∨ (Value.slice A' (len + 1) c').ownBlock = some (w.heap.size + 1)) :
    Blk w' s 27 #[.int .i64 N, .slice A len cap] ∧ DG w0 (w'.setCell ⟨s, 1, none⟩ (.slice A' (len + 1) c')) g s N A' (len + 1) c' (gs ++ [y]) := by
  obtain ⟨h1, h2, h3, h4, h5, h6, h7⟩ := h
  have hls := h2.lt
  have hB := h2.grown hg (fun k hk e => (h4 k hk).2 e.symm)
  have h4' : ∀ q, (Value.slice A' (len + 1) c').ownBlock = some q → w0.heap.size + 1 ≤ q ∧ q ≠ s := by
    intro q hq
    rcases hb with hb | hb
    · rw [hb] at hq; exact h4 q hq
    · rw [hb] at hq; injection hq with hq
      have := h1.lt
      omega
  refine ⟨hB, (h1.grown hg (fun k hk e => by have := (h4 k hk).1; omega)).far (p := ⟨s, 1, none⟩) (by simp; omega) _, hB.set_ 1 _, ?_, h4', (h5.grown hg (fun k hk => by have := (h4 k hk).1; omega)).set_ (p := ⟨s, 1, none⟩) (by simp; omega) _, gr_set (gr_new h6 hg (fun k hk => by have := (h4 k hk).1; omega)) (p := ⟨s, 1, none⟩) (by simp; omega) _, fun e he => by
    rcases List.mem_append.1 he with h | h
    · exact h7 e h
    · simp at h; subst h; exact hy⟩
  refine ho.kept (row := some s) (gr_setCell (World.grownBy.refl w' (some s)) 1 _) ?_
  cases hv : (Value.slice A' (len + 1) c').ownBlock with
  | none => exact .inl rfl
  | some q => exact .inr (fun e => (h4' q hv).2 (by injection e))
theorem DG.done {w W : World} {g s : Nat} {N : Int} {A : Option Addr} {len cap : Nat} {gs : List Ed} (h : DG w W g s N A len cap gs) (hl : g < w.heap.size) :
    ((W.setCell ⟨w.heap.size, 0, none⟩ (.int .i64 N)).setCell ⟨w.heap.size, 1, none⟩ (.slice A len cap)).ownsRow w.heap.size 63 2 (.slice A len cap) len (ecells gs) ∧ Cur ((W.setCell ⟨w.heap.size, 0, none⟩ (.int .i64 N)).setCell ⟨w.heap.size, 1, none⟩ (.slice A len cap)) g ∧ w.grownBy ((W.setCell ⟨w.heap.size, 0, none⟩ (.int .i64 N)).setCell ⟨w.heap.size, 1, none⟩ (.slice A len cap)) (some g) ∧ ∀ e ∈ gs, e.ok :=
  ⟨own_base (own_set (own_set h.2.2.1 (p := ⟨w.heap.size, 0, none⟩) (by simp) _) (p := ⟨w.heap.size, 1, none⟩) (by simp) _) (by omega), Cur.set2 h.2.2.2.2.1 hl _ _, gr_set2 h.2.2.2.2.2.1 (Nat.le_refl _) _ _, h.2.2.2.2.2.2⟩
end Go.Proofs.Ytofbmkpfliofeaa
/-
  Helper text (no claim of its own): drawn connected graphs.
-/
namespace Go.Proofs.Ytofbmkpfliofeaa
open Go.ChangeShapes Go.WideShapes Go.ChangeAt Go.RowKit Go.Deep
set_option linter.unusedVariables false
set_option linter.unusedSimpArgs false
/-- What a draw of a graph hands back. -/
def DrewGr (w : World) (g most : Nat) (P : Int → Prop) (e : Ending) (w' : World) : Prop :=
  ∃ (N : Int) (A : Option Addr) (len cap : Nat) (es : List Ed), e = .returned (.agg #[.int .i64 N, .slice A len cap]) ∧ P N ∧ len ≤ most ∧ w'.ownsRow w.heap.size 63 2 (.slice A len cap) len (ecells es) ∧ Cur w' g ∧ w.grownBy w' (some g) ∧ ∀ e ∈ es, e.ok
/-- Block b is a row of ints, the first n of which are xs. -/
def PF (w : World) (b n : Nat) (xs : List Int) : Prop := ∃ cur, Blk w b 3 cur ∧ ∀ j, j < n → (cur[j]? = some (.int .i64 (xs.getD j 0)) ∧ I64 (xs.getD j 0))
section
variable {w w' : World} {b n B size m : Nat} {v : Value} {xs : List Int} {ys : List Value}
theorem PF.lt (h : PF w b n xs) : b < w.heap.size := by obtain ⟨_, hc, _⟩ := h; exact hc.lt
theorem PF.cell (h : PF w b n xs) {j : Nat} (hj : j < n) : w.cell? ⟨b, j, none⟩ = some (.int .i64 (xs.getD j 0)) := by
  obtain ⟨_, hc, hx⟩ := h
  exact (hc.cell j).trans (hx j hj).1
theorem PF.rng (h : PF w b n xs) {j : Nat} (hj : j < n) : I64 (xs.getD j 0) := by
  obtain ⟨_, _, hx⟩ := h
  exact (hx j hj).2
theorem PF.alloc (h : PF w b n xs) (o : Obj) : PF (w.alloc o) b n xs := by obtain ⟨_, hc, hx⟩ := h; exact ⟨_, hc.alloc o, hx⟩
theorem PF.far (h : PF w b n xs) {p : Addr} (hp : b ≠ p.block) (u : Value) : PF (w.setCell p u) b n xs := by obtain ⟨_, hc, hx⟩ := h; exact ⟨_, hc.far hp u, hx⟩
theorem PF.grown {row : Option Nat} (h : PF w b n xs) (hg : w.grownBy w' row) (hr : ∀ k, row = some k → b ≠ k) : PF w' b n xs := by obtain ⟨_, hc, hx⟩ := h; exact ⟨_, hc.grown hg hr, hx⟩
theorem PF.of {c : Nat} (h : IntRow w b c n) : ∃ xs, PF w b n xs := by
  obtain ⟨_, _, cur, hc, _, xs, _, hr, hx⟩ := h
  exact ⟨xs, cur, hc, fun j hj => ⟨hx j hj, hr j⟩⟩
theorem PF.apart (h : PF w b n xs) (ho : w.ownsRow B 63 size v m ys) : ∀ q, v.ownBlock = some q → b ≠ q := by
  intro q hq e
  subst e
  obtain ⟨cur, hc, _⟩ := h
  rcases ho.2 with ⟨rfl, _⟩ | ⟨b', cap', cur', rfl, _, hc', _⟩
  · cases hq
  · injection hq with hq
    subst hq
    rw [hc] at hc'
    injection hc' with hc'
    injection hc' with _ hc'
    exact absurd hc' (by decide)
end
theorem DG.at {w0 w : World} {g s : Nat} {N : Int} {A : Option Addr} {len cap : Nat} {gs : List Ed} (h : DG w0 w g s N A len cap gs) : gs.length = len ∧ GrAt w w.heap.size (.agg #[.int .i64 N, .slice A len cap]) ⟨N, gs⟩ := by
  have hr := Rd.own h.2.2.1
  have hl := Rd.len (f := Ed.cells) (fun _ => by simp [Ed.cells]) (by omega) hr
  subst hl
  exact ⟨rfl, A, cap, rfl, hr⟩
theorem DrewGr.mk {w w' : World} {g most : Nat} {P : Int → Prop} (N : Int) (A : Option Addr) (len cap : Nat) (es : List Ed) (h1 : P N) (h2 : len ≤ most) (h3 : w'.ownsRow w.heap.size 63 2 (.slice A len cap) len (ecells es) ∧ Cur w' g ∧ w.grownBy w' (some g) ∧ ∀ e ∈ es, e.ok) : DrewGr w g most P (.returned (.agg #[.int .i64 N, .slice A len cap])) w' :=
  ⟨N, A, len, cap, es, rfl, h1, h2, h3⟩
/-- What holds in the loop of l36Right. -/
def GL (w0 w : World) (g s : Nat) (N : Int) (A : Option Addr) (len cap : Nat) (es : List Ed) (b n : Nat) (xs : List Int) : Prop := DG w0 w g s N A len cap es ∧ PF w b n xs ∧ s < b
section
variable {w0 w w' : World} {g s : Nat} {N : Int} {A : Option Addr} {len cap b n : Nat} {es : List Ed} {xs : List Int}
theorem GL.cur (h : GL w0 w g s N A len cap es b n xs) : Cur w g := h.1.2.2.2.2.1
theorem GL.lt (h : GL w0 w g s N A len cap es b n xs) : b < w.heap.size := h.2.1.lt
theorem GL.cell (h : GL w0 w g s N A len cap es b n xs) : ∀ j, j < n → w.cell? ⟨b, j, none⟩ = some (.int .i64 (xs.getD j 0)) := fun _ hj => h.2.1.cell hj
theorem GL.drew (h : GL w0 w g s N A len cap es b n xs) : GL w0 w.drew g s N A len cap es b n xs := ⟨h.1.drew, h.2.1, h.2.2⟩
theorem GL.alloc (h : GL w0 w g s N A len cap es b n xs) (o : Obj) : GL w0 (w.alloc o) g s N A len cap es b n xs := ⟨h.1.alloc o, h.2.1.alloc o, h.2.2⟩
theorem GL.grown (h : GL w0 w g s N A len cap es b n xs) (hg : w.grownBy w' (some g)) (hC : Cur w' g) (hs : g < s) (hl : g < w0.heap.size) : GL w0 w' g s N A len cap es b n xs :=
  ⟨h.1.grown hg hC hs hl, h.2.1.grown hg (fun k hk => by injection hk; have := h.2.2; omega), h.2.2⟩
theorem GL.far (h : GL w0 w g s N A len cap es b n xs) {t j : Nat} (u : Value) (ht : b < t) (hw : w0.heap.size < t) (hl : g < w0.heap.size) (hq : ∀ q, (Value.slice A len cap).ownBlock = some q → q ≠ t) : GL w0 (w.setCell ⟨t, j, none⟩ u) g s N A len cap es b n xs := by
  obtain ⟨⟨h1, h2, h3, h4, h5, h6, h9⟩, h7, h8⟩ := h
  refine ⟨⟨h1.far (p := ⟨t, j, none⟩) (by simp; omega) _, h2.far (p := ⟨t, j, none⟩) (by simp; omega) _, ?_, h4, h5.set_ (p := ⟨t, j, none⟩) (by simp; omega) _, gr_set h6 (p := ⟨t, j, none⟩) (by simp; omega) _, h9⟩, h7.far (p := ⟨t, j, none⟩) (by simp; omega) _, h8⟩
  refine h3.kept (row := some t) (gr_setCell (World.grownBy.refl w (some t)) j _) ?_
  cases hv : (Value.slice A len cap).ownBlock with
  | none => exact .inl rfl
  | some q => exact .inr (fun e => hq q hv (by injection e))
theorem GL.app {A' : Option Addr} {c' : Nat} {y : Ed} (h : GL w0 w g s N A len cap es b n xs) (hy : y.ok) (hs : w0.heap.size < s) (hl : g < w0.heap.size)
    (ho : w'.ownsRow (w0.heap.size + 1) 63 2 (.slice A' (len + 1) c') (len + 1) (ecells (es ++ [y]))) (hg : w.grownBy w' (Value.slice A len cap).ownBlock)
    (hb : (Value.slice A' (len + 1) c').ownBlock = (Value.slice A len cap).ownBlock ∨ (Value.slice A' (len + 1) c').ownBlock = some (w.heap.size + 1)) :
    Blk w' s 27 #[.int .i64 N, .slice A len cap] ∧ GL w0 (w'.setCell ⟨s, 1, none⟩ (.slice A' (len + 1) c')) g s N A' (len + 1) c' (es ++ [y]) b n xs := by
  obtain ⟨h1, h2⟩ := h.1.app hy hs hl ho hg hb
  exact ⟨h1, h2, (h.2.1.grown hg (fun k hk => h.2.1.apart h.1.2.2.1 k hk)).far (p := ⟨s, 1, none⟩) (by have := h.2.2; simp; omega) _, h.2.2⟩
/-- With a block of one edge, t. -/
def GE (w0 w : World) (g s : Nat) (N : Int) (A : Option Addr) (len cap : Nat) (es : List Ed) (b n : Nat) (xs : List Int) (t : Nat) (y z : Int) : Prop :=
  GL w0 w g s N A len cap es b n xs ∧ Blk w t 63 #[.int .i64 y, .int .i64 z] ∧ b < t ∧ w0.heap.size < t ∧ (∀ q, (Value.slice A len cap).ownBlock = some q → q ≠ t) ∧ Ed.ok ⟨y, z⟩
theorem Ed.ok.sw {a b : Int} (h : Ed.ok ⟨a, b⟩) : Ed.ok ⟨b, a⟩ := ⟨h.2, h.1⟩
theorem GE.grown {t : Nat} {y z : Int} (h : GE w0 w g s N A len cap es b n xs t y z) (hg : w.grownBy w' (some g)) (hC : Cur w' g) (hs : g < s) (hl : g < w0.heap.size) : GE w0 w' g s N A len cap es b n xs t y z :=
  ⟨h.1.grown hg hC hs hl, h.2.1.grown hg (fun q hq => by injection hq; have := h.2.2.1; have := h.1.2.2; omega), h.2.2⟩
theorem GE.set2 {t : Nat} {y z : Int} (h : GE w0 w g s N A len cap es b n xs t y z) (hl : g < w0.heap.size) (u v : Int) (ho : Ed.ok ⟨u, v⟩) : GE w0 ((w.setCell ⟨t, 0, none⟩ (.int .i64 u)).setCell ⟨t, 1, none⟩ (.int .i64 v)) g s N A len cap es b n xs t u v :=
  ⟨(h.1.far _ h.2.2.1 h.2.2.2.1 hl h.2.2.2.2.1).far _ h.2.2.1 h.2.2.2.1 hl h.2.2.2.2.1, h.2.1.set2 _ _, h.2.2.1, h.2.2.2.1, h.2.2.2.2.1, ho⟩
theorem GE.app {t : Nat} {u v : Int} {A' : Option Addr} {c' : Nat} {y : Ed} (h : GE w0 w g s N A len cap es b n xs t u v) (hy : y.ok) (hs : w0.heap.size < s) (hl : g < w0.heap.size)
    (ho : w'.ownsRow (w0.heap.size + 1) 63 2 (.slice A' (len + 1) c') (len + 1) (ecells (es ++ [y]))) (hg : w.grownBy w' (Value.slice A len cap).ownBlock)
    (hb : (Value.slice A' (len + 1) c').ownBlock = (Value.slice A len cap).ownBlock ∨ (Value.slice A' (len + 1) c').ownBlock = some (w.heap.size + 1)) :
    Blk w' s 27 #[.int .i64 N, .slice A len cap] ∧ GE w0 (w'.setCell ⟨s, 1, none⟩ (.slice A' (len + 1) c')) g s N A' (len + 1) c' (es ++ [y]) b n xs t u v := by
  obtain ⟨h1, h2⟩ := h.1.app hy hs hl ho hg hb
  have := h.2.2.1
  have := h.1.2.2
  have := h.2.1.lt
  refine ⟨h1, h2, (h.2.1.grown hg (fun k hk e => h.2.2.2.2.1 k hk e.symm)).far (p := ⟨s, 1, none⟩) (by simp; omega) _, h.2.2.1, h.2.2.2.1, (fun q hq => ?_), h.2.2.2.2.2⟩
  rcases hb with hb | hb
  · exact h.2.2.2.2.1 q (hb ▸ hq)
  · rw [hb] at hq; injection hq; omega
end
set_option maxRecDepth 100000 in
set_option maxHeartbeats 16000000 in
theorem l36Right_any (g n : Nat) (hn : 1 ≤ n ∧ n ≤ 4) (w : World) (h : Cur w g) :
    Calls Try.prog 61 #[.pointer (some ⟨g, 0, none⟩), .int .i64 n] w (DrewGr w g 7 (fun N => N = (n : Int))) := by
  have hgl := h.lt
  obtain ⟨hn1, hn4⟩ := id hn
  go_enter Try.func61, Try.ntmps61
  go_wp2_with fail
  refine (l8Perm_any g n hn _ ((h.alloc _).alloc _)).mono ?_
  rintro e w2 ⟨b, c, rfl, hb, hI2, hC2, hG2⟩
  obtain ⟨xs, hI2⟩ := PF.of hI2
  have hB6 := ((Blk.new w 27 #[.int .i64 0, .slice none 0 0]).alloc _).grown hG2 (fun k hk => by injection hk; omega)
  have hB7 := (Blk.newAt (w := w.alloc (.cells #[.int .i64 0, .slice none 0 0] 27)) (t := 27) (cs := #[.int .i64 n, .slice none 0 0]) (b := w.heap.size + 1) (by simp)).grown hG2 (fun k hk => by injection hk; omega)
  have hg2 : w.grownBy w2 (some g) := gr_trans ((((Ext.refl w).alloc _).alloc _).gr _) hG2
  have hGL : GL w w2 g (w.heap.size + 1) n none 0 0 [] b n xs := ⟨⟨hB6, hB7, ⟨by simp, .inl ⟨rfl, rfl⟩⟩, (fun q hq => by cases hq), hC2, hg2, by simp⟩, hI2, by simp at hb; omega⟩
  clear hB6 hB7 hC2 hg2 hG2 hI2
  generalize hs : w.heap.size + 1 = s at hGL ⊢
  have HS := Lib.hid hs
  have hws : w.heap.size < s := by omega
  have hgs : g < s := by omega
  clear hs hb
  go_wp2
  go_loopw [7] (fun i wr => ∃ (k : Nat) (A : Option Addr) (len cap : Nat) (es : List Ed), 1 ≤ k ∧ k ≤ n ∧ i = .int .i64 k ∧ len ≤ 2 * (k - 1) ∧ GL w wr g s n A len cap es b n xs) (fun i _ => n - (intOf i).toNat)
  case atStart => exact ⟨1, none, 0, 0, [], Nat.le_refl _, hn1, rfl, Nat.zero_le _, hGL⟩
  case round =>
    clear hGL
    obtain ⟨k, A, len, cap, es, hk1, hkn, rfl, hlen, hGL⟩ := hrel
    by_cases hlt : k < n
    · have hk0 : (0 : Int) ≤ (k : Int) := by omega
      have hkn' : (k : Int) < (n : Int) := by omega
      have HGL := Lib.hid hGL
      clear hGL
      go_wp2
      refine wp_region_held_drew (S := fun W => GL w W g s n A len cap es b n xs ∧ ∀ j, j < n → W.cell? ⟨b, j, none⟩ = some (.int .i64 (xs.getD j 0))) (by kernel_rfl) ⟨HGL.out.drew, HGL.out.drew.cell⟩ (fun hHeld => ?_)
      (refine wpAnyH_take (i := 0) (v := ?_) rfl (by kernel_rfl) (by kernel_rfl) (by kernel_rfl) (fun _ _ _ h => h) (Or.inl ⟨by rfl, ?_⟩) (by assumption) ?_; rotate_left; · (intro w hSw; (try dsimp only at hSw); go_simp; all_goals with_reducible rfl); (try simp only [Act.put, List.getElem_toArray, List.getElem_cons_zero, List.getElem_cons_succ, List.setIfInBounds_toArray, List.set_cons_zero, List.set_cons_succ]))
      (refine wpAnyH_take (i := 1) (v := ?_) rfl (by kernel_rfl) (by kernel_rfl) (by kernel_rfl) (fun _ _ _ h => h) (Or.inl ⟨by rfl, ?_⟩) (by assumption) ?_; rotate_left; · (intro w hSw; (try dsimp only at hSw); go_simp; all_goals with_reducible rfl); (try simp only [Act.put, List.getElem_toArray, List.getElem_cons_zero, List.getElem_cons_succ, List.setIfInBounds_toArray, List.set_cons_zero, List.set_cons_succ]))
      (refine wpAnyH_take (i := 2) (v := ?_) rfl (by kernel_rfl) (by kernel_rfl) (by kernel_rfl) (fun _ _ _ h => h) (Or.inl ⟨by rfl, ?_⟩) (by assumption) ?_; rotate_left; · (intro w hSw; (try dsimp only at hSw); go_simp; all_goals with_reducible rfl); (try simp only [Act.put, List.getElem_toArray, List.getElem_cons_zero, List.getElem_cons_succ, List.setIfInBounds_toArray, List.set_cons_zero, List.set_cons_succ]))
      (refine wpAnyH_take (i := 3) (v := ?_) rfl (by kernel_rfl) (by kernel_rfl) (by kernel_rfl) (fun _ _ _ h => h) (Or.inl ⟨by rfl, ?_⟩) (by assumption) ?_; rotate_left; · (intro w hSw; (try dsimp only at hSw); go_simp; all_goals with_reducible rfl); (try simp only [Act.put, List.getElem_toArray, List.getElem_cons_zero, List.getElem_cons_succ, List.setIfInBounds_toArray, List.set_cons_zero, List.set_cons_succ]))
      (refine wpAnyH_take (i := 4) (v := ?_) rfl (by kernel_rfl) (by kernel_rfl) (by kernel_rfl) (fun _ _ _ h => h) (Or.inl ⟨by rfl, ?_⟩) (by assumption) ?_; rotate_left; · (intro w hSw; (try dsimp only at hSw); go_simp; all_goals with_reducible rfl); (try simp only [Act.put, List.getElem_toArray, List.getElem_cons_zero, List.getElem_cons_succ, List.setIfInBounds_toArray, List.set_cons_zero, List.set_cons_succ]))
      (refine wpAnyH_take (i := 5) (v := ?_) rfl (by kernel_rfl) (by kernel_rfl) (by kernel_rfl) (fun _ _ _ h => h) (Or.inl ⟨by rfl, ?_⟩) (by assumption) ?_; rotate_left; · (intro w hSw; (try dsimp only at hSw); go_simp; all_goals with_reducible rfl); (try simp only [Act.put, List.getElem_toArray, List.getElem_cons_zero, List.getElem_cons_succ, List.setIfInBounds_toArray, List.set_cons_zero, List.set_cons_succ]))
      (refine wpAnyH_take (i := 6) (v := ?_) rfl (by kernel_rfl) (by kernel_rfl) (by kernel_rfl) (fun _ _ _ h => h) (Or.inl ⟨by rfl, ?_⟩) (by assumption) ?_; rotate_left; · (intro w hSw; (try dsimp only at hSw); go_simp; all_goals with_reducible rfl); (try simp only [Act.put, List.getElem_toArray, List.getElem_cons_zero, List.getElem_cons_succ, List.setIfInBounds_toArray, List.set_cons_zero, List.set_cons_succ]))
      refine wpAnyH_ready (rs := [7, 11]) (by kernel_rfl) (by simp) ?_
      refine AllReadyH.cons rfl (fun K hK => ?wA) (AllReadyH.cons rfl (fun K hK => ?wB) AllReadyH.nil)
      case' wA =>
        go_simp
        refine (l1Below_any g k _ hHeld.1.cur (by omega)).mono ?_
        rintro e w3 ⟨x, rfl, ⟨hx0, hx1, _⟩, hC3, hG3⟩
        obtain ⟨j, rfl⟩ := Int.eq_ofNat_of_zero_le hx0
        have hj : j < n := by have := hx1 (by omega); omega
        have hj0 : (0 : Int) ≤ (j : Int) := by omega
        have hjn : (j : Int) < (n : Int) := by omega
        clear hx0 hx1
        have hGL3 := hHeld.1.grown hG3 hC3 hgs hgl
        refine hK.out _ _ ⟨hGL3, hGL3.cell⟩ (fun hHeld => ?_)
        clear hK K
        (try simp only [Act.put, List.getElem_toArray, List.getElem_cons_zero, List.getElem_cons_succ, List.setIfInBounds_toArray, List.set_cons_zero, List.set_cons_succ])
        (refine wpAnyH_take (i := 8) (v := ?_) rfl (by kernel_rfl) (by kernel_rfl) (by kernel_rfl) (fun _ _ _ h => h) (Or.inl ⟨by rfl, ?_⟩) (by assumption) ?_; rotate_left; · (intro w hSw; (try dsimp only at hSw); go_simp; all_goals with_reducible rfl); (try simp only [Act.put, List.getElem_toArray, List.getElem_cons_zero, List.getElem_cons_succ, List.setIfInBounds_toArray, List.set_cons_zero, List.set_cons_succ]))
        (refine wpAnyH_take (i := 9) (v := ?_) rfl (by kernel_rfl) (by kernel_rfl) (by kernel_rfl) (fun _ _ _ h => h) (Or.inl ⟨by rfl, ?_⟩) (by assumption) ?_; rotate_left; · (intro w hSw; (try dsimp only at hSw); go_simp; all_goals with_reducible rfl); (try simp only [Act.put, List.getElem_toArray, List.getElem_cons_zero, List.getElem_cons_succ, List.setIfInBounds_toArray, List.set_cons_zero, List.set_cons_succ]))
        (refine wpAnyH_take (i := 10) (v := ?_) rfl (by kernel_rfl) (by kernel_rfl) (by kernel_rfl) (fun _ _ _ h => h) (Or.inl ⟨by rfl, ?_⟩) (by assumption) ?_; rotate_left; · (intro w hSw; (try dsimp only at hSw); go_simp; all_goals with_reducible rfl); (try simp only [Act.put, List.getElem_toArray, List.getElem_cons_zero, List.getElem_cons_succ, List.setIfInBounds_toArray, List.set_cons_zero, List.set_cons_succ]))
        (refine wpAnyH_ready (rs := [11]) (by kernel_rfl) (by simp) ?_; refine AllReadyH.cons rfl (fun K hK => ?_) AllReadyH.nil; go_simp)
        refine hK.out _ _ ⟨hHeld.1.alloc _, (hHeld.1.alloc _).cell⟩ (fun hHeld => ?_)
        clear hK K
        (try simp only [Act.put, List.getElem_toArray, List.getElem_cons_zero, List.getElem_cons_succ, List.setIfInBounds_toArray, List.set_cons_zero, List.set_cons_succ])
        (refine wpAnyH_ready (rs := [12]) (by kernel_rfl) (by simp) ?_; refine AllReadyH.cons rfl (fun K hK => ?_) AllReadyH.nil; go_simp)
        have hE := Blk.newAt (w := w3) (t := 63) (cs := #[.int .i64 (xs.getD k 0), .int .i64 (xs.getD j 0)]) (b := w3.heap.size) rfl
        have hGL4 := hGL3.alloc (.cells #[.int .i64 (xs.getD k 0), .int .i64 (xs.getD j 0)] 63)
        refine hK.out _ _ ⟨hGL4, hGL4.cell⟩ (fun hHeld => ?_)
        clear hK K
        (try simp only [Act.put, List.getElem_toArray, List.getElem_cons_zero, List.getElem_cons_succ, List.setIfInBounds_toArray, List.set_cons_zero, List.set_cons_succ])
        (refine wpAnyH_done (by kernel_rfl) ?_ _)
        have hE6 := hE
        have hGL6 := hGL4
        have hbt := hGL3.lt
        have hqt := fun q hq => (own_ne hGL3.1.2.2.1 (Nat.le_refl _) q hq).2
        have hsb := hGL3.2.2
        have ht : w.heap.size < w3.heap.size := by omega
        clear hE hGL3 hGL4 hHeld hG3 hC3 hsb
        clear hHeld
        have hyz : Ed.ok ⟨xs.getD k 0, xs.getD j 0⟩ := ⟨hGL6.2.1.rng hlt, hGL6.2.1.rng hj⟩
        simp only [List.getD_eq_getElem?_getD] at hE6 hGL6 hyz
        generalize xs[k]?.getD 0 = y at hE6 hGL6 hyz ⊢
        generalize xs[j]?.getD 0 = z at hE6 hGL6 hyz ⊢
        generalize hW : w3.alloc _ = W at hE6 hGL6 ⊢
        clear hW
        generalize ht' : w3.heap.size = t at hE6 hqt hbt ht ⊢
      case' wB =>
        go_simp
        have hE := Blk.newAt (w := wr) (t := 63) (cs := #[.int .i64 0, .int .i64 0]) (b := wr.heap.size) rfl
        have hGL3 := (HGL.out.alloc (.cells #[.int .i64 0, .int .i64 0] 63)).drew
        refine hK.out _ _ ⟨hGL3, hGL3.cell⟩ (fun hHeld => ?_)
        clear hK K
        (try simp only [Act.put, List.getElem_toArray, List.getElem_cons_zero, List.getElem_cons_succ, List.setIfInBounds_toArray, List.set_cons_zero, List.set_cons_succ])
        (refine wpAnyH_ready (rs := [7]) (by kernel_rfl) (by simp) ?_; refine AllReadyH.cons rfl (fun K hK => ?_) AllReadyH.nil; go_simp)
        refine (l1Below_any g k _ hHeld.1.cur (by omega)).mono ?_
        rintro e w3 ⟨x, rfl, ⟨hx0, hx1, _⟩, hC3, hG3⟩
        obtain ⟨j, rfl⟩ := Int.eq_ofNat_of_zero_le hx0
        have hj : j < n := by have := hx1 (by omega); omega
        have hj0 : (0 : Int) ≤ (j : Int) := by omega
        have hjn : (j : Int) < (n : Int) := by omega
        clear hx0 hx1
        have hGL4 := hHeld.1.grown hG3 hC3 hgs hgl
        refine hK.out _ _ ⟨hGL4, hGL4.cell⟩ (fun hHeld => ?_)
        clear hK K
        (try simp only [Act.put, List.getElem_toArray, List.getElem_cons_zero, List.getElem_cons_succ, List.setIfInBounds_toArray, List.set_cons_zero, List.set_cons_succ])
        (refine wpAnyH_take (i := 8) (v := ?_) rfl (by kernel_rfl) (by kernel_rfl) (by kernel_rfl) (fun _ _ _ h => h) (Or.inl ⟨by rfl, ?_⟩) (by assumption) ?_; rotate_left; · (intro w hSw; (try dsimp only at hSw); go_simp; all_goals with_reducible rfl); (try simp only [Act.put, List.getElem_toArray, List.getElem_cons_zero, List.getElem_cons_succ, List.setIfInBounds_toArray, List.set_cons_zero, List.set_cons_succ]))
        (refine wpAnyH_take (i := 9) (v := ?_) rfl (by kernel_rfl) (by kernel_rfl) (by kernel_rfl) (fun _ _ _ h => h) (Or.inl ⟨by rfl, ?_⟩) (by assumption) ?_; rotate_left; · (intro w hSw; (try dsimp only at hSw); go_simp; all_goals with_reducible rfl); (try simp only [Act.put, List.getElem_toArray, List.getElem_cons_zero, List.getElem_cons_succ, List.setIfInBounds_toArray, List.set_cons_zero, List.set_cons_succ]))
        (refine wpAnyH_take (i := 10) (v := ?_) rfl (by kernel_rfl) (by kernel_rfl) (by kernel_rfl) (fun _ _ _ h => h) (Or.inl ⟨by rfl, ?_⟩) (by assumption) ?_; rotate_left; · (intro w hSw; (try dsimp only at hSw); go_simp; all_goals with_reducible rfl); (try simp only [Act.put, List.getElem_toArray, List.getElem_cons_zero, List.getElem_cons_succ, List.setIfInBounds_toArray, List.set_cons_zero, List.set_cons_succ]))
        have hbt := HGL.out.lt
        have hqt := fun q hq => (own_ne HGL.out.1.2.2.1 (Nat.le_refl _) q hq).2
        have hsb := HGL.out.2.2
        have hE3 := hE.drew.grown (w' := w3) hG3 (fun q hq => by injection hq; omega)
        have hc0 : w3.cell? ⟨wr.heap.size, 0, none⟩ = some (.int .i64 0) := hE3.cell 0
        have hc1 : ∀ u, (w3.setCell ⟨wr.heap.size, 0, none⟩ u).cell? ⟨wr.heap.size, 1, none⟩ = some (.int .i64 0) := fun u => (hE3.set_ 0 u).cell 1
        have hf0 : w3.frozen? ⟨wr.heap.size, 0, none⟩ = false := hE3.frozen 0
        have hf1 : ∀ u, (w3.setCell ⟨wr.heap.size, 0, none⟩ u).frozen? ⟨wr.heap.size, 1, none⟩ = false := fun u => (hE3.set_ 0 u).frozen 1
        (refine wpAnyH_ready (rs := [12]) (by kernel_rfl) (by simp) ?_; refine AllReadyH.cons rfl (fun K hK => ?_) AllReadyH.nil; go_simp)
        have hGL6 := (hGL4.far (t := wr.heap.size) (j := 0) (.int .i64 (xs.getD k 0)) hbt (by omega) hgl hqt).far (t := wr.heap.size) (j := 1) (.int .i64 (xs.getD j 0)) hbt (by omega) hgl hqt
        refine hK.out _ _ ⟨hGL6, hGL6.cell⟩ (fun hHeld => ?_)
        clear hK K
        (try simp only [Act.put, List.getElem_toArray, List.getElem_cons_zero, List.getElem_cons_succ, List.setIfInBounds_toArray, List.set_cons_zero, List.set_cons_succ])
        (refine wpAnyH_done (by kernel_rfl) ?_ _)
        have hE6 := hE3.set2 (.int .i64 (xs.getD k 0)) (.int .i64 (xs.getD j 0))
        have ht : w.heap.size < wr.heap.size := by omega
        clear hE hGL3 hGL4 hE3 hc0 hc1 hf0 hf1 hHeld hG3 hC3 hsb
        clear hHeld
        have hyz : Ed.ok ⟨xs.getD k 0, xs.getD j 0⟩ := ⟨hGL6.2.1.rng hlt, hGL6.2.1.rng hj⟩
        simp only [List.getD_eq_getElem?_getD] at hE6 hGL6 hyz
        generalize xs[k]?.getD 0 = y at hE6 hGL6 hyz ⊢
        generalize xs[j]?.getD 0 = z at hE6 hGL6 hyz ⊢
        generalize hW : (w3.setCell _ _).setCell _ _ = W at hE6 hGL6 ⊢
        clear hW
        generalize ht' : wr.heap.size = t at hE6 hqt hbt ht ⊢
      all_goals
        clear ht'
        have hGE : GE w W g s n A len cap es b n xs t y z := ⟨hGL6, hE6, hbt, ht, hqt, hyz⟩
        clear hGL6 hE6 hbt ht hqt hyz
        go_wp2_with fail
        refine (l1Once_any g 2 W hGE.1.cur (by omega)).mono ?_
        rintro e w4 ⟨f1, rfl, hC4, hG4⟩
        have hGE7 := hGE.grown hG4 hC4 hgs hgl
        clear hGE hG4 hC4 W HGL
        have hs4 := hGE7.1.1.2.1.lt
        have ht4 := hGE7.2.1.lt
        cases f1
        case' false =>
          have HG := Lib.hid hGE7
          obtain ⟨⟨b0, b1⟩, z0, z1⟩ := blk2 hGE7.1.1.2.1
          obtain ⟨⟨a0, a1⟩, y0, y1⟩ := blk2 hGE7.2.1
          clear hGE7
          go_wp2_with (at_builtin; refine appE1 (B := w.heap.size + 1) rfl _ _ rfl _ len _ rfl HG.out.1.1.2.2.1 (by omega) ⟨_, _⟩ _ _ rfl rfl (by omega) ?_; intro A7 c7 w7 ho hg hb; have HA := Lib.hid (HG.out.app HG.out.2.2.2.2.2 hws hgl ho hg hb); have k6 : w7.cell? ⟨s, 1, none⟩ = some (.slice A len cap) := HA.out.1.cell 1; have f6 : w7.frozen? ⟨s, 1, none⟩ = false := HA.out.1.frozen 1; clear ho hg hb)
        case' true =>
          have HG := Lib.hid (hGE7.set2 hgl z y hGE7.2.2.2.2.2.sw)
          obtain ⟨⟨b0, b1⟩, z0, z1⟩ := blk2 HG.out.1.1.2.1
          obtain ⟨⟨a0, a1⟩, y0, y1⟩ := blk2 hGE7.2.1
          obtain ⟨⟨c0, c1⟩, x0, x1⟩ := blk2 HG.out.2.1
          have hs5 := HG.out.1.1.2.1.lt
          have y2 : ∀ u, (w4.setCell ⟨t, 0, none⟩ u).cell? ⟨t, 1, none⟩ = some (.int .i64 z) := fun u => (hGE7.2.1.set_ 0 u).cell 1
          have y3 : ∀ u, (w4.setCell ⟨t, 0, none⟩ u).frozen? ⟨t, 1, none⟩ = false := fun u => (hGE7.2.1.set_ 0 u).frozen 1
          clear hGE7
          go_wp2_with (at_builtin; go_loud (refine appE1 (B := w.heap.size + 1) rfl _ _ rfl _ len _ rfl HG.out.1.1.2.2.1 (by omega) ⟨_, _⟩ _ _ (by rfl) (by simp) (by omega) ?_; intro A7 c7 w7 ho hg hb; have HA := Lib.hid (HG.out.app HG.out.2.2.2.2.2 hws hgl ho hg hb); have k6 : w7.cell? ⟨s, 1, none⟩ = some (.slice A len cap) := HA.out.1.cell 1; have f6 : w7.frozen? ⟨s, 1, none⟩ = false := HA.out.1.frozen 1; clear ho hg hb))
          clear x0 x1 c0 c1 hs5 y2 y3
        all_goals
          clear b0 b1 z0 z1 a0 a1 y0 y1
          clear k6 f6
          refine (l1Once_any g 4 _ HA.out.2.1.cur (by omega)).mono ?_
          rintro e w8 ⟨f2, rfl, hC8, hG8⟩
          have hGE8 := HA.out.2.grown hG8 hC8 hgs hgl
          clear HA HG hC8 hG8
          have hs8 := hGE8.1.1.2.1.lt
          have hw8 := hGE8.1.1.1.lt
          cases f2
          · have HG := Lib.hid hGE8
            clear hGE8
            go_wp2
            go_roundw
            case rel => exact ⟨k + 1, _, len + 1, _, _, by omega, by omega, by simp, by omega, HG.out.1⟩
            case measure => simp [intOf]; omega
          · have HG := Lib.hid hGE8
            obtain ⟨⟨b0, b1⟩, z0, z1⟩ := blk2 hGE8.1.1.2.1
            obtain ⟨⟨a0, a1⟩, y0, y1⟩ := blk2 hGE8.2.1
            clear hGE8
            go_wp2_with (at_builtin; refine appE1 (B := w.heap.size + 1) rfl _ _ rfl _ (len + 1) _ rfl HG.out.1.1.2.2.1 (by omega) ⟨_, _⟩ _ _ rfl rfl (by omega) ?_; intro A9 c9 w9 ho hg hb; have HA := Lib.hid (HG.out.app HG.out.2.2.2.2.2.sw hws hgl ho hg hb); have k6 : w9.cell? ⟨s, 1, none⟩ = some (.slice A7 (len + 1) c7) := HA.out.1.cell 1; have f6 : w9.frozen? ⟨s, 1, none⟩ = false := HA.out.1.frozen 1; clear ho hg hb)
            clear b0 b1 z0 z1 a0 a1 y0 y1 k6 f6
            go_roundw
            case rel => exact ⟨k + 1, _, len + 1 + 1, _, _, by omega, by omega, by simp, by omega, HA.out.2.1⟩
            case measure => simp [intOf]; omega
    · have hkn : k = n := by omega
      subst hkn
      have hk0 : ¬ ((k : Int) < (k : Int)) := by omega
      have hs8 := hGL.1.2.1.lt
      have hw8 := hGL.1.1.lt
      have HG := Lib.hid hGL
      clear hGL
      by_cases h2 : k ≤ 2
      · have h2' : ¬ ((2 : Int) < (k : Int)) := by omega
        obtain ⟨⟨b0, b1⟩, z0, z1⟩ := blk2 HG.out.1.2.1
        obtain ⟨⟨a0, a1⟩, y0, y1⟩ := blk2 HG.out.1.1
        go_wp2
        refine wp_region_held_drew (S := fun W => GL w W g s k A len cap es b k xs) (by kernel_rfl) HG.out.drew (fun hHeld => ?_)
        (refine wpAnyH_take (i := 0) (v := ?_) rfl (by kernel_rfl) (by kernel_rfl) (by kernel_rfl) (fun _ _ _ h => h) (Or.inl ⟨by rfl, ?_⟩) (by assumption) ?_; rotate_left; · (intro w hSw; (try dsimp only at hSw); go_simp; all_goals with_reducible rfl); (try simp only [Act.put, List.getElem_toArray, List.getElem_cons_zero, List.getElem_cons_succ, List.setIfInBounds_toArray, List.set_cons_zero, List.set_cons_succ]))
        (refine wpAnyH_take (i := 1) (v := .bool false) rfl (by kernel_rfl) (by kernel_rfl) (by kernel_rfl) (fun _ _ _ h => h) (Or.inl ⟨by rfl, ?_⟩) (by assumption) ?_; · (intro w hSw; (try dsimp only at hSw); go_simp; first | done | (trace_state; omega)))
        (try simp only [Act.put, List.getElem_toArray, List.getElem_cons_zero, List.getElem_cons_succ, List.setIfInBounds_toArray, List.set_cons_zero, List.set_cons_succ])
        (refine wpAnyH_take (i := 2) (v := ?_) rfl (by kernel_rfl) (by kernel_rfl) (by kernel_rfl) (fun _ _ _ h => h) (Or.inl ⟨by rfl, ?_⟩) (by assumption) ?_; rotate_left; · (intro w hSw; (try dsimp only at hSw); go_simp; all_goals with_reducible rfl); (try simp only [Act.put, List.getElem_toArray, List.getElem_cons_zero, List.getElem_cons_succ, List.setIfInBounds_toArray, List.set_cons_zero, List.set_cons_succ]))
        (refine wpAnyH_take (i := 3) rfl (by kernel_rfl) (by kernel_rfl) (by kernel_rfl) (fun _ _ _ h => h) (Or.inr ⟨by first | kernel_rfl | rfl, rfl⟩) (by assumption) ?_; (try simp only [Act.put, List.getElem_toArray, List.getElem_cons_zero, List.getElem_cons_succ, List.setIfInBounds_toArray, List.set_cons_zero, List.set_cons_succ]))
        (refine wpAnyH_take (i := 4) rfl (by kernel_rfl) (by kernel_rfl) (by kernel_rfl) (fun _ _ _ h => h) (Or.inr ⟨by first | kernel_rfl | rfl, rfl⟩) (by assumption) ?_; (try simp only [Act.put, List.getElem_toArray, List.getElem_cons_zero, List.getElem_cons_succ, List.setIfInBounds_toArray, List.set_cons_zero, List.set_cons_succ]))
        (refine wpAnyH_take (i := 5) (v := ?_) rfl (by kernel_rfl) (by kernel_rfl) (by kernel_rfl) (fun _ _ _ h => h) (Or.inl ⟨by rfl, ?_⟩) (by assumption) ?_; rotate_left; · (intro w hSw; (try dsimp only at hSw); go_simp; all_goals with_reducible rfl); (try simp only [Act.put, List.getElem_toArray, List.getElem_cons_zero, List.getElem_cons_succ, List.setIfInBounds_toArray, List.set_cons_zero, List.set_cons_succ]))
        (refine wpAnyH_take (i := 6) (v := ?_) rfl (by kernel_rfl) (by kernel_rfl) (by kernel_rfl) (fun _ _ _ h => h) (Or.inl ⟨by rfl, ?_⟩) (by assumption) ?_; rotate_left; · (intro w hSw; (try dsimp only at hSw); go_simp; all_goals with_reducible rfl); (try simp only [Act.put, List.getElem_toArray, List.getElem_cons_zero, List.getElem_cons_succ, List.setIfInBounds_toArray, List.set_cons_zero, List.set_cons_succ]))
        (try simp only [Act.put, List.getElem_toArray, List.getElem_cons_zero, List.getElem_cons_succ, List.setIfInBounds_toArray, List.set_cons_zero, List.set_cons_succ])
        (refine wpAnyH_take (i := 7) rfl (by kernel_rfl) (by kernel_rfl) (by kernel_rfl) (fun _ _ _ h => h) (Or.inr ⟨by first | kernel_rfl | rfl, rfl⟩) (by assumption) ?_; (try simp only [Act.put, List.getElem_toArray, List.getElem_cons_zero, List.getElem_cons_succ, List.setIfInBounds_toArray, List.set_cons_zero, List.set_cons_succ]))
        (refine wpAnyH_take (i := 8) rfl (by kernel_rfl) (by kernel_rfl) (by kernel_rfl) (fun _ _ _ h => h) (Or.inr ⟨by first | kernel_rfl | rfl, rfl⟩) (by assumption) ?_; (try simp only [Act.put, List.getElem_toArray, List.getElem_cons_zero, List.getElem_cons_succ, List.setIfInBounds_toArray, List.set_cons_zero, List.set_cons_succ]))
        (refine wpAnyH_take (i := 9) rfl (by kernel_rfl) (by kernel_rfl) (by kernel_rfl) (fun _ _ _ h => h) (Or.inr ⟨by first | kernel_rfl | rfl, rfl⟩) (by assumption) ?_; (try simp only [Act.put, List.getElem_toArray, List.getElem_cons_zero, List.getElem_cons_succ, List.setIfInBounds_toArray, List.set_cons_zero, List.set_cons_succ]))
        (refine wpAnyH_take (i := 10) rfl (by kernel_rfl) (by kernel_rfl) (by kernel_rfl) (fun _ _ _ h => h) (Or.inr ⟨by first | kernel_rfl | rfl, rfl⟩) (by assumption) ?_; (try simp only [Act.put, List.getElem_toArray, List.getElem_cons_zero, List.getElem_cons_succ, List.setIfInBounds_toArray, List.set_cons_zero, List.set_cons_succ]))
        (refine wpAnyH_take (i := 11) rfl (by kernel_rfl) (by kernel_rfl) (by kernel_rfl) (fun _ _ _ h => h) (Or.inr ⟨by first | kernel_rfl | rfl, rfl⟩) (by assumption) ?_; (try simp only [Act.put, List.getElem_toArray, List.getElem_cons_zero, List.getElem_cons_succ, List.setIfInBounds_toArray, List.set_cons_zero, List.set_cons_succ]))
        (refine wpAnyH_take (i := 12) rfl (by kernel_rfl) (by kernel_rfl) (by kernel_rfl) (fun _ _ _ h => h) (Or.inr ⟨by first | kernel_rfl | rfl, rfl⟩) (by assumption) ?_; (try simp only [Act.put, List.getElem_toArray, List.getElem_cons_zero, List.getElem_cons_succ, List.setIfInBounds_toArray, List.set_cons_zero, List.set_cons_succ]))
        (refine wpAnyH_take (i := 13) rfl (by kernel_rfl) (by kernel_rfl) (by kernel_rfl) (fun _ _ _ h => h) (Or.inr ⟨by first | kernel_rfl | rfl, rfl⟩) (by assumption) ?_; (try simp only [Act.put, List.getElem_toArray, List.getElem_cons_zero, List.getElem_cons_succ, List.setIfInBounds_toArray, List.set_cons_zero, List.set_cons_succ]))
        (refine wpAnyH_take (i := 14) rfl (by kernel_rfl) (by kernel_rfl) (by kernel_rfl) (fun _ _ _ h => h) (Or.inr ⟨by first | kernel_rfl | rfl, rfl⟩) (by assumption) ?_; (try simp only [Act.put, List.getElem_toArray, List.getElem_cons_zero, List.getElem_cons_succ, List.setIfInBounds_toArray, List.set_cons_zero, List.set_cons_succ]))
        (refine wpAnyH_take (i := 15) rfl (by kernel_rfl) (by kernel_rfl) (by kernel_rfl) (fun _ _ _ h => h) (Or.inr ⟨by first | kernel_rfl | rfl, rfl⟩) (by assumption) ?_; (try simp only [Act.put, List.getElem_toArray, List.getElem_cons_zero, List.getElem_cons_succ, List.setIfInBounds_toArray, List.set_cons_zero, List.set_cons_succ]))
        (refine wpAnyH_take (i := 16) rfl (by kernel_rfl) (by kernel_rfl) (by kernel_rfl) (fun _ _ _ h => h) (Or.inr ⟨by first | kernel_rfl | rfl, rfl⟩) (by assumption) ?_; (try simp only [Act.put, List.getElem_toArray, List.getElem_cons_zero, List.getElem_cons_succ, List.setIfInBounds_toArray, List.set_cons_zero, List.set_cons_succ]))
        (refine wpAnyH_take (i := 17) rfl (by kernel_rfl) (by kernel_rfl) (by kernel_rfl) (fun _ _ _ h => h) (Or.inr ⟨by first | kernel_rfl | rfl, rfl⟩) (by assumption) ?_; (try simp only [Act.put, List.getElem_toArray, List.getElem_cons_zero, List.getElem_cons_succ, List.setIfInBounds_toArray, List.set_cons_zero, List.set_cons_succ]))
        (refine wpAnyH_take (i := 18) (v := ?_) rfl (by kernel_rfl) (by kernel_rfl) (by kernel_rfl) (fun _ _ _ h => h) (Or.inl ⟨by rfl, ?_⟩) (by assumption) ?_; rotate_left; · (intro w hSw; (try dsimp only at hSw); go_simp; all_goals with_reducible rfl); (try simp only [Act.put, List.getElem_toArray, List.getElem_cons_zero, List.getElem_cons_succ, List.setIfInBounds_toArray, List.set_cons_zero, List.set_cons_succ]))
        (try simp only [Act.put, List.getElem_toArray, List.getElem_cons_zero, List.getElem_cons_succ, List.setIfInBounds_toArray, List.set_cons_zero, List.set_cons_succ])
        (refine wpAnyH_done (by kernel_rfl) ?_ _)
        go_wp2
        exact bodyPost_ret (v := .agg #[.int .i64 k, .slice A len cap]) (ret2g rfl HG.out.1.drew.1 (.int .i64 k) (.slice A len cap) _ rfl) rfl (DrewGr.mk k A len cap es rfl (by omega) (HG.out.1.drew.done hgl))
      · have h2' : (2 : Int) < (k : Int) := by omega
        obtain ⟨m, hm⟩ : ∃ m : Nat, (k : Int) - 1 = (m : Int) := ⟨k - 1, by omega⟩
        have hm0 : (0 : Int) ≤ (m : Int) := by omega
        have hmk : (m : Int) < (k : Int) := by omega
        have hk1' : (0 : Int) < (k : Int) := by omega
        have hkN : 0 < k := by omega
        have hmN : m < k := by omega
        obtain ⟨⟨b0, b1⟩, z0, z1⟩ := blk2 HG.out.1.2.1
        obtain ⟨⟨a0, a1⟩, y0, y1⟩ := blk2 HG.out.1.1
        go_wp2
        have hS : ∀ W, GL w W g s k A len cap es b k xs → GL w W g s k A len cap es b k xs ∧ W.cell? ⟨b, 0, none⟩ = some (.int .i64 (xs.getD 0 0)) ∧ W.cell? ⟨b, m, none⟩ = some (.int .i64 (xs.getD m 0)) ∧ W.cell? ⟨s, 0, none⟩ = some (.int .i64 k) ∧ W.cell? ⟨s, 1, none⟩ = some (.slice A len cap) := fun W h => ⟨h, h.cell 0 (by omega), h.cell m (by omega), h.1.2.1.cell 0, h.1.2.1.cell 1⟩
        refine wp_region_held_drew (S := fun W => GL w W g s k A len cap es b k xs ∧ W.cell? ⟨b, 0, none⟩ = some (.int .i64 (xs.getD 0 0)) ∧ W.cell? ⟨b, m, none⟩ = some (.int .i64 (xs.getD m 0)) ∧ W.cell? ⟨s, 0, none⟩ = some (.int .i64 k) ∧ W.cell? ⟨s, 1, none⟩ = some (.slice A len cap)) (by kernel_rfl) (hS _ HG.out.drew) (fun hHeld => ?_)
        (refine wpAnyH_take (i := 0) (v := ?_) rfl (by kernel_rfl) (by kernel_rfl) (by kernel_rfl) (fun _ _ _ h => h) (Or.inl ⟨by rfl, ?_⟩) (by assumption) ?_; rotate_left; · (intro w hSw; (try dsimp only at hSw); go_simp; all_goals with_reducible rfl); (try simp only [Act.put, List.getElem_toArray, List.getElem_cons_zero, List.getElem_cons_succ, List.setIfInBounds_toArray, List.set_cons_zero, List.set_cons_succ]))
        (refine wpAnyH_take (i := 1) (v := .bool true) rfl (by kernel_rfl) (by kernel_rfl) (by kernel_rfl) (fun _ _ _ h => h) (Or.inl ⟨by rfl, ?_⟩) (by assumption) ?_; · (intro w hSw; (try dsimp only at hSw); go_simp; first | done | (trace_state; omega)))
        (try simp only [Act.put, List.getElem_toArray, List.getElem_cons_zero, List.getElem_cons_succ, List.setIfInBounds_toArray, List.set_cons_zero, List.set_cons_succ])
        (refine wpAnyH_take (i := 2) (v := ?_) rfl (by kernel_rfl) (by kernel_rfl) (by kernel_rfl) (fun _ _ _ h => h) (Or.inl ⟨by rfl, ?_⟩) (by assumption) ?_; rotate_left; · (intro w hSw; (try dsimp only at hSw); go_simp; all_goals with_reducible rfl); (try simp only [Act.put, List.getElem_toArray, List.getElem_cons_zero, List.getElem_cons_succ, List.setIfInBounds_toArray, List.set_cons_zero, List.set_cons_succ]))
        (refine wpAnyH_take (i := 3) (v := ?_) rfl (by kernel_rfl) (by kernel_rfl) (by kernel_rfl) (fun _ _ _ h => h) (Or.inl ⟨by rfl, ?_⟩) (by assumption) ?_; rotate_left; · (intro w hSw; (try dsimp only at hSw); go_simp; all_goals with_reducible rfl); (try simp only [Act.put, List.getElem_toArray, List.getElem_cons_zero, List.getElem_cons_succ, List.setIfInBounds_toArray, List.set_cons_zero, List.set_cons_succ]))
        (refine wpAnyH_ready (rs := [4]) (by kernel_rfl) (by simp) ?_; refine AllReadyH.cons rfl (fun K hK => ?_) AllReadyH.nil; go_simp)
        refine (l1Once_any g 3 _ hHeld.1.cur (by omega)).mono ?_
        rintro e w4 ⟨f1, rfl, hC4, hG4⟩
        have hGL4 := hHeld.1.grown hG4 hC4 hgs hgl
        refine hK.out _ _ (hS _ hGL4) (fun hHeld => ?_)
        clear hK K
        (try simp only [Act.put, List.getElem_toArray, List.getElem_cons_zero, List.getElem_cons_succ, List.setIfInBounds_toArray, List.set_cons_zero, List.set_cons_succ])
        clear hG4
        cases f1
        · (refine wpAnyH_take (i := 5) (v := ?_) rfl (by kernel_rfl) (by kernel_rfl) (by kernel_rfl) (fun _ _ _ h => h) (Or.inl ⟨by rfl, ?_⟩) (by assumption) ?_; rotate_left; · (intro w hSw; (try dsimp only at hSw); go_simp; all_goals with_reducible rfl); (try simp only [Act.put, List.getElem_toArray, List.getElem_cons_zero, List.getElem_cons_succ, List.setIfInBounds_toArray, List.set_cons_zero, List.set_cons_succ]))
          (refine wpAnyH_take (i := 6) (v := ?_) rfl (by kernel_rfl) (by kernel_rfl) (by kernel_rfl) (fun _ _ _ h => h) (Or.inl ⟨by rfl, ?_⟩) (by assumption) ?_; rotate_left; · (intro w hSw; (try dsimp only at hSw); go_simp; all_goals with_reducible rfl); (try simp only [Act.put, List.getElem_toArray, List.getElem_cons_zero, List.getElem_cons_succ, List.setIfInBounds_toArray, List.set_cons_zero, List.set_cons_succ]))
          (try simp only [Act.put, List.getElem_toArray, List.getElem_cons_zero, List.getElem_cons_succ, List.setIfInBounds_toArray, List.set_cons_zero, List.set_cons_succ])
          (refine wpAnyH_take (i := 7) rfl (by kernel_rfl) (by kernel_rfl) (by kernel_rfl) (fun _ _ _ h => h) (Or.inr ⟨by first | kernel_rfl | rfl, rfl⟩) (by assumption) ?_; (try simp only [Act.put, List.getElem_toArray, List.getElem_cons_zero, List.getElem_cons_succ, List.setIfInBounds_toArray, List.set_cons_zero, List.set_cons_succ]))
          (refine wpAnyH_take (i := 8) rfl (by kernel_rfl) (by kernel_rfl) (by kernel_rfl) (fun _ _ _ h => h) (Or.inr ⟨by first | kernel_rfl | rfl, rfl⟩) (by assumption) ?_; (try simp only [Act.put, List.getElem_toArray, List.getElem_cons_zero, List.getElem_cons_succ, List.setIfInBounds_toArray, List.set_cons_zero, List.set_cons_succ]))
          (refine wpAnyH_take (i := 9) rfl (by kernel_rfl) (by kernel_rfl) (by kernel_rfl) (fun _ _ _ h => h) (Or.inr ⟨by first | kernel_rfl | rfl, rfl⟩) (by assumption) ?_; (try simp only [Act.put, List.getElem_toArray, List.getElem_cons_zero, List.getElem_cons_succ, List.setIfInBounds_toArray, List.set_cons_zero, List.set_cons_succ]))
          (refine wpAnyH_take (i := 10) rfl (by kernel_rfl) (by kernel_rfl) (by kernel_rfl) (fun _ _ _ h => h) (Or.inr ⟨by first | kernel_rfl | rfl, rfl⟩) (by assumption) ?_; (try simp only [Act.put, List.getElem_toArray, List.getElem_cons_zero, List.getElem_cons_succ, List.setIfInBounds_toArray, List.set_cons_zero, List.set_cons_succ]))
          (refine wpAnyH_take (i := 11) rfl (by kernel_rfl) (by kernel_rfl) (by kernel_rfl) (fun _ _ _ h => h) (Or.inr ⟨by first | kernel_rfl | rfl, rfl⟩) (by assumption) ?_; (try simp only [Act.put, List.getElem_toArray, List.getElem_cons_zero, List.getElem_cons_succ, List.setIfInBounds_toArray, List.set_cons_zero, List.set_cons_succ]))
          (refine wpAnyH_take (i := 12) rfl (by kernel_rfl) (by kernel_rfl) (by kernel_rfl) (fun _ _ _ h => h) (Or.inr ⟨by first | kernel_rfl | rfl, rfl⟩) (by assumption) ?_; (try simp only [Act.put, List.getElem_toArray, List.getElem_cons_zero, List.getElem_cons_succ, List.setIfInBounds_toArray, List.set_cons_zero, List.set_cons_succ]))
          (refine wpAnyH_take (i := 13) rfl (by kernel_rfl) (by kernel_rfl) (by kernel_rfl) (fun _ _ _ h => h) (Or.inr ⟨by first | kernel_rfl | rfl, rfl⟩) (by assumption) ?_; (try simp only [Act.put, List.getElem_toArray, List.getElem_cons_zero, List.getElem_cons_succ, List.setIfInBounds_toArray, List.set_cons_zero, List.set_cons_succ]))
          (refine wpAnyH_take (i := 14) rfl (by kernel_rfl) (by kernel_rfl) (by kernel_rfl) (fun _ _ _ h => h) (Or.inr ⟨by first | kernel_rfl | rfl, rfl⟩) (by assumption) ?_; (try simp only [Act.put, List.getElem_toArray, List.getElem_cons_zero, List.getElem_cons_succ, List.setIfInBounds_toArray, List.set_cons_zero, List.set_cons_succ]))
          (refine wpAnyH_take (i := 15) rfl (by kernel_rfl) (by kernel_rfl) (by kernel_rfl) (fun _ _ _ h => h) (Or.inr ⟨by first | kernel_rfl | rfl, rfl⟩) (by assumption) ?_; (try simp only [Act.put, List.getElem_toArray, List.getElem_cons_zero, List.getElem_cons_succ, List.setIfInBounds_toArray, List.set_cons_zero, List.set_cons_succ]))
          (refine wpAnyH_take (i := 16) rfl (by kernel_rfl) (by kernel_rfl) (by kernel_rfl) (fun _ _ _ h => h) (Or.inr ⟨by first | kernel_rfl | rfl, rfl⟩) (by assumption) ?_; (try simp only [Act.put, List.getElem_toArray, List.getElem_cons_zero, List.getElem_cons_succ, List.setIfInBounds_toArray, List.set_cons_zero, List.set_cons_succ]))
          (refine wpAnyH_take (i := 17) rfl (by kernel_rfl) (by kernel_rfl) (by kernel_rfl) (fun _ _ _ h => h) (Or.inr ⟨by first | kernel_rfl | rfl, rfl⟩) (by assumption) ?_; (try simp only [Act.put, List.getElem_toArray, List.getElem_cons_zero, List.getElem_cons_succ, List.setIfInBounds_toArray, List.set_cons_zero, List.set_cons_succ]))
          (refine wpAnyH_take (i := 18) (v := ?_) rfl (by kernel_rfl) (by kernel_rfl) (by kernel_rfl) (fun _ _ _ h => h) (Or.inl ⟨by rfl, ?_⟩) (by assumption) ?_; rotate_left; · (intro w hSw; (try dsimp only at hSw); go_simp; all_goals with_reducible rfl); (try simp only [Act.put, List.getElem_toArray, List.getElem_cons_zero, List.getElem_cons_succ, List.setIfInBounds_toArray, List.set_cons_zero, List.set_cons_succ]))
          (try simp only [Act.put, List.getElem_toArray, List.getElem_cons_zero, List.getElem_cons_succ, List.setIfInBounds_toArray, List.set_cons_zero, List.set_cons_succ])
          (refine wpAnyH_done (by kernel_rfl) ?_ _)
          have HG4 := Lib.hid hGL4
          clear b0 b1 z0 z1 a0 a1 y0 y1 hGL4 hHeld
          obtain ⟨⟨b0, b1⟩, z0, z1⟩ := blk2 HG4.out.1.2.1
          obtain ⟨⟨a0, a1⟩, y0, y1⟩ := blk2 HG4.out.1.1
          go_wp2
          exact bodyPost_ret (v := .agg #[.int .i64 k, .slice A len cap]) (ret2g rfl HG4.out.1.1 (.int .i64 k) (.slice A len cap) _ rfl) rfl (DrewGr.mk k A len cap es rfl (by omega) (HG4.out.1.done hgl))
        · (refine wpAnyH_take (i := 5) (v := ?_) rfl (by kernel_rfl) (by kernel_rfl) (by kernel_rfl) (fun _ _ _ h => h) (Or.inl ⟨by rfl, ?_⟩) (by assumption) ?_; rotate_left; · (intro w hSw; (try dsimp only at hSw); go_simp; all_goals with_reducible rfl); (try simp only [Act.put, List.getElem_toArray, List.getElem_cons_zero, List.getElem_cons_succ, List.setIfInBounds_toArray, List.set_cons_zero, List.set_cons_succ]))
          (try simp only [Act.put, List.getElem_toArray, List.getElem_cons_zero, List.getElem_cons_succ, List.setIfInBounds_toArray, List.set_cons_zero, List.set_cons_succ])
          (refine wpAnyH_take (i := 6) (v := ?_) rfl (by kernel_rfl) (by kernel_rfl) (by kernel_rfl) (fun _ _ _ h => h) (Or.inl ⟨by rfl, ?_⟩) (by assumption) ?_; rotate_left; · (intro w hSw; (try dsimp only at hSw); go_simp; all_goals with_reducible rfl); (try simp only [Act.put, List.getElem_toArray, List.getElem_cons_zero, List.getElem_cons_succ, List.setIfInBounds_toArray, List.set_cons_zero, List.set_cons_succ]))
          (try simp only [Act.put, List.getElem_toArray, List.getElem_cons_zero, List.getElem_cons_succ, List.setIfInBounds_toArray, List.set_cons_zero, List.set_cons_succ])
          (refine wpAnyH_take (i := 7) (v := ?_) rfl (by kernel_rfl) (by kernel_rfl) (by kernel_rfl) (fun _ _ _ h => h) (Or.inl ⟨by rfl, ?_⟩) (by assumption) ?_; rotate_left; · (intro w hSw; (try dsimp only at hSw); go_simp; all_goals with_reducible rfl); (try simp only [Act.put, List.getElem_toArray, List.getElem_cons_zero, List.getElem_cons_succ, List.setIfInBounds_toArray, List.set_cons_zero, List.set_cons_succ]))
          (try simp only [Act.put, List.getElem_toArray, List.getElem_cons_zero, List.getElem_cons_succ, List.setIfInBounds_toArray, List.set_cons_zero, List.set_cons_succ])
          (refine wpAnyH_take (i := 8) (v := ?_) rfl (by kernel_rfl) (by kernel_rfl) (by kernel_rfl) (fun _ _ _ h => h) (Or.inl ⟨by rfl, ?_⟩) (by assumption) ?_; rotate_left; · (intro w hSw; (try dsimp only at hSw); go_simp; all_goals with_reducible rfl); (try simp only [Act.put, List.getElem_toArray, List.getElem_cons_zero, List.getElem_cons_succ, List.setIfInBounds_toArray, List.set_cons_zero, List.set_cons_succ]))
          (try simp only [Act.put, List.getElem_toArray, List.getElem_cons_zero, List.getElem_cons_succ, List.setIfInBounds_toArray, List.set_cons_zero, List.set_cons_succ])
          (refine wpAnyH_take (i := 9) (v := ?_) rfl (by kernel_rfl) (by kernel_rfl) (by kernel_rfl) (fun _ _ _ h => h) (Or.inl ⟨by rfl, ?_⟩) (by assumption) ?_; rotate_left; · (intro w hSw; (try dsimp only at hSw); go_simp; all_goals with_reducible rfl); (try simp only [Act.put, List.getElem_toArray, List.getElem_cons_zero, List.getElem_cons_succ, List.setIfInBounds_toArray, List.set_cons_zero, List.set_cons_succ]))
          (try simp only [Act.put, List.getElem_toArray, List.getElem_cons_zero, List.getElem_cons_succ, List.setIfInBounds_toArray, List.set_cons_zero, List.set_cons_succ])
          (refine wpAnyH_take (i := 10) (v := ?_) rfl (by kernel_rfl) (by kernel_rfl) (by kernel_rfl) (fun _ _ _ h => h) (Or.inl ⟨by rfl, ?_⟩) (by assumption) ?_; rotate_left; · (intro w hSw; (try dsimp only at hSw); go_simp; all_goals with_reducible rfl); (try simp only [Act.put, List.getElem_toArray, List.getElem_cons_zero, List.getElem_cons_succ, List.setIfInBounds_toArray, List.set_cons_zero, List.set_cons_succ]))
          (try simp only [Act.put, List.getElem_toArray, List.getElem_cons_zero, List.getElem_cons_succ, List.setIfInBounds_toArray, List.set_cons_zero, List.set_cons_succ])
          (refine wpAnyH_take (i := 11) (v := ?_) rfl (by kernel_rfl) (by kernel_rfl) (by kernel_rfl) (fun _ _ _ h => h) (Or.inl ⟨by rfl, ?_⟩) (by assumption) ?_; rotate_left; · (intro w hSw; (try dsimp only at hSw); go_simp; all_goals with_reducible rfl); (try simp only [Act.put, List.getElem_toArray, List.getElem_cons_zero, List.getElem_cons_succ, List.setIfInBounds_toArray, List.set_cons_zero, List.set_cons_succ]))
          (try simp only [Act.put, List.getElem_toArray, List.getElem_cons_zero, List.getElem_cons_succ, List.setIfInBounds_toArray, List.set_cons_zero, List.set_cons_succ])
          (refine wpAnyH_take (i := 12) (v := ?_) rfl (by kernel_rfl) (by kernel_rfl) (by kernel_rfl) (fun _ _ _ h => h) (Or.inl ⟨by rfl, ?_⟩) (by assumption) ?_; rotate_left; · (intro w hSw; (try dsimp only at hSw); go_simp; all_goals with_reducible rfl); (try simp only [Act.put, List.getElem_toArray, List.getElem_cons_zero, List.getElem_cons_succ, List.setIfInBounds_toArray, List.set_cons_zero, List.set_cons_succ]))
          (try simp only [Act.put, List.getElem_toArray, List.getElem_cons_zero, List.getElem_cons_succ, List.setIfInBounds_toArray, List.set_cons_zero, List.set_cons_succ])
          (refine wpAnyH_take (i := 13) (v := .int .i64 m) rfl (by kernel_rfl) (by kernel_rfl) (by kernel_rfl) (fun _ _ _ h => h) (Or.inl ⟨by rfl, ?_⟩) (by assumption) ?_; · (intro w hSw; (try dsimp only at hSw); go_simp; first | done | exact IntWalk.i64_in _ (by omega)))
          (try simp only [Act.put, List.getElem_toArray, List.getElem_cons_zero, List.getElem_cons_succ, List.setIfInBounds_toArray, List.set_cons_zero, List.set_cons_succ])
          (refine wpAnyH_take (i := 14) (v := ?_) rfl (by kernel_rfl) (by kernel_rfl) (by kernel_rfl) (fun _ _ _ h => h) (Or.inl ⟨by rfl, ?_⟩) (by assumption) ?_; rotate_left; · (intro w hSw; (try dsimp only at hSw); go_simp; all_goals with_reducible rfl); (try simp only [Act.put, List.getElem_toArray, List.getElem_cons_zero, List.getElem_cons_succ, List.setIfInBounds_toArray, List.set_cons_zero, List.set_cons_succ]))
          (try simp only [Act.put, List.getElem_toArray, List.getElem_cons_zero, List.getElem_cons_succ, List.setIfInBounds_toArray, List.set_cons_zero, List.set_cons_succ])
          (refine wpAnyH_take (i := 15) (v := ?_) rfl (by kernel_rfl) (by kernel_rfl) (by kernel_rfl) (fun _ _ _ h => h) (Or.inl ⟨by rfl, ?_⟩) (by assumption) ?_; rotate_left; · (intro w hSw; (try dsimp only at hSw); go_simp; all_goals with_reducible rfl); (try simp only [Act.put, List.getElem_toArray, List.getElem_cons_zero, List.getElem_cons_succ, List.setIfInBounds_toArray, List.set_cons_zero, List.set_cons_succ]))
          (try simp only [Act.put, List.getElem_toArray, List.getElem_cons_zero, List.getElem_cons_succ, List.setIfInBounds_toArray, List.set_cons_zero, List.set_cons_succ])
          (refine wpAnyH_ready (rs := [16]) (by kernel_rfl) (by simp) ?_; refine AllReadyH.cons rfl (fun K hK => ?_) AllReadyH.nil; go_simp)
          refine (spec_AreCoupled_any _ _ _ _ _ hHeld.1.1.at.2 (by have := hHeld.1.1.at.1; simp; omega)).mono ?_
          rintro e w5 ⟨rfl, hx5⟩
          have hGL5 := hHeld.1.grown (hx5.gr (some g)) (hHeld.1.cur.ext hx5) hgs hgl
          generalize (hasE _ _ _ || hasE _ _ _) = cc
          refine hK.out _ _ (hS _ hGL5) (fun hHeld => ?_)
          clear hK K hx5
          (try simp only [Act.put, List.getElem_toArray, List.getElem_cons_zero, List.getElem_cons_succ, List.setIfInBounds_toArray, List.set_cons_zero, List.set_cons_succ])
          cases cc
          · (refine wpAnyH_take (i := 17) (v := ?_) rfl (by kernel_rfl) (by kernel_rfl) (by kernel_rfl) (fun _ _ _ h => h) (Or.inl ⟨by rfl, ?_⟩) (by assumption) ?_; rotate_left; · (intro w hSw; (try dsimp only at hSw); go_simp; all_goals with_reducible rfl); (try simp only [Act.put, List.getElem_toArray, List.getElem_cons_zero, List.getElem_cons_succ, List.setIfInBounds_toArray, List.set_cons_zero, List.set_cons_succ]))
            (try simp only [Act.put, List.getElem_toArray, List.getElem_cons_zero, List.getElem_cons_succ, List.setIfInBounds_toArray, List.set_cons_zero, List.set_cons_succ])
            (refine wpAnyH_take (i := 18) (v := ?_) rfl (by kernel_rfl) (by kernel_rfl) (by kernel_rfl) (fun _ _ _ h => h) (Or.inl ⟨by rfl, ?_⟩) (by assumption) ?_; rotate_left; · (intro w hSw; (try dsimp only at hSw); go_simp; all_goals with_reducible rfl); (try simp only [Act.put, List.getElem_toArray, List.getElem_cons_zero, List.getElem_cons_succ, List.setIfInBounds_toArray, List.set_cons_zero, List.set_cons_succ]))
            (try simp only [Act.put, List.getElem_toArray, List.getElem_cons_zero, List.getElem_cons_succ, List.setIfInBounds_toArray, List.set_cons_zero, List.set_cons_succ])
            (refine wpAnyH_done (by kernel_rfl) ?_ _)
            have HG5 := Lib.hid hGL5
            have hs5 := hGL5.1.2.1.lt
            have hw5 := hGL5.1.1.lt
            obtain ⟨-, p0, pm, k0, k1⟩ := hS _ hGL5
            clear b0 b1 z0 z1 a0 a1 y0 y1 hGL5 hGL4 hHeld hS
            obtain ⟨⟨b0, b1⟩, z0, z1⟩ := blk2 HG5.out.1.2.1
            have HD5 := Lib.hid HG5.out.drew
            have hwm : IntKind.i64.wrap (m : Int) = (m : Int) := IntWalk.i64_in _ (by omega)
            go_wp2
            go_region_law (first
              | (refine stepE1 (B := w.heap.size + 1) (by rfl) _ _ (by rfl) _ len es (by rfl) HD5.out.1.2.2.1 (by have := HD5.out.1.1.lt; omega) ⟨_, _⟩ _ _ (by rfl) (by rfl) (by omega) ?_; intro A6 c6 w6 ho6 hg6 hb6; have HA := Lib.hid (HD5.out.app (y := ⟨xs.getD 0 0, xs.getD m 0⟩) ⟨HD5.out.2.1.rng hkN, HD5.out.2.1.rng hmN⟩ hws hgl ho6 hg6 hb6); have k6 : w6.cell? ⟨s, 1, none⟩ = some (.slice A len cap) := HA.out.1.cell 1; have f6 : w6.frozen? ⟨s, 1, none⟩ = false := HA.out.1.frozen 1))
            all_goals
              clear k6 f6 b0 b1 z0 z1 k0 k1
              have HD := Lib.hid HA.out.2
              obtain ⟨⟨b0, b1⟩, z0, z1⟩ := blk2 HD.out.1.2.1
              obtain ⟨⟨a0, a1⟩, y0, y1⟩ := blk2 HD.out.1.1
              go_wp2
              exact bodyPost_ret (v := .agg #[.int .i64 k, .slice A6 (len + 1) c6]) (ret2g rfl HD.out.1.1 (.int .i64 k) (.slice A6 (len + 1) c6) _ rfl) rfl (DrewGr.mk k A6 (len + 1) c6 _ rfl (by omega) (HD.out.1.done hgl))
          · (refine wpAnyH_take (i := 17) (v := ?_) rfl (by kernel_rfl) (by kernel_rfl) (by kernel_rfl) (fun _ _ _ h => h) (Or.inl ⟨by rfl, ?_⟩) (by assumption) ?_; rotate_left; · (intro w hSw; (try dsimp only at hSw); go_simp; all_goals with_reducible rfl); (try simp only [Act.put, List.getElem_toArray, List.getElem_cons_zero, List.getElem_cons_succ, List.setIfInBounds_toArray, List.set_cons_zero, List.set_cons_succ]))
            (try simp only [Act.put, List.getElem_toArray, List.getElem_cons_zero, List.getElem_cons_succ, List.setIfInBounds_toArray, List.set_cons_zero, List.set_cons_succ])
            (refine wpAnyH_take (i := 18) (v := ?_) rfl (by kernel_rfl) (by kernel_rfl) (by kernel_rfl) (fun _ _ _ h => h) (Or.inl ⟨by rfl, ?_⟩) (by assumption) ?_; rotate_left; · (intro w hSw; (try dsimp only at hSw); go_simp; all_goals with_reducible rfl); (try simp only [Act.put, List.getElem_toArray, List.getElem_cons_zero, List.getElem_cons_succ, List.setIfInBounds_toArray, List.set_cons_zero, List.set_cons_succ]))
            (try simp only [Act.put, List.getElem_toArray, List.getElem_cons_zero, List.getElem_cons_succ, List.setIfInBounds_toArray, List.set_cons_zero, List.set_cons_succ])
            (refine wpAnyH_done (by kernel_rfl) ?_ _)
            have HG4 := Lib.hid hGL5
            have hw5 := hGL5.1.1.lt
            clear b0 b1 z0 z1 a0 a1 y0 y1 hGL5 hGL4 hHeld
            obtain ⟨⟨b0, b1⟩, z0, z1⟩ := blk2 HG4.out.1.2.1
            obtain ⟨⟨a0, a1⟩, y0, y1⟩ := blk2 HG4.out.1.1
            go_wp2
            exact bodyPost_ret (v := .agg #[.int .i64 k, .slice A len cap]) (ret2g rfl HG4.out.1.1 (.int .i64 k) (.slice A len cap) _ rfl) rfl (DrewGr.mk k A len cap es rfl (by omega) (HG4.out.1.done hgl))
end Go.Proofs.Ytofbmkpfliofeaa
/-
  Helper text (no claim of its own): drawn graphs, bent.
-/
namespace Go.Proofs.Ytofbmkpfliofeaa
open Go.ChangeShapes Go.WideShapes Go.ChangeAt Go.RowKit Go.Deep
set_option linter.unusedVariables false
set_option linter.unusedSimpArgs false
theorem own_prefix {w : World} {B e size n k c : Nat} {A : Option Addr} {xs : List Value} (h : w.ownsRow B e size (.slice A n c) n xs) (hk : k ≤ n) : w.ownsRow B e size (.slice A k c) k (xs.take (k * size)) := by
  have hks := Nat.mul_le_mul_right size hk
  obtain ⟨hl, h⟩ := h
  refine ⟨by rw [List.length_take, hl]; omega, ?_⟩
  rcases h with ⟨hv, hn⟩ | ⟨g, cap, cur, hv, hb, hg, h1, h2, h3, h4⟩
  · injection hv with e1 e2 e3
    subst e1; subst e3
    exact .inl ⟨by rw [show k = 0 by omega], by omega⟩
  · injection hv with e1 e2 e3
    subst e1; subst e3
    refine .inr ⟨g, _, cur, rfl, hb, hg, by omega, h2, h3, ?_⟩
    rw [← h4, List.take_take, Nat.min_eq_left hks]
theorem ecells_take (k : Nat) (es : List Ed) : ecells (es.take k) = (ecells es).take (k * 2) := by
  induction es generalizing k with
  | nil => simp [ecells]
  | cons y es ih =>
    cases k with
    | zero => simp [ecells]
    | succ k =>
      have := ih k
      simp only [ecells] at this ⊢
      simp only [List.take_succ_cons, List.flatMap_cons, this, Ed.cells, List.cons_append, List.nil_append, Nat.succ_mul]
theorem own_lc {w : World} {B e size n c : Nat} {A : Option Addr} {xs : List Value} (h : w.ownsRow B e size (.slice A n c) n xs) : n ≤ c := by
  rcases h.2 with ⟨h0, rfl⟩ | ⟨g, cap, cur, hv, _, _, hnc, _⟩
  · omega
  · injection hv with _ _ h3
    omega
theorem DG.cut {w0 w : World} {g s : Nat} {N : Int} {A : Option Addr} {len cap : Nat} {gs : List Ed} (h : DG w0 w g s N A len cap gs) {k : Nat} (hk : k ≤ len) (hs : w0.heap.size < s) (hl : g < w0.heap.size) : DG w0 (w.setCell ⟨s, 1, none⟩ (.slice A k cap)) g s N A k cap (gs.take k) := by
  obtain ⟨h1, h2, h3, h4, h5, h6, h7⟩ := h
  have h3' := own_prefix h3 hk
  rw [← ecells_take] at h3'
  have h4' : ∀ q, (Value.slice A k cap).ownBlock = some q → w0.heap.size + 1 ≤ q ∧ q ≠ s := by cases A <;> exact h4
  refine ⟨h1.far (p := ⟨s, 1, none⟩) (by simp; omega) _, h2.set_ 1 _, ?_, h4', h5.set_ (p := ⟨s, 1, none⟩) (by simp; omega) _, gr_set h6 (p := ⟨s, 1, none⟩) (by simp; omega) _, fun e he => h7 e (List.mem_of_mem_take he)⟩
  refine h3'.kept (row := some s) (gr_setCell (World.grownBy.refl w (some s)) 1 _) ?_
  cases hv : (Value.slice A k cap).ownBlock with
  | none => exact .inl rfl
  | some q => exact .inr (fun e => (h4' q hv).2 (by injection e))
set_option maxRecDepth 100000 in
set_option maxHeartbeats 16000000 in
theorem l36Bent_any (g : Nat) (w : World) (h : Cur w g) :
    Calls Try.prog 64 #[.pointer (some ⟨g, 0, none⟩)] w (DrewGr w g 8 (fun N => -1 ≤ N ∧ N ≤ 5)) := by
  have hgl := h.lt
  go_enter Try.func64, Try.ntmps64
  go_wp2_with fail
  refine (l1Below_any g 4 _ (h.alloc _) (by omega)).mono ?_
  rintro e w2 ⟨x, rfl, ⟨hx0, hx1, _⟩, hC2, hG2⟩
  obtain ⟨n, rfl⟩ := Int.eq_ofNat_of_zero_le hx0
  have hx2 : n < 4 := by have := hx1 (by omega); omega
  clear hx1 hx0
  go_wp2_with fail
  obtain ⟨n1, e1, hb1, hb2⟩ : ∃ n1 : Nat, (1 : Int) + (n : Int) = (n1 : Int) ∧ 1 ≤ n1 ∧ n1 ≤ 4 := ⟨n + 1, by omega, by omega, by omega⟩
  rw [e1]
  clear e1
  refine (l36Right_any g n1 ⟨by omega, by omega⟩ _ hC2).mono ?_
  rintro e w3 ⟨N, A, len, cap, gs, rfl, rfl, hlen, ho3, hC3, hG3, hok3⟩
  have hB2 := (Blk.new w 27 #[.int .i64 0, .slice none 0 0]).grown hG2 (fun k hk => by injection hk; omega)
  have hB3 := hB2.grown hG3 (fun k hk => by injection hk; omega)
  have hl2 := hB2.lt
  have hl3 := hB3.lt
  have hg3 : w.grownBy w3 (some g) := gr_trans (gr_trans (((Ext.refl w).alloc _).gr _) hG2) hG3
  have hD : DG w (w3.alloc (.cells #[.int .i64 n1, .slice A len cap] 27)) g w3.heap.size n1 A len cap gs :=
    ⟨hB3.alloc _, Blk.new _ _ _, own_ext (own_base ho3 hl2) ((Ext.refl w3).alloc _), own_ne (own_base ho3 hl2) (Nat.le_refl _), hC3.alloc _, gr_alloc hg3 _, hok3⟩
  clear hB2 hB3 hG2 hG3 hg3 hC2 ho3
  go_wp2_with fail
  refine (l1Below_any g 8 _ (hC3.alloc _) (by omega)).mono ?_
  rintro e w4 ⟨x, rfl, ⟨hx0, hx1, _⟩, hC4, hG4⟩
  have hx2 := hx1 (by omega)
  clear hx1
  have hgs : g < w3.heap.size := by omega
  have hD4 := hD.grown hG4 hC4 hgs hgl
  clear hD hG4 hC3
  generalize w3.heap.size = s at *
  have hs4 := hD4.2.1.lt
  have hw4 := hD4.1.lt
  have hge : w.heap.size + 1 ≤ w4.heap.size := by omega
  by_cases e0 : x = 0
  · subst e0
    go_wp2_with fail
    refine (l1PickInt_any g _ 5 _ [0, 1, 4, 5, -1] _ (hC4.alloc _) (rd_newN w4 _ _ _ 5 1 _ rfl rfl rfl) (by intro b o e; injection e with e; injection e with e1; omega) (by omega)).mono ?_
    rintro e w5 ⟨z, rfl, hz, hC5, hG5⟩
    have hD5 := (hD4.alloc _).grown hG5 hC5 hgs hgl
    have hz2 : -1 ≤ z ∧ z ≤ 5 := by simp at hz; omega
    clear hz hD4 hC4 hG5
    have hD6 := hD5.setN z (by omega) hgl
    obtain ⟨⟨b0, b1⟩, z0, z1⟩ := blk2 hD5.2.1
    obtain ⟨⟨a0, a1⟩, y0, y1⟩ := blk2 hD5.1
    have HD := Lib.hid hD6
    clear hD6 hD5
    go_wp2
    exact bodyPost_ret (v := .agg #[.int .i64 z, .slice A len cap]) (ret2g rfl HD.out.1 (.int .i64 z) (.slice A len cap) _ rfl) rfl (DrewGr.mk (z) A (len) cap (gs) (hz2) (by omega) (HD.out.done hgl))
  by_cases e1 : x = 1
  · subst e1
    have HD4 := Lib.hid hD4
    obtain ⟨⟨b0, b1⟩, z0, z1⟩ := blk2 hD4.2.1
    clear hD4
    go_wp2
    have hHeld : True := trivial
    refine wp_region_held_drew (S := fun _ => True) (by kernel_rfl) trivial (fun hHeld => ?_)
    (refine wpAnyH_take (i := 0) (v := ?_) rfl (by kernel_rfl) (by kernel_rfl) (by kernel_rfl) (fun _ _ _ h => h) (Or.inl ⟨by rfl, ?_⟩) (by assumption) ?_; rotate_left; · (intro w hSw; (try dsimp only at hSw); go_simp; all_goals with_reducible rfl); (try simp only [Act.put, List.getElem_toArray, List.getElem_cons_zero, List.getElem_cons_succ, List.setIfInBounds_toArray, List.set_cons_zero, List.set_cons_succ]))
    (try simp only [Act.put, List.getElem_toArray, List.getElem_cons_zero, List.getElem_cons_succ, List.setIfInBounds_toArray, List.set_cons_zero, List.set_cons_succ])
    (refine wpAnyH_take (i := 2) (v := ?_) rfl (by kernel_rfl) (by kernel_rfl) (by kernel_rfl) (fun _ _ _ h => h) (Or.inl ⟨by rfl, ?_⟩) (by assumption) ?_; rotate_left; · (intro w hSw; (try dsimp only at hSw); go_simp; all_goals with_reducible rfl); (try simp only [Act.put, List.getElem_toArray, List.getElem_cons_zero, List.getElem_cons_succ, List.setIfInBounds_toArray, List.set_cons_zero, List.set_cons_succ]))
    (try simp only [Act.put, List.getElem_toArray, List.getElem_cons_zero, List.getElem_cons_succ, List.setIfInBounds_toArray, List.set_cons_zero, List.set_cons_succ])
    (refine wpAnyH_take (i := 5) (v := ?_) rfl (by kernel_rfl) (by kernel_rfl) (by kernel_rfl) (fun _ _ _ h => h) (Or.inl ⟨by rfl, ?_⟩) (by assumption) ?_; rotate_left; · (intro w hSw; (try dsimp only at hSw); go_simp; all_goals with_reducible rfl); (try simp only [Act.put, List.getElem_toArray, List.getElem_cons_zero, List.getElem_cons_succ, List.setIfInBounds_toArray, List.set_cons_zero, List.set_cons_succ]))
    (try simp only [Act.put, List.getElem_toArray, List.getElem_cons_zero, List.getElem_cons_succ, List.setIfInBounds_toArray, List.set_cons_zero, List.set_cons_succ])
    refine wpAnyH_ready (rs := [1, 3]) (by kernel_rfl) (by simp) ?_
    refine AllReadyH.cons rfl (fun K hK => ?wL) (AllReadyH.cons rfl (fun K hK => ?wC) AllReadyH.nil)
    case' wL =>
      go_simp
      refine hK.out _ _ trivial (fun hHeld => ?_)
      clear hK K hHeld
      have hHeld : True := trivial
      (try simp only [Act.put, List.getElem_toArray, List.getElem_cons_zero, List.getElem_cons_succ, List.setIfInBounds_toArray, List.set_cons_zero, List.set_cons_succ])
      refine wpAnyH_ready (rs := [3]) (by kernel_rfl) (by simp) ?_
      refine AllReadyH.cons rfl (fun K hK => ?_) AllReadyH.nil
      go_simp
      refine (l1Below_any g 6 _ HD4.out.drew.2.2.2.2.1 (by omega)).mono ?_
      rintro e w5 ⟨y, rfl, ⟨hy0, hy1, _⟩, hC5, hG5⟩
      have hy2 := hy1 (by omega)
      clear hy1
      have HD5 := Lib.hid (HD4.out.drew.grown hG5 hC5 hgs hgl)
      have k1 : w5.cell? ⟨s, 1, none⟩ = some (.slice A len cap) := HD5.out.2.1.cell 1
      have hs5 := HD5.out.2.1.lt
      clear hG5
      refine hK.out _ _ trivial (fun hHeld => ?_)
      clear hK K hHeld
      have hHeld : True := trivial
      (try simp only [Act.put, List.getElem_toArray, List.getElem_cons_zero, List.getElem_cons_succ, List.setIfInBounds_toArray, List.set_cons_zero, List.set_cons_succ])
      (refine wpAnyH_take (i := 4) (v := .int .i64 (y - 1)) rfl (by kernel_rfl) (by kernel_rfl) (by kernel_rfl) (fun _ _ _ h => h) (Or.inl ⟨by rfl, ?_⟩) (by assumption) ?_; · (intro w hSw; (try dsimp only at hSw); go_simp; first | done | exact IntWalk.i64_in _ (by omega)))
      (try simp only [Act.put, List.getElem_toArray, List.getElem_cons_zero, List.getElem_cons_succ, List.setIfInBounds_toArray, List.set_cons_zero, List.set_cons_succ])
      refine wpAnyH_ready (rs := [6]) (by kernel_rfl) (by simp) ?_
      refine AllReadyH.cons rfl (fun K hK => ?_) AllReadyH.nil
      go_simp
      refine (l1Below_any g 5 _ hC5 (by omega)).mono ?_
      rintro e w6 ⟨z, rfl, ⟨hz0, hz1, _⟩, hC6, hG6⟩
      have hz2 := hz1 (by omega)
      clear hz1
      have HD6 := Lib.hid (HD5.out.grown hG6 hC6 hgs hgl)
      have m1 : w6.cell? ⟨s, 1, none⟩ = some (.slice A len cap) := HD6.out.2.1.cell 1
      have hs6 := HD6.out.2.1.lt
      clear hG6
      refine hK.out _ _ trivial (fun hHeld => ?_)
      clear hK K hHeld
      have hHeld : True := trivial
      (try simp only [Act.put, List.getElem_toArray, List.getElem_cons_zero, List.getElem_cons_succ, List.setIfInBounds_toArray, List.set_cons_zero, List.set_cons_succ])
      (refine wpAnyH_take (i := 7) (v := ?_) rfl (by kernel_rfl) (by kernel_rfl) (by kernel_rfl) (fun _ _ _ h => h) (Or.inl ⟨by rfl, ?_⟩) (by assumption) ?_; rotate_left; · (intro w hSw; (try dsimp only at hSw); go_simp; all_goals with_reducible rfl); (try simp only [Act.put, List.getElem_toArray, List.getElem_cons_zero, List.getElem_cons_succ, List.setIfInBounds_toArray, List.set_cons_zero, List.set_cons_succ]))
      (try simp only [Act.put, List.getElem_toArray, List.getElem_cons_zero, List.getElem_cons_succ, List.setIfInBounds_toArray, List.set_cons_zero, List.set_cons_succ])
      refine wpAnyH_ready (rs := [8]) (by kernel_rfl) (by simp) ?_
      refine AllReadyH.cons rfl (fun K hK => ?_) AllReadyH.nil
      go_simp
      refine hK.out _ _ trivial (fun hHeld => ?_)
      clear hK K hHeld
      have hHeld : True := trivial
      (try simp only [Act.put, List.getElem_toArray, List.getElem_cons_zero, List.getElem_cons_succ, List.setIfInBounds_toArray, List.set_cons_zero, List.set_cons_succ])
    case' wC =>
      go_simp
      refine (l1Below_any g 6 _ HD4.out.drew.2.2.2.2.1 (by omega)).mono ?_
      rintro e w5 ⟨y, rfl, ⟨hy0, hy1, _⟩, hC5, hG5⟩
      have hy2 := hy1 (by omega)
      clear hy1
      have HD5 := Lib.hid (HD4.out.drew.grown hG5 hC5 hgs hgl)
      have k1 : w5.cell? ⟨s, 1, none⟩ = some (.slice A len cap) := HD5.out.2.1.cell 1
      have hs5 := HD5.out.2.1.lt
      clear hG5
      refine hK.out _ _ trivial (fun hHeld => ?_)
      clear hK K hHeld
      have hHeld : True := trivial
      (try simp only [Act.put, List.getElem_toArray, List.getElem_cons_zero, List.getElem_cons_succ, List.setIfInBounds_toArray, List.set_cons_zero, List.set_cons_succ])
      (refine wpAnyH_take (i := 4) (v := .int .i64 (y - 1)) rfl (by kernel_rfl) (by kernel_rfl) (by kernel_rfl) (fun _ _ _ h => h) (Or.inl ⟨by rfl, ?_⟩) (by assumption) ?_; · (intro w hSw; (try dsimp only at hSw); go_simp; first | done | exact IntWalk.i64_in _ (by omega)))
      (try simp only [Act.put, List.getElem_toArray, List.getElem_cons_zero, List.getElem_cons_succ, List.setIfInBounds_toArray, List.set_cons_zero, List.set_cons_succ])
      refine wpAnyH_ready (rs := [1, 6]) (by kernel_rfl) (by simp) ?_
      refine AllReadyH.cons rfl (fun K hK => ?wL2) (AllReadyH.cons rfl (fun K hK => ?wC2) AllReadyH.nil)
    case' wL2 =>
      go_simp
      refine hK.out _ _ trivial (fun hHeld => ?_)
      clear hK K hHeld
      have hHeld : True := trivial
      (try simp only [Act.put, List.getElem_toArray, List.getElem_cons_zero, List.getElem_cons_succ, List.setIfInBounds_toArray, List.set_cons_zero, List.set_cons_succ])
      refine wpAnyH_ready (rs := [6]) (by kernel_rfl) (by simp) ?_
      refine AllReadyH.cons rfl (fun K hK => ?_) AllReadyH.nil
      go_simp
      refine (l1Below_any g 5 _ hC5 (by omega)).mono ?_
      rintro e w6 ⟨z, rfl, ⟨hz0, hz1, _⟩, hC6, hG6⟩
      have hz2 := hz1 (by omega)
      clear hz1
      have HD6 := Lib.hid (HD5.out.grown hG6 hC6 hgs hgl)
      have m1 : w6.cell? ⟨s, 1, none⟩ = some (.slice A len cap) := HD6.out.2.1.cell 1
      have hs6 := HD6.out.2.1.lt
      clear hG6
      refine hK.out _ _ trivial (fun hHeld => ?_)
      clear hK K hHeld
      have hHeld : True := trivial
      (try simp only [Act.put, List.getElem_toArray, List.getElem_cons_zero, List.getElem_cons_succ, List.setIfInBounds_toArray, List.set_cons_zero, List.set_cons_succ])
      (refine wpAnyH_take (i := 7) (v := ?_) rfl (by kernel_rfl) (by kernel_rfl) (by kernel_rfl) (fun _ _ _ h => h) (Or.inl ⟨by rfl, ?_⟩) (by assumption) ?_; rotate_left; · (intro w hSw; (try dsimp only at hSw); go_simp; all_goals with_reducible rfl); (try simp only [Act.put, List.getElem_toArray, List.getElem_cons_zero, List.getElem_cons_succ, List.setIfInBounds_toArray, List.set_cons_zero, List.set_cons_succ]))
      (try simp only [Act.put, List.getElem_toArray, List.getElem_cons_zero, List.getElem_cons_succ, List.setIfInBounds_toArray, List.set_cons_zero, List.set_cons_succ])
      refine wpAnyH_ready (rs := [8]) (by kernel_rfl) (by simp) ?_
      refine AllReadyH.cons rfl (fun K hK => ?_) AllReadyH.nil
      go_simp
      refine hK.out _ _ trivial (fun hHeld => ?_)
      clear hK K hHeld
      have hHeld : True := trivial
      (try simp only [Act.put, List.getElem_toArray, List.getElem_cons_zero, List.getElem_cons_succ, List.setIfInBounds_toArray, List.set_cons_zero, List.set_cons_succ])
    case' wC2 =>
      go_simp
      refine (l1Below_any g 5 _ hC5 (by omega)).mono ?_
      rintro e w6 ⟨z, rfl, ⟨hz0, hz1, _⟩, hC6, hG6⟩
      have hz2 := hz1 (by omega)
      clear hz1
      have HD6 := Lib.hid (HD5.out.grown hG6 hC6 hgs hgl)
      have m1 : w6.cell? ⟨s, 1, none⟩ = some (.slice A len cap) := HD6.out.2.1.cell 1
      have hs6 := HD6.out.2.1.lt
      clear hG6
      refine hK.out _ _ trivial (fun hHeld => ?_)
      clear hK K hHeld
      have hHeld : True := trivial
      (try simp only [Act.put, List.getElem_toArray, List.getElem_cons_zero, List.getElem_cons_succ, List.setIfInBounds_toArray, List.set_cons_zero, List.set_cons_succ])
      (refine wpAnyH_take (i := 7) (v := ?_) rfl (by kernel_rfl) (by kernel_rfl) (by kernel_rfl) (fun _ _ _ h => h) (Or.inl ⟨by rfl, ?_⟩) (by assumption) ?_; rotate_left; · (intro w hSw; (try dsimp only at hSw); go_simp; all_goals with_reducible rfl); (try simp only [Act.put, List.getElem_toArray, List.getElem_cons_zero, List.getElem_cons_succ, List.setIfInBounds_toArray, List.set_cons_zero, List.set_cons_succ]))
      (try simp only [Act.put, List.getElem_toArray, List.getElem_cons_zero, List.getElem_cons_succ, List.setIfInBounds_toArray, List.set_cons_zero, List.set_cons_succ])
      refine wpAnyH_ready (rs := [1, 8]) (by kernel_rfl) (by simp) ?_
      refine AllReadyH.cons rfl (fun K hK => ?wL3) (AllReadyH.cons rfl (fun K hK => ?wC3) AllReadyH.nil)
    case' wL3 =>
      go_simp
      refine hK.out _ _ trivial (fun hHeld => ?_)
      clear hK K hHeld
      have hHeld : True := trivial
      (try simp only [Act.put, List.getElem_toArray, List.getElem_cons_zero, List.getElem_cons_succ, List.setIfInBounds_toArray, List.set_cons_zero, List.set_cons_succ])
      refine wpAnyH_ready (rs := [8]) (by kernel_rfl) (by simp) ?_
      refine AllReadyH.cons rfl (fun K hK => ?_) AllReadyH.nil
      go_simp
      refine hK.out _ _ trivial (fun hHeld => ?_)
      clear hK K hHeld
      have hHeld : True := trivial
      (try simp only [Act.put, List.getElem_toArray, List.getElem_cons_zero, List.getElem_cons_succ, List.setIfInBounds_toArray, List.set_cons_zero, List.set_cons_succ])
    case' wC3 =>
      go_simp
      refine hK.out _ _ trivial (fun hHeld => ?_)
      clear hK K hHeld
      have hHeld : True := trivial
      (try simp only [Act.put, List.getElem_toArray, List.getElem_cons_zero, List.getElem_cons_succ, List.setIfInBounds_toArray, List.set_cons_zero, List.set_cons_succ])
      refine wpAnyH_ready (rs := [1]) (by kernel_rfl) (by simp) ?_
      refine AllReadyH.cons rfl (fun K hK => ?_) AllReadyH.nil
      go_simp
      refine hK.out _ _ trivial (fun hHeld => ?_)
      clear hK K hHeld
      have hHeld : True := trivial
      (try simp only [Act.put, List.getElem_toArray, List.getElem_cons_zero, List.getElem_cons_succ, List.setIfInBounds_toArray, List.set_cons_zero, List.set_cons_succ])
    all_goals
      refine wpAnyH_ready (rs := [9]) (by kernel_rfl) (by simp) ?_
      refine AllReadyH.cons rfl (fun K hK => ?_) AllReadyH.nil
      refine stepE1 (B := w.heap.size + 1) (by rfl) _ _ (by rfl) _ len gs (by rfl) HD6.out.2.2.1 (by have := HD6.out.1.lt; omega) ⟨y - 1, z⟩ _ _ (by rfl) (by rfl) (by omega) ?_
      intro A6 c6 w7 ho6 hg6 hb6
      have HA := Lib.hid (HD6.out.app (y := ⟨y - 1, z⟩) ⟨by unfold I64; dsimp only; omega, by unfold I64; dsimp only; omega⟩ (by omega) hgl ho6 hg6 hb6)
      have k6 : w7.cell? ⟨s, 1, none⟩ = some (.slice A len cap) := HA.out.1.cell 1
      have f6 : w7.frozen? ⟨s, 1, none⟩ = false := HA.out.1.frozen 1
      clear ho6 hg6 hb6
      refine hK.out _ _ trivial (fun hHeld => ?_)
      clear hK K hHeld
      have hHeld : True := trivial
      (try simp only [Act.put, List.getElem_toArray, List.getElem_cons_zero, List.getElem_cons_succ, List.setIfInBounds_toArray, List.set_cons_zero, List.set_cons_succ])
      (refine wpAnyH_take (i := 10) (v := ?_) rfl (by kernel_rfl) (by kernel_rfl) (by kernel_rfl) (fun _ _ _ h => h) (Or.inl ⟨by rfl, ?_⟩) (by assumption) ?_; rotate_left; · (intro w hSw; (try dsimp only at hSw); go_simp; all_goals with_reducible rfl); (try simp only [Act.put, List.getElem_toArray, List.getElem_cons_zero, List.getElem_cons_succ, List.setIfInBounds_toArray, List.set_cons_zero, List.set_cons_succ]))
      (try simp only [Act.put, List.getElem_toArray, List.getElem_cons_zero, List.getElem_cons_succ, List.setIfInBounds_toArray, List.set_cons_zero, List.set_cons_succ])
      refine wpAnyH_ready (rs := [11]) (by kernel_rfl) (by simp) ?_
      refine AllReadyH.cons rfl (fun K hK => ?_) AllReadyH.nil
      go_simp
      refine hK.out _ _ trivial (fun hHeld => ?_)
      clear hK K hHeld
      have hHeld : True := trivial
      (try simp only [Act.put, List.getElem_toArray, List.getElem_cons_zero, List.getElem_cons_succ, List.setIfInBounds_toArray, List.set_cons_zero, List.set_cons_succ])
      (refine wpAnyH_done (by kernel_rfl) ?_ _)
      clear k6 f6 k1 m1 b0 b1 z0 z1
      have HD := Lib.hid HA.out.2
      obtain ⟨⟨b0, b1⟩, z0, z1⟩ := blk2 HD.out.2.1
      obtain ⟨⟨a0, a1⟩, y0, y1⟩ := blk2 HD.out.1
      go_wp2
      exact bodyPost_ret (v := .agg #[.int .i64 n1, .slice A6 (len + 1) c6]) (ret2g rfl HD.out.1 (.int .i64 n1) (.slice A6 (len + 1) c6) _ rfl) rfl (DrewGr.mk n1 A6 (len + 1) c6 _ ⟨by omega, by omega⟩ (by omega) (HD.out.done hgl))
  by_cases e2 : x = 2
  · subst e2
    have HD4 := Lib.hid hD4
    obtain ⟨⟨b0, b1⟩, z0, z1⟩ := blk2 hD4.2.1
    clear hD4
    have hlw : IntKind.i64.wrap ((len : Int) + 1) = (len : Int) + 1 := IntWalk.i64_in _ (by omega)
    go_wp2
    have hHeld : True := trivial
    have hlc : len ≤ cap := own_lc HD4.out.2.2.1
    refine wp_region_held_drew (S := fun _ => True) (by kernel_rfl) trivial (fun hHeld => ?_)
    (refine wpAnyH_take (i := 0) (v := ?_) rfl (by kernel_rfl) (by kernel_rfl) (by kernel_rfl) (fun _ _ _ h => h) (Or.inl ⟨by rfl, ?_⟩) (by assumption) ?_; rotate_left; · (intro w hSw; (try dsimp only at hSw); go_simp; all_goals with_reducible rfl); (try simp only [Act.put, List.getElem_toArray, List.getElem_cons_zero, List.getElem_cons_succ, List.setIfInBounds_toArray, List.set_cons_zero, List.set_cons_succ]))
    (try simp only [Act.put, List.getElem_toArray, List.getElem_cons_zero, List.getElem_cons_succ, List.setIfInBounds_toArray, List.set_cons_zero, List.set_cons_succ])
    (refine wpAnyH_take (i := 2) (v := ?_) rfl (by kernel_rfl) (by kernel_rfl) (by kernel_rfl) (fun _ _ _ h => h) (Or.inl ⟨by rfl, ?_⟩) (by assumption) ?_; rotate_left; · (intro w hSw; (try dsimp only at hSw); go_simp; all_goals with_reducible rfl); (try simp only [Act.put, List.getElem_toArray, List.getElem_cons_zero, List.getElem_cons_succ, List.setIfInBounds_toArray, List.set_cons_zero, List.set_cons_succ]))
    (try simp only [Act.put, List.getElem_toArray, List.getElem_cons_zero, List.getElem_cons_succ, List.setIfInBounds_toArray, List.set_cons_zero, List.set_cons_succ])
    (refine wpAnyH_take (i := 3) (v := ?_) rfl (by kernel_rfl) (by kernel_rfl) (by kernel_rfl) (fun _ _ _ h => h) (Or.inl ⟨by rfl, ?_⟩) (by assumption) ?_; rotate_left; · (intro w hSw; (try dsimp only at hSw); go_simp; all_goals with_reducible rfl); (try simp only [Act.put, List.getElem_toArray, List.getElem_cons_zero, List.getElem_cons_succ, List.setIfInBounds_toArray, List.set_cons_zero, List.set_cons_succ]))
    (try simp only [Act.put, List.getElem_toArray, List.getElem_cons_zero, List.getElem_cons_succ, List.setIfInBounds_toArray, List.set_cons_zero, List.set_cons_succ])
    refine wpAnyH_ready (rs := [1, 4]) (by kernel_rfl) (by simp) ?_
    refine AllReadyH.cons rfl (fun K hK => ?vL) (AllReadyH.cons rfl (fun K hK => ?vM) AllReadyH.nil)
    case' vL =>
      go_simp
      refine hK.out _ _ trivial (fun hHeld => ?_)
      clear hK K hHeld
      have hHeld : True := trivial
      (try simp only [Act.put, List.getElem_toArray, List.getElem_cons_zero, List.getElem_cons_succ, List.setIfInBounds_toArray, List.set_cons_zero, List.set_cons_succ])
      refine wpAnyH_ready (rs := [4]) (by kernel_rfl) (by simp) ?_
      refine AllReadyH.cons rfl (fun K hK => ?_) AllReadyH.nil
      go_simp
      refine hK.out _ _ trivial (fun hHeld => ?_)
      clear hK K hHeld
      have hHeld : True := trivial
      (try simp only [Act.put, List.getElem_toArray, List.getElem_cons_zero, List.getElem_cons_succ, List.setIfInBounds_toArray, List.set_cons_zero, List.set_cons_succ])
      (refine wpAnyH_take (i := 5) (v := ?_) rfl (by kernel_rfl) (by kernel_rfl) (by kernel_rfl) (fun _ _ _ h => h) (Or.inl ⟨by rfl, ?_⟩) (by assumption) ?_; rotate_left; · (intro w hSw; (try dsimp only at hSw); go_simp; all_goals with_reducible rfl); (try simp only [Act.put, List.getElem_toArray, List.getElem_cons_zero, List.getElem_cons_succ, List.setIfInBounds_toArray, List.set_cons_zero, List.set_cons_succ]))
      (try simp only [Act.put, List.getElem_toArray, List.getElem_cons_zero, List.getElem_cons_succ, List.setIfInBounds_toArray, List.set_cons_zero, List.set_cons_succ])
      (refine wpAnyH_take (i := 6) (v := .int .i64 ((len : Int) + 1)) rfl (by kernel_rfl) (by kernel_rfl) (by kernel_rfl) (fun _ _ _ h => h) (Or.inl ⟨by rfl, ?_⟩) (by assumption) ?_; · (intro w hSw; (try dsimp only at hSw); go_simp; first | done | exact IntWalk.i64_in _ (by omega)))
      (try simp only [Act.put, List.getElem_toArray, List.getElem_cons_zero, List.getElem_cons_succ, List.setIfInBounds_toArray, List.set_cons_zero, List.set_cons_succ])
      refine wpAnyH_ready (rs := [7]) (by kernel_rfl) (by simp) ?_
      refine AllReadyH.cons rfl (fun K hK => ?_) AllReadyH.nil
      go_simp
      refine (l1Below_any g _ _ HD4.out.drew.2.2.2.2.1 (by omega)).mono ?_
      rintro e w5 ⟨y, rfl, ⟨hy0, hy1, _⟩, hC5, hG5⟩
      have hy2 := hy1 (by omega)
      clear hy1
      have HD5 := Lib.hid (HD4.out.drew.grown hG5 hC5 hgs hgl)
      have k1 : w5.cell? ⟨s, 1, none⟩ = some (.slice A len cap) := HD5.out.2.1.cell 1
      have f1 : w5.frozen? ⟨s, 1, none⟩ = false := HD5.out.2.1.frozen 1
      have hs5 := HD5.out.2.1.lt
      clear hG5
      obtain ⟨k, rfl⟩ := Int.eq_ofNat_of_zero_le hy0
      have hkl : k ≤ len := by omega
      have hkc : k ≤ cap := by omega
      refine hK.out _ _ trivial (fun hHeld => ?_)
      clear hK K hHeld
      have hHeld : True := trivial
      (try simp only [Act.put, List.getElem_toArray, List.getElem_cons_zero, List.getElem_cons_succ, List.setIfInBounds_toArray, List.set_cons_zero, List.set_cons_succ])
    case' vM =>
      go_simp
      refine hK.out _ _ trivial (fun hHeld => ?_)
      clear hK K hHeld
      have hHeld : True := trivial
      (try simp only [Act.put, List.getElem_toArray, List.getElem_cons_zero, List.getElem_cons_succ, List.setIfInBounds_toArray, List.set_cons_zero, List.set_cons_succ])
      (refine wpAnyH_take (i := 5) (v := ?_) rfl (by kernel_rfl) (by kernel_rfl) (by kernel_rfl) (fun _ _ _ h => h) (Or.inl ⟨by rfl, ?_⟩) (by assumption) ?_; rotate_left; · (intro w hSw; (try dsimp only at hSw); go_simp; all_goals with_reducible rfl); (try simp only [Act.put, List.getElem_toArray, List.getElem_cons_zero, List.getElem_cons_succ, List.setIfInBounds_toArray, List.set_cons_zero, List.set_cons_succ]))
      (try simp only [Act.put, List.getElem_toArray, List.getElem_cons_zero, List.getElem_cons_succ, List.setIfInBounds_toArray, List.set_cons_zero, List.set_cons_succ])
      (refine wpAnyH_take (i := 6) (v := .int .i64 ((len : Int) + 1)) rfl (by kernel_rfl) (by kernel_rfl) (by kernel_rfl) (fun _ _ _ h => h) (Or.inl ⟨by rfl, ?_⟩) (by assumption) ?_; · (intro w hSw; (try dsimp only at hSw); go_simp; first | done | exact IntWalk.i64_in _ (by omega)))
      (try simp only [Act.put, List.getElem_toArray, List.getElem_cons_zero, List.getElem_cons_succ, List.setIfInBounds_toArray, List.set_cons_zero, List.set_cons_succ])
      refine wpAnyH_ready (rs := [1, 7]) (by kernel_rfl) (by simp) ?_
      refine AllReadyH.cons rfl (fun K hK => ?vL2) (AllReadyH.cons rfl (fun K hK => ?vC2) AllReadyH.nil)
    case' vL2 =>
      go_simp
      refine hK.out _ _ trivial (fun hHeld => ?_)
      clear hK K hHeld
      have hHeld : True := trivial
      (try simp only [Act.put, List.getElem_toArray, List.getElem_cons_zero, List.getElem_cons_succ, List.setIfInBounds_toArray, List.set_cons_zero, List.set_cons_succ])
      refine wpAnyH_ready (rs := [7]) (by kernel_rfl) (by simp) ?_
      refine AllReadyH.cons rfl (fun K hK => ?_) AllReadyH.nil
      go_simp
      refine (l1Below_any g _ _ HD4.out.drew.2.2.2.2.1 (by omega)).mono ?_
      rintro e w5 ⟨y, rfl, ⟨hy0, hy1, _⟩, hC5, hG5⟩
      have hy2 := hy1 (by omega)
      clear hy1
      have HD5 := Lib.hid (HD4.out.drew.grown hG5 hC5 hgs hgl)
      have k1 : w5.cell? ⟨s, 1, none⟩ = some (.slice A len cap) := HD5.out.2.1.cell 1
      have f1 : w5.frozen? ⟨s, 1, none⟩ = false := HD5.out.2.1.frozen 1
      have hs5 := HD5.out.2.1.lt
      clear hG5
      obtain ⟨k, rfl⟩ := Int.eq_ofNat_of_zero_le hy0
      have hkl : k ≤ len := by omega
      have hkc : k ≤ cap := by omega
      refine hK.out _ _ trivial (fun hHeld => ?_)
      clear hK K hHeld
      have hHeld : True := trivial
      (try simp only [Act.put, List.getElem_toArray, List.getElem_cons_zero, List.getElem_cons_succ, List.setIfInBounds_toArray, List.set_cons_zero, List.set_cons_succ])
    case' vC2 =>
      go_simp
      refine (l1Below_any g _ _ HD4.out.drew.2.2.2.2.1 (by omega)).mono ?_
      rintro e w5 ⟨y, rfl, ⟨hy0, hy1, _⟩, hC5, hG5⟩
      have hy2 := hy1 (by omega)
      clear hy1
      have HD5 := Lib.hid (HD4.out.drew.grown hG5 hC5 hgs hgl)
      have k1 : w5.cell? ⟨s, 1, none⟩ = some (.slice A len cap) := HD5.out.2.1.cell 1
      have f1 : w5.frozen? ⟨s, 1, none⟩ = false := HD5.out.2.1.frozen 1
      have hs5 := HD5.out.2.1.lt
      clear hG5
      obtain ⟨k, rfl⟩ := Int.eq_ofNat_of_zero_le hy0
      have hkl : k ≤ len := by omega
      have hkc : k ≤ cap := by omega
      refine hK.out _ _ trivial (fun hHeld => ?_)
      clear hK K hHeld
      have hHeld : True := trivial
      (try simp only [Act.put, List.getElem_toArray, List.getElem_cons_zero, List.getElem_cons_succ, List.setIfInBounds_toArray, List.set_cons_zero, List.set_cons_succ])
      refine wpAnyH_ready (rs := [1]) (by kernel_rfl) (by simp) ?_
      refine AllReadyH.cons rfl (fun K hK => ?_) AllReadyH.nil
      go_simp
      refine hK.out _ _ trivial (fun hHeld => ?_)
      clear hK K hHeld
      have hHeld : True := trivial
      (try simp only [Act.put, List.getElem_toArray, List.getElem_cons_zero, List.getElem_cons_succ, List.setIfInBounds_toArray, List.set_cons_zero, List.set_cons_succ])
    all_goals
      refine wpAnyH_ready (rs := [8]) (by kernel_rfl) (by simp) ?_
      refine AllReadyH.cons rfl (fun K hK => ?_) AllReadyH.nil
      go_simp
      refine hK.out _ _ trivial (fun hHeld => ?_)
      clear hK K hHeld
      have hHeld : True := trivial
      (try simp only [Act.put, List.getElem_toArray, List.getElem_cons_zero, List.getElem_cons_succ, List.setIfInBounds_toArray, List.set_cons_zero, List.set_cons_succ])
      (refine wpAnyH_take (i := 9) (v := ?_) rfl (by kernel_rfl) (by kernel_rfl) (by kernel_rfl) (fun _ _ _ h => h) (Or.inl ⟨by rfl, ?_⟩) (by assumption) ?_; rotate_left; · (intro w hSw; (try dsimp only at hSw); go_simp; all_goals with_reducible rfl); (try simp only [Act.put, List.getElem_toArray, List.getElem_cons_zero, List.getElem_cons_succ, List.setIfInBounds_toArray, List.set_cons_zero, List.set_cons_succ]))
      (try simp only [Act.put, List.getElem_toArray, List.getElem_cons_zero, List.getElem_cons_succ, List.setIfInBounds_toArray, List.set_cons_zero, List.set_cons_succ])
      refine wpAnyH_ready (rs := [10]) (by kernel_rfl) (by simp) ?_
      refine AllReadyH.cons rfl (fun K hK => ?_) AllReadyH.nil
      go_simp
      refine hK.out _ _ trivial (fun hHeld => ?_)
      clear hK K hHeld
      have hHeld : True := trivial
      (try simp only [Act.put, List.getElem_toArray, List.getElem_cons_zero, List.getElem_cons_succ, List.setIfInBounds_toArray, List.set_cons_zero, List.set_cons_succ])
      (refine wpAnyH_done (by kernel_rfl) ?_ _)
      have HD := Lib.hid (HD5.out.cut hkl (by omega) hgl)
      clear k1 f1 b0 b1 z0 z1
      obtain ⟨⟨b0, b1⟩, z0, z1⟩ := blk2 HD.out.2.1
      obtain ⟨⟨a0, a1⟩, y0, y1⟩ := blk2 HD.out.1
      go_wp2
      exact bodyPost_ret (v := .agg #[.int .i64 n1, .slice A k cap]) (ret2g rfl HD.out.1 (.int .i64 n1) (.slice A k cap) _ rfl) rfl (DrewGr.mk n1 A k cap _ ⟨by omega, by omega⟩ (by omega) (HD.out.done hgl))
  · have HD := Lib.hid hD4
    obtain ⟨⟨b0, b1⟩, z0, z1⟩ := blk2 hD4.2.1
    obtain ⟨⟨a0, a1⟩, y0, y1⟩ := blk2 hD4.1
    clear hD4
    go_wp2
    exact bodyPost_ret (v := .agg #[.int .i64 n1, .slice A len cap]) (ret2g rfl HD.out.1 (.int .i64 n1) (.slice A len cap) _ rfl) rfl (DrewGr.mk n1 A (len) cap (gs) ⟨by omega, by omega⟩ (by omega) (HD.out.done hgl))
end Go.Proofs.Ytofbmkpfliofeaa
/-
  Helper text (no claim of its own): drawn permutations, bent.
-/
namespace Go.Proofs.Ytofbmkpfliofeaa
open Go.ChangeShapes Go.WideShapes Go.ChangeAt Go.RowKit Go.Deep
set_option linter.unusedVariables false
theorem appI1 {w : World} {B : Nat} {ops : Array Oper} {rest : List Oper} {o : Oper} {a : Act} {Q : Exit → Act → World → Prop} (hgd : o.guard = none) (s x : Operand)
    (ho : o.op = .call { callee := .builtin .append, args := #[s, x], argTypes := #[51, 51] }) (v : Value) (n : Nat) (xs : List Int) (hs : a.eval s = v)
    (hown : w.ownsRow B 3 1 v n (icells xs)) (hB : B ≤ w.heap.size) (y : Int) (e : TypeId) (b : Nat) (hx : a.eval x = .slice (some ⟨b, 0, none⟩) 1 1) (hbs : b = w.heap.size) (hn : n ≤ 90000000)
    (h : ∀ A' c' w', w'.ownsRow B 3 1 (.slice A' (n + 1) c') (n + 1) (icells (xs ++ [y])) → w.grownBy w' v.ownBlock → wpList Try.prog ops Q rest (a.put o.dst (.slice A' (n + 1) c')) w') :
    wpList Try.prog ops Q (o :: rest) a (w.alloc (.cells #[.int .i64 y] e)) := by
  subst hbs
  have hcs := cutW_size hB
  refine appIntS (w0 := cutW w B) hgd s x ho v n xs hs (by rw [hcs]; exact hown.alloc _) ((cutW_ext hB).alloc _) _ 1 1 [y] hx (rd_new w _ e 1 _ (by simp [icell]) (by simp [icell])) (by omega) ?_
  intro v' w' h1 h2 h3 h4
  rw [hcs] at h1
  obtain ⟨A', c', rfl, _⟩ := own_slice h1
  exact h A' c' w' h1 (World.grownBy.trans (((Ext.refl w).alloc _).gr _) h3)
theorem icells_takeD (k : Nat) (xs : List Int) : icells (xs.take k) = (icells xs).take (k * 1) := by
  induction xs generalizing k with
  | nil => simp [icells]
  | cons y xs ih =>
    cases k with
    | zero => simp [icells]
    | succ k =>
      have := ih k
      simp only [icells, Nat.mul_one] at this ⊢
      simp only [List.take_succ_cons, List.flatMap_cons, this, icell, List.cons_append, List.nil_append]
/-- What a draw of a row of ints hands back. -/
def DrewInts (w : World) (g most : Nat) (e : Ending) (w' : World) : Prop :=
  ∃ (A : Option Addr) (len cap : Nat) (xs : List Int), e = .returned (.slice A len cap) ∧ len ≤ most ∧ w'.ownsRow w.heap.size 3 1 (.slice A len cap) len (icells xs) ∧ Cur w' g ∧ w.grownBy w' (some g)
set_option maxRecDepth 100000 in
set_option maxHeartbeats 8000000 in
theorem l8Bent_any (g : Nat) (w : World) (h : Cur w g) :
    Calls Try.prog 48 #[.pointer (some ⟨g, 0, none⟩)] w (DrewInts w g 5) := by
  have hgl := h.lt
  go_enter Try.func48, Try.ntmps48
  go_wp2_with fail
  refine (l1Below_any g 4 _ h (by omega)).mono ?_
  rintro e w2 ⟨x, rfl, ⟨hx0, hx1, _⟩, hC2, hG2⟩
  obtain ⟨n, rfl⟩ := Int.eq_ofNat_of_zero_le hx0
  have hx2 : n < 4 := by have := hx1 (by omega); omega
  clear hx1 hx0
  go_wp2_with fail
  obtain ⟨n1, e1, hb1, hb2⟩ : ∃ n1 : Nat, (1 : Int) + (n : Int) = (n1 : Int) ∧ 1 ≤ n1 ∧ n1 ≤ 4 := ⟨n + 1, by omega, by omega, by omega⟩
  rw [e1]
  clear e1
  refine (l8Perm_any g n1 ⟨by omega, by omega⟩ _ hC2).mono ?_
  rintro e w3 ⟨b, c, rfl, hb, hI3, hC3, hG3⟩
  have hg3 := gr_trans hG2 hG3
  have hbw : w.heap.size ≤ b := by have := gr_size hG2; omega
  clear hG3 hC2
  go_wp2_with fail
  refine (l1Below_any g 8 _ hC3 (by omega)).mono ?_
  rintro e w4 ⟨x, rfl, ⟨hx0, hx1, _⟩, hC4, hG4⟩
  have hx2 := hx1 (by omega)
  clear hx1
  have hI4 := hI3.grown hG4 (fun k hk => by injection hk; omega)
  have hg4 := gr_trans hg3 hG4
  clear hg3 hG4 hC3 hI3 hG2
  by_cases e0 : x = 0
  · subst e0
    go_wp2_with fail
    refine (l1Below_any g n1 _ hC4 (by omega)).mono ?_
    rintro e w5 ⟨x, rfl, ⟨hx0, hx1, _⟩, hC5, hG5⟩
    obtain ⟨j, rfl⟩ := Int.eq_ofNat_of_zero_le hx0
    have hj : j < n1 := by have := hx1 (by omega); omega
    clear hx1 hx0
    go_wp2_with fail
    refine (l1PickInt_any g _ 5 _ [0, 1, 4, -1, 9223372036854775807] _ (hC5.alloc _) (rd_newN w5 _ _ _ 5 1 _ rfl rfl rfl) (by intro b o e; injection e with e; injection e with e1; have := hC5.lt; omega) (by omega)).mono ?_
    rintro e w6 ⟨z, rfl, hz, hC6, hG6⟩
    have hzI : I64 z := by unfold I64; simp at hz; omega
    clear hz
    have hI6 := ((hI4.grown hG5 (fun k hk => by injection hk; omega)).grown (((Ext.refl w5).alloc (.cells #[.int .i64 0, .int .i64 1, .int .i64 4, .int .i64 (-1), .int .i64 9223372036854775807] 3)).gr none) (by simp)).grown hG6 (fun k hk => by injection hk; omega)
    have hg6 := gr_trans (gr_alloc (gr_trans hg4 hG5) _) hG6
    have hI7 := hI6.set_ j z hzI
    have hC7 := hC6.set_ (p := ⟨b, j, none⟩) (by simp; omega) (.int .i64 z)
    have hg7 := gr_set hg6 (p := ⟨b, j, none⟩) hbw (.int .i64 z)
    have fj := hI6.frozen j
    obtain ⟨u, hu⟩ := hI6.cell hj
    obtain ⟨xs, _, ho⟩ := hI7.own hbw
    have HO := Lib.hid ho
    clear ho hG5 hG6 hC4 hC5 hzI hI7
    have HC := Lib.hid hC7
    have HG := Lib.hid hg7
    clear hC7 hg7
    go_wp2
    go_ret
    exact ⟨_, _, _, xs, rfl, by omega, HO.out, HC.out, HG.out⟩
  by_cases e1 : x = 1
  · subst e1
    go_wp2_with fail
    refine (l1Below_any g n1 _ hC4 (by omega)).mono ?_
    rintro e w5 ⟨x, rfl, ⟨hx0, hx1, _⟩, hC5, hG5⟩
    obtain ⟨j, rfl⟩ := Int.eq_ofNat_of_zero_le hx0
    have hj : j < n1 := by have := hx1 (by omega); omega
    clear hx1 hx0
    obtain ⟨xs, _, ho⟩ := (hI4.grown hG5 (fun k hk => by injection hk; omega)).own hbw
    have hlc := own_lc ho
    have hjc : j ≤ c := by omega
    have ho2 := own_prefix ho (Nat.le_of_lt hj)
    rw [← icells_takeD] at ho2
    have HO := Lib.hid ho2
    have HG := Lib.hid (gr_trans hg4 hG5)
    clear ho ho2 hG5 hC4
    go_wp2
    go_ret
    exact ⟨_, _, _, xs.take j, rfl, by omega, HO.out, hC5, HG.out⟩
  by_cases e2 : x = 2
  · subst e2
    obtain ⟨xs, _, ho⟩ := hI4.own hbw
    have hsz := gr_size hg4
    have HO := Lib.hid ho
    clear ho
    go_wp2_with (at_builtin; refine appI1 (B := w.heap.size) rfl _ _ rfl _ n1 xs rfl HO.out hsz (n1 : Int) _ _ rfl rfl (by omega) ?_; intro A6 c6 w6 ho6 hg6)
    go_ret
    have hgb : ∀ k, (Value.slice (some ⟨b, 0, none⟩) n1 c).ownBlock = some k → k = b := fun k hk => by injection hk with hk; exact hk.symm
    exact ⟨_, _, _, _, rfl, by omega, ho6, hC4.grown hg6 (fun k hk => by have := hgb k hk; omega), gr_new hg4 hg6 (fun k hk => by have := hgb k hk; omega)⟩
  · obtain ⟨xs, _, ho⟩ := hI4.own hbw
    go_wp2
    go_ret
    exact ⟨_, _, _, xs, rfl, by omega, ho, hC4, hg4⟩
end Go.Proofs.Ytofbmkpfliofeaa
/-
  Helper text (no claim of its own): the distance in a graph by the reference.
-/
namespace Go.Proofs.Ytofbmkpfliofeaa
open Go.ChangeShapes Go.WideShapes Go.ChangeAt Go.RowKit Go.Deep
theorem rK_no {adj : Int → Int → Bool} {m : Int} {l : List Int} {k : Nat} (h : (adj m (k : Int) && !(hasI (Dist.rK adj m l k) (k : Int))) = false) : Dist.rK adj m l (k + 1) = Dist.rK adj m l k := by
  rw [Dist.rK, if_neg (by simp [h])]
theorem rK_yes {adj : Int → Int → Bool} {m : Int} {l : List Int} {k : Nat} (h : adj m (k : Int) = true) (h' : hasI (Dist.rK adj m l k) (k : Int) = false) : Dist.rK adj m l (k + 1) = Dist.rK adj m l k ++ [(k : Int)] := by
  rw [Dist.rK, if_pos (by simp [h, h'])]
set_option maxRecDepth 100000 in
set_option maxHeartbeats 8000000 in
theorem spec_gd (n a b : Nat) (es : List Ed) (A1 : Option Addr) (c1 : Nat) (w : World) (h1 : 1 ≤ n) (h4 : n ≤ 4) (ha : a < n) (hb : b < n) (h : Rd w w.heap.size 2 A1 es.length (ecells es)) (hl : es.length ≤ 100000000) :
    Calls Try.prog 70 #[.agg #[.int .i64 (n : Int), .slice A1 es.length c1], .int .i64 (a : Int), .int .i64 (b : Int)] w fun e w' => e = .returned (.int .i64 (Dist.gdist (cpl es) n a b)) ∧ Ext w w' := by
  have HG : Hid (∀ w', Ext w w' → GrAt w' w'.heap.size (.agg #[.int .i64 (n : Int), .slice A1 es.length c1]) ⟨n, es⟩) := fun w' hx => ⟨A1, c1, rfl, h.ext hx⟩
  have HS := Lib.hid (fun s => Dist.rS_has (adj := cpl es) ha hb s)
  have HL := Lib.hid (fun (s : Nat) (hs : s ≤ 4) => Dist.rS_small (adj := cpl es) h4 (a : Int) hs)
  clear h
  go_enter Try.func70, Try.ntmps70
  go_wp2_with fail
  refine (l1In_yes _ _ _ _ (by omega) (by omega)).mono ?_
  rintro e w1 ⟨rfl, rfl⟩
  go_wp2_with fail
  refine (l1In_yes _ _ _ _ (by omega) (by omega)).mono ?_
  rintro e w1 ⟨rfl, rfl⟩
  go_wp2_with fail
  refine (l1In_yes _ _ _ _ (by omega) (by omega)).mono ?_
  rintro e w1 ⟨rfl, rfl⟩
  have hB0 : Blk ((w.alloc (.cells #[.int .i64 (n : Int), .slice A1 es.length c1] 27)).alloc (.cells #[.int .i64 (a : Int)] 3)) w.heap.size 27 #[.int .i64 (n : Int), .slice A1 es.length c1] := (Blk.new _ _ _).alloc _
  have hX0 : Ext w ((w.alloc (.cells #[.int .i64 (n : Int), .slice A1 es.length c1] 27)).alloc (.cells #[.int .i64 (a : Int)] 3)) := by repeat (first | exact Ext.refl _ | assumption | refine Ext.alloc ?_ _ | refine Ext.drewN ?_ _ | refine Ext.drew ?_)
  have hO0 : ((w.alloc (.cells #[.int .i64 (n : Int), .slice A1 es.length c1] 27)).alloc (.cells #[.int .i64 (a : Int)] 3)).ownsRow w.heap.size 3 1 (.slice (some ⟨w.heap.size + 1, 0, none⟩) 1 1) 1 (icells [(a : Int)]) := own_lit (by repeat (first | exact Ext.refl _ | assumption | refine Ext.alloc ?_ _ | refine Ext.drewN ?_ _ | refine Ext.drew ?_)) _ _ 1 1 #[.int .i64 (a : Int)] _ (by simp) rfl rfl (by omega)
  have HB0 := Lib.hid hB0
  have HX0 := Lib.hid hX0
  have HO0 := Lib.hid hO0
  clear hB0 hX0 hO0
  go_wp2
  replace HB0 := HB0.out
  replace HX0 := HX0.out
  replace HO0 := HO0.out
  generalize ((w.alloc (.cells #[.int .i64 (n : Int), .slice A1 es.length c1] 27)).alloc (.cells #[.int .i64 (a : Int)] 3)) = W0 at *
  go_loopw [7, 8] (fun v i wr => ∃ s : Nat, s ≤ n ∧ i = .int .i64 s ∧ wr.ownsRow w.heap.size 3 1 v (Dist.rS (cpl es) n a s).length (icells (Dist.rS (cpl es) n a s)) ∧ Hid (∀ t, t < s → Dist.lvl (cpl es) n a t b = false) ∧ Blk wr w.heap.size 27 #[.int .i64 (n : Int), .slice A1 es.length c1] ∧ Ext w wr) (fun _ i _ => n - (intOf i).toNat)
  case atStart => exact ⟨0, Nat.zero_le _, rfl, HO0, fun t ht => absurd ht (by omega), HB0, HX0⟩
  case round =>
    clear HO0 HB0 HX0
    obtain ⟨s, hs, rfl, ho, HQ, hB, hx⟩ := hrel
    have hls := HL.out s (by omega)
    have hhs := HS.out s
    have HH := Lib.hid hhs
    have d0 : wr.cell? ⟨w.heap.size, 0, none⟩ = some (.int .i64 (n : Int)) := hB.cell 0
    clear hhs
    have hrS : Hid (Dist.rS (cpl es) n a (s + 1) = Dist.rI (cpl es) n (Dist.rS (cpl es) n a s) (Dist.rS (cpl es) n a s).length) := rfl
    generalize Dist.rS (cpl es) n a s = met at *
    obtain ⟨A7, c7, rfl, hr7⟩ := own_slice ho
    by_cases hlt : s < n
    · go_wp2_with fail
      refine (l1HasInt_any A7 _ c7 met (b : Int) _ hr7 (by omega)).mono ?_
      rintro e w1 ⟨rfl, rfl⟩
      cases hh : hasI met (b : Int)
      · have HQ2 : Hid (∀ t, t < s + 1 → Dist.lvl (cpl es) n a t b = false) := fun t ht => by
          by_cases e : t = s
          · subst e; rw [← HH.out]; exact hh
          · exact HQ.out t (by omega)
        go_wp2_with (at_builtin; refine appIntS (w0 := wr) rfl _ _ rfl _ 0 [] rfl (own_empty wr wr _ _ (Ext.refl _)) (by repeat (first | exact Ext.refl _ | assumption | refine Ext.alloc ?_ _ | refine Ext.drewN ?_ _ | refine Ext.drew ?_)) A7 _ c7 met rfl (hr7.ext (by repeat (first | exact Ext.refl _ | assumption | refine Ext.alloc ?_ _ | refine Ext.drewN ?_ _ | refine Ext.drew ?_))) (by omega) ?_; intro v9 w2 ho9 hx9 hg9 hb9)
        clear hg9 hb9
        simp only [Nat.zero_add, List.nil_append] at ho9
        have hB2 := hB.ext hx9
        have hr2 := hr7.ext hx9
        have hx2 := hx.trans hx9
        clear d0
        obtain ⟨L, hLm⟩ : ∃ L, L = met.length := ⟨_, rfl⟩
        have HLM := Lib.hid hLm
        have hmet := hr7.len icell_len (by omega)
        rw [← hLm] at hr7 ho9 hls ⊢
        have hL625 : L ≤ 625 := hls
        have HO9 : Hid (w2.ownsRow wr.heap.size 3 1 v9 (Dist.rI (cpl es) n met 0).length (icells (Dist.rI (cpl es) n met 0))) := by
          unfold Hid
          rw [show Dist.rI (cpl es) n met 0 = met from rfl, ← hLm]
          exact ho9
        have HLI : Hid (∀ p, p ≤ L → (Dist.rI (cpl es) n met p).length ≤ 3125) := fun p hp => Dist.rI_small (by omega) h4 (by omega)
        clear hLm hmet ho9 hB2 hr2 hx2 ho
        obtain ⟨wo, rfl⟩ : ∃ wo : World, wo = wr := ⟨_, rfl⟩
        go_loopw [9, 10] (fun v i wr => ∃ p : Nat, p ≤ L ∧ i = .int .i64 p ∧ wr.ownsRow wo.heap.size 3 1 v (Dist.rI (cpl es) n met p).length (icells (Dist.rI (cpl es) n met p)) ∧ Ext wo wr) (fun _ i _ => L - (intOf i).toNat)
        case atStart => exact ⟨0, Nat.zero_le _, rfl, HO9.out, hx9⟩
        case round =>
          clear HO9 hx9
          obtain ⟨p, hp, rfl, hop, hxp⟩ := hrel
          by_cases hltp : p < L
          · obtain ⟨b7, o7, m, rfl, hb7, hm, c0⟩ := int_at hr7 hltp
            have HM : Hid (Dist.rI (cpl es) n met (p + 1) = Dist.rK (cpl es) m (Dist.rI (cpl es) n met p) n) := by
              unfold Hid
              rw [Dist.rI, List.getD_eq_getElem?_getD, hm]
              rfl
            have hlp := HLI.out p hp
            clear hm
            go_wp2
            generalize Dist.rI (cpl es) n met p = nx at *
            obtain ⟨wp, rfl⟩ : ∃ wp : World, wp = wr := ⟨_, rfl⟩
            go_loopw [9, 11] (fun v i wr => ∃ q : Nat, q ≤ n ∧ i = .int .i64 q ∧ wr.ownsRow wo.heap.size 3 1 v (Dist.rK (cpl es) m nx q).length (icells (Dist.rK (cpl es) m nx q)) ∧ Ext wo wr) (fun _ i _ => n - (intOf i).toNat)
            case atStart => exact ⟨0, Nat.zero_le _, rfl, hop, hxp⟩
            case round =>
              clear hop hxp
              obtain ⟨q, hq, rfl, hoq, hxq⟩ := hrel
              have hBq := hB.ext hxq
              have d0 : wr.cell? ⟨w.heap.size, 0, none⟩ = some (.int .i64 (n : Int)) := hBq.cell 0
              by_cases hltq : q < n
              · have d1 : wr.cell? ⟨w.heap.size, 1, none⟩ = some (.slice A1 es.length c1) := hBq.cell 1
                have c1' : wr.cell? ⟨b7, o7 + p, none⟩ = some (.int .i64 m) := (hxq.cell (p := ⟨b7, o7 + p, none⟩) hb7).trans c0
                have hxw := hx.trans hxq
                have hlk := Dist.rK_len (adj := cpl es) (m := m) (l := nx) q
                have HY := Lib.hid (rK_yes (adj := cpl es) (m := m) (l := nx) (k := q))
                have HN := Lib.hid (rK_no (adj := cpl es) (m := m) (l := nx) (k := q))
                obtain ⟨A9, c9, rfl, hr9⟩ := own_slice hoq
                have hp0 : (0 : Int) ≤ (p : Int) := by omega
                have hpL : (p : Int) < (L : Int) := by omega
                have HK : Hid (∀ w', Ext wr w' → w'.cell? ⟨w.heap.size, 0, none⟩ = some (.int .i64 (n : Int)) ∧ w'.cell? ⟨w.heap.size, 1, none⟩ = some (.slice A1 es.length c1) ∧ w'.cell? ⟨b7, o7 + p, none⟩ = some (.int .i64 m)) := fun w' z => ⟨(hBq.ext z).cell 0, (hBq.ext z).cell 1, (z.cell (p := ⟨b7, o7 + p, none⟩) (Nat.lt_of_lt_of_le hb7 hxq.size)).trans c1'⟩
                generalize Dist.rK (cpl es) m nx q = nq at *
                cases hc : cpl es m (q : Int)
                · have HN2 := Lib.hid (HN.out (by rw [hc]; rfl))
                  go_wp2
                  first | go_region_with ((go_at_call 31; refine (spec_AreCoupled_any _ ⟨n, es⟩ m q _ (HG.out _ hxw.drew) hl).mono ?_; rintro e w3 ⟨rfl, hy3⟩; replace hy3 : Ext wr w3 := Ext.trans (Ext.refl wr).drew hy3; have hcc : (hasE es m (q : Int) || hasE es (q : Int) m) = false := hc; rw [hcc])) | fail
                  all_goals
                    go_wp2
                    go_roundw
                    case rel => exact ⟨q + 1, by omega, by go_num, by rw [HN2.out]; exact own_ext hoq hy3, hxq.trans hy3⟩
                    case measure => simp [intOf]; omega
                · cases hh2 : hasI nq (q : Int)
                  · have HY2 := Lib.hid (HY.out hc hh2)
                    go_wp2
                    go_region_held3 (fun w' => w'.cell? ⟨w.heap.size, 0, none⟩ = some (.int .i64 (n : Int)) ∧ w'.cell? ⟨w.heap.size, 1, none⟩ = some (.slice A1 es.length c1) ∧ w'.cell? ⟨b7, o7 + p, none⟩ = some (.int .i64 m))
                      (first | go_keep | exact HK.out _ (by assumption))
                      (first
                        | (go_at_call 31; refine (spec_AreCoupled_any _ ⟨n, es⟩ m q _ (HG.out _ hxw.drew) hl).mono ?_; rintro e w3 ⟨rfl, hy3⟩; replace hy3 : Ext wr w3 := Ext.trans (Ext.refl wr).drew hy3; have hcc : (hasE es m (q : Int) || hasE es (q : Int) m) = true := hc; rw [hcc])
                        | (go_at_call 37; refine (l1HasInt_any A9 _ c9 nq (q : Int) _ (hr9.ext hy3) (by omega)).mono ?_; rintro e w4 ⟨rfl, rfl⟩; rw [hh2]))
                    all_goals
                      go_wp2_with (at_builtin; refine appInt (w0 := wo) rfl _ _ rfl _ _ nq rfl (own_ext hoq hy3) (hxq.trans hy3) (q : Int) _ _ rfl (by simp) (by omega) ?_; intro v5 w5 ho5 hx5 hg5 hb5)
                      go_roundw
                      case rel => exact ⟨q + 1, by omega, by go_num, by rw [HY2.out, List.length_append]; exact ho5, hx5⟩
                      case measure => simp [intOf]; omega
                  · have HN2 := Lib.hid (HN.out (by rw [hh2]; simp))
                    go_wp2
                    go_region_held3 (fun w' => w'.cell? ⟨w.heap.size, 0, none⟩ = some (.int .i64 (n : Int)) ∧ w'.cell? ⟨w.heap.size, 1, none⟩ = some (.slice A1 es.length c1) ∧ w'.cell? ⟨b7, o7 + p, none⟩ = some (.int .i64 m))
                      (first | go_keep | exact HK.out _ (by assumption))
                      (first
                        | (go_at_call 31; refine (spec_AreCoupled_any _ ⟨n, es⟩ m q _ (HG.out _ hxw.drew) hl).mono ?_; rintro e w3 ⟨rfl, hy3⟩; replace hy3 : Ext wr w3 := Ext.trans (Ext.refl wr).drew hy3; have hcc : (hasE es m (q : Int) || hasE es (q : Int) m) = true := hc; rw [hcc])
                        | (go_at_call 37; refine (l1HasInt_any A9 _ c9 nq (q : Int) _ (hr9.ext hy3) (by omega)).mono ?_; rintro e w4 ⟨rfl, rfl⟩; rw [hh2]))
                    all_goals
                      go_wp2
                      go_roundw
                      case rel => exact ⟨q + 1, by omega, by go_num, by rw [HN2.out]; exact own_ext hoq hy3, hxq.trans hy3⟩
                      case measure => simp [intOf]; omega
              · obtain rfl : q = n := by omega
                go_wp2
                go_roundw
                case rel => exact ⟨p + 1, by omega, by go_num, by rw [HM.out]; exact hoq, hxq⟩
                case measure => simp [intOf]; omega
          · obtain rfl : p = L := by omega
            have HLM2 := HLM.out
            have hBp := hB.ext hxp
            subst HLM2
            go_wp2
            go_roundw
            case rel => exact ⟨s + 1, by omega, by go_num, by rw [hrS.out]; exact own_base hop hx.size, HQ2, hBp, hx.trans hxp⟩
            case measure => simp [intOf]; omega
      · have HF := Lib.hid (Dist.gdist_some hlt (HH.out.symm.trans hh) HQ.out)
        go_wp2
        go_ret
        exact ⟨ret_int HF.out.symm, hx⟩
    · obtain rfl : s = n := by omega
      have HF := Lib.hid (Dist.gdist_none HQ.out)
      go_wp2
      go_ret
      exact ⟨ret_int HF.out.symm, hx⟩
set_option maxRecDepth 100000 in
set_option maxHeartbeats 2000000 in
theorem spec_GraphDistance_any (v : Value) (x : Gr) (a b : Int) (w : World) (h : GrAt w w.heap.size v x) (hl : x.es.length ≤ 100000000) :
    Calls Try.prog 70 #[v, .int .i64 a, .int .i64 b] w fun e w' => e = .returned (.int .i64 (gd x a b)) ∧ Ext w w' := by
  obtain ⟨A1, c1, rfl, h1⟩ := h
  by_cases hN : 1 ≤ x.n ∧ x.n ≤ 4
  · obtain ⟨n, hn⟩ := Int.eq_ofNat_of_zero_le (by omega : 0 ≤ x.n)
    by_cases ha : 0 ≤ a ∧ a < x.n
    · by_cases hb : 0 ≤ b ∧ b < x.n
      · obtain ⟨i, rfl⟩ := Int.eq_ofNat_of_zero_le ha.1
        obtain ⟨j, rfl⟩ := Int.eq_ofNat_of_zero_le hb.1
        rw [gd_yes hn (by omega) (by omega) (by omega) (by omega) (by omega) (by omega), hn]
        exact spec_gd n i j x.es A1 c1 w (by omega) (by omega) (by omega) (by omega) h1 hl
      · have HF := Lib.hid (gd_no (x := x) (a := a) (b := b) (by omega))
        have HB : Hid (b < 0 ∨ x.n - 1 < b) := by unfold Hid; omega
        obtain ⟨hN1, hN4⟩ := hN
        obtain ⟨ha1, ha2⟩ := ha
        clear hb hn
        go_enter Try.func70, Try.ntmps70
        go_wp2_with fail
        refine (l1In_yes _ _ _ _ (by omega) (by omega)).mono ?_
        rintro e w1 ⟨rfl, rfl⟩
        go_wp2_with fail
        refine (l1In_yes _ _ _ _ (by omega) (by omega)).mono ?_
        rintro e w1 ⟨rfl, rfl⟩
        go_wp2_with fail
        refine (l1In_no _ _ _ _ HB.out).mono ?_
        rintro e w1 ⟨rfl, rfl⟩
        go_wp2
        go_ret
        exact ⟨ret_int HF.out.symm, (by repeat (first | exact Ext.refl _ | assumption | refine Ext.alloc ?_ _ | refine Ext.drewN ?_ _ | refine Ext.drew ?_))⟩
    · have HF := Lib.hid (gd_no (x := x) (a := a) (b := b) (by omega))
      have HB : Hid (a < 0 ∨ x.n - 1 < a) := by unfold Hid; omega
      obtain ⟨hN1, hN4⟩ := hN
      clear ha hn
      go_enter Try.func70, Try.ntmps70
      go_wp2_with fail
      refine (l1In_yes _ _ _ _ (by omega) (by omega)).mono ?_
      rintro e w1 ⟨rfl, rfl⟩
      go_wp2_with fail
      refine (l1In_no _ _ _ _ HB.out).mono ?_
      rintro e w1 ⟨rfl, rfl⟩
      go_wp2
      go_ret
      exact ⟨ret_int HF.out.symm, (by repeat (first | exact Ext.refl _ | assumption | refine Ext.alloc ?_ _ | refine Ext.drewN ?_ _ | refine Ext.drew ?_))⟩
  · have HF := Lib.hid (gd_no (x := x) (a := a) (b := b) (by omega))
    have HB : Hid (x.n < 1 ∨ 4 < x.n) := by unfold Hid; omega
    clear hN
    go_enter Try.func70, Try.ntmps70
    go_wp2_with fail
    refine (l1In_no _ _ _ _ HB.out).mono ?_
    rintro e w1 ⟨rfl, rfl⟩
    go_wp2
    go_ret
    exact ⟨ret_int HF.out.symm, (by repeat (first | exact Ext.refl _ | assumption | refine Ext.alloc ?_ _ | refine Ext.drewN ?_ _ | refine Ext.drew ?_))⟩
end Go.Proofs.Ytofbmkpfliofeaa
/-
  Helper text (no claim of its own): a shortest path, by the program and by the reference.
-/
namespace Go.Proofs.Ytofbmkpfliofeaa
open Go.ChangeShapes Go.WideShapes Go.ChangeAt Go.RowKit Go.Deep
/-- The next vertex on the way from a to b, d away. -/
def nxt (x : Gr) (b a : Int) (d : Nat) : Option Nat := (List.range x.n.toNat).find? fun k => cpl x.es a (k : Int) && (gd x (k : Int) b == (d : Int))
/-- The vertices that follow a on the way to b, d away. -/
def spw (x : Gr) (b : Int) : Nat → Int → List Int
  | 0, _ => []
  | d + 1, a => match nxt x b a d with
    | some k => (k : Int) :: spw x b d (k : Int)
    | none => []
/-- A shortest path. -/
def spath (x : Gr) (a b : Int) : List Int := if gd x a b < 0 then [] else a :: spw x b (gd x a b).toNat a
theorem spath_no {x : Gr} {a b : Int} (h : gd x a b < 0) : spath x a b = [] := if_pos h
theorem spath_yes {x : Gr} {a b : Int} {d : Nat} (h : gd x a b = d) : spath x a b = a :: spw x b d a := by
  unfold spath
  rw [if_neg (by omega), h]
  rfl
theorem gd_ok {x : Gr} {a b : Int} (h : 0 ≤ gd x a b) : ∃ n i j : Nat, x.n = n ∧ 1 ≤ n ∧ n ≤ 4 ∧ a = i ∧ b = j ∧ i < n ∧ j < n ∧ gd x a b = Dist.gdist (cpl x.es) n (i : Int) (j : Int) := by
  by_cases hc : 1 ≤ x.n ∧ x.n ≤ 4 ∧ 0 ≤ a ∧ a < x.n ∧ 0 ≤ b ∧ b < x.n
  · obtain ⟨n, hn⟩ := Int.eq_ofNat_of_zero_le (by omega : 0 ≤ x.n)
    obtain ⟨i, hi⟩ := Int.eq_ofNat_of_zero_le (by omega : 0 ≤ a)
    obtain ⟨j, hj⟩ := Int.eq_ofNat_of_zero_le (by omega : 0 ≤ b)
    exact ⟨n, i, j, hn, by omega, by omega, hi, hj, by omega, by omega, by rw [gd_yes hn (by omega) (by omega) (by omega) (by omega) (by omega) (by omega), hi, hj]⟩
  · rw [gd_no hc] at h; omega
theorem nxt_some {x : Gr} {a b : Int} {d : Nat} (h : gd x a b = ((d + 1 : Nat) : Int)) : ∃ k, nxt x b a d = some k := by
  obtain ⟨n, i, j, hn, h1, h4, rfl, rfl, hi, hj, hg⟩ := gd_ok (by omega : 0 ≤ gd x a b)
  rw [hg] at h
  obtain ⟨k, hk, hc, hd⟩ := Dist.gdist_step hi hj h
  have hx : gd x (k : Int) (j : Int) = (d : Int) := by rw [gd_yes hn h1 h4 (by omega) (by omega) (by omega) (by omega), hd]
  cases hf : nxt x (j : Int) (i : Int) d with
  | some k => exact ⟨k, rfl⟩
  | none =>
    unfold nxt at hf
    rw [List.find?_eq_none] at hf
    have := hf k (by rw [hn]; simpa using hk)
    rw [hc, hx] at this
    simp at this
theorem nxt_spec {x : Gr} {a b : Int} {d k : Nat} (h : nxt x b a d = some k) : (k : Int) < x.n ∧ cpl x.es a (k : Int) = true ∧ gd x (k : Int) b = (d : Int) ∧ ∀ j : Nat, j < k → (cpl x.es a (j : Int) && (gd x (j : Int) b == (d : Int))) = false := by
  unfold nxt at h
  rw [List.find?_range_eq_some] at h
  obtain ⟨h1, h2, h3⟩ := h
  simp at h1 h2
  refine ⟨by omega, h1.1, h1.2, fun j hj => ?_⟩
  have := h3 j hj
  cases hq : (cpl x.es a (j : Int) && (gd x (j : Int) b == (d : Int)))
  · rfl
  · rw [hq] at this; cases this
theorem spw_step {x : Gr} {a b : Int} {d k : Nat} (h : nxt x b a d = some k) : spw x b (d + 1) a = (k : Int) :: spw x b d (k : Int) := by
  rw [spw, h]
theorem spw_len {x : Gr} {b : Int} : ∀ d a, (spw x b d a).length ≤ d
  | 0, _ => by simp [spw]
  | d + 1, a => by
    rw [spw]
    split
    · have := spw_len (x := x) (b := b) d
      simp
      rename_i k _
      exact this _
    · simp
theorem spath_len (x : Gr) (a b : Int) : (spath x a b).length ≤ 5 := by
  have h := gd_range x a b
  unfold spath
  split
  · simp
  · have := spw_len (x := x) (b := b) (gd x a b).toNat a
    simp; omega

set_option maxRecDepth 100000 in
set_option maxHeartbeats 8000000 in
theorem spec_ShortestPath_any (v : Value) (x : Gr) (a b : Int) (w : World) (h : GrAt w w.heap.size v x) (hl : x.es.length ≤ 100000000) :
    Calls Try.prog 71 #[v, .int .i64 a, .int .i64 b] w fun e w' => ∃ A len cap, e = .returned (.slice A len cap) ∧ len = (spath x a b).length ∧ w'.ownsRow w.heap.size 3 1 (.slice A len cap) len (icells (spath x a b)) ∧ Ext w w' := by
  obtain ⟨A1, c1, rfl, h1⟩ := h
  have HG : Hid (∀ w', Ext w w' → GrAt w' w'.heap.size (.agg #[.int .i64 x.n, .slice A1 x.es.length c1]) x) := fun w' hx => ⟨A1, c1, rfl, h1.ext hx⟩
  have hgr := gd_range x a b
  clear h1
  have hB0 : Blk (w.alloc (.cells #[.int .i64 x.n, .slice A1 x.es.length c1] 27)) w.heap.size 27 #[.int .i64 x.n, .slice A1 x.es.length c1] := Blk.new _ _ _
  have hX0 : Ext w (w.alloc (.cells #[.int .i64 x.n, .slice A1 x.es.length c1] 27)) := by repeat (first | exact Ext.refl _ | assumption | refine Ext.alloc ?_ _ | refine Ext.drewN ?_ _ | refine Ext.drew ?_)
  have HB0 := Lib.hid hB0
  have HX0 := Lib.hid hX0
  clear hB0 hX0
  go_enter Try.func71, Try.ntmps71
  go_wp2_with fail
  have hO0 : ((w.alloc (.cells #[.int .i64 x.n, .slice A1 x.es.length c1] 27)).alloc (.cells #[] 3)).ownsRow (w.alloc (.cells #[.int .i64 x.n, .slice A1 x.es.length c1] 27)).heap.size 3 1 (.slice (some ⟨w.heap.size + 1, 0, none⟩) 0 0) 0 (icells []) := own_lit (Ext.refl _) _ _ 1 0 #[] _ (by simp) rfl rfl (by omega)
  have hE0 : Ext (w.alloc (.cells #[.int .i64 x.n, .slice A1 x.es.length c1] 27)) ((w.alloc (.cells #[.int .i64 x.n, .slice A1 x.es.length c1] 27)).alloc (.cells #[] 3)) := (Ext.refl _).alloc _
  generalize ((w.alloc (.cells #[.int .i64 x.n, .slice A1 x.es.length c1] 27)).alloc (.cells #[] 3)) = W0 at *
  have hB0 := HB0.out
  have hX0 := HX0.out
  clear HB0 HX0
  generalize (w.alloc (.cells #[.int .i64 x.n, .slice A1 x.es.length c1] 27)) = Wb at *
  refine (spec_GraphDistance_any _ x a b _ (HG.out _ (hX0.trans hE0)) hl).mono ?_
  rintro e w1 ⟨rfl, hx1⟩
  have hO1 := own_ext hO0 hx1
  have hE1 := hE0.trans hx1
  clear hO0 hE0 hx1
  by_cases hneg : gd x a b < 0
  · have HS := Lib.hid (spath_no hneg)
    go_wp2
    go_ret
    refine ⟨_, _, _, rfl, by rw [HS.out]; rfl, by rw [HS.out]; exact own_base hO1 hX0.size, hX0.trans hE1⟩
  obtain ⟨d, hd⟩ := Int.eq_ofNat_of_zero_le (by omega : 0 ≤ gd x a b)
  have HS := Lib.hid (spath_yes hd)
  have HD := Lib.hid hd
  rw [hd] at hneg hgr ⊢
  have hd4 : d ≤ 4 := by omega
  clear hd hgr
  go_wp2_with (at_builtin; refine appInt (w0 := Wb) rfl _ _ rfl _ 0 [] rfl hO1 hE1 a _ _ rfl rfl (by omega) ?_; intro v2 w2 ho2 hx2 hg2 hb2)
  clear hg2 hb2 hO1 hE1
  replace ho2 : w2.ownsRow Wb.heap.size 3 1 v2 1 (icells [a]) := ho2
  go_loopw [1, 7, 8] (fun va v vd wr => ∃ (q : Nat) (z : Int) (out : List Int), q ≤ d ∧ va = .int .i64 z ∧ vd = .int .i64 q ∧ gd x z b = (q : Int) ∧ out.length ≤ 5 - q ∧ Hid (spath x a b = out ++ spw x b q z) ∧ wr.ownsRow Wb.heap.size 3 1 v out.length (icells out) ∧ Ext Wb wr) (fun _ _ vd _ => (intOf vd).toNat)
  case atStart => exact ⟨d, a, [a], Nat.le_refl _, rfl, rfl, HD.out, by simp; omega, HS.out, ho2, hx2⟩
  case round =>
    clear ho2 hx2
    obtain ⟨q, z, out, hq, rfl, rfl, hz, hlen, HQ, ho, hx⟩ := hrel
    by_cases hq0 : 0 < q
    · obtain ⟨q, rfl⟩ : ∃ q', q = q' + 1 := ⟨q - 1, by omega⟩
      obtain ⟨k, hk⟩ := nxt_some hz
      obtain ⟨hkn, hkc, hkd, hkl⟩ := nxt_spec hk
      have hn4 : x.n ≤ 4 := by
        obtain ⟨n, i, j, hn, h1, h4, _⟩ := gd_ok (by omega : 0 ≤ gd x z b)
        omega
      have HST := Lib.hid (spw_step hk)
      have HKC := Lib.hid hkc
      have HKD := Lib.hid hkd
      have HKL := Lib.hid hkl
      clear hk hkc hkd hkl hz
      go_wp2
      obtain ⟨wo, rfl⟩ : ∃ wo : World, wo = wr := ⟨_, rfl⟩
      go_loopw [1, 9] (fun va i wr => ∃ j : Nat, j ≤ k ∧ i = .int .i64 j ∧ va = .int .i64 z ∧ Ext wo wr) (fun _ i _ => k - (intOf i).toNat)
      case atStart => exact ⟨0, Nat.zero_le _, rfl, rfl, Ext.refl _⟩
      case round =>
        obtain ⟨j, hj, rfl, rfl, hxj⟩ := hrel
        have hX := hx.trans hxj
        have hB := hB0.ext hX
        have d0 : wr.cell? ⟨w.heap.size, 0, none⟩ = some (.int .i64 x.n) := hB.cell 0
        have d1 : wr.cell? ⟨w.heap.size, 1, none⟩ = some (.slice A1 x.es.length c1) := hB.cell 1
        have hjn : (j : Int) < x.n := by omega
        go_wp2_with fail
        refine (spec_AreCoupled_any _ x z j _ (HG.out _ (hX0.trans hX)) hl).mono ?_
        rintro e w3 ⟨rfl, hy3⟩
        have hX3 := hX.trans hy3
        have hB3 := hB0.ext hX3
        clear d0 d1
        have d0 : w3.cell? ⟨w.heap.size, 0, none⟩ = some (.int .i64 x.n) := hB3.cell 0
        have d1 : w3.cell? ⟨w.heap.size, 1, none⟩ = some (.slice A1 x.es.length c1) := hB3.cell 1
        by_cases hjk : j < k
        · have hlo := HKL.out j hjk
          cases hc : cpl x.es z (j : Int)
          · have hcc : (hasE x.es z (j : Int) || hasE x.es (j : Int) z) = false := hc
            rw [hcc]
            clear hcc hc hlo
            go_wp2
            go_roundw
            case rel => first | exact ⟨j + 1, by omega, by go_num, rfl, hxj.trans hy3⟩ | ((repeat apply Exists.intro); exact ⟨⟨j + 1, by omega, by go_num, rfl, hxj.trans hy3⟩, rfl⟩)
            case measure => simp [intOf]; omega
          · have hcc : (hasE x.es z (j : Int) || hasE x.es (j : Int) z) = true := hc
            rw [hcc]
            rw [hc, Bool.true_and] at hlo
            have HLO := Lib.hid hlo
            clear hcc hc hlo
            go_wp2_with fail
            refine (spec_GraphDistance_any _ x j b _ (HG.out _ (hX0.trans hX3)) hl).mono ?_
            rintro e w4 ⟨rfl, hy4⟩
            have hlo := HLO.out
            generalize gd x (j : Int) b = G at *
            go_wp2
            go_roundw
            case rel => first | exact ⟨j + 1, by omega, by go_num, rfl, (hxj.trans hy3).trans hy4⟩ | ((repeat apply Exists.intro); exact ⟨⟨j + 1, by omega, by go_num, rfl, (hxj.trans hy3).trans hy4⟩, rfl⟩)
            case measure => simp [intOf]; omega
        · obtain rfl : j = k := by omega
          have hcc : (hasE x.es z (j : Int) || hasE x.es (j : Int) z) = true := HKC.out
          rw [hcc]
          clear hcc
          go_wp2_with fail
          refine (spec_GraphDistance_any _ x j b _ (HG.out _ (hX0.trans hX3)) hl).mono ?_
          rintro e w4 ⟨rfl, hy4⟩
          have hX4 := hX3.trans hy4
          have ho4 := own_ext ho ((hxj.trans hy3).trans hy4)
          rw [HKD.out]
          go_wp2_with (at_builtin; refine appInt (w0 := Wb) rfl _ _ rfl _ out.length out rfl ho4 hX4 (j : Int) _ _ rfl (by simp) (by omega) ?_; intro v5 w5 ho5 hx5 hg5 hb5)
          go_roundw
          case rel => exact ⟨q, j, out ++ [(j : Int)], by omega, rfl, by go_num, HKD.out, by simp; omega, by rw [HQ.out, HST.out]; simp [Hid], by rw [List.length_append]; exact ho5, hx5⟩
          case measure => simp [intOf]
    · obtain rfl : q = 0 := by omega
      have HE : Hid (spath x a b = out) := by rw [HQ.out]; simp [spw, Hid]
      obtain ⟨A, c, rfl, _⟩ := own_slice ho
      go_wp2
      go_ret
      exact ⟨_, _, _, rfl, by rw [HE.out], by rw [HE.out]; exact own_base ho hX0.size, hX0.trans hx⟩
end Go.Proofs.Ytofbmkpfliofeaa
/-
  Helper text (no claim of its own): permutations, by the program and by the reference.
-/
namespace Go.Proofs.Ytofbmkpfliofeaa
open Go.ChangeShapes Go.WideShapes Go.ChangeAt Go.RowKit Go.Deep
def okP (p : List Int) (i : Nat) (x : Int) : Bool := decide (0 ≤ x) && decide (x ≤ (p.length : Int) - 1) && !(hasI (p.take i) x)
def permG (p : List Int) (k : Nat) : Bool := (List.range k).all fun i => okP p i (p.getD i 0)
def perm (p : List Int) : Bool := permG p p.length && (decide (1 ≤ p.length) && decide (p.length ≤ 4))
theorem permG_snoc {p : List Int} {k : Nat} {x : Int} (h : p[k]? = some x) : permG p (k + 1) = (permG p k && okP p k x) := by
  unfold permG
  rw [List.range_succ, List.all_append]
  simp [h]
theorem perm_no {p : List Int} {k : Nat} {x : Int} (h : p[k]? = some x) (hx : okP p k x = false) : perm p = false := by
  have hk := (List.getElem?_eq_some_iff.1 h).1
  have : permG p p.length = false := by
    rw [Bool.eq_false_iff]
    intro ha
    unfold permG at ha
    rw [List.all_eq_true] at ha
    have := ha k (by simp [hk])
    rw [List.getD_eq_getElem?_getD, h] at this
    simp [hx] at this
  simp [perm, this]
theorem perm_len {p : List Int} (h : p.length < 1 ∨ 4 < p.length) : perm p = false := by
  unfold perm
  rcases h with h | h
  · have e : decide (1 ≤ p.length) = false := decide_eq_false (by omega)
    rw [e]; simp
  · have e : decide (p.length ≤ 4) = false := decide_eq_false (by omega)
    rw [e]; simp
theorem perm_yes {p : List Int} (h : permG p p.length = true) (h1 : 1 ≤ p.length) (h2 : p.length ≤ 4) : perm p = true := by
  simp [perm, h, h1, h2]
theorem okP_out {p : List Int} {k n : Nat} {x : Int} (hn : p.length = n) (h : x < 0 ∨ (n : Int) - 1 < x) : okP p k x = false := by
  subst hn
  unfold okP
  rcases h with h | h
  · have e : decide (0 ≤ x) = false := by simp; omega
    simp [e]
  · have e : decide (x ≤ (p.length : Int) - 1) = false := by simp; omega
    simp [e]
theorem okP_in {p : List Int} {k n : Nat} {x : Int} {s : Bool} (hn : p.length = n) (h1 : 0 ≤ x) (h2 : x ≤ (n : Int) - 1) (hs : hasI (p.take k) x = s) : okP p k x = !s := by
  subst hn
  unfold okP
  rw [hs]
  simp [h1, h2]
def seenA (p : List Int) (k : Nat) : Array Value := #[.bool (hasI (p.take k) 0), .bool (hasI (p.take k) 1), .bool (hasI (p.take k) 2), .bool (hasI (p.take k) 3)]
theorem hasI_snoc {p : List Int} {k : Nat} {x : Int} (h : p[k]? = some x) (y : Int) : hasI (p.take (k + 1)) y = (hasI (p.take k) y || y == x) := by
  unfold hasI
  rw [take_snoc h]
  simp [List.contains_eq_mem]
  by_cases e : y = x <;> simp [e]
theorem seenA_set {p : List Int} {k j : Nat} (h : p[k]? = some (j : Int)) (hj : j < 4) : (seenA p k).setIfInBounds j (.bool true) = seenA p (k + 1) := by
  unfold seenA
  simp only [hasI_snoc h]
  rcases (by omega : j = 0 ∨ j = 1 ∨ j = 2 ∨ j = 3) with rfl | rfl | rfl | rfl <;> simp [Array.setIfInBounds] <;> rfl
theorem seenA_at (p : List Int) (k j : Nat) (hj : j < 4) : (seenA p k)[j]? = some (.bool (hasI (p.take k) (j : Int))) := by
  rcases (by omega : j = 0 ∨ j = 1 ∨ j = 2 ∨ j = 3) with rfl | rfl | rfl | rfl <;> rfl

set_option maxRecDepth 100000 in
set_option maxHeartbeats 2000000 in
theorem spec_IsPermutation_any (A : Option Addr) (n c : Nat) (p : List Int) (w : World) (h : Rd w w.heap.size 1 A n (icells p)) (hn : n ≤ 100000000) (hc : n ≤ c) :
    Calls Try.prog 50 #[.slice A n c] w fun e w' => e = .returned (.bool (perm p)) ∧ Ext w w' := by
  have hlen := Lib.hid (h.len icell_len (by omega))
  go_enter Try.func50, Try.ntmps50
  go_wp2
  go_loopw [3] (fun i wr => ∃ k : Nat, k ≤ n ∧ i = .int .i64 k ∧ Hid (permG p k = true) ∧ ∃ r, wr = w.drewN r) (fun i _ => n - (intOf i).toNat)
  case atStart => exact ⟨0, by omega, rfl, Lib.hid (by simp [permG]), 0, rfl⟩
  case round =>
    obtain ⟨k, hk, rfl, HQ, r, rfl⟩ := hrel
    by_cases hlt : k < n
    · obtain ⟨b, o, x, rfl, hb, hx0, h0⟩ := int_at h hlt
      have HG := Lib.hid hx0
      clear hx0
      have hkc : (k : Int) ≤ (c : Int) := by omega
      have hdl : decide ((k : Int) < (n : Int)) = true := by simp; omega
      by_cases hr : x < 0 ∨ (n : Int) - 1 < x
      · have HF := Lib.hid (perm_no HG.out (okP_out hlen.out hr))
        have HR := Lib.hid hr
        clear hr
        go_wp2
        go_quiet ((go_at_call 36; (with_reducible refine quiet_more (l1In_no _ _ _ _ ?_)); exact HR.out))
        go_wp2
        go_ret
        exact ⟨ret_bool HF.out.symm, (by repeat (first | exact Ext.refl _ | assumption | refine Ext.alloc ?_ _ | refine Ext.drewN ?_ _ | refine Ext.drew ?_))⟩
      · have HH1 : Hid (0 ≤ x) := by unfold Hid; omega
        have HH2 : Hid (x ≤ (n : Int) - 1) := by unfold Hid; omega
        clear hr
        have hRk := rd_cut h (Nat.le_of_lt hlt)
        rw [icells_take] at hRk
        have HRk : Hid (∀ z, Rd (w.drewN z) (w.drewN z).heap.size 1 (some ⟨b, o, none⟩) k (icells (p.take k))) := fun z => hRk.ext ((Ext.refl w).drewN z)
        clear hRk
        cases hs : hasI (p.take k) x
        · have HN := Lib.hid (permG_snoc HG.out)
          rw [HQ.out, okP_in hlen.out HH1.out HH2.out hs] at HN
          go_wp2
          go_quiet (first | (go_at_call 36; (with_reducible refine quiet_more (l1In_yes _ _ _ _ HH1.out ?_)); exact HH2.out) | (go_at_call 37; (with_reducible refine quiet_more (l1HasInt_any _ k c (p.take k) x _ (HRk.out _) ?_)); omega))
          go_wp2
          go_roundw
          case rel => exact ⟨k + 1, by omega, by go_num, HN, _, rfl⟩
          case measure => simp [intOf]; omega
        · have HF := Lib.hid (perm_no HG.out (okP_in hlen.out HH1.out HH2.out hs))
          go_wp2
          go_quiet (first | (go_at_call 36; (with_reducible refine quiet_more (l1In_yes _ _ _ _ HH1.out ?_)); exact HH2.out) | (go_at_call 37; (with_reducible refine quiet_more (l1HasInt_any _ k c (p.take k) x _ (HRk.out _) ?_)); omega))
          go_wp2
          go_ret
          exact ⟨ret_bool HF.out.symm, (by repeat (first | exact Ext.refl _ | assumption | refine Ext.alloc ?_ _ | refine Ext.drewN ?_ _ | refine Ext.drew ?_))⟩
    · obtain rfl : k = n := by omega
      by_cases hb : k < 1 ∨ 4 < k
      · have HF := Lib.hid (perm_len (p := p) (by rw [hlen.out]; exact hb))
        have HR : Hid ((k : Int) < 1 ∨ (4 : Int) < k) := by unfold Hid; omega
        clear hb
        go_wp2_with fail
        refine (l1In_no _ _ _ _ HR.out).mono ?_
        rintro e w1 ⟨rfl, rfl⟩
        go_wp2
        go_ret
        exact ⟨ret_bool HF.out.symm, (by repeat (first | exact Ext.refl _ | assumption | refine Ext.alloc ?_ _ | refine Ext.drewN ?_ _ | refine Ext.drew ?_))⟩
      · have HF := Lib.hid (perm_yes (p := p) (by rw [hlen.out]; exact HQ.out) (by rw [hlen.out]; omega) (by rw [hlen.out]; omega))
        go_wp2_with fail
        refine (l1In_yes _ _ _ _ (by omega) (by omega)).mono ?_
        rintro e w1 ⟨rfl, rfl⟩
        go_wp2
        go_ret
        exact ⟨ret_bool HF.out.symm, (by repeat (first | exact Ext.refl _ | assumption | refine Ext.alloc ?_ _ | refine Ext.drewN ?_ _ | refine Ext.drew ?_))⟩
end Go.Proofs.Ytofbmkpfliofeaa
/-
  Helper text (no claim of its own): a layout after a swap, by the program and by the reference.
-/
namespace Go.Proofs.Ytofbmkpfliofeaa
open Go.ChangeShapes Go.WideShapes Go.ChangeAt Go.RowKit Go.Deep
def sw1 (a b x : Int) : Int := if (x == a) = true then b else if (x == b) = true then a else x
theorem sw1_a {a b x : Int} (h : (x == a) = true) : sw1 a b x = b := if_pos h
theorem sw1_b {a b x : Int} (h : (x == a) = false) (h' : (x == b) = true) : sw1 a b x = a := by unfold sw1; rw [if_neg (by simp [h]), if_pos h']
theorem sw1_n {a b x : Int} (h : (x == a) = false) (h' : (x == b) = false) : sw1 a b x = x := by unfold sw1; rw [if_neg (by simp [h]), if_neg (by simp [h'])]
/-- The layout p after a swap of a and b. -/
def swapL (p : List Int) (a b : Int) : List Int := if perm p = true then p.map (sw1 a b) else []
theorem swapL_no {p : List Int} {a b : Int} (h : perm p = false) : swapL p a b = [] := if_neg (by simp [h])
theorem swapL_yes {p : List Int} {a b : Int} (h : perm p = true) : swapL p a b = p.map (sw1 a b) := if_pos h
theorem map_snoc {α β : Type} (f : α → β) {p : List α} {k : Nat} {x : α} (h : p[k]? = some x) : (p.take (k + 1)).map f = (p.take k).map f ++ [f x] := by
  rw [take_snoc h, List.map_append]; rfl
theorem map_take_len {α β : Type} (f : α → β) {p : List α} {k n : Nat} (hk : k ≤ n) (hn : p.length = n) : ((p.take k).map f).length = k := by
  rw [List.length_map, List.length_take]; omega
theorem perm_le {p : List Int} (h : perm p = true) : 1 ≤ p.length ∧ p.length ≤ 4 := by
  unfold perm at h
  simp only [Bool.and_eq_true, decide_eq_true_eq] at h
  exact h.2
set_option maxRecDepth 100000 in
set_option maxHeartbeats 2000000 in
theorem spec_SwapLayout_any (A : Option Addr) (n c : Nat) (p : List Int) (a b : Int) (w : World) (h : Rd w w.heap.size 1 A n (icells p)) (hn : n ≤ 100000000) (hc : n ≤ c) :
    Calls Try.prog 72 #[.slice A n c, .int .i64 a, .int .i64 b] w fun e w' => ∃ v, e = .returned v ∧ w'.ownsRow w.heap.size 3 1 v (swapL p a b).length (icells (swapL p a b)) ∧ Ext w w' := by
  have hlen := Lib.hid (h.len icell_len (by omega))
  go_enter Try.func72, Try.ntmps72
  go_wp2
  cases hp : perm p
  · have HS := Lib.hid (swapL_no (a := a) (b := b) hp)
    go_loopw [7, 8] (fun v i wr => i = .int .i64 0 ∧ wr.ownsRow w.heap.size 3 1 v 0 (icells []) ∧ Ext w wr) (fun _ _ _ => 0)
    case atStart => exact ⟨rfl, own_empty w w _ _ (Ext.refl _), (by repeat (first | exact Ext.refl _ | assumption | refine Ext.alloc ?_ _ | refine Ext.drewN ?_ _ | refine Ext.drew ?_))⟩
    case round =>
      obtain ⟨rfl, ho, hx⟩ := hrel
      go_wp2_with fail
      refine (spec_IsPermutation_any A n c p _ (h.ext hx) hn hc).mono ?_
      rintro e w1 ⟨rfl, hx1⟩
      rw [hp]
      have ho1 := own_ext ho hx1
      clear hp
      go_wp2
      go_ret
      exact ⟨_, rfl, by rw [HS.out]; exact ho1, hx.trans hx1⟩
  have HS := Lib.hid (swapL_yes (a := a) (b := b) hp)
  have hn4 : n ≤ 4 := by have := (perm_le hp).2; have := hlen.out; omega
  have HP := Lib.hid hp
  clear hp
  go_loopw [7, 8] (fun v i wr => ∃ k : Nat, k ≤ n ∧ i = .int .i64 k ∧ wr.ownsRow w.heap.size 3 1 v k (icells ((p.take k).map (sw1 a b))) ∧ Ext w wr) (fun _ i _ => n - (intOf i).toNat)
  case atStart => exact ⟨0, Nat.zero_le _, rfl, own_empty w w _ _ (Ext.refl _), (by repeat (first | exact Ext.refl _ | assumption | refine Ext.alloc ?_ _ | refine Ext.drewN ?_ _ | refine Ext.drew ?_))⟩
  case round =>
    obtain ⟨k, hk, rfl, ho, hx⟩ := hrel
    go_wp2_with fail
    refine (spec_IsPermutation_any A n c p _ (h.ext hx) hn hc).mono ?_
    rintro e w1 ⟨rfl, hx1⟩
    rw [HP.out]
    have ho1 := own_ext ho hx1
    replace hx := hx.trans hx1
    by_cases hlt : k < n
    · obtain ⟨bb, o, x, rfl, hb, hq, h0⟩ := int_at (h.ext hx) hlt
      have HSN := Lib.hid (map_snoc (sw1 a b) hq)
      clear hq
      cases ha : (x == a)
      · cases hb' : (x == b)
        · have HV := Lib.hid (sw1_n ha hb')
          go_wp2_with (at_builtin; refine appInt (w0 := w) rfl _ _ rfl _ k ((p.take k).map (sw1 a b)) rfl ho1 hx x _ _ rfl (by simp) (by omega) ?_; intro v1 w2 ho2 hx2 hg2 hb2)
          go_roundw
          case rel => exact ⟨k + 1, by omega, by go_num, by rw [HSN.out, HV.out]; exact ho2, hx2⟩
          case measure => simp [intOf]; omega
        · have HV := Lib.hid (sw1_b ha hb')
          go_wp2_with (at_builtin; refine appInt (w0 := w) rfl _ _ rfl _ k ((p.take k).map (sw1 a b)) rfl ho1 hx a _ _ rfl (by simp) (by omega) ?_; intro v1 w2 ho2 hx2 hg2 hb2)
          go_roundw
          case rel => exact ⟨k + 1, by omega, by go_num, by rw [HSN.out, HV.out]; exact ho2, hx2⟩
          case measure => simp [intOf]; omega
      · have HV := Lib.hid (sw1_a (b := b) ha)
        go_wp2_with (at_builtin; refine appInt (w0 := w) rfl _ _ rfl _ k ((p.take k).map (sw1 a b)) rfl ho1 hx b _ _ rfl (by simp) (by omega) ?_; intro v1 w2 ho2 hx2 hg2 hb2)
        go_roundw
        case rel => exact ⟨k + 1, by omega, by go_num, by rw [HSN.out, HV.out]; exact ho2, hx2⟩
        case measure => simp [intOf]; omega
    · obtain rfl : k = n := by omega
      rw [List.take_of_length_le (by rw [hlen.out]; omega)] at ho1
      go_wp2
      go_ret
      exact ⟨_, rfl, by rw [HS.out, List.length_map, hlen.out]; exact ho1, hx⟩
end Go.Proofs.Ytofbmkpfliofeaa
/-
  Helper text (no claim of its own): a set of edges kept as a map from edge to bool that the call made.
-/
namespace Go.Proofs.Ytofbmkpfliofeaa
open Go.ChangeShapes Go.WideShapes Go.ChangeAt Go.RowKit Go.Deep
open Go.Maps
theorem Try.rowEdge : (63 : TypeId) < Try.prog.types.size := of_decide_eq_true (by kernel_rfl)
theorem Try.wideEdge : (match Try.prog.underlying 63 with | some (.array _ _) | some (.struct _) => true | _ => false) = true := by kernel_rfl
set_option maxRecDepth 100000 in
theorem keyedEdge : Keyed Try.prog 63 := Keyed.of_law (deep_law_laid laidOut (m := 2) (by omega) Try.rowEdge (by kernel_rfl) Try.wideEdge)
theorem Try.keyTypeEdge : Try.prog.keyType 63 = true := by kernel_rfl
theorem Try.cellsEdge : Try.prog.cellsOf 63 = 2 := by kernel_rfl
def keyE (e : Ed) : Lit := .string (keyBytes [.int .i64 e.a, .int .i64 e.b])
theorem keyOf_edge (e : Ed) (h : e.ok) : keyOf Try.prog 63 e.val = some (keyE e) := by
  obtain ⟨h1, h2⟩ := h
  have w1 := wf_of_I64 h1
  have w2 := wf_of_I64 h2
  have hf : e.val.formed Try.prog 63 = true := by
    simp [Value.formed, Try.underlying63, Try.cellsEdge]
  have hD : ∃ D, Try.prog.types.size + 1 = D + 1 + 1 := ⟨Try.prog.types.size - 1, by have : 0 < Try.prog.types.size := Nat.lt_of_le_of_lt (Nat.zero_le _) Try.rowEdge; omega⟩
  obtain ⟨D, hD⟩ := hD
  simp only [keyOf, Try.underlying63, Try.keyTypeEdge, hf, Bool.and_self, if_true, hD]
  simp [Program.keyLits, Try.underlying63, Try.underlying3, Try.cellsEdge, Try.cellsInt, w1, w2, Value.cells, keyE]
theorem keyE_inj {e f : Ed} (h : e.ok) (h' : f.ok) (hk : keyE e = keyE f) : e = f := by
  have := keyedEdge.inj (keyOf_edge e h) (by rw [hk]; exact keyOf_edge f h')
  obtain ⟨a, b⟩ := e
  obtain ⟨c, d⟩ := f
  simp [Ed.val] at this
  simp [this]
/-- Block b is a map of at most n entries that holds true at just the edges of p. -/
def SeenE (w : World) (b n : Nat) (p : Ed → Bool) : Prop :=
  ∃ D : DataW Unit, w.ownsMap Try.prog 63 (plainElem Try.prog 4) b n D ∧ IsMap D ∧ ∀ x : Ed, x.ok → D.atKey (keyE x) (.lit (.bool false)) = .lit (.bool (p x))
theorem SeenE.made (w : World) : SeenE (w.alloc (.map #[] 0)) w.heap.size 0 (fun _ => false) :=
  ⟨.map [], World.ownsMap_made _ _ _ _, isMap_empty, fun _ _ => rfl⟩
theorem SeenE.lt {w : World} {b n : Nat} {p : Ed → Bool} (h : SeenE w b n p) : b < w.heap.size := let ⟨_, h, _, _⟩ := h; h.lt
end Go.Proofs.Ytofbmkpfliofeaa
/-
  Helper text (no claim of its own): Op as records, slices of them, and the laws' own helpers on them (size, copy, comparison). Printed by gen_fam.py.
-/
namespace Go.Proofs.Ytofbmkpfliofeaa
open Go.ChangeShapes Go.WideShapes Go.ChangeAt Go.RowKit Go.Deep

structure Oq where
  k : Int
  g : Gt
  q : Int
  bit : Int
  cond : Int
def eqO (x y : Oq) : Bool := x.k == y.k && eqG x.g y.g && x.q == y.q && x.bit == y.bit && x.cond == y.cond
def Oq.ok (x : Oq) : Prop := I64 x.k ∧ x.g.ok ∧ I64 x.q ∧ I64 x.bit ∧ I64 x.cond
abbrev Oq.val (x : Oq) : Value := .agg #[.int .i64 x.k, .int .i64 x.g.k, .int .i64 x.g.a, .int .i64 x.g.b, .int .i64 x.g.c, .int .i64 x.q, .int .i64 x.bit, .int .i64 x.cond]
def Oq.cells (x : Oq) : List Value := [.int .i64 x.k, .int .i64 x.g.k, .int .i64 x.g.a, .int .i64 x.g.b, .int .i64 x.g.c, .int .i64 x.q, .int .i64 x.bit, .int .i64 x.cond]
abbrev ocells (xs : List Oq) : List Value := xs.flatMap Oq.cells
theorem Oq.cells_len (x : Oq) : x.cells.length = 8 := rfl
theorem op_at {w : World} {B n i : Nat} {A : Option Addr} {xs : List Oq} (h : Rd w B 8 A n (ocells xs)) (hi : i < n) :
    ∃ b o x, A = some ⟨b, o, none⟩ ∧ b < B ∧ xs[i]? = some x ∧ w.cell? ⟨b, o + i * 8, none⟩ = some (.int .i64 x.k) ∧ w.cell? ⟨b, o + i * 8 + 1, none⟩ = some (.int .i64 x.g.k) ∧ w.cell? ⟨b, o + i * 8 + 2, none⟩ = some (.int .i64 x.g.a) ∧ w.cell? ⟨b, o + i * 8 + 3, none⟩ = some (.int .i64 x.g.b) ∧ w.cell? ⟨b, o + i * 8 + 4, none⟩ = some (.int .i64 x.g.c) ∧ w.cell? ⟨b, o + i * 8 + 5, none⟩ = some (.int .i64 x.q) ∧ w.cell? ⟨b, o + i * 8 + 6, none⟩ = some (.int .i64 x.bit) ∧ w.cell? ⟨b, o + i * 8 + 7, none⟩ = some (.int .i64 x.cond) := by
  obtain ⟨b, o, x, rfl, hb, hx, hc⟩ := elem_at Oq.cells_len (by omega) h hi
  exact ⟨b, o, x, rfl, hb, hx, hc 0 _ rfl, hc 1 _ rfl, hc 2 _ rfl, hc 3 _ rfl, hc 4 _ rfl, hc 5 _ rfl, hc 6 _ rfl, hc 7 _ rfl⟩


theorem Oq.one (xs : List Oq) : ∀ u ∈ ocells xs, u.oneCell' = true := by
  intro u hu
  obtain ⟨x, _, hx⟩ := List.mem_flatMap.1 hu
  simp [Oq.cells] at hx
  rcases hx with rfl | rfl | rfl | rfl | rfl | rfl | rfl | rfl <;> rfl
theorem eqO_self (x : Oq) : eqO x x = true := by simp [eqO, eqG_self]
end Go.Proofs.Ytofbmkpfliofeaa
/-
  Helper text (no claim of its own): comparisons of slices by the program and by the reference.
-/
namespace Go.Proofs.Ytofbmkpfliofeaa
open Go.ChangeShapes Go.WideShapes Go.ChangeAt Go.RowKit Go.Deep
theorem Try.stoodGate : Try.prog.stoodInHeld 37 = false := by kernel_rfl
theorem Try.eqgGate : Try.prog.eqGuardType Try.prog.depth 37 = false := by kernel_rfl
set_option maxRecDepth 100000 in
set_option maxHeartbeats 1000000 in
theorem eqIn_gate (x y : Gt) (w : World) : (Op.equalIn 10000 37 x.val y.val).run Try.prog w = .ok (eqG x y) w := by
  have h1 := Try.stoodGate
  unfold eqG
  by_cases e1 : x.k = y.k <;> by_cases e2 : x.a = y.a <;> by_cases e3 : x.b = y.b <;> by_cases e4 : x.c = y.c <;> (go_simp <;> simp [*])
end Go.Proofs.Ytofbmkpfliofeaa
/-
  Helper text (no claim of its own): further comparisons of slices. Printed by gen_cmp.py.
-/
namespace Go.Proofs.Ytofbmkpfliofeaa
open Go.ChangeShapes Go.WideShapes Go.ChangeAt Go.RowKit Go.Deep
theorem Try.stoodEdge : Try.prog.stoodInHeld 63 = false := by kernel_rfl
theorem Try.eqgEdge : Try.prog.eqGuardType Try.prog.depth 63 = false := by kernel_rfl
set_option maxRecDepth 100000 in
set_option maxHeartbeats 1000000 in
theorem eqIn_edge (x y : Ed) (w : World) : (Op.equalIn 10000 63 x.val y.val).run Try.prog w = .ok (eqE x y) w := by
  have h1 := Try.stoodEdge
  unfold eqE
  by_cases e1 : x.a = y.a <;> by_cases e2 : x.b = y.b <;> (go_simp <;> simp [*])
set_option maxRecDepth 100000 in
set_option maxHeartbeats 2000000 in
theorem sameGates_any (A B : Option Addr) (n m c d : Nat) (xs ys : List Gt) (w : World) (h : Rd w w.heap.size 4 A n (gcells xs)) (h' : Rd w w.heap.size 4 B m (gcells ys)) (hn : n ≤ 100000000) (hm : m ≤ 100000000) :
    Calls Try.prog 8 #[.slice A n c, .slice B m d] w fun e w' => e = .returned (.bool (eqL eqG xs ys)) ∧ Ext w w' := by
  by_cases hnm : n = m
  · subst hnm
    go_enter Try.func8, Try.ntmps8
    go_wp2
    go_loopw [5] (fun i wr => ∃ k : Nat, k ≤ n ∧ i = .int .i64 k ∧ Hid (eqL eqG (xs.take k) (ys.take k) = true) ∧ ∃ q, wr = w.drewN q) (fun i _ => n - (intOf i).toNat)
    case atStart => exact ⟨0, Nat.zero_le _, rfl, by simp [Hid, eqL], 0, rfl⟩
    case round =>
      obtain ⟨k, hk, rfl, HQ, q, rfl⟩ := hrel
      by_cases hlt : k < n
      · obtain ⟨b, o, g, rfl, hb, hg, h0, h1, h2, h3⟩ := gate_at h hlt
        obtain ⟨b', o', g', rfl, hb', hg', r0, r1, r2, r3⟩ := gate_at h' hlt
        have HG := Lib.hid hg
        have HG' := Lib.hid hg'
        clear hg hg'
        cases hq : eqG g g'
        · have HF := Lib.hid (eqL_false eqG HG.out HG'.out hq)
          have HN := (show ∀ w, (Op.equalIn 10000 37 g.val g'.val).run Try.prog w = .ok false w from fun w => by rw [eqIn_gate, hq])
          have HE := Try.eqgGate
          go_wp2
          go_quiet (fail)
          go_wp2
          go_ret
          exact ⟨ret_bool HF.out.symm, (by repeat (first | exact Ext.refl _ | assumption | refine Ext.alloc ?_ _ | refine Ext.drewN ?_ _ | refine Ext.drew ?_))⟩
        · have HN := (show ∀ w, (Op.equalIn 10000 37 g.val g'.val).run Try.prog w = .ok true w from fun w => by rw [eqIn_gate, hq])
          have HE := Try.eqgGate
          go_wp2
          go_quiet (fail)
          go_wp2
          go_roundw
          case rel => exact ⟨k + 1, by omega, by go_num, by unfold Hid; rw [eqL_snoc _ HG.out HG'.out, HQ.out, hq]; rfl, _, rfl⟩
          case measure => simp [intOf]; omega
      · have : k = n := by omega
        subst this
        rw [List.take_of_length_le (by rw [h.len Gt.cells_len (by omega)]; omega), List.take_of_length_le (by rw [h'.len Gt.cells_len (by omega)]; omega)] at HQ
        go_wp2
        go_ret
        exact ⟨ret_bool HQ.out.symm, (by repeat (first | exact Ext.refl _ | assumption | refine Ext.alloc ?_ _ | refine Ext.drewN ?_ _ | refine Ext.drew ?_))⟩
  · have hnm' : ((n : Int) != (m : Int)) = true := by rw [bne_iff_ne]; omega
    have HF := Lib.hid (eqL_len eqG xs ys (by rw [h.len Gt.cells_len (by omega), h'.len Gt.cells_len (by omega)]; exact hnm))
    go_enter Try.func8, Try.ntmps8
    go_wp2
    go_ret
    exact ⟨ret_bool HF.out.symm, Ext.refl _⟩
end Go.Proofs.Ytofbmkpfliofeaa
/-
  Helper text (no claim of its own): connected graphs and valid graphs, by the program and by the reference.
-/
namespace Go.Proofs.Ytofbmkpfliofeaa
open Go.ChangeShapes Go.WideShapes Go.ChangeAt Go.RowKit Go.Deep
/-- Every vertex is reached from the first one. -/
def conn (x : Gr) : Bool := decide (1 ≤ x.n) && decide (x.n ≤ 4) && (List.range x.n.toNat).all fun k => decide (0 ≤ gd x 0 (k : Int))
theorem conn_lo {x : Gr} (h : x.n < 1) : conn x = false := by
  unfold conn; rw [show decide (1 ≤ x.n) = false from by simpa using h]; rfl
theorem conn_hi {x : Gr} (h : 4 < x.n) : conn x = false := by
  unfold conn; rw [show decide (x.n ≤ 4) = false from by simpa using h]; simp
theorem conn_no {x : Gr} {k n : Nat} (hn : x.n = n) (h : k < n) (h0 : gd x 0 (k : Int) = -1) : conn x = false := by
  unfold conn
  have : ((List.range x.n.toNat).all fun k => decide (0 ≤ gd x 0 (k : Int))) = false := by
    rw [List.all_eq_false]
    exact ⟨k, by rw [hn]; simpa using h, by rw [h0]; simp⟩
  rw [this, Bool.and_false]
theorem conn_yes {x : Gr} {n : Nat} (hn : x.n = n) (h1 : 1 ≤ n) (h4 : n ≤ 4) (h : ∀ k, k < n → 0 ≤ gd x 0 (k : Int)) : conn x = true := by
  unfold conn
  have : ((List.range x.n.toNat).all fun k => decide (0 ≤ gd x 0 (k : Int))) = true := by
    rw [List.all_eq_true]
    intro k hk
    rw [hn] at hk
    simp at hk
    simpa using h k hk
  rw [this, hn]
  simp; omega
set_option maxRecDepth 100000 in
set_option maxHeartbeats 4000000 in
theorem spec_IsConnected_any (v : Value) (x : Gr) (w : World) (h : GrAt w w.heap.size v x) (hl : x.es.length ≤ 100000000) :
    Calls Try.prog 68 #[v] w fun e w' => e = .returned (.bool (conn x)) ∧ Ext w w' := by
  obtain ⟨A1, c1, rfl, h1⟩ := h
  have HG : Hid (∀ w', Ext w w' → GrAt w' w'.heap.size (.agg #[.int .i64 x.n, .slice A1 x.es.length c1]) x) := fun w' hx => ⟨A1, c1, rfl, h1.ext hx⟩
  clear h1
  have hB0 : Blk (w.alloc (.cells #[.int .i64 x.n, .slice A1 x.es.length c1] 27)) w.heap.size 27 #[.int .i64 x.n, .slice A1 x.es.length c1] := Blk.new _ _ _
  have hX0 : Ext w (w.alloc (.cells #[.int .i64 x.n, .slice A1 x.es.length c1] 27)) := by repeat (first | exact Ext.refl _ | assumption | refine Ext.alloc ?_ _ | refine Ext.drewN ?_ _ | refine Ext.drew ?_)
  have HB0 := Lib.hid hB0
  have HX0 := Lib.hid hX0
  clear hB0 hX0
  by_cases hlo : x.n < 1
  · have HF := Lib.hid (conn_lo hlo)
    have HN : Hid (x.n < 1 ∨ 4 < x.n) := .inl hlo
    go_enter Try.func68, Try.ntmps68
    go_wp2
    have hB0 := HB0.out
    have hX0 := HX0.out
    clear HB0 HX0
    generalize (w.alloc (.cells #[.int .i64 x.n, .slice A1 x.es.length c1] 27)) = Wb at *
    go_loop [3] (fun i => i = .int .i64 0) (fun _ => 0)
    case atStart => rfl
    case round =>
      obtain rfl := hrel
      have d0 : Wb.cell? ⟨w.heap.size, 0, none⟩ = some (.int .i64 x.n) := hB0.cell 0
      have hx4 : x.n ≤ 4 := by omega
      have hx0 : ¬ (0 : Int) < x.n := by omega
      go_wp2_with fail
      refine (l1In_no _ _ _ _ HN.out).mono ?_
      rintro e w1 ⟨rfl, rfl⟩
      go_wp2
      go_ret
      exact ⟨ret_bool HF.out.symm, hX0⟩
  by_cases hhi : 4 < x.n
  · have HF := Lib.hid (conn_hi hhi)
    have HGD := Lib.hid (gd_no (x := x) (a := 0) (b := 0) (by omega))
    go_enter Try.func68, Try.ntmps68
    go_wp2
    have hB0 := HB0.out
    have hX0 := HX0.out
    clear HB0 HX0
    generalize (w.alloc (.cells #[.int .i64 x.n, .slice A1 x.es.length c1] 27)) = Wb at *
    go_loop [3] (fun i => i = .int .i64 0) (fun _ => 0)
    case atStart => rfl
    case round =>
      obtain rfl := hrel
      have d0 : Wb.cell? ⟨w.heap.size, 0, none⟩ = some (.int .i64 x.n) := hB0.cell 0
      have d1 : Wb.cell? ⟨w.heap.size, 1, none⟩ = some (.slice A1 x.es.length c1) := hB0.cell 1
      have hx4 : ¬ x.n ≤ 4 := by omega
      have hx0 : 4 ≤ x.n := by omega
      go_wp2_with fail
      refine (spec_GraphDistance_any _ x 0 0 _ (HG.out _ hX0) hl).mono ?_
      rintro e w1 ⟨rfl, hy1⟩
      rw [HGD.out]
      go_wp2
      go_ret
      exact ⟨ret_bool HF.out.symm, hX0.trans hy1⟩
  obtain ⟨n, hn⟩ := Int.eq_ofNat_of_zero_le (by omega : 0 ≤ x.n)
  have hn1 : 1 ≤ n := by omega
  have hn4 : n ≤ 4 := by omega
  have HN := Lib.hid hn
  rw [hn] at HB0 HX0 HG ⊢
  clear hn hlo hhi
  go_enter Try.func68, Try.ntmps68
  go_wp2
  have hB0 := HB0.out
  have hX0 := HX0.out
  clear HB0 HX0
  generalize (w.alloc (.cells #[.int .i64 (n : Int), .slice A1 x.es.length c1] 27)) = Wb at *
  go_loopw [3] (fun i wr => ∃ k : Nat, k ≤ n ∧ i = .int .i64 k ∧ Hid (∀ j, j < k → 0 ≤ gd x 0 (j : Int)) ∧ Ext Wb wr) (fun i _ => n - (intOf i).toNat)
  case atStart => exact ⟨0, Nat.zero_le _, rfl, fun j hj => absurd hj (by omega), Ext.refl _⟩
  case round =>
    obtain ⟨k, hk, rfl, HQ, hx⟩ := hrel
    have hB := hB0.ext hx
    have d0 : wr.cell? ⟨w.heap.size, 0, none⟩ = some (.int .i64 (n : Int)) := hB.cell 0
    have d1 : wr.cell? ⟨w.heap.size, 1, none⟩ = some (.slice A1 x.es.length c1) := hB.cell 1
    by_cases hlt : k < n
    · go_wp2_with fail
      refine (spec_GraphDistance_any _ x 0 k _ (HG.out _ (hX0.trans hx)) hl).mono ?_
      rintro e w1 ⟨rfl, hy1⟩
      have hgr := gd_range x 0 (k : Int)
      by_cases hg : gd x 0 (k : Int) = -1
      · have HF := Lib.hid (conn_no HN.out hlt hg)
        rw [hg]
        clear hg hgr
        go_wp2
        go_ret
        exact ⟨ret_bool HF.out.symm, (hX0.trans hx).trans hy1⟩
      · have HQ2 : Hid (∀ j, j < k + 1 → 0 ≤ gd x 0 (j : Int)) := fun j hj => by
          by_cases e : j = k
          · subst e; omega
          · exact HQ.out j (by omega)
        have hgb : ¬ gd x 0 (k : Int) < 0 := by omega
        clear hg hgr
        generalize gd x 0 (k : Int) = G at *
        go_wp2
        go_roundw
        case rel => exact ⟨k + 1, by omega, by go_num, HQ2, hx.trans hy1⟩
        case measure => simp [intOf]; omega
    · obtain rfl : k = n := by omega
      have HF := Lib.hid (conn_yes HN.out hn1 hn4 HQ.out)
      go_wp2_with fail
      refine (l1In_yes _ _ _ _ (by omega) (by omega)).mono ?_
      rintro e w1 ⟨rfl, rfl⟩
      go_wp2
      go_ret
      exact ⟨ret_bool HF.out.symm, hX0.trans hx⟩
/-! ### Valid graphs -/
def okE1 (m : Int) (es : List Ed) (i : Nat) (e : Ed) : Bool := !(e.a == e.b) && decide (0 ≤ e.a) && decide (e.a ≤ m) && decide (0 ≤ e.b) && decide (e.b ≤ m) && !((es.take i).any fun y => eqE y e)
def vgrE (m : Int) (es : List Ed) : Bool := (List.range es.length).all fun i => match es[i]? with
  | some e => okE1 m es i e
  | none => true
/-- Is the graph valid? -/
def vgraph (x : Gr) : Bool := vgrE (wrap64 (x.n - 1)) x.es && conn x
theorem vgr_no {x : Gr} {m : Int} (hm : m = wrap64 (x.n - 1)) {k : Nat} {e : Ed} (h : x.es[k]? = some e) (ho : okE1 m x.es k e = false) : vgraph x = false := by
  subst hm
  have : vgrE (wrap64 (x.n - 1)) x.es = false := by
    unfold vgrE
    rw [List.all_eq_false]
    exact ⟨k, by simpa using (List.getElem?_eq_some_iff.1 h).1, by rw [h]; simp [ho]⟩
  unfold vgraph
  rw [this, Bool.false_and]
theorem vgr_yes {x : Gr} {m : Int} (hm : m = wrap64 (x.n - 1)) (h : ∀ i e, x.es[i]? = some e → okE1 m x.es i e = true) : vgraph x = conn x := by
  subst hm
  have : vgrE (wrap64 (x.n - 1)) x.es = true := by
    unfold vgrE
    rw [List.all_eq_true]
    intro i _
    split
    · rename_i e he
      exact h i e he
    · rfl
  unfold vgraph
  rw [this, Bool.true_and]
theorem okE1_same {m : Int} {es : List Ed} {i : Nat} {e : Ed} (h : (e.a == e.b) = true) : okE1 m es i e = false := by unfold okE1; rw [h]; simp
theorem okE1_a {m : Int} {es : List Ed} {i : Nat} {e : Ed} (h : e.a < 0 ∨ m < e.a) : okE1 m es i e = false := by
  unfold okE1
  rcases h with h | h
  · rw [show decide (0 ≤ e.a) = false from by simpa using h]; simp
  · rw [show decide (e.a ≤ m) = false from by simpa using h]; simp
theorem okE1_b {m : Int} {es : List Ed} {i : Nat} {e : Ed} (h : e.b < 0 ∨ m < e.b) : okE1 m es i e = false := by
  unfold okE1
  rcases h with h | h
  · rw [show decide (0 ≤ e.b) = false from by simpa using h]; simp
  · rw [show decide (e.b ≤ m) = false from by simpa using h]; simp
def metE (es : List Ed) (i : Nat) (e : Ed) : Bool := (es.take i).any fun y => eqE y e
theorem okE1_met {m : Int} {es : List Ed} {i : Nat} {e : Ed} (h : metE es i e = true) : okE1 m es i e = false := by unfold okE1; rw [show ((es.take i).any fun y => eqE y e) = true from h]; simp
theorem okE1_yes {m : Int} {es : List Ed} {i : Nat} {e : Ed} (h : (e.a == e.b) = false) (h1 : 0 ≤ e.a) (h2 : e.a ≤ m) (h3 : 0 ≤ e.b) (h4 : e.b ≤ m) (h5 : metE es i e = false) : okE1 m es i e = true := by
  unfold okE1
  rw [show ((es.take i).any fun y => eqE y e) = false from h5, h]
  simp [h1, h2, h3, h4]
theorem eqE_comm (x y : Ed) : eqE x y = eqE y x := by
  unfold eqE
  rw [Bool.eq_iff_iff]
  simp
  omega
theorem metE_snoc {es : List Ed} {i : Nat} {e : Ed} (h : es[i]? = some e) : metE es (i + 1) = fun z => eqE z e || metE es i z := by
  funext z
  unfold metE
  rw [take_snoc h, List.any_append, Bool.or_comm]
  simp [eqE_comm]
theorem metE_yes {es : List Ed} {i j : Nat} {y e : Ed} (h : es[j]? = some y) (hj : j < i) (hq : eqE y e = true) : metE es i e = true := by
  unfold metE
  rw [List.any_eq_true]
  exact ⟨y, List.mem_of_getElem? (by rw [List.getElem?_take_of_lt hj]; exact h), hq⟩
theorem metE_no {es : List Ed} {j : Nat} {y e : Ed} (h : es[j]? = some y) (h0 : metE es j e = false) (hq : eqE y e = false) : metE es (j + 1) e = false := by
  rw [metE_snoc h]
  show (eqE e y || metE es j e) = false
  rw [h0, eqE_comm, hq]; rfl
set_option maxRecDepth 100000 in
set_option maxHeartbeats 4000000 in
theorem spec_IsValidGraph_any (v : Value) (x : Gr) (w : World) (h : GrAt w w.heap.size v x) (hl : x.es.length ≤ 100000000) :
    Calls Try.prog 49 #[v] w fun e w' => e = .returned (.bool (vgraph x)) ∧ Ext w w' := by
  obtain ⟨A1, c1, rfl, h1⟩ := h
  have HG : Hid (∀ w', Ext w w' → GrAt w' w'.heap.size (.agg #[.int .i64 x.n, .slice A1 x.es.length c1]) x) := fun w' hx => ⟨A1, c1, rfl, h1.ext hx⟩
  obtain ⟨L, hL⟩ : ∃ L, L = x.es.length := ⟨_, rfl⟩
  have HL := Lib.hid hL
  rw [← hL] at h1 HG hl ⊢
  clear hL
  have hB0 : Blk (w.alloc (.cells #[.int .i64 x.n, .slice A1 L c1] 27)) w.heap.size 27 #[.int .i64 x.n, .slice A1 L c1] := Blk.new _ _ _
  have hX0 : Ext w (w.alloc (.cells #[.int .i64 x.n, .slice A1 L c1] 27)) := by repeat (first | exact Ext.refl _ | assumption | refine Ext.alloc ?_ _ | refine Ext.drewN ?_ _ | refine Ext.drew ?_)
  have HB0 := Lib.hid hB0
  have HX0 := Lib.hid hX0
  clear hB0 hX0
  obtain ⟨m, hm⟩ : ∃ m, m = wrap64 (x.n - 1) := ⟨_, rfl⟩
  have HM := Lib.hid hm
  clear hm
  go_enter Try.func49, Try.ntmps49
  go_wp2
  have hB0 := HB0.out
  have hX0 := HX0.out
  clear HB0 HX0
  generalize (w.alloc (.cells #[.int .i64 x.n, .slice A1 L c1] 27)) = W0 at *
  go_loopw [3] (fun i wr => ∃ k : Nat, k ≤ L ∧ i = .int .i64 k ∧ Hid (∀ i e, i < k → x.es[i]? = some e → okE1 m x.es i e = true) ∧ Blk wr w.heap.size 27 #[.int .i64 x.n, .slice A1 L c1] ∧ Ext w wr) (fun i _ => L - (intOf i).toNat)
  case atStart => exact ⟨0, Nat.zero_le _, rfl, fun i e h => absurd h (by omega), hB0, hX0⟩
  case round =>
    clear hB0 hX0
    obtain ⟨k, hk, rfl, HQ, hB, hx⟩ := hrel
    have d0 : wr.cell? ⟨w.heap.size, 0, none⟩ = some (.int .i64 x.n) := hB.cell 0
    have d1 : wr.cell? ⟨w.heap.size, 1, none⟩ = some (.slice A1 L c1) := hB.cell 1
    by_cases hlt : k < L
    · obtain ⟨b, o, e, rfl, hb, he, r0, r1⟩ := edge_at (h1.ext hx) hlt
      have HE := Lib.hid he
      clear he
      have hblt := hB.lt
      by_cases ha : e.a < 0 ∨ m < e.a
      · have HF := Lib.hid (vgr_no HM.out HE.out (okE1_a ha))
        have HA : Hid (e.a < 0 ∨ wrap64 (x.n - 1) < e.a) := by rw [← HM.out]; exact ha
        clear ha
        go_wp2_with fail
        refine (l1In_no _ _ _ _ HA.out).mono ?_
        rintro e1 w1 ⟨rfl, rfl⟩
        go_wp2
        go_ret
        exact ⟨ret_bool HF.out.symm, hx.alloc _⟩
      have ha1 : 0 ≤ e.a := by omega
      have ha2 : e.a ≤ m := by omega
      have HA2 : Hid (e.a ≤ wrap64 (x.n - 1)) := by rw [← HM.out]; exact ha2
      clear ha
      go_wp2_with fail
      refine (l1In_yes _ _ _ _ ha1 HA2.out).mono ?_
      rintro e1 w1 ⟨rfl, rfl⟩
      by_cases hb' : e.b < 0 ∨ m < e.b
      · have HF := Lib.hid (vgr_no HM.out HE.out (okE1_b hb'))
        have HA : Hid (e.b < 0 ∨ wrap64 (x.n - 1) < e.b) := by rw [← HM.out]; exact hb'
        clear hb'
        go_wp2_with fail
        refine (l1In_no _ _ _ _ HA.out).mono ?_
        rintro e1 w1 ⟨rfl, rfl⟩
        go_wp2
        go_ret
        exact ⟨ret_bool HF.out.symm, hx.alloc _⟩
      have hb1 : 0 ≤ e.b := by omega
      have hb2 : e.b ≤ m := by omega
      have HB2 : Hid (e.b ≤ wrap64 (x.n - 1)) := by rw [← HM.out]; exact hb2
      clear hb'
      go_wp2_with fail
      refine (l1In_yes _ _ _ _ hb1 HB2.out).mono ?_
      rintro e1 w1 ⟨rfl, rfl⟩
      cases hab : (e.a == e.b)
      case true =>
        have HF := Lib.hid (vgr_no HM.out HE.out (okE1_same hab))
        go_wp2
        go_ret
        exact ⟨ret_bool HF.out.symm, hx.alloc _⟩
      go_wp2
      have hBe : Blk (wr.alloc (.cells #[.int .i64 e.a, .int .i64 e.b] 63)) wr.heap.size 63 #[.int .i64 e.a, .int .i64 e.b] := Blk.new _ _ _
      have hB2 := hB.alloc (.cells #[.int .i64 e.a, .int .i64 e.b] 63)
      have hx2 := hx.alloc (.cells #[.int .i64 e.a, .int .i64 e.b] 63)
      clear r0 r1 d0 d1 hB hx
      generalize hs : wr.heap.size = s at *
      generalize (wr.alloc (.cells #[.int .i64 e.a, .int .i64 e.b] 63)) = We at *
      clear hs
      have hr2 := h1.ext hx2
      have d1 : We.cell? ⟨w.heap.size, 1, none⟩ = some (.slice (some ⟨b, o, none⟩) L c1) := hB2.cell 1
      have e0 : We.cell? ⟨s, 0, none⟩ = some (.int .i64 e.a) := hBe.cell 0
      have e1 : We.cell? ⟨s, 1, none⟩ = some (.int .i64 e.b) := hBe.cell 1
      go_loopw [5] (fun i wr => ∃ j : Nat, j ≤ k ∧ i = .int .i64 j ∧ Hid (metE x.es j e = false) ∧ ∃ q, wr = We.drewN q) (fun i _ => k - (intOf i).toNat)
      case atStart => exact ⟨0, Nat.zero_le _, rfl, by simp [Hid, metE], 0, rfl⟩
      case round =>
        obtain ⟨j, hj, rfl, HJ, q, rfl⟩ := hrel
        by_cases hlj : j < k
        · obtain ⟨b', o', y, eA, hb', hy, s0, s1⟩ := edge_at hr2 (by omega : j < L)
          injection eA with eA
          injection eA with eA1 eA2
          subst eA1 eA2
          have HY := Lib.hid hy
          clear hy
          have hj0 : (0 : Int) ≤ (j : Int) := by omega
          have hjL : (j : Int) < (L : Int) := by omega
          have HEG := Try.eqgEdge
          cases hq : eqE y e
          · have HN2 := Lib.hid (metE_no HY.out HJ.out hq)
            have HN := (show ∀ w, (Op.equalIn 10000 63 y.val e.val).run Try.prog w = .ok false w from fun w => by rw [eqIn_edge, hq])
            go_wp2
            go_quiet (fail)
            go_wp2
            go_roundw
            case rel => exact ⟨j + 1, by omega, by go_num, HN2, _, rfl⟩
            case measure => simp [intOf]; omega
          · have HF := Lib.hid (vgr_no HM.out HE.out (okE1_met (metE_yes HY.out hlj hq)))
            have HN := (show ∀ w, (Op.equalIn 10000 63 y.val e.val).run Try.prog w = .ok true w from fun w => by rw [eqIn_edge, hq])
            go_wp2
            go_quiet (fail)
            go_wp2
            go_ret
            exact ⟨ret_bool HF.out.symm, (by repeat (first | exact Ext.refl _ | assumption | refine Ext.alloc ?_ _ | refine Ext.drewN ?_ _ | refine Ext.drew ?_))⟩
        · obtain rfl : j = k := by omega
          have HY := Lib.hid (okE1_yes (m := m) (es := x.es) (i := j) hab ha1 ha2 hb1 hb2 HJ.out)
          go_wp2
          go_roundw
          case rel =>
            refine ⟨j + 1, by omega, by go_num, fun i e' hi he' => ?_, hB2.ext ((Ext.refl We).drewN q), hx2.drewN q⟩
            by_cases hik : i = j
            · subst hik
              have := HE.out
              rw [he'] at this
              injection this with this
              rw [this]
              exact HY.out
            · exact HQ.out i e' (by omega) he'
          case measure => simp [intOf]; omega
    · obtain rfl : k = L := by omega
      have HF := Lib.hid (vgr_yes HM.out (fun i e h => HQ.out i e (by rw [HL.out]; exact (List.getElem?_eq_some_iff.1 h).1) h))
      go_wp2_with fail
      refine (spec_IsConnected_any _ x _ (HG.out _ hx) (by rw [← HL.out]; exact hl)).mono ?_
      rintro e1 w1 ⟨rfl, hy1⟩
      go_wp2
      go_ret
      exact ⟨ret_bool HF.out.symm, hx.trans hy1⟩
end Go.Proofs.Ytofbmkpfliofeaa
/-
  Helper text (no claim of its own): basic gates, layouts, and whether a gate can be routed, by the program and by the reference.
-/
namespace Go.Proofs.Ytofbmkpfliofeaa
open Go.ChangeShapes Go.WideShapes Go.ChangeAt Go.RowKit Go.Deep
/-- A basic gate: on one qubit, or a CX. -/
def bas (g : Gt) : Bool := ar g.k == 1 || g.k == 9
set_option maxRecDepth 100000 in
set_option maxHeartbeats 1000000 in
theorem spec_IsBasicGate_any (g : Gt) (w : World) : Calls Try.prog 69 #[g.val] w fun e w' => e = .returned (.bool (bas g)) ∧ Ext w w' := by
  go_enter Try.func69, Try.ntmps69
  go_wp2_with fail
  refine (spec_Arity_any _ _).mono ?_
  rintro e w1 ⟨rfl, rfl⟩
  cases h : (ar g.k == 1)
  · have HF : Hid (bas g = (g.k == 9)) := by unfold Hid bas; rw [h, Bool.false_or]
    go_wp2
    go_ret
    exact ⟨ret_bool HF.out.symm, (by repeat (first | exact Ext.refl _ | assumption | refine Ext.alloc ?_ _ | refine Ext.drewN ?_ _ | refine Ext.drew ?_))⟩
  · have HF : Hid (bas g = true) := by unfold Hid bas; rw [h, Bool.true_or]
    go_wp2
    go_ret
    exact ⟨ret_bool HF.out.symm, (by repeat (first | exact Ext.refl _ | assumption | refine Ext.alloc ?_ _ | refine Ext.drewN ?_ _ | refine Ext.drew ?_))⟩
/-- Is p a layout for the graph x? -/
def lay (x : Gr) (p : List Int) : Bool := vgraph x && perm p && ((p.length : Int) == x.n)
/-- Can gate g be routed on graph x with layout p? -/
def may (g : Gt) (x : Gr) (p : List Int) : Bool := lay x p && bas g && vg g x.n
theorem lay_v {x : Gr} {p : List Int} (h : vgraph x = false) : lay x p = false := by unfold lay; rw [h]; rfl
theorem lay_p {x : Gr} {p : List Int} (h : perm p = false) : lay x p = false := by unfold lay; rw [h]; simp
theorem lay_e {x : Gr} {p : List Int} (h : vgraph x = true) (h' : perm p = true) : lay x p = ((p.length : Int) == x.n) := by unfold lay; rw [h, h']; rfl
theorem may_l {g : Gt} {x : Gr} {p : List Int} (h : lay x p = false) : may g x p = false := by unfold may; rw [h]; rfl
theorem may_b {g : Gt} {x : Gr} {p : List Int} (h : bas g = false) : may g x p = false := by unfold may; rw [h]; simp
theorem may_v {g : Gt} {x : Gr} {p : List Int} (h : vg g x.n = false) : may g x p = false := by unfold may; rw [h]; simp
theorem may_e {g : Gt} {x : Gr} {p : List Int} (h : lay x p = true) (h' : bas g = true) : may g x p = vg g x.n := by unfold may; rw [h, h']; rfl
theorem may_e2 {g : Gt} {x : Gr} {p : List Int} (h : vg g x.n = true) (h' : bas g = true) : may g x p = lay x p := by unfold may; rw [h, h']; simp
set_option maxRecDepth 100000 in
set_option maxHeartbeats 4000000 in
theorem spec_l38Right_any (g : Gt) (v : Value) (x : Gr) (A : Option Addr) (n c : Nat) (p : List Int) (w : World) (h : GrAt w w.heap.size v x) (hl : x.es.length ≤ 100000000) (hp : Rd w w.heap.size 1 A n (icells p)) (hn : n ≤ 100000000) (hc : n ≤ c) :
    Calls Try.prog 51 #[g.val, v, .slice A n c] w fun e w' => e = .returned (.bool (may g x p)) ∧ Ext w w' := by
  have hlen := Lib.hid (hp.len icell_len (by omega))
  obtain ⟨A1, c1, rfl, h1⟩ := h
  have HG : Hid (∀ w', Ext w w' → GrAt w' w'.heap.size (.agg #[.int .i64 x.n, .slice A1 x.es.length c1]) x) := fun w' hx => ⟨A1, c1, rfl, h1.ext hx⟩
  clear h1
  have hG0 : Blk ((w.alloc (.cells #[.int .i64 g.k, .int .i64 g.a, .int .i64 g.b, .int .i64 g.c] 37)).alloc (.cells #[.int .i64 x.n, .slice A1 x.es.length c1] 27)) w.heap.size 37 #[.int .i64 g.k, .int .i64 g.a, .int .i64 g.b, .int .i64 g.c] := (Blk.new _ _ _).alloc _
  have hB0 : Blk ((w.alloc (.cells #[.int .i64 g.k, .int .i64 g.a, .int .i64 g.b, .int .i64 g.c] 37)).alloc (.cells #[.int .i64 x.n, .slice A1 x.es.length c1] 27)) (w.heap.size + 1) 27 #[.int .i64 x.n, .slice A1 x.es.length c1] := Blk.newAt (by simp)
  have hX0 : Ext w ((w.alloc (.cells #[.int .i64 g.k, .int .i64 g.a, .int .i64 g.b, .int .i64 g.c] 37)).alloc (.cells #[.int .i64 x.n, .slice A1 x.es.length c1] 27)) := by repeat (first | exact Ext.refl _ | assumption | refine Ext.alloc ?_ _ | refine Ext.drewN ?_ _ | refine Ext.drew ?_)
  have HG0 := Lib.hid hG0
  have HB0 := Lib.hid hB0
  have HX0 := Lib.hid hX0
  clear hB0 hX0 hG0
  go_enter Try.func51, Try.ntmps51
  go_wp2_with fail
  have hG0 := HG0.out
  have hB0 := HB0.out
  have hX0 := HX0.out
  clear HB0 HX0 HG0
  generalize ((w.alloc (.cells #[.int .i64 g.k, .int .i64 g.a, .int .i64 g.b, .int .i64 g.c] 37)).alloc (.cells #[.int .i64 x.n, .slice A1 x.es.length c1] 27)) = W at *
  refine (spec_IsBasicGate_any g _).mono ?_
  rintro e w1 ⟨rfl, hx1⟩
  have hx := hX0.trans hx1
  have hG := hG0.ext hx1
  have hB := hB0.ext hx1
  clear hB0 hX0 hx1 hG0
  have b0 : w1.cell? ⟨w.heap.size, 0, none⟩ = some (.int .i64 g.k) := hG.cell 0
  have b1 : w1.cell? ⟨w.heap.size, 1, none⟩ = some (.int .i64 g.a) := hG.cell 1
  have b2 : w1.cell? ⟨w.heap.size, 2, none⟩ = some (.int .i64 g.b) := hG.cell 2
  have b3 : w1.cell? ⟨w.heap.size, 3, none⟩ = some (.int .i64 g.c) := hG.cell 3
  have d0 : w1.cell? ⟨w.heap.size + 1, 0, none⟩ = some (.int .i64 x.n) := hB.cell 0
  cases hb : bas g
  · have HF := Lib.hid (may_b (x := x) (p := p) hb)
    go_wp2
    go_ret
    exact ⟨ret_bool HF.out.symm, hx⟩
  have HBS := Lib.hid hb
  clear hb
  go_wp2_with fail
  refine (spec_IsValidGate_any g x.n _).mono ?_
  rintro e w2 ⟨rfl, hx2⟩
  replace hx := hx.trans hx2
  replace hB := hB.ext hx2
  clear b0 b1 b2 b3 hx2 d0 hG
  have d0 : w2.cell? ⟨w.heap.size + 1, 0, none⟩ = some (.int .i64 x.n) := hB.cell 0
  have d1 : w2.cell? ⟨w.heap.size + 1, 1, none⟩ = some (.slice A1 x.es.length c1) := hB.cell 1
  cases hv : vg g x.n
  · have HF := Lib.hid (may_v (p := p) hv)
    go_wp2
    go_ret
    exact ⟨ret_bool HF.out.symm, hx⟩
  have HM := Lib.hid (may_e2 (p := p) hv HBS.out)
  clear hv
  go_wp2_with fail
  refine (spec_IsValidGraph_any _ x _ (HG.out _ hx) hl).mono ?_
  rintro e w3 ⟨rfl, hx3⟩
  replace hx := hx.trans hx3
  replace hB := hB.ext hx3
  clear d0 d1 hx3
  have d0 : w3.cell? ⟨w.heap.size + 1, 0, none⟩ = some (.int .i64 x.n) := hB.cell 0
  cases hv : vgraph x
  · have HF := Lib.hid (HM.out.trans (lay_v (p := p) hv))
    go_wp2
    go_ret
    exact ⟨ret_bool HF.out.symm, hx⟩
  have HV := Lib.hid hv
  clear hv
  go_wp2_with fail
  refine (spec_IsPermutation_any A n c p _ (hp.ext hx) hn hc).mono ?_
  rintro e w4 ⟨rfl, hx4⟩
  replace hx := hx.trans hx4
  replace hB := hB.ext hx4
  clear d0 hx4
  have d0 : w4.cell? ⟨w.heap.size + 1, 0, none⟩ = some (.int .i64 x.n) := hB.cell 0
  cases hpp : perm p
  · have HF := Lib.hid (HM.out.trans (lay_p (x := x) hpp))
    go_wp2
    go_ret
    exact ⟨ret_bool HF.out.symm, hx⟩
  have HF := Lib.hid (HM.out.trans (lay_e HV.out hpp))
  clear hpp
  go_wp2
  go_ret
  exact ⟨ret_bool (by rw [HF.out, hlen.out]), hx⟩
end Go.Proofs.Ytofbmkpfliofeaa
/-
  Helper text (no claim of its own): the routing of a gate by swaps (plain Lean).
-/
namespace Go.Proofs.Ytofbmkpfliofeaa
open Go.ChangeShapes Go.WideShapes Go.ChangeAt Go.RowKit Go.Deep
/-! ### Permutations -/
theorem getD_of {p : List Int} {i : Nat} {x : Int} (h : p[i]? = some x) : p.getD i 0 = x := by rw [List.getD_eq_getElem?_getD, h]; rfl
theorem perm_iff {p : List Int} : perm p = true ↔ (1 ≤ p.length ∧ p.length ≤ 4) ∧ (∀ x ∈ p, 0 ≤ x ∧ x < (p.length : Int)) ∧ p.Nodup := by
  have hG : permG p p.length = true ↔ (∀ x ∈ p, 0 ≤ x ∧ x < (p.length : Int)) ∧ p.Nodup := by
    unfold permG
    rw [List.all_eq_true]
    constructor
    · intro h
      have h' : ∀ (i : Nat) (hi : i < p.length), (0 ≤ p[i] ∧ p[i] < (p.length : Int)) ∧ p[i] ∉ p.take i := fun i hi => by
        have := h i (by simpa using hi)
        rw [getD_of (List.getElem?_eq_getElem hi)] at this
        unfold okP hasI at this
        simp only [Bool.and_eq_true, decide_eq_true_eq, Bool.not_eq_true', List.contains_eq_mem, decide_eq_false_iff_not] at this
        exact ⟨⟨this.1.1, by have := this.1.2; omega⟩, this.2⟩
      refine ⟨fun x hx => ?_, ?_⟩
      · obtain ⟨i, hi, rfl⟩ := List.getElem_of_mem hx
        exact (h' i hi).1
      · refine List.pairwise_iff_getElem.2 fun i j hi hj hij => ?_
        intro e
        refine (h' j hj).2 ?_
        rw [← e]
        rw [List.mem_iff_getElem?]
        exact ⟨i, by rw [List.getElem?_take_of_lt hij, List.getElem?_eq_getElem hi]⟩
    · rintro ⟨h1, h2⟩ i hi
      simp at hi
      rw [getD_of (List.getElem?_eq_getElem hi)]
      unfold okP hasI
      have h3 := h1 p[i] (List.getElem_mem hi)
      have h4 : p[i] ∉ p.take i := fun hm => by
        obtain ⟨j, hj, he⟩ := List.getElem_of_mem hm
        rw [List.length_take] at hj
        rw [List.getElem_take] at he
        exact List.pairwise_iff_getElem.1 h2 j i (by omega) hi (by omega) he
      simp only [Bool.and_eq_true, decide_eq_true_eq, Bool.not_eq_true', List.contains_eq_mem, decide_eq_false_iff_not]
      exact ⟨⟨h3.1, by omega⟩, h4⟩
  unfold perm
  rw [Bool.and_eq_true, hG, Bool.and_eq_true, decide_eq_true_eq, decide_eq_true_eq]
  constructor
  · rintro ⟨h1, h2⟩; exact ⟨h2, h1⟩
  · rintro ⟨h1, h2⟩; exact ⟨h2, h1⟩
theorem sw1_inj {a b x y : Int} (h : sw1 a b x = sw1 a b y) : x = y := by
  unfold sw1 at h
  simp only [beq_iff_eq] at h
  split at h <;> split at h <;> (try split at h) <;> (try split at h) <;> omega
theorem sw1_in {a b x : Int} {n : Int} (ha : 0 ≤ a ∧ a < n) (hb : 0 ≤ b ∧ b < n) (hx : 0 ≤ x ∧ x < n) : 0 ≤ sw1 a b x ∧ sw1 a b x < n := by
  unfold sw1
  split
  · exact hb
  · split
    · exact ha
    · exact hx
theorem perm_sw {p : List Int} {a b : Int} (h : perm p = true) (ha : 0 ≤ a ∧ a < (p.length : Int)) (hb : 0 ≤ b ∧ b < (p.length : Int)) : perm (p.map (sw1 a b)) = true := by
  obtain ⟨h1, h2, h3⟩ := perm_iff.1 h
  refine perm_iff.2 ⟨by rw [List.length_map]; exact h1, fun x hx => ?_, ?_⟩
  · rw [List.length_map]
    obtain ⟨y, hy, rfl⟩ := List.mem_map.1 hx
    exact sw1_in ha hb (h2 y hy)
  · refine List.pairwise_map.2 (h3.imp fun hne e => hne (sw1_inj e))
/-! ### Routing -/
/-- The qubit at which place i lies. -/
def loc (p : List Int) (i : Int) : Int := p.getD i.toNat 0
/-- The swaps that bring a and b together, and the layout behind them. -/
def rgL (x : Gr) (a b : Int) : Nat → List Int → List Gt × List Int
  | 0, now => ([], now)
  | f + 1, now => if 1 < gd x (loc now a) (loc now b) then
      let s := (spath x (loc now a) (loc now b)).getD 0 0
      let t := (spath x (loc now a) (loc now b)).getD 1 0
      let r := rgL x a b f (swapL now s t)
      (⟨11, s, t, 0⟩ :: r.1, r.2)
    else ([], now)
/-- What RouteGate hands back: gates and a layout. -/
def routG (x : Gr) (g : Gt) (p : List Int) : List Gt × List Int :=
  if may g x p = true then
    if (ar g.k == 1) = true then ([g1 g.k (loc p g.a)], p)
    else ((rgL x g.a g.b 4 p).1 ++ [gcx (loc (rgL x g.a g.b 4 p).2 g.a) (loc (rgL x g.a g.b 4 p).2 g.b)], (rgL x g.a g.b 4 p).2)
  else ([], p)
theorem routG_no {x : Gr} {g : Gt} {p : List Int} (h : may g x p = false) : routG x g p = ([], p) := by unfold routG; rw [if_neg (by simp [h])]
theorem routG_1 {x : Gr} {g : Gt} {p : List Int} (h : may g x p = true) (h1 : (ar g.k == 1) = true) : routG x g p = ([g1 g.k (loc p g.a)], p) := by unfold routG; rw [if_pos h, if_pos h1]
theorem routG_2 {x : Gr} {g : Gt} {p : List Int} (h : may g x p = true) (h1 : (ar g.k == 1) = false) : routG x g p = ((rgL x g.a g.b 4 p).1 ++ [gcx (loc (rgL x g.a g.b 4 p).2 g.a) (loc (rgL x g.a g.b 4 p).2 g.b)], (rgL x g.a g.b 4 p).2) := by unfold routG; rw [if_pos h, if_neg (by simp [h1])]
theorem rgL_stop {x : Gr} {a b : Int} {now : List Int} (f : Nat) (h : ¬ 1 < gd x (loc now a) (loc now b)) : rgL x a b f now = ([], now) := by
  cases f
  · rfl
  · rw [rgL, if_neg h]
theorem rgL_len (x : Gr) (a b : Int) : ∀ f now, (rgL x a b f now).1.length ≤ f
  | 0, _ => by simp [rgL]
  | f + 1, now => by
    rw [rgL]
    split
    · have := rgL_len x a b f
      simp
      exact this _
    · simp
theorem routG_len (x : Gr) (g : Gt) (p : List Int) : (routG x g p).1.length ≤ 5 := by
  have := rgL_len x g.a g.b 4 p
  unfold routG
  split
  · split
    · simp
    · simp; omega
  · simp
/-- What is known of a layout on the way. -/
structure OnWay (x : Gr) (a b : Nat) (now : List Int) : Prop where
  perm : perm now = true
  len : (now.length : Int) = x.n
  ha : a < now.length
  hb : b < now.length
theorem OnWay.at_ {x : Gr} {a b i : Nat} {now : List Int} (h : OnWay x a b now) (hi : i < now.length) : ∃ y, now[i]? = some y ∧ loc now (i : Int) = y ∧ 0 ≤ y ∧ y < x.n := by
  have hp := (perm_iff.1 h.perm).2.1 now[i] (List.getElem_mem hi)
  have hl := h.len
  refine ⟨now[i], List.getElem?_eq_getElem hi, ?_, hp.1, by omega⟩
  unfold loc
  exact getD_of (by simp)
theorem spath_two {x : Gr} {a b : Int} {d : Nat} (h : gd x a b = ((d + 1 : Nat) : Int)) : ∃ k : Nat, nxt x b a d = some k ∧ spath x a b = a :: (k : Int) :: spw x b d (k : Int) ∧ gd x (k : Int) b = (d : Int) ∧ (k : Int) < x.n := by
  obtain ⟨k, hk⟩ := nxt_some h
  obtain ⟨h1, h2, h3, _⟩ := nxt_spec hk
  exact ⟨k, hk, by rw [spath_yes h, spw_step hk], h3, h1⟩
theorem gd_in {x : Gr} {a b : Int} (h : 0 ≤ gd x a b) : (0 ≤ a ∧ a < x.n) ∧ (0 ≤ b ∧ b < x.n) := by
  obtain ⟨n, i, j, hn, h1, h4, hi', hj', hi, hj, _⟩ := gd_ok h
  omega
theorem gd_same {x : Gr} {a b : Int} (ha : 0 ≤ a ∧ a < x.n) (h4 : x.n ≤ 4) (e : a = b) : gd x a b = 0 := by
  subst e
  obtain ⟨n, hn⟩ := Int.eq_ofNat_of_zero_le (by omega : 0 ≤ x.n)
  rw [gd_yes hn (by omega) (by omega) ha.1 (by omega) ha.1 (by omega)]
  exact Dist.gdist_self (by omega) rfl
/-- One swap along a shortest path. -/
theorem OnWay.step {x : Gr} {a b : Nat} {now : List Int} (h : OnWay x a b now) (hg : 1 < gd x (loc now (a : Int)) (loc now (b : Int))) :
    ∃ (s t : Int) (rest : List Int), spath x (loc now (a : Int)) (loc now (b : Int)) = s :: t :: rest ∧ OnWay x a b (swapL now s t) ∧ gd x (loc (swapL now s t) (a : Int)) (loc (swapL now s t) (b : Int)) = gd x (loc now (a : Int)) (loc now (b : Int)) - 1 ∧ (0 ≤ s ∧ s < x.n) ∧ (0 ≤ t ∧ t < x.n) ∧
      ∀ f, rgL x a b (f + 1) now = (⟨11, s, t, 0⟩ :: (rgL x a b f (swapL now s t)).1, (rgL x a b f (swapL now s t)).2) := by
  obtain ⟨y, hy, ly, y0, y1⟩ := h.at_ h.ha
  obtain ⟨z, hz, lz, z0, z1⟩ := h.at_ h.hb
  have hl := h.len
  have h4 := (perm_le h.perm).2
  obtain ⟨d, hd⟩ := Int.eq_ofNat_of_zero_le (by omega : 0 ≤ gd x (loc now (a : Int)) (loc now (b : Int)) - 1)
  have hd' : gd x y z = ((d + 1 : Nat) : Int) := by rw [← ly, ← lz]; omega
  obtain ⟨k, _, hs, hk, hkn⟩ := spath_two hd'
  have hzy : z ≠ y := fun e => by
    have := gd_same ⟨y0, y1⟩ (by omega) e.symm
    rw [ly, lz] at hg
    omega
  have hzk : z ≠ (k : Int) := fun e => by
    have := gd_same (x := x) (a := (k : Int)) ⟨by omega, hkn⟩ (by omega) e.symm
    rw [ly, lz] at hg
    omega
  have hsw : swapL now y (k : Int) = now.map (sw1 y (k : Int)) := swapL_yes h.perm
  have hkr : 0 ≤ (k : Int) ∧ (k : Int) < x.n := ⟨by omega, hkn⟩
  have ha' : loc (swapL now y (k : Int)) (a : Int) = (k : Int) := by
    unfold loc
    rw [hsw]
    refine getD_of ?_
    rw [Int.toNat_natCast, List.getElem?_map, hy]
    simp [sw1]
  have hb' : loc (swapL now y (k : Int)) (b : Int) = z := by
    unfold loc
    rw [hsw]
    refine getD_of ?_
    rw [Int.toNat_natCast, List.getElem?_map, hz]
    simp only [Option.map_some]
    rw [sw1_n (by simpa using hzy) (by simpa using hzk)]
  rw [ly, lz]
  refine ⟨y, k, _, hs, ⟨by rw [hsw]; exact perm_sw h.perm (by omega) (by omega), by rw [hsw, List.length_map]; exact hl, by rw [hsw, List.length_map]; exact h.ha, by rw [hsw, List.length_map]; exact h.hb⟩, by rw [ha', hb', hk, hd']; omega, ⟨y0, y1⟩, hkr, fun f => ?_⟩
  rw [rgL, if_pos hg, ly, lz, hs]
  rfl
theorem OnWay.of {g : Gt} {x : Gr} {p : List Int} (h : may g x p = true) (h1 : (ar g.k == 1) = false) : ∃ a b : Nat, g.a = a ∧ g.b = b ∧ a ≠ b ∧ OnWay x a b p := by
  unfold may lay at h
  simp only [Bool.and_eq_true] at h
  obtain ⟨⟨⟨⟨hv, hp⟩, hn⟩, hb⟩, hg⟩ := h
  have h9 : (g.k == 9) = true := by
    unfold bas at hb
    rw [h1, Bool.false_or] at hb
    exact hb
  have h2 : ar g.k = 2 := by
    rw [beq_iff_eq] at h9
    rw [h9]; unfold ar; omega
  obtain ⟨p1, p2, p3, p4, p5, p6⟩ : 1 ≤ x.n ∧ x.n ≤ 4 ∧ 0 < ar g.k ∧ okI g x.n 0 g.a = true ∧ okI g x.n 1 g.b = true ∧ okI g x.n 2 g.c = true := by
    unfold vg at hg
    simp only [Bool.and_eq_true, decide_eq_true_eq] at hg
    obtain ⟨⟨⟨⟨⟨q1, q2⟩, q3⟩, q4⟩, q5⟩, q6⟩ := hg
    exact ⟨q1, q2, q3, q4, q5, q6⟩
  rw [okI_lo (by rw [h2]; omega)] at p4 p5
  simp only [Bool.and_eq_true, decide_eq_true_eq, qs, List.take_zero, Bool.not_eq_true', beq_iff_eq] at p4 p5 hn
  obtain ⟨a, ha⟩ := Int.eq_ofNat_of_zero_le p4.1.1
  obtain ⟨b, hb'⟩ := Int.eq_ofNat_of_zero_le p5.1.1
  refine ⟨a, b, ha, hb', fun e => ?_, hp, hn, by omega, by omega⟩
  subst e
  have := p5.2
  rw [hb', ha] at this
  simp at this
theorem loc_at {g : Gt} {x : Gr} {p : List Int} (h : may g x p = true) : ∃ (a : Nat) (y : Int), g.a = a ∧ a < p.length ∧ p[a]? = some y ∧ loc p g.a = y ∧ p.length ≤ 4 ∧ perm p = true := by
  unfold may lay at h
  simp only [Bool.and_eq_true] at h
  obtain ⟨⟨⟨⟨hv, hp⟩, hn⟩, hb⟩, hg⟩ := h
  have hpos : 0 < ar g.k := by
    unfold vg at hg
    simp only [Bool.and_eq_true, decide_eq_true_eq] at hg
    exact hg.1.1.1.2
  have p4 : okI g x.n 0 g.a = true := by
    unfold vg at hg
    simp only [Bool.and_eq_true, decide_eq_true_eq] at hg
    exact hg.1.1.2
  rw [okI_lo (by omega)] at p4
  simp only [Bool.and_eq_true, decide_eq_true_eq, beq_iff_eq] at p4 hn
  obtain ⟨a, ha⟩ := Int.eq_ofNat_of_zero_le p4.1.1
  have hlt : a < p.length := by omega
  refine ⟨a, p[a], ha, hlt, List.getElem?_eq_getElem hlt, ?_, (perm_le hp).2, hp⟩
  unfold loc
  rw [ha]
  exact getD_of (by simp)
/-- Whatever the ways are, the layouts on them are layouts. -/
theorem rgL_way {x : Gr} {a b : Nat} : ∀ f {now : List Int}, OnWay x a b now → OnWay x a b (rgL x a b f now).2
  | 0, _, h => h
  | f + 1, now, h => by
    by_cases hg : 1 < gd x (loc now (a : Int)) (loc now (b : Int))
    · obtain ⟨s, t, rest, _, h2, _, _, _, h6⟩ := h.step hg
      rw [h6]
      exact rgL_way f h2
    · rw [rgL_stop _ hg]
      exact h
theorem routG_way {x : Gr} {g : Gt} {p : List Int} (hp : perm p = true) : perm (routG x g p).2 = true ∧ (routG x g p).2.length = p.length := by
  cases h : may g x p
  · rw [routG_no h]; exact ⟨hp, rfl⟩
  · cases h1 : (ar g.k == 1)
    · obtain ⟨a, b, ha, hb, _, hw⟩ := OnWay.of h h1
      have h2 := rgL_way 4 hw
      have h3 := h2.len
      have h4 := hw.len
      rw [routG_2 h h1, ha, hb]
      exact ⟨h2.perm, show (rgL x a b 4 p).2.length = p.length by omega⟩
    · rw [routG_1 h h1]; exact ⟨hp, rfl⟩
end Go.Proofs.Ytofbmkpfliofeaa
namespace Go.Proofs.Ytofbmkpfliofeaa
open Go.ChangeShapes Go.WideShapes Go.ChangeAt Go.RowKit Go.Deep
end Go.Proofs.Ytofbmkpfliofeaa
