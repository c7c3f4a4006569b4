/-
  Helper text (no claim of its own): distances in a graph, as the program and as the reference find them (plain Lean).
-/
import Derived.Test.YteecjnnompjmiabDoorExe
namespace Go.Proofs.YteecjnnompjmiabDoor
open Go.ChangeShapes Go.WideShapes Go.ChangeAt Go.RowKit Go.Deep
namespace Dist
section
variable (adj : Int → Int → Bool) (n : Nat)
/-- Which vertices are reached from a by at most s steps. -/
def lvl (a : Int) : Nat → Int → Bool
  | 0, y => y == a
  | s + 1, y => lvl a s y || (List.range n).any fun x => lvl a s (x : Int) && adj (x : Int) y
/-- The least number of steps, below n; -1 where there is none. -/
def gdist (a b : Int) : Int := match (List.range n).find? fun s => lvl adj n a s b with
  | some s => (s : Int)
  | none => -1
end
section
variable {adj : Int → Int → Bool} {n : Nat} {a b : Int}
theorem lvl_succ {s : Nat} {y : Int} : lvl adj n a (s + 1) y = true ↔ lvl adj n a s y = true ∨ ∃ x : Nat, x < n ∧ lvl adj n a s (x : Int) = true ∧ adj (x : Int) y = true := by
  rw [lvl, Bool.or_eq_true, List.any_eq_true]
  simp
theorem lvl_mono1 {s : Nat} {y : Int} (h : lvl adj n a s y = true) : lvl adj n a (s + 1) y = true := lvl_succ.2 (.inl h)
theorem lvl_mono {s t : Nat} {y : Int} (hst : s ≤ t) (h : lvl adj n a s y = true) : lvl adj n a t y = true := by
  induction hst with
  | refl => exact h
  | step _ ih => exact lvl_mono1 ih
theorem gdist_some {s : Nat} (hs : s < n) (h : lvl adj n a s b = true) (h0 : ∀ t, t < s → lvl adj n a t b = false) : gdist adj n a b = s := by
  have : (List.range n).find? (fun s => lvl adj n a s b) = some s := by
    rw [List.find?_range_eq_some]
    exact ⟨h, by simpa using hs, fun j hj => by simp [h0 j hj]⟩
  unfold gdist
  rw [this]
theorem gdist_none (h : ∀ t, t < n → lvl adj n a t b = false) : gdist adj n a b = -1 := by
  have : (List.range n).find? (fun s => lvl adj n a s b) = none := by
    rw [List.find?_eq_none]
    intro x hx
    simp at hx
    simp [h x hx]
  unfold gdist
  rw [this]
/-- A least number exists. -/
theorem least {p : Nat → Bool} : ∀ {m : Nat}, p m = true → ∃ s, s ≤ m ∧ p s = true ∧ ∀ t, t < s → p t = false
  | 0, h => ⟨0, Nat.le_refl _, h, fun t ht => absurd ht (by omega)⟩
  | m + 1, h => by
    by_cases hx : ∃ t, t ≤ m ∧ p t = true
    · obtain ⟨t, ht, hp⟩ := hx
      obtain ⟨s, hs, h1, h2⟩ := least hp
      exact ⟨s, by omega, h1, h2⟩
    · refine ⟨m + 1, Nat.le_refl _, h, fun t ht => ?_⟩
      cases hp : p t
      · rfl
      · exact absurd ⟨t, by omega, hp⟩ hx
theorem gdist_range (adj : Int → Int → Bool) (n : Nat) (a b : Int) : -1 ≤ gdist adj n a b ∧ gdist adj n a b ≤ n := by
  unfold gdist
  split
  · rename_i s h
    have := List.mem_of_find?_eq_some h
    simp at this
    omega
  · omega
theorem gdist_lvl {s : Nat} (h : gdist adj n a b = s) : s < n ∧ lvl adj n a s b = true ∧ ∀ t, t < s → lvl adj n a t b = false := by
  by_cases hx : ∃ t, t < n ∧ lvl adj n a t b = true
  · obtain ⟨t, ht, hp⟩ := hx
    obtain ⟨u, hu, h1, h2⟩ := least (p := fun t => lvl adj n a t b) hp
    have e := gdist_some (by omega : u < n) h1 h2
    rw [e] at h
    have : u = s := by omega
    subst this
    exact ⟨by omega, h1, h2⟩
  · have e := gdist_none (adj := adj) (n := n) (a := a) (b := b) (fun t ht => by
      cases hp : lvl adj n a t b
      · rfl
      · exact absurd ⟨t, ht, hp⟩ hx)
    omega
theorem gdist_self (hn : 0 < n) (ha : a = b) : gdist adj n a b = 0 := by
  subst ha
  exact gdist_some (s := 0) hn (by simp [lvl]) (fun t ht => absurd ht (Nat.not_lt_zero t))
/-! ### The first step of a way -/
theorem lvl_front {i : Nat} (hi : i < n) : ∀ {s : Nat} {j : Nat}, j < n → (lvl adj n (i : Int) (s + 1) (j : Int) = true ↔ lvl adj n (i : Int) s (j : Int) = true ∨ ∃ k : Nat, k < n ∧ adj (i : Int) (k : Int) = true ∧ lvl adj n (k : Int) s (j : Int) = true)
  | 0, j, hj => by
    rw [lvl_succ]
    constructor
    · rintro (h | ⟨x, hx, h1, h2⟩)
      · exact .inl h
      · simp [lvl] at h1
        have : x = i := by omega
        subst this
        exact .inr ⟨j, hj, h2, by simp [lvl]⟩
    · rintro (h | ⟨k, hk, h1, h2⟩)
      · exact .inl h
      · simp [lvl] at h2
        have : k = j := by omega
        subst this
        exact .inr ⟨i, hi, by simp [lvl], h1⟩
  | s + 1, j, hj => by
    rw [lvl_succ]
    constructor
    · rintro (h | ⟨x, hx, h1, h2⟩)
      · exact .inl h
      · rcases (lvl_front hi hx).1 h1 with h | ⟨k, hk, h3, h4⟩
        · exact .inl (lvl_succ.2 (.inr ⟨x, hx, h, h2⟩))
        · exact .inr ⟨k, hk, h3, lvl_succ.2 (.inr ⟨x, hx, h4, h2⟩)⟩
    · rintro (h | ⟨k, hk, h1, h2⟩)
      · exact .inl h
      · rcases lvl_succ.1 h2 with h | ⟨x, hx, h3, h4⟩
        · exact .inl ((lvl_front hi hj).2 (.inr ⟨k, hk, h1, h⟩))
        · exact .inr ⟨x, hx, (lvl_front hi hx).2 (.inr ⟨k, hk, h1, h3⟩), h4⟩
/-- A vertex that is d + 1 away has a neighbour that is d away. -/
theorem gdist_step {i j d : Nat} (hi : i < n) (hj : j < n) (h : gdist adj n (i : Int) (j : Int) = ((d + 1 : Nat) : Int)) : ∃ k : Nat, k < n ∧ adj (i : Int) (k : Int) = true ∧ gdist adj n (k : Int) (j : Int) = (d : Int) := by
  obtain ⟨h1, h2, h3⟩ := gdist_lvl h
  rcases (lvl_front hi hj).1 h2 with h4 | ⟨k, hk, h4, h5⟩
  · rw [h3 d (by omega)] at h4
    cases h4
  · refine ⟨k, hk, h4, gdist_some (by omega) h5 (fun t ht => ?_)⟩
    cases hp : lvl adj n (k : Int) t (j : Int)
    · rfl
    · have := (lvl_front hi hj).2 (.inr ⟨k, hk, h4, hp⟩)
      rw [h3 (t + 1) (by omega)] at this
      cases this
/-! ### No way is longer than there are vertices -/
theorem countP_lt {α : Type} {p q : α → Bool} : ∀ {l : List α}, (∀ x ∈ l, p x = true → q x = true) → (∃ x ∈ l, q x = true ∧ p x = false) → l.countP p < l.countP q
  | [], _, ⟨_, h, _⟩ => by simp at h
  | y :: l, hm, ⟨x, hx, hq, hp⟩ => by
    have hle : l.countP p ≤ l.countP q := List.countP_mono_left (fun z hz => hm z (by simp [hz]))
    rcases List.mem_cons.1 hx with rfl | hx
    · rw [List.countP_cons_of_neg (by simp [hp]), List.countP_cons_of_pos hq]; omega
    · have ih := countP_lt (fun z hz => hm z (by simp [hz])) ⟨x, hx, hq, hp⟩
      cases h : p y
      · rw [List.countP_cons_of_neg (by simp [h])]
        have := List.countP_le_length (p := q) (l := l)
        cases h' : q y
        · rw [List.countP_cons_of_neg (by simp [h'])]; exact ih
        · rw [List.countP_cons_of_pos h']; omega
      · rw [List.countP_cons_of_pos h, List.countP_cons_of_pos (hm y (by simp) h)]; omega
theorem lvl_prev {s : Nat} {y : Int} (h : lvl adj n a (s + 1 + 1) y = true) (h0 : lvl adj n a (s + 1) y = false) : ∃ x : Nat, x < n ∧ lvl adj n a (s + 1) (x : Int) = true ∧ lvl adj n a s (x : Int) = false := by
  rcases lvl_succ.1 h with h1 | ⟨x, hx, h1, h2⟩
  · rw [h0] at h1; cases h1
  · refine ⟨x, hx, h1, ?_⟩
    cases hp : lvl adj n a s (x : Int)
    · rfl
    · rw [lvl_succ.2 (.inr ⟨x, hx, hp, h2⟩)] at h0; cases h0
theorem lvl_new : ∀ {s : Nat} {y : Int}, lvl adj n a (s + 1) y = true → lvl adj n a s y = false → ∀ u, u < s → ∃ x : Nat, x < n ∧ lvl adj n a (u + 1) (x : Int) = true ∧ lvl adj n a u (x : Int) = false
  | 0, _, _, _, u, hu => absurd hu (by omega)
  | s + 1, y, h, h0, u, hu => by
    obtain ⟨x, hx, h1, h2⟩ := lvl_prev h h0
    by_cases e : u = s
    · subst e; exact ⟨x, hx, h1, h2⟩
    · exact lvl_new h1 h2 u (by omega)
theorem lvl_count {i t : Nat} (hi : i < n) (h : ∀ u, u < t → ∃ x : Nat, x < n ∧ lvl adj n (i : Int) (u + 1) (x : Int) = true ∧ lvl adj n (i : Int) u (x : Int) = false) : t + 1 ≤ (List.range n).countP fun x : Nat => lvl adj n (i : Int) t (x : Int) := by
  induction t with
  | zero =>
    have : 0 < (List.range n).countP fun x : Nat => lvl adj n (i : Int) 0 (x : Int) := List.countP_pos_iff.2 ⟨i, by simpa using hi, by simp [lvl]⟩
    omega
  | succ t ih =>
    have h1 := ih (fun u hu => h u (by omega))
    obtain ⟨x, hx, h2, h3⟩ := h t (by omega)
    have := countP_lt (l := List.range n) (p := fun x : Nat => lvl adj n (i : Int) t (x : Int)) (q := fun x : Nat => lvl adj n (i : Int) (t + 1) (x : Int)) (fun z _ hz => lvl_mono1 hz) ⟨x, by simpa using hx, h2, h3⟩
    omega
/-- What is first reached by t steps shows that there are more than t vertices. -/
theorem lvl_lt {i t y : Nat} (hi : i < n) (hy : y < n) (h : lvl adj n (i : Int) t (y : Int) = true) (h0 : ∀ u, u < t → lvl adj n (i : Int) u (y : Int) = false) : t < n := by
  cases t with
  | zero => omega
  | succ t =>
    have h1 := lvl_new h (h0 t (by omega))
    have h2 : ∀ u, u < t + 1 → ∃ x : Nat, x < n ∧ lvl adj n (i : Int) (u + 1) (x : Int) = true ∧ lvl adj n (i : Int) u (x : Int) = false := fun u hu => by
      by_cases e : u = t
      · subst e; exact ⟨y, hy, h, h0 u (by omega)⟩
      · exact h1 u (by omega)
    have h3 := lvl_count hi h2
    have h4 := List.countP_le_length (p := fun x : Nat => lvl adj n (i : Int) (t + 1) (x : Int)) (l := List.range n)
    rw [List.length_range] at h4
    omega
end

/-! ### As the program finds them -/
section
variable (adj : Int → Int → Bool) (n : Nat)
def pCell (s x y : Nat) (R : Nat → Int) : Nat → Int := fun z => if z = y ∧ R x = (s : Int) ∧ R y < 0 ∧ adj (x : Int) (y : Int) = true then (s : Int) + 1 else R z
def pY (s x : Nat) (R : Nat → Int) : Nat → (Nat → Int)
  | 0 => R
  | y + 1 => pCell adj s x y (pY s x R y)
def pX (s : Nat) (R : Nat → Int) : Nat → (Nat → Int)
  | 0 => R
  | x + 1 => pY adj s x (pX s R x) n
def pS (a : Nat) : Nat → (Nat → Int)
  | 0 => fun z => if z = a then 0 else -1
  | s + 1 => pX adj n s (pS a s) n
end
section
variable {adj : Int → Int → Bool} {n : Nat}
/-- The state within a round s, begun with R0, before the place (x, y). -/
def Q (adj : Int → Int → Bool) (n s : Nat) (R0 : Nat → Int) (x y : Nat) (R : Nat → Int) : Prop :=
  ∀ z, z < n → (0 ≤ R0 z → R z = R0 z) ∧ (R0 z < 0 → (R z = (s : Int) + 1 ∧ ∃ x' : Nat, x' < n ∧ R0 x' = (s : Int) ∧ adj (x' : Int) (z : Int) = true) ∨ (R z = R0 z ∧ ∀ x' : Nat, x' < x ∨ (x' = x ∧ z < y) → ¬ (R0 x' = (s : Int) ∧ adj (x' : Int) (z : Int) = true)))
theorem Q.cell {s x y : Nat} {R0 R : Nat → Int} (hx : x < n) (hy : y < n) (h : Q adj n s R0 x y R) : Q adj n s R0 x (y + 1) (pCell adj s x y R) := by
  intro z hz
  have hRx : R x = (s : Int) ↔ R0 x = (s : Int) := by
    rcases Int.lt_or_le (R0 x) 0 with hneg | hpos
    · rcases (h x hx).2 hneg with ⟨e, _⟩ | ⟨e, _⟩ <;> omega
    · rw [(h x hx).1 hpos]
  have hRy : R y < 0 → R0 y < 0 ∧ R y = R0 y := fun hlt => by
    rcases Int.lt_or_le (R0 y) 0 with hneg | hpos
    · rcases (h y hy).2 hneg with ⟨e, _⟩ | ⟨e, _⟩
      · omega
      · exact ⟨hneg, e⟩
    · have := (h y hy).1 hpos; omega
  unfold pCell
  by_cases hc : z = y ∧ R x = (s : Int) ∧ R y < 0 ∧ adj (x : Int) (y : Int) = true
  · rw [if_pos hc]
    obtain ⟨rfl, h1, h2, h3⟩ := hc
    have h4 := hRy h2
    exact ⟨fun h0 => by omega, fun _ => .inl ⟨rfl, x, hx, hRx.1 h1, h3⟩⟩
  · rw [if_neg hc]
    refine ⟨(h z hz).1, fun hneg => ?_⟩
    rcases (h z hz).2 hneg with h1 | ⟨h1, h2⟩
    · exact .inl h1
    · refine .inr ⟨h1, fun x' hx' => ?_⟩
      by_cases e : x' = x ∧ z = y
      · obtain ⟨rfl, rfl⟩ := e
        rintro ⟨h5, h6⟩
        exact hc ⟨rfl, hRx.2 h5, by omega, h6⟩
      · refine h2 x' ?_
        omega
theorem Q.row {s x : Nat} {R0 R : Nat → Int} (hx : x < n) (h : Q adj n s R0 x 0 R) : ∀ y, y ≤ n → Q adj n s R0 x y (pY adj s x R y)
  | 0, _ => h
  | y + 1, hy => (Q.row hx h y (by omega)).cell hx (by omega)
theorem Q.next {s x : Nat} {R0 R : Nat → Int} (h : Q adj n s R0 x n R) : Q adj n s R0 (x + 1) 0 R := by
  intro z hz
  refine ⟨(h z hz).1, fun hneg => ?_⟩
  rcases (h z hz).2 hneg with h1 | ⟨h1, h2⟩
  · exact .inl h1
  · exact .inr ⟨h1, fun x' hx' => h2 x' (by omega)⟩
theorem Q.start (adj : Int → Int → Bool) (n s : Nat) (R0 : Nat → Int) : Q adj n s R0 0 0 R0 := fun z _ => ⟨fun _ => rfl, fun _ => .inr ⟨rfl, fun x' hx' => by omega⟩⟩
theorem Q.all {s : Nat} (R0 : Nat → Int) : ∀ x, x ≤ n → Q adj n s R0 x 0 (pX adj n s R0 x)
  | 0, _ => Q.start _ _ _ _
  | x + 1, hx => ((Q.all R0 x (by omega)).row (by omega) n (Nat.le_refl _)).next
/-- What the row of numbers says after s rounds. -/
def Far (adj : Int → Int → Bool) (n : Nat) (a : Int) (s : Nat) (R : Nat → Int) : Prop :=
  ∀ z, z < n → (R z = -1 ∧ lvl adj n a s (z : Int) = false) ∨ ∃ t : Nat, t ≤ s ∧ R z = (t : Int) ∧ lvl adj n a t (z : Int) = true ∧ ∀ u, u < t → lvl adj n a u (z : Int) = false
theorem Far.start (adj : Int → Int → Bool) (n a : Nat) : Far adj n (a : Int) 0 (pS adj n a 0) := by
  intro z hz
  unfold pS
  by_cases e : z = a
  · rw [if_pos e]
    exact .inr ⟨0, Nat.le_refl _, rfl, by simp [lvl, e], fun u hu => absurd hu (by omega)⟩
  · rw [if_neg e]
    exact .inl ⟨rfl, by simp [lvl]; omega⟩
theorem Far.step {a : Int} {s : Nat} {R : Nat → Int} (h : Far adj n a s R) : Far adj n a (s + 1) (pX adj n s R n) := by
  have hQ := Q.all (adj := adj) (s := s) R n (Nat.le_refl n)
  have hval : ∀ x, x < n → (R x = (s : Int) ↔ lvl adj n a s (x : Int) = true ∧ ∀ u, u < s → lvl adj n a u (x : Int) = false) := fun x hx => by
    rcases h x hx with ⟨e, h1⟩ | ⟨t, ht, e, h1, h2⟩
    · exact ⟨fun h' => by omega, fun h' => by rw [h'.1] at h1; cases h1⟩
    · constructor
      · intro h'
        have : t = s := by omega
        subst this
        exact ⟨h1, h2⟩
      · intro h'
        have : t = s := by
          rcases Nat.lt_or_ge t s with hlt | hge
          · rw [h'.2 t hlt] at h1; cases h1
          · omega
        omega
  intro z hz
  rcases h z hz with ⟨e, h1⟩ | ⟨t, ht, e, h1, h2⟩
  · rcases (hQ z hz).2 (by omega) with ⟨h3, x, hx, h4, h5⟩ | ⟨h3, h4⟩
    · refine .inr ⟨s + 1, Nat.le_refl _, by rw [h3]; omega, lvl_succ.2 (.inr ⟨x, hx, ((hval x hx).1 h4).1, h5⟩), fun u hu => ?_⟩
      cases hp : lvl adj n a u (z : Int)
      · rfl
      · rw [lvl_mono (by omega : u ≤ s) hp] at h1; cases h1
    · refine .inl ⟨by rw [h3, e], ?_⟩
      cases hp : lvl adj n a (s + 1) (z : Int)
      · rfl
      · rcases lvl_succ.1 hp with h5 | ⟨x, hx, h5, h6⟩
        · rw [h1] at h5; cases h5
        · refine absurd ⟨(hval x hx).2 ⟨h5, fun u hu => ?_⟩, h6⟩ (h4 x (.inl hx))
          cases hq : lvl adj n a u (x : Int)
          · rfl
          · rw [lvl_mono (by omega : u + 1 ≤ s) (lvl_succ.2 (.inr ⟨x, hx, hq, h6⟩))] at h1; cases h1
  · refine .inr ⟨t, by omega, ?_, h1, h2⟩
    rw [(hQ z hz).1 (by omega), e]
theorem Far.all (adj : Int → Int → Bool) (n a : Nat) : ∀ s, Far adj n (a : Int) s (pS adj n a s)
  | 0 => Far.start adj n a
  | s + 1 => (Far.all adj n a s).step
theorem pS_dist {a b : Nat} (ha : a < n) (hb : b < n) : pS adj n a n b = gdist adj n (a : Int) (b : Int) := by
  rcases Far.all adj n a n b hb with ⟨e, h1⟩ | ⟨t, ht, e, h1, h2⟩
  · rw [e, gdist_none]
    intro t ht
    cases hp : lvl adj n (a : Int) t (b : Int)
    · rfl
    · rw [lvl_mono (by omega : t ≤ n) hp] at h1; cases h1
  · rw [e, gdist_some (lvl_lt ha hb h1 h2) h1 h2]
theorem pCell_range {s x y : Nat} {R : Nat → Int} (h : ∀ z, -1 ≤ R z ∧ R z ≤ 5) (hs : s ≤ 4) (z : Nat) : -1 ≤ pCell adj s x y R z ∧ pCell adj s x y R z ≤ 5 := by
  unfold pCell
  split
  · omega
  · exact h z
theorem pY_range {s x : Nat} {R : Nat → Int} (h : ∀ z, -1 ≤ R z ∧ R z ≤ 5) (hs : s ≤ 4) : ∀ y z, -1 ≤ pY adj s x R y z ∧ pY adj s x R y z ≤ 5
  | 0, z => h z
  | y + 1, z => pCell_range (pY_range h hs y) hs z
theorem pX_range {s : Nat} {R : Nat → Int} (h : ∀ z, -1 ≤ R z ∧ R z ≤ 5) (hs : s ≤ 4) : ∀ x z, -1 ≤ pX adj n s R x z ∧ pX adj n s R x z ≤ 5
  | 0, z => h z
  | x + 1, z => pY_range (pX_range h hs x) hs n z
theorem pS_range (adj : Int → Int → Bool) (n a : Nat) : ∀ s, s ≤ 4 → ∀ z, -1 ≤ pS adj n a s z ∧ pS adj n a s z ≤ 5
  | 0, _, z => by unfold pS; split <;> omega
  | s + 1, hs, z => pX_range (pS_range adj n a s (by omega)) (by omega) n z
end

/-! ### As the reference finds them -/
section
variable (adj : Int → Int → Bool) (n : Nat)
def rK (m : Int) (l : List Int) : Nat → List Int
  | 0 => l
  | k + 1 => if (adj m (k : Int) && !(hasI (rK m l k) (k : Int))) = true then rK m l k ++ [(k : Int)] else rK m l k
def rI (met : List Int) : Nat → List Int
  | 0 => met
  | i + 1 => rK adj (met.getD i 0) (rI met i) n
def rS (a : Int) : Nat → List Int
  | 0 => [a]
  | s + 1 => rI adj n (rS a s) (rS a s).length
end
section
variable {adj : Int → Int → Bool} {n : Nat}
theorem hasI_mem {l : List Int} {y : Int} : hasI l y = true ↔ y ∈ l := by unfold hasI; simp
theorem rK_mem {m : Int} {l : List Int} {y : Int} : ∀ k, y ∈ rK adj m l k ↔ y ∈ l ∨ ∃ j : Nat, j < k ∧ y = (j : Int) ∧ adj m (j : Int) = true
  | 0 => by simp [rK]
  | k + 1 => by
    have ih := rK_mem (m := m) (l := l) (y := y) k
    unfold rK
    split
    · rename_i hc
      simp at hc
      rw [List.mem_append, ih]
      constructor
      · rintro ((h | ⟨j, h1, h2⟩) | h)
        · exact .inl h
        · exact .inr ⟨j, by omega, h2⟩
        · simp at h; exact .inr ⟨k, by omega, h, hc.1⟩
      · rintro (h | ⟨j, h1, h2, h3⟩)
        · exact .inl (.inl h)
        · by_cases e : j = k
          · subst e; exact .inr (by simp [h2])
          · exact .inl (.inr ⟨j, by omega, h2, h3⟩)
    · rename_i hc
      rw [ih]
      constructor
      · rintro (h | ⟨j, h1, h2⟩)
        · exact .inl h
        · exact .inr ⟨j, by omega, h2⟩
      · rintro (h | ⟨j, h1, h2, h3⟩)
        · exact .inl h
        · by_cases e : j = k
          · subst e
            subst h2
            cases hh : hasI (rK adj m l j) (j : Int)
            · rw [h3, hh] at hc; simp at hc
            · exact ih.1 (hasI_mem.1 hh)
          · exact .inr ⟨j, by omega, h2, h3⟩
theorem rI_mem {met : List Int} {y : Int} : ∀ i, i ≤ met.length → (y ∈ rI adj n met i ↔ y ∈ met ∨ ∃ i' : Nat, i' < i ∧ ∃ j : Nat, j < n ∧ y = (j : Int) ∧ adj (met.getD i' 0) (j : Int) = true)
  | 0, _ => by simp [rI]
  | i + 1, hi => by
    rw [rI, rK_mem, rI_mem i (by omega)]
    constructor
    · rintro ((h | ⟨i', h1, h2⟩) | h)
      · exact .inl h
      · exact .inr ⟨i', by omega, h2⟩
      · exact .inr ⟨i, by omega, h⟩
    · rintro (h | ⟨i', h1, h2⟩)
      · exact .inl (.inl h)
      · by_cases e : i' = i
        · subst e; exact .inr h2
        · exact .inl (.inr ⟨i', by omega, h2⟩)
theorem rI_all {met : List Int} {y : Int} : y ∈ rI adj n met met.length ↔ y ∈ met ∨ ∃ m ∈ met, ∃ j : Nat, j < n ∧ y = (j : Int) ∧ adj m (j : Int) = true := by
  rw [rI_mem _ (Nat.le_refl _)]
  constructor
  · rintro (h | ⟨i, hi, h⟩)
    · exact .inl h
    · refine .inr ⟨met.getD i 0, ?_, h⟩
      rw [List.getD_eq_getElem?_getD, List.getElem?_eq_getElem hi]
      exact List.getElem_mem hi
  · rintro (h | ⟨m, hm, h⟩)
    · exact .inl h
    · obtain ⟨i, hi, rfl⟩ := List.getElem_of_mem hm
      refine .inr ⟨i, hi, ?_⟩
      rw [List.getD_eq_getElem?_getD, List.getElem?_eq_getElem hi]
      exact h
theorem rS_mem {a : Nat} (ha : a < n) : ∀ s {y : Int}, y ∈ rS adj n (a : Int) s ↔ ∃ j : Nat, j < n ∧ y = (j : Int) ∧ lvl adj n (a : Int) s (j : Int) = true
  | 0, y => by
    unfold rS
    constructor
    · intro h
      simp at h
      exact ⟨a, ha, h, by simp [lvl]⟩
    · rintro ⟨j, hj, h1, h2⟩
      simp [lvl] at h2
      simp [h1, h2]
  | s + 1, y => by
    rw [rS, rI_all, rS_mem ha s]
    constructor
    · rintro (⟨j, hj, h1, h2⟩ | ⟨m, hm, j, hj, h1, h2⟩)
      · exact ⟨j, hj, h1, lvl_mono1 h2⟩
      · obtain ⟨x, hx, rfl, h3⟩ := (rS_mem ha s).1 hm
        exact ⟨j, hj, h1, lvl_succ.2 (.inr ⟨x, hx, h3, h2⟩)⟩
    · rintro ⟨j, hj, h1, h2⟩
      rcases lvl_succ.1 h2 with h3 | ⟨x, hx, h3, h4⟩
      · exact .inl ⟨j, hj, h1, h3⟩
      · exact .inr ⟨(x : Int), (rS_mem ha s).2 ⟨x, hx, rfl, h3⟩, j, hj, h1, h4⟩
theorem rS_has {a b : Nat} (ha : a < n) (hb : b < n) (s : Nat) : hasI (rS adj n (a : Int) s) (b : Int) = lvl adj n (a : Int) s (b : Int) := by
  rw [Bool.eq_iff_iff, hasI_mem, rS_mem ha s]
  constructor
  · rintro ⟨j, hj, h1, h2⟩
    rwa [h1]
  · intro h
    exact ⟨b, hb, rfl, h⟩
theorem rK_len {m : Int} {l : List Int} : ∀ k, (rK adj m l k).length ≤ l.length + k
  | 0 => by simp [rK]
  | k + 1 => by
    have := rK_len (m := m) (l := l) k
    unfold rK
    split
    · simp; omega
    · omega
theorem rI_len {met : List Int} : ∀ i, (rI adj n met i).length ≤ met.length + i * n
  | 0 => by simp [rI]
  | i + 1 => by
    have h1 := rI_len (met := met) i
    have h2 := rK_len (adj := adj) (m := met.getD i 0) (l := rI adj n met i) n
    rw [rI, Nat.succ_mul]
    omega
theorem rS_len (hn : n ≤ 4) (a : Int) : ∀ s, (rS adj n a s).length ≤ 5 ^ s
  | 0 => by simp [rS]
  | s + 1 => by
    have h1 := rS_len hn a s
    have h2 := rI_len (adj := adj) (n := n) (met := rS adj n a s) (rS adj n a s).length
    have h3 : (rS adj n a s).length * n ≤ (rS adj n a s).length * 4 := Nat.mul_le_mul_left _ hn
    rw [rS, Nat.pow_succ]
    omega
theorem rS_small (hn : n ≤ 4) (a : Int) {s : Nat} (hs : s ≤ 4) : (rS adj n a s).length ≤ 625 := by
  have h1 := rS_len (adj := adj) hn a s
  have h2 : 5 ^ s ≤ 5 ^ 4 := Nat.pow_le_pow_right (by omega) hs
  omega
theorem rI_small {met : List Int} (hm : met.length ≤ 625) (hn : n ≤ 4) {i : Nat} (hi : i ≤ met.length) : (rI adj n met i).length ≤ 3125 := by
  have h1 := rI_len (adj := adj) (n := n) (met := met) i
  have h2 : i * n ≤ 625 * 4 := Nat.mul_le_mul (by omega) hn
  omega
end
end Dist
/-- Are two qubits coupled? -/
def cpl (es : List Ed) (a b : Int) : Bool := hasE es a b || hasE es b a
/-- The distance in a graph; -1 where one is not asked for rightly, or where there is no way. -/
def gd (x : Gr) (a b : Int) : Int := if 1 ≤ x.n ∧ x.n ≤ 4 ∧ 0 ≤ a ∧ a < x.n ∧ 0 ≤ b ∧ b < x.n then Dist.gdist (cpl x.es) x.n.toNat a b else -1
theorem gd_no {x : Gr} {a b : Int} (h : ¬ (1 ≤ x.n ∧ x.n ≤ 4 ∧ 0 ≤ a ∧ a < x.n ∧ 0 ≤ b ∧ b < x.n)) : gd x a b = -1 := if_neg h
theorem gd_yes {x : Gr} {a b : Int} {n : Nat} (h : x.n = n) (h1 : 1 ≤ n) (h2 : n ≤ 4) (h3 : 0 ≤ a) (h4 : a < n) (h5 : 0 ≤ b) (h6 : b < n) : gd x a b = Dist.gdist (cpl x.es) n a b := by
  unfold gd
  rw [if_pos (by omega), h]
  rfl
theorem gd_range (x : Gr) (a b : Int) : -1 ≤ gd x a b ∧ gd x a b ≤ 4 := by
  unfold gd
  split
  · have := Dist.gdist_range (cpl x.es) x.n.toNat a b
    omega
  · omega
end Go.Proofs.YteecjnnompjmiabDoor
