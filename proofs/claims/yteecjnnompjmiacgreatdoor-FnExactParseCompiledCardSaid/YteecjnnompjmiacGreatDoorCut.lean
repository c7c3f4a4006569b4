/-
  Helper text (no claim of its own): a text cut at a byte, in plain Lean; the shelf's form of it.
-/
import Derived.Test.YteecjnnompjmiacGreatDoorFi
import Derived.Lib.SplitLaws
namespace Go.Proofs.YteecjnnompjmiacGreatDoor
open Go.ChangeShapes Go.WideShapes Go.ChangeAt Go.RowKit Go.Deep
set_option linter.unusedVariables false
set_option linter.unusedSimpArgs false
/-- A piece put ahead of the first one. -/
def prep (p : List UInt8) : List (List UInt8) → List (List UInt8)
  | [] => [p]
  | x :: r => (p ++ x) :: r
/-- A text cut at each byte c. -/
def cutL (c : UInt8) : List UInt8 → List (List UInt8)
  | [] => [[]]
  | b :: l => if b = c then [] :: cutL c l else prep [b] (cutL c l)
theorem cutL_ne (c : UInt8) (l : List UInt8) : cutL c l ≠ [] := by
  cases l with
  | nil => simp [cutL]
  | cons b l =>
    unfold cutL
    split
    · simp
    · cases cutL c l <;> simp [prep]
theorem prep_prep (p q : List UInt8) (X : List (List UInt8)) : prep p (prep q X) = prep (p ++ q) X := by
  cases X <;> simp [prep]
theorem prep_nil {X : List (List UInt8)} (h : X ≠ []) : prep [] X = X := by
  cases X with
  | nil => exact absurd rfl h
  | cons x r => rfl
theorem cutL_len (c : UInt8) (l : List UInt8) : (cutL c l).length ≤ l.length + 1 := by
  induction l with
  | nil => simp [cutL]
  | cons b l ih =>
    unfold cutL
    split
    · simp; omega
    · cases h : cutL c l with
      | nil => simp [prep]
      | cons x r => rw [h] at ih; simp [prep] at ih ⊢; omega
theorem take_at {l : List UInt8} {f k : Nat} {b : UInt8} (hf : f ≤ k) (h : l[k]? = some b) : (l.drop f).take (k + 1 - f) = (l.drop f).take (k - f) ++ [b] := by
  have h1 : (l.drop f)[k - f]? = some b := by rw [List.getElem?_drop]; rw [show f + (k - f) = k by omega]; exact h
  rw [show k + 1 - f = (k - f) + 1 by omega]
  exact take_snoc h1
/-- The state of the loop that cuts: done, and from where the piece at hand goes. -/
def CutAt (c : UInt8) (l : List UInt8) (done : List (List UInt8)) (f k : Nat) : Prop := f ≤ k ∧ k ≤ l.length ∧ cutL c l = done ++ prep ((l.drop f).take (k - f)) (cutL c (l.drop k))
theorem CutAt.start (c : UInt8) (l : List UInt8) : CutAt c l [] 0 0 := by
  refine ⟨Nat.le_refl _, Nat.zero_le _, ?_⟩
  simp only [List.nil_append, Nat.sub_self, List.take_zero, List.drop_zero]
  exact (prep_nil (cutL_ne c l)).symm
theorem drop_cons {l : List UInt8} {k : Nat} {b : UInt8} (h : l[k]? = some b) : l.drop k = b :: l.drop (k + 1) := by
  obtain ⟨hl, rfl⟩ := List.getElem?_eq_some_iff.1 h
  exact List.drop_eq_getElem_cons hl
theorem CutAt.skip {c : UInt8} {l : List UInt8} {done : List (List UInt8)} {f k : Nat} (h : CutAt c l done f k) {b : UInt8} (hb : l[k]? = some b) (hc : b ≠ c) : CutAt c l done f (k + 1) := by
  obtain ⟨h1, h2, h3⟩ := h
  have hl := (List.getElem?_eq_some_iff.1 hb).1
  refine ⟨by omega, by omega, ?_⟩
  rw [h3, drop_cons hb, cutL, if_neg hc, prep_prep, take_at h1 hb]
theorem CutAt.cut {c : UInt8} {l : List UInt8} {done : List (List UInt8)} {f k : Nat} (h : CutAt c l done f k) (hb : l[k]? = some c) : CutAt c l (done ++ [(l.drop f).take (k - f)]) (k + 1) (k + 1) := by
  obtain ⟨h1, h2, h3⟩ := h
  have hl := (List.getElem?_eq_some_iff.1 hb).1
  refine ⟨by omega, by omega, ?_⟩
  rw [h3, drop_cons hb, cutL, if_pos rfl, Nat.sub_self, List.take_zero, prep_nil (cutL_ne _ _)]
  simp [prep]
theorem CutAt.fin {c : UInt8} {l : List UInt8} {done : List (List UInt8)} {f : Nat} (h : CutAt c l done f l.length) : cutL c l = done ++ [(l.drop f).take (l.length - f)] := by
  obtain ⟨h1, h2, h3⟩ := h
  rw [h3, List.drop_of_length_le (Nat.le_refl _), cutL]
  simp [prep]
theorem CutAt.fin' {c : UInt8} {l : List UInt8} {done : List (List UInt8)} {f n : Nat} (h : CutAt c l done f n) (hn : l.length = n) : cutL c l = done ++ [(l.drop f).take (n - f)] := by
  subst hn
  exact h.fin
/-- The pieces. -/
def cut (c : UInt8) (s : ByteArray) : List ByteArray := (cutL c s.data.toList).map fun l => ⟨l.toArray⟩
theorem cut_of {xs : List ByteArray} {c : UInt8} {s : ByteArray} (h : xs.map (·.data.toList) = cutL c s.data.toList) : xs = cut c s := by
  unfold cut
  rw [← h, List.map_map]
  have : ((fun l : List UInt8 => (⟨l.toArray⟩ : ByteArray)) ∘ fun x : ByteArray => x.data.toList) = id := by
    funext x
    apply ByteArray.ext
    simp
  rw [this, List.map_id]
theorem cut_len (c : UInt8) (s : ByteArray) : (cut c s).length ≤ s.size + 1 := by
  unfold cut
  rw [List.length_map]
  have := cutL_len c s.data.toList
  rwa [Array.length_toList] at this
theorem cut_ne (c : UInt8) (s : ByteArray) : 0 < (cut c s).length := by
  unfold cut
  rw [List.length_map]
  exact List.length_pos_iff.2 (cutL_ne _ _)
/-! ### the shelf's form -/
theorem splitK_cut (c : UInt8) : ∀ l : List UInt8, Lib.splitK [c] 0 (Lib.count l [c]) l = cutL c l
  | [] => by
    have h0 : Lib.count [] [c] = 0 := by rw [Lib.count_one]; rfl
    rw [h0]
    rfl
  | b :: l => by
    have ih := splitK_cut c l
    by_cases h : b = c
    · subst h
      rw [Lib.count_cons_eq, cutL, if_pos rfl, Nat.add_comm, Lib.splitK]
      have hix : Lib.index (b :: l) [b] = 0 := by rw [Lib.index]; simp [List.isPrefixOf]
      rw [hix, if_neg (by decide)]
      simp [ih]
    · rw [Lib.count_cons_ne b c l h, cutL, if_neg h, ← ih]
      have hp : ([c] : List UInt8).isPrefixOf (b :: l) = false := by simp [List.isPrefixOf, Ne.symm h]
      have hix : Lib.index (b :: l) [c] = if Lib.index l [c] == -1 then -1 else Lib.index l [c] + 1 := by rw [Lib.index, hp]; simp
      cases hk : Lib.count l [c] with
      | zero => rfl
      | succ k =>
        have hge := Lib.index_ge l [c]
        by_cases hm : Lib.index l [c] = -1
        · rw [Lib.splitK, Lib.splitK, hix, hm]
          rfl
        · obtain ⟨j, hj⟩ : ∃ j : Nat, Lib.index l [c] = j := ⟨(Lib.index l [c]).toNat, by omega⟩
          have e1 : ((j : Int) == -1) = false := by simp
          have e2 : (((j : Int) + 1) == -1) = false := by simp; omega
          have e3 : ((j : Int) + 1).toNat = j + 1 := by omega
          have e4 : ((j : Int)).toNat = j := by omega
          rw [Lib.splitK, Lib.splitK, hix, hj, e1]
          simp only [e2, e3, e4, Bool.false_eq_true, if_false]
          simp [prep, Nat.add_right_comm]
theorem splitB_cut (c : UInt8) (s : ByteArray) : Lib.splitB ⟨#[c]⟩ 0 (Lib.countB s ⟨#[c]⟩) s = cut c s := by
  apply cut_of
  rw [Lib.splitB_data]
  exact splitK_cut c s.data.toList
/-! ### how great the pieces are -/
theorem cutL_size (c : UInt8) (l : List UInt8) : ∀ x ∈ cutL c l, x.length ≤ l.length := by
  induction l with
  | nil => intro x hx; simp [cutL] at hx; subst hx; simp
  | cons b l ih =>
    intro x hx
    unfold cutL at hx
    split at hx
    · rcases List.mem_cons.1 hx with rfl | h
      · simp
      · have := ih x h; simp; omega
    · cases h : cutL c l with
      | nil => exact absurd h (cutL_ne _ _)
      | cons y r =>
        rw [h] at hx
        rcases List.mem_cons.1 hx with rfl | h'
        · have := ih y (by rw [h]; exact List.mem_cons_self); simp; omega
        · have := ih x (by rw [h]; exact List.mem_cons_of_mem _ h'); simp; omega
theorem cut_size {c : UInt8} {s x : ByteArray} (h : x ∈ cut c s) : x.size ≤ s.size := by
  unfold cut at h
  obtain ⟨l, hl, rfl⟩ := List.mem_map.1 h
  have := cutL_size c _ l hl
  rw [Array.length_toList] at this
  show l.toArray.size ≤ _
  simpa using this
/-- All the pieces' bytes, and one more for each. -/
theorem cutL_sum (c : UInt8) (l : List UInt8) : ((cutL c l).map fun x => x.length + 1).sum = l.length + 1 := by
  induction l with
  | nil => simp [cutL]
  | cons b l ih =>
    unfold cutL
    split
    · simp [ih]; omega
    · cases h : cutL c l with
      | nil => exact absurd h (cutL_ne _ _)
      | cons y r => rw [h] at ih; simp [prep] at ih ⊢; omega
end Go.Proofs.YteecjnnompjmiacGreatDoor
