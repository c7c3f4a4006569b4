/-
  Helper text (no claim of its own): a path through a concatenation, in plain Lean.
-/
import Derived.Test.YtnnenocjmkbocaaPe
import Derived.Test.YtnnenocjmkbocaaHc
namespace Go.Proofs.Ytnnenocjmkbocaa
open Go.ChangeShapes Go.WideShapes Go.ChangeAt Go.RowKit Go.Deep
theorem bt_shift (c : Int) (a b : Nat) : bt (c / 2 ^ a) b = bt c ((a + b : Nat) : Int) := by
  unfold bt
  rw [Int.toNat_natCast, Int.toNat_natCast, Int.ediv_ediv_of_nonneg (by exact Int.pow_nonneg (by omega)), ← Int.pow_add]
theorem psJ_add (g : Gt) (i p q bit : Int) : psJ g i ((p + q) % 8) bit = (p + psJ g i q bit) % 8 := by
  unfold psJ
  split <;> omega
theorem psJ_mod (g : Gt) (i k bit : Int) : 0 ≤ psJ g i k bit ∧ psJ g i k bit < 8 := by
  unfold psJ
  split <;> omega
/-- The two runs, side by side. -/
theorem pe_two (c : Int) (h1 : Nat) (p : Int) : ∀ (l : List Gt) (i q : Int) (h : Nat), h1 + h + cntK 4 l ≤ 60 →
    (l.foldl (peS c) ⟨i, (p + q) % 8, h1 + h⟩).i = (l.foldl (peS (c / 2 ^ h1)) ⟨i, q, h⟩).i ∧ (l.foldl (peS c) ⟨i, (p + q) % 8, h1 + h⟩).j = (p + (l.foldl (peS (c / 2 ^ h1)) ⟨i, q, h⟩).j) % 8
  | [], _, _, _, _ => ⟨rfl, rfl⟩
  | g :: l, i, q, h, hh => by
    have hc : cntK 4 (g :: l) = cntK 4 l + (if (g.k == 4) = true then 1 else 0) := by
      unfold cntK; rw [List.filter_cons]; split <;> simp
    have hB : peB c ⟨i, (p + q) % 8, h1 + h⟩ g = peB (c / 2 ^ h1) ⟨i, q, h⟩ g := by
      unfold peB
      by_cases e : (g.k == 4) = true
      · rw [if_pos e, if_pos e, if_pos (show h1 + h < 62 by omega), if_pos (show h < 62 by omega)]
        exact (bt_shift c h1 h).symm
      · rw [if_neg e, if_neg e]
    rw [List.foldl_cons, List.foldl_cons]
    have e1 : peS c ⟨i, (p + q) % 8, h1 + h⟩ g = ⟨psI g i (peB (c / 2 ^ h1) ⟨i, q, h⟩ g), (p + psJ g i q (peB (c / 2 ^ h1) ⟨i, q, h⟩ g)) % 8, h1 + (if (g.k == 4) = true then h + 1 else h)⟩ := by
      unfold peS
      rw [hB]
      simp only [psJ_add]
      congr 1
      split <;> omega
    rw [e1]
    refine pe_two c h1 p l _ _ _ ?_
    by_cases e : (g.k == 4) = true
    · rw [if_pos e] at hc ⊢; omega
    · rw [if_neg e] at hc ⊢; omega
theorem pe_h (c : Int) : ∀ (l : List Gt) (s : Ps), (l.foldl (peS c) s).h = s.h + cntK 4 l
  | [], _ => rfl
  | g :: l, s => by
    have hc : cntK 4 (g :: l) = cntK 4 l + (if (g.k == 4) = true then 1 else 0) := by
      unfold cntK; rw [List.filter_cons]; split <;> simp
    rw [List.foldl_cons, pe_h c l, hc]
    unfold peS
    simp only
    split <;> omega
theorem pe_j (c : Int) : ∀ (l : List Gt) (s : Ps), 0 ≤ s.j ∧ s.j < 8 → 0 ≤ (l.foldl (peS c) s).j ∧ (l.foldl (peS c) s).j < 8
  | [], _, h => h
  | g :: l, s, h => by
    rw [List.foldl_cons]
    exact pe_j c l _ (psJ_mod _ _ _ _)
/-- The first m elements of a slice. -/
theorem Rd.take_ {α : Type} {f : α → List Value} {size : Nat} (hf : ∀ x, (f x).length = size) (hs : 0 < size) {w : World} {B n m : Nat} {A : Option Addr} {xs : List α} (h : Rd w B size A n (xs.flatMap f)) (hm : m ≤ n) : Rd w B size A m ((xs.take m).flatMap f) := by
  have hl := h.len hf hs
  refine ⟨by rw [flat_len hf, List.length_take, hl, Nat.min_eq_left hm], fun h0 => ?_⟩
  obtain ⟨b, o, e, hb, hc⟩ := h.2 (by omega)
  refine ⟨b, o, e, hb, fun j u hu => hc j u ?_⟩
  have hj := (List.getElem?_eq_some_iff.1 hu).1
  rw [← List.take_append_drop m xs, List.flatMap_append, List.getElem?_append_left hj]
  exact hu
/-- The elements of a slice from m on. -/
theorem Rd.drop_ {α : Type} {f : α → List Value} {size : Nat} (hf : ∀ x, (f x).length = size) (hs : 0 < size) {w : World} {B n m c : Nat} {A : Option Addr} {xs : List α} (h : Rd w B size A n (xs.flatMap f)) (hm : m ≤ n) (hc : n ≤ c) : Rd w B size (if c = m then A else A.map fun x => x.add (m * size)) (n - m) ((xs.drop m).flatMap f) := by
  have hl := h.len hf hs
  refine ⟨by rw [flat_len hf, List.length_drop, hl], fun h0 => ?_⟩
  obtain ⟨b, o, e, hb, hcell⟩ := h.2 (by omega)
  rw [if_neg (by omega), e]
  have hadd : (⟨b, o, none⟩ : Addr).add (m * size) = ⟨b, o + m * size, none⟩ := by
    by_cases hz : m * size = 0
    · rw [hz]; rfl
    · simp [Addr.add, hz]
  refine ⟨b, o + m * size, by rw [Option.map_some, hadd], hb, fun j u hu => ?_⟩
  rw [Nat.add_assoc]
  refine hcell _ u ?_
  have e2 : (xs.flatMap f)[m * size + j]? = ((xs.drop m).flatMap f)[j]? := by
    have hlt : ((xs.take m).flatMap f).length = m * size := by rw [flat_len hf, List.length_take, hl, Nat.min_eq_left hm]
    conv => lhs; rw [← List.take_append_drop m xs, List.flatMap_append]
    rw [List.getElem?_append_right (by rw [hlt]; omega), hlt]
    congr 1
    omega
  rw [e2]
  exact hu
theorem peL_I {c : Int} (gs : List Gt) (s : Ps) (h : I64 s.i) : I64 (gs.foldl (peS c) s).i := by
  induction gs generalizing s with
  | nil => exact h
  | cons g l ih => rw [List.foldl_cons]; exact ih _ (psI_I h)
theorem peI_I {gs : List Gt} {n i c : Int} (h : I64 i) : I64 (peI gs n i c) := by
  unfold peI
  split
  · exact peL_I gs _ h
  · exact h
theorem shr_I {c : Int} {k : Nat} (h : I64 c) : I64 (c / 2 ^ k) := by
  unfold I64 at *
  have hp : (0 : Int) < 2 ^ k := Int.pow_pos (by omega)
  have hp1 : (1 : Int) ≤ 2 ^ k := hp
  constructor
  · rw [Int.le_ediv_iff_mul_le hp]
    calc (-9223372036854775808 : Int) * 2 ^ k ≤ -9223372036854775808 * 1 := Int.mul_le_mul_of_nonpos_left (by omega) hp1
      _ ≤ c := by omega
  · have h3 : c / 2 ^ k ≤ 9223372036854775807 / 2 ^ k := Int.ediv_le_ediv hp h.2
    have h4 : (9223372036854775807 : Int) / 2 ^ k ≤ 9223372036854775807 := Int.ediv_le_self _ (by omega)
    omega
theorem vgAll_app (a b : List Gt) (n : Int) : vgAll (a ++ b) n = (vgAll a n && vgAll b n) := by unfold vgAll; exact List.all_append
theorem cntK_app (q : Int) (a b : List Gt) : cntK q (a ++ b) = cntK q a + cntK q b := by unfold cntK; rw [List.filter_append, List.length_append]
/-- A path through a concatenation is a path through both parts. -/
theorem pe_cat (a b : List Gt) (n i c : Int) (hv : vgAll (a ++ b) n = true) (hc : 0 ≤ c) (hh : cntK 4 (a ++ b) ≤ 60) :
    peI b n (peI a n i c) (c / 2 ^ cntK 4 a) = peI (a ++ b) n i c ∧ (peJ a n i c + peJ b n (peI a n i c) (c / 2 ^ cntK 4 a)) % 8 = peJ (a ++ b) n i c ∧ 0 ≤ peJ a n i c ∧ peJ a n i c < 8 ∧ 0 ≤ peJ b n (peI a n i c) (c / 2 ^ cntK 4 a) ∧ peJ b n (peI a n i c) (c / 2 ^ cntK 4 a) < 8 := by
  have hva := hv
  rw [vgAll_app, Bool.and_eq_true] at hva
  have hc2 : 0 ≤ c / 2 ^ cntK 4 a := Int.ediv_nonneg hc (Int.pow_nonneg (by omega))
  have oka : peOk a n c = true := by unfold peOk; rw [hva.1]; simpa using hc
  have okb : peOk b n (c / 2 ^ cntK 4 a) = true := by unfold peOk; rw [hva.2]; simpa using hc2
  have okab : peOk (a ++ b) n c = true := by unfold peOk; rw [hv]; simpa using hc
  have ea := pe_yes (i := i) oka
  have eb := pe_yes (i := peI a n i c) okb
  have eab := pe_yes (i := i) okab
  rw [cntK_app] at hh
  have hL : peL c (a ++ b) i = b.foldl (peS c) (peL c a i) := by unfold peL; rw [List.foldl_append]
  have hH : (peL c a i).h = cntK 4 a := by unfold peL; rw [pe_h]; simp
  have hJ : 0 ≤ (peL c a i).j ∧ (peL c a i).j < 8 := pe_j c a _ ⟨by simp, by simp⟩
  have hS : peL c a i = ⟨(peL c a i).i, ((peL c a i).j + 0) % 8, cntK 4 a + 0⟩ := by
    generalize hs : peL c a i = s at *
    obtain ⟨si, sj, sh⟩ := s
    simp only at hH hJ
    subst hH
    simp only [Nat.add_zero, Int.add_zero]
    congr 1
    omega
  have hT := pe_two c (cntK 4 a) (peL c a i).j b (peL c a i).i 0 0 (by omega)
  rw [← hS, ← hL] at hT
  have hJ2 : 0 ≤ (peL (c / 2 ^ cntK 4 a) b (peL c a i).i).j ∧ (peL (c / 2 ^ cntK 4 a) b (peL c a i).i).j < 8 := pe_j _ b _ ⟨by simp, by simp⟩
  rw [ea.1] at eb
  rw [ea.1, ea.2, eb.1, eb.2, eab.1, eab.2]
  exact ⟨hT.1.symm, hT.2.symm, hJ.1, hJ.2, hJ2.1, hJ2.2⟩
end Go.Proofs.Ytnnenocjmkbocaa
