/-
  Helper text (no claim of its own): drawn permutations, bent.
-/
import Derived.Test.YtfbalkbcglejjaaDrawU
namespace Go.Proofs.Ytfbalkbcglejjaa
open Go.ChangeShapes Go.WideShapes Go.ChangeAt Go.RowKit Go.Deep
set_option linter.unusedVariables false
theorem appI1 {w : World} {B : Nat} {ops : Array Oper} {rest : List Oper} {o : Oper} {a : Act} {Q : Exit → Act → World → Prop} (hgd : o.guard = none) (s x : Operand)
    (ho : o.op = .call { callee := .builtin .append, args := #[s, x], argTypes := #[35, 35] }) (v : Value) (n : Nat) (xs : List Int) (hs : a.eval s = v)
    (hown : w.ownsRow B 3 1 v n (icells xs)) (hB : B ≤ w.heap.size) (y : Int) (e : TypeId) (b : Nat) (hx : a.eval x = .slice (some ⟨b, 0, none⟩) 1 1) (hbs : b = w.heap.size) (hn : n ≤ 90000000)
    (h : ∀ A' c' w', w'.ownsRow B 3 1 (.slice A' (n + 1) c') (n + 1) (icells (xs ++ [y])) → w.grownBy w' v.ownBlock → wpList Try.prog ops Q rest (a.put o.dst (.slice A' (n + 1) c')) w') :
    wpList Try.prog ops Q (o :: rest) a (w.alloc (.cells #[.int .i64 y] e)) := by
  subst hbs
  have hcs := cutW_size hB
  refine appIntS (w0 := cutW w B) hgd s x ho v n xs hs (by rw [hcs]; exact hown.alloc _) ((cutW_ext hB).alloc _) _ 1 1 [y] hx (rd_new w _ e 1 _ (by simp [icell]) (by simp [icell])) (by omega) ?_
  intro v' w' h1 h2 h3 h4
  rw [hcs] at h1
  obtain ⟨A', c', rfl, _⟩ := own_slice h1
  exact h A' c' w' h1 (World.grownBy.trans (((Ext.refl w).alloc _).gr _) h3)
theorem icells_takeD (k : Nat) (xs : List Int) : icells (xs.take k) = (icells xs).take (k * 1) := by
  induction xs generalizing k with
  | nil => simp [icells]
  | cons y xs ih =>
    cases k with
    | zero => simp [icells]
    | succ k =>
      have := ih k
      simp only [icells, Nat.mul_one] at this ⊢
      simp only [List.take_succ_cons, List.flatMap_cons, this, icell, List.cons_append, List.nil_append]
/-- What a draw of a row of ints hands back. -/
def DrewInts (w : World) (g most : Nat) (e : Ending) (w' : World) : Prop :=
  ∃ (A : Option Addr) (len cap : Nat) (xs : List Int), e = .returned (.slice A len cap) ∧ len ≤ most ∧ w'.ownsRow w.heap.size 3 1 (.slice A len cap) len (icells xs) ∧ Cur w' g ∧ w.grownBy w' (some g)
set_option maxRecDepth 100000 in
set_option maxHeartbeats 8000000 in
theorem l8Bent_any (g : Nat) (w : World) (h : Cur w g) :
    Calls Try.prog 34 #[.pointer (some ⟨g, 0, none⟩)] w (DrewInts w g 5) := by
  have hgl := h.lt
  go_enter Try.func34, Try.ntmps34
  go_wp2_with fail
  refine (l1Below_any g 4 _ h (by omega)).mono ?_
  rintro e w2 ⟨x, rfl, ⟨hx0, hx1, _⟩, hC2, hG2⟩
  obtain ⟨n, rfl⟩ := Int.eq_ofNat_of_zero_le hx0
  have hx2 : n < 4 := by have := hx1 (by omega); omega
  clear hx1 hx0
  go_wp2_with fail
  obtain ⟨n1, e1, hb1, hb2⟩ : ∃ n1 : Nat, (1 : Int) + (n : Int) = (n1 : Int) ∧ 1 ≤ n1 ∧ n1 ≤ 4 := ⟨n + 1, by omega, by omega, by omega⟩
  rw [e1]
  clear e1
  refine (l8Perm_any g n1 ⟨by omega, by omega⟩ _ hC2).mono ?_
  rintro e w3 ⟨b, c, rfl, hb, hI3, hC3, hG3⟩
  have hg3 := gr_trans hG2 hG3
  have hbw : w.heap.size ≤ b := by have := gr_size hG2; omega
  clear hG3 hC2
  go_wp2_with fail
  refine (l1Below_any g 8 _ hC3 (by omega)).mono ?_
  rintro e w4 ⟨x, rfl, ⟨hx0, hx1, _⟩, hC4, hG4⟩
  have hx2 := hx1 (by omega)
  clear hx1
  have hI4 := hI3.grown hG4 (fun k hk => by injection hk; omega)
  have hg4 := gr_trans hg3 hG4
  clear hg3 hG4 hC3 hI3 hG2
  by_cases e0 : x = 0
  · subst e0
    go_wp2_with fail
    refine (l1Below_any g n1 _ hC4 (by omega)).mono ?_
    rintro e w5 ⟨x, rfl, ⟨hx0, hx1, _⟩, hC5, hG5⟩
    obtain ⟨j, rfl⟩ := Int.eq_ofNat_of_zero_le hx0
    have hj : j < n1 := by have := hx1 (by omega); omega
    clear hx1 hx0
    go_wp2_with fail
    refine (l1PickInt_any g _ 5 _ [0, 1, 4, -1, 9223372036854775807] _ (hC5.alloc _) (rd_newN w5 _ _ _ 5 1 _ rfl rfl rfl) (by intro b o e; injection e with e; injection e with e1; have := hC5.lt; omega) (by omega)).mono ?_
    rintro e w6 ⟨z, rfl, hz, hC6, hG6⟩
    have hzI : I64 z := by unfold I64; simp at hz; omega
    clear hz
    have hI6 := ((hI4.grown hG5 (fun k hk => by injection hk; omega)).grown (((Ext.refl w5).alloc (.cells #[.int .i64 0, .int .i64 1, .int .i64 4, .int .i64 (-1), .int .i64 9223372036854775807] 3)).gr none) (by simp)).grown hG6 (fun k hk => by injection hk; omega)
    have hg6 := gr_trans (gr_alloc (gr_trans hg4 hG5) _) hG6
    have hI7 := hI6.set_ j z hzI
    have hC7 := hC6.set_ (p := ⟨b, j, none⟩) (by simp; omega) (.int .i64 z)
    have hg7 := gr_set hg6 (p := ⟨b, j, none⟩) hbw (.int .i64 z)
    have fj := hI6.frozen j
    obtain ⟨u, hu⟩ := hI6.cell hj
    obtain ⟨xs, _, ho⟩ := hI7.own hbw
    have HO := Lib.hid ho
    clear ho hG5 hG6 hC4 hC5 hzI hI7
    have HC := Lib.hid hC7
    have HG := Lib.hid hg7
    clear hC7 hg7
    go_wp2
    go_ret
    exact ⟨_, _, _, xs, rfl, by omega, HO.out, HC.out, HG.out⟩
  by_cases e1 : x = 1
  · subst e1
    go_wp2_with fail
    refine (l1Below_any g n1 _ hC4 (by omega)).mono ?_
    rintro e w5 ⟨x, rfl, ⟨hx0, hx1, _⟩, hC5, hG5⟩
    obtain ⟨j, rfl⟩ := Int.eq_ofNat_of_zero_le hx0
    have hj : j < n1 := by have := hx1 (by omega); omega
    clear hx1 hx0
    obtain ⟨xs, _, ho⟩ := (hI4.grown hG5 (fun k hk => by injection hk; omega)).own hbw
    have hlc := own_lc ho
    have hjc : j ≤ c := by omega
    have ho2 := own_prefix ho (Nat.le_of_lt hj)
    rw [← icells_takeD] at ho2
    have HO := Lib.hid ho2
    have HG := Lib.hid (gr_trans hg4 hG5)
    clear ho ho2 hG5 hC4
    go_wp2
    go_ret
    exact ⟨_, _, _, xs.take j, rfl, by omega, HO.out, hC5, HG.out⟩
  by_cases e2 : x = 2
  · subst e2
    obtain ⟨xs, _, ho⟩ := hI4.own hbw
    have hsz := gr_size hg4
    have HO := Lib.hid ho
    clear ho
    go_wp2_with (at_builtin; refine appI1 (B := w.heap.size) rfl _ _ rfl _ n1 xs rfl HO.out hsz (n1 : Int) _ _ rfl rfl (by omega) ?_; intro A6 c6 w6 ho6 hg6)
    go_ret
    have hgb : ∀ k, (Value.slice (some ⟨b, 0, none⟩) n1 c).ownBlock = some k → k = b := fun k hk => by injection hk with hk; exact hk.symm
    exact ⟨_, _, _, _, rfl, by omega, ho6, hC4.grown hg6 (fun k hk => by have := hgb k hk; omega), gr_new hg4 hg6 (fun k hk => by have := hgb k hk; omega)⟩
  · obtain ⟨xs, _, ho⟩ := hI4.own hbw
    go_wp2
    go_ret
    exact ⟨_, _, _, xs, rfl, by omega, ho, hC4, hg4⟩
end Go.Proofs.Ytfbalkbcglejjaa
