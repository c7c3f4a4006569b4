/-
  Helper text (no claim of its own): gates and their inverses. Printed by gen_alf.py.
-/
import Derived.Test.YtofbmkpfliofeabAlh
namespace Go.Proofs.Ytofbmkpfliofeab
open Go.ChangeShapes Go.WideShapes Go.ChangeAt Go.RowKit Go.Deep
set_option linter.unusedVariables false
set_option linter.unusedSimpArgs false
/-- The inverse of a gate. -/
def invG (g : Gt) : Gt := ⟨if g.k = 5 then 6 else if g.k = 6 then 5 else if g.k = 7 then 8 else if g.k = 8 then 7 else g.k, g.a, g.b, g.c⟩
theorem invG_nat (k a b c : Nat) : invG ⟨k, a, b, c⟩ = ⟨(invN k : Nat), a, b, c⟩ := by
  unfold invG invN
  simp only
  split
  · have : k = 5 := by omega
    subst this; rfl
  · split
    · have : k = 6 := by omega
      subst this; rfl
    · split
      · have : k = 7 := by omega
        subst this; rfl
      · split
        · have : k = 8 := by omega
          subst this; rfl
        · split <;> first | rfl | (exfalso; omega)
theorem ar_inv (g : Gt) : ar (invG g).k = ar g.k := by
  unfold invG ar
  simp only
  split
  · omega
  · split
    · omega
    · split
      · omega
      · split <;> omega
theorem vg_inv {g : Gt} {n : Int} (h : vg g n = true) : vg (invG g) n = true := by
  have e : vg (invG g) n = vg g n := by
    unfold vg okI
    rw [ar_inv]
    rfl
  rw [e]; exact h
theorem invN_mem {k : Nat} (hk : k ∈ kindsN) : invN k ∈ kindsN := by
  simp only [kindsN, List.mem_cons, List.not_mem_nil, or_false] at hk ⊢
  rcases hk with rfl | rfl | rfl | rfl | rfl | rfl | rfl | rfl | rfl | rfl | rfl <;> decide
theorem fine_inv {k a b c : Nat} (hk : k ∈ kindsN) : fineN (invN k) a b c = fineN k a b c := by
  simp only [kindsN, List.mem_cons, List.not_mem_nil, or_false] at hk
  rcases hk with rfl | rfl | rfl | rfl | rfl | rfl | rfl | rfl | rfl | rfl | rfl <;> rfl
theorem twice (u : Zw) : zadd u u = ⟨2 * u.a, 2 * u.b, 2 * u.c, 2 * u.d⟩ := by apply Zw.eq <;> simp only [zadd] <;> omega
theorem Lf_more {n K J j : Nat} {M : Int} {vs : List Dw} (hs : St n K M vs) (hj : j < 2 ^ n) : Lf (K + J) vs j = up J (Lf K vs j) := by
  obtain ⟨x, x1, x2, x3, x4, x5⟩ := hs.get hj
  unfold Lf
  rw [List.getD_eq_getElem?_getD, x1]
  exact lift_more x3
theorem near_up {M : Int} (hM : 0 ≤ M) {u : Zw} (h : near M u) : near (M + M) (up 1 u) := by
  have := near_root h
  exact near_le this (by omega)
theorem St.up1 {n K : Nat} {M : Int} {vs : List Dw} (h : St n K M vs) (hM : 0 ≤ M) : St n (K + 1) (M + M) vs := h.mono fun u hu => near_up hM hu
theorem acts_inv {g : Gt} {n K : Nat} {M : Int} {vs : List Dw} (hg : vg g n = true) (hs : St n K M vs) (hK : K ≤ 58) (hM : 0 ≤ M ∧ 4 * M ≤ 1073741824) :
    ∃ us, Acts (2 ^ n) g vs us ∧ St n (K + 1) (M + M) us ∧ Acts (2 ^ n) (invG g) us vs := by
  have hg' := vg_inv hg
  obtain ⟨k, a, b, c, rfl, hn, hk, ha, hb, hc, hf⟩ := vg_nat hg
  rw [invG_nat] at hg' ⊢
  rcases hk with rfl | hk
  · obtain ⟨us, h1, h2, h3⟩ := acts_h hn ha hg hs (by omega) (by omega)
    obtain ⟨ws, k1, k2, k3⟩ := acts_h hn ha hg h2 (by omega) (by omega)
    refine ⟨us, h1, h2, ?_⟩
    have e : ws = vs := by
      refine k2.eq ((hs.up1 hM.1).up1 (by omega)) fun j hj => ?_
      obtain ⟨f1, f2, f3, f4, f5, f6, f7, f8, f9⟩ := h_facts hn.2 ha hj
      have s0 : sgnH (qlo j a) a = 0 := by unfold sgnH; rw [f7]; rfl
      have s4 : sgnH (qhi j a) a = 4 := by unfold sgnH; rw [f8]; rfl
      rw [k3 j hj, h3 _ f1, h3 _ f2, f3, f4, f5, f6, s0, s4, Lf_more (J := 1) (hs.up1 hM.1) hj, Lf_more (J := 1) hs hj]
      show _ = zrt (zrt (Lf K vs j))
      rw [zrt_zrt, ← twice]
      by_cases hb : bt j a = true
      · rw [if_pos hb] at f9
        have sj : sgnH j a = 4 := by unfold sgnH; rw [hb]; rfl
        rw [sj, ← f9]
        apply Zw.eq <;> simp only [zadd, rot, zmul, zw] <;> omega
      · rw [if_neg hb] at f9
        have sj : sgnH j a = 0 := by unfold sgnH; rw [if_neg hb]
        rw [sj, ← f9]
        apply Zw.eq <;> simp only [zadd, rot, zmul, zw] <;> omega
    rw [e] at k1
    exact k1
  · obtain ⟨us, h1, h2, h3⟩ := acts_perm hn hk ha hb hc hf hg hs (by omega) (by omega)
    obtain ⟨ws, k1, k2, k3⟩ := acts_perm hn (invN_mem hk) ha hb hc ((fine_inv hk).trans hf) hg' h2 (by omega) (by omega)
    refine ⟨us, h1, h2.up1 hM.1, ?_⟩
    have e : ws = vs := by
      refine k2.eq hs fun j hj => ?_
      obtain ⟨f1, f2, f3, f4, f5⟩ := sg_facts hn.2 hk ha hb hc hf hj
      rw [k3 j hj, f4, h3 _ f1, f2]
      have f6 := (sg_facts hn.2 hk ha hb hc hf f1).2.2.1
      have g3 := (sg_facts hn.2 (invN_mem hk) ha hb hc ((fine_inv hk).trans hf) f1).2.2.1
      exact rot_rot g3 f3 f5
    rw [e] at k1
    exact k1
/-- Gates, one behind the other. -/
def Chain (l : Nat) (gs : List Gt) (vs us : List Dw) : Prop := ∃ s : Nat → List Dw, s 0 = vs ∧ s gs.length = us ∧ ∀ k g, gs[k]? = some g → Acts l g (s k) (s (k + 1))
theorem Chain.nil (l : Nat) (vs : List Dw) : Chain l [] vs vs := ⟨fun _ => vs, rfl, rfl, fun k g h => by simp at h⟩
theorem Chain.cons {l : Nat} {g : Gt} {gs : List Gt} {vs ws us : List Dw} (h : Acts l g vs ws) (k : Chain l gs ws us) : Chain l (g :: gs) vs us := by
  obtain ⟨s, s0, s1, s2⟩ := k
  refine ⟨fun i => match i with | 0 => vs | i + 1 => s i, rfl, s1, fun i g' hi => ?_⟩
  cases i with
  | zero =>
    obtain rfl := Option.some.inj hi
    show Acts l g vs (s 0)
    rw [s0]; exact h
  | succ i => exact s2 i g' hi
theorem Chain.append {l : Nat} {us ws : List Dw} {hs : List Gt} : ∀ {gs : List Gt} {vs : List Dw}, Chain l gs vs ws → Chain l hs ws us → Chain l (gs ++ hs) vs us
  | [], vs, ⟨s, s0, s1, _⟩, k => by
    have : vs = ws := by rw [← s0, ← s1]; rfl
    rw [this]; exact k
  | g :: gs, vs, ⟨s, s0, s1, s2⟩, k => by
    refine Chain.cons (ws := s 1) ?_ (Chain.append (gs := gs) ⟨fun i => s (i + 1), rfl, s1, fun i g' hi => s2 (i + 1) g' hi⟩ k)
    have := s2 0 g rfl
    rw [s0] at this
    exact this
theorem Chain.one {l : Nat} {g : Gt} {vs us : List Dw} (h : Acts l g vs us) : Chain l [g] vs us := Chain.cons h (Chain.nil l us)
/-- The adjoint of gates. -/
def adjG (gs : List Gt) : List Gt := gs.reverse.map invG
theorem adjG_cons (g : Gt) (gs : List Gt) : adjG (g :: gs) = adjG gs ++ [invG g] := by unfold adjG; rw [List.reverse_cons, List.map_append]; rfl
theorem there_back {n : Nat} : ∀ (gs : List Gt) (K : Nat) (M : Int) (vs : List Dw), (∀ g ∈ gs, vg g n = true) → St n K M vs → K + gs.length ≤ 58 → 0 ≤ M → M * 2 ^ gs.length * 4 ≤ 1073741824 → Chain (2 ^ n) (gs ++ adjG gs) vs vs
  | [], K, M, vs, _, _, _, _, _ => Chain.nil _ _
  | g :: gs, K, M, vs, hg, hs, hK, hM, hB => by
    rw [List.length_cons] at hK hB
    have hp : (1 : Int) ≤ 2 ^ gs.length := by
      have : (0 : Int) < 2 ^ gs.length := Int.pow_pos (by decide)
      omega
    have hMM : M ≤ M * 2 ^ gs.length := by
      have := Int.mul_le_mul_of_nonneg_left hp hM
      omega
    have e2 : (M + M) * 2 ^ gs.length = M * 2 ^ (gs.length + 1) := by rw [Int.pow_succ, ← Int.mul_assoc, Int.add_mul]; omega
    have e3 : M * 2 ^ (gs.length + 1) = M * 2 ^ gs.length + M * 2 ^ gs.length := by rw [← e2, Int.add_mul]
    obtain ⟨us, h1, h2, h3⟩ := acts_inv (hg g (List.mem_cons_self ..)) hs (by omega) ⟨hM, by omega⟩
    have ih := there_back gs (K + 1) (M + M) us (fun g' h' => hg g' (List.mem_cons_of_mem _ h')) h2 (by omega) (by omega) (by rw [e2]; exact hB)
    rw [adjG_cons, List.cons_append, ← List.append_assoc]
    exact Chain.cons h1 (ih.append (Chain.one h3))
theorem lift_00 (x : Dw) : lift 0 x = x.n := by unfold lift; rw [Nat.zero_sub]; rfl
theorem basis_St (n i : Nat) : St n 0 1 (basis n i) := by
  refine ⟨by simp [basis], fun x hx => ?_⟩
  rcases List.mem_or_eq_of_mem_set hx with h | rfl
  · obtain rfl := List.eq_of_mem_replicate h
    exact ⟨rfl, Nat.le_refl 0, by rw [lift_00]; unfold near d0 z0; simp only; omega⟩
  · exact ⟨rfl, Nat.le_refl 0, by rw [lift_00]; unfold near ph zw; simp only; omega⟩
/-- Gates in a chain, as the reference applies them. -/
theorem actsL_of {n : Nat} (h1 : 1 ≤ n) (h4 : n ≤ 4) {vs us : List Dw} {gs : List Gt} (hl : vs.length = 2 ^ n) (hd : ∀ x ∈ vs, dok x = true) (hgl : gs.length ≤ 1000000) (h : Chain (2 ^ n) gs vs us) (G : Option Addr) (cg : Nat) : ActsL (2 ^ n) G cg gs vs us := by
  obtain ⟨s, rfl, rfl, s2⟩ := h
  exact ApplyGates_run h1 h4 G cg gs s hgl hl hd s2
end Go.Proofs.Ytofbmkpfliofeab
