/-
  Helper text (no claim of its own): lists of gates that do the same (plain Lean over the reference's run of gates).
-/
import Derived.Test.YtofbmkpfliofeabAli
import Derived.Test.YtofbmkpfliofeabDec
namespace Go.Proofs.Ytofbmkpfliofeab
open Go.ChangeShapes Go.WideShapes Go.ChangeAt Go.RowKit Go.Deep
set_option linter.unusedVariables false
set_option linter.unusedSimpArgs false
/-- What a gate makes of the amplitudes (H: at the next power of the root of 2). -/
def ap1 (g : Gt) (f : Nat → Zw) (j : Nat) : Zw :=
  if (g.k == 4) = true then zadd (f (qlo j g.a.toNat)) (rot (sgnH j g.a.toNat) (f (qhi j g.a.toNat)))
  else rot (pgN g.k.toNat g.a.toNat g.b.toNat g.c.toNat (sgN g.k.toNat g.a.toNat g.b.toNat g.c.toNat j)) (f (sgN g.k.toNat g.a.toNat g.b.toNat g.c.toNat j))
def apG : List Gt → (Nat → Zw) → Nat → Zw
  | [], f => f
  | g :: gs, f => apG gs (ap1 g f)
theorem apG_app (gs : List Gt) : ∀ (hs : List Gt) (f : Nat → Zw), apG (gs ++ hs) f = apG hs (apG gs f) := by
  induction gs with
  | nil => exact fun hs f => rfl
  | cons g gs ih => exact fun hs f => ih hs (ap1 g f)
theorem ap1_4 (a b c : Nat) (f : Nat → Zw) (j : Nat) : ap1 ⟨4, a, b, c⟩ f j = zadd (f (qlo j a)) (rot (sgnH j a) (f (qhi j a))) := rfl
theorem ap1_p {k a b c : Nat} (hk : k ∈ kindsN) (f : Nat → Zw) (j : Nat) : ap1 ⟨k, a, b, c⟩ f j = rot (pgN k a b c (sgN k a b c j)) (f (sgN k a b c j)) := by
  simp only [kindsN, List.mem_cons, List.not_mem_nil, or_false] at hk
  rcases hk with rfl | rfl | rfl | rfl | rfl | rfl | rfl | rfl | rfl | rfl | rfl <;> rfl
theorem hct_p {k a b c : Nat} (hk : k ∈ kindsN) : hct ⟨k, a, b, c⟩ = 0 := by
  simp only [kindsN, List.mem_cons, List.not_mem_nil, or_false] at hk
  rcases hk with rfl | rfl | rfl | rfl | rfl | rfl | rfl | rfl | rfl | rfl | rfl <;> rfl
theorem ap1_cong {g : Gt} {n : Nat} (hg : vg g n = true) {f h : Nat → Zw} (he : ∀ j, j < 2 ^ n → f j = h j) : ∀ j, j < 2 ^ n → ap1 g f j = ap1 g h j := by
  intro j hj
  obtain ⟨k, a, b, c, rfl, hn, hk, ha, hb, hc, hf⟩ := vg_nat hg
  rcases hk with rfl | hk
  · obtain ⟨f1, f2, -⟩ := h_facts hn.2 ha hj
    rw [show (⟨((4 : Nat) : Int), a, b, c⟩ : Gt) = ⟨4, a, b, c⟩ from rfl, ap1_4, ap1_4, he _ f1, he _ f2]
  · rw [ap1_p hk, ap1_p hk, he _ (sg_facts hn.2 hk ha hb hc hf hj).1]
theorem apG_cong {n : Nat} : ∀ {gs : List Gt}, (∀ g ∈ gs, vg g n = true) → ∀ {f h : Nat → Zw}, (∀ j, j < 2 ^ n → f j = h j) → ∀ j, j < 2 ^ n → apG gs f j = apG gs h j
  | [], _, _, _, he, j, hj => he j hj
  | g :: gs, hg, f, h, he, j, hj => apG_cong (gs := gs) (fun g' h' => hg g' (List.mem_cons_of_mem _ h')) (ap1_cong (hg g (List.mem_cons_self ..)) he) j hj
/-- The state after a gate. -/
theorem acts_one {g : Gt} {n K : Nat} {M : Int} {vs : List Dw} (hg : vg g n = true) (hs : St n K M vs) (hK : K + hct g ≤ 60) (h0 : 0 ≤ M) (hM : M * 2 ^ hct g ≤ 1073741824) :
    ∃ us, Acts (2 ^ n) g vs us ∧ St n (K + hct g) (M * 2 ^ hct g) us ∧ ∀ j, j < 2 ^ n → Lf (K + hct g) us j = ap1 g (Lf K vs) j := by
  have hg0 := hg
  obtain ⟨k, a, b, c, rfl, hn, hk, ha, hb, hc, hf⟩ := vg_nat hg
  rcases hk with rfl | hk
  · have e : hct (⟨((4 : Nat) : Int), a, b, c⟩ : Gt) = 1 := rfl
    rw [e] at hK hM ⊢
    have e2 : M * 2 ^ 1 = M + M := by omega
    rw [e2] at hM ⊢
    exact acts_h hn ha hg0 hs (by omega) ⟨h0, hM⟩
  · rw [hct_p hk] at hK hM ⊢
    have e2 : M * 2 ^ 0 = M := by omega
    rw [e2] at hM ⊢
    obtain ⟨us, h1, h2, h3⟩ := acts_perm hn hk ha hb hc hf hg0 hs hK ⟨h0, hM⟩
    exact ⟨us, h1, h2, fun j hj => by rw [ap1_p hk]; exact h3 j hj⟩
/-- The state after some gates. -/
def Res (n K : Nat) (M : Int) (gs : List Gt) (vs us : List Dw) : Prop := St n (K + hcs gs) (M * 2 ^ hcs gs) us ∧ ∀ j, j < 2 ^ n → Lf (K + hcs gs) us j = apG gs (Lf K vs) j
theorem pow_one (h : Nat) : (1 : Int) ≤ 2 ^ h := by
  have : (0 : Int) < 2 ^ h := Int.pow_pos (by decide)
  omega
theorem le_pow {M : Int} (h0 : 0 ≤ M) (h : Nat) : M ≤ M * 2 ^ h := by
  have := Int.mul_le_mul_of_nonneg_left (pow_one h) h0
  omega
theorem pow_split (M : Int) (i j : Nat) : M * 2 ^ (i + j) = M * 2 ^ i * 2 ^ j := by rw [Int.pow_add, Int.mul_assoc]
theorem chain_of {n : Nat} : ∀ (gs : List Gt) (K : Nat) (M : Int) (vs : List Dw), (∀ g ∈ gs, vg g n = true) → St n K M vs → K + hcs gs ≤ 60 → 0 ≤ M → M * 2 ^ hcs gs ≤ 1073741824 → ∃ us, Chain (2 ^ n) gs vs us ∧ Res n K M gs vs us
  | [], K, M, vs, _, hs, _, _, _ => ⟨vs, Chain.nil _ _, by show St n (K + 0) (M * 2 ^ 0) vs; rw [show M * 2 ^ 0 = M by omega]; exact hs, fun j _ => rfl⟩
  | g :: gs, K, M, vs, hg, hs, hK, h0, hM => by
    rw [hcs_cons] at hK hM
    rw [pow_split] at hM
    have h1 : 0 ≤ M * 2 ^ hct g := Int.le_trans h0 (le_pow h0 _)
    obtain ⟨ws, w1, w2, w3⟩ := acts_one (hg g (List.mem_cons_self ..)) hs (by omega) h0 (Int.le_trans (le_pow h1 _) hM)
    obtain ⟨us, u1, u2, u3⟩ := chain_of gs (K + hct g) (M * 2 ^ hct g) ws (fun g' h' => hg g' (List.mem_cons_of_mem _ h')) w2 (by omega) h1 hM
    refine ⟨us, Chain.cons w1 u1, ?_, fun j hj => ?_⟩
    · rw [hcs_cons, pow_split, ← Nat.add_assoc]; exact u2
    · rw [hcs_cons, ← Nat.add_assoc, u3 j hj]
      exact apG_cong (fun g' h' => hg g' (List.mem_cons_of_mem _ h')) w3 j hj
theorem Res.eq {n K : Nat} {M : Int} {gs : List Gt} {vs us ws : List Dw} (h : Res n K M gs vs us) (k : Res n K M gs vs ws) : us = ws :=
  h.1.eq k.1 fun j hj => by rw [h.2 j hj, k.2 j hj]
/-- The second list of gates ends where the first does. -/
def Same (n : Nat) (gs hs : List Gt) : Prop := ∀ (K : Nat) (M : Int) (vs us : List Dw), St n K M vs → 0 ≤ M → K + hcs gs + 4 ≤ 60 → M * 2 ^ hcs gs * 16 ≤ 1073741824 → Res n K M gs vs us → Chain (2 ^ n) hs vs us
theorem Same.nil (n : Nat) : Same n [] [] := fun K M vs us hs _ _ _ hr => by
  have : vs = us := hs.eq (N := M) (by have h := hr.1; rw [show M * 2 ^ hcs [] = M by show M * 2 ^ 0 = M; omega] at h; exact h) fun j hj => (hr.2 j hj).symm
  rw [this]
  exact Chain.nil _ _
theorem Same.refl {n : Nat} {gs : List Gt} (hg : ∀ g ∈ gs, vg g n = true) : Same n gs gs := fun K M vs us hs h0 hK hM hr => by
  obtain ⟨ws, w1, w2⟩ := chain_of gs K M vs hg hs (by omega) h0 (by have := le_pow h0 (hcs gs); omega)
  rw [hr.eq w2]
  exact w1
theorem Same.app {n : Nat} {gs hs gs' hs' : List Gt} (hg : ∀ g ∈ gs, vg g n = true) (hg' : ∀ g ∈ gs', vg g n = true) (h : Same n gs hs) (h' : Same n gs' hs') : Same n (gs ++ gs') (hs ++ hs') := fun K M vs us hst h0 hK hM hr => by
  rw [hcs_app] at hK hM
  rw [pow_split] at hM
  have p0 := le_pow h0 (hcs gs)
  have h1 : 0 ≤ M * 2 ^ hcs gs := Int.le_trans h0 p0
  have p1 := le_pow h1 (hcs gs')
  obtain ⟨ws, w1, w2⟩ := chain_of gs K M vs hg hst (by omega) h0 (by omega)
  obtain ⟨us', u1, u2⟩ := chain_of gs' (K + hcs gs) (M * 2 ^ hcs gs) ws hg' w2.1 (by omega) h1 (by omega)
  have e : us = us' := by
    refine hr.1.eq (N := M * 2 ^ hcs (gs ++ gs')) ?_ fun j hj => ?_
    · rw [hcs_app, pow_split, ← Nat.add_assoc]; exact u2.1
    · rw [hr.2 j hj, hcs_app, ← Nat.add_assoc, u2.2 j hj, apG_app]
      exact (apG_cong hg' w2.2 j hj).symm
  rw [e]
  exact (h K M vs ws hst h0 (by omega) (by omega) w2).append (h' _ _ ws us' w2.1 h1 (by omega) (by omega) u2)
/-- Lists without H: what one makes of the amplitudes the other makes too. -/
theorem Same.of {n : Nat} {gs hs : List Gt} {d : Nat} (hd : d ≤ 2) (hh : ∀ g ∈ hs, vg g n = true) (hc : hcs hs = hcs gs + 2 * d) (he : ∀ f j, j < 2 ^ n → apG hs f j = up (2 * d) (apG gs f j)) : Same n gs hs := fun K M vs us hs' h0 hK hM hr => by
  have e16 : ∀ x : Int, 0 ≤ x → x * 2 ^ (2 * d) ≤ x * 16 := fun x hx => by
    rcases (show d = 0 ∨ d = 1 ∨ d = 2 by omega) with rfl | rfl | rfl
    · show x * 1 ≤ x * 16; omega
    · show x * 4 ≤ x * 16; omega
    · show x * 16 ≤ x * 16; omega
  have h1 : 0 ≤ M * 2 ^ hcs gs := Int.le_trans h0 (le_pow h0 _)
  obtain ⟨ws, w1, w2⟩ := chain_of hs K M vs hh hs' (by rw [hc]; omega) h0 (by rw [hc, pow_split]; exact Int.le_trans (e16 _ h1) hM)
  have e : us = ws := by
    have w3 := w2.1
    rw [hc, ← Nat.add_assoc] at w3
    have hup : ∀ u : Zw, near (M * 2 ^ hcs gs) u → near (M * 2 ^ hcs gs * 16) (up (2 * d) u) := fun u hu => by
      have n1 := near_root hu
      have n2 := near_root n1
      have n3 := near_root n2
      have n4 := near_root n3
      rcases (show d = 0 ∨ d = 1 ∨ d = 2 by omega) with rfl | rfl | rfl
      · exact near_le hu (by omega)
      · exact near_le n2 (by omega)
      · exact near_le n4 (by omega)
    refine (hr.1.mono (J := 2 * d) hup).eq w3 fun j hj => ?_
    have w4 := w2.2 j hj
    rw [hc, ← Nat.add_assoc] at w4
    rw [w4, he _ j hj, Lf_more hr.1 hj, hr.2 j hj]
  rw [e]
  exact w1
/-- The four places that two qubits make. -/
def sqOk (a b j q00 q10 q01 q11 : Nat) : Bool :=
  (qlo q00 a == q00) && (qhi q00 a == q10) && (qlo q00 b == q00) && (qhi q00 b == q01) && (bt q00 a == false) && (bt q00 b == false) &&
  (qlo q10 a == q00) && (qhi q10 a == q10) && (qlo q10 b == q10) && (qhi q10 b == q11) && (bt q10 a == true) && (bt q10 b == false) &&
  (qlo q01 a == q01) && (qhi q01 a == q11) && (qlo q01 b == q00) && (qhi q01 b == q01) && (bt q01 a == false) && (bt q01 b == true) &&
  (qlo q11 a == q01) && (qhi q11 a == q11) && (qlo q11 b == q10) && (qhi q11 b == q11) && (bt q11 a == true) && (bt q11 b == true) &&
  (qfl q00 a == q10) && (qfl q10 a == q00) && (qfl q01 a == q11) && (qfl q11 a == q01) &&
  (qfl q00 b == q01) && (qfl q01 b == q00) && (qfl q10 b == q11) && (qfl q11 b == q10) &&
  ((j == q00) || (j == q10) || (j == q01) || (j == q11))
theorem chk_sq : (List.range 5).all (fun n => (List.range n).all fun a => (List.range n).all fun b => (a == b) || (List.range (2 ^ n)).all fun j =>
    sqOk a b j (qlo (qlo j a) b) (qlo (qhi j a) b) (qhi (qlo j a) b) (qhi (qhi j a) b)) = true := by kernel_rfl
theorem sq_facts {n a b j : Nat} (hn : n ≤ 4) (ha : a < n) (hb : b < n) (hab : a ≠ b) (hj : j < 2 ^ n) : ∃ q00 q10 q01 q11, sqOk a b j q00 q10 q01 q11 = true := by
  have h1 := of_all (of_all (of_all chk_sq (show n < 5 by omega)) ha) hb
  rw [Bool.or_eq_true] at h1
  rcases h1 with h1 | h1
  · exact absurd (beq_iff_eq.1 h1) hab
  · have h3 := of_all h1 hj
    exact ⟨_, _, _, _, h3⟩
theorem ap_cx (a b c : Nat) (f : Nat → Zw) (j : Nat) : ap1 ⟨9, a, b, c⟩ f j = f (if bt j a = true then qfl j b else j) := by
  show rot 0 (f (if bt j a then qfl j b else j)) = _
  rw [rot_0]
theorem rot4 (x : Zw) : rot 4 x = ⟨-x.a, -x.b, -x.c, -x.d⟩ := by apply Zw.eq <;> simp only [rot, zmul, zw] <;> omega
theorem up4 (x : Zw) : up (2 * 2) x = ⟨4 * x.a, 4 * x.b, 4 * x.c, 4 * x.d⟩ := by
  show zrt (zrt (zrt (zrt x))) = _
  rw [zrt_zrt, zrt_zrt]
  apply Zw.eq <;> simp only <;> omega
set_option maxHeartbeats 4000000 in
/-- H on both qubits turns a CX around. -/
theorem rev_eq {n a b : Nat} (hn : n ≤ 4) (ha : a < n) (hb : b < n) (hab : a ≠ b) (f : Nat → Zw) (j : Nat) (hj : j < 2 ^ n) :
    apG [⟨4, a, (0 : Nat), (0 : Nat)⟩, ⟨4, b, (0 : Nat), (0 : Nat)⟩, ⟨9, b, a, (0 : Nat)⟩, ⟨4, a, (0 : Nat), (0 : Nat)⟩, ⟨4, b, (0 : Nat), (0 : Nat)⟩] f j = up (2 * 2) (apG [⟨9, a, b, (0 : Nat)⟩] f j) := by
  obtain ⟨q00, q10, q01, q11, h⟩ := sq_facts hn ha hb hab hj
  unfold sqOk at h
  simp only [Bool.and_eq_true, beq_iff_eq, Bool.or_eq_true, and_assoc] at h
  obtain ⟨a1, a2, a3, a4, a5, a6, b1, b2, b3, b4, b5, b6, c1, c2, c3, c4, c5, c6, d1, d2, d3, d4, d5, d6, e1, e2, e3, e4, e5, e6, e7, e8, hj4⟩ := h
  have s1 : sgnH q00 a = 0 := by unfold sgnH; rw [a5]; rfl
  have s2 : sgnH q00 b = 0 := by unfold sgnH; rw [a6]; rfl
  have s3 : sgnH q10 a = 4 := by unfold sgnH; rw [b5]; rfl
  have s4 : sgnH q10 b = 0 := by unfold sgnH; rw [b6]; rfl
  have s5 : sgnH q01 a = 0 := by unfold sgnH; rw [c5]; rfl
  have s6 : sgnH q01 b = 4 := by unfold sgnH; rw [c6]; rfl
  have s7 : sgnH q11 a = 4 := by unfold sgnH; rw [d5]; rfl
  have s8 : sgnH q11 b = 4 := by unfold sgnH; rw [d6]; rfl
  simp only [apG]
  rw [up4]
  have hgo : ∀ q, q = q00 ∨ q = q10 ∨ q = q01 ∨ q = q11 → ap1 ⟨4, b, (0 : Nat), (0 : Nat)⟩ (ap1 ⟨4, a, (0 : Nat), (0 : Nat)⟩ (ap1 ⟨9, b, a, (0 : Nat)⟩ (ap1 ⟨4, b, (0 : Nat), (0 : Nat)⟩ (ap1 ⟨4, a, (0 : Nat), (0 : Nat)⟩ f)))) q =
      ⟨4 * (ap1 ⟨9, a, b, (0 : Nat)⟩ f q).a, 4 * (ap1 ⟨9, a, b, (0 : Nat)⟩ f q).b, 4 * (ap1 ⟨9, a, b, (0 : Nat)⟩ f q).c, 4 * (ap1 ⟨9, a, b, (0 : Nat)⟩ f q).d⟩ := by
    rintro q (rfl | rfl | rfl | rfl) <;>
    simp only [ap1_4, ap_cx, a1, a2, a3, a4, a5, a6, b1, b2, b3, b4, b5, b6, c1, c2, c3, c4, c5, c6, d1, d2, d3, d4, d5, d6, e1, e2, e3, e4, e5, e6, e7, e8, s1, s2, s3, s4, s5, s6, s7, s8, rot_0, rot4, if_true, Bool.false_eq_true, if_false, zadd] <;>
    (apply Zw.eq <;> simp only <;> omega)
  exact hgo j (by rcases hj4 with ((h | h) | h) | h <;> simp [h])
def cxS (a b j : Nat) : Nat := if bt j a = true then qfl j b else j
theorem chk_swap : (List.range 5).all (fun n => (List.range n).all fun a => (List.range n).all fun b => (a == b) || (List.range (2 ^ n)).all fun j => (cxS a b (cxS b a (cxS a b j)) == sgN 11 a b 0 j)) = true := by kernel_rfl
theorem swap_eq {n a b : Nat} (hn : n ≤ 4) (ha : a < n) (hb : b < n) (hab : a ≠ b) (f : Nat → Zw) (j : Nat) (hj : j < 2 ^ n) :
    apG [⟨9, a, b, (0 : Nat)⟩, ⟨9, b, a, (0 : Nat)⟩, ⟨9, a, b, (0 : Nat)⟩] f j = apG [⟨11, a, b, (0 : Nat)⟩] f j := by
  have h1 := of_all (of_all (of_all chk_swap (show n < 5 by omega)) ha) hb
  rw [Bool.or_eq_true] at h1
  rcases h1 with h1 | h1
  · exact absurd (beq_iff_eq.1 h1) hab
  · have h2 : cxS a b (cxS b a (cxS a b j)) = sgN 11 a b 0 j := by
      have h3 := of_all h1 hj
      exact beq_iff_eq.1 h3
    simp only [apG]
    rw [ap_cx, ap_cx, ap_cx]
    show f (cxS a b (cxS b a (cxS a b j))) = rot 0 (f (sgN 11 a b 0 j))
    rw [rot_0, ← h2]
end Go.Proofs.Ytofbmkpfliofeab
