/-
  Helper text (no claim of its own): the routing of a gate by swaps (plain Lean).
-/
import Derived.Test.YtfbalkbcglejjaaSp
import Derived.Test.YtfbalkbcglejjaaSw
import Derived.Test.YtfbalkbcglejjaaMay
import Derived.Test.YtfbalkbcglejjaaDec
namespace Go.Proofs.Ytfbalkbcglejjaa
open Go.ChangeShapes Go.WideShapes Go.ChangeAt Go.RowKit Go.Deep
/-! ### Permutations -/
theorem getD_of {p : List Int} {i : Nat} {x : Int} (h : p[i]? = some x) : p.getD i 0 = x := by rw [List.getD_eq_getElem?_getD, h]; rfl
theorem perm_iff {p : List Int} : perm p = true ↔ (1 ≤ p.length ∧ p.length ≤ 4) ∧ (∀ x ∈ p, 0 ≤ x ∧ x < (p.length : Int)) ∧ p.Nodup := by
  have hG : permG p p.length = true ↔ (∀ x ∈ p, 0 ≤ x ∧ x < (p.length : Int)) ∧ p.Nodup := by
    unfold permG
    rw [List.all_eq_true]
    constructor
    · intro h
      have h' : ∀ (i : Nat) (hi : i < p.length), (0 ≤ p[i] ∧ p[i] < (p.length : Int)) ∧ p[i] ∉ p.take i := fun i hi => by
        have := h i (by simpa using hi)
        rw [getD_of (List.getElem?_eq_getElem hi)] at this
        unfold okP hasI at this
        simp only [Bool.and_eq_true, decide_eq_true_eq, Bool.not_eq_true', List.contains_eq_mem, decide_eq_false_iff_not] at this
        exact ⟨⟨this.1.1, by have := this.1.2; omega⟩, this.2⟩
      refine ⟨fun x hx => ?_, ?_⟩
      · obtain ⟨i, hi, rfl⟩ := List.getElem_of_mem hx
        exact (h' i hi).1
      · refine List.pairwise_iff_getElem.2 fun i j hi hj hij => ?_
        intro e
        refine (h' j hj).2 ?_
        rw [← e]
        rw [List.mem_iff_getElem?]
        exact ⟨i, by rw [List.getElem?_take_of_lt hij, List.getElem?_eq_getElem hi]⟩
    · rintro ⟨h1, h2⟩ i hi
      simp at hi
      rw [getD_of (List.getElem?_eq_getElem hi)]
      unfold okP hasI
      have h3 := h1 p[i] (List.getElem_mem hi)
      have h4 : p[i] ∉ p.take i := fun hm => by
        obtain ⟨j, hj, he⟩ := List.getElem_of_mem hm
        rw [List.length_take] at hj
        rw [List.getElem_take] at he
        exact List.pairwise_iff_getElem.1 h2 j i (by omega) hi (by omega) he
      simp only [Bool.and_eq_true, decide_eq_true_eq, Bool.not_eq_true', List.contains_eq_mem, decide_eq_false_iff_not]
      exact ⟨⟨h3.1, by omega⟩, h4⟩
  unfold perm
  rw [Bool.and_eq_true, hG, Bool.and_eq_true, decide_eq_true_eq, decide_eq_true_eq]
  constructor
  · rintro ⟨h1, h2⟩; exact ⟨h2, h1⟩
  · rintro ⟨h1, h2⟩; exact ⟨h2, h1⟩
theorem sw1_inj {a b x y : Int} (h : sw1 a b x = sw1 a b y) : x = y := by
  unfold sw1 at h
  simp only [beq_iff_eq] at h
  split at h <;> split at h <;> (try split at h) <;> (try split at h) <;> omega
theorem sw1_in {a b x : Int} {n : Int} (ha : 0 ≤ a ∧ a < n) (hb : 0 ≤ b ∧ b < n) (hx : 0 ≤ x ∧ x < n) : 0 ≤ sw1 a b x ∧ sw1 a b x < n := by
  unfold sw1
  split
  · exact hb
  · split
    · exact ha
    · exact hx
theorem perm_sw {p : List Int} {a b : Int} (h : perm p = true) (ha : 0 ≤ a ∧ a < (p.length : Int)) (hb : 0 ≤ b ∧ b < (p.length : Int)) : perm (p.map (sw1 a b)) = true := by
  obtain ⟨h1, h2, h3⟩ := perm_iff.1 h
  refine perm_iff.2 ⟨by rw [List.length_map]; exact h1, fun x hx => ?_, ?_⟩
  · rw [List.length_map]
    obtain ⟨y, hy, rfl⟩ := List.mem_map.1 hx
    exact sw1_in ha hb (h2 y hy)
  · refine List.pairwise_map.2 (h3.imp fun hne e => hne (sw1_inj e))
/-! ### Routing -/
/-- The qubit at which place i lies. -/
def loc (p : List Int) (i : Int) : Int := p.getD i.toNat 0
/-- The swaps that bring a and b together, and the layout behind them. -/
def rgL (x : Gr) (a b : Int) : Nat → List Int → List Gt × List Int
  | 0, now => ([], now)
  | f + 1, now => if 1 < gd x (loc now a) (loc now b) then
      let s := (spath x (loc now a) (loc now b)).getD 0 0
      let t := (spath x (loc now a) (loc now b)).getD 1 0
      let r := rgL x a b f (swapL now s t)
      (⟨11, s, t, 0⟩ :: r.1, r.2)
    else ([], now)
/-- What RouteGate hands back: gates and a layout. -/
def routG (x : Gr) (g : Gt) (p : List Int) : List Gt × List Int :=
  if may g x p = true then
    if (ar g.k == 1) = true then ([g1 g.k (loc p g.a)], p)
    else ((rgL x g.a g.b 4 p).1 ++ [gcx (loc (rgL x g.a g.b 4 p).2 g.a) (loc (rgL x g.a g.b 4 p).2 g.b)], (rgL x g.a g.b 4 p).2)
  else ([], p)
theorem routG_no {x : Gr} {g : Gt} {p : List Int} (h : may g x p = false) : routG x g p = ([], p) := by unfold routG; rw [if_neg (by simp [h])]
theorem routG_1 {x : Gr} {g : Gt} {p : List Int} (h : may g x p = true) (h1 : (ar g.k == 1) = true) : routG x g p = ([g1 g.k (loc p g.a)], p) := by unfold routG; rw [if_pos h, if_pos h1]
theorem routG_2 {x : Gr} {g : Gt} {p : List Int} (h : may g x p = true) (h1 : (ar g.k == 1) = false) : routG x g p = ((rgL x g.a g.b 4 p).1 ++ [gcx (loc (rgL x g.a g.b 4 p).2 g.a) (loc (rgL x g.a g.b 4 p).2 g.b)], (rgL x g.a g.b 4 p).2) := by unfold routG; rw [if_pos h, if_neg (by simp [h1])]
theorem rgL_stop {x : Gr} {a b : Int} {now : List Int} (f : Nat) (h : ¬ 1 < gd x (loc now a) (loc now b)) : rgL x a b f now = ([], now) := by
  cases f
  · rfl
  · rw [rgL, if_neg h]
theorem rgL_len (x : Gr) (a b : Int) : ∀ f now, (rgL x a b f now).1.length ≤ f
  | 0, _ => by simp [rgL]
  | f + 1, now => by
    rw [rgL]
    split
    · have := rgL_len x a b f
      simp
      exact this _
    · simp
theorem routG_len (x : Gr) (g : Gt) (p : List Int) : (routG x g p).1.length ≤ 5 := by
  have := rgL_len x g.a g.b 4 p
  unfold routG
  split
  · split
    · simp
    · simp; omega
  · simp
/-- What is known of a layout on the way. -/
structure OnWay (x : Gr) (a b : Nat) (now : List Int) : Prop where
  perm : perm now = true
  len : (now.length : Int) = x.n
  ha : a < now.length
  hb : b < now.length
theorem OnWay.at_ {x : Gr} {a b i : Nat} {now : List Int} (h : OnWay x a b now) (hi : i < now.length) : ∃ y, now[i]? = some y ∧ loc now (i : Int) = y ∧ 0 ≤ y ∧ y < x.n := by
  have hp := (perm_iff.1 h.perm).2.1 now[i] (List.getElem_mem hi)
  have hl := h.len
  refine ⟨now[i], List.getElem?_eq_getElem hi, ?_, hp.1, by omega⟩
  unfold loc
  exact getD_of (by simp)
theorem spath_two {x : Gr} {a b : Int} {d : Nat} (h : gd x a b = ((d + 1 : Nat) : Int)) : ∃ k : Nat, nxt x b a d = some k ∧ spath x a b = a :: (k : Int) :: spw x b d (k : Int) ∧ gd x (k : Int) b = (d : Int) ∧ (k : Int) < x.n := by
  obtain ⟨k, hk⟩ := nxt_some h
  obtain ⟨h1, h2, h3, _⟩ := nxt_spec hk
  exact ⟨k, hk, by rw [spath_yes h, spw_step hk], h3, h1⟩
theorem gd_in {x : Gr} {a b : Int} (h : 0 ≤ gd x a b) : (0 ≤ a ∧ a < x.n) ∧ (0 ≤ b ∧ b < x.n) := by
  obtain ⟨n, i, j, hn, h1, h4, hi', hj', hi, hj, _⟩ := gd_ok h
  omega
theorem gd_same {x : Gr} {a b : Int} (ha : 0 ≤ a ∧ a < x.n) (h4 : x.n ≤ 4) (e : a = b) : gd x a b = 0 := by
  subst e
  obtain ⟨n, hn⟩ := Int.eq_ofNat_of_zero_le (by omega : 0 ≤ x.n)
  rw [gd_yes hn (by omega) (by omega) ha.1 (by omega) ha.1 (by omega)]
  exact Dist.gdist_self (by omega) rfl
/-- One swap along a shortest path. -/
theorem OnWay.step {x : Gr} {a b : Nat} {now : List Int} (h : OnWay x a b now) (hg : 1 < gd x (loc now (a : Int)) (loc now (b : Int))) :
    ∃ (s t : Int) (rest : List Int), spath x (loc now (a : Int)) (loc now (b : Int)) = s :: t :: rest ∧ OnWay x a b (swapL now s t) ∧ gd x (loc (swapL now s t) (a : Int)) (loc (swapL now s t) (b : Int)) = gd x (loc now (a : Int)) (loc now (b : Int)) - 1 ∧ (0 ≤ s ∧ s < x.n) ∧ (0 ≤ t ∧ t < x.n) ∧
      ∀ f, rgL x a b (f + 1) now = (⟨11, s, t, 0⟩ :: (rgL x a b f (swapL now s t)).1, (rgL x a b f (swapL now s t)).2) := by
  obtain ⟨y, hy, ly, y0, y1⟩ := h.at_ h.ha
  obtain ⟨z, hz, lz, z0, z1⟩ := h.at_ h.hb
  have hl := h.len
  have h4 := (perm_le h.perm).2
  obtain ⟨d, hd⟩ := Int.eq_ofNat_of_zero_le (by omega : 0 ≤ gd x (loc now (a : Int)) (loc now (b : Int)) - 1)
  have hd' : gd x y z = ((d + 1 : Nat) : Int) := by rw [← ly, ← lz]; omega
  obtain ⟨k, _, hs, hk, hkn⟩ := spath_two hd'
  have hzy : z ≠ y := fun e => by
    have := gd_same ⟨y0, y1⟩ (by omega) e.symm
    rw [ly, lz] at hg
    omega
  have hzk : z ≠ (k : Int) := fun e => by
    have := gd_same (x := x) (a := (k : Int)) ⟨by omega, hkn⟩ (by omega) e.symm
    rw [ly, lz] at hg
    omega
  have hsw : swapL now y (k : Int) = now.map (sw1 y (k : Int)) := swapL_yes h.perm
  have hkr : 0 ≤ (k : Int) ∧ (k : Int) < x.n := ⟨by omega, hkn⟩
  have ha' : loc (swapL now y (k : Int)) (a : Int) = (k : Int) := by
    unfold loc
    rw [hsw]
    refine getD_of ?_
    rw [Int.toNat_natCast, List.getElem?_map, hy]
    simp [sw1]
  have hb' : loc (swapL now y (k : Int)) (b : Int) = z := by
    unfold loc
    rw [hsw]
    refine getD_of ?_
    rw [Int.toNat_natCast, List.getElem?_map, hz]
    simp only [Option.map_some]
    rw [sw1_n (by simpa using hzy) (by simpa using hzk)]
  rw [ly, lz]
  refine ⟨y, k, _, hs, ⟨by rw [hsw]; exact perm_sw h.perm (by omega) (by omega), by rw [hsw, List.length_map]; exact hl, by rw [hsw, List.length_map]; exact h.ha, by rw [hsw, List.length_map]; exact h.hb⟩, by rw [ha', hb', hk, hd']; omega, ⟨y0, y1⟩, hkr, fun f => ?_⟩
  rw [rgL, if_pos hg, ly, lz, hs]
  rfl
theorem OnWay.of {g : Gt} {x : Gr} {p : List Int} (h : may g x p = true) (h1 : (ar g.k == 1) = false) : ∃ a b : Nat, g.a = a ∧ g.b = b ∧ a ≠ b ∧ OnWay x a b p := by
  unfold may lay at h
  simp only [Bool.and_eq_true] at h
  obtain ⟨⟨⟨⟨hv, hp⟩, hn⟩, hb⟩, hg⟩ := h
  have h9 : (g.k == 9) = true := by
    unfold bas at hb
    rw [h1, Bool.false_or] at hb
    exact hb
  have h2 : ar g.k = 2 := by
    rw [beq_iff_eq] at h9
    rw [h9]; unfold ar; omega
  obtain ⟨p1, p2, p3, p4, p5, p6⟩ : 1 ≤ x.n ∧ x.n ≤ 4 ∧ 0 < ar g.k ∧ okI g x.n 0 g.a = true ∧ okI g x.n 1 g.b = true ∧ okI g x.n 2 g.c = true := by
    unfold vg at hg
    simp only [Bool.and_eq_true, decide_eq_true_eq] at hg
    obtain ⟨⟨⟨⟨⟨q1, q2⟩, q3⟩, q4⟩, q5⟩, q6⟩ := hg
    exact ⟨q1, q2, q3, q4, q5, q6⟩
  rw [okI_lo (by rw [h2]; omega)] at p4 p5
  simp only [Bool.and_eq_true, decide_eq_true_eq, qs, List.take_zero, Bool.not_eq_true', beq_iff_eq] at p4 p5 hn
  obtain ⟨a, ha⟩ := Int.eq_ofNat_of_zero_le p4.1.1
  obtain ⟨b, hb'⟩ := Int.eq_ofNat_of_zero_le p5.1.1
  refine ⟨a, b, ha, hb', fun e => ?_, hp, hn, by omega, by omega⟩
  subst e
  have := p5.2
  rw [hb', ha] at this
  simp at this
theorem loc_at {g : Gt} {x : Gr} {p : List Int} (h : may g x p = true) : ∃ (a : Nat) (y : Int), g.a = a ∧ a < p.length ∧ p[a]? = some y ∧ loc p g.a = y ∧ p.length ≤ 4 ∧ perm p = true := by
  unfold may lay at h
  simp only [Bool.and_eq_true] at h
  obtain ⟨⟨⟨⟨hv, hp⟩, hn⟩, hb⟩, hg⟩ := h
  have hpos : 0 < ar g.k := by
    unfold vg at hg
    simp only [Bool.and_eq_true, decide_eq_true_eq] at hg
    exact hg.1.1.1.2
  have p4 : okI g x.n 0 g.a = true := by
    unfold vg at hg
    simp only [Bool.and_eq_true, decide_eq_true_eq] at hg
    exact hg.1.1.2
  rw [okI_lo (by omega)] at p4
  simp only [Bool.and_eq_true, decide_eq_true_eq, beq_iff_eq] at p4 hn
  obtain ⟨a, ha⟩ := Int.eq_ofNat_of_zero_le p4.1.1
  have hlt : a < p.length := by omega
  refine ⟨a, p[a], ha, hlt, List.getElem?_eq_getElem hlt, ?_, (perm_le hp).2, hp⟩
  unfold loc
  rw [ha]
  exact getD_of (by simp)
/-- Whatever the ways are, the layouts on them are layouts. -/
theorem rgL_way {x : Gr} {a b : Nat} : ∀ f {now : List Int}, OnWay x a b now → OnWay x a b (rgL x a b f now).2
  | 0, _, h => h
  | f + 1, now, h => by
    by_cases hg : 1 < gd x (loc now (a : Int)) (loc now (b : Int))
    · obtain ⟨s, t, rest, _, h2, _, _, _, h6⟩ := h.step hg
      rw [h6]
      exact rgL_way f h2
    · rw [rgL_stop _ hg]
      exact h
theorem routG_way {x : Gr} {g : Gt} {p : List Int} (hp : perm p = true) : perm (routG x g p).2 = true ∧ (routG x g p).2.length = p.length := by
  cases h : may g x p
  · rw [routG_no h]; exact ⟨hp, rfl⟩
  · cases h1 : (ar g.k == 1)
    · obtain ⟨a, b, ha, hb, _, hw⟩ := OnWay.of h h1
      have h2 := rgL_way 4 hw
      have h3 := h2.len
      have h4 := hw.len
      rw [routG_2 h h1, ha, hb]
      exact ⟨h2.perm, show (rgL x a b 4 p).2.length = p.length by omega⟩
    · rw [routG_1 h h1]; exact ⟨hp, rfl⟩
end Go.Proofs.Ytfbalkbcglejjaa
