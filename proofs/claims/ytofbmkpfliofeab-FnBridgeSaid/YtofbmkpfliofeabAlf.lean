/-
  Helper text (no claim of its own): a run of a gate out of sums. Printed by gen_alf.py.
-/
import Derived.Test.YtofbmkpfliofeabAgs
import Derived.Test.YtofbmkpfliofeabLif
namespace Go.Proofs.Ytofbmkpfliofeab
open Go.ChangeShapes Go.WideShapes Go.ChangeAt Go.RowKit Go.Deep
set_option linter.unusedVariables false
set_option linter.unusedSimpArgs false
/-- A state of n qubits at the K-th power of the root of 2, its coefficients at most M. -/
structure St (n K : Nat) (M : Int) (vs : List Dw) : Prop where
  len : vs.length = 2 ^ n
  ok : ∀ x ∈ vs, dok x = true ∧ x.e.toNat ≤ K ∧ near M (lift K x)
def Lf (K : Nat) (vs : List Dw) (j : Nat) : Zw := lift K (vs.getD j d0)
theorem d0_ok : dok d0 = true := by rfl
theorem up_zero (k : Nat) : up k z0 = z0 := by
  induction k with
  | zero => rfl
  | succ k ih => exact ih
theorem lift_d0 (K : Nat) : lift K d0 = z0 := up_zero _
theorem St.get {n K : Nat} {M : Int} {vs : List Dw} (h : St n K M vs) {j : Nat} (hj : j < 2 ^ n) : ∃ x, vs[j]? = some x ∧ dok x = true ∧ x.e.toNat ≤ K ∧ near M (lift K x) ∧ Lf K vs j = lift K x := by
  have hl : j < vs.length := by rw [h.len]; exact hj
  refine ⟨vs[j], List.getElem?_eq_getElem hl, ?_⟩
  obtain ⟨h1, h2, h3⟩ := h.ok vs[j] (List.getElem_mem hl)
  exact ⟨h1, h2, h3, by unfold Lf; rw [List.getD_eq_getElem?_getD, List.getElem?_eq_getElem hl]; rfl⟩
theorem St.mono {n K J : Nat} {M N : Int} {vs : List Dw} (h : St n K M vs) (hn : ∀ u : Zw, near M u → near N (up J u)) : St n (K + J) N vs :=
  ⟨h.len, fun x hx => by
    obtain ⟨h1, h2, h3⟩ := h.ok x hx
    exact ⟨h1, by omega, by rw [lift_more h2]; exact hn _ h3⟩⟩
/-- States are equal where they are at a common power. -/
theorem St.eq {n K : Nat} {M N : Int} {vs us : List Dw} (h : St n K M vs) (k : St n K N us) (he : ∀ j, j < 2 ^ n → Lf K vs j = Lf K us j) : vs = us := by
  apply List.ext_getElem?
  intro j
  by_cases hj : j < 2 ^ n
  · obtain ⟨x, x1, x2, x3, x4, x5⟩ := h.get hj
    obtain ⟨y, y1, y2, y3, y4, y5⟩ := k.get hj
    have := he j hj
    rw [x5, y5] at this
    rw [x1, y1, lift_inj x2 y2 x3 y3 this]
  · rw [List.getElem?_eq_none (by rw [h.len]; omega), List.getElem?_eq_none (by rw [k.len]; omega)]
/-- The amplitude in canonical form. -/
def cano (K : Nat) (u : Zw) : Dw := (newD u K).1
theorem cano_is {K : Nat} {u : Zw} (hu : near 1073741824 u) (hK : K ≤ 60) : dok (cano K u) = true ∧ (cano K u).e.toNat ≤ K ∧ lift K (cano K u) = u := by
  obtain ⟨z, h1, h2, h3, h4⟩ := newD_lift (zok_near.2 hu) hK
  unfold cano
  rw [h1]
  refine ⟨h2, h3, ?_⟩
  rw [h4 K (Nat.le_refl _), Nat.sub_self]
  rfl
theorem cano_eq {K : Nat} {u : Zw} {z : Dw} (hK : K ≤ 60) (hz : dok z = true) (hzK : z.e.toNat ≤ K) (h : lift K z = u) (hu : near 1073741824 u) : z = cano K u := by
  obtain ⟨h1, h2, h3⟩ := cano_is hu hK
  exact lift_inj hz h1 hzK h2 (h.trans h3.symm)
theorem near_z0 {M : Int} (h : 0 ≤ M) : near M z0 := by unfold near z0; simp only; omega
theorem cano_z0 {K : Nat} (hK : K ≤ 60) : cano K z0 = d0 := (cano_eq hK d0_ok (Nat.zero_le _) (lift_d0 K) (near_z0 (by decide))).symm
theorem eqD_d0 {x : Dw} (h : eqD x d0 = true) : x = d0 := by
  unfold eqD at h
  simp only [Bool.and_eq_true, beq_iff_eq] at h
  exact Dw.eq (Zw.eq h.1.1.1.1 h.1.1.1.2 h.1.1.2 h.1.2) h.2
theorem zadd_z0 (u : Zw) : zadd u z0 = u := by apply Zw.eq <;> simp only [zadd, z0] <;> omega
theorem z0_zadd (u : Zw) : zadd z0 u = u := by apply Zw.eq <;> simp only [zadd, z0] <;> omega
theorem rot_z0 {j : Nat} (hj : j < 8) : rot j z0 = z0 := by
  rcases lt8 hj with rfl | rfl | rfl | rfl | rfl | rfl | rfl | rfl <;> rfl
/-- A product that a gate needs: the amplitude x times y, seen at a power. -/
def MulOk (K' : Nat) (x y : Dw) (u : Zw) : Prop := dok y = true ∧ zok (zmul x.n y.n) = true ∧ x.e + y.e ≤ 60 ∧ dok (mulD x y).1 = true ∧ (mulD x y).1.e.toNat ≤ K' ∧ lift K' (mulD x y).1 = u
theorem mulOk_ph {K j : Nat} {x : Dw} (hj : j < 8) (hx : dok x = true) (hK : x.e.toNat ≤ K) : MulOk K x (ph j) (rot j (lift K x)) := by
  obtain ⟨h1, h2⟩ := mulD_ph hj hx
  obtain ⟨x1, x2, x3, x4⟩ := dok_iff.1 hx
  refine ⟨ph_ok j, zok_near.2 (rot_near hj (zok_near.1 x1)), by show x.e + 0 ≤ 60; omega, ?_, ?_, ?_⟩ <;> rw [h1]
  · exact h2
  · exact hK
  · exact lift_ph hj
theorem mulOk_h {K j : Nat} {x : Dw} (hj : j = 0 ∨ j = 4) (hx : dok x = true) (hK : x.e.toNat ≤ K) (h59 : K ≤ 59) : MulOk (K + 1) x ⟨zw j, 1⟩ (rot j (lift K x)) := by
  obtain ⟨x1, x2, x3, x4⟩ := dok_iff.1 hx
  obtain ⟨z, h1, h2, h3, h4⟩ := mulD_h hj hx (by omega)
  refine ⟨by rcases hj with rfl | rfl <;> rfl, zok_near.2 (rot_near (by omega) (zok_near.1 x1)), by show x.e + 1 ≤ 60; omega, ?_, ?_, ?_⟩ <;> rw [h1]
  · exact h2
  · show z.e.toNat ≤ K + 1; omega
  · exact h4 K hK
/-- A run out of what is added where. -/
theorem run_of {n K K' : Nat} {M : Int} {g : Gt} {vs : List Dw} (hs : St n K M vs) (hK : K' ≤ 60) (c : Nat → Nat → Nat → Zw)
    (c0 : ∀ j, j < 2 ^ n → c 0 0 j = z0) (cz : ∀ i, i < 2 ^ n → Lf K vs i = z0 → ∀ j, j < 2 ^ n → c (i + 1) 0 j = c i 0 j)
    (cs : ∀ i k s x, i < 2 ^ n → (sent g i)[k]? = some s → vs[i]? = some x → s.1 < 2 ^ n ∧ ∃ u, MulOk K' x s.2 u ∧ near 1073741824 u ∧ ∀ j, j < 2 ^ n → c i (k + 1) j = if j = s.1 then zadd (c i k j) u else c i k j)
    (cn : ∀ i, i < 2 ^ n → ∀ j, j < 2 ^ n → c (i + 1) 0 j = c i (sent g i).length j) (cb : ∀ i k j, near 1073741824 (c i k j)) :
    Run g vs (fun i k => (List.range (2 ^ n)).map fun j => cano K' (c i k j)) := by
  have hi : ∀ {i : Nat} {x : Dw}, vs[i]? = some x → i < 2 ^ n := fun hx => by rw [← hs.len]; exact (List.getElem?_eq_some_iff.1 hx).1
  have hmap : ∀ {f h : Nat → Dw}, (∀ j, j < 2 ^ n → f j = h j) → (List.range (2 ^ n)).map f = (List.range (2 ^ n)).map h := fun he => List.map_congr_left fun j hj => he j (List.mem_range.1 hj)
  constructor
  · rw [hs.len]
    apply List.ext_getElem?
    intro j
    by_cases hj : j < 2 ^ n
    · rw [List.getElem?_map, List.getElem?_range hj, List.getElem?_replicate, if_pos hj]
      show some (cano K' (c 0 0 j)) = _
      rw [c0 j hj, cano_z0 hK]
    · rw [List.getElem?_eq_none (by rw [List.length_map, List.length_range]; omega), List.getElem?_eq_none (by rw [List.length_replicate]; omega)]
  · intro i x hx hz
    refine hmap fun j hj => ?_
    obtain ⟨y, y1, y2, y3, y4, y5⟩ := hs.get (hi hx)
    rw [hx] at y1
    obtain rfl := Option.some.inj y1
    rw [eqD_d0 hz, lift_d0] at y5
    rw [cz i (hi hx) y5 j hj]
  · intro i x k s hx hz hk
    obtain ⟨h1, u, hm, hu, hc⟩ := cs i k s x (hi hx) hk hx
    obtain ⟨m1, m2, m3, m4, m5, m6⟩ := hm
    obtain ⟨y, y1, y2, y3, y4, y5⟩ := hs.get (hi hx)
    rw [hx] at y1
    obtain rfl := Option.some.inj y1
    obtain ⟨p1, p2, p3⟩ := cano_is (cb i k s.1) hK
    have hnew := hc s.1 h1
    rw [if_pos rfl] at hnew
    have hsum : near 1073741824 (zadd (lift K' (cano K' (c i k s.1))) (lift K' (mulD x s.2).1)) := by rw [p3, m6, ← hnew]; exact cb i (k + 1) s.1
    have hadd := addD_lift p1 m4 p2 m5 hK (by rw [p3]; exact cb i k s.1) (by rw [m6]; exact hu) hsum
    obtain ⟨z, z1, z2, z3, z4⟩ := hadd
    refine ⟨(mulD x s.2).1, cano K' (c i k s.1), (addD (cano K' (c i k s.1)) (mulD x s.2).1).1, fun w => MulDOmega_yes x s.2 w y2 m1 m2 m3, by rw [hs.len]; exact h1, ?_, fun w => AddDOmega_yes _ _ w p1 m4 p2 m5 hK (by rw [p3]; exact cb i k s.1) (by rw [m6]; exact hu) hsum, ?_⟩
    · rw [List.getElem?_map, List.getElem?_range h1]; rfl
    · apply List.ext_getElem?
      intro j
      rw [List.getElem?_set]
      by_cases hj : j < 2 ^ n
      · rw [List.getElem?_map, List.getElem?_range hj]
        show some (cano K' (c i (k + 1) j)) = _
        by_cases hjs : s.1 = j
        · subst hjs
          rw [if_pos rfl, if_pos (by rw [List.length_map, List.length_range]; exact hj), z1]
          congr 1
          refine (cano_eq hK z2 z3 ?_ (cb i (k + 1) s.1)).symm
          rw [z4, p3, m6, hnew]
        · rw [if_neg hjs, List.getElem?_map, List.getElem?_range hj, hc j hj, if_neg (fun e => hjs e.symm)]
          rfl
      · rw [if_neg (by omega), List.getElem?_eq_none (by rw [List.length_map, List.length_range]; omega), List.getElem?_eq_none (by rw [List.length_map, List.length_range]; omega)]
  · intro i x hx hz
    exact hmap fun j hj => by rw [cn i (hi hx) j hj]
end Go.Proofs.Ytofbmkpfliofeab
