/-
  Helper text (no claim of its own): what a gate other than H makes of a state. Printed by gen_alf.py.
-/
import Derived.Test.YtofbmkpfliofeabAlf
namespace Go.Proofs.Ytofbmkpfliofeab
open Go.ChangeShapes Go.WideShapes Go.ChangeAt Go.RowKit Go.Deep
set_option linter.unusedVariables false
set_option linter.unusedSimpArgs false
/-- Where a gate other than H sends an amplitude, and times which power. -/
def sgN : Nat → Nat → Nat → Nat → Nat → Nat
  | 1, a, b, c, i => qfl i a
  | 2, a, b, c, i => qfl i a
  | 3, a, b, c, i => i
  | 5, a, b, c, i => i
  | 6, a, b, c, i => i
  | 7, a, b, c, i => i
  | 8, a, b, c, i => i
  | 9, a, b, c, i => if bt i a then qfl i b else i
  | 10, a, b, c, i => i
  | 11, a, b, c, i => if bt i a != bt i b then qfl (qfl i a) b else i
  | 12, a, b, c, i => if bt i a && bt i b then qfl i c else i
  | _, _, _, _, i => i
def pgN : Nat → Nat → Nat → Nat → Nat → Nat
  | 1, a, b, c, i => 0
  | 2, a, b, c, i => (if bt i a then 6 else 2)
  | 3, a, b, c, i => (if bt i a then 4 else 0)
  | 5, a, b, c, i => (if bt i a then 2 else 0)
  | 6, a, b, c, i => (if bt i a then 6 else 0)
  | 7, a, b, c, i => (if bt i a then 1 else 0)
  | 8, a, b, c, i => (if bt i a then 7 else 0)
  | 9, a, b, c, i => 0
  | 10, a, b, c, i => (if bt i a && bt i b then 4 else 0)
  | 11, a, b, c, i => 0
  | 12, a, b, c, i => 0
  | _, _, _, _, _ => 0
def invN : Nat → Nat
  | 5 => 6
  | 6 => 5
  | 7 => 8
  | 8 => 7
  | k => k
def kindsN : List Nat := [1, 2, 3, 5, 6, 7, 8, 9, 10, 11, 12]
def fineN (k a b c : Nat) : Bool := (k < 9 || a != b) && (k != 12 || (a != c && b != c))
theorem chk_sg : (List.range 5).all (fun n => (List.range n).all fun a => (List.range n).all fun b => (List.range n).all fun c => kindsN.all fun k => !fineN k a b c || (List.range (2 ^ n)).all fun i => decide (sgN k a b c i < 2 ^ n) && (sgN k a b c (sgN k a b c i) == i) && decide (pgN k a b c i < 8) && (sgN (invN k) a b c i == sgN k a b c i) && ((pgN (invN k) a b c (sgN k a b c i) + pgN k a b c i) % 8 == 0)) = true := by kernel_rfl
theorem chk_h : (List.range 5).all (fun n => (List.range n).all fun a => (List.range (2 ^ n)).all fun i => decide (qlo i a < 2 ^ n) && decide (qhi i a < 2 ^ n) && (qlo (qlo i a) a == qlo i a) && (qhi (qlo i a) a == qhi i a) && (qlo (qhi i a) a == qlo i a) && (qhi (qhi i a) a == qhi i a) && (bt (qlo i a) a == false) && (bt (qhi i a) a == true) && (i == if bt i a then qhi i a else qlo i a)) = true := by kernel_rfl
theorem of_all {f : Nat → Bool} {m i : Nat} (h : (List.range m).all f = true) (hi : i < m) : f i = true := List.all_eq_true.1 h i (List.mem_range.2 hi)
theorem sg_facts {n k a b c : Nat} (hn : n ≤ 4) (hk : k ∈ kindsN) (ha : a < n) (hb : b < n) (hc : c < n) (hf : fineN k a b c = true) {i : Nat} (hi : i < 2 ^ n) :
    sgN k a b c i < 2 ^ n ∧ sgN k a b c (sgN k a b c i) = i ∧ pgN k a b c i < 8 ∧ sgN (invN k) a b c i = sgN k a b c i ∧ (pgN (invN k) a b c (sgN k a b c i) + pgN k a b c i) % 8 = 0 := by
  have h1 := List.all_eq_true.1 (of_all (of_all (of_all (of_all chk_sg (show n < 5 by omega)) ha) hb) hc) k hk
  rw [hf, Bool.not_true, Bool.false_or] at h1
  have h2 := of_all h1 hi
  simp only [Bool.and_eq_true, decide_eq_true_eq, beq_iff_eq] at h2
  exact ⟨h2.1.1.1.1, h2.1.1.1.2, h2.1.1.2, h2.1.2, h2.2⟩
theorem h_facts {n a : Nat} (hn : n ≤ 4) (ha : a < n) {i : Nat} (hi : i < 2 ^ n) :
    qlo i a < 2 ^ n ∧ qhi i a < 2 ^ n ∧ qlo (qlo i a) a = qlo i a ∧ qhi (qlo i a) a = qhi i a ∧ qlo (qhi i a) a = qlo i a ∧ qhi (qhi i a) a = qhi i a ∧ bt (qlo i a) a = false ∧ bt (qhi i a) a = true ∧ (i = if bt i a then qhi i a else qlo i a) := by
  have h1 := of_all (of_all (of_all chk_h (show n < 5 by omega)) ha) hi
  simp only [Bool.and_eq_true, decide_eq_true_eq, beq_iff_eq] at h1
  exact ⟨h1.1.1.1.1.1.1.1.1, h1.1.1.1.1.1.1.1.2, h1.1.1.1.1.1.1.2, h1.1.1.1.1.1.2, h1.1.1.1.1.2, h1.1.1.1.2, h1.1.1.2, h1.1.2, h1.2⟩
theorem sent_perm {g : Gt} {k a b c : Nat} (hk : k ∈ kindsN) (hg : g = ⟨k, a, b, c⟩) (i : Nat) : sent g i = [(sgN k a b c i, ph (pgN k a b c i))] := by
  subst hg
  simp only [kindsN, List.mem_cons, List.not_mem_nil, or_false] at hk
  rcases hk with rfl | rfl | rfl | rfl | rfl | rfl | rfl | rfl | rfl | rfl | rfl <;> rfl
theorem sent_h {g : Gt} {a b c : Nat} (hg : g = ⟨4, a, b, c⟩) (i : Nat) : sent g i = [(qlo i a, ⟨zw 0, 1⟩), (qhi i a, ⟨zw (if bt i a then 4 else 0), 1⟩)] := by
  subst hg
  rfl
/-- A valid gate in naturals. -/
theorem vg_nat {g : Gt} {n : Nat} (h : vg g n = true) : ∃ k a b c : Nat, g = ⟨k, a, b, c⟩ ∧ (1 ≤ n ∧ n ≤ 4) ∧ (k = 4 ∨ k ∈ kindsN) ∧ a < n ∧ b < n ∧ c < n ∧ fineN k a b c = true := by
  obtain ⟨⟨n1, n4⟩, ⟨k1, k12⟩, ⟨a0, a3⟩, ⟨b0, b3⟩, ⟨c0, c3⟩, h9, h12⟩ := vg_all h
  obtain ⟨gk, ga, gb, gc⟩ := g
  simp only at k1 k12 a0 a3 b0 b3 c0 c3 h9 h12
  obtain ⟨k, rfl⟩ : ∃ k : Nat, gk = k := ⟨gk.toNat, by omega⟩
  obtain ⟨a, rfl⟩ : ∃ k : Nat, ga = k := ⟨ga.toNat, by omega⟩
  obtain ⟨b, rfl⟩ : ∃ k : Nat, gb = k := ⟨gb.toNat, by omega⟩
  obtain ⟨c, rfl⟩ : ∃ k : Nat, gc = k := ⟨gc.toNat, by omega⟩
  refine ⟨k, a, b, c, rfl, by omega, ?_, by omega, by omega, by omega, ?_⟩
  · simp only [kindsN, List.mem_cons, List.not_mem_nil, or_false]
    omega
  · unfold fineN
    simp only [Bool.and_eq_true, Bool.or_eq_true, decide_eq_true_eq, bne_iff_ne]
    omega
/-- What a gate other than H makes of a state. -/
theorem acts_perm {n K : Nat} {M : Int} {vs : List Dw} {k a b c : Nat} (hn : 1 ≤ n ∧ n ≤ 4) (hk : k ∈ kindsN) (ha : a < n) (hb : b < n) (hc : c < n) (hf : fineN k a b c = true) (hg : vg ⟨k, a, b, c⟩ n = true) (hs : St n K M vs) (hK : K ≤ 60) (hM : 0 ≤ M ∧ M ≤ 1073741824) :
    ∃ us, Acts (2 ^ n) ⟨k, a, b, c⟩ vs us ∧ St n K M us ∧ ∀ j, j < 2 ^ n → Lf K us j = rot (pgN k a b c (sgN k a b c j)) (Lf K vs (sgN k a b c j)) := by
  have hfa := fun {i : Nat} (hi : i < 2 ^ n) => sg_facts hn.2 hk ha hb hc hf hi
  have hnL : ∀ {i : Nat}, i < 2 ^ n → near M (Lf K vs i) := fun hi => by
    obtain ⟨x, x1, x2, x3, x4, x5⟩ := hs.get hi
    rw [x5]; exact x4
  let cc : Nat → Nat → Nat → Zw := fun i t j => if j < 2 ^ n ∧ sgN k a b c j < i + t then rot (pgN k a b c (sgN k a b c j)) (Lf K vs (sgN k a b c j)) else z0
  have hcb : ∀ i t j, near M (cc i t j) := fun i t j => by
    show near M (if j < 2 ^ n ∧ sgN k a b c j < i + t then rot (pgN k a b c (sgN k a b c j)) (Lf K vs (sgN k a b c j)) else z0)
    split
    · rename_i h
      have h2 := hfa (hfa h.1).1
      exact rot_near h2.2.2.1 (hnL (hfa h.1).1)
    · exact near_z0 hM.1
  have hrun := run_of (g := ⟨k, a, b, c⟩) hs hK cc (fun j hj => if_neg (by omega)) (fun i hi hz j hj => by
      show (if j < 2 ^ n ∧ sgN k a b c j < i + 1 + 0 then rot (pgN k a b c (sgN k a b c j)) (Lf K vs (sgN k a b c j)) else z0) = if j < 2 ^ n ∧ sgN k a b c j < i + 0 then rot (pgN k a b c (sgN k a b c j)) (Lf K vs (sgN k a b c j)) else z0
      by_cases h1 : sgN k a b c j < i
      · rw [if_pos ⟨hj, by omega⟩, if_pos ⟨hj, by omega⟩]
      · rw [if_neg (show ¬ (j < 2 ^ n ∧ sgN k a b c j < i + 0) by omega)]
        split
        · have e : sgN k a b c j = i := by omega
          rw [e, hz]
          exact rot_z0 (hfa hi).2.2.1
        · rfl) (fun i t s x hi hst hx => by
      rw [sent_perm hk rfl] at hst
      have ht : t = 0 := by have := (List.getElem?_eq_some_iff.1 hst).1; simpa using this
      subst ht
      obtain rfl := Option.some.inj hst
      obtain ⟨y, y1, y2, y3, y4, y5⟩ := hs.get hi
      rw [hx] at y1
      obtain rfl := Option.some.inj y1
      have hfi := hfa hi
      refine ⟨hfi.1, _, mulOk_ph hfi.2.2.1 y2 y3, near_le (rot_near hfi.2.2.1 y4) hM.2, fun j hj => ?_⟩
      show (if j < 2 ^ n ∧ sgN k a b c j < i + (0 + 1) then rot (pgN k a b c (sgN k a b c j)) (Lf K vs (sgN k a b c j)) else z0) = if j = sgN k a b c i then zadd (if j < 2 ^ n ∧ sgN k a b c j < i + 0 then rot (pgN k a b c (sgN k a b c j)) (Lf K vs (sgN k a b c j)) else z0) (rot (pgN k a b c i) (lift K x)) else if j < 2 ^ n ∧ sgN k a b c j < i + 0 then rot (pgN k a b c (sgN k a b c j)) (Lf K vs (sgN k a b c j)) else z0
      by_cases hji : j = sgN k a b c i
      · have e : sgN k a b c j = i := by rw [hji]; exact hfi.2.1
        rw [if_pos hji, if_pos ⟨hj, by omega⟩, if_neg (by omega), e, z0_zadd, y5]
      · have e : sgN k a b c j ≠ i := fun e => hji (by rw [← e]; exact (hfa hj).2.1.symm)
        rw [if_neg hji]
        by_cases h1 : sgN k a b c j < i
        · rw [if_pos ⟨hj, by omega⟩, if_pos ⟨hj, by omega⟩]
        · rw [if_neg (by omega), if_neg (by omega)]) (fun i hi j hj => by
      rw [sent_perm hk rfl]
      show (if j < 2 ^ n ∧ sgN k a b c j < i + 1 + 0 then _ else _) = if j < 2 ^ n ∧ sgN k a b c j < i + 1 then _ else _
      rfl) (fun i t j => near_le (hcb i t j) hM.2)
  have hcn : ∀ j, j < 2 ^ n → cc (2 ^ n) 0 j = rot (pgN k a b c (sgN k a b c j)) (Lf K vs (sgN k a b c j)) := fun j hj => if_pos ⟨hj, by have := (hfa hj).1; omega⟩
  refine ⟨(List.range (2 ^ n)).map fun j => cano K (cc (2 ^ n) 0 j), fun A cap w hr => ?_, ⟨by rw [List.length_map, List.length_range], fun x hx => ?_⟩, fun j hj => ?_⟩
  · have h := ApplyGate_run hn.1 hn.2 ⟨k, a, b, c⟩ hg A cap vs w (by rw [hs.len]; exact hr) hs.len (fun x hx => (hs.ok x hx).1) _ hrun (fun i t => by rw [List.length_map, List.length_range, hs.len])
    rw [hs.len] at h
    exact h
  · obtain ⟨j, -, rfl⟩ := List.mem_map.1 hx
    obtain ⟨h1, h2, h3⟩ := cano_is (near_le (hcb (2 ^ n) 0 j) hM.2) hK
    exact ⟨h1, h2, by rw [h3]; exact hcb _ _ _⟩
  · unfold Lf
    rw [List.getD_eq_getElem?_getD, List.getElem?_map, List.getElem?_range hj]
    show lift K (cano K (cc (2 ^ n) 0 j)) = _
    rw [(cano_is (near_le (hcb (2 ^ n) 0 j) hM.2) hK).2.2]
    exact hcn j hj
end Go.Proofs.Ytofbmkpfliofeab
