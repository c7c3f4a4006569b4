/-
  Helper text (no claim of its own): oriented gates do the same, and are executable (plain Lean).
-/
import Derived.Test.YtofbmkpfliofeaaCho
import Derived.Test.YtofbmkpfliofeaaOrm
namespace Go.Proofs.Ytofbmkpfliofeaa
open Go.ChangeShapes Go.WideShapes Go.ChangeAt Go.RowKit Go.Deep
set_option linter.unusedVariables false
set_option linter.unusedSimpArgs false
theorem Same.left {n : Nat} {gs gs' hs : List Gt} (hc : hcs gs = hcs gs') (he : ∀ f j, j < 2 ^ n → apG gs f j = apG gs' f j) (h : Same n gs' hs) : Same n gs hs := fun K M vs us hs' h0 hK hM hr => by
  rw [hc] at hK hM
  refine h K M vs us hs' h0 hK hM ⟨?_, fun j hj => ?_⟩
  · rw [← hc]; exact hr.1
  · rw [← hc, hr.2 j hj, he _ j hj]
/-- A valid gate on two qubits. -/
theorem two_nat {g : Gt} {n : Nat} (hv : vg g n = true) (h : (g.k == 9) = true ∨ (g.k == 11) = true) : (1 ≤ n ∧ n ≤ 4) ∧ ∃ a b : Nat, g = ⟨g.k, a, b, (0 : Nat)⟩ ∧ a < n ∧ b < n ∧ a ≠ b := by
  obtain ⟨p1, p2, p3, p4, p5, p6, p7, p8⟩ := vg_two hv (ar_9_11 h)
  obtain ⟨k, a, b, c⟩ := g
  simp only at p3 p4 p5 p6 p7 p8
  obtain ⟨a, rfl⟩ := Int.eq_ofNat_of_zero_le p3
  obtain ⟨b, rfl⟩ := Int.eq_ofNat_of_zero_le p5
  subst p8
  exact ⟨by omega, a, b, rfl, by omega, by omega, by omega⟩
theorem vg_cxN {n a b : Nat} (hn : 1 ≤ n ∧ n ≤ 4) (ha : a < n) (hb : b < n) (hab : a ≠ b) : vg (gcx a b) n = true := vg_cx (by omega) (by omega) (by omega) (by omega) (by omega) (by omega) (by omega)
theorem vg_hN {n a : Nat} (hn : 1 ≤ n ∧ n ≤ 4) (ha : a < n) : vg (g1 4 a) n = true := by
  rcases (show n = 1 ∨ n = 2 ∨ n = 3 ∨ n = 4 by omega) with rfl | rfl | rfl | rfl
  · obtain rfl : a = 0 := by omega
    rfl
  · rcases (show a = 0 ∨ a = 1 by omega) with rfl | rfl <;> rfl
  · rcases (show a = 0 ∨ a = 1 ∨ a = 2 by omega) with rfl | rfl | rfl <;> rfl
  · rcases (show a = 0 ∨ a = 1 ∨ a = 2 ∨ a = 3 by omega) with rfl | rfl | rfl | rfl <;> rfl
theorem same_cx1 {x : Gr} {n a b : Nat} (hn : 1 ≤ n ∧ n ≤ 4) (ha : a < n) (hb : b < n) (hab : a ≠ b) : Same n [gcx a b] (cx1 x (gcx a b)) := by
  unfold cx1
  split
  · exact Same.refl fun g hg => by
      obtain rfl := List.mem_singleton.1 hg
      exact vg_cxN hn ha hb hab
  · refine Same.of (d := 2) (by omega) ?_ rfl fun f j hj => rev_eq hn.2 ha hb hab f j hj
    intro g hg
    simp only [List.mem_cons, List.not_mem_nil, or_false] at hg
    rcases hg with rfl | rfl | rfl | rfl | rfl
    · exact vg_hN hn ha
    · exact vg_hN hn hb
    · exact vg_cxN hn hb ha (fun e => hab e.symm)
    · exact vg_hN hn ha
    · exact vg_hN hn hb
theorem same_oriL {x : Gr} {g : Gt} {n : Nat} (hx : x.n = n) (h : oriOk x g = true) : Same n [g] (oriL x g) := by
  have hv : vg g n = true := by
    unfold oriOk at h
    rw [Bool.and_eq_true, hx] at h
    exact h.1
  cases h1 : (ar g.k == 1)
  · rw [oriL_2 h h1]
    have hk : (g.k == 9) = true ∨ (g.k == 11) = true := by
      unfold oriOk at h
      rw [h1, Bool.false_or, Bool.and_eq_true, Bool.and_eq_true, Bool.or_eq_true] at h
      exact h.2.2
    obtain ⟨hn, a, b, hg, ha, hb, hab⟩ := two_nat hv hk
    have e1 : g.a = (a : Int) := by rw [hg]
    have e2 : g.b = (b : Int) := by rw [hg]
    rcases hk with hk | hk
    · have e3 : g = gcx a b := by rw [hg, beq_iff_eq.1 hk]; rfl
      rw [dec_9 hk, e3]
      show Same n _ (cx1 x (gcx a b) ++ [])
      rw [List.append_nil]
      exact same_cx1 hn ha hb hab
    · rw [dec_11 hk, e1, e2]
      have e3 : g = ⟨11, a, b, (0 : Nat)⟩ := by rw [hg, beq_iff_eq.1 hk]
      rw [e3]
      refine Same.left (gs' := [gcx a b, gcx b a, gcx a b]) rfl (fun f j hj => (swap_eq hn.2 ha hb hab f j hj).symm) ?_
      have v1 : ∀ g ∈ [gcx a b], vg g n = true := fun g hg => by
        obtain rfl := List.mem_singleton.1 hg
        exact vg_cxN hn ha hb hab
      have v2 : ∀ g ∈ [gcx b a], vg g n = true := fun g hg => by
        obtain rfl := List.mem_singleton.1 hg
        exact vg_cxN hn hb ha (fun e => hab e.symm)
      have s1 := same_cx1 (x := x) hn ha hb hab
      have s2 := same_cx1 (x := x) hn hb ha (fun e => hab e.symm)
      have s3 := Same.app v2 v1 s2 s1
      have s4 := Same.app v1 (fun g hg => by
        rcases List.mem_append.1 hg with hg | hg
        · exact v2 g hg
        · exact v1 g hg) s1 s3
      show Same n [gcx a b, gcx b a, gcx a b] (cx1 x (gcx a b) ++ (cx1 x (gcx b a) ++ (cx1 x (gcx a b) ++ [])))
      rw [List.append_nil]
      exact s4
  · rw [oriL_1 h h1]
    exact Same.refl fun g' hg => by
      obtain rfl := List.mem_singleton.1 hg
      exact hv
theorem ori_vg {x : Gr} {g : Gt} (h : oriOk x g = true) : vg g x.n = true := by
  unfold oriOk at h
  rw [Bool.and_eq_true] at h
  exact h.1
theorem same_ori {x : Gr} {n : Nat} (hx : x.n = n) : ∀ {gs : List Gt}, (∀ g ∈ gs, oriOk x g = true) → Same n gs (gs.flatMap (oriL x))
  | [], _ => Same.nil n
  | g :: gs, h => by
    have h1 := h g (List.mem_cons_self ..)
    have ih := same_ori hx (gs := gs) (fun g' h' => h g' (List.mem_cons_of_mem _ h'))
    exact Same.app (gs := [g]) (fun g' hg => by
      obtain rfl := List.mem_singleton.1 hg
      rw [← hx]; exact ori_vg h1) (fun g' hg => by rw [← hx]; exact ori_vg (h g' (List.mem_cons_of_mem _ hg))) (same_oriL hx h1) ih
theorem exe_cx1 {x : Gr} {n a b : Nat} (hx : x.n = n) (hn : 1 ≤ n ∧ n ≤ 4) (ha : a < n) (hb : b < n) (hab : a ≠ b) (hc : coup x (gcx a b) = true) : ∀ g ∈ cx1 x (gcx a b), exe1 x g = true := by
  intro g hg
  unfold cx1 at hg
  unfold exe1
  rw [hx]
  split at hg
  · rename_i he
    obtain rfl := List.mem_singleton.1 hg
    have he' : hasE x.es (a : Int) (b : Int) = true := he
    show (vg (gcx a b) n && (_ || (_ && hasE x.es (a : Int) (b : Int)))) = true
    rw [vg_cxN hn ha hb hab, he']
    rfl
  · rename_i he
    have hb' : hasE x.es (b : Int) (a : Int) = true := by
      unfold coup at hc
      rw [Bool.or_eq_true] at hc
      rcases hc with hc | hc
      · exact absurd hc he
      · exact hc
    simp only [List.mem_cons, List.not_mem_nil, or_false] at hg
    rcases hg with rfl | rfl | rfl | rfl | rfl
    · show (vg (g1 4 a) n && _) = true
      rw [vg_hN hn ha]; rfl
    · show (vg (g1 4 b) n && _) = true
      rw [vg_hN hn hb]; rfl
    · show (vg (gcx b a) n && (_ || (_ && hasE x.es (b : Int) (a : Int)))) = true
      rw [vg_cxN hn hb ha (fun e => hab e.symm), hb']; rfl
    · show (vg (g1 4 a) n && _) = true
      rw [vg_hN hn ha]; rfl
    · show (vg (g1 4 b) n && _) = true
      rw [vg_hN hn hb]; rfl
theorem coup_sym (x : Gr) (a b : Int) : coup x (gcx a b) = coup x (gcx b a) := by
  show (hasE x.es a b || hasE x.es b a) = (hasE x.es b a || hasE x.es a b)
  rw [Bool.or_comm]
theorem exe_oriL {x : Gr} {g : Gt} (h : oriOk x g = true) : ∀ g' ∈ oriL x g, exe1 x g' = true := by
  have hv := ori_vg h
  intro g' hg'
  cases h1 : (ar g.k == 1)
  · rw [oriL_2 h h1] at hg'
    have hk : (g.k == 9) = true ∨ (g.k == 11) = true := by
      unfold oriOk at h
      rw [h1, Bool.false_or, Bool.and_eq_true, Bool.and_eq_true, Bool.or_eq_true] at h
      exact h.2.2
    have hc : coup x g = true := by
      unfold oriOk at h
      rw [h1, Bool.false_or, Bool.and_eq_true, Bool.and_eq_true] at h
      exact h.2.1
    obtain ⟨n, hx⟩ : ∃ n : Nat, x.n = n := ⟨x.n.toNat, by have := (vg_parts hv).1; omega⟩
    rw [hx] at hv
    obtain ⟨hn, a, b, hg, ha, hb, hab⟩ := two_nat hv hk
    have e1 : g.a = (a : Int) := by rw [hg]
    have e2 : g.b = (b : Int) := by rw [hg]
    have hc' : coup x (gcx a b) = true := by
      unfold coup at hc
      rw [e1, e2] at hc
      exact hc
    rcases hk with hk | hk
    · have e3 : g = gcx a b := by rw [hg, beq_iff_eq.1 hk]; rfl
      rw [dec_9 hk, e3] at hg'
      have hg'' : g' ∈ cx1 x (gcx a b) ++ [] := hg'
      rw [List.append_nil] at hg''
      exact exe_cx1 hx hn ha hb hab hc' g' hg''
    · rw [dec_11 hk, e1, e2] at hg'
      have hg'' : g' ∈ cx1 x (gcx a b) ++ (cx1 x (gcx b a) ++ (cx1 x (gcx a b) ++ [])) := hg'
      rw [List.append_nil, List.mem_append, List.mem_append] at hg''
      rcases hg'' with q | q | q
      · exact exe_cx1 hx hn ha hb hab hc' g' q
      · exact exe_cx1 hx hn hb ha (fun e => hab e.symm) (by rw [coup_sym]; exact hc') g' q
      · exact exe_cx1 hx hn ha hb hab hc' g' q
  · rw [oriL_1 h h1] at hg'
    obtain rfl := List.mem_singleton.1 hg'
    unfold exe1
    rw [hv, h1]
    rfl
theorem exe_oriAll {x : Gr} {gs : List Gt} (h : oriAllOk x gs = true) : exeN x (oriAll x gs) = true := by
  rw [oriAll_yes h]
  unfold exeN
  rw [List.all_eq_true]
  intro g' hg'
  obtain ⟨g, hg, hg'⟩ := List.mem_flatMap.1 hg'
  exact exe_oriL (List.all_eq_true.1 h g hg) g' hg'
end Go.Proofs.Ytofbmkpfliofeaa
