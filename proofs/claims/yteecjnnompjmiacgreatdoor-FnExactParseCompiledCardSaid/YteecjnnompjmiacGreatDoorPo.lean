/-
  Helper text (no claim of its own): what the words of a text say of an operation, in plain Lean.
-/
import Derived.Test.YteecjnnompjmiacGreatDoorIpg
namespace Go.Proofs.YteecjnnompjmiacGreatDoor
open Go.ChangeShapes Go.WideShapes Go.ChangeAt Go.RowKit Go.Deep
set_option linter.unusedVariables false
set_option linter.unusedSimpArgs false
def G0 : Gt := ⟨0, 0, 0, 0⟩
def O0 : Oq := ⟨0, G0, 0, 0, 0⟩
/-- What an operation read out of a text is: it has that text and is the only one, or there is none. -/
def OpRes (s : ByteArray) (e : Ending) : Prop := ∃ (o : Oq) (ok : Bool), e = .returned (.tuple #[o.val, .bool ok]) ∧
  ((ok = true ∧ vOp o 4 3 = true ∧ otx o = s ∧ ∀ o' : Oq, vOp o' 4 3 = true → s = otx o' → o = o') ∨ (ok = false ∧ o = O0 ∧ ∀ o' : Oq, vOp o' 4 3 = true → s ≠ otx o'))
theorem opRes_no {s : ByteArray} {e : Ending} (he : e = .returned (.tuple #[O0.val, .bool false])) (h : ∀ o' : Oq, vOp o' 4 3 = true → s ≠ otx o') : OpRes s e := ⟨O0, false, he, .inr ⟨rfl, rfl, h⟩⟩
theorem opRes_yes {s : ByteArray} {e : Ending} (o : Oq) (he : e = .returned (.tuple #[o.val, .bool true])) (hs : s ≠ ⟨#[]⟩) (ht : otx o = s) (h : ∀ o' : Oq, vOp o' 4 3 = true → s = otx o' → o = o') : OpRes s e := by
  refine ⟨o, true, he, .inl ⟨rfl, ?_, ht, h⟩⟩
  cases hv : vOp o 4 3
  · rw [otx_no hv] at ht; exact absurd ht.symm hs
  · rfl
theorem vop_full {o : Oq} (h : vOp o 4 3 = true) : (o.k = 1 ∧ o.q = 0 ∧ o.bit = 0 ∧ vg o.g 4 = true ∧ 0 ≤ o.cond ∧ o.cond ≤ 3) ∨ (o.k = 2 ∧ o.g = G0 ∧ o.cond = 0 ∧ 0 ≤ o.q ∧ o.q ≤ 3 ∧ 0 ≤ o.bit ∧ o.bit ≤ 2) ∨ (o.k = 3 ∧ o.g = G0 ∧ o.bit = 0 ∧ o.cond = 0 ∧ 0 ≤ o.q ∧ o.q ≤ 3) := by
  have hf := vOp_facts h
  have hn : inB 4 1 4 = true := by decide
  have hb : inB 3 0 3 = true := by decide
  obtain ⟨k, ⟨gk, ga, gb, gc⟩, q, bit, cond⟩ := o
  rcases hf with ⟨hk, hvg, hc0, hc3⟩ | ⟨hk, ⟨hq0, hq3⟩, hb0, hb3⟩ | ⟨hk, hq0, hq3⟩
  · rw [vOp_1 hn hb hk] at h
    simp only [Bool.and_eq_true] at h
    have h1 := h.1.1
    simp [eqO, eqG, Oq.g1] at h1
    dsimp only at *
    exact .inl ⟨hk, by simp_all, by simp_all, hvg, hc0, hc3⟩
  · rw [vOp_2 hn hb hk] at h
    simp only [Bool.and_eq_true] at h
    have h1 := h.1.1
    simp [eqO, eqG, Oq.g2] at h1
    dsimp only at *
    refine .inr (.inl ⟨hk, ?_, by simp_all, by omega, by omega, by omega, by omega⟩)
    unfold G0
    simp_all
  · rw [vOp_3 hn hb hk] at h
    simp only [Bool.and_eq_true] at h
    have h1 := h.1
    simp [eqO, eqG, Oq.g3] at h1
    dsimp only at *
    refine .inr (.inr ⟨hk, ?_, by simp_all, by simp_all, by omega, by omega⟩)
    unfold G0
    simp_all
theorem otx_size0 {o : Oq} (h : vOp o 4 3 = true) : 0 < (otx o).size := by
  rcases vop_full h with ⟨hk, _, _, hvg, hc0, hc3⟩ | ⟨hk, _⟩ | ⟨hk, _⟩
  · by_cases hc : 0 < o.cond
    · have := (otx_rest h hk hc).2; omega
    · rw [otx_1n h hk hc]; exact gtx_size0 hvg
  · rw [otx_2 h hk, ByteArray.size_append, dig_size]; omega
  · rw [otx_3 h hk, ByteArray.size_append, dig_size]; omega
/-- What the words say of an operation. -/
def OW (y0 y1 y2 : ByteArray) (n : Nat) (o : Oq) : Prop :=
  (o.k = 2 ∧ y0 = wMe ∧ y1 = dig o.q ∧ y2 = dig o.bit ∧ n = 3) ∨ (o.k = 3 ∧ y0 = wCl ∧ y1 = dig o.q ∧ n = 2) ∨ (o.k = 1 ∧ 0 < o.cond ∧ y0 = wI ∧ y1 = dig (o.cond - 1) ∧ 3 ≤ n) ∨ (o.k = 1 ∧ ¬ 0 < o.cond ∧ y0 = gnm o.g.k)
theorem ow_getD {o : Oq} (h : vOp o 4 3 = true) : OW ((ow o).getD 0 ⟨#[]⟩) ((ow o).getD 1 ⟨#[]⟩) ((ow o).getD 2 ⟨#[]⟩) (ow o).length o := by
  unfold OW ow
  rcases vop_full h with ⟨hk, _, _, hvg, hc0, hc3⟩ | ⟨hk, _⟩ | ⟨hk, _⟩
  · rw [if_neg (by omega), if_neg (by omega)]
    by_cases hc : 0 < o.cond
    · rw [if_pos hc]
      refine .inr (.inr (.inl ⟨hk, hc, rfl, rfl, ?_⟩))
      show 3 ≤ (gw o.g).length + 2
      unfold gw
      rw [List.length_cons]
      omega
    · rw [if_neg hc]
      exact .inr (.inr (.inr ⟨hk, hc, rfl⟩))
  · rw [if_pos hk]
    exact .inl ⟨hk, rfl, rfl, rfl, rfl⟩
  · rw [if_neg (by omega), if_pos hk]
    exact .inr (.inl ⟨hk, rfl, rfl, rfl⟩)
theorem words_ne : wMe ≠ wCl ∧ wMe ≠ wI ∧ wCl ≠ wI := by
  refine ⟨fun h => ?_, fun h => ?_, fun h => ?_⟩
  all_goals
    have := congrArg ByteArray.size h
    revert this
    decide
theorem cand2 {s y0 y1 y2 : ByteArray} {m : Nat} {q b : Int} {k1 k2 : Bool} (hy : y0 = wMe) (h1 : PN y1 q k1) (h2 : PN y2 b k2) (HW : ∀ o : Oq, vOp o 4 3 = true → s = otx o → OW y0 y1 y2 m o) (o' : Oq) (hv : vOp o' 4 3 = true) (he : s = otx o') : (⟨2, G0, q, b, 0⟩ : Oq) = o' := by
  have hne := words_ne
  rcases HW o' hv he with ⟨hk, a, b1, b2, _⟩ | ⟨_, a, _⟩ | ⟨_, _, a, _⟩ | ⟨_, _, a⟩
  · rcases vop_full hv with ⟨hk', _⟩ | ⟨_, g0, c0, q0, q3, t0, t3⟩ | ⟨hk', _⟩
    · omega
    · have e1 := (h1.2.2 o'.q q0 (by omega) b1).1
      have e2 := (h2.2.2 o'.bit t0 (by omega) b2).1
      obtain ⟨k, g, q', b', c⟩ := o'
      dsimp only at *
      subst hk g0 c0 e1 e2
      rfl
    · omega
  · exact absurd (hy.symm.trans a) hne.1
  · exact absurd (hy.symm.trans a) hne.2.1
  · exact absurd (a.symm.trans hy) (gnm_ne_words _).1
theorem cand3 {s y0 y1 y2 : ByteArray} {m : Nat} {q : Int} {k1 : Bool} (hy : y0 = wCl) (h1 : PN y1 q k1) (HW : ∀ o : Oq, vOp o 4 3 = true → s = otx o → OW y0 y1 y2 m o) (o' : Oq) (hv : vOp o' 4 3 = true) (he : s = otx o') : (⟨3, G0, q, 0, 0⟩ : Oq) = o' := by
  have hne := words_ne
  rcases HW o' hv he with ⟨_, a, _⟩ | ⟨hk, a, b1, _⟩ | ⟨_, _, a, _⟩ | ⟨_, _, a⟩
  · exact absurd (a.symm.trans hy) hne.1
  · rcases vop_full hv with ⟨hk', _⟩ | ⟨hk', _⟩ | ⟨_, g0, t0, c0, q0, q3⟩
    · omega
    · omega
    · have e1 := (h1.2.2 o'.q q0 (by omega) b1).1
      obtain ⟨k, g, q', b', c⟩ := o'
      dsimp only at *
      subst hk g0 c0 e1 t0
      rfl
  · exact absurd (hy.symm.trans a) hne.2.2
  · exact absurd (a.symm.trans hy) (gnm_ne_words _).2.1
theorem cand1c {s y0 y1 y2 : ByteArray} {m : Nat} {n : Int} {g : Gt} {k1 : Bool} (hy : y0 = wI) (h1 : PN y1 n k1) (hg : ∀ o : Oq, vOp o 4 3 = true → s = otx o → o.k = 1 → 0 < o.cond → g = o.g) (HW : ∀ o : Oq, vOp o 4 3 = true → s = otx o → OW y0 y1 y2 m o) (o' : Oq) (hv : vOp o' 4 3 = true) (he : s = otx o') : (⟨1, g, 0, 0, n + 1⟩ : Oq) = o' := by
  have hne := words_ne
  rcases HW o' hv he with ⟨_, a, _⟩ | ⟨_, a, _⟩ | ⟨hk, hc, a, b1, _⟩ | ⟨_, _, a⟩
  · exact absurd (a.symm.trans hy) hne.2.1
  · exact absurd (a.symm.trans hy) hne.2.2
  · rcases vop_full hv with ⟨_, q0, t0, hvg, c0, c3⟩ | ⟨hk', _⟩ | ⟨hk', _⟩
    · have e1 := (h1.2.2 (o'.cond - 1) (by omega) (by omega) b1).1
      have e2 := hg o' hv he hk hc
      obtain ⟨k, g', q', b', c⟩ := o'
      dsimp only at *
      subst hk q0 t0 e2
      rw [show n + 1 = c by omega]
    · omega
    · omega
  · exact absurd (a.symm.trans hy) (gnm_ne_words _).2.2
theorem cand1 {s y0 y1 y2 : ByteArray} {m : Nat} {g : Gt} (h2 : ¬ (y0 = wMe ∧ m = 3)) (h3 : ¬ (y0 = wCl ∧ m = 2)) (hi : ¬ (y0 = wI ∧ 3 ≤ m)) (hg : ∀ h : Gt, vg h 4 = true → s = gtx h → g = h) (HW : ∀ o : Oq, vOp o 4 3 = true → s = otx o → OW y0 y1 y2 m o) (o' : Oq) (hv : vOp o' 4 3 = true) (he : s = otx o') : (⟨1, g, 0, 0, 0⟩ : Oq) = o' := by
  rcases HW o' hv he with ⟨_, a, _, _, a'⟩ | ⟨_, a, _, a'⟩ | ⟨_, _, a, _, a'⟩ | ⟨hk, hc, a⟩
  · exact absurd ⟨a, a'⟩ h2
  · exact absurd ⟨a, a'⟩ h3
  · exact absurd ⟨a, a'⟩ hi
  · rcases vop_full hv with ⟨_, q0, t0, hvg, c0, c3⟩ | ⟨hk', _⟩ | ⟨hk', _⟩
    · have e2 := hg o'.g hvg (by rw [he, otx_1n hv hk hc])
      have e3 : o'.cond = 0 := by omega
      obtain ⟨k, g', q', b', c⟩ := o'
      dsimp only at *
      subst hk q0 t0 e2 e3
      rfl
    · omega
    · omega
theorem empty_iff (s : ByteArray) : (ByteArray.toList s).isEmpty = true ↔ s = ⟨#[]⟩ := by
  rw [List.isEmpty_iff]
  constructor
  · intro h
    exact str_beq.1 (by rw [h]; simp)
  · rintro rfl
    simp
theorem none_empty {s : ByteArray} (hs : s = ⟨#[]⟩) (o' : Oq) (hv : vOp o' 4 3 = true) : s ≠ otx o' := by
  intro he
  have := otx_size0 hv
  rw [← he, hs] at this
  exact absurd this (by decide)
theorem none_other {s : ByteArray} {o : Oq} (h : ∀ o' : Oq, vOp o' 4 3 = true → s = otx o' → o = o') (hne : (ByteArray.toList (otx o) == ByteArray.toList s) = false) (o' : Oq) (hv : vOp o' 4 3 = true) : s ≠ otx o' := by
  intro he
  have := h o' hv he
  rw [this, ← he, str_beq_self] at hne
  cases hne
/-! ### rows of eight cells -/
theorem cells8 {w : World} {g t : Nat} {c0 c1 c2 c3 c4 c5 c6 c7 : Value} (h : Blk w g t #[c0, c1, c2, c3, c4, c5, c6, c7]) :
    (w.cell? ⟨g, 0, none⟩ = some c0 ∧ w.cell? ⟨g, 1, none⟩ = some c1 ∧ w.cell? ⟨g, 2, none⟩ = some c2 ∧ w.cell? ⟨g, 3, none⟩ = some c3 ∧ w.cell? ⟨g, 4, none⟩ = some c4 ∧ w.cell? ⟨g, 5, none⟩ = some c5 ∧ w.cell? ⟨g, 6, none⟩ = some c6 ∧ w.cell? ⟨g, 7, none⟩ = some c7) ∧ w.frozen? ⟨g, 0, none⟩ = false ∧ w.frozen? ⟨g, 1, none⟩ = false ∧ w.frozen? ⟨g, 2, none⟩ = false ∧ w.frozen? ⟨g, 3, none⟩ = false ∧ w.frozen? ⟨g, 4, none⟩ = false ∧ w.frozen? ⟨g, 5, none⟩ = false ∧ w.frozen? ⟨g, 6, none⟩ = false ∧ w.frozen? ⟨g, 7, none⟩ = false :=
  ⟨⟨h.cell 0, h.cell 1, h.cell 2, h.cell 3, h.cell 4, h.cell 5, h.cell 6, h.cell 7⟩, h.frozen 0, h.frozen 1, h.frozen 2, h.frozen 3, h.frozen 4, h.frozen 5, h.frozen 6, h.frozen 7⟩
def put8 (w : World) (g : Nat) (c0 c1 c2 c3 c4 c5 c6 c7 : Value) : World := (((((((w.setCell ⟨g, 0, none⟩ c0).setCell ⟨g, 1, none⟩ c1).setCell ⟨g, 2, none⟩ c2).setCell ⟨g, 3, none⟩ c3).setCell ⟨g, 4, none⟩ c4).setCell ⟨g, 5, none⟩ c5).setCell ⟨g, 6, none⟩ c6).setCell ⟨g, 7, none⟩ c7
theorem Blk.put8 {w : World} {g t : Nat} {z0 z1 z2 z3 z4 z5 z6 z7 : Value} (h : Blk w g t #[z0, z1, z2, z3, z4, z5, z6, z7]) (c0 c1 c2 c3 c4 c5 c6 c7 : Value) : Blk (put8 w g c0 c1 c2 c3 c4 c5 c6 c7) g t #[c0, c1, c2, c3, c4, c5, c6, c7] := by
  have h0 : Blk _ g t #[c0, z1, z2, z3, z4, z5, z6, z7] := h.set_ 0 c0
  have h1 : Blk _ g t #[c0, c1, z2, z3, z4, z5, z6, z7] := h0.set_ 1 c1
  have h2 : Blk _ g t #[c0, c1, c2, z3, z4, z5, z6, z7] := h1.set_ 2 c2
  have h3 : Blk _ g t #[c0, c1, c2, c3, z4, z5, z6, z7] := h2.set_ 3 c3
  have h4 : Blk _ g t #[c0, c1, c2, c3, c4, z5, z6, z7] := h3.set_ 4 c4
  have h5 : Blk _ g t #[c0, c1, c2, c3, c4, c5, z6, z7] := h4.set_ 5 c5
  have h6 : Blk _ g t #[c0, c1, c2, c3, c4, c5, c6, z7] := h5.set_ 6 c6
  have h7 : Blk _ g t #[c0, c1, c2, c3, c4, c5, c6, c7] := h6.set_ 7 c7
  exact h7
theorem ext_put8 {w0 w : World} (h : Ext w0 w) {g : Nat} (hg : w0.heap.size ≤ g) (c0 c1 c2 c3 c4 c5 c6 c7 : Value) : Ext w0 (put8 w g c0 c1 c2 c3 c4 c5 c6 c7) :=
  (((((((h.setCell (p := ⟨g, 0, none⟩) hg c0).setCell (p := ⟨g, 1, none⟩) hg c1).setCell (p := ⟨g, 2, none⟩) hg c2).setCell (p := ⟨g, 3, none⟩) hg c3).setCell (p := ⟨g, 4, none⟩) hg c4).setCell (p := ⟨g, 5, none⟩) hg c5).setCell (p := ⟨g, 6, none⟩) hg c6).setCell (p := ⟨g, 7, none⟩) hg c7
theorem Tryz.sizeOpR : (Tryz.prog.info? 39).map (·.size) = some 8 := by kernel_rfl
/-- A gate put into an operation's row. -/
def putG (w : World) (g : Nat) (a b c d : Value) : World := (((w.setCell ⟨g, 1, none⟩ a).setCell ⟨g, 2, none⟩ b).setCell ⟨g, 3, none⟩ c).setCell ⟨g, 4, none⟩ d
theorem Blk.putG {w : World} {g t : Nat} {z0 z1 z2 z3 z4 z5 z6 z7 : Value} (h : Blk w g t #[z0, z1, z2, z3, z4, z5, z6, z7]) (a b c d : Value) : Blk (putG w g a b c d) g t #[z0, a, b, c, d, z5, z6, z7] := by
  have h1 : Blk _ g t #[z0, a, z2, z3, z4, z5, z6, z7] := h.set_ 1 a
  have h2 : Blk _ g t #[z0, a, b, z3, z4, z5, z6, z7] := h1.set_ 2 b
  have h3 : Blk _ g t #[z0, a, b, c, z4, z5, z6, z7] := h2.set_ 3 c
  have h4 : Blk _ g t #[z0, a, b, c, d, z5, z6, z7] := h3.set_ 4 d
  exact h4
theorem ext_putG {w0 w : World} (h : Ext w0 w) {g : Nat} (hg : w0.heap.size ≤ g) (a b c d : Value) : Ext w0 (putG w g a b c d) :=
  (((h.setCell (p := ⟨g, 1, none⟩) hg a).setCell (p := ⟨g, 2, none⟩) hg b).setCell (p := ⟨g, 3, none⟩) hg c).setCell (p := ⟨g, 4, none⟩) hg d
end Go.Proofs.YteecjnnompjmiacGreatDoor
