/-
  Helper text (no claim of its own): the words of which the texts of gates and operations are made; cut at the blanks, a text gives its words.
-/
import Derived.Test.YteecjnnompjmiacGreatDoorFop
import Derived.Test.YteecjnnompjmiacGreatDoorCut
namespace Go.Proofs.YteecjnnompjmiacGreatDoor
open Go.ChangeShapes Go.WideShapes Go.ChangeAt Go.RowKit Go.Deep
set_option linter.unusedVariables false
set_option linter.unusedSimpArgs false
theorem str_beq {a b : ByteArray} : (a.toList == b.toList) = true ↔ a = b := by
  rw [ByteArray.toList_eq, ByteArray.toList_eq]
  constructor
  · intro h
    have := eq_of_beq h
    apply ByteArray.ext
    exact Array.ext' this
  · rintro rfl
    simp
theorem str_bne {a b : ByteArray} (h : a ≠ b) : (a.toList == b.toList) = false := by
  cases e : (a.toList == b.toList)
  · rfl
  · exact absurd (str_beq.1 e) h
theorem str_beq_self (a : ByteArray) : (a.toList == a.toList) = true := str_beq.2 rfl
theorem cutL_pre (c : UInt8) (a X : List UInt8) (ha : c ∉ a) : cutL c (a ++ X) = prep a (cutL c X) := by
  induction a with
  | nil => exact (prep_nil (cutL_ne _ _)).symm
  | cons b a ih =>
    have h1 : b ≠ c := fun e => ha (by rw [e]; exact List.mem_cons_self)
    rw [List.cons_append, cutL, if_neg h1, ih (fun h => ha (List.mem_cons_of_mem _ h)), prep_prep]
    rfl
theorem cutL_join (c : UInt8) (a : List UInt8) (ps : List (List UInt8)) (ha : c ∉ a) (hp : ∀ p ∈ ps, c ∉ p) : cutL c (a ++ (ps.map fun p => [c] ++ p).flatten) = a :: ps := by
  induction ps generalizing a with
  | nil => rw [cutL_pre c a _ ha]; simp [cutL, prep]
  | cons p ps ih =>
    rw [cutL_pre c a _ ha, List.map_cons, List.flatten_cons, List.append_assoc, List.singleton_append, cutL, if_pos rfl, ih p (hp p List.mem_cons_self) (fun q hq => hp q (List.mem_cons_of_mem _ hq))]
    simp [prep]
theorem cut_jn (c : UInt8) (x : ByteArray) (r : List ByteArray) (h : ∀ y ∈ x :: r, c ∉ y.data.toList) : cut c (jn ⟨#[c]⟩ (x :: r)) = x :: r := by
  refine (cut_of ?_).symm
  show _ = cutL c (r.foldl (fun a y => a ++ ⟨#[c]⟩ ++ y) x).data.toList
  rw [jn_list]
  have e : (r.map fun y : ByteArray => (⟨#[c]⟩ : ByteArray).data.toList ++ y.data.toList) = (r.map (·.data.toList)).map fun p => [c] ++ p := by
    rw [List.map_map]; rfl
  rw [e, cutL_join]
  · rfl
  · exact h x List.mem_cons_self
  · intro p hp
    obtain ⟨y, hy, rfl⟩ := List.mem_map.1 hp
    exact h y (List.mem_cons_of_mem _ hy)
/-! ### gates -/
def gw (g : Gt) : List ByteArray := gnm g.k :: (qus g).map dig
theorem jn_digs (sep x : ByteArray) (l : List Int) : jn sep (x :: l.map dig) = l.foldl (fun s q => s ++ sep ++ dig q) x := by
  show (l.map dig).foldl (fun a y => a ++ sep ++ y) x = _
  rw [List.foldl_map]
theorem gtx_jn {g : Gt} (h : vg g 4 = true) : gtx g = jn ⟨#[32]⟩ (gw g) := by
  rw [gtx_yes h]
  exact (jn_digs _ _ _).symm
theorem gnm_cases (k : Int) : k = 1 ∨ k = 2 ∨ k = 3 ∨ k = 4 ∨ k = 5 ∨ k = 6 ∨ k = 7 ∨ k = 8 ∨ k = 9 ∨ k = 10 ∨ k = 11 ∨ k = 12 ∨ (k < 1 ∨ 12 < k) := by omega
theorem gnm_blank (k : Int) : (32 : UInt8) ∉ (gnm k).data.toList := by
  rcases gnm_cases k with rfl | rfl | rfl | rfl | rfl | rfl | rfl | rfl | rfl | rfl | rfl | rfl | h
  all_goals first | (rw [gnm_none h]; decide) | decide
theorem dig_blank {q : Int} (h0 : 0 ≤ q) (h4 : q ≤ 4) : (32 : UInt8) ∉ (dig q).data.toList := by
  rcases (by omega : q = 0 ∨ q = 1 ∨ q = 2 ∨ q = 3 ∨ q = 4) with rfl | rfl | rfl | rfl | rfl <;> decide
theorem qus_dig {g : Gt} (h : vg g 4 = true) {q : Int} (hq : q ∈ qus g) : 0 ≤ q ∧ q ≤ 3 := by
  obtain ⟨k, hk⟩ := List.getElem?_of_mem hq
  have := vg_q h hk
  omega
theorem gw_blank {g : Gt} (h : vg g 4 = true) : ∀ y ∈ gw g, (32 : UInt8) ∉ y.data.toList := by
  intro y hy
  rcases List.mem_cons.1 hy with rfl | hy
  · exact gnm_blank _
  · obtain ⟨q, hq, rfl⟩ := List.mem_map.1 hy
    have := qus_dig h hq
    exact dig_blank this.1 (by omega)
theorem gtx_cut {g : Gt} (h : vg g 4 = true) : cut 32 (gtx g) = gw g := by
  rw [gtx_jn h]
  exact cut_jn 32 _ _ (gw_blank h)
theorem vg_k {g : Gt} (h : vg g 4 = true) : 1 ≤ g.k ∧ g.k ≤ 12 := by
  have h1 : 0 < ar g.k := by
    unfold vg at h
    simp only [Bool.and_eq_true, decide_eq_true_eq] at h
    exact h.1.1.1.2
  rcases (by omega : (1 ≤ g.k ∧ g.k ≤ 12) ∨ (g.k < 1 ∨ 12 < g.k)) with h2 | h2
  · exact h2
  · rw [ar0 h2] at h1; omega
theorem gnm_size0 {k : Int} (h : 1 ≤ k ∧ k ≤ 12) : 0 < (gnm k).size := by
  rcases gnm_cases k with rfl | rfl | rfl | rfl | rfl | rfl | rfl | rfl | rfl | rfl | rfl | rfl | h'
  all_goals first | omega | decide
theorem gnm_inj {j k : Int} (hj : 1 ≤ j ∧ j ≤ 12) (hk : 1 ≤ k ∧ k ≤ 12) (h : gnm j = gnm k) : j = k := by
  have key : ∀ a b : Fin 12, (gnm ((a.val + 1 : Nat) : Int)).data.toList = (gnm ((b.val + 1 : Nat) : Int)).data.toList → a = b := by decide +kernel
  have := key ⟨(j - 1).toNat, by omega⟩ ⟨(k - 1).toNat, by omega⟩ (by
    rw [show (((j - 1).toNat + 1 : Nat) : Int) = j by omega, show (((k - 1).toNat + 1 : Nat) : Int) = k by omega, h])
  have := congrArg Fin.val this
  simp at this
  omega
theorem gtx_size0 {g : Gt} (h : vg g 4 = true) : 0 < (gtx g).size := by
  rw [gtx_yes h, rowS_size]
  have := gnm_size0 (vg_k h)
  omega
/-- A gate is told by its words. -/
theorem vg_zero {g : Gt} (h : vg g 4 = true) : (ar g.k ≤ 0 → g.a = 0) ∧ (ar g.k ≤ 1 → g.b = 0) ∧ (ar g.k ≤ 2 → g.c = 0) := by
  unfold vg at h
  simp only [Bool.and_eq_true] at h
  obtain ⟨⟨⟨_, h0⟩, h1⟩, h2⟩ := h
  refine ⟨fun ha => ?_, fun ha => ?_, fun ha => ?_⟩
  · unfold okI at h0; rw [if_pos (by omega)] at h0; simpa using h0
  · unfold okI at h1; rw [if_pos (by omega)] at h1; simpa using h1
  · unfold okI at h2; rw [if_pos (by omega)] at h2; simpa using h2
/-! ### operations -/
def wMe : ByteArray := ⟨#[109, 101, 97, 115, 117, 114, 101]⟩
def wCl : ByteArray := ⟨#[99, 108, 101, 97, 110]⟩
def wI : ByteArray := ⟨#[105, 102]⟩
def ow (o : Oq) : List ByteArray :=
  if o.k = 2 then [wMe, dig o.q, dig o.bit] else if o.k = 3 then [wCl, dig o.q] else if 0 < o.cond then wI :: dig (o.cond - 1) :: gw o.g else gw o.g
theorem foldl_pre (sep a x : ByteArray) (r : List ByteArray) : a ++ r.foldl (fun s y => s ++ sep ++ y) x = r.foldl (fun s y => s ++ sep ++ y) (a ++ x) := by
  induction r generalizing x with
  | nil => rfl
  | cons y r ih => rw [List.foldl_cons, List.foldl_cons, ih]; simp only [ByteArray.append_assoc]
theorem otx_jn {o : Oq} (h : vOp o 4 3 = true) : otx o = jn ⟨#[32]⟩ (ow o) := by
  unfold ow
  rcases vOp_facts h with ⟨hk, hvg, hc0, hc3⟩ | ⟨hk, ⟨hq0, hq3⟩, hb0, hb3⟩ | ⟨hk, hq0, hq3⟩
  · rw [if_neg (by omega), if_neg (by omega)]
    by_cases hc : 0 < o.cond
    · rw [otx_1c h hk hc, if_pos hc, gtx_jn hvg]
      show _ = ((gw o.g)).foldl _ (wI ++ ⟨#[32]⟩ ++ dig (o.cond - 1))
      show _ ++ (((qus o.g).map dig).foldl (fun s y => s ++ ⟨#[32]⟩ ++ y) (gnm o.g.k)) = _
      rw [foldl_pre]
      rfl
    · rw [otx_1n h hk hc, if_neg hc, gtx_jn hvg]
  · rw [if_pos hk, otx_2 h hk]
    rfl
  · rw [if_neg (by omega), if_pos hk, otx_3 h hk]
    rfl
theorem ow_blank {o : Oq} (h : vOp o 4 3 = true) : ∀ y ∈ ow o, (32 : UInt8) ∉ y.data.toList := by
  have e1 : (32 : UInt8) ∉ wMe.data.toList := by decide
  have e2 : (32 : UInt8) ∉ wCl.data.toList := by decide
  have e3 : (32 : UInt8) ∉ wI.data.toList := by decide
  intro y hy
  unfold ow at hy
  rcases vOp_facts h with ⟨hk, hvg, hc0, hc3⟩ | ⟨hk, ⟨hq0, hq3⟩, hb0, hb3⟩ | ⟨hk, hq0, hq3⟩
  · rw [if_neg (by omega), if_neg (by omega)] at hy
    split at hy
    · rcases List.mem_cons.1 hy with rfl | hy
      · exact e3
      rcases List.mem_cons.1 hy with rfl | hy
      · exact dig_blank (by omega) (by omega)
      · exact gw_blank hvg y hy
    · exact gw_blank hvg y hy
  · rw [if_pos hk] at hy
    simp at hy
    rcases hy with rfl | rfl | rfl
    · exact e1
    · exact dig_blank (by omega) (by omega)
    · exact dig_blank (by omega) (by omega)
  · rw [if_neg (by omega), if_pos hk] at hy
    simp at hy
    rcases hy with rfl | rfl
    · exact e2
    · exact dig_blank (by omega) (by omega)
theorem otx_cut {o : Oq} (h : vOp o 4 3 = true) : cut 32 (otx o) = ow o := by
  rw [otx_jn h]
  have hb := ow_blank h
  cases he : ow o with
  | nil =>
    exfalso
    unfold ow gw at he
    repeat' split at he
    all_goals cases he
  | cons x r => rw [he] at hb; exact cut_jn 32 x r hb
theorem gnm_ne_words (k : Int) : gnm k ≠ wMe ∧ gnm k ≠ wCl ∧ gnm k ≠ wI := by
  have key : ∀ k : Int, (gnm k).data.toList ≠ wMe.data.toList ∧ (gnm k).data.toList ≠ wCl.data.toList ∧ (gnm k).data.toList ≠ wI.data.toList := by
    intro k
    rcases gnm_cases k with rfl | rfl | rfl | rfl | rfl | rfl | rfl | rfl | rfl | rfl | rfl | rfl | h
    all_goals first | (rw [gnm_none h]; decide) | decide
  have := key k
  exact ⟨fun e => this.1 (by rw [e]), fun e => this.2.1 (by rw [e]), fun e => this.2.2 (by rw [e])⟩
/-- The rest behind 'if', a digit and their blanks. -/
theorem otx_rest {o : Oq} (h : vOp o 4 3 = true) (hk : o.k = 1) (hc : 0 < o.cond) : (otx o).extract 5 (otx o).size = gtx o.g ∧ (otx o).size = 5 + (gtx o.g).size := by
  rw [otx_1c h hk hc]
  generalize hp : (⟨#[105, 102, 32]⟩ : ByteArray) ++ dig (o.cond - 1) ++ ⟨#[32]⟩ = p
  have hps : p.size = 5 := by rw [← hp]; rfl
  refine ⟨?_, by rw [ByteArray.size_append, hps]⟩
  apply ByteArray.ext
  apply Array.ext'
  rw [Lib.extract_data, ByteArray.data_append, Array.toList_append]
  have h5 : p.data.toList.length = 5 := by rw [Array.length_toList]; exact hps
  rw [List.drop_append_of_le_length (by omega), List.drop_of_length_le (by omega), List.nil_append, List.take_of_length_le]
  rw [ByteArray.size_append, hps, Array.length_toList]
  show (gtx o.g).size ≤ _
  omega
/-! ### how great a part of the pieces, joined again, may be -/
theorem jn1_size (c : UInt8) (ws : List ByteArray) : (jn ⟨#[c]⟩ ws).size ≤ (ws.map fun x => x.size + 1).sum := by
  cases ws with
  | nil => exact Nat.zero_le _
  | cons x r =>
    show (r.foldl (fun a y => a ++ ⟨#[c]⟩ ++ y) x).size ≤ _
    have key : ∀ (r : List ByteArray) (x : ByteArray), (r.foldl (fun a y => a ++ ⟨#[c]⟩ ++ y) x).size = x.size + (r.map fun x => x.size + 1).sum := by
      intro r
      induction r with
      | nil => intro x; simp
      | cons y r ih =>
        intro x
        have e1 : (⟨#[c]⟩ : ByteArray).size = 1 := rfl
        rw [List.foldl_cons, ih, ByteArray.size_append, ByteArray.size_append, e1, List.map_cons, List.sum_cons]
        omega
    rw [key, List.map_cons, List.sum_cons]
    omega
theorem sum_drop (l : List Nat) (k : Nat) : (l.drop k).sum ≤ l.sum := by
  have := congrArg List.sum (List.take_append_drop k l)
  rw [List.sum_append] at this
  omega
theorem cut_drop_size (c : UInt8) (s : ByteArray) (k : Nat) : (jn ⟨#[c]⟩ ((cut c s).drop k)).size ≤ s.size + 1 := by
  refine Nat.le_trans (jn1_size c _) ?_
  rw [List.map_drop]
  refine Nat.le_trans (sum_drop _ k) ?_
  have := cutL_sum c s.data.toList
  rw [Array.length_toList] at this
  unfold cut
  rw [List.map_map]
  have e : ((fun x : ByteArray => x.size + 1) ∘ fun l : List UInt8 => (⟨l.toArray⟩ : ByteArray)) = fun l : List UInt8 => l.length + 1 := by
    funext l
    show l.toArray.size + 1 = _
    simp
  rw [e, this]
  exact Nat.le_refl _
end Go.Proofs.YteecjnnompjmiacGreatDoor
