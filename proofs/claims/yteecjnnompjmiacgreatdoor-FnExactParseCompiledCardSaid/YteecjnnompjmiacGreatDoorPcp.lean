/-
  Helper text (no claim of its own): what the lines of a text say of a compiled result, in plain Lean; the result that is being read.
-/
import Derived.Test.YteecjnnompjmiacGreatDoorLp
import Derived.Test.YteecjnnompjmiacGreatDoorFc
namespace Go.Proofs.YteecjnnompjmiacGreatDoor
open Go.ChangeShapes Go.WideShapes Go.ChangeAt Go.RowKit Go.Deep
set_option linter.unusedVariables false
set_option linter.unusedSimpArgs false
/-! ### the operations of a valid result are valid -/
theorem okI_mono {g : Gt} {n : Int} {i : Nat} {q : Int} (hn : n ≤ 4) (h : okI g n i q = true) : okI g 4 i q = true := by
  unfold okI at h ⊢
  split
  · rename_i hc
    rw [if_pos hc] at h
    exact h
  · rename_i hc
    rw [if_neg hc] at h
    simp only [Bool.and_eq_true, decide_eq_true_eq] at h ⊢
    exact ⟨⟨h.1.1, by omega⟩, h.2⟩
theorem vg_mono {g : Gt} {n : Int} (h : vg g n = true) : vg g 4 = true := by
  unfold vg at h ⊢
  simp only [Bool.and_eq_true, decide_eq_true_eq] at h ⊢
  obtain ⟨⟨⟨⟨⟨h1, h2⟩, h3⟩, h4⟩, h5⟩, h6⟩ := h
  exact ⟨⟨⟨⟨⟨by omega, by omega⟩, h3⟩, okI_mono h2 h4⟩, okI_mono h2 h5⟩, okI_mono h2 h6⟩
theorem inB_mk {x lo hi : Int} (h : lo ≤ x ∧ x ≤ hi) : inB x lo hi = true := by
  unfold inB
  simp only [Bool.and_eq_true, decide_eq_true_eq]
  exact h
theorem vOp_mono {o : Oq} {n bits : Int} (hn : n ≤ 4) (hb : bits ≤ 3) (h : vOp o n bits = true) : vOp o 4 3 = true := by
  have h44 : inB 4 1 4 = true := by decide
  have h33 : inB 3 0 3 = true := by decide
  have hin : inB n 1 4 = true := by
    cases e : inB n 1 4
    · rw [vOp_n e] at h; cases h
    · rfl
  have hib : inB bits 0 3 = true := by
    cases e : inB bits 0 3
    · rw [vOp_b e] at h; cases h
    · rfl
  rcases vOp_facts h with ⟨hk, hvg, hc0, hc3⟩ | ⟨hk, ⟨hq0, hq3⟩, hb0, hb3⟩ | ⟨hk, hq0, hq3⟩
  · rw [vOp_1 hin hib hk] at h
    rw [vOp_1 h44 h33 hk]
    simp only [Bool.and_eq_true] at h ⊢
    exact ⟨⟨h.1.1, vg_mono h.1.2⟩, inB_mk ⟨hc0, by omega⟩⟩
  · rw [vOp_2 hin hib hk] at h
    rw [vOp_2 h44 h33 hk]
    simp only [Bool.and_eq_true] at h ⊢
    exact ⟨⟨h.1.1, inB_mk ⟨hq0, by omega⟩⟩, inB_mk ⟨hb0, by omega⟩⟩
  · rw [vOp_3 hin hib hk] at h
    rw [vOp_3 h44 h33 hk]
    simp only [Bool.and_eq_true] at h ⊢
    exact ⟨h.1, inB_mk ⟨hq0, by omega⟩⟩
theorem run_all (n bits : Int) (l : List Oq) : ∀ k, l.foldl (runS n bits) (some k) ≠ none → ∀ o ∈ l, vOp o n bits = true := by
  induction l with
  | nil => intro k _ o ho; cases ho
  | cons x l ih =>
    intro k hne o ho
    rw [List.foldl_cons] at hne
    cases hx : okRun n bits k x
    · have e : runS n bits (some k) x = none := by simp [runS, hx]
      rw [e, runS_none] at hne
      exact absurd rfl hne
    · have e : runS n bits (some k) x = some (if (x.k == 2) = true then k + 1 else k) := by simp [runS, hx]
      rw [e] at hne
      rcases List.mem_cons.1 ho with rfl | ho
      · cases hv : vOp o n bits
        · rw [okRun_v hv] at hx; cases hx
        · rfl
      · exact ih _ hne o ho
structure VF (x : Cm) : Prop where
  n : x.n = (x.st.length : Int)
  sd : digs x.st
  sl : x.st.length ≤ 4
  fd : digs x.fin
  fl : x.fin.length ≤ 4
  ol : x.ops.length ≤ 1200
  b0 : 0 ≤ x.bits
  b4 : x.bits ≤ 4
  ov : ∀ o ∈ x.ops, vOp o 4 3 = true
theorem vF {x : Cm} (h : vC x = true) : VF x := by
  obtain ⟨h1, h2, h3, h4, h5, h6, h7⟩ := vC_facts h
  unfold vC at h
  simp only [Bool.and_eq_true, decide_eq_true_eq, beq_iff_eq] at h
  obtain ⟨⟨⟨⟨⟨⟨⟨_, _⟩, hn⟩, _⟩, _⟩, hb⟩, hl⟩, _⟩ := h
  have hb3 := (inB_out hb).2
  refine ⟨hn.symm, h2, h1, h4, h3, h5, h6, h7, fun o ho => vOp_mono (n := x.n) (bits := x.bits) (by omega) hb3 (run_all x.n x.bits x.ops 0 ?_ o ho)⟩
  intro e
  unfold lst runF at hl
  rw [e] at hl
  cases hl
/-! ### the lines -/
theorem mem_jn {b : UInt8} {sep : ByteArray} {x : ByteArray} {r : List ByteArray} (h : b ∈ (jn sep (x :: r)).data.toList) : b ∈ sep.data.toList ∨ ∃ y ∈ x :: r, b ∈ y.data.toList := by
  have e : (jn sep (x :: r)).data.toList = x.data.toList ++ (r.map fun y => sep.data.toList ++ y.data.toList).flatten := jn_list sep x r
  rw [e, List.mem_append] at h
  rcases h with h | h
  · exact .inr ⟨x, List.mem_cons_self, h⟩
  · obtain ⟨l, hl, hb⟩ := List.mem_flatten.1 h
    obtain ⟨y, hy, rfl⟩ := List.mem_map.1 hl
    rcases List.mem_append.1 hb with hb | hb
    · exact .inl hb
    · exact .inr ⟨y, List.mem_cons_of_mem _ hy, hb⟩
theorem dig_nl {q : Int} (h0 : 0 ≤ q) (h4 : q ≤ 4) : (10 : UInt8) ∉ (dig q).data.toList := by
  rcases (by omega : q = 0 ∨ q = 1 ∨ q = 2 ∨ q = 3 ∨ q = 4) with rfl | rfl | rfl | rfl | rfl <;> decide
theorem gnm_nl (k : Int) : (10 : UInt8) ∉ (gnm k).data.toList := by
  rcases gnm_cases k with rfl | rfl | rfl | rfl | rfl | rfl | rfl | rfl | rfl | rfl | rfl | rfl | h
  all_goals first | (rw [gnm_none h]; decide) | decide
theorem row_nl {f : ByteArray} {p : List Int} (hf : (10 : UInt8) ∉ f.data.toList) (hp : digs p) : (10 : UInt8) ∉ (rowS f p).data.toList := by
  rw [row_jn]
  intro h
  rcases mem_jn h with hm | ⟨y, hy, hm⟩
  · revert hm; decide
  · rcases List.mem_cons.1 hy with rfl | hy
    · exact hf hm
    · obtain ⟨q, hq, rfl⟩ := List.mem_map.1 hy
      exact dig_nl (hp q hq).1 (hp q hq).2 hm
theorem gw_nl {g : Gt} (h : vg g 4 = true) : ∀ y ∈ gw g, (10 : UInt8) ∉ y.data.toList := by
  intro y hy
  rcases List.mem_cons.1 hy with rfl | hy
  · exact gnm_nl _
  · obtain ⟨q, hq, rfl⟩ := List.mem_map.1 hy
    have := qus_dig h hq
    exact dig_nl this.1 (by omega)
theorem ow_nl {o : Oq} (h : vOp o 4 3 = true) : ∀ y ∈ ow o, (10 : UInt8) ∉ y.data.toList := by
  have e1 : (10 : UInt8) ∉ wMe.data.toList := by decide
  have e2 : (10 : UInt8) ∉ wCl.data.toList := by decide
  have e3 : (10 : UInt8) ∉ wI.data.toList := by decide
  intro y hy
  unfold ow at hy
  rcases vOp_facts h with ⟨hk, hvg, hc0, hc3⟩ | ⟨hk, ⟨hq0, hq3⟩, hb0, hb3⟩ | ⟨hk, hq0, hq3⟩
  · rw [if_neg (by omega), if_neg (by omega)] at hy
    split at hy
    · rcases List.mem_cons.1 hy with rfl | hy
      · exact e3
      rcases List.mem_cons.1 hy with rfl | hy
      · exact dig_nl (by omega) (by omega)
      · exact gw_nl hvg y hy
    · exact gw_nl hvg y hy
  · rw [if_pos hk] at hy
    simp at hy
    rcases hy with rfl | rfl | rfl
    · exact e1
    · exact dig_nl (by omega) (by omega)
    · exact dig_nl (by omega) (by omega)
  · rw [if_neg (by omega), if_pos hk] at hy
    simp at hy
    rcases hy with rfl | rfl
    · exact e2
    · exact dig_nl (by omega) (by omega)
theorem otx_nl {o : Oq} (h : vOp o 4 3 = true) : (10 : UInt8) ∉ (otx o).data.toList := by
  rw [otx_jn h]
  have hb := ow_nl h
  cases he : ow o with
  | nil => decide
  | cons x r =>
    rw [he] at hb
    intro hm
    rcases mem_jn hm with hm | ⟨y, hy, hm⟩
    · revert hm; decide
    · exact hb y hy hm
theorem bits_row (q : Int) : (⟨#[98, 105, 116, 115, 32]⟩ : ByteArray) ++ dig q = rowS ⟨#[98, 105, 116, 115]⟩ [q] := rfl
theorem lines_cut {x : Cm} (h : vC x = true) : cut 10 (ctx x) = lines x := by
  have V := vF h
  rw [ctx_yes h]
  have hl : ∀ y ∈ lines x, (10 : UInt8) ∉ y.data.toList := by
    intro y hy
    unfold lines hdl at hy
    rw [List.mem_append, List.mem_append] at hy
    rcases hy with (hy | hy) | hy
    · rw [List.mem_cons, List.mem_singleton] at hy
      rcases hy with rfl | rfl
      · exact row_nl (by decide) V.sd
      · rw [bits_row]
        exact row_nl (by decide) (fun q hq => by rw [List.mem_singleton] at hq; subst hq; exact ⟨V.b0, V.b4⟩)
    · obtain ⟨o, ho, rfl⟩ := List.mem_map.1 hy
      exact otx_nl (V.ov o ho)
    · rw [List.mem_singleton] at hy
      subst hy
      exact row_nl (by decide) V.fd
  cases he : lines x with
  | nil => unfold lines hdl at he; simp at he
  | cons a r => rw [he] at hl; exact cut_jn 10 a r hl
theorem lines_len3 (x : Cm) : (lines x).length = x.ops.length + 3 := by
  unfold lines hdl
  simp
theorem lines_0 (x : Cm) : (lines x).getD 0 ⟨#[]⟩ = rowS ⟨#[111, 110]⟩ x.st := rfl
theorem lines_1 (x : Cm) : (lines x).getD 1 ⟨#[]⟩ = rowS ⟨#[98, 105, 116, 115]⟩ [x.bits] := rfl
theorem lines_z (x : Cm) : (lines x).getD (x.ops.length + 2) ⟨#[]⟩ = rowS ⟨#[97, 116]⟩ x.fin := by
  have e : (lines x)[x.ops.length + 2]? = some (rowS ⟨#[97, 116]⟩ x.fin) := by
    unfold lines hdl
    rw [List.getElem?_append_right (by simp)]
    simp
  simp [List.getD, e]
theorem lines_op {x : Cm} {j : Nat} {o : Oq} (h : x.ops[j]? = some o) : (lines x).getD (j + 2) ⟨#[]⟩ = otx o := by
  have hj := (List.getElem?_eq_some_iff.1 h).1
  have e : (lines x)[j + 2]? = some (otx o) := by
    unfold lines hdl
    rw [List.getElem?_append_left (by simp; omega), List.getElem?_append_right (by simp)]
    simp [h]
  simp [List.getD, e]
/-! ### what is read -/
def OR (t : ByteArray) (o : Oq) : Prop := ∀ o' : Oq, vOp o' 4 3 = true → t = otx o' → o = o'
def RO (ws : List ByteArray) (xs : List Oq) : Prop := ∀ (j : Nat) (o : Oq), xs[j]? = some o → OR (ws.getD (j + 2) ⟨#[]⟩) o
theorem RO.nil (ws : List ByteArray) : RO ws [] := fun j e h => by simp at h
theorem RO.snoc {ws : List ByteArray} {xs : List Oq} {o : Oq} {k : Nat} (h : RO ws xs) (hk : xs.length = k) (ho : OR (ws.getD (k + 2) ⟨#[]⟩) o) : RO ws (xs ++ [o]) := by
  subst hk
  intro j y hj
  by_cases hlt : j < xs.length
  · rw [List.getElem?_append_left hlt] at hj
    exact h j y hj
  · have hj2 := (List.getElem?_eq_some_iff.1 hj).1
    simp at hj2
    obtain rfl : j = xs.length := by omega
    rw [List.getElem?_append_right (Nat.le_refl _)] at hj
    simp at hj
    subst hj
    exact ho
theorem or_of {t : ByteArray} {o : Oq} {k : Bool} (h : (k = true ∧ vOp o 4 3 = true ∧ otx o = t ∧ ∀ o' : Oq, vOp o' 4 3 = true → t = otx o' → o = o') ∨ (k = false ∧ o = O0 ∧ ∀ o' : Oq, vOp o' 4 3 = true → t ≠ otx o')) : OR t o := by
  rcases h with ⟨_, _, _, h⟩ | ⟨_, _, h⟩
  · exact h
  · exact fun o' hv he => absurd he (h o' hv)
/-- The numbers of a line. -/
def LL (t : ByteArray) (xs : List Int) (f : ByteArray) : Prop := ∀ p : List Int, digs p → p.length ≤ 4 → t = rowS f p → xs = p
theorem comp_same {s : ByteArray} {bits : Int} {ops : List Oq} {st fin : List Int} {m : Nat} (hm : (cut 10 s).length = m) (h0 : LL ((cut 10 s).getD 0 ⟨#[]⟩) st ⟨#[111, 110]⟩) (hz : LL ((cut 10 s).getD (m - 1) ⟨#[]⟩) fin ⟨#[97, 116]⟩)
    (hb : ∀ q : Int, 0 ≤ q → q ≤ 4 → (cut 10 s).getD 1 ⟨#[]⟩ = rowS ⟨#[98, 105, 116, 115]⟩ [q] → bits = q) (ho : RO (cut 10 s) ops) (hl : ops.length + 3 = m) (y : Cm) (hv : vC y = true) (he : s = ctx y) :
    (⟨(st.length : Int), bits, ops, st, fin⟩ : Cm) = y := by
  have V := vF hv
  have hw : cut 10 s = lines y := by rw [he, lines_cut hv]
  rw [hw] at hm h0 hz hb ho
  rw [lines_len3] at hm
  have e0 := h0 y.st V.sd V.sl (lines_0 y)
  have ez := hz y.fin V.fd V.fl (by rw [show m - 1 = y.ops.length + 2 by omega]; exact lines_z y)
  have eb := hb y.bits V.b0 V.b4 (lines_1 y)
  have eo : ops = y.ops := by
    apply List.ext_getElem?
    intro j
    by_cases hj : j < ops.length
    · have hx : ops[j]? = some ops[j] := List.getElem?_eq_getElem hj
      have hg : y.ops[j]? = some (y.ops[j]'(by omega)) := List.getElem?_eq_getElem (by omega)
      rw [hx, hg, ho j _ hx _ (V.ov _ (List.mem_of_getElem? hg)) (lines_op hg)]
    · rw [List.getElem?_eq_none (by omega), List.getElem?_eq_none (by omega)]
  have en := V.n
  obtain ⟨yn, yb, yo, ys, yf⟩ := y
  dsimp only at *
  subst e0 ez eb eo
  rw [en]
theorem comp_none_len {s : ByteArray} {m : Nat} (hm : (cut 10 s).length = m) (h : m < 3 ∨ 1203 < m) (y : Cm) (hv : vC y = true) : s ≠ ctx y := by
  intro he
  have hw : cut 10 s = lines y := by rw [he, lines_cut hv]
  rw [hw, lines_len3] at hm
  have := (vF hv).ol
  omega
theorem comp_none_op {s : ByteArray} {m j : Nat} (hm : (cut 10 s).length = m) (hj : j + 3 < m) (h : ∀ o : Oq, vOp o 4 3 = true → (cut 10 s).getD (j + 2) ⟨#[]⟩ ≠ otx o) (y : Cm) (hv : vC y = true) : s ≠ ctx y := by
  intro he
  have hw : cut 10 s = lines y := by rw [he, lines_cut hv]
  rw [hw] at hm h
  rw [lines_len3] at hm
  have hg : y.ops[j]? = some (y.ops[j]'(by omega)) := List.getElem?_eq_getElem (by omega)
  exact h _ ((vF hv).ov _ (List.mem_of_getElem? hg)) (lines_op hg)
theorem comp_none_other {s : ByteArray} {x : Cm} (h : ∀ y : Cm, vC y = true → s = ctx y → x = y) (hne : (ByteArray.toList (ctx x) == ByteArray.toList s) = false) (y : Cm) (hv : vC y = true) : s ≠ ctx y := by
  intro he
  have := h y hv he
  rw [this, ← he, str_beq_self] at hne
  cases hne
def C0 : Cm := ⟨0, 0, [], [], []⟩
def CR (s : ByteArray) (x : Cm) (ok : Bool) : Prop :=
  (ok = true ∧ vC x = true ∧ ctx x = s ∧ ∀ y : Cm, vC y = true → s = ctx y → x = y) ∨ (ok = false ∧ x = C0 ∧ ∀ y : Cm, vC y = true → s ≠ ctx y)
/-- The value: three rows of their own, the layouts below the operations. -/
def CV (w : World) (b0 b1 b2 b3 : Nat) (v : Value) (x : Cm) : Prop :=
  ∃ (A1 A2 A3 : Option Addr) (c1 c2 c3 : Nat), v = .agg #[.int .i64 x.n, .int .i64 x.bits, .slice A1 x.ops.length c1, .slice A2 x.st.length c2, .slice A3 x.fin.length c3] ∧
    (w.ownsRow b0 3 1 (.slice A2 x.st.length c2) x.st.length (icells x.st) ∧ (∀ g, (Value.slice A2 x.st.length c2).ownBlock = some g → g < b1)) ∧
    (w.ownsRow b1 3 1 (.slice A3 x.fin.length c3) x.fin.length (icells x.fin) ∧ (∀ g, (Value.slice A3 x.fin.length c3).ownBlock = some g → g < b2)) ∧
    (w.ownsRow b2 39 8 (.slice A1 x.ops.length c1) x.ops.length (ocells x.ops) ∧ (∀ g, (Value.slice A1 x.ops.length c1).ownBlock = some g → g < b3))
theorem CV.at_ {w : World} {b0 b1 b2 b3 : Nat} {v : Value} {x : Cm} (h : CV w b0 b1 b2 b3 v x) : CmAt w w.heap.size v x := by
  obtain ⟨A1, A2, A3, c1, c2, c3, rfl, ⟨h1, _⟩, ⟨h2, _⟩, ⟨h3, _⟩⟩ := h
  exact ⟨A1, A2, A3, c1, c2, c3, rfl, Rd.own h3, Rd.own h1, Rd.own h2⟩
theorem CV.ext {w w' : World} {b0 b1 b2 b3 : Nat} {v : Value} {x : Cm} (h : CV w b0 b1 b2 b3 v x) (hx : Ext w w') : CV w' b0 b1 b2 b3 v x := by
  obtain ⟨A1, A2, A3, c1, c2, c3, rfl, ⟨h1, l1⟩, ⟨h2, l2⟩, ⟨h3, l3⟩⟩ := h
  exact ⟨A1, A2, A3, c1, c2, c3, rfl, ⟨own_ext h1 hx, l1⟩, ⟨own_ext h2 hx, l2⟩, ⟨own_ext h3 hx, l3⟩⟩
def CompRes (s : ByteArray) (b0 : Nat) (e : Ending) (w' : World) : Prop := ∃ (v : Value) (x : Cm) (ok : Bool) (b1 b2 b3 : Nat), e = .returned (.tuple #[v, .bool ok]) ∧ CV w' b0 b1 b2 b3 v x ∧ (b0 ≤ b1 ∧ b1 ≤ b2 ∧ b3 ≤ w'.heap.size) ∧ x.small ∧ CR s x ok
theorem own_nilS (w : World) (B size : Nat) (e : TypeId) : w.ownsRow B e size (.slice none 0 0) 0 [] := ⟨by simp, .inl ⟨rfl, rfl⟩⟩
theorem compRes_no {s : ByteArray} {b0 : Nat} {e : Ending} {w' : World} (he : e = .returned (.tuple #[.agg #[.int .i64 0, .int .i64 0, .slice none 0 0, .slice none 0 0, .slice none 0 0], .bool false])) (h : ∀ y : Cm, vC y = true → s ≠ ctx y) : CompRes s b0 e w' :=
  ⟨_, C0, false, b0, b0, 0, he, ⟨none, none, none, 0, 0, 0, rfl, ⟨own_nilS _ _ _ _, fun g hg => by cases hg⟩, ⟨own_nilS _ _ _ _, fun g hg => by cases hg⟩, ⟨own_nilS _ _ _ _, fun g hg => by cases hg⟩⟩, ⟨Nat.le_refl _, Nat.le_refl _, Nat.zero_le _⟩, ⟨Nat.zero_le _, Nat.zero_le _, Nat.zero_le _⟩, .inr ⟨rfl, rfl, h⟩⟩
theorem gr_set_ (w : World) (g i : Nat) (u : Value) : w.grownBy (w.setCell ⟨g, i, none⟩ u) (some g) :=
  ⟨rfl, rfl, rfl, by simp [World.setCell], fun k hk hne => Below.heap_setCell w ⟨g, i, none⟩ u k (fun e => hne (by rw [e]))⟩
theorem own_far {w w' : World} {B size n : Nat} {e : TypeId} {v : Value} {xs : List Value} {row : Option Nat} (h : w.ownsRow B e size v n xs) (hg : w.grownBy w' row) (hne : ∀ k, v.ownBlock = some k → row ≠ some k) : w'.ownsRow B e size v n xs := by
  refine h.kept hg ?_
  cases hv : v.ownBlock with
  | none => exact .inl rfl
  | some q => exact .inr (fun e => hne q hv e.symm)
theorem own_ne_set {w : World} {B size n : Nat} {e : TypeId} {v : Value} {xs : List Value} (h : w.ownsRow B e size v n xs) {g : Nat} (hne : ∀ k, v.ownBlock = some k → k ≠ g) (i : Nat) (u : Value) : (w.setCell ⟨g, i, none⟩ u).ownsRow B e size v n xs :=
  own_far h (gr_set_ w g i u) (fun k hk e => hne k hk (by injection e with e; exact e.symm))
/-- The result being read: its header in block g, the layouts' rows, the operations in a row from block B on. -/
structure DQ (W1 w : World) (g b0 b1 B : Nat) (n bits : Int) (A : Option Addr) (len cap : Nat) (v2 : Value) (st : List Int) (v3 : Value) (fin : List Int) (xs : List Oq) : Prop where
  b : Blk w g 25 #[.int .i64 n, .int .i64 bits, .slice A len cap, v2, v3]
  o : w.ownsRow B 39 8 (.slice A len cap) len (ocells xs)
  r2 : w.ownsRow b0 3 1 v2 st.length (icells st)
  l2 : ∀ k, v2.ownBlock = some k → k < b1 ∧ k ≠ g
  r3 : w.ownsRow b1 3 1 v3 fin.length (icells fin)
  l3 : ∀ k, v3.ownBlock = some k → k < B ∧ k ≠ g
  x : Ext W1 w
  s : W1.heap.size ≤ g ∧ W1.heap.size ≤ b0
  z : b0 ≤ b1 ∧ b1 ≤ B ∧ g < B ∧ B ≤ w.heap.size
section
variable {W1 w w' : World} {g b0 b1 B : Nat} {n bits : Int} {A : Option Addr} {len cap : Nat} {v2 : Value} {st : List Int} {v3 : Value} {fin : List Int} {xs : List Oq}
theorem DQ.ext (h : DQ W1 w g b0 b1 B n bits A len cap v2 st v3 fin xs) (hx : Ext w w') : DQ W1 w' g b0 b1 B n bits A len cap v2 st v3 fin xs :=
  ⟨h.b.ext hx, own_ext h.o hx, own_ext h.r2 hx, h.l2, own_ext h.r3 hx, h.l3, h.x.trans hx, h.s, h.z.1, h.z.2.1, h.z.2.2.1, Nat.le_trans h.z.2.2.2 hx.size⟩
theorem DQ.setN (h : DQ W1 w g b0 b1 B n bits A len cap v2 st v3 fin xs) (M : Int) : DQ W1 (w.setCell ⟨g, 0, none⟩ (.int .i64 M)) g b0 b1 B M bits A len cap v2 st v3 fin xs :=
  ⟨h.b.set_ 0 _, own_set h.o (p := ⟨g, 0, none⟩) h.z.2.2.1 _, own_ne_set h.r2 (fun k hk => (h.l2 k hk).2) 0 _, h.l2, own_ne_set h.r3 (fun k hk => (h.l3 k hk).2) 0 _, h.l3, h.x.setCell (p := ⟨g, 0, none⟩) h.s.1 _, h.s, h.z.1, h.z.2.1, h.z.2.2.1, by simpa [World.setCell] using h.z.2.2.2⟩
theorem DQ.setB (h : DQ W1 w g b0 b1 B n bits A len cap v2 st v3 fin xs) (M : Int) : DQ W1 (w.setCell ⟨g, 1, none⟩ (.int .i64 M)) g b0 b1 B n M A len cap v2 st v3 fin xs :=
  ⟨h.b.set_ 1 _, own_set h.o (p := ⟨g, 1, none⟩) h.z.2.2.1 _, own_ne_set h.r2 (fun k hk => (h.l2 k hk).2) 1 _, h.l2, own_ne_set h.r3 (fun k hk => (h.l3 k hk).2) 1 _, h.l3, h.x.setCell (p := ⟨g, 1, none⟩) h.s.1 _, h.s, h.z.1, h.z.2.1, h.z.2.2.1, by simpa [World.setCell] using h.z.2.2.2⟩
theorem DQ.len_ (h : DQ W1 w g b0 b1 B n bits A len cap v2 st v3 fin xs) : xs.length = len := (Rd.own h.o).len Oq.cells_len (by omega)
end
theorem cutq_size {w : World} {B : Nat} (h : B ≤ w.heap.size) : ({ w with heap := w.heap.extract 0 B } : World).heap.size = B := by simp; omega
theorem cutq_ext {w : World} {B : Nat} (h : B ≤ w.heap.size) : Ext ({ w with heap := w.heap.extract 0 B } : World) w := by
  refine ⟨rfl, rfl, rfl, by rw [cutq_size h]; exact h, fun k hk => ?_⟩
  rw [cutq_size h] at hk
  simp [Array.getElem?_extract]
  omega
theorem grq_of_alloc {w w' : World} {o : Obj} {row : Option Nat} (h : (w.alloc o).grownBy w' row) : w.grownBy w' row :=
  ⟨h.os, h.tape, h.output, Nat.le_trans (by simp) h.size, fun k hk hne => (h.block k (by simp; omega) hne).trans (Below.heap_alloc w o k hk)⟩
theorem Tryz.sizeCompR : (Tryz.prog.info? 25).map (·.size) = some 5 := by kernel_rfl
theorem cells5 {w : World} {g t : Nat} {c0 c1 c2 c3 c4 : Value} (h : Blk w g t #[c0, c1, c2, c3, c4]) : (w.cell? ⟨g, 0, none⟩ = some c0 ∧ w.cell? ⟨g, 1, none⟩ = some c1 ∧ w.cell? ⟨g, 2, none⟩ = some c2 ∧ w.cell? ⟨g, 3, none⟩ = some c3 ∧ w.cell? ⟨g, 4, none⟩ = some c4) ∧ w.frozen? ⟨g, 0, none⟩ = false ∧ w.frozen? ⟨g, 1, none⟩ = false ∧ w.frozen? ⟨g, 2, none⟩ = false ∧ w.frozen? ⟨g, 3, none⟩ = false ∧ w.frozen? ⟨g, 4, none⟩ = false :=
  ⟨⟨h.cell 0, h.cell 1, h.cell 2, h.cell 3, h.cell 4⟩, h.frozen 0, h.frozen 1, h.frozen 2, h.frozen 3, h.frozen 4⟩
def put5 (w : World) (g : Nat) (c0 c1 c2 c3 c4 : Value) : World := ((((w.setCell ⟨g, 0, none⟩ c0).setCell ⟨g, 1, none⟩ c1).setCell ⟨g, 2, none⟩ c2).setCell ⟨g, 3, none⟩ c3).setCell ⟨g, 4, none⟩ c4
theorem Blk.put5 {w : World} {g t : Nat} {z0 z1 z2 z3 z4 : Value} (h : Blk w g t #[z0, z1, z2, z3, z4]) (c0 c1 c2 c3 c4 : Value) : Blk (put5 w g c0 c1 c2 c3 c4) g t #[c0, c1, c2, c3, c4] :=
  ((((h.set_ 0 c0).set_ 1 c1).set_ 2 c2).set_ 3 c3).set_ 4 c4
theorem ext_put5 {w0 w : World} (h : Ext w0 w) {g : Nat} (hg : w0.heap.size ≤ g) (c0 c1 c2 c3 c4 : Value) : Ext w0 (put5 w g c0 c1 c2 c3 c4) :=
  ((((h.setCell (p := ⟨g, 0, none⟩) hg c0).setCell (p := ⟨g, 1, none⟩) hg c1).setCell (p := ⟨g, 2, none⟩) hg c2).setCell (p := ⟨g, 3, none⟩) hg c3).setCell (p := ⟨g, 4, none⟩) hg c4
theorem own_put5 {w : World} {B size k : Nat} {e : TypeId} {v : Value} {xs : List Value} (h : w.ownsRow B e size v k xs) {g : Nat} (hg : g < B) (c0 c1 c2 c3 c4 : Value) : (put5 w g c0 c1 c2 c3 c4).ownsRow B e size v k xs :=
  own_set (own_set (own_set (own_set (own_set h (p := ⟨g, 0, none⟩) hg c0) (p := ⟨g, 1, none⟩) hg c1) (p := ⟨g, 2, none⟩) hg c2) (p := ⟨g, 3, none⟩) hg c3) (p := ⟨g, 4, none⟩) hg c4
theorem DQ.app {W1 w : World} {g b0 b1 B : Nat} {n bits : Int} {A : Option Addr} {len cap : Nat} {v2 : Value} {st : List Int} {v3 : Value} {fin : List Int} {xs : List Oq} (D : DQ W1 w g b0 b1 B n bits A len cap v2 st v3 fin xs) {ops : Array Oper} {rest : List Oper} {o : Oper} {a : Act} {Q : Exit → Act → World → Prop} (hgd : o.guard = none) (s x : Operand)
    (ho : o.op = .call { callee := .builtin .append, args := #[s, x], argTypes := #[22, 22] }) (hs : a.eval s = .slice A len cap)
    (y : Oq) (e : TypeId) (b : Nat) (hx : a.eval x = .slice (some ⟨b, 0, none⟩) 1 1) (hbs : b = w.heap.size) (hn : len ≤ 90000000)
    (h : ∀ A' c' w', Blk w' g 25 #[.int .i64 n, .int .i64 bits, .slice A len cap, v2, v3] → DQ W1 (w'.setCell ⟨g, 2, none⟩ (.slice A' (len + 1) c')) g b0 b1 B n bits A' (len + 1) c' v2 st v3 fin (xs ++ [y]) → wpList Tryz.prog ops Q rest (a.put o.dst (.slice A' (len + 1) c')) w') :
    wpList Tryz.prog ops Q (o :: rest) a (w.alloc (.cells #[.int .i64 y.k, .int .i64 y.g.k, .int .i64 y.g.a, .int .i64 y.g.b, .int .i64 y.g.c, .int .i64 y.q, .int .i64 y.bit, .int .i64 y.cond] e)) := by
  subst hbs
  have hB : B ≤ w.heap.size := D.z.2.2.2
  have hcs := cutq_size hB
  refine appOpS (w0 := { w with heap := w.heap.extract 0 B }) hgd s x ho _ len xs hs (by rw [hcs]; exact D.o.alloc _) ((cutq_ext hB).alloc _) _ 1 1 [y] hx (rd_new w _ e 8 _ (by simp [Oq.cells]) (by simp [Oq.cells])) (by omega) ?_
  intro v' w' h1 h2 h3 h4
  rw [hcs] at h1
  obtain ⟨A', c', rfl, _⟩ := own_slice h1
  have hgr : w.grownBy w' (Value.slice A len cap).ownBlock := grq_of_alloc h3
  have hlt : ∀ k, (Value.slice A len cap).ownBlock = some k → B ≤ k := fun k hk => (D.o.lt k hk).1
  have hgB := D.z.2.2.1
  have hb' : Blk w' g 25 #[.int .i64 n, .int .i64 bits, .slice A len cap, v2, v3] := D.b.grown hgr (fun k hk => by have := hlt k hk; omega)
  have hx' : Ext W1 w' := D.x.grown hgr (fun k hk => by have := hlt k hk; have := D.s.1; omega)
  have h2' : w'.ownsRow b0 3 1 v2 st.length (icells st) := own_far D.r2 hgr (fun k hk e => by have := hlt k e; have := (D.l2 k hk).1; have := D.z.2.1; omega)
  have h3' : w'.ownsRow b1 3 1 v3 fin.length (icells fin) := own_far D.r3 hgr (fun k hk e => by have := hlt k e; have := (D.l3 k hk).1; omega)
  exact h A' c' w' hb' ⟨hb'.set_ 2 _, own_set h1 (p := ⟨g, 2, none⟩) hgB _, own_ne_set h2' (fun k hk => (D.l2 k hk).2) 2 _, D.l2, own_ne_set h3' (fun k hk => (D.l3 k hk).2) 2 _, D.l3, hx'.setCell (p := ⟨g, 2, none⟩) D.s.1 _, D.s, D.z.1, D.z.2.1, hgB, by simpa [World.setCell] using Nat.le_trans hB hgr.size⟩
theorem ne_of_cut {s : ByteArray} {z : Nat} (h : (cut 10 s).length = z + 1) (hz : 2 ≤ z) : s ≠ ⟨#[]⟩ := by
  rintro rfl
  have : (cut 10 (⟨#[]⟩ : ByteArray)).length = 1 := rfl
  omega
theorem own_put5g {w : World} {B size n : Nat} {e : TypeId} {v : Value} {xs : List Value} (h : w.ownsRow B e size v n xs) {g : Nat} (hne : ∀ k, v.ownBlock = some k → k ≠ g) (c0 c1 c2 c3 c4 : Value) : (put5 w g c0 c1 c2 c3 c4).ownsRow B e size v n xs :=
  own_ne_set (own_ne_set (own_ne_set (own_ne_set (own_ne_set h hne 0 c0) hne 1 c1) hne 2 c2) hne 3 c3) hne 4 c4
theorem DQ.start {W1 w : World} {g b0 b1 B : Nat} {v2 : Value} {st : List Int} {v3 : Value} {fin : List Int} {z0 z1 z2 z3 z4 : Value} (hb : Blk w g 25 #[z0, z1, z2, z3, z4]) (r2 : w.ownsRow b0 3 1 v2 st.length (icells st)) (l2 : ∀ k, v2.ownBlock = some k → k < b1 ∧ k ≠ g)
    (r3 : w.ownsRow b1 3 1 v3 fin.length (icells fin)) (l3 : ∀ k, v3.ownBlock = some k → k < B ∧ k ≠ g) (x : Ext W1 w) (s : W1.heap.size ≤ g ∧ W1.heap.size ≤ b0) (z : b0 ≤ b1 ∧ b1 ≤ B ∧ g < B ∧ B ≤ w.heap.size) :
    DQ W1 (put5 w g (.int .i64 0) (.int .i64 0) (.slice none 0 0) v2 v3) g b0 b1 B 0 0 none 0 0 v2 st v3 fin [] :=
  ⟨hb.put5 _ _ _ _ _, own_nilS _ _ _ _, own_put5g r2 (fun k hk => (l2 k hk).2) _ _ _ _ _, l2, own_put5g r3 (fun k hk => (l3 k hk).2) _ _ _ _ _, l3, ext_put5 x s.1 _ _ _ _ _, s, z.1, z.2.1, z.2.2.1, by simpa [put5, World.setCell] using z.2.2.2⟩
/-- The result read is returned: its header is copied into block r, which lies below. -/
theorem compRes_yes {s : ByteArray} {W1 w : World} {g b0 b1 B r : Nat} {n bits : Int} {A A2 A3 : Option Addr} {len cap n2 c2 n3 c3 : Nat} {st fin : List Int} {xs : List Oq} {e : Ending} {q0 q1 q2 q3 q4 : Value} (D : DQ W1 w g b0 b1 B n bits A len cap (.slice A2 n2 c2) st (.slice A3 n3 c3) fin xs) (hr : r < W1.heap.size) (k0 : Nat) (hk0 : k0 ≤ b0)
    (hn2 : st.length = n2) (hn3 : fin.length = n3) (hsm : Cm.small ⟨n, bits, xs, st, fin⟩)
    (he : e = .returned (.tuple #[.agg #[.int .i64 n, .int .i64 bits, .slice A len cap, .slice A2 n2 c2, .slice A3 n3 c3], .bool true])) (hne : s ≠ ⟨#[]⟩) (ht : ctx ⟨n, bits, xs, st, fin⟩ = s) (h : ∀ y : Cm, vC y = true → s = ctx y → (⟨n, bits, xs, st, fin⟩ : Cm) = y) : CompRes s k0 e (put5 w r q0 q1 q2 q3 q4) := by
  have hl := D.len_
  subst hl hn2 hn3
  have hb0 := D.s.2
  refine ⟨_, ⟨n, bits, xs, st, fin⟩, true, b1, B, (put5 w r q0 q1 q2 q3 q4).heap.size, he, ⟨A, A2, A3, cap, c2, c3, rfl, ⟨own_base (own_put5 D.r2 (by omega) _ _ _ _ _) hk0, fun k hk => (D.l2 k hk).1⟩, ⟨own_put5 D.r3 (by have := D.z.1; omega) _ _ _ _ _, fun k hk => (D.l3 k hk).1⟩, ⟨own_put5 D.o (by have := D.z.1; have := D.z.2.1; omega) _ _ _ _ _, fun k hk => ((own_put5 D.o (g := r) (by have := D.z.1; have := D.z.2.1; omega) q0 q1 q2 q3 q4).lt k hk).2⟩⟩, ⟨by have := D.z.1; omega, D.z.2.1, Nat.le_refl _⟩, hsm, .inl ⟨rfl, ?_, ht, h⟩⟩
  cases hv : vC ⟨n, bits, xs, st, fin⟩
  · rw [ctx_no hv] at ht; exact absurd ht.symm hne
  · rfl
theorem DQ.fmt_spec {W1 w : World} {g b0 b1 B : Nat} {n bits : Int} {A A2 A3 : Option Addr} {len cap n2 c2 n3 c3 : Nat} {st fin : List Int} {xs : List Oq} (D : DQ W1 w g b0 b1 B n bits A len cap (.slice A2 n2 c2) st (.slice A3 n3 c3) fin xs) (hn2 : st.length = n2) (hn3 : fin.length = n3) (hs : Cm.small ⟨n, bits, xs, st, fin⟩) :
    Calls Tryz.prog 13 #[.agg #[.int .i64 n, .int .i64 bits, .slice A len cap, .slice A2 n2 c2, .slice A3 n3 c3]] w fun e w' => e = .returned (.string (ctx ⟨n, bits, xs, st, fin⟩)) ∧ Ext w w' := by
  have hl := D.len_
  subst hl hn2 hn3
  exact spec_FormatCompiled_cap A A2 A3 cap c2 c3 ⟨n, bits, xs, st, fin⟩ w (Rd.own D.o) (Rd.own D.r2) (Rd.own D.r3) (own_cap D.r2) (own_cap D.r3) hs
theorem DQ.fmt_impl {W1 w : World} {g b0 b1 B : Nat} {n bits : Int} {A A2 A3 : Option Addr} {len cap n2 c2 n3 c3 : Nat} {st fin : List Int} {xs : List Oq} (D : DQ W1 w g b0 b1 B n bits A len cap (.slice A2 n2 c2) st (.slice A3 n3 c3) fin xs) (hn2 : st.length = n2) (hn3 : fin.length = n3) (hs : Cm.small ⟨n, bits, xs, st, fin⟩) (hg : GN w) :
    Calls Tryz.prog 17 #[.agg #[.int .i64 n, .int .i64 bits, .slice A len cap, .slice A2 n2 c2, .slice A3 n3 c3]] w fun e w' => e = .returned (.string (ctx ⟨n, bits, xs, st, fin⟩)) ∧ Ext w w' := by
  have hl := D.len_
  subst hl hn2 hn3
  exact impl_FormatCompiled_at _ ⟨n, bits, xs, st, fin⟩ w ⟨A, A2, A3, cap, c2, c3, rfl, Rd.own D.o, Rd.own D.r2, Rd.own D.r3⟩ hs hg
end Go.Proofs.YteecjnnompjmiacGreatDoor
