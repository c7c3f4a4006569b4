/-
  Helper text (no claim of its own): the tableau of a circuit: plain facts. Printed by gen_tc.py.
-/
import Derived.Test.YtioimnplhmgbgaaGreatTbj
namespace Go.Proofs.YtioimnplhmgbgaaGreat
open Go.ChangeShapes Go.WideShapes Go.ChangeAt Go.RowKit Go.Deep
set_option linter.unusedVariables false
/-- The tableau of a circuit; none where there is none. -/
def tabF (n : Int) (gs : List Gt) : Option (List Pa) := if vCi n gs = true then tabN n gs else none
theorem tabF_no {n : Int} {gs : List Gt} (h : vCi n gs = false) : tabF n gs = none := by unfold tabF; rw [h]; rfl
theorem tabF_yes {n : Int} {gs : List Gt} (h : vCi n gs = true) : tabF n gs = tabN n gs := by unfold tabF; rw [h]; rfl
theorem vCi_bd {n : Int} {gs : List Gt} (h : vCi n gs = true) : 1 ≤ n ∧ n ≤ 4 := by
  unfold vCi at h
  simp only [Bool.and_eq_true, decide_eq_true_eq] at h
  exact ⟨h.1.1.1, h.1.1.2⟩
theorem tabN_snoc (n : Int) (gs : List Gt) (g : Gt) : tabN n (gs ++ [g]) = (tabN n gs).bind fun rs => tabG n rs g := by unfold tabN; rw [List.foldl_append]; rfl
theorem tabN_zero (n : Int) (gs : List Gt) : tabN n (gs.take 0) = some (idT n.toNat) := by rw [List.take_zero]; rfl
theorem tabN_step {n : Int} {gs : List Gt} {k : Nat} {g : Gt} {rs : List Pa} (hg : gs[k]? = some g) (h : tabN n (gs.take k) = some rs) : tabN n (gs.take (k + 1)) = tabG n rs g := by
  rw [List.take_add_one, hg]
  show tabN n (gs.take k ++ [g]) = _
  rw [tabN_snoc, h]; rfl
theorem foldNone (n : Int) : ∀ gs : List Gt, gs.foldl (fun t g => t.bind fun rs => tabG n rs g) (none : Option (List Pa)) = none
  | [] => rfl
  | g :: gs => by rw [List.foldl_cons]; exact foldNone n gs
theorem tabN_stop {n : Int} {gs : List Gt} {k : Nat} (h : tabN n (gs.take k) = none) : tabN n gs = none := by
  have e : tabN n gs = tabN n (gs.take k ++ gs.drop k) := by rw [List.take_append_drop]
  rw [e]
  unfold tabN at h ⊢
  rw [List.foldl_append, h]
  exact foldNone n _
theorem tabG_len {n : Int} {rs rs' : List Pa} {g : Gt} (h : tabG n rs g = some rs') : rs'.length = rs.length := by
  unfold tabG at h
  split at h
  · injection h with h; subst h; rw [List.length_map]
  · cases h
theorem idT_len (k : Nat) : (idT k).length = 2 * k := by unfold idT; rw [List.length_append, List.length_map, List.length_map, List.length_range]; omega
/-- Rows are kept where a block of two cells is written. -/
theorem rd_put2 {W : World} {q t n B : Nat} {z0 z1 : Value} {A : Option Addr} {xs : List Value} (h : Rd W B 4 A n xs) (hb : Blk W q t #[z0, z1]) (a b : Value) : Rd (put2 W q a b) B 4 A n xs := by
  refine ⟨h.1, fun hn => ?_⟩
  obtain ⟨b', o, e, hb', hc⟩ := h.2 hn
  refine ⟨b', o, e, hb', fun j u hu => ?_⟩
  have hne : b' ≠ q := by
    rintro rfl
    have hlen := h.1
    have h3 := hc 3 _ (List.getElem?_eq_getElem (by omega))
    rw [hb.cell] at h3
    rw [Array.getElem?_eq_none (by simp)] at h3
    cases h3
  have e1 : (put2 W q a b).heap[b']? = W.heap[b']? := (Below.heap_setCell _ ⟨q, 1, none⟩ b b' hne).trans (Below.heap_setCell _ ⟨q, 0, none⟩ a b' hne)
  exact (World.cell?_of_block (a := ⟨b', o + j, none⟩) e1).trans (hc j u hu)
theorem size_put2 (W : World) (q : Nat) (a b : Value) : (put2 W q a b).heap.size = W.heap.size := by simp [put2]
/-- What stands ahead of the tableau of a circuit. -/
def CG (w W : World) (A : Option Addr) (l c : Nat) (n : Int) (q : Nat) : Prop :=
  Blk W w.heap.size 26 #[.int .i64 n, .slice A l c] ∧ Blk W (w.heap.size + 1) 31 #[.int .i64 0, .slice none 0 0] ∧ w.heap.size + 2 ≤ q ∧ Ext w W
theorem CG.ext {w W W' : World} {A : Option Addr} {l c q : Nat} {n : Int} (h : CG w W A l c n q) (hx : Ext W W') : CG w W' A l c n q := ⟨h.1.ext hx, h.2.1.ext hx, h.2.2.1, h.2.2.2.trans hx⟩
theorem CG.put {w W : World} {A : Option Addr} {l c q : Nat} {n : Int} (h : CG w W A l c n q) (a b : Value) : CG w (put2 W q a b) A l c n q :=
  ⟨(h.1.far (p := ⟨q, 0, none⟩) (by have := h.2.2.1; show _ ≠ q; omega) a).far (p := ⟨q, 1, none⟩) (by have := h.2.2.1; show _ ≠ q; omega) b,
   (h.2.1.far (p := ⟨q, 0, none⟩) (by have := h.2.2.1; show _ ≠ q; omega) a).far (p := ⟨q, 1, none⟩) (by have := h.2.2.1; show _ ≠ q; omega) b, h.2.2.1, ext_put2 (g := q) h.2.2.2 (by have := h.2.2.1; omega) a b⟩
/-- A tableau in block q. -/
def CT (W : World) (n : Int) (q : Nat) (A : Option Addr) (m c : Nat) (rs : List Pa) : Prop :=
  Blk W q 31 #[.int .i64 n, .slice A m c] ∧ Rd W W.heap.size 4 A m (pcells rs) ∧ m ≤ c ∧ m ≤ 8 ∧ rs.length = m
theorem CT.ext {W W' : World} {n : Int} {q m c : Nat} {A : Option Addr} {rs : List Pa} (h : CT W n q A m c rs) (hx : Ext W W') : CT W' n q A m c rs := ⟨h.1.ext hx, h.2.1.ext hx, h.2.2⟩
/-- A tableau copied into block q. -/
theorem CT.copy {W : World} {n : Int} {q s m c : Nat} {A : Option Addr} {rs : List Pa} {z0 z1 : Value} (h : CT W n s A m c rs) (hb : Blk W q 31 #[z0, z1]) : CT (put2 W q (.int .i64 n) (.slice A m c)) n q A m c rs :=
  ⟨hb.put2 _ _, by rw [size_put2]; exact rd_put2 h.2.1 hb _ _, h.2.2⟩
theorem CT.fill {W : World} {n : Int} {s m c : Nat} {A : Option Addr} {rs : List Pa} {z0 z1 : Value} (hr : Rd W W.heap.size 4 A m (pcells rs)) (hc : m ≤ c) (h8 : m ≤ 8) (hl : rs.length = m) (hb : Blk W s 31 #[z0, z1]) : CT (put2 W s (.int .i64 n) (.slice A m c)) n s A m c rs :=
  ⟨hb.put2 _ _, by rw [size_put2]; exact rd_put2 hr hb _ _, hc, h8, hl⟩
theorem CT.out {W : World} {n : Int} {q m c r : Nat} {A : Option Addr} {rs : List Pa} {z0 z1 : Value} (h : CT W n q A m c rs) (hb : Blk W r 31 #[z0, z1]) (a b : Value) : TabOut n rs (.agg #[.int .i64 n, .slice A m c]) (put2 W r a b) := by
  obtain ⟨-, h2, h3, -, h5⟩ := h
  subst h5
  exact ⟨A, c, rfl, by rw [size_put2]; exact rd_put2 h2 hb _ _, h3⟩
theorem tabRes_get {n : Int} {rs : List Pa} {e : Ending} {w : World} {t : Option (List Pa)} {m : Nat} (ht : t = some rs) (hm : rs.length = m) (h : TabRes n t e w) : ∃ (A : Option Addr) (c : Nat), e = .returned (.tuple #[.agg #[.int .i64 n, .slice A m c], .bool true]) ∧ Rd w w.heap.size 4 A m (pcells rs) ∧ m ≤ c := by
  subst ht hm
  obtain ⟨v, he, A, c, rfl, hr, hc⟩ := h
  exact ⟨A, c, he, hr, hc⟩
theorem tabRes_off {n : Int} {e : Ending} {w : World} {t : Option (List Pa)} (ht : t = none) (h : TabRes n t e w) : e = .returned (.tuple #[.agg #[.int .i64 0, .slice none 0 0], .bool false]) := by subst ht; exact h
end Go.Proofs.YtioimnplhmgbgaaGreat
