/-
 Helper text (no claim of its own): words for slices that read as lists, and the last step of a law that leaves old memory alone.
-/
import Derived.Test.YtdjckjfclhjpcaaGreatRows
import Derived.WalkKit
import Derived.ProofKit
import Derived.OpenShut
import Derived.Below
import Derived.ReadAgain
import Derived.ChangeSame
import Derived.Laws.OwnMore
import Derived.Laws.Rows
import Derived.Deep.Draws
import Derived.Deep.Slices
import Derived.Deep.Fields
import Derived.Lib.Hide
import Derived.Lib.SmallJoins
import Derived.JoinedCond
import Derived.Deep.QuietTactic
import Derived.BigQuiet
import Derived.StillTailTactics
import Derived.Outline
import Derived.Maps.AppendAt
import Derived.Deep.AppendLies
import Derived.OwnWalk
import Derived.RegionTactic
import Derived.Deep.DeepCutAuto
import Derived.Deep.RegionHeld3
import Derived.OrdersHeld
namespace Go.Proofs.YtdjckjfclhjpcaaGreat
open Go.ChangeShapes Go.WideShapes Go.ChangeAt Go.RowKit Go.Deep

theorem own : ownKnob Tryz.prog.godebug = none := by kernel_rfl
theorem laidOut : laidOutB Tryz.prog = true := by kernel_rfl
theorem rowed : mapsRowed Tryz.prog = true := by kernel_rfl

theorem kids : Kids Tryz.prog (fun t => t < Tryz.prog.types.size) := kids_rows laidOut rowed
theorem slicesFull : ∀ t e, t < Tryz.prog.types.size → Tryz.prog.underlying t = some (.slice e) → 0 < Tryz.prog.cellsOf e := slices_full_of _ (by kernel_rfl)

/-- What the call did to memory: nothing that was there has changed. -/
abbrev Ext (w w' : World) : Prop := Below w.heap.size w w'

theorem Ext.refl (w : World) : Ext w w := Below.refl _ _
theorem Ext.trans {a b c : World} (h : Ext a b) (k : Ext b c) : Ext a c := Below.trans h (k.mono h.size)

theorem Ext.alloc {w w' : World} (h : Ext w w') (o : Obj) : Ext w (w'.alloc o) := Below.alloc h h.size o
theorem Ext.drew {w w' : World} (h : Ext w w') : Ext w w'.drew := Below.drew h
theorem Ext.drewN {w w' : World} (h : Ext w w') (n : Nat) : Ext w (w'.drewN n) := ⟨h.os, h.tape, h.output, h.size, h.block⟩
theorem Ext.setCell {w w' : World} (h : Ext w w') {p : Addr} (hp : w.heap.size ≤ p.block) (u : Value) : Ext w (w'.setCell p u) := Below.setCell h hp u
theorem ret_bool {a b : Bool} (h : a = b) : Ending.returned (.bool a) = .returned (.bool b) := by rw [h]
theorem take_snoc {α : Type} {l : List α} {k : Nat} {g : α} (h : l[k]? = some g) : l.take (k + 1) = l.take k ++ [g] := by
 obtain ⟨hk, rfl⟩ := List.getElem?_eq_some_iff.1 h
 rw [List.take_succ_eq_append_getElem hk]

section
variable {w w' : World} {B B' size n : Nat} {A : Option Addr} {xs : List Value}
/-- The slice value '.slice A n c' reads as the cells xs, and lies below block B. -/
def Rd (w : World) (B size : Nat) (A : Option Addr) (n : Nat) (xs : List Value) : Prop :=
 xs.length = n * size ∧ (0 < n → ∃ b o, A = some ⟨b, o, none⟩ ∧ b < B ∧ ∀ j u, xs[j]? = some u → w.cell? ⟨b, o + j, none⟩ = some u)
theorem Rd.keep (h : Rd w B size A n xs) (hk : ∀ p : Addr, p.block < B → w'.cell? p = w.cell? p) : Rd w' B size A n xs :=
 ⟨h.1, fun hn => by
  obtain ⟨b, o, e, hb, hc⟩ := h.2 hn
  exact ⟨b, o, e, hb, fun j u hu => (hk _ hb).trans (hc j u hu)⟩⟩
theorem Rd.more (h : Rd w B size A n xs) (hB : B ≤ B') : Rd w B' size A n xs :=
 ⟨h.1, fun hn => by
  obtain ⟨b, o, e, hb, hc⟩ := h.2 hn
  exact ⟨b, o, e, by omega, hc⟩⟩
theorem Rd.below (h : Rd w B size A n xs) (hb : Below B w w') : Rd w' B size A n xs := h.keep fun _ hp => hb.cell hp
theorem Rd.ext (h : Rd w w.heap.size size A n xs) (hb : Ext w w') : Rd w' w'.heap.size size A n xs := (h.below hb).more hb.size
theorem Rd.own {base : Nat} {e : TypeId} {c : Nat} (h : w.ownsRow base e size (.slice A n c) n xs) : Rd w w.heap.size size A n xs := by
 refine ⟨h.1, fun hn => ?_⟩
 rcases h.2 with ⟨_, h0⟩ | ⟨g, cap, cur, hv, _, hh, hnc, _, hs, hx⟩
 ·omega
 ·have hA : A = some ⟨g, 0, none⟩ := by injection hv
  subst hA
  refine ⟨g, 0, rfl, ?_, fun j u hu => ?_⟩
  ·rcases Nat.lt_or_ge g w.heap.size with hlt | hge
   ·exact hlt
   ·rw [Array.getElem?_eq_none hge] at hh; cases hh
  ·rw [cell_of_row w g _ cur e (0, 0) hh]
   rw [← hx] at hu
   have hj : j < n * size := by
    have h2 := (List.getElem?_eq_some_iff.1 hu).1
    rw [List.length_take] at h2
    omega
   rw [List.getElem?_take_of_lt hj] at hu
   simpa using hu
end

/-! ### Lists of equally long rows of cells -/
section
variable {α : Type} {f : α → List Value} {m : Nat}
theorem flat_len (hf : ∀ x, (f x).length = m) (xs : List α) : (xs.flatMap f).length = xs.length * m := by
 induction xs with
 | nil => simp
 | cons x xs ih => rw [List.flatMap_cons, List.length_append, ih, hf, List.length_cons, Nat.succ_mul, Nat.add_comm]
theorem flat_at (hf : ∀ x, (f x).length = m) (xs : List α) (i : Nat) (x : α) (h : xs[i]? = some x) (j : Nat) (hj : j < m) : (xs.flatMap f)[i * m + j]? = (f x)[j]? := by
 induction xs generalizing i with
 | nil => simp at h
 | cons y xs ih =>
  cases i with
  | zero =>
   simp at h; subst h
   rw [List.flatMap_cons, List.getElem?_append_left (by rw [hf]; omega), Nat.zero_mul, Nat.zero_add]
  | succ i =>
   simp at h
   rw [List.flatMap_cons, List.getElem?_append_right (by rw [hf, Nat.succ_mul]; omega), ← ih i h, hf]
   congr 1
   rw [Nat.succ_mul]; omega
/-- The cells of element i of a slice. -/
theorem elem_at {w : World} {B n i : Nat} {A : Option Addr} {xs : List α} (hf : ∀ x, (f x).length = m) (hm : 0 < m) (h : Rd w B m A n (xs.flatMap f)) (hi : i < n) :
  ∃ b o x, A = some ⟨b, o, none⟩ ∧ b < B ∧ xs[i]? = some x ∧ ∀ j u, (f x)[j]? = some u → w.cell? ⟨b, o + i * m + j, none⟩ = some u := by
 obtain ⟨b, o, rfl, hb, hc⟩ := h.2 (by omega)
 have hl := h.1
 rw [flat_len hf] at hl
 have hi' : i < xs.length := Nat.lt_of_lt_of_le hi (Nat.le_of_mul_le_mul_right (Nat.le_of_eq hl.symm) hm)
 refine ⟨b, o, xs[i], rfl, hb, by simp, fun j u hu => ?_⟩
 have hj : j < m := by rw [← hf xs[i]]; exact (List.getElem?_eq_some_iff.1 hu).1
 rw [Nat.add_assoc]
 exact hc _ u (by rw [flat_at hf xs i xs[i] (by simp) j hj]; exact hu)
theorem Rd.len {w : World} {B n : Nat} {A : Option Addr} {xs : List α} (hf : ∀ x, (f x).length = m) (hm : 0 < m) (h : Rd w B m A n (xs.flatMap f)) : xs.length = n := by
 have hl := h.1
 rw [flat_len hf] at hl
 exact Nat.eq_of_mul_eq_mul_right hm hl
end

/-! ### A row that is filled from its head on -/
/-- Block g is a row of N cells of element type e; its first k cells are those of xs. -/
def Part (w : World) (g : Nat) (e : TypeId) (N k : Nat) (xs : List Value) : Prop :=
 ∃ cur : Array Value, w.heap[g]? = some (.cells cur e (0, 0)) ∧ cur.size = N ∧ ∀ j, j < k → cur[j]? = xs[j]?
section
variable {w w' : World} {g N k : Nat} {e : TypeId} {xs : List Value}
theorem Part.start (w : World) (cur : Array Value) (e : TypeId) (xs : List Value) (h : cur.size = N) : Part (w.alloc (.cells cur e)) w.heap.size e N 0 xs :=
 ⟨cur, heap_alloc_new w _, h, fun j hj => absurd hj (by omega)⟩
theorem Part.lt (h : Part w g e N k xs) : g < w.heap.size := by
 obtain ⟨cur, hc, _, _⟩ := h
 rcases Nat.lt_or_ge g w.heap.size with hlt | hge
 ·exact hlt
 ·rw [Array.getElem?_eq_none hge] at hc; cases hc
theorem Part.ext (h : Part w g e N k xs) (hx : Ext w w') : Part w' g e N k xs := by
 have hl := h.lt
 obtain ⟨cur, hc, hs, hj⟩ := h
 exact ⟨cur, (hx.block g hl).trans hc, hs, hj⟩
theorem Part.cell (h : Part w g e N k xs) {j : Nat} (hj : j < N) : ∃ u, w.cell? ⟨g, j, none⟩ = some u := by
 obtain ⟨cur, hc, hs, _⟩ := h
 rw [cell_of_row w g j cur e (0, 0) hc]
 exact ⟨cur[j], Array.getElem?_eq_getElem (by omega)⟩
theorem Part.frozen (h : Part w g e N k xs) (j : Nat) : w.frozen? ⟨g, j, none⟩ = false := by
 obtain ⟨cur, hc, _, _⟩ := h
 exact frozen_of_row w g j cur e hc
theorem Part.set_ (h : Part w g e N k xs) {u : Value} (hu : xs[k]? = some u) (hk : k < N) : Part (w.setCell ⟨g, k, none⟩ u) g e N (k + 1) xs := by
 obtain ⟨cur, hc, hs, hj⟩ := h
 refine ⟨cur.setIfInBounds k u, heap_setCell_same w g k cur e u hc, by simpa using hs, fun j hjk => ?_⟩
 rw [Array.getElem?_setIfInBounds]
 by_cases e1 : k = j
 ·subst e1
  rw [if_pos rfl, if_pos (by omega), hu]
 ·rw [if_neg e1]
  exact hj j (by omega)
theorem Part.own {B n size : Nat} (h : Part w g e (n * size) (n * size) xs) (hl : xs.length = n * size) (hB : B ≤ g) (hn : n ≤ maxLen) : w.ownsRow B e size (.slice (some ⟨g, 0, none⟩) n n) n xs := by
 obtain ⟨cur, hc, hs, hj⟩ := h
 refine ⟨hl, .inr ⟨g, n, cur, rfl, hB, hc, Nat.le_refl _, hn, hs, ?_⟩⟩
 apply List.ext_getElem?
 intro j
 rcases Nat.lt_or_ge j (n * size) with hlt | hge
 ·rw [List.getElem?_take_of_lt hlt, ← hj j hlt]; simp
 ·rw [List.getElem?_eq_none (by rw [List.length_take]; omega), List.getElem?_eq_none (by omega)]
end
/-! ### Arguments, opened -/
theorem wf_u8 {n : Int} (h : (Lit.int .u8 n).wf = true) : 0 ≤ n ∧ n ≤ 255 := by
 simpa [Lit.wf, IntKind.min, IntKind.max, IntKind.signed, IntKind.bits] using h
/-- A 64-bit number. -/
def I64 (n : Int) : Prop := -9223372036854775808 ≤ n ∧ n ≤ 9223372036854775807
section
variable {H : Type} {enc : TypeId × Value → H} {P : Program} {w : World} {spare : Nat → Bool} {held : Bool} {α : Type}
/-- A slice whose elements are read as the cells 'f g' each. -/
theorem open_row {f : α → List Value} {m : Nat} {Pg : α → Prop} (hf : ∀ x, (f x).length = m) (hm : 0 < m) {t e : TypeId} (ht : P.underlying t = some (.slice e)) (hC : P.cellsOf e = m)
  (hel : ∀ n cs x, DataW.trod enc P w 0 spare held n e cs = some x → ∃ g, cs = f g ∧ Pg g) {n : Nat} {cs : List Value} {x : DataW H × List MemPlace} (h : DataW.trod enc P w 0 spare held n t cs = some x) :
  ∃ (A : Option Addr) (n c : Nat) (gs : List α), cs = [.slice A n c] ∧ n ≤ c ∧ c ≤ maxLen ∧ Rd w w.heap.size m A n (gs.flatMap f) ∧ ∀ g ∈ gs, Pg g := by
 rcases open_slice ht h with ⟨rfl, _⟩ | ⟨a, len, cap, M, n, D, Pl, rfl, _, hl, hmx, hM, hxe, hi⟩
 ·exact ⟨none, 0, 0, [], rfl, Nat.le_refl _, Nat.zero_le _, ⟨by simp, fun h => absurd h (by omega)⟩, by simp⟩
 ·have hle : len ≤ M := by rw [hM]; split <;> omega
  have hall : ∀ i, i < len → ∃ g, Pg g ∧ ∀ j, j < m → w.cell? ((a.add (i * m)).add j) = (f g)[j]? := by
   intro i hil
   obtain ⟨cs', hc, htr⟩ := hi i (by omega)
   obtain ⟨g, rfl, hg⟩ := hel _ _ _ htr
   rw [hC] at hc
   exact ⟨g, hg, (World.cells?_some hc).2.2⟩
  have hgs : ∃ gs : List α, gs.length = len ∧ (∀ g ∈ gs, Pg g) ∧ ∀ i g, gs[i]? = some g → ∀ j, j < m → w.cell? ((a.add (i * m)).add j) = (f g)[j]? := by
   clear hM hl hmx hle hi h hxe
   induction len with
   | zero => exact ⟨[], rfl, by simp, by simp⟩
   | succ len ih =>
    obtain ⟨gs, h1, h2, h3⟩ := ih (fun i hi => hall i (by omega))
    obtain ⟨g, hg, hc⟩ := hall len (by omega)
    refine ⟨gs ++ [g], by simp [h1], ?_, ?_⟩
    ·intro x hx
     rcases List.mem_append.1 hx with hx | hx
     ·exact h2 x hx
     ·simp at hx; subst hx; exact hg
    ·intro i x hx
     rcases Nat.lt_or_ge i gs.length with hil | hil
     ·rw [List.getElem?_append_left hil] at hx
      exact h3 i x hx
     ·rw [List.getElem?_append_right hil] at hx
      have hi0 : i = gs.length := by
       have := (List.getElem?_eq_some_iff.1 hx).1
       simp at this; omega
      subst hi0
      simp at hx
      subst hx
      rw [h1]; exact hc
  obtain ⟨gs, hgl, hgp, hgc⟩ := hgs
  refine ⟨some a, len, cap, gs, rfl, hl, hmx, ⟨by rw [flat_len hf, hgl], fun h0 => ?_⟩, hgp⟩
  have hsp : a.spot = none ∧ a.block < w.heap.size := by
   have hg0 : gs[0]? = some (gs[0]'(by omega)) := List.getElem?_eq_getElem (by omega)
   have hc0 := hgc 0 _ hg0 0 hm
   have e0 : (a.add (0 * m)).add 0 = a := by simp [Addr.add]
   have hs : (f (gs[0]'(by omega)))[0]? = some ((f (gs[0]'(by omega)))[0]'(by rw [hf]; exact hm)) := List.getElem?_eq_getElem _
   rw [e0, hs] at hc0
   refine ⟨?_, block_lt_of_cell hc0⟩
   unfold World.cell? at hc0
   split at hc0
   ·cases hsp : a.spot with
    | none => rfl
    | some _ => rw [hsp] at hc0; simp at hc0
   ·cases hc0
  obtain ⟨ab, ao, asp⟩ := a
  simp only at hsp
  obtain ⟨rfl, hlt⟩ := hsp
  refine ⟨ab, ao, rfl, hlt, fun j u hu => ?_⟩
  have hj : j < len * m := by
   have := (List.getElem?_eq_some_iff.1 hu).1
   rwa [flat_len hf, hgl] at this
  have hdm : j / m * m + j % m = j := by rw [Nat.mul_comm]; exact Nat.div_add_mod j m
  have hdl : j / m < len := Nat.div_lt_of_lt_mul (by rw [Nat.mul_comm]; exact hj)
  have hmod : j % m < m := Nat.mod_lt _ hm
  have hg0 : gs[j / m]? = some (gs[j / m]'(by omega)) := List.getElem?_eq_getElem (by omega)
  have hcc := hgc (j / m) _ hg0 (j % m) hmod
  have hfa := flat_at hf gs (j / m) _ hg0 (j % m) hmod
  rw [hdm, hu] at hfa
  rw [← hfa] at hcc
  rw [← hcc, add_add, hdm]
  by_cases hz : j = 0
  ·subst hz; rfl
  ·simp [Addr.add, hz]
end

/-! ### Lists compared; marks -/
/-- Equal lists, element by element. -/
def eqL {α : Type} (f : α → α → Bool) : List α → List α → Bool
 | [], [] => true
 | x :: xs, y :: ys => f x y && eqL f xs ys
 | _, _ => false
theorem eqL_len {α : Type} (f : α → α → Bool) : ∀ (xs ys : List α), xs.length ≠ ys.length → eqL f xs ys = false
 | [], [], h => absurd rfl h
 | [], _ :: _, _ => rfl
 | _ :: _, [], _ => rfl
 | x :: xs, y :: ys, h => by
  rw [eqL, eqL_len f xs ys (by simpa using h), Bool.and_false]
theorem eqL_false {α : Type} (f : α → α → Bool) : ∀ {xs ys : List α} {k : Nat} {x y : α}, xs[k]? = some x → ys[k]? = some y → f x y = false → eqL f xs ys = false
 | [], _, _, _, _, h, _, _ => by simp at h
 | _ :: _, [], _, _, _, _, h, _ => by simp at h
 | a :: xs, b :: ys, 0, x, y, h, h', hf => by
  simp at h h'
  subst h h'
  rw [eqL, hf, Bool.false_and]
 | a :: xs, b :: ys, k + 1, x, y, h, h', hf => by
  simp at h h'
  rw [eqL, eqL_false f h h' hf, Bool.and_false]
theorem eqL_snoc {α : Type} (f : α → α → Bool) : ∀ {xs ys : List α} {k : Nat} {x y : α}, xs[k]? = some x → ys[k]? = some y → eqL f (xs.take (k + 1)) (ys.take (k + 1)) = (eqL f (xs.take k) (ys.take k) && f x y)
 | [], _, _, _, _, h, _ => by simp at h
 | _ :: _, [], _, _, _, _, h => by simp at h
 | a :: xs, b :: ys, 0, x, y, h, h' => by
  simp at h h'
  subst h h'
  simp [eqL]
 | a :: xs, b :: ys, k + 1, x, y, h, h' => by
  simp at h h'
  rw [List.take_succ_cons, List.take_succ_cons, eqL, eqL_snoc f h h', List.take_succ_cons, List.take_succ_cons, eqL, Bool.and_assoc]
theorem eqL_self {α : Type} (f : α → α → Bool) (hf : ∀ x, f x x = true) : ∀ xs : List α, eqL f xs xs = true
 | [] => rfl
 | x :: xs => by rw [eqL, hf, eqL_self f hf xs, Bool.and_true]

theorem own_slice {w : World} {B e size n : Nat} {v : Value} {xs : List Value} (h : w.ownsRow B e size v n xs) : ∃ A c, v = .slice A n c ∧ Rd w w.heap.size size A n xs := by
 rcases h.2 with ⟨rfl, rfl⟩ | ⟨g, cap, cur, rfl, _⟩
 ·exact ⟨none, 0, rfl, Rd.own h⟩
 ·exact ⟨_, _, rfl, Rd.own h⟩
section
variable {w w' : World} {B e size n c : Nat} {A : Option Addr} {xs : List Value}
theorem own_head (h : w.ownsRow B e size (.slice A n c) n xs) (hn : 0 < n) : ∃ g, A = some ⟨g, 0, none⟩ ∧ n ≤ c := by
 rcases h.2 with ⟨_, h0⟩ | ⟨g', cap, cur, hv, hB, hc, hnc, _, hs, _⟩
 ·omega
 ·injection hv with h1 _ h3
  subst h1 h3
  exact ⟨g', rfl, hnc⟩
end

/-! ### append onto a row of the call's own -/
section
variable {P : Program} {w0 w : World}
theorem run_app (t ty e : TypeId) (i : TypeInfo) (z : Value) (size bytes : Nat) (ht : P.underlying t = some (.slice e)) (hi : P.info? e = some i) (hz : i.zero = some z)
  (hsize : i.size = size) (hby : i.bytes = bytes) (hzs : z.cells.size = size) (hsz : 0 < size) (hb2 : bytes ≤ 70)
  (v : Value) (n : Nat) (xs : List Value) (hown : w.ownsRow w0.heap.size e size v n xs) (hx0 : Ext w0 w)
  (A : Option Addr) (m c : Nat) (news : List Value) (hr : Rd w w.heap.size size A m news) (h1 : ∀ u ∈ news, u.oneCell' = true) (hn : n + m ≤ 2000000000000) :
  ∃ v' w', (Builtin.append_ #[t, t] ty #[v, .slice A m c]).run P w = .ok v' w' ∧ w'.ownsRow w0.heap.size e size v' (n + m) (xs ++ news) ∧ Ext w0 w' ∧ w.grownBy w' v.ownBlock ∧
   (v'.ownBlock = v.ownBlock ∨ v'.ownBlock = some w.heap.size) := by
 have hbytes : (n + m) * bytes ≤ 140737488355328 := Nat.le_trans (Nat.mul_le_mul hn hb2) (by omega)
 have fin : ∀ w', w.grownBy w' v.ownBlock → Ext w0 w' := fun w' hg => Below.grown hx0 hg hx0.size (fun k hk => (hown.lt k hk).1)
 rcases A with _ | ad
 ·have hm : m = 0 := by
   rcases Nat.eq_zero_or_pos m with h0 | h0
   ·exact h0
   ·obtain ⟨b, o, h, _⟩ := hr.2 h0
    cases h
  subst hm
  have hn0 : news = [] := List.eq_nil_of_length_eq_zero (by simpa using hr.1)
  subst hn0
  refine ⟨v, w, ?_, by simpa using hown, hx0, World.grownBy.refl w _, .inl rfl⟩
  rcases hown.2 with ⟨rfl, rfl⟩ | ⟨g, cap, cur, rfl, _, _, hnc, _⟩
  ·simp [Builtin.append_, run_underlying ht, sizeOf, typeInfo, hi, Builtin.lenOf, Builtin.firstCells]
  ·simp [Builtin.append_, run_underlying ht, sizeOf, typeInfo, hi, Builtin.lenOf, Builtin.firstCells, hnc, storeCells]
 ·have hcells : ∀ j u, news[j]? = some u → w.cell? (ad.add j) = some u := by
   intro j u hu
   rcases Nat.eq_zero_or_pos m with h0 | h0
   ·subst h0
    have hn0 : news = [] := List.eq_nil_of_length_eq_zero (by simpa using hr.1)
    subst hn0
    simp at hu
   ·obtain ⟨b, o, h, _, hc⟩ := hr.2 h0
    injection h with h
    subst h
    have := hc j u hu
    by_cases hj : j = 0
    ·subst hj; exact this
    ·simpa [Addr.add, hj] using this
  obtain ⟨v', w', hrun, h2, h3, _, h5⟩ := run_append_own_at (P := P) w w0.heap.size t ty e i z size bytes ht hi hz hsize hby hzs hsz v n xs hown ad m c news hr.1 hcells h1 (by unfold maxLen; omega) hbytes hx0.size
  exact ⟨v', w', hrun, h2, fin w' h3, h3, h5⟩
theorem wp_app {o : Oper} {a : Act} {K : Act → World → Prop} {Q : Exit → Act → World → Prop} (s x : Operand) (t : TypeId)
  (ho : o.op = .call { callee := .builtin .append, args := #[s, x], argTypes := #[t, t] })
  (e : TypeId) (i : TypeInfo) (z : Value) (size bytes : Nat) (ht : P.underlying t = some (.slice e)) (hi : P.info? e = some i) (hz : i.zero = some z)
  (hsize : i.size = size) (hby : i.bytes = bytes) (hzs : z.cells.size = size) (hsz : 0 < size) (hb2 : bytes ≤ 70)
  (v : Value) (n : Nat) (xs : List Value) (hs : a.eval s = v) (hown : w.ownsRow w0.heap.size e size v n xs) (hx0 : Ext w0 w)
  (A : Option Addr) (m c : Nat) (news : List Value) (hx : a.eval x = .slice A m c) (hr : Rd w w.heap.size size A m news) (h1 : ∀ u ∈ news, u.oneCell' = true) (hn : n + m ≤ 2000000000000)
  (h : ∀ v' w', w'.ownsRow w0.heap.size e size v' (n + m) (xs ++ news) → Ext w0 w' → w.grownBy w' v.ownBlock → (v'.ownBlock = v.ownBlock ∨ v'.ownBlock = some w.heap.size) → K (a.put o.dst v') w') : o.wp P a w K Q := by
 obtain ⟨v', w', hrun, h2, h3, h4, h5⟩ := run_app (P := P) t o.type e i z size bytes ht hi hz hsize hby hzs hsz hb2 v n xs hown hx0 A m c news hr h1 hn
 unfold Oper.wp execOp
 simp only [ho, resolve, invoke, builtin, Sem.run_bind, Sem.run_pure, Result.andThen_ok, List.map_toArray, List.map_cons, List.map_nil, hs, hx, hrun]
 exact h v' w' h2 h3 h4 h5
theorem wpList_app {ops : Array Oper} {rest : List Oper} {o : Oper} {a : Act} {Q : Exit → Act → World → Prop} (hgd : o.guard = none) (s x : Operand) (t : TypeId)
  (ho : o.op = .call { callee := .builtin .append, args := #[s, x], argTypes := #[t, t] })
  (e : TypeId) (i : TypeInfo) (z : Value) (size bytes : Nat) (ht : P.underlying t = some (.slice e)) (hi : P.info? e = some i) (hz : i.zero = some z)
  (hsize : i.size = size) (hby : i.bytes = bytes) (hzs : z.cells.size = size) (hsz : 0 < size) (hb2 : bytes ≤ 70)
  (v : Value) (n : Nat) (xs : List Value) (hs : a.eval s = v) (hown : w.ownsRow w0.heap.size e size v n xs) (hx0 : Ext w0 w)
  (A : Option Addr) (m c : Nat) (news : List Value) (hx : a.eval x = .slice A m c) (hr : Rd w w.heap.size size A m news) (h1 : ∀ u ∈ news, u.oneCell' = true) (hn : n + m ≤ 2000000000000)
  (h : ∀ v' w', w'.ownsRow w0.heap.size e size v' (n + m) (xs ++ news) → Ext w0 w' → w.grownBy w' v.ownBlock → (v'.ownBlock = v.ownBlock ∨ v'.ownBlock = some w.heap.size) → wpList P ops Q rest (a.put o.dst v') w') : wpList P ops Q (o :: rest) a w :=
 wpList_plain hgd fun _ hK => wp_app s x t ho e i z size bytes ht hi hz hsize hby hzs hsz hb2 v n xs hs hown hx0 A m c news hx hr h1 hn fun v' w' h2 h3 h4 h5 => hK _ _ (h v' w' h2 h3 h4 h5)
theorem step_app {ops : Array Oper} {o : Oper} {a : Act} {K : Act → World → Prop} {Q : Exit → Act → World → Prop} {E : Prop} (hgd : o.guard = none) (s x : Operand) (t : TypeId)
  (ho : o.op = .call { callee := .builtin .append, args := #[s, x], argTypes := #[t, t] })
  (e : TypeId) (i : TypeInfo) (z : Value) (size bytes : Nat) (ht : P.underlying t = some (.slice e)) (hi : P.info? e = some i) (hz : i.zero = some z)
  (hsize : i.size = size) (hby : i.bytes = bytes) (hzs : z.cells.size = size) (hsz : 0 < size) (hb2 : bytes ≤ 70)
  (v : Value) (n : Nat) (xs : List Value) (hs : a.eval s = v) (hown : w.ownsRow w0.heap.size e size v n xs) (hx0 : Ext w0 w)
  (A : Option Addr) (m c : Nat) (news : List Value) (hx : a.eval x = .slice A m c) (hr : Rd w w.heap.size size A m news) (h1 : ∀ u ∈ news, u.oneCell' = true) (hn : n + m ≤ 2000000000000)
  (h : ∀ v' w', w'.ownsRow w0.heap.size e size v' (n + m) (xs ++ news) → Ext w0 w' → w.grownBy w' v.ownBlock → (v'.ownBlock = v.ownBlock ∨ v'.ownBlock = some w.heap.size) → K (a.put o.dst v') w') :
  if Region.wanted o (yielded ops a.tmps) = true then Oper.wp P o a w K Q else E := by
 have hw : Region.wanted o (yielded ops a.tmps) = true := by simp [Region.wanted, hgd]
 rw [if_pos hw]
 exact wp_app s x t ho e i z size bytes ht hi hz hsize hby hzs hsz hb2 v n xs hs hown hx0 A m c news hx hr h1 hn h
/-- The newest block, read as a slice of one element. -/
theorem rd_new (W : World) (cs : Array Value) (e : TypeId) (size : Nat) (news : List Value) (hc : cs.toList = news) (hl : news.length = size) : Rd (W.alloc (.cells cs e)) (W.alloc (.cells cs e)).heap.size size (some ⟨W.heap.size, 0, none⟩) 1 news := by
 subst hc
 refine ⟨by omega, fun _ => ⟨W.heap.size, 0, rfl, by simp, fun j u hu => ?_⟩⟩
 rw [cell_of_row _ W.heap.size _ cs e (0, 0) (heap_alloc_new W _)]
 simpa using hu
/-- A literal of n elements. -/
theorem own_lit {w0 W : World} (h : Ext w0 W) (b e size n : Nat) (cs : Array Value) (xs : List Value) (hb : b = W.heap.size) (hc : cs.toList = xs) (hs : cs.size = n * size) (hn : n ≤ 1000) : (W.alloc (.cells cs e)).ownsRow w0.heap.size e size (.slice (some ⟨b, 0, none⟩) n n) n xs := by
 subst hc hb
 exact ⟨by simpa using hs, .inr ⟨W.heap.size, n, cs, rfl, h.size, heap_alloc_new W _, Nat.le_refl _, by unfold maxLen; omega, hs, by rw [List.take_of_length_le (by simp; omega)]⟩⟩
/-- The newest block, read as a slice of n elements. -/
theorem rd_newN (W : World) (cs : Array Value) (b e n size : Nat) (news : List Value) (hb : b = W.heap.size) (hc : cs.toList = news) (hl : news.length = n * size) : Rd (W.alloc (.cells cs e)) (W.alloc (.cells cs e)).heap.size size (some ⟨b, 0, none⟩) n news := by
 subst hc hb
 refine ⟨hl, fun _ => ⟨W.heap.size, 0, rfl, by simp, fun j u hu => ?_⟩⟩
 rw [cell_of_row _ W.heap.size _ cs e (0, 0) (heap_alloc_new W _)]
 simpa using hu
/-- A literal of no elements. -/
theorem own_empty (w0 W : World) (e : TypeId) (size : Nat) (h : Ext w0 W) : (W.alloc (.cells #[] e)).ownsRow w0.heap.size e size (.slice (some ⟨W.heap.size, 0, none⟩) 0 0) 0 [] :=
 ⟨by simp, .inr ⟨W.heap.size, 0, #[], rfl, h.size, heap_alloc_new W _, Nat.le_refl _, Nat.zero_le _, by simp, by simp⟩⟩
end

section
variable {w w' : World} {B size n : Nat} {A : Option Addr} {xs : List Value} {row : Option Nat}
theorem Rd.grown (h : Rd w B size A n xs) (hg : w.grownBy w' row) (hB : B ≤ w.heap.size) (hr : ∀ g, row = some g → B ≤ g) : Rd w' B size A n xs :=
 h.keep fun p hp => World.cell?_of_block (hg.block p.block (by omega) (fun e => by have := hr _ e.symm; omega))
theorem Rd.up (h : Rd w B size A n xs) (hx : Ext w w') (hB : B ≤ w.heap.size) : Rd w' B size A n xs := h.below (hx.mono hB)
/-- The bound of an older reading of the same slice. -/
theorem Rd.bd {w0 : World} {B' : Nat} {ys : List Value} (h : Rd w B' size A n xs) (h0 : Rd w0 B size A n ys) (_ : True) : Rd w B size A n xs :=
 ⟨h.1, fun hn => by
  obtain ⟨b, o, e, hb, hc⟩ := h.2 hn
  obtain ⟨b', o', e', hb', _⟩ := h0.2 hn
  rw [e] at e'
  injection e' with e'
  injection e' with e1
  exact ⟨b, o, e, by omega, hc⟩⟩
/-- A row of the call's own is kept where an older block alone was written. -/
theorem own_kept {base e : Nat} {v : Value} (h : w.ownsRow base e size v n xs) (hg : w.grownBy w' row) (hr : ∀ g, row = some g → g < base) : w'.ownsRow base e size v n xs := by
 refine h.kept hg ?_
 cases hv : v.ownBlock with
 | none => exact .inl rfl
 | some k =>
  right
  intro e1
  have h1 := (h.lt k hv).1
  have h2 := hr k e1.symm
  omega
/-- A row of the call's own is kept where nothing old was written. -/
theorem own_ext {base e : Nat} {v : Value} (h : w.ownsRow base e size v n xs) (hx : Ext w w') : w'.ownsRow base e size v n xs :=
 h.kept (row := none) ⟨hx.os, hx.tape, hx.output, hx.size, fun k hk _ => hx.block k hk⟩ (by cases hv : v.ownBlock <;> simp)
theorem Ext.grown {w0 : World} (h : Ext w0 w) (hg : w.grownBy w' row) (hr : ∀ g, row = some g → w0.heap.size ≤ g) : Ext w0 w' := Below.grown h hg h.size hr
end

theorem own_base {w : World} {base base' e size n : Nat} {v : Value} {xs : List Value} (h : w.ownsRow base e size v n xs) (hb : base' ≤ base) : w.ownsRow base' e size v n xs := by
 refine ⟨h.1, ?_⟩
 rcases h.2 with h0 | ⟨g, cap, cur, hv, hB, r⟩
 ·exact .inl h0
 ·exact .inr ⟨g, cap, cur, hv, Nat.le_trans hb hB, r⟩
theorem own_set {w : World} {base e size n : Nat} {v : Value} {xs : List Value} (h : w.ownsRow base e size v n xs) {p : Addr} (hp : p.block < base) (u : Value) : (w.setCell p u).ownsRow base e size v n xs := ownsRow_setCell_below h hp u
theorem quiet_more {P : Program} {f : FuncId} {args : Array Value} {w : World} {a n : Nat} {v : Value}
  (h : Calls P f args (w.drewN (a + n)) fun e w' => e = .returned v ∧ w.drewN (a + n) = w') : Calls P f args (w.drewN (a + n)) fun e w'' => e = .returned v ∧ ∃ m, w'' = w.drewN (a + m) :=
 h.mono fun _ _ ⟨he, hm⟩ => ⟨he, n, hm.symm⟩
/-- Block g is just the cells cs. -/
def Blk (w : World) (g : Nat) (t : TypeId) (cs : Array Value) : Prop := w.heap[g]? = some (.cells cs t (0, 0))
section
variable {w w' : World} {g t : Nat} {cs : Array Value}
theorem Blk.new (w : World) (t : TypeId) (cs : Array Value) : Blk (w.alloc (.cells cs t)) w.heap.size t cs := heap_alloc_new w _
theorem Blk.newAt {w : World} {t : TypeId} {cs : Array Value} {b : Nat} (hb : b = w.heap.size) : Blk (w.alloc (.cells cs t)) b t cs := by subst hb; exact heap_alloc_new w _
theorem Blk.set_ (h : Blk w g t cs) (i : Nat) (u : Value) : Blk (w.setCell ⟨g, i, none⟩ u) g t (cs.setIfInBounds i u) := heap_setCell_same w g i cs t u h
theorem Blk.far (h : Blk w g t cs) {p : Addr} (hp : g ≠ p.block) (u : Value) : Blk (w.setCell p u) g t cs := (Below.heap_setCell w p u g hp).trans h
theorem Blk.lt (h : Blk w g t cs) : g < w.heap.size := by
 rcases Nat.lt_or_ge g w.heap.size with hlt | hge
 ·exact hlt
 ·unfold Blk at h; rw [Array.getElem?_eq_none hge] at h; cases h
theorem Blk.cell (h : Blk w g t cs) (i : Nat) : w.cell? ⟨g, i, none⟩ = cs[i]? := cell_of_row w g i cs t (0, 0) h
theorem Blk.frozen (h : Blk w g t cs) (i : Nat) : w.frozen? ⟨g, i, none⟩ = false := frozen_of_row w g i cs t h
theorem Blk.ext (h : Blk w g t cs) (hx : Ext w w') : Blk w' g t cs := (hx.block g h.lt).trans h
theorem Blk.drew (h : Blk w g t cs) : Blk w.drew g t cs := h
theorem Blk.alloc (h : Blk w g t cs) (o : Obj) : Blk (w.alloc o) g t cs := (Below.heap_alloc w o g h.lt).trans h
theorem Blk.grown {row : Option Nat} (h : Blk w g t cs) (hg : w.grownBy w' row) (hne : ∀ k, row = some k → g ≠ k) : Blk w' g t cs := (hg.block g h.lt (fun e => hne g e.symm rfl)).trans h
end

theorem trodAll_carry {H : Type} {enc : TypeId × Value → H} {P : Program} {W W' : World} {base : Nat} {sp : Nat → Bool} {held : Bool} : ∀ {ts : List TypeId} {vs : List Value} {ds : List (DataW H)} {ps : List MemPlace},
  DataW.TrodAll enc P W base sp held ts vs ds ps → (∀ p ∈ ps, W.sameAt W' p) → DataW.TrodAll enc P W' base sp held ts vs ds ps
 | [], [], [], _, h, _ => h
 | _ :: _, _ :: _, _ :: _, _, ⟨p, q, ⟨n, h1⟩, h2, e⟩, hs => ⟨p, q, ⟨n, DataW.trod_carry n _ _ _ h1 (fun x hx => hs x (by rw [e]; exact List.mem_append_left _ hx))⟩, trodAll_carry h2 (fun x hx => hs x (by rw [e]; exact List.mem_append_right _ hx)), e⟩

/-- The end of a law over slices, structs and numbers: it returned true and left old memory alone. -/
theorem law_post {H : Type} {enc : TypeId × Value → H} {f : Func} {s : ChangeSpec} {W W' : World} {args : Array Value} {ds gs : List (DataW H)} {before : List MemPlace}
  (hv : s.vars = []) (hparams : ∀ t ∈ f.params.toList, t < Tryz.prog.types.size) (hrt : f.resultTypes = #[4])
  (hW : DataW.Whole enc Tryz.prog f.params.toList s.vars false W args.toList ds gs before)
  (hres : (s.fn H ds).results = [.lit (.bool true)]) (hargs : (s.fn H ds).args = ds) (hvars : (s.fn H ds).vars = [])
  (hb : Ext W W') : s.post enc Tryz.prog f false true false false W args (.bool true) W' := by
 have hW' := hW
 obtain ⟨p, q, hA, hV, hpq, hfz, hnd⟩ := hW
 rw [hv] at hV
 obtain ⟨rfl, rfl⟩ := trodVars_none hV
 rw [List.append_nil] at hpq
 subst hpq
 have hlt : ∀ x ∈ before, x.block < W.heap.size := hA.lt
 have hA2 : DataW.TrodAll enc Tryz.prog W' 0 (fun b => decide (b < W.heap.size)) true f.params.toList args.toList ds before :=
  trodAll_carry (DataW.TrodAll.respare (T := fun t => t < Tryz.prog.types.size) kids slicesFull hparams hA (fun x hx => by simpa using hlt x hx)) (fun x hx => hb.same (hlt x hx))
 have hk : W.keptBut W' (fun p => p ∈ before ∧ (p ∈ ([] : List MemPlace) ∨ p ∈ before ∨ p ∈ ([] : List MemPlace))) :=
  World.keptBut_mono (may := (· ∈ before)) (fun x hx => And.intro hx (Or.inr (Or.inl hx))) (hb.frame (· ∈ before))
 refine ⟨ds, [], before, [], before, [], hW', ?_, ?_, ?_, hk, fun h => Bool.noConfusion h⟩
 ·rw [hrt, List.append_nil, hres]
  exact trodAll_cons_mk (shut_bool Tryz.underlying4 _) trodAll_mk0
 ·rw [List.append_nil, hargs]
  exact hA2
 ·rw [hv, List.append_nil, hvars]
  rfl
/-! ### a drawn region by hand, in short -/
theorem L1 {α : Type} {xs : List α} {i : Nat} (h : i < xs.toArray.size) : xs.toArray[i]'h = xs[i]'h := rfl
theorem L2 {α : Type} {a : α} {l : List α} (h : 0 < (a :: l).length) : (a :: l)[0]'h = a := rfl
theorem L3 {α : Type} {a : α} {l : List α} {n : Nat} (h : n + 1 < (a :: l).length) : (a :: l)[n + 1]'h = l[n]'(Nat.lt_of_succ_lt_succ h) := rfl
theorem L4 {α : Type} {l : List α} {i : Nat} {x : α} : l.toArray.setIfInBounds i x = (l.set i x).toArray := List.setIfInBounds_toArray ..
theorem L5 {α : Type} {x b : α} {l : List α} : (x :: l).set 0 b = b :: l := rfl
theorem L6 {α : Type} {x b : α} {l : List α} {n : Nat} : (x :: l).set (n + 1) b = x :: l.set n b := rfl
section
variable {P : Program} {ops : Array Oper} {Q : Exit → Act → World → Prop} {md : Region.Mode} {S : World → Prop}
theorem tk (i : Nat) {oi : Oper} {v : Value} {fuel : Nat} {listed : Array Bool} {a : Act} {w : World} (hy : ∀ w, S w → (execOp a.eval oi).run P w = .ok (.value v) w) (h : wpAnyH P md ops Q S fuel (listed.setIfInBounds i true) (a.put oi.dst v) w)
  (hi : ops[i]? = some oi := by rfl) (hs : Region.noSelect ops = true := by kernel_rfl) (hf : Region.free md ops listed i = true := by kernel_rfl) (hr : (Region.ready md ops listed).contains i = true := by kernel_rfl)
  (hQ : ∀ c a w, Q (.panic c) (a.put oi.dst v) w → Q (.panic c) a w := by exact fun _ _ _ h => h) (hw : Region.wanted oi (yielded ops a.tmps) = true := by rfl) (hS : S w := by assumption) : wpAnyH P md ops Q S (fuel + 1) listed a w :=
 wpAnyH_take hi hs hf hr hQ (Or.inl ⟨hw, hy⟩) hS h
end
theorem xx {w w' : World} (h : Ext w w' := by repeat (first | exact Ext.refl _ | assumption | refine Ext.alloc ?_ _ | refine Ext.drewN ?_ _ | refine Ext.drew ?_)) : Ext w w' := h
end Go.Proofs.YtdjckjfclhjpcaaGreat
