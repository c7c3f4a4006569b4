/-
  Helper text (no claim of its own): what the words of a text say of a graph, in plain Lean; the graph that is being read, in its block and its row.
-/
import Derived.Test.YteecjnnompjmiabDoorPnI
import Derived.Test.YteecjnnompjmiabDoorWg
import Derived.Test.YteecjnnompjmiabDoorFg
import Derived.Test.YteecjnnompjmiabDoorRet
namespace Go.Proofs.YteecjnnompjmiabDoor
open Go.ChangeShapes Go.WideShapes Go.ChangeAt Go.RowKit Go.Deep
set_option linter.unusedVariables false
set_option linter.unusedSimpArgs false
def ew (e : Ed) : ByteArray := dig e.a ++ ⟨#[45]⟩ ++ dig e.b
def gws (x : Gr) : List ByteArray := dig x.n :: x.es.map ew
theorem fmtG_jn {x : Gr} (h : vgraph x = true) : fmtG x = jn ⟨#[32]⟩ (gws x) := by
  rw [fmtG_yes h]
  show fes (dig x.n) x.es = (x.es.map ew).foldl (fun a y => a ++ ⟨#[32]⟩ ++ y) (dig x.n)
  rw [List.foldl_map]
  unfold fes
  congr 1
  funext s e
  unfold fe ew
  simp only [ByteArray.append_assoc]
theorem dig_cases {q : Int} (h0 : 0 ≤ q) (h4 : q ≤ 4) : q = 0 ∨ q = 1 ∨ q = 2 ∨ q = 3 ∨ q = 4 := by omega
theorem dig_dash {q : Int} (h0 : 0 ≤ q) (h4 : q ≤ 4) : (45 : UInt8) ∉ (dig q).data.toList := by
  rcases dig_cases h0 h4 with rfl | rfl | rfl | rfl | rfl <;> decide
theorem ew_blank {e : Ed} (ha : 0 ≤ e.a ∧ e.a ≤ 3) (hb : 0 ≤ e.b ∧ e.b ≤ 3) : (32 : UInt8) ∉ (ew e).data.toList := by
  unfold ew
  rw [ByteArray.data_append, ByteArray.data_append, Array.toList_append, Array.toList_append]
  have h1 := dig_blank ha.1 (by omega)
  have h2 := dig_blank hb.1 (by omega)
  simp only [List.mem_append]
  rintro ((h | h) | h)
  · exact h1 h
  · revert h; decide
  · exact h2 h
theorem ew_cut {e : Ed} (ha : 0 ≤ e.a ∧ e.a ≤ 3) (hb : 0 ≤ e.b ∧ e.b ≤ 3) : cut 45 (ew e) = [dig e.a, dig e.b] := by
  refine cut_jn 45 (dig e.a) [dig e.b] ?_
  intro y hy
  simp at hy
  rcases hy with rfl | rfl
  · exact dig_dash ha.1 (by omega)
  · exact dig_dash hb.1 (by omega)
theorem gws_cut {x : Gr} (h : vgraph x = true) : cut 32 (fmtG x) = gws x := by
  rw [fmtG_jn h]
  obtain ⟨⟨n1, n4⟩, he⟩ := vg_facts h
  refine cut_jn 32 _ _ ?_
  intro y hy
  rcases List.mem_cons.1 hy with rfl | hy
  · exact dig_blank (by omega) (by omega)
  · obtain ⟨e, hm, rfl⟩ := List.mem_map.1 hy
    obtain ⟨k, hk⟩ := List.getElem?_of_mem hm
    obtain ⟨h1, h2⟩ := he hk
    exact ew_blank h1 h2
theorem fmtG_size0 {x : Gr} (h : vgraph x = true) : 0 < (fmtG x).size := by
  rw [fmtG_yes h, fes_size]
  have : (dig x.n).size = 1 := rfl
  omega
/-! ### a valid graph has few edges -/
theorem nodup_len : ∀ (n : Nat) (l : List Nat), l.Nodup → (∀ x ∈ l, x < n) → l.length ≤ n
  | 0, l, _, h => by
    cases l with
    | nil => exact Nat.le_refl _
    | cons x r => exact absurd (h x List.mem_cons_self) (Nat.not_lt_zero _)
  | n + 1, l, hd, h => by
    by_cases hm : n ∈ l
    · have h1 := nodup_len n (l.erase n) (hd.erase n) (fun x hx => by
        have h2 := (hd.mem_erase_iff).1 hx
        have := h x h2.2
        have := h2.1
        omega)
      rw [List.length_erase_of_mem hm] at h1
      omega
    · have h1 := nodup_len n l hd (fun x hx => by
        have := h x hx
        have : x ≠ n := fun e => hm (by rw [← e]; exact hx)
        omega)
      omega
theorem es_len {x : Gr} (h : vgraph x = true) : x.es.length ≤ 16 := by
  obtain ⟨_, he⟩ := vg_facts h
  have hmet : ∀ (i : Nat) (e : Ed), x.es[i]? = some e → metE x.es i e = false := by
    intro i e hi
    unfold vgraph at h
    rw [Bool.and_eq_true] at h
    have h1 := h.1
    unfold vgrE at h1
    rw [List.all_eq_true] at h1
    have := h1 i (List.mem_range.2 (List.getElem?_eq_some_iff.1 hi).1)
    rw [hi] at this
    simp only [okE1, Bool.and_eq_true] at this
    have := this.2
    unfold metE
    simpa using this
  have hl : (x.es.map fun e : Ed => (4 * e.a + e.b).toNat).length ≤ 16 := by
    refine nodup_len 16 _ ?_ ?_
    · refine List.pairwise_iff_getElem.2 ?_
      intro i j hi hj hij
      rw [List.length_map] at hi hj
      rw [List.getElem_map, List.getElem_map]
      intro heq
      have e1 : x.es[i]? = some x.es[i] := List.getElem?_eq_getElem hi
      have e2 : x.es[j]? = some x.es[j] := List.getElem?_eq_getElem hj
      have f1 := he e1
      have f2 := he e2
      have hm := hmet j _ e2
      rw [metE_yes e1 hij (by unfold eqE; simp only [Bool.and_eq_true, beq_iff_eq]; omega)] at hm
      cases hm
    · intro y hy
      obtain ⟨e, hm, rfl⟩ := List.mem_map.1 hy
      obtain ⟨k, hk⟩ := List.getElem?_of_mem hm
      have := he hk
      omega
  rwa [List.length_map] at hl
/-! ### what is read -/
def ER (t : ByteArray) (e : Ed) : Prop := (0 ≤ e.a ∧ e.a ≤ 999999 ∧ 0 ≤ e.b ∧ e.b ≤ 999999) ∧ ∀ y : Ed, (0 ≤ y.a ∧ y.a ≤ 3) → (0 ≤ y.b ∧ y.b ≤ 3) → t = ew y → e = y
def RE (ts : List ByteArray) (xs : List Ed) : Prop := xs.length ≤ ts.length ∧ ∀ (j : Nat) (e : Ed), xs[j]? = some e → ∃ t, ts[j]? = some t ∧ ER t e
theorem RE.nil (ts : List ByteArray) : RE ts [] := ⟨Nat.zero_le _, fun j e h => by simp at h⟩
theorem RE.snoc {ts : List ByteArray} {xs : List Ed} {t : ByteArray} {e : Ed} {k : Nat} (h : RE ts xs) (hk : xs.length = k) (ht : ts[k]? = some t) (he : ER t e) : RE ts (xs ++ [e]) := by
  subst hk
  have hl := (List.getElem?_eq_some_iff.1 ht).1
  refine ⟨by simp; omega, fun j y hj => ?_⟩
  by_cases hlt : j < xs.length
  · rw [List.getElem?_append_left hlt] at hj
    exact h.2 j y hj
  · have hj2 := (List.getElem?_eq_some_iff.1 hj).1
    simp at hj2
    obtain rfl : j = xs.length := by omega
    rw [List.getElem?_append_right (Nat.le_refl _)] at hj
    simp at hj
    subst hj
    exact ⟨t, ht, he⟩
theorem RE.ok {ts : List ByteArray} {xs : List Ed} (h : RE ts xs) : ∀ e ∈ xs, e.ok := by
  intro e he
  obtain ⟨k, hk⟩ := List.getElem?_of_mem he
  obtain ⟨t, _, ⟨h1, h2, h3, h4⟩, _⟩ := h.2 k e hk
  unfold Ed.ok I64
  omega
theorem er_of {t : ByteArray} {a b : Int} {k1 : Bool} (h1 : PN ((cut 45 t).getD 0 ⟨#[]⟩) a k1) (h2 : ∀ y : Ed, (0 ≤ y.a ∧ y.a ≤ 3) → (0 ≤ y.b ∧ y.b ≤ 3) → t = ew y → b = y.b) (hb : 0 ≤ b ∧ b ≤ 999999) : ER t ⟨a, b⟩ := by
  refine ⟨⟨h1.1, h1.2.1, hb.1, hb.2⟩, fun y ya yb he => ?_⟩
  have e1 : (cut 45 t).getD 0 ⟨#[]⟩ = dig y.a := by rw [he, ew_cut ya yb]; rfl
  have e2 := (h1.2.2 y.a ya.1 (by omega) e1).1
  have e3 := h2 y ya yb he
  obtain ⟨y1, y2⟩ := y
  dsimp only at *
  rw [e2, e3]
theorem graph_same {s : ByteArray} {N : Int} {xs : List Ed} {k : Bool} (h0 : PN ((cut 32 s).getD 0 ⟨#[]⟩) N k) (hre : RE ((cut 32 s).drop 1) xs) (hl : xs.length = ((cut 32 s).drop 1).length ∨ 39 ≤ xs.length) (g : Gr) (hv : vgraph g = true) (he : s = fmtG g) : (⟨N, xs⟩ : Gr) = g := by
  have hw : cut 32 s = gws g := by rw [he, gws_cut hv]
  rw [hw] at h0 hre hl
  obtain ⟨⟨n1, n4⟩, hes⟩ := vg_facts hv
  have hel := es_len hv
  have e1 := (h0.2.2 g.n (by omega) n4 rfl).1
  have hts : ((gws g).drop 1) = g.es.map ew := rfl
  rw [hts] at hre hl
  rw [List.length_map] at hl
  have hlen : xs.length = g.es.length := by
    have := hre.1
    rw [List.length_map] at this
    omega
  have e2 : xs = g.es := by
    apply List.ext_getElem? 
    intro j
    by_cases hj : j < xs.length
    · have hx : xs[j]? = some xs[j] := List.getElem?_eq_getElem hj
      have hg : g.es[j]? = some (g.es[j]'(by omega)) := List.getElem?_eq_getElem (by omega)
      obtain ⟨t, ht, _, her⟩ := hre.2 j _ hx
      rw [List.getElem?_map, hg] at ht
      obtain ⟨b1, b2⟩ := hes hg
      rw [hx, hg, her _ b1 b2 (Option.some.inj ht).symm]
    · rw [List.getElem?_eq_none (by omega), List.getElem?_eq_none (by omega)]
  obtain ⟨gn, ges⟩ := g
  dsimp only at *
  rw [e1, e2]
/-- A word that is not an edge's: no graph's text. -/
theorem no_graph {s : ByteArray} {j : Nat} {t : ByteArray} (ht : ((cut 32 s).drop 1)[j]? = some t) (hn : ∀ y : Ed, (0 ≤ y.a ∧ y.a ≤ 3) → (0 ≤ y.b ∧ y.b ≤ 3) → t ≠ ew y) (g : Gr) (hv : vgraph g = true) : s ≠ fmtG g := by
  intro he
  have hw : cut 32 s = gws g := by rw [he, gws_cut hv]
  rw [hw] at ht
  have hts : ((gws g).drop 1) = g.es.map ew := rfl
  rw [hts, List.getElem?_map] at ht
  cases hg : g.es[j]? with
  | none => rw [hg] at ht; cases ht
  | some y =>
    rw [hg] at ht
    obtain ⟨b1, b2⟩ := (vg_facts hv).2 hg
    exact hn y b1 b2 (Option.some.inj ht).symm
def Gr0 : Gr := ⟨0, []⟩
theorem own_nil_ (w : World) (B : Nat) (e : TypeId) : w.ownsRow B e 2 (.slice none 0 0) 0 [] := ⟨rfl, .inl ⟨rfl, rfl⟩⟩
theorem gr_of_alloc_ {w w' : World} {o : Obj} {row : Option Nat} (h : (w.alloc o).grownBy w' row) : w.grownBy w' row :=
  ⟨h.os, h.tape, h.output, Nat.le_trans (by simp) h.size, fun k hk hne => (h.block k (by simp; omega) hne).trans (Below.heap_alloc w o k hk)⟩
/-- What a graph read out of a text is: it has that text and is the only one, or there is none. -/
def GraphRes (s : ByteArray) (b0 : Nat) (e : Ending) (w' : World) : Prop := ∃ (v : Value) (x : Gr) (ok : Bool) (b1 : Nat), e = .returned (.tuple #[v, .bool ok]) ∧ GrOwn w' b0 b1 v x ∧ b1 ≤ w'.heap.size ∧ x.es.length ≤ 2000000 ∧
  ((ok = true ∧ vgraph x = true ∧ fmtG x = s ∧ ∀ y : Gr, vgraph y = true → s = fmtG y → x = y) ∨ (ok = false ∧ x = Gr0 ∧ ∀ y : Gr, vgraph y = true → s ≠ fmtG y))
theorem graphRes_no {s : ByteArray} {b0 : Nat} {e : Ending} {w' : World} (he : e = .returned (.tuple #[.agg #[.int .i64 0, .slice none 0 0], .bool false])) (hb : b0 ≤ w'.heap.size) (h : ∀ y : Gr, vgraph y = true → s ≠ fmtG y) : GraphRes s b0 e w' :=
  ⟨_, Gr0, false, w'.heap.size, he, ⟨none, 0, rfl, own_nil_ _ _ _, fun g hg => by cases hg⟩, Nat.le_refl _, Nat.zero_le _, .inr ⟨rfl, rfl, h⟩⟩
theorem graph_none_empty {s : ByteArray} (hs : s = ⟨#[]⟩) (y : Gr) (hv : vgraph y = true) : s ≠ fmtG y := by
  intro he
  have := fmtG_size0 hv
  rw [← he, hs] at this
  exact absurd this (by decide)
theorem graph_none_other {s : ByteArray} {x : Gr} (h : ∀ y : Gr, vgraph y = true → s = fmtG y → x = y) (hne : (ByteArray.toList (fmtG x) == ByteArray.toList s) = false) (y : Gr) (hv : vgraph y = true) : s ≠ fmtG y := by
  intro he
  have := h y hv he
  rw [this, ← he, str_beq_self] at hne
  cases hne
theorem graph_none_bad {s : ByteArray} {x : Gr} (h : ∀ y : Gr, vgraph y = true → s = fmtG y → x = y) (hne : vgraph x = false) (y : Gr) (hv : vgraph y = true) : s ≠ fmtG y := by
  intro he
  have := h y hv he
  rw [this, hv] at hne
  cases hne
theorem empty_iffG (s : ByteArray) : (ByteArray.toList s).isEmpty = true ↔ s = ⟨#[]⟩ := by
  rw [List.isEmpty_iff]
  constructor
  · intro h
    exact str_beq.1 (by rw [h]; simp)
  · rintro rfl
    simp
/-! ### the graph being read: its header in block g, its edges in a row behind it -/
structure DP (W1 w : World) (g : Nat) (N : Int) (A : Option Addr) (len cap : Nat) (xs : List Ed) : Prop where
  b : Blk w g 26 #[.int .i64 N, .slice A len cap]
  o : w.ownsRow (g + 1) 38 2 (.slice A len cap) len (ecells xs)
  x : Ext W1 w
  s : W1.heap.size ≤ g
theorem DP.ext {W1 w w' : World} {g : Nat} {N : Int} {A : Option Addr} {len cap : Nat} {xs : List Ed} (h : DP W1 w g N A len cap xs) (hx : Ext w w') : DP W1 w' g N A len cap xs := ⟨h.b.ext hx, own_ext h.o hx, h.x.trans hx, h.s⟩
theorem DP.setN {W1 w : World} {g : Nat} {N : Int} {A : Option Addr} {len cap : Nat} {xs : List Ed} (h : DP W1 w g N A len cap xs) (M : Int) : DP W1 (w.setCell ⟨g, 0, none⟩ (.int .i64 M)) g M A len cap xs :=
  ⟨h.b.set_ 0 _, own_set h.o (p := ⟨g, 0, none⟩) (Nat.lt_succ_self g) _, h.x.setCell (p := ⟨g, 0, none⟩) h.s _, h.s⟩
theorem cut_size_ {w : World} {B : Nat} (h : B ≤ w.heap.size) : ({ w with heap := w.heap.extract 0 B } : World).heap.size = B := by simp; omega
theorem cut_ext_ {w : World} {B : Nat} (h : B ≤ w.heap.size) : Ext ({ w with heap := w.heap.extract 0 B } : World) w := by
  refine ⟨rfl, rfl, rfl, by rw [cut_size_ h]; exact h, fun k hk => ?_⟩
  rw [cut_size_ h] at hk
  simp [Array.getElem?_extract]
  omega
/-- append of one edge to the graph's row, outside a drawn region. -/
theorem DP.app {W1 w : World} {g : Nat} {N : Int} {A : Option Addr} {len cap : Nat} {xs : List Ed} (D : DP W1 w g N A len cap xs) {ops : Array Oper} {rest : List Oper} {o : Oper} {a : Act} {Q : Exit → Act → World → Prop} (hgd : o.guard = none) (s x : Operand)
    (ho : o.op = .call { callee := .builtin .append, args := #[s, x], argTypes := #[24, 24] }) (hs : a.eval s = .slice A len cap)
    (y : Ed) (e : TypeId) (b : Nat) (hx : a.eval x = .slice (some ⟨b, 0, none⟩) 1 1) (hbs : b = w.heap.size) (hn : len ≤ 90000000)
    (h : ∀ A' c' w', Blk w' g 26 #[.int .i64 N, .slice A len cap] → DP W1 (w'.setCell ⟨g, 1, none⟩ (.slice A' (len + 1) c')) g N A' (len + 1) c' (xs ++ [y]) → wpList Tryd.prog ops Q rest (a.put o.dst (.slice A' (len + 1) c')) w') :
    wpList Tryd.prog ops Q (o :: rest) a (w.alloc (.cells #[.int .i64 y.a, .int .i64 y.b] e)) := by
  subst hbs
  have hB : g + 1 ≤ w.heap.size := D.b.lt
  have hcs := cut_size_ hB
  refine appEdgeS (w0 := { w with heap := w.heap.extract 0 (g + 1) }) hgd s x ho _ len xs hs (by rw [hcs]; exact D.o.alloc _) ((cut_ext_ hB).alloc _) _ 1 1 [y] hx (rd_new w _ e 2 _ (by simp [Ed.cells]) (by simp [Ed.cells])) (by omega) ?_
  intro v' w' h1 h2 h3 h4
  rw [hcs] at h1
  obtain ⟨A', c', rfl, _⟩ := own_slice h1
  have hgr : w.grownBy w' (Value.slice A len cap).ownBlock := gr_of_alloc_ h3
  have hne : ∀ k, (Value.slice A len cap).ownBlock = some k → g ≠ k := fun k hk => by have := (D.o.lt k hk).1; omega
  have hb' : Blk w' g 26 #[.int .i64 N, .slice A len cap] := D.b.grown hgr hne
  have hx' : Ext W1 w' := D.x.grown hgr (fun k hk => by have := (D.o.lt k hk).1; have := D.s; omega)
  exact h A' c' w' hb' ⟨hb'.set_ 1 _, own_set h1 (p := ⟨g, 1, none⟩) (Nat.lt_succ_self g) _, hx'.setCell (p := ⟨g, 1, none⟩) D.s _, D.s⟩
theorem DP.at_ {W1 w : World} {g : Nat} {N : Int} {A : Option Addr} {len cap : Nat} {xs : List Ed} (h : DP W1 w g N A len cap xs) : GrAt w w.heap.size (.agg #[.int .i64 N, .slice A len cap]) ⟨N, xs⟩ := by
  have hr := Rd.own h.o
  have hl : xs.length = len := hr.len Ed.cells_len (by omega)
  subst hl
  exact ⟨A, cap, rfl, hr⟩
theorem DP.len_ {W1 w : World} {g : Nat} {N : Int} {A : Option Addr} {len cap : Nat} {xs : List Ed} (h : DP W1 w g N A len cap xs) : xs.length = len := (Rd.own h.o).len Ed.cells_len (by omega)
theorem Tryd.sizeGraphR : (Tryd.prog.info? 26).map (·.size) = some 2 := by kernel_rfl
theorem cells2 {w : World} {g t : Nat} {a b : Value} (h : Blk w g t #[a, b]) : (w.cell? ⟨g, 0, none⟩ = some a ∧ w.cell? ⟨g, 1, none⟩ = some b) ∧ w.frozen? ⟨g, 0, none⟩ = false ∧ w.frozen? ⟨g, 1, none⟩ = false :=
  ⟨⟨h.cell 0, h.cell 1⟩, h.frozen 0, h.frozen 1⟩
def put2 (w : World) (g : Nat) (a b : Value) : World := (w.setCell ⟨g, 0, none⟩ a).setCell ⟨g, 1, none⟩ b
theorem Blk.put2 {w : World} {g t : Nat} {z0 z1 : Value} (h : Blk w g t #[z0, z1]) (a b : Value) : Blk (put2 w g a b) g t #[a, b] := (h.set_ 0 a).set_ 1 b
theorem ext_put2 {w0 w : World} (h : Ext w0 w) {g : Nat} (hg : w0.heap.size ≤ g) (a b : Value) : Ext w0 (put2 w g a b) := (h.setCell (p := ⟨g, 0, none⟩) hg a).setCell (p := ⟨g, 1, none⟩) hg b
/-- The graph read is returned: its header is copied into block r, which lies below. -/
theorem graphRes_yes {s : ByteArray} {W1 w : World} {g r : Nat} {N : Int} {A : Option Addr} {len cap : Nat} {xs : List Ed} {e : Ending} {a b : Value} (D : DP W1 w g N A len cap xs) (hr : r < g) (b0 : Nat) (hb0 : b0 ≤ g) (hn : len ≤ 2000000)
    (he : e = .returned (.tuple #[.agg #[.int .i64 N, .slice A len cap], .bool true])) (hs : s ≠ ⟨#[]⟩) (ht : fmtG ⟨N, xs⟩ = s) (h : ∀ y : Gr, vgraph y = true → s = fmtG y → (⟨N, xs⟩ : Gr) = y) : GraphRes s b0 e (put2 w r a b) := by
  have hl := D.len_
  subst hl
  have ho := own_set (own_set D.o (p := ⟨r, 0, none⟩) (by show r < g + 1; omega) a) (p := ⟨r, 1, none⟩) (by show r < g + 1; omega) b
  refine ⟨_, ⟨N, xs⟩, true, (put2 w r a b).heap.size, he, ⟨A, cap, rfl, own_base ho (by omega), fun k hk => (ho.lt k hk).2⟩, Nat.le_refl _, hn, .inl ⟨rfl, ?_, ht, h⟩⟩
  cases hv : vgraph ⟨N, xs⟩
  · rw [fmtG_no hv] at ht; exact absurd ht.symm hs
  · rfl
end Go.Proofs.YteecjnnompjmiabDoor
