/-
  Helper text (no claim of its own): the text of a graph, by the program and by the reference.
-/
import Derived.Test.YteecjnnompjmiabDoorFi
import Derived.Test.YteecjnnompjmiabDoorVgr
import Derived.Laws.Concat
namespace Go.Proofs.YteecjnnompjmiabDoor
open Go.ChangeShapes Go.WideShapes Go.ChangeAt Go.RowKit Go.Deep
set_option linter.unusedVariables false
set_option linter.unusedSimpArgs false
/-- One edge more. -/
def fe (s : ByteArray) (e : Ed) : ByteArray := (((s ++ ⟨#[32]⟩) ++ dig e.a) ++ ⟨#[45]⟩) ++ dig e.b
def fes (s : ByteArray) (es : List Ed) : ByteArray := es.foldl fe s
/-- The text of a graph. -/
def fmtG (x : Gr) : ByteArray := if vgraph x = true then fes (dig x.n) x.es else ⟨#[]⟩
theorem fmtG_no {x : Gr} (h : vgraph x = false) : fmtG x = ⟨#[]⟩ := if_neg (by simp [h])
theorem fmtG_yes {x : Gr} (h : vgraph x = true) : fmtG x = fes (dig x.n) x.es := if_pos h
theorem fes_snoc {s : ByteArray} {es : List Ed} {k : Nat} {e : Ed} (h : es[k]? = some e) : fes s (es.take (k + 1)) = fe (fes s (es.take k)) e := by
  unfold fes
  rw [take_snoc h, List.foldl_append]
  rfl
theorem fes_size (s : ByteArray) (es : List Ed) : (fes s es).size = s.size + 4 * es.length := by
  unfold fes
  induction es generalizing s with
  | nil => simp
  | cons e es ih =>
    rw [List.foldl_cons, ih]
    simp only [fe, dig, ByteArray.size_append, List.length_cons]
    have : ∀ x : UInt8, (ByteArray.mk #[x]).size = 1 := fun _ => rfl
    simp only [this]
    omega
/-- The four joins of one edge. -/
theorem joins (ss : ByteArray) (a b : Int) (h : ss.size ≤ 900000000) : (∀ w, (Op.stringOp .add ss ⟨#[32]⟩).run Tryd.prog w = .ok (.string (ss ++ ⟨#[32]⟩)) w) ∧ (∀ w, (Op.stringOp .add (ss ++ ⟨#[32]⟩) (dig a)).run Tryd.prog w = .ok (.string (ss ++ ⟨#[32]⟩ ++ dig a)) w) ∧ (∀ w, (Op.stringOp .add (ss ++ ⟨#[32]⟩ ++ dig a) ⟨#[45]⟩).run Tryd.prog w = .ok (.string (ss ++ ⟨#[32]⟩ ++ dig a ++ ⟨#[45]⟩)) w) ∧ ∀ w, (Op.stringOp .add (ss ++ ⟨#[32]⟩ ++ dig a ++ ⟨#[45]⟩) (dig b)).run Tryd.prog w = .ok (.string (ss ++ ⟨#[32]⟩ ++ dig a ++ ⟨#[45]⟩ ++ dig b)) w := by
  have e1 : ∀ x : UInt8, (ByteArray.mk #[x]).size = 1 := fun _ => rfl
  have e2 : ∀ i, (dig i).size = 1 := fun _ => rfl
  refine ⟨fun w => run_string_add_sum w _ _ ?_, fun w => run_string_add_sum w _ _ ?_, fun w => run_string_add_sum w _ _ ?_, fun w => run_string_add_sum w _ _ ?_⟩ <;> (simp only [ByteArray.size_append, e1, e2]; omega)
theorem vg_facts {x : Gr} (h : vgraph x = true) : (1 ≤ x.n ∧ x.n ≤ 4) ∧ ∀ {k : Nat} {e : Ed}, x.es[k]? = some e → (0 ≤ e.a ∧ e.a ≤ 3) ∧ (0 ≤ e.b ∧ e.b ≤ 3) := by
  unfold vgraph at h
  rw [Bool.and_eq_true] at h
  obtain ⟨h1, h2⟩ := h
  unfold conn at h2
  simp only [Bool.and_eq_true, decide_eq_true_eq] at h2
  obtain ⟨⟨n1, n4⟩, _⟩ := h2
  refine ⟨⟨n1, n4⟩, fun {k e} hk => ?_⟩
  have hw : wrap64 (x.n - 1) = x.n - 1 := by unfold wrap64; omega
  unfold vgrE at h1
  rw [List.all_eq_true] at h1
  have hkl := (List.getElem?_eq_some_iff.1 hk).1
  have := h1 k (List.mem_range.2 hkl)
  rw [hk, hw] at this
  simp only [okE1, Bool.and_eq_true, decide_eq_true_eq] at this
  obtain ⟨⟨⟨⟨⟨_, a0⟩, a1⟩, b0⟩, b1⟩, _⟩ := this
  omega
set_option maxRecDepth 100000 in
set_option maxHeartbeats 8000000 in
theorem spec_FormatGraph_any (v : Value) (x : Gr) (w : World) (h : GrAt w w.heap.size v x) (hl : x.es.length ≤ 100000000) :
    Calls Tryd.prog 10 #[v] w fun e w' => e = .returned (.string (fmtG x)) ∧ Ext w w' := by
  obtain ⟨A1, c1, rfl, h1⟩ := h
  have HG : Hid (∀ w', Ext w w' → GrAt w' w'.heap.size (.agg #[.int .i64 x.n, .slice A1 x.es.length c1]) x) := fun w' hx => ⟨A1, c1, rfl, h1.ext hx⟩
  have HH := Lib.hid h1
  clear h1
  obtain ⟨len, hlen⟩ : ∃ len, len = x.es.length := ⟨_, rfl⟩
  rw [← hlen] at hl HG HH ⊢
  have HL := Lib.hid hlen
  clear hlen
  have HB0 : Hid (Blk (w.alloc (.cells #[.int .i64 x.n, .slice A1 len c1] 26)) w.heap.size 26 #[.int .i64 x.n, .slice A1 len c1]) := Blk.new _ _ _
  have HX0 : Hid (Ext w (w.alloc (.cells #[.int .i64 x.n, .slice A1 len c1] 26))) := (Ext.refl w).alloc _
  go_enter Tryd.func10, Tryd.ntmps10
  go_upto_region 1 with (fail)
  have hB0 := HB0.out
  have hX0 := HX0.out
  clear HB0 HX0
  generalize (w.alloc (.cells #[.int .i64 x.n, .slice A1 len c1] 26)) = Wb at *
  have d0 : Wb.cell? ⟨w.heap.size, 0, none⟩ = some (.int .i64 x.n) := hB0.cell 0
  have d1 : Wb.cell? ⟨w.heap.size, 1, none⟩ = some (.slice A1 len c1) := hB0.cell 1
  go_wp2_with fail
  refine (spec_IsValidGraph_any _ x _ (HG.out _ hX0) (by have := HL.out; omega)).mono ?_
  rintro e w3 ⟨rfl, hx3⟩
  clear d0 d1
  have d0 : w3.cell? ⟨w.heap.size, 0, none⟩ = some (.int .i64 x.n) := (hB0.ext hx3).cell 0
  have d1 : w3.cell? ⟨w.heap.size, 1, none⟩ = some (.slice A1 len c1) := (hB0.ext hx3).cell 1
  cases hvg : vgraph x
  · have HF := Lib.hid (fmtG_no hvg)
    clear hvg
    go_wp2
    go_ret
    exact ⟨ret_str HF.out.symm, hX0.trans hx3⟩
  obtain ⟨⟨hn1, hn4⟩, hes⟩ := vg_facts hvg
  have HES : Hid (∀ {k : Nat} {e : Ed}, x.es[k]? = some e → (0 ≤ e.a ∧ e.a ≤ 3) ∧ (0 ≤ e.b ∧ e.b ≤ 3)) := hes
  have HF := Lib.hid (fmtG_yes hvg)
  clear hvg hes
  go_wp2_with fail
  refine (spec_FormatInt_small x.n ⟨by omega, by omega⟩ _).mono ?_
  rintro e w4 ⟨rfl, hx4⟩
  replace hx4 := hx3.trans hx4
  clear hx3 d0 d1
  have HX4 := Lib.hid hx4
  clear hx4
  go_wp2
  go_loopw [3, 4] (fun s i wr => ∃ k : Nat, k ≤ len ∧ i = .int .i64 k ∧ s = .string (fes (dig x.n) (x.es.take k)) ∧ Ext Wb wr) (fun _ i _ => len - (intOf i).toNat)
  case atStart => exact ⟨0, Nat.zero_le _, rfl, rfl, HX4.out⟩
  case round =>
    obtain ⟨k, hk, rfl, rfl, hx⟩ := hrel
    have hB := hB0.ext hx
    have hlb := hB.lt
    have d1 : wr.cell? ⟨w.heap.size, 1, none⟩ = some (.slice A1 len c1) := hB.cell 1
    by_cases hlt : k < len
    · obtain ⟨b, o, y, rfl, hb, hy, r0, r1⟩ := edge_at (HH.out.ext (hX0.trans hx)) hlt
      have HS := Lib.hid (fes_snoc (s := dig x.n) hy)
      obtain ⟨⟨ya0, ya3⟩, yb0, yb3⟩ := HES.out hy
      clear hy
      have hk0 : (0 : Int) ≤ (k : Int) := by omega
      have hkn : (k : Int) < (len : Int) := by omega
      have HK : Hid (∀ w', Ext wr w' → w'.cell? ⟨w.heap.size, 1, none⟩ = some (.slice (some ⟨b, o, none⟩) len c1) ∧ w'.cell? ⟨b, o + k * 2, none⟩ = some (.int .i64 y.a) ∧ w'.cell? ⟨b, o + k * 2 + 1, none⟩ = some (.int .i64 y.b)) := fun w' q => ⟨(hB.ext q).cell 1, (q.cell (p := ⟨b, o + k * 2, none⟩) hb).trans r0, (q.cell (p := ⟨b, o + k * 2 + 1, none⟩) hb).trans r1⟩
      have hsz := fes_size (dig x.n) (x.es.take k)
      have hdz : (dig x.n).size = 1 := rfl
      have htl : (x.es.take k).length ≤ k := List.length_take_le _ _
      generalize hss : fes (dig x.n) (x.es.take k) = ss at *
      clear hss
      obtain ⟨j1, j2, j3, j4⟩ := joins ss y.a y.b (by omega)
      clear hsz hdz htl
      go_wp2
      go_region_held3 (fun w' => w'.cell? ⟨w.heap.size, 1, none⟩ = some (.slice (some ⟨b, o, none⟩) len c1) ∧ w'.cell? ⟨b, o + k * 2, none⟩ = some (.int .i64 y.a) ∧ w'.cell? ⟨b, o + k * 2 + 1, none⟩ = some (.int .i64 y.b))
        (first | go_keep | exact HK.out _ (by assumption))
        (first
          | (go_at_call 21; (with_reducible refine (spec_FormatInt_small y.a ⟨by omega, by omega⟩ _).mono ?_); rintro e w5 ⟨rfl, hy5⟩; replace hy5 : Ext wr w5 := Ext.trans (Ext.refl wr).drew hy5)
          | (go_at_call 21; (with_reducible refine (spec_FormatInt_small y.b ⟨by omega, by omega⟩ _).mono ?_); rintro e w6 ⟨rfl, hy6⟩; replace hy6 : Ext wr w6 := hy5.trans hy6))
      go_wp2
      go_roundw
      case rel => exact ⟨k + 1, by omega, by go_num, by rw [HS.out]; rfl, hx.trans hy6⟩
      case measure => simp [intOf]; omega
    · have hkl : x.es.take k = x.es := List.take_of_length_le (by have := HL.out; omega)
      rw [hkl]
      have hge : ¬ ((k : Int) < (len : Int)) := by omega
      go_wp2
      go_ret
      exact ⟨ret_str HF.out.symm, hX0.trans hx⟩
set_option maxRecDepth 100000 in
set_option maxHeartbeats 8000000 in
theorem impl_FormatGraph_any (v : Value) (x : Gr) (w : World) (h : GrAt w w.heap.size v x) (hl : x.es.length ≤ 100000000) (hok : ∀ e ∈ x.es, e.ok) :
    Calls Tryd.prog 6 #[v] w fun e w' => e = .returned (.string (fmtG x)) ∧ Ext w w' := by
  obtain ⟨A1, c1, rfl, h1⟩ := h
  have HG : Hid (∀ w', Ext w w' → GrAt w' w'.heap.size (.agg #[.int .i64 x.n, .slice A1 x.es.length c1]) x) := fun w' hx => ⟨A1, c1, rfl, h1.ext hx⟩
  have HH := Lib.hid h1
  clear h1
  obtain ⟨len, hlen⟩ : ∃ len, len = x.es.length := ⟨_, rfl⟩
  rw [← hlen] at hl HG HH ⊢
  have HL := Lib.hid hlen
  clear hlen
  have HB0 : Hid (Blk (w.alloc (.cells #[.int .i64 x.n, .slice A1 len c1] 26)) w.heap.size 26 #[.int .i64 x.n, .slice A1 len c1]) := Blk.new _ _ _
  have HX0 : Hid (Ext w (w.alloc (.cells #[.int .i64 x.n, .slice A1 len c1] 26))) := (Ext.refl w).alloc _
  go_enter Tryd.func6, Tryd.ntmps6
  go_upto_region 1 with (fail)
  have hB0 := HB0.out
  have hX0 := HX0.out
  clear HB0 HX0
  generalize (w.alloc (.cells #[.int .i64 x.n, .slice A1 len c1] 26)) = Wb at *
  have d0 : Wb.cell? ⟨w.heap.size, 0, none⟩ = some (.int .i64 x.n) := hB0.cell 0
  have d1 : Wb.cell? ⟨w.heap.size, 1, none⟩ = some (.slice A1 len c1) := hB0.cell 1
  go_wp2_with fail
  refine (impl_IsValidGraph_any _ x _ (HG.out _ hX0) (by have := HL.out; omega) hok).mono ?_
  rintro e w3 ⟨rfl, hx3⟩
  clear d0 d1
  have d0 : w3.cell? ⟨w.heap.size, 0, none⟩ = some (.int .i64 x.n) := (hB0.ext hx3).cell 0
  have d1 : w3.cell? ⟨w.heap.size, 1, none⟩ = some (.slice A1 len c1) := (hB0.ext hx3).cell 1
  cases hvg : vgraph x
  · have HF := Lib.hid (fmtG_no hvg)
    clear hvg
    go_wp2
    go_ret
    exact ⟨ret_str HF.out.symm, hX0.trans hx3⟩
  obtain ⟨⟨hn1, hn4⟩, hes⟩ := vg_facts hvg
  have HES : Hid (∀ {k : Nat} {e : Ed}, x.es[k]? = some e → (0 ≤ e.a ∧ e.a ≤ 3) ∧ (0 ≤ e.b ∧ e.b ≤ 3)) := hes
  have HF := Lib.hid (fmtG_yes hvg)
  clear hvg hes
  go_wp2_with fail
  refine (impl_FormatInt_small x.n ⟨by omega, by omega⟩ _).mono ?_
  rintro e w4 ⟨rfl, hx4⟩
  replace hx4 := hx3.trans hx4
  clear hx3 d0 d1
  have d1 : w4.cell? ⟨w.heap.size, 1, none⟩ = some (.slice A1 len c1) := (hB0.ext hx4).cell 1
  have HX4 := Lib.hid hx4
  clear hx4
  go_wp2
  clear d1
  go_loopw [3, 15] (fun s i wr => ∃ k : Nat, k ≤ len ∧ i = .int .i64 k ∧ s = .string (fes (dig x.n) (x.es.take k)) ∧ Ext Wb wr) (fun _ i _ => len - (intOf i).toNat)
  case atStart => exact ⟨0, Nat.zero_le _, rfl, rfl, HX4.out⟩
  case round =>
    obtain ⟨k, hk, rfl, rfl, hx⟩ := hrel
    have hB := hB0.ext hx
    have hlb := hB.lt
    by_cases hlt : k < len
    · obtain ⟨b, o, y, rfl, hb, hy, r0, r1⟩ := edge_at (HH.out.ext (hX0.trans hx)) hlt
      have HS := Lib.hid (fes_snoc (s := dig x.n) hy)
      obtain ⟨⟨ya0, ya3⟩, yb0, yb3⟩ := HES.out hy
      clear hy
      have hk0 : (0 : Int) ≤ (k : Int) := by omega
      have hkn : (k : Int) < (len : Int) := by omega
      go_upto_region 7 with (fail)
      have hE : Blk (wr.alloc (.cells #[.int .i64 y.a, .int .i64 y.b] 38)) wr.heap.size 38 #[.int .i64 y.a, .int .i64 y.b] := Blk.new _ _ _
      have hxe : Ext wr (wr.alloc (.cells #[.int .i64 y.a, .int .i64 y.b] 38)) := (Ext.refl wr).alloc _
      clear r0 r1 hk0 hkn
      generalize (wr.alloc (.cells #[.int .i64 y.a, .int .i64 y.b] 38)) = we at *
      generalize wr.heap.size = te at *
      have q0 : we.cell? ⟨te, 0, none⟩ = some (.int .i64 y.a) := hE.cell 0
      have q1 : we.cell? ⟨te, 1, none⟩ = some (.int .i64 y.b) := hE.cell 1
      have HK : Hid (∀ w', Ext we w' → w'.cell? ⟨te, 0, none⟩ = some (.int .i64 y.a) ∧ w'.cell? ⟨te, 1, none⟩ = some (.int .i64 y.b)) := fun w' q => ⟨(hE.ext q).cell 0, (hE.ext q).cell 1⟩
      have hsz := fes_size (dig x.n) (x.es.take k)
      have hdz : (dig x.n).size = 1 := rfl
      have htl : (x.es.take k).length ≤ k := List.length_take_le _ _
      generalize hss : fes (dig x.n) (x.es.take k) = ss at *
      clear hss
      obtain ⟨j1, j2, j3, j4⟩ := joins ss y.a y.b (by omega)
      clear hsz hdz htl
      go_wp2
      go_region_held3 (fun w' => w'.cell? ⟨te, 0, none⟩ = some (.int .i64 y.a) ∧ w'.cell? ⟨te, 1, none⟩ = some (.int .i64 y.b))
        (first | go_keep | exact HK.out _ (by assumption))
        (first
          | (go_at_call 15; (with_reducible refine (impl_FormatInt_small y.a ⟨by omega, by omega⟩ _).mono ?_); rintro e w5 ⟨rfl, hy5⟩; replace hy5 : Ext we w5 := Ext.trans (Ext.refl we).drew hy5)
          | (go_at_call 15; (with_reducible refine (impl_FormatInt_small y.b ⟨by omega, by omega⟩ _).mono ?_); rintro e w6 ⟨rfl, hy6⟩; replace hy6 : Ext we w6 := hy5.trans hy6))
      go_wp2
      go_roundw
      case rel => exact ⟨k + 1, by omega, by go_num, by rw [HS.out]; rfl, hx.trans (hxe.trans hy6)⟩
      case measure => simp [intOf]; omega
    · have hkl : x.es.take k = x.es := List.take_of_length_le (by have := HL.out; omega)
      rw [hkl]
      have hge : ¬ ((k : Int) < (len : Int)) := by omega
      go_wp2
      go_ret
      exact ⟨ret_str HF.out.symm, hX0.trans hx⟩
end Go.Proofs.YteecjnnompjmiabDoor
