/-
  Helper text (no claim of its own): CliffordsEqual, by the program and by the reference. Printed by gen_tc.py.
-/
import Derived.Test.YtcocabflinlbbaaTbm
import Derived.Test.YtcocabflinlbbaaTbn
import Derived.Test.YtcocabflinlbbaaCi
namespace Go.Proofs.Ytcocabflinlbbaa
open Go.ChangeShapes Go.WideShapes Go.ChangeAt Go.RowKit Go.Deep
set_option linter.unusedVariables false
set_option linter.unusedSimpArgs false
theorem fold_len (n : Int) (m : Nat) : ∀ (gs : List Gt) (t0 : Option (List Pa)), (∀ rs, t0 = some rs → rs.length = m) → ∀ rs, gs.foldl (fun t g => t.bind fun rs => tabG n rs g) t0 = some rs → rs.length = m
  | [], t0, h, rs, e => h rs e
  | g :: gs, t0, h, rs, e => by
    rw [List.foldl_cons] at e
    refine fold_len n m gs _ (fun rs2 e2 => ?_) rs e
    cases t0 with
    | none => cases e2
    | some r0 => exact (tabG_len e2).trans (h r0 rfl)
theorem tabF_len {n : Int} {gs : List Gt} {rs : List Pa} (h : tabF n gs = some rs) : rs.length ≤ 8 := by
  unfold tabF at h
  split at h
  · rename_i hv
    have hb := vCi_bd hv
    have := fold_len n (2 * n.toNat) gs (some (idT n.toNat)) (fun r e => by injection e with e; subst e; exact idT_len _) rs h
    omega
  · cases h
theorem tabRes_any {n : Int} {t : Option (List Pa)} {e : Ending} {w : World} (h : TabRes n t e w) : ∃ (N : Int) (A : Option Addr) (m c : Nat) (b : Bool), e = .returned (.tuple #[.agg #[.int .i64 N, .slice A m c], .bool b]) ∧ t.isSome = b ∧ Hid (∀ rs, t = some rs → N = n ∧ Rd w w.heap.size 4 A m (pcells rs) ∧ rs.length = m) := by
  cases t with
  | none => exact ⟨0, none, 0, 0, false, h, rfl, fun rs e => by cases e⟩
  | some r =>
    obtain ⟨v, he, A, c, rfl, hr, hc⟩ := h
    exact ⟨n, A, r.length, c, true, he, rfl, fun rs e => by injection e with e; subst e; exact ⟨rfl, hr, rfl⟩⟩
/-- Equal tableaux. -/
def eqT (x y : Ci) : Bool :=
  match tabF x.n x.gs, tabF y.n y.gs with
  | some a, some b => x.n == y.n && eqL eqP a b
  | _, _ => false
theorem eqT_l {x y : Ci} (h : (tabF x.n x.gs).isSome = false) : eqT x y = false := by
  unfold eqT; cases hx : tabF x.n x.gs with
  | none => rfl
  | some a => rw [hx] at h; cases h
theorem eqT_r {x y : Ci} (h : (tabF y.n y.gs).isSome = false) : eqT x y = false := by
  unfold eqT; cases hy : tabF y.n y.gs with
  | none => cases tabF x.n x.gs <;> rfl
  | some a => rw [hy] at h; cases h
theorem eqT_both {x y : Ci} {a b : List Pa} (h : tabF x.n x.gs = some a) (k : tabF y.n y.gs = some b) : eqT x y = (x.n == y.n && eqL eqP a b) := by unfold eqT; rw [h, k]
set_option maxRecDepth 100000 in
set_option maxHeartbeats 8000000 in
theorem spec_CliffordsEqual_any (v u : Value) (x y : Ci) (w : World) (h : CiAt w w.heap.size v x) (h' : CiAt w w.heap.size u y) (hs : x.gs.length ≤ 100000000 ∧ y.gs.length ≤ 100000000) :
    Calls Try.prog 5 #[v, u] w fun e w' => e = .returned (.bool (eqT x y)) ∧ Ext w w' := by
  obtain ⟨A, c, rfl, h1⟩ := h
  obtain ⟨B, d, rfl, h2⟩ := h'
  obtain ⟨s1, s2⟩ := hs
  obtain ⟨l1, e1⟩ : ∃ l, x.gs.length = l := ⟨_, rfl⟩
  obtain ⟨l2, e2⟩ : ∃ l, y.gs.length = l := ⟨_, rfl⟩
  have H1 : Hid (∀ w', Ext w w' → Calls Try.prog 10 #[.agg #[.int .i64 x.n, .slice A l1 c]] w' fun e w'' => TabRes x.n (tabF x.n x.gs) e w'' ∧ Ext w' w'') := fun w' hx => by subst e1; exact spec_CircuitTableau_any A c x.n x.gs w' (h1.ext hx) s1
  have H2 : Hid (∀ w', Ext w w' → Calls Try.prog 10 #[.agg #[.int .i64 y.n, .slice B l2 d]] w' fun e w'' => TabRes y.n (tabF y.n y.gs) e w'' ∧ Ext w' w'') := fun w' hx => by subst e2; exact spec_CircuitTableau_any B d y.n y.gs w' (h2.ext hx) s2
  rw [e1, e2]
  clear h1 h2 s1 s2 e1 e2
  go_enter Try.func5, Try.ntmps5
  go_wp2_with fail
  refine (H1.out _ (by repeat (first | exact Ext.refl _ | assumption | refine Ext.alloc ?_ _ | refine Ext.drewN ?_ _ | refine Ext.drew ?_))).mono ?_
  rintro e w1 ⟨hres, hx1⟩
  obtain ⟨N1, A1, m1, c1, q1, rfl, hq1, HR1⟩ := tabRes_any hres
  clear hres
  have HX1 : Hid (Ext w w1) := Ext.trans (by repeat (first | exact Ext.refl _ | assumption | refine Ext.alloc ?_ _ | refine Ext.drewN ?_ _ | refine Ext.drew ?_)) hx1
  have HB1 : Hid (Blk w1 (w.heap.size + 1) 29 #[.int .i64 y.n, .slice B l2 d]) := (Blk.newAt (b := w.heap.size + 1) (by simp)).ext hx1
  clear hx1
  go_upto_region 2 with (fail)
  have HX2 : Hid (Ext w (w1.alloc (.cells #[.int .i64 N1, .slice A1 m1 c1] 35))) := HX1.out.alloc _
  have HB2 := Lib.hid (HB1.out.alloc (.cells #[.int .i64 N1, .slice A1 m1 c1] 35))
  have HT2 : Hid (Blk (w1.alloc (.cells #[.int .i64 N1, .slice A1 m1 c1] 35)) w1.heap.size 35 #[.int .i64 N1, .slice A1 m1 c1]) := Blk.new _ _ _
  have HE2 : Hid (Ext w1 (w1.alloc (.cells #[.int .i64 N1, .slice A1 m1 c1] 35))) := (Ext.refl _).alloc _
  generalize w1.alloc (.cells #[.int .i64 N1, .slice A1 m1 c1] 35) = w2 at *
  generalize w1.heap.size = r1 at HT2 ⊢
  clear HX1 HB1
  obtain ⟨⟨b0, b1⟩, -⟩ := blk2 HB2.out
  go_wp2_with fail
  refine (H2.out _ HX2.out).mono ?_
  rintro e w3 ⟨hres, hx3⟩
  obtain ⟨N2, A2, m2, c2, q2, rfl, hq2, HR2⟩ := tabRes_any hres
  clear hres b0 b1
  have HX3 : Hid (Ext w w3) := HX2.out.trans hx3
  have HT3 := Lib.hid (HT2.out.ext hx3)
  have HE3 : Hid (Ext w1 w3) := HE2.out.trans hx3
  clear hx3 HX2 HT2 HE2 HB2
  go_upto_region 3 with (fail)
  have HX4 : Hid (Ext w (w3.alloc (.cells #[.int .i64 N2, .slice A2 m2 c2] 35))) := HX3.out.alloc _
  have HT4 := Lib.hid (HT3.out.alloc (.cells #[.int .i64 N2, .slice A2 m2 c2] 35))
  have HU4 : Hid (Blk (w3.alloc (.cells #[.int .i64 N2, .slice A2 m2 c2] 35)) w3.heap.size 35 #[.int .i64 N2, .slice A2 m2 c2]) := Blk.new _ _ _
  have HE4 : Hid (Ext w1 (w3.alloc (.cells #[.int .i64 N2, .slice A2 m2 c2] 35))) := HE3.out.alloc _
  have HF4 : Hid (Ext w3 (w3.alloc (.cells #[.int .i64 N2, .slice A2 m2 c2] 35))) := (Ext.refl _).alloc _
  generalize w3.alloc (.cells #[.int .i64 N2, .slice A2 m2 c2] 35) = w4 at *
  generalize w3.heap.size = r3 at HU4 ⊢
  clear HX3 HT3 HE3
  cases q1 with
  | false =>
    have HF := Lib.hid (eqT_l (y := y) hq1)
    clear hq1 hq2
    go_wp2
    go_ret
    exact ⟨ret_bool HF.out.symm, HX4.out⟩
  | true =>
    cases q2 with
    | false =>
      have HF := Lib.hid (eqT_r (x := x) hq2)
      clear hq1 hq2
      go_wp2
      go_ret
      exact ⟨ret_bool HF.out.symm, HX4.out⟩
    | true =>
      obtain ⟨a, ha⟩ := Option.isSome_iff_exists.mp hq1
      obtain ⟨b, hb⟩ := Option.isSome_iff_exists.mp hq2
      obtain ⟨rfl, ra, la⟩ := HR1.out a ha
      obtain ⟨rfl, rb, lb⟩ := HR2.out b hb
      have HEQ := Lib.hid (eqT_both ha hb)
      have HL := Lib.hid (And.intro (tabF_len ha) (tabF_len hb))
      have HC : Hid (Calls Try.prog 11 #[.agg #[.int .i64 x.n, .slice A1 m1 c1], .agg #[.int .i64 y.n, .slice A2 m2 c2]] w4 fun e w'' => e = .returned (.bool (x.n == y.n && eqL eqP a b)) ∧ Ext w4 w'') := by
        subst la lb
        exact spec_EqualTableau_any A1 A2 c1 c2 x.n y.n a b w4 (ra.ext HE4.out) (rb.ext HF4.out) (by have := HL.out; omega) (by have := HL.out; omega)
      clear hq1 hq2 ha hb ra rb la lb HR1 HR2
      obtain ⟨⟨t0, t1⟩, -⟩ := blk2 HT4.out
      obtain ⟨⟨u0, u1⟩, -⟩ := blk2 HU4.out
      go_wp2_with fail
      refine (HC.out).mono ?_
      rintro e w5 ⟨rfl, hx5⟩
      go_wp2
      go_ret
      exact ⟨ret_bool (by rw [HEQ.out]), HX4.out.trans hx5⟩
set_option maxRecDepth 100000 in
set_option maxHeartbeats 8000000 in
theorem impl_CliffordsEqual_any (v u : Value) (x y : Ci) (w : World) (h : CiAt w w.heap.size v x) (h' : CiAt w w.heap.size u y) (hs : x.gs.length ≤ 100000000 ∧ y.gs.length ≤ 100000000) :
    Calls Try.prog 7 #[v, u] w fun e w' => e = .returned (.bool (eqT x y)) ∧ Ext w w' := by
  obtain ⟨A, c, rfl, h1⟩ := h
  obtain ⟨B, d, rfl, h2⟩ := h'
  obtain ⟨s1, s2⟩ := hs
  obtain ⟨l1, e1⟩ : ∃ l, x.gs.length = l := ⟨_, rfl⟩
  obtain ⟨l2, e2⟩ : ∃ l, y.gs.length = l := ⟨_, rfl⟩
  have H1 : Hid (∀ w', Ext w w' → Calls Try.prog 13 #[.agg #[.int .i64 x.n, .slice A l1 c]] w' fun e w'' => TabRes x.n (tabF x.n x.gs) e w'' ∧ Ext w' w'') := fun w' hx => by subst e1; exact impl_CircuitTableau_any A c x.n x.gs w' (h1.ext hx) s1
  have H2 : Hid (∀ w', Ext w w' → Calls Try.prog 13 #[.agg #[.int .i64 y.n, .slice B l2 d]] w' fun e w'' => TabRes y.n (tabF y.n y.gs) e w'' ∧ Ext w' w'') := fun w' hx => by subst e2; exact impl_CircuitTableau_any B d y.n y.gs w' (h2.ext hx) s2
  rw [e1, e2]
  clear h1 h2 s1 s2 e1 e2
  go_enter Try.func7, Try.ntmps7
  go_wp2_with fail
  refine (H1.out _ (by repeat (first | exact Ext.refl _ | assumption | refine Ext.alloc ?_ _ | refine Ext.drewN ?_ _ | refine Ext.drew ?_))).mono ?_
  rintro e w1 ⟨hres, hx1⟩
  obtain ⟨N1, A1, m1, c1, q1, rfl, hq1, HR1⟩ := tabRes_any hres
  clear hres
  have HX1 : Hid (Ext w w1) := Ext.trans (by repeat (first | exact Ext.refl _ | assumption | refine Ext.alloc ?_ _ | refine Ext.drewN ?_ _ | refine Ext.drew ?_)) hx1
  have HB1 : Hid (Blk w1 (w.heap.size + 1) 29 #[.int .i64 y.n, .slice B l2 d]) := (Blk.newAt (b := w.heap.size + 1) (by simp)).ext hx1
  clear hx1
  go_upto_region 2 with (fail)
  have HX2 : Hid (Ext w (w1.alloc (.cells #[.int .i64 N1, .slice A1 m1 c1] 35))) := HX1.out.alloc _
  have HB2 := Lib.hid (HB1.out.alloc (.cells #[.int .i64 N1, .slice A1 m1 c1] 35))
  have HT2 : Hid (Blk (w1.alloc (.cells #[.int .i64 N1, .slice A1 m1 c1] 35)) w1.heap.size 35 #[.int .i64 N1, .slice A1 m1 c1]) := Blk.new _ _ _
  have HE2 : Hid (Ext w1 (w1.alloc (.cells #[.int .i64 N1, .slice A1 m1 c1] 35))) := (Ext.refl _).alloc _
  generalize w1.alloc (.cells #[.int .i64 N1, .slice A1 m1 c1] 35) = w2 at *
  generalize w1.heap.size = r1 at HT2 ⊢
  clear HX1 HB1
  obtain ⟨⟨b0, b1⟩, -⟩ := blk2 HB2.out
  go_wp2_with fail
  refine (H2.out _ HX2.out).mono ?_
  rintro e w3 ⟨hres, hx3⟩
  obtain ⟨N2, A2, m2, c2, q2, rfl, hq2, HR2⟩ := tabRes_any hres
  clear hres b0 b1
  have HX3 : Hid (Ext w w3) := HX2.out.trans hx3
  have HT3 := Lib.hid (HT2.out.ext hx3)
  have HE3 : Hid (Ext w1 w3) := HE2.out.trans hx3
  clear hx3 HX2 HT2 HE2 HB2
  go_upto_region 3 with (fail)
  have HX4 : Hid (Ext w (w3.alloc (.cells #[.int .i64 N2, .slice A2 m2 c2] 35))) := HX3.out.alloc _
  have HT4 := Lib.hid (HT3.out.alloc (.cells #[.int .i64 N2, .slice A2 m2 c2] 35))
  have HU4 : Hid (Blk (w3.alloc (.cells #[.int .i64 N2, .slice A2 m2 c2] 35)) w3.heap.size 35 #[.int .i64 N2, .slice A2 m2 c2]) := Blk.new _ _ _
  have HE4 : Hid (Ext w1 (w3.alloc (.cells #[.int .i64 N2, .slice A2 m2 c2] 35))) := HE3.out.alloc _
  have HF4 : Hid (Ext w3 (w3.alloc (.cells #[.int .i64 N2, .slice A2 m2 c2] 35))) := (Ext.refl _).alloc _
  generalize w3.alloc (.cells #[.int .i64 N2, .slice A2 m2 c2] 35) = w4 at *
  generalize w3.heap.size = r3 at HU4 ⊢
  clear HX3 HT3 HE3
  cases q1 with
  | false =>
    have HF := Lib.hid (eqT_l (y := y) hq1)
    clear hq1 hq2
    go_wp2
    go_ret
    exact ⟨ret_bool HF.out.symm, HX4.out⟩
  | true =>
    cases q2 with
    | false =>
      have HF := Lib.hid (eqT_r (x := x) hq2)
      clear hq1 hq2
      go_wp2
      go_ret
      exact ⟨ret_bool HF.out.symm, HX4.out⟩
    | true =>
      obtain ⟨a, ha⟩ := Option.isSome_iff_exists.mp hq1
      obtain ⟨b, hb⟩ := Option.isSome_iff_exists.mp hq2
      obtain ⟨rfl, ra, la⟩ := HR1.out a ha
      obtain ⟨rfl, rb, lb⟩ := HR2.out b hb
      have HEQ := Lib.hid (eqT_both ha hb)
      have HL := Lib.hid (And.intro (tabF_len ha) (tabF_len hb))
      have HC : Hid (Calls Try.prog 14 #[.agg #[.int .i64 x.n, .slice A1 m1 c1], .agg #[.int .i64 y.n, .slice A2 m2 c2]] w4 fun e w'' => e = .returned (.bool (x.n == y.n && eqL eqP a b)) ∧ Ext w4 w'') := by
        subst la lb
        exact impl_EqualTableau_any A1 A2 c1 c2 x.n y.n a b w4 (ra.ext HE4.out) (rb.ext HF4.out) (by have := HL.out; omega) (by have := HL.out; omega)
      clear hq1 hq2 ha hb ra rb la lb HR1 HR2
      obtain ⟨⟨t0, t1⟩, -⟩ := blk2 HT4.out
      obtain ⟨⟨u0, u1⟩, -⟩ := blk2 HU4.out
      go_wp2_with fail
      refine (HC.out).mono ?_
      rintro e w5 ⟨rfl, hx5⟩
      go_wp2
      go_ret
      exact ⟨ret_bool (by rw [HEQ.out]), HX4.out.trans hx5⟩
end Go.Proofs.Ytcocabflinlbbaa
