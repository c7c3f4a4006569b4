/-
  Helper text (no claim of its own): the controlled gate, by the program and by the reference. Printed by gen_ctl.py.
-/
import Derived.Test.YtnemoemdanidbaaGq
import Derived.Test.YtnemoemdanidbaaSvg
import Derived.Test.YtnemoemdanidbaaDec
namespace Go.Proofs.Ytnemoemdanidbaa
open Go.ChangeShapes Go.WideShapes Go.ChangeAt Go.RowKit Go.Deep
/-- The gate and the control are such that a controlled gate is asked for rightly. -/
def ctlP (q : Int) (g : Gt) : Bool := vg g 4 && decide (0 ≤ q) && decide (q ≤ 3) && !acts g q
def ctlK (k : Int) : Bool := k == 1 || k == 2 || k == 3 || k == 4 || k == 5 || k == 6 || k == 9 || k == 10 || k == 11
def ctlOk (q : Int) (g : Gt) : Bool := ctlP q g && ctlK g.k
def ctlL (q : Int) (g : Gt) : List Gt :=
  if (g.k == 1) = true then [gcx q g.a]
  else if (g.k == 2) = true then [g1 6 g.a, gcx q g.a, g1 5 g.a]
  else if (g.k == 3) = true then [⟨10, q, g.a, 0⟩]
  else if (g.k == 4) = true then [g1 6 g.a, g1 4 g.a, g1 8 g.a, gcx q g.a, g1 7 g.a, g1 4 g.a, g1 5 g.a]
  else if (g.k == 5) = true then [g1 7 q, g1 7 g.a, gcx q g.a, g1 8 g.a, gcx q g.a]
  else if (g.k == 6) = true then [g1 8 q, g1 8 g.a, gcx q g.a, g1 7 g.a, gcx q g.a]
  else if (g.k == 9) = true then [⟨12, q, g.a, g.b⟩]
  else if (g.k == 10) = true then [g1 4 g.b, ⟨12, q, g.a, g.b⟩, g1 4 g.b]
  else if (g.k == 11) = true then [gcx g.b g.a, ⟨12, q, g.a, g.b⟩, gcx g.b g.a]
  else []
def ctlR (q : Int) (g : Gt) : List Gt := if ctlOk q g = true then ctlL q g else []
theorem ctl_no {q : Int} {g : Gt} (h : ctlOk q g = false) : ctlR q g = [] := if_neg (by simp [h])
theorem ctl_nop {q : Int} {g : Gt} (h : ctlP q g = false) : ctlOk q g = false := by unfold ctlOk; rw [h]; rfl
theorem ctl_v {q : Int} {g : Gt} (h : vg g 4 = false) : ctlP q g = false := by unfold ctlP; rw [h]; rfl
theorem ctl_q {q : Int} {g : Gt} (h : q < 0 ∨ 3 < q) : ctlP q g = false := by
  unfold ctlP
  rcases h with h | h
  · rw [show decide (0 ≤ q) = false from by simpa using h]; simp
  · rw [show decide (q ≤ 3) = false from by simpa using h]; simp
theorem ctl_a {q : Int} {g : Gt} (h : acts g q = true) : ctlP q g = false := by unfold ctlP; rw [h]; simp
theorem ctl_p {q : Int} {g : Gt} (h : vg g 4 = true) (h0 : 0 ≤ q) (h1 : q ≤ 3) (h2 : acts g q = false) : ctlP q g = true := by unfold ctlP; simp [h, h0, h1, h2]
theorem ctlR_len (q : Int) (g : Gt) : (ctlR q g).length ≤ 7 := by
  unfold ctlR ctlL
  split <;> (repeat (first | split | simp))
theorem ctl_1 {q : Int} {g : Gt} (hp : ctlP q g = true) (h : (g.k == 1) = true) : ctlOk q g = true ∧ ctlR q g = [gcx q g.a] := by
  have e : g.k = 1 := by simpa using h
  have h0 : ctlOk q g = true := by unfold ctlOk ctlK; rw [hp, e]; rfl
  refine ⟨h0, ?_⟩; unfold ctlR; rw [if_pos h0]; unfold ctlL; simp [e]
theorem ctl_2 {q : Int} {g : Gt} (hp : ctlP q g = true) (h : (g.k == 2) = true) : ctlOk q g = true ∧ ctlR q g = [g1 6 g.a, gcx q g.a, g1 5 g.a] := by
  have e : g.k = 2 := by simpa using h
  have h0 : ctlOk q g = true := by unfold ctlOk ctlK; rw [hp, e]; rfl
  refine ⟨h0, ?_⟩; unfold ctlR; rw [if_pos h0]; unfold ctlL; simp [e]
theorem ctl_3 {q : Int} {g : Gt} (hp : ctlP q g = true) (h : (g.k == 3) = true) : ctlOk q g = true ∧ ctlR q g = [⟨10, q, g.a, 0⟩] := by
  have e : g.k = 3 := by simpa using h
  have h0 : ctlOk q g = true := by unfold ctlOk ctlK; rw [hp, e]; rfl
  refine ⟨h0, ?_⟩; unfold ctlR; rw [if_pos h0]; unfold ctlL; simp [e]
theorem ctl_4 {q : Int} {g : Gt} (hp : ctlP q g = true) (h : (g.k == 4) = true) : ctlOk q g = true ∧ ctlR q g = [g1 6 g.a, g1 4 g.a, g1 8 g.a, gcx q g.a, g1 7 g.a, g1 4 g.a, g1 5 g.a] := by
  have e : g.k = 4 := by simpa using h
  have h0 : ctlOk q g = true := by unfold ctlOk ctlK; rw [hp, e]; rfl
  refine ⟨h0, ?_⟩; unfold ctlR; rw [if_pos h0]; unfold ctlL; simp [e]
theorem ctl_5 {q : Int} {g : Gt} (hp : ctlP q g = true) (h : (g.k == 5) = true) : ctlOk q g = true ∧ ctlR q g = [g1 7 q, g1 7 g.a, gcx q g.a, g1 8 g.a, gcx q g.a] := by
  have e : g.k = 5 := by simpa using h
  have h0 : ctlOk q g = true := by unfold ctlOk ctlK; rw [hp, e]; rfl
  refine ⟨h0, ?_⟩; unfold ctlR; rw [if_pos h0]; unfold ctlL; simp [e]
theorem ctl_6 {q : Int} {g : Gt} (hp : ctlP q g = true) (h : (g.k == 6) = true) : ctlOk q g = true ∧ ctlR q g = [g1 8 q, g1 8 g.a, gcx q g.a, g1 7 g.a, gcx q g.a] := by
  have e : g.k = 6 := by simpa using h
  have h0 : ctlOk q g = true := by unfold ctlOk ctlK; rw [hp, e]; rfl
  refine ⟨h0, ?_⟩; unfold ctlR; rw [if_pos h0]; unfold ctlL; simp [e]
theorem ctl_9 {q : Int} {g : Gt} (hp : ctlP q g = true) (h : (g.k == 9) = true) : ctlOk q g = true ∧ ctlR q g = [⟨12, q, g.a, g.b⟩] := by
  have e : g.k = 9 := by simpa using h
  have h0 : ctlOk q g = true := by unfold ctlOk ctlK; rw [hp, e]; rfl
  refine ⟨h0, ?_⟩; unfold ctlR; rw [if_pos h0]; unfold ctlL; simp [e]
theorem ctl_10 {q : Int} {g : Gt} (hp : ctlP q g = true) (h : (g.k == 10) = true) : ctlOk q g = true ∧ ctlR q g = [g1 4 g.b, ⟨12, q, g.a, g.b⟩, g1 4 g.b] := by
  have e : g.k = 10 := by simpa using h
  have h0 : ctlOk q g = true := by unfold ctlOk ctlK; rw [hp, e]; rfl
  refine ⟨h0, ?_⟩; unfold ctlR; rw [if_pos h0]; unfold ctlL; simp [e]
theorem ctl_11 {q : Int} {g : Gt} (hp : ctlP q g = true) (h : (g.k == 11) = true) : ctlOk q g = true ∧ ctlR q g = [gcx g.b g.a, ⟨12, q, g.a, g.b⟩, gcx g.b g.a] := by
  have e : g.k = 11 := by simpa using h
  have h0 : ctlOk q g = true := by unfold ctlOk ctlK; rw [hp, e]; rfl
  refine ⟨h0, ?_⟩; unfold ctlR; rw [if_pos h0]; unfold ctlL; simp [e]
theorem ctl_n {q : Int} {g : Gt} (h1 : (g.k == 1) = false) (h2 : (g.k == 2) = false) (h3 : (g.k == 3) = false) (h4 : (g.k == 4) = false) (h5 : (g.k == 5) = false) (h6 : (g.k == 6) = false) (h9 : (g.k == 9) = false) (h10 : (g.k == 10) = false) (h11 : (g.k == 11) = false) : ctlOk q g = false := by unfold ctlOk ctlK; simp [h1, h2, h3, h4, h5, h6, h9, h10, h11]
/-- What ControlledGate hands back. -/
def CtlE (w : World) (q : Int) (g : Gt) (e : Ending) (w' : World) : Prop := ∃ v, e = .returned (.tuple #[v, .bool (ctlOk q g)]) ∧ w'.ownsRow w.heap.size 29 4 v (ctlR q g).length (gcells (ctlR q g)) ∧ Ext w w'
theorem CtlE.mk {w w' : World} {q : Int} {g : Gt} {v : Value} {b : Bool} {xs : List Gt} (hb : ctlOk q g = b) (hx : ctlR q g = xs) (ho : w'.ownsRow w.heap.size 29 4 v xs.length (gcells xs)) (hw : Ext w w') : CtlE w q g (.returned (.tuple #[v, .bool b])) w' := by
  subst hb hx; exact ⟨v, rfl, ho, hw⟩

set_option maxRecDepth 100000 in
set_option maxHeartbeats 8000000 in
theorem impl_ControlledGate_any (q : Int) (g : Gt) (w : World) : Calls Try.prog 50 #[.int .i64 q, g.val] w (CtlE w q g) := by
  go_enter Try.func50, Try.ntmps50
  go_wp2_with fail
  have hx0 : Ext w (w.alloc (.cells #[.int .i64 g.k, .int .i64 g.a, .int .i64 g.b, .int .i64 g.c] 29)) := by repeat (first | exact Ext.refl _ | assumption | refine Ext.alloc ?_ _ | refine Ext.drewN ?_ _ | refine Ext.drew ?_)
  have hb0 : Blk (w.alloc (.cells #[.int .i64 g.k, .int .i64 g.a, .int .i64 g.b, .int .i64 g.c] 29)) w.heap.size 29 #[.int .i64 g.k, .int .i64 g.a, .int .i64 g.b, .int .i64 g.c] := Blk.new _ _ _
  generalize (w.alloc (.cells #[.int .i64 g.k, .int .i64 g.a, .int .i64 g.b, .int .i64 g.c] 29)) = W at *
  refine (impl_IsValidGate_any g 4 _).mono ?_
  rintro e w1 ⟨rfl, hx1⟩
  have hx := hx0.trans hx1
  have hB := hb0.ext hx1
  clear hx0 hb0 hx1
  have b0 : w1.cell? ⟨w.heap.size, 0, none⟩ = some (.int .i64 g.k) := hB.cell 0
  have b1 : w1.cell? ⟨w.heap.size, 1, none⟩ = some (.int .i64 g.a) := hB.cell 1
  have b2 : w1.cell? ⟨w.heap.size, 2, none⟩ = some (.int .i64 g.b) := hB.cell 2
  have b3 : w1.cell? ⟨w.heap.size, 3, none⟩ = some (.int .i64 g.c) := hB.cell 3
  cases hv : vg g 4
  · have HO := Lib.hid (ctl_nop (ctl_v (q := q) hv))
    go_wp2
    go_ret2
    exact CtlE.mk HO.out (ctl_no HO.out) (World.ownsRow_nil _ _ _ _) hx
  have HV := Lib.hid hv
  clear hv
  by_cases hq : q < 0 ∨ 3 < q
  · have HO := Lib.hid (ctl_nop (ctl_q (g := g) hq))
    have HQ := Lib.hid hq
    clear hq
    go_wp2_with fail
    refine (in_no _ _ _ _ HQ.out).mono ?_
    rintro e w2 ⟨rfl, rfl⟩
    go_wp2
    go_ret2
    exact CtlE.mk HO.out (ctl_no HO.out) (World.ownsRow_nil _ _ _ _) hx
  have hq0 : 0 ≤ q := by omega
  have hq3 : q ≤ 3 := by omega
  clear hq
  go_wp2_with fail
  refine (in_yes _ _ _ _ hq0 hq3).mono ?_
  rintro e w2 ⟨rfl, rfl⟩
  go_wp2_with fail
  refine (impl_ActsOn_any g q _).mono ?_
  rintro e w2 ⟨rfl, hx2⟩
  replace hx := hx.trans hx2
  replace hB := hB.ext hx2
  clear b0 b1 b2 b3 hx2
  have b0 : w2.cell? ⟨w.heap.size, 0, none⟩ = some (.int .i64 g.k) := hB.cell 0
  have b1 : w2.cell? ⟨w.heap.size, 1, none⟩ = some (.int .i64 g.a) := hB.cell 1
  have b2 : w2.cell? ⟨w.heap.size, 2, none⟩ = some (.int .i64 g.b) := hB.cell 2
  have b3 : w2.cell? ⟨w.heap.size, 3, none⟩ = some (.int .i64 g.c) := hB.cell 3
  cases ha : acts g q
  case true =>
    have HO := Lib.hid (ctl_nop (ctl_a ha))
    go_wp2
    go_ret2
    exact CtlE.mk HO.out (ctl_no HO.out) (World.ownsRow_nil _ _ _ _) hx
  have HP := Lib.hid (ctl_p HV.out hq0 hq3 ha)
  clear ha
  cases h1 : (g.k == 1)
  case true =>
    have HO := Lib.hid (ctl_1 HP.out h1)
    have hz := hx
    go_wp2_with (first | (go_at_call 87; refine (impl_one_any _ _ _ hz).mono ?_; clear hz; rintro e w' ⟨rfl, hz⟩) | (go_at_call 86; refine (impl_cx_any _ _ _ hz).mono ?_; clear hz; rintro e w' ⟨rfl, hz⟩))
    go_ret2
    exact CtlE.mk HO.out.1 HO.out.2 (own_lit (by repeat (first | exact Ext.refl _ | assumption | refine Ext.alloc ?_ _ | refine Ext.drewN ?_ _ | refine Ext.drew ?_)) _ _ 4 1 #[.int .i64 9, .int .i64 q, .int .i64 g.a, .int .i64 0] _ rfl rfl rfl (by omega)) (by repeat (first | exact Ext.refl _ | assumption | refine Ext.alloc ?_ _ | refine Ext.drewN ?_ _ | refine Ext.drew ?_))
  cases h2 : (g.k == 2)
  case true =>
    have HO := Lib.hid (ctl_2 HP.out h2)
    have hz := hx
    go_wp2_with (first | (go_at_call 87; refine (impl_one_any _ _ _ hz).mono ?_; clear hz; rintro e w' ⟨rfl, hz⟩) | (go_at_call 86; refine (impl_cx_any _ _ _ hz).mono ?_; clear hz; rintro e w' ⟨rfl, hz⟩))
    go_ret2
    exact CtlE.mk HO.out.1 HO.out.2 (own_lit (by repeat (first | exact Ext.refl _ | assumption | refine Ext.alloc ?_ _ | refine Ext.drewN ?_ _ | refine Ext.drew ?_)) _ _ 4 3 #[.int .i64 6, .int .i64 g.a, .int .i64 0, .int .i64 0, .int .i64 9, .int .i64 q, .int .i64 g.a, .int .i64 0, .int .i64 5, .int .i64 g.a, .int .i64 0, .int .i64 0] _ rfl rfl rfl (by omega)) (by repeat (first | exact Ext.refl _ | assumption | refine Ext.alloc ?_ _ | refine Ext.drewN ?_ _ | refine Ext.drew ?_))
  cases h3 : (g.k == 3)
  case true =>
    have HO := Lib.hid (ctl_3 HP.out h3)
    have hz := hx
    go_wp2_with (first | (go_at_call 87; refine (impl_one_any _ _ _ hz).mono ?_; clear hz; rintro e w' ⟨rfl, hz⟩) | (go_at_call 86; refine (impl_cx_any _ _ _ hz).mono ?_; clear hz; rintro e w' ⟨rfl, hz⟩))
    go_ret2
    exact CtlE.mk HO.out.1 HO.out.2 (own_lit (by repeat (first | exact Ext.refl _ | assumption | refine Ext.alloc ?_ _ | refine Ext.drewN ?_ _ | refine Ext.drew ?_)) _ _ 4 1 #[.int .i64 10, .int .i64 q, .int .i64 g.a, .int .i64 0] _ rfl rfl rfl (by omega)) (by repeat (first | exact Ext.refl _ | assumption | refine Ext.alloc ?_ _ | refine Ext.drewN ?_ _ | refine Ext.drew ?_))
  cases h4 : (g.k == 4)
  case true =>
    have HO := Lib.hid (ctl_4 HP.out h4)
    have hz := hx
    go_wp2_with (first | (go_at_call 87; refine (impl_one_any _ _ _ hz).mono ?_; clear hz; rintro e w' ⟨rfl, hz⟩) | (go_at_call 86; refine (impl_cx_any _ _ _ hz).mono ?_; clear hz; rintro e w' ⟨rfl, hz⟩))
    go_ret2
    exact CtlE.mk HO.out.1 HO.out.2 (own_lit (by repeat (first | exact Ext.refl _ | assumption | refine Ext.alloc ?_ _ | refine Ext.drewN ?_ _ | refine Ext.drew ?_)) _ _ 4 7 #[.int .i64 6, .int .i64 g.a, .int .i64 0, .int .i64 0, .int .i64 4, .int .i64 g.a, .int .i64 0, .int .i64 0, .int .i64 8, .int .i64 g.a, .int .i64 0, .int .i64 0, .int .i64 9, .int .i64 q, .int .i64 g.a, .int .i64 0, .int .i64 7, .int .i64 g.a, .int .i64 0, .int .i64 0, .int .i64 4, .int .i64 g.a, .int .i64 0, .int .i64 0, .int .i64 5, .int .i64 g.a, .int .i64 0, .int .i64 0] _ rfl rfl rfl (by omega)) (by repeat (first | exact Ext.refl _ | assumption | refine Ext.alloc ?_ _ | refine Ext.drewN ?_ _ | refine Ext.drew ?_))
  cases h5 : (g.k == 5)
  case true =>
    have HO := Lib.hid (ctl_5 HP.out h5)
    have hz := hx
    go_wp2_with (first | (go_at_call 87; refine (impl_one_any _ _ _ hz).mono ?_; clear hz; rintro e w' ⟨rfl, hz⟩) | (go_at_call 86; refine (impl_cx_any _ _ _ hz).mono ?_; clear hz; rintro e w' ⟨rfl, hz⟩))
    go_ret2
    exact CtlE.mk HO.out.1 HO.out.2 (own_lit (by repeat (first | exact Ext.refl _ | assumption | refine Ext.alloc ?_ _ | refine Ext.drewN ?_ _ | refine Ext.drew ?_)) _ _ 4 5 #[.int .i64 7, .int .i64 q, .int .i64 0, .int .i64 0, .int .i64 7, .int .i64 g.a, .int .i64 0, .int .i64 0, .int .i64 9, .int .i64 q, .int .i64 g.a, .int .i64 0, .int .i64 8, .int .i64 g.a, .int .i64 0, .int .i64 0, .int .i64 9, .int .i64 q, .int .i64 g.a, .int .i64 0] _ rfl rfl rfl (by omega)) (by repeat (first | exact Ext.refl _ | assumption | refine Ext.alloc ?_ _ | refine Ext.drewN ?_ _ | refine Ext.drew ?_))
  cases h6 : (g.k == 6)
  case true =>
    have HO := Lib.hid (ctl_6 HP.out h6)
    have hz := hx
    go_wp2_with (first | (go_at_call 87; refine (impl_one_any _ _ _ hz).mono ?_; clear hz; rintro e w' ⟨rfl, hz⟩) | (go_at_call 86; refine (impl_cx_any _ _ _ hz).mono ?_; clear hz; rintro e w' ⟨rfl, hz⟩))
    go_ret2
    exact CtlE.mk HO.out.1 HO.out.2 (own_lit (by repeat (first | exact Ext.refl _ | assumption | refine Ext.alloc ?_ _ | refine Ext.drewN ?_ _ | refine Ext.drew ?_)) _ _ 4 5 #[.int .i64 8, .int .i64 q, .int .i64 0, .int .i64 0, .int .i64 8, .int .i64 g.a, .int .i64 0, .int .i64 0, .int .i64 9, .int .i64 q, .int .i64 g.a, .int .i64 0, .int .i64 7, .int .i64 g.a, .int .i64 0, .int .i64 0, .int .i64 9, .int .i64 q, .int .i64 g.a, .int .i64 0] _ rfl rfl rfl (by omega)) (by repeat (first | exact Ext.refl _ | assumption | refine Ext.alloc ?_ _ | refine Ext.drewN ?_ _ | refine Ext.drew ?_))
  cases h9 : (g.k == 9)
  case true =>
    have HO := Lib.hid (ctl_9 HP.out h9)
    have hz := hx
    go_wp2_with (first | (go_at_call 87; refine (impl_one_any _ _ _ hz).mono ?_; clear hz; rintro e w' ⟨rfl, hz⟩) | (go_at_call 86; refine (impl_cx_any _ _ _ hz).mono ?_; clear hz; rintro e w' ⟨rfl, hz⟩))
    go_ret2
    exact CtlE.mk HO.out.1 HO.out.2 (own_lit (by repeat (first | exact Ext.refl _ | assumption | refine Ext.alloc ?_ _ | refine Ext.drewN ?_ _ | refine Ext.drew ?_)) _ _ 4 1 #[.int .i64 12, .int .i64 q, .int .i64 g.a, .int .i64 g.b] _ rfl rfl rfl (by omega)) (by repeat (first | exact Ext.refl _ | assumption | refine Ext.alloc ?_ _ | refine Ext.drewN ?_ _ | refine Ext.drew ?_))
  cases h10 : (g.k == 10)
  case true =>
    have HO := Lib.hid (ctl_10 HP.out h10)
    have hz := hx
    go_wp2_with (first | (go_at_call 87; refine (impl_one_any _ _ _ hz).mono ?_; clear hz; rintro e w' ⟨rfl, hz⟩) | (go_at_call 86; refine (impl_cx_any _ _ _ hz).mono ?_; clear hz; rintro e w' ⟨rfl, hz⟩))
    go_ret2
    exact CtlE.mk HO.out.1 HO.out.2 (own_lit (by repeat (first | exact Ext.refl _ | assumption | refine Ext.alloc ?_ _ | refine Ext.drewN ?_ _ | refine Ext.drew ?_)) _ _ 4 3 #[.int .i64 4, .int .i64 g.b, .int .i64 0, .int .i64 0, .int .i64 12, .int .i64 q, .int .i64 g.a, .int .i64 g.b, .int .i64 4, .int .i64 g.b, .int .i64 0, .int .i64 0] _ rfl rfl rfl (by omega)) (by repeat (first | exact Ext.refl _ | assumption | refine Ext.alloc ?_ _ | refine Ext.drewN ?_ _ | refine Ext.drew ?_))
  cases h11 : (g.k == 11)
  case true =>
    have HO := Lib.hid (ctl_11 HP.out h11)
    have hz := hx
    go_wp2_with (first | (go_at_call 87; refine (impl_one_any _ _ _ hz).mono ?_; clear hz; rintro e w' ⟨rfl, hz⟩) | (go_at_call 86; refine (impl_cx_any _ _ _ hz).mono ?_; clear hz; rintro e w' ⟨rfl, hz⟩))
    go_ret2
    exact CtlE.mk HO.out.1 HO.out.2 (own_lit (by repeat (first | exact Ext.refl _ | assumption | refine Ext.alloc ?_ _ | refine Ext.drewN ?_ _ | refine Ext.drew ?_)) _ _ 4 3 #[.int .i64 9, .int .i64 g.b, .int .i64 g.a, .int .i64 0, .int .i64 12, .int .i64 q, .int .i64 g.a, .int .i64 g.b, .int .i64 9, .int .i64 g.b, .int .i64 g.a, .int .i64 0] _ rfl rfl rfl (by omega)) (by repeat (first | exact Ext.refl _ | assumption | refine Ext.alloc ?_ _ | refine Ext.drewN ?_ _ | refine Ext.drew ?_))
  have HO := Lib.hid (ctl_n (q := q) (g := g) h1 h2 h3 h4 h5 h6 h9 h10 h11)
  go_wp2
  go_ret2
  exact CtlE.mk HO.out (ctl_no HO.out) (World.ownsRow_nil _ _ _ _) hx

set_option maxRecDepth 100000 in
set_option maxHeartbeats 8000000 in
theorem spec_ControlledGate_any (q : Int) (g : Gt) (w : World) : Calls Try.prog 52 #[.int .i64 q, g.val] w (CtlE w q g) := by
  go_enter Try.func52, Try.ntmps52
  go_wp2_with fail
  have hx0 : Ext w (w.alloc (.cells #[.int .i64 g.k, .int .i64 g.a, .int .i64 g.b, .int .i64 g.c] 29)) := by repeat (first | exact Ext.refl _ | assumption | refine Ext.alloc ?_ _ | refine Ext.drewN ?_ _ | refine Ext.drew ?_)
  have hb0 : Blk (w.alloc (.cells #[.int .i64 g.k, .int .i64 g.a, .int .i64 g.b, .int .i64 g.c] 29)) w.heap.size 29 #[.int .i64 g.k, .int .i64 g.a, .int .i64 g.b, .int .i64 g.c] := Blk.new _ _ _
  generalize (w.alloc (.cells #[.int .i64 g.k, .int .i64 g.a, .int .i64 g.b, .int .i64 g.c] 29)) = W at *
  refine (spec_IsValidGate_any g 4 _).mono ?_
  rintro e w1 ⟨rfl, hx1⟩
  have hx := hx0.trans hx1
  have hB := hb0.ext hx1
  clear hx0 hb0 hx1
  have b0 : w1.cell? ⟨w.heap.size, 0, none⟩ = some (.int .i64 g.k) := hB.cell 0
  have b1 : w1.cell? ⟨w.heap.size, 1, none⟩ = some (.int .i64 g.a) := hB.cell 1
  have b2 : w1.cell? ⟨w.heap.size, 2, none⟩ = some (.int .i64 g.b) := hB.cell 2
  have b3 : w1.cell? ⟨w.heap.size, 3, none⟩ = some (.int .i64 g.c) := hB.cell 3
  cases hv : vg g 4
  · have HO := Lib.hid (ctl_nop (ctl_v (q := q) hv))
    go_wp2
    go_ret2
    exact CtlE.mk HO.out (ctl_no HO.out) (own_lit hx _ _ 4 0 #[] _ rfl rfl rfl (by omega)) (Ext.alloc hx _)
  have HV := Lib.hid hv
  clear hv
  by_cases hq : q < 0 ∨ 3 < q
  · have HO := Lib.hid (ctl_nop (ctl_q (g := g) hq))
    have HQ := Lib.hid hq
    clear hq
    go_wp2_with fail
    refine (l1In_no _ _ _ _ HQ.out).mono ?_
    rintro e w2 ⟨rfl, rfl⟩
    go_wp2
    go_ret2
    exact CtlE.mk HO.out (ctl_no HO.out) (own_lit hx _ _ 4 0 #[] _ rfl rfl rfl (by omega)) (Ext.alloc hx _)
  have hq0 : 0 ≤ q := by omega
  have hq3 : q ≤ 3 := by omega
  clear hq
  go_wp2_with fail
  refine (l1In_yes _ _ _ _ hq0 hq3).mono ?_
  rintro e w2 ⟨rfl, rfl⟩
  go_wp2_with fail
  refine (spec_ActsOn_any g q _).mono ?_
  rintro e w2 ⟨rfl, hx2⟩
  replace hx := hx.trans hx2
  replace hB := hB.ext hx2
  clear b0 b1 b2 b3 hx2
  have b0 : w2.cell? ⟨w.heap.size, 0, none⟩ = some (.int .i64 g.k) := hB.cell 0
  have b1 : w2.cell? ⟨w.heap.size, 1, none⟩ = some (.int .i64 g.a) := hB.cell 1
  have b2 : w2.cell? ⟨w.heap.size, 2, none⟩ = some (.int .i64 g.b) := hB.cell 2
  have b3 : w2.cell? ⟨w.heap.size, 3, none⟩ = some (.int .i64 g.c) := hB.cell 3
  cases ha : acts g q
  case true =>
    have HO := Lib.hid (ctl_nop (ctl_a ha))
    go_wp2
    go_ret2
    exact CtlE.mk HO.out (ctl_no HO.out) (own_lit hx _ _ 4 0 #[] _ rfl rfl rfl (by omega)) (Ext.alloc hx _)
  have HP := Lib.hid (ctl_p HV.out hq0 hq3 ha)
  clear ha
  go_upto_region 6 with (fail)
  have hT : Blk (w2.alloc (.cells #[.int .i64 12, .int .i64 q, .int .i64 g.a, .int .i64 g.b] 29)) w2.heap.size 29 #[.int .i64 12, .int .i64 q, .int .i64 g.a, .int .i64 g.b] := Blk.new _ _ _
  replace hx := hx.alloc (.cells #[.int .i64 12, .int .i64 q, .int .i64 g.a, .int .i64 g.b] 29)
  replace hB := hB.alloc (.cells #[.int .i64 12, .int .i64 q, .int .i64 g.a, .int .i64 g.b] 29)
  clear b0 b1 b2 b3
  have hs : w2.heap.size = w2.heap.size := rfl
  generalize hW : (w2.alloc (.cells #[.int .i64 12, .int .i64 q, .int .i64 g.a, .int .i64 g.b] 29)) = W3 at *
  clear hW hs
  generalize w2.heap.size = s at *
  have b0 : W3.cell? ⟨w.heap.size, 0, none⟩ = some (.int .i64 g.k) := hB.cell 0
  have b1 : W3.cell? ⟨w.heap.size, 1, none⟩ = some (.int .i64 g.a) := hB.cell 1
  have b2 : W3.cell? ⟨w.heap.size, 2, none⟩ = some (.int .i64 g.b) := hB.cell 2
  have b3 : W3.cell? ⟨w.heap.size, 3, none⟩ = some (.int .i64 g.c) := hB.cell 3
  have c0 : W3.cell? ⟨s, 0, none⟩ = some (.int .i64 12) := hT.cell 0
  have c1 : W3.cell? ⟨s, 1, none⟩ = some (.int .i64 q) := hT.cell 1
  have c2 : W3.cell? ⟨s, 2, none⟩ = some (.int .i64 g.a) := hT.cell 2
  have c3 : W3.cell? ⟨s, 3, none⟩ = some (.int .i64 g.b) := hT.cell 3
  cases h1 : (g.k == 1)
  case true =>
    have HO := Lib.hid (ctl_1 HP.out h1)
    have hz := hx
    go_wp2_with (first | (go_at_call 90; refine (spec_one_any _ _ _ hz).mono ?_; clear hz; rintro e w' ⟨rfl, hz⟩) | (go_at_call 89; refine (spec_cx_any _ _ _ hz).mono ?_; clear hz; rintro e w' ⟨rfl, hz⟩))
    go_ret2
    exact CtlE.mk HO.out.1 HO.out.2 (own_lit (by repeat (first | exact Ext.refl _ | assumption | refine Ext.alloc ?_ _ | refine Ext.drewN ?_ _ | refine Ext.drew ?_)) _ _ 4 1 #[.int .i64 9, .int .i64 q, .int .i64 g.a, .int .i64 0] _ rfl rfl rfl (by omega)) (by repeat (first | exact Ext.refl _ | assumption | refine Ext.alloc ?_ _ | refine Ext.drewN ?_ _ | refine Ext.drew ?_))
  cases h2 : (g.k == 2)
  case true =>
    have HO := Lib.hid (ctl_2 HP.out h2)
    have hz := hx
    go_wp2_with (first | (go_at_call 90; refine (spec_one_any _ _ _ hz).mono ?_; clear hz; rintro e w' ⟨rfl, hz⟩) | (go_at_call 89; refine (spec_cx_any _ _ _ hz).mono ?_; clear hz; rintro e w' ⟨rfl, hz⟩))
    go_ret2
    exact CtlE.mk HO.out.1 HO.out.2 (own_lit (by repeat (first | exact Ext.refl _ | assumption | refine Ext.alloc ?_ _ | refine Ext.drewN ?_ _ | refine Ext.drew ?_)) _ _ 4 3 #[.int .i64 6, .int .i64 g.a, .int .i64 0, .int .i64 0, .int .i64 9, .int .i64 q, .int .i64 g.a, .int .i64 0, .int .i64 5, .int .i64 g.a, .int .i64 0, .int .i64 0] _ rfl rfl rfl (by omega)) (by repeat (first | exact Ext.refl _ | assumption | refine Ext.alloc ?_ _ | refine Ext.drewN ?_ _ | refine Ext.drew ?_))
  cases h3 : (g.k == 3)
  case true =>
    have HO := Lib.hid (ctl_3 HP.out h3)
    have hz := hx
    go_wp2_with (first | (go_at_call 90; refine (spec_one_any _ _ _ hz).mono ?_; clear hz; rintro e w' ⟨rfl, hz⟩) | (go_at_call 89; refine (spec_cx_any _ _ _ hz).mono ?_; clear hz; rintro e w' ⟨rfl, hz⟩))
    go_ret2
    exact CtlE.mk HO.out.1 HO.out.2 (own_lit (by repeat (first | exact Ext.refl _ | assumption | refine Ext.alloc ?_ _ | refine Ext.drewN ?_ _ | refine Ext.drew ?_)) _ _ 4 1 #[.int .i64 10, .int .i64 q, .int .i64 g.a, .int .i64 0] _ rfl rfl rfl (by omega)) (by repeat (first | exact Ext.refl _ | assumption | refine Ext.alloc ?_ _ | refine Ext.drewN ?_ _ | refine Ext.drew ?_))
  cases h4 : (g.k == 4)
  case true =>
    have HO := Lib.hid (ctl_4 HP.out h4)
    have hz := hx
    go_wp2_with (first | (go_at_call 90; refine (spec_one_any _ _ _ hz).mono ?_; clear hz; rintro e w' ⟨rfl, hz⟩) | (go_at_call 89; refine (spec_cx_any _ _ _ hz).mono ?_; clear hz; rintro e w' ⟨rfl, hz⟩))
    go_ret2
    exact CtlE.mk HO.out.1 HO.out.2 (own_lit (by repeat (first | exact Ext.refl _ | assumption | refine Ext.alloc ?_ _ | refine Ext.drewN ?_ _ | refine Ext.drew ?_)) _ _ 4 7 #[.int .i64 6, .int .i64 g.a, .int .i64 0, .int .i64 0, .int .i64 4, .int .i64 g.a, .int .i64 0, .int .i64 0, .int .i64 8, .int .i64 g.a, .int .i64 0, .int .i64 0, .int .i64 9, .int .i64 q, .int .i64 g.a, .int .i64 0, .int .i64 7, .int .i64 g.a, .int .i64 0, .int .i64 0, .int .i64 4, .int .i64 g.a, .int .i64 0, .int .i64 0, .int .i64 5, .int .i64 g.a, .int .i64 0, .int .i64 0] _ rfl rfl rfl (by omega)) (by repeat (first | exact Ext.refl _ | assumption | refine Ext.alloc ?_ _ | refine Ext.drewN ?_ _ | refine Ext.drew ?_))
  cases h5 : (g.k == 5)
  case true =>
    have HO := Lib.hid (ctl_5 HP.out h5)
    have hz := hx
    go_wp2_with (first | (go_at_call 90; refine (spec_one_any _ _ _ hz).mono ?_; clear hz; rintro e w' ⟨rfl, hz⟩) | (go_at_call 89; refine (spec_cx_any _ _ _ hz).mono ?_; clear hz; rintro e w' ⟨rfl, hz⟩))
    go_ret2
    exact CtlE.mk HO.out.1 HO.out.2 (own_lit (by repeat (first | exact Ext.refl _ | assumption | refine Ext.alloc ?_ _ | refine Ext.drewN ?_ _ | refine Ext.drew ?_)) _ _ 4 5 #[.int .i64 7, .int .i64 q, .int .i64 0, .int .i64 0, .int .i64 7, .int .i64 g.a, .int .i64 0, .int .i64 0, .int .i64 9, .int .i64 q, .int .i64 g.a, .int .i64 0, .int .i64 8, .int .i64 g.a, .int .i64 0, .int .i64 0, .int .i64 9, .int .i64 q, .int .i64 g.a, .int .i64 0] _ rfl rfl rfl (by omega)) (by repeat (first | exact Ext.refl _ | assumption | refine Ext.alloc ?_ _ | refine Ext.drewN ?_ _ | refine Ext.drew ?_))
  cases h6 : (g.k == 6)
  case true =>
    have HO := Lib.hid (ctl_6 HP.out h6)
    have hz := hx
    go_wp2_with (first | (go_at_call 90; refine (spec_one_any _ _ _ hz).mono ?_; clear hz; rintro e w' ⟨rfl, hz⟩) | (go_at_call 89; refine (spec_cx_any _ _ _ hz).mono ?_; clear hz; rintro e w' ⟨rfl, hz⟩))
    go_ret2
    exact CtlE.mk HO.out.1 HO.out.2 (own_lit (by repeat (first | exact Ext.refl _ | assumption | refine Ext.alloc ?_ _ | refine Ext.drewN ?_ _ | refine Ext.drew ?_)) _ _ 4 5 #[.int .i64 8, .int .i64 q, .int .i64 0, .int .i64 0, .int .i64 8, .int .i64 g.a, .int .i64 0, .int .i64 0, .int .i64 9, .int .i64 q, .int .i64 g.a, .int .i64 0, .int .i64 7, .int .i64 g.a, .int .i64 0, .int .i64 0, .int .i64 9, .int .i64 q, .int .i64 g.a, .int .i64 0] _ rfl rfl rfl (by omega)) (by repeat (first | exact Ext.refl _ | assumption | refine Ext.alloc ?_ _ | refine Ext.drewN ?_ _ | refine Ext.drew ?_))
  cases h9 : (g.k == 9)
  case true =>
    have HO := Lib.hid (ctl_9 HP.out h9)
    have hz := hx
    go_wp2_with (first | (go_at_call 90; refine (spec_one_any _ _ _ hz).mono ?_; clear hz; rintro e w' ⟨rfl, hz⟩) | (go_at_call 89; refine (spec_cx_any _ _ _ hz).mono ?_; clear hz; rintro e w' ⟨rfl, hz⟩))
    go_ret2
    exact CtlE.mk HO.out.1 HO.out.2 (own_lit (by repeat (first | exact Ext.refl _ | assumption | refine Ext.alloc ?_ _ | refine Ext.drewN ?_ _ | refine Ext.drew ?_)) _ _ 4 1 #[.int .i64 12, .int .i64 q, .int .i64 g.a, .int .i64 g.b] _ rfl rfl rfl (by omega)) (by repeat (first | exact Ext.refl _ | assumption | refine Ext.alloc ?_ _ | refine Ext.drewN ?_ _ | refine Ext.drew ?_))
  cases h10 : (g.k == 10)
  case true =>
    have HO := Lib.hid (ctl_10 HP.out h10)
    have hz := hx
    have HK : Hid (∀ w', Blk w' s 29 #[.int .i64 12, .int .i64 q, .int .i64 g.a, .int .i64 g.b] → w'.cell? ⟨s, 0, none⟩ = some (.int .i64 12) ∧ w'.cell? ⟨s, 1, none⟩ = some (.int .i64 q) ∧ w'.cell? ⟨s, 2, none⟩ = some (.int .i64 g.a) ∧ w'.cell? ⟨s, 3, none⟩ = some (.int .i64 g.b)) := fun w' q1 => ⟨q1.cell 0, q1.cell 1, q1.cell 2, q1.cell 3⟩
    go_wp2
    have hz0 := Ext.refl W3
    go_region_held3 (fun w' => w'.cell? ⟨s, 0, none⟩ = some (.int .i64 12) ∧ w'.cell? ⟨s, 1, none⟩ = some (.int .i64 q) ∧ w'.cell? ⟨s, 2, none⟩ = some (.int .i64 g.a) ∧ w'.cell? ⟨s, 3, none⟩ = some (.int .i64 g.b))
      (first | go_keep | exact HK.out _ (hT.ext (by assumption)))
      (first | (go_at_call 90; (with_reducible refine (spec_one_any (w0 := W3) _ _ _ (by repeat (first | exact Ext.refl _ | assumption | refine Ext.alloc ?_ _ | refine Ext.drewN ?_ _ | refine Ext.drew ?_))).mono ?_); clear hz0; rintro e w' ⟨rfl, hz0⟩))
    all_goals
      go_wp2
      go_ret2
      exact CtlE.mk HO.out.1 HO.out.2 (own_lit (hx.trans (by repeat (first | exact Ext.refl _ | assumption | refine Ext.alloc ?_ _ | refine Ext.drewN ?_ _ | refine Ext.drew ?_))) _ _ 4 3 #[.int .i64 4, .int .i64 g.b, .int .i64 0, .int .i64 0, .int .i64 12, .int .i64 q, .int .i64 g.a, .int .i64 g.b, .int .i64 4, .int .i64 g.b, .int .i64 0, .int .i64 0] _ rfl rfl rfl (by omega)) (hx.trans (by repeat (first | exact Ext.refl _ | assumption | refine Ext.alloc ?_ _ | refine Ext.drewN ?_ _ | refine Ext.drew ?_)))
  cases h11 : (g.k == 11)
  case true =>
    have HO := Lib.hid (ctl_11 HP.out h11)
    have hz := hx
    have HK : Hid (∀ w', Blk w' s 29 #[.int .i64 12, .int .i64 q, .int .i64 g.a, .int .i64 g.b] → w'.cell? ⟨s, 0, none⟩ = some (.int .i64 12) ∧ w'.cell? ⟨s, 1, none⟩ = some (.int .i64 q) ∧ w'.cell? ⟨s, 2, none⟩ = some (.int .i64 g.a) ∧ w'.cell? ⟨s, 3, none⟩ = some (.int .i64 g.b)) := fun w' q1 => ⟨q1.cell 0, q1.cell 1, q1.cell 2, q1.cell 3⟩
    go_wp2
    have hz0 := Ext.refl W3
    go_region_held3 (fun w' => w'.cell? ⟨s, 0, none⟩ = some (.int .i64 12) ∧ w'.cell? ⟨s, 1, none⟩ = some (.int .i64 q) ∧ w'.cell? ⟨s, 2, none⟩ = some (.int .i64 g.a) ∧ w'.cell? ⟨s, 3, none⟩ = some (.int .i64 g.b))
      (first | go_keep | exact HK.out _ (hT.ext (by assumption)))
      (first | (go_at_call 89; (with_reducible refine (spec_cx_any (w0 := W3) _ _ _ (by repeat (first | exact Ext.refl _ | assumption | refine Ext.alloc ?_ _ | refine Ext.drewN ?_ _ | refine Ext.drew ?_))).mono ?_); clear hz0; rintro e w' ⟨rfl, hz0⟩))
    all_goals
      go_wp2
      go_ret2
      exact CtlE.mk HO.out.1 HO.out.2 (own_lit (hx.trans (by repeat (first | exact Ext.refl _ | assumption | refine Ext.alloc ?_ _ | refine Ext.drewN ?_ _ | refine Ext.drew ?_))) _ _ 4 3 #[.int .i64 9, .int .i64 g.b, .int .i64 g.a, .int .i64 0, .int .i64 12, .int .i64 q, .int .i64 g.a, .int .i64 g.b, .int .i64 9, .int .i64 g.b, .int .i64 g.a, .int .i64 0] _ rfl rfl rfl (by omega)) (hx.trans (by repeat (first | exact Ext.refl _ | assumption | refine Ext.alloc ?_ _ | refine Ext.drewN ?_ _ | refine Ext.drew ?_)))
  have HO := Lib.hid (ctl_n (q := q) (g := g) h1 h2 h3 h4 h5 h6 h9 h10 h11)
  go_wp2
  go_ret2
  exact CtlE.mk HO.out (ctl_no HO.out) (own_lit hx _ _ 4 0 #[] _ rfl rfl rfl (by omega)) (Ext.alloc hx _)
end Go.Proofs.Ytnemoemdanidbaa
