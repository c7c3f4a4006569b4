/-
  Helper text (no claim of its own): controlled lists of gates and of ops.
-/
import Derived.Test.YtnemoemdanidbaaCtl
import Derived.Test.YtnemoemdanidbaaGops
namespace Go.Proofs.Ytnemoemdanidbaa
open Go.ChangeShapes Go.WideShapes Go.ChangeAt Go.RowKit Go.Deep
/-! ### Lists that are all right, and what each element gives -/
section
variable {α β : Type} {xs : List α} {x : α} {k m : Nat}
theorem all_no {f : α → Bool} (h : xs[k]? = some x) (hf : f x = false) : xs.all f = false := by
  rw [List.all_eq_false]
  exact ⟨x, List.mem_of_getElem? h, by simp [hf]⟩
theorem all_snoc {f : α → Bool} (h : xs[k]? = some x) (hq : (xs.take k).all f = true) (hf : f x = true) : (xs.take (k + 1)).all f = true := by
  rw [take_snoc h, List.all_append, hq]; simp [hf]
theorem fm_snoc (f : α → List β) (h : xs[k]? = some x) : (xs.take (k + 1)).flatMap f = (xs.take k).flatMap f ++ f x := by
  rw [take_snoc h, List.flatMap_append]; simp
theorem fm_len (f : α → List β) (hf : ∀ x, (f x).length ≤ m) (xs : List α) : (xs.flatMap f).length ≤ m * xs.length := by
  induction xs with
  | nil => simp
  | cons o xs ih => have := hf o; rw [List.flatMap_cons, List.length_append, List.length_cons, Nat.mul_succ]; omega
theorem fm_take (f : α → List β) (hf : ∀ x, (f x).length ≤ m) (xs : List α) (k : Nat) : ((xs.take k).flatMap f).length ≤ m * k :=
  Nat.le_trans (fm_len f hf _) (Nat.mul_le_mul_left _ (List.length_take_le _ _))
end
/-- What a list gives that is right throughout; nothing else gives anything. -/
def allR {α β : Type} (ok : α → Bool) (f : α → List β) (xs : List α) : List β := if xs.all ok = true then xs.flatMap f else []
theorem allR_no {α β : Type} {ok : α → Bool} {f : α → List β} {xs : List α} (h : xs.all ok = false) : allR ok f xs = [] := if_neg (by simp [h])
theorem allR_yes {α β : Type} {ok : α → Bool} {f : α → List β} {xs : List α} (h : xs.all ok = true) : allR ok f xs = xs.flatMap f := if_pos h
def AllE {α : Type} (T size : Nat) (cells : List α → List Value) (w : World) (ok : Bool) (r : List α) (e : Ending) (w' : World) : Prop := ∃ v, e = .returned (.tuple #[v, .bool ok]) ∧ w'.ownsRow w.heap.size T size v r.length (cells r) ∧ Ext w w'
theorem AllE.mk {α : Type} {T size : Nat} {cells : List α → List Value} {w w' : World} {v : Value} {ok b : Bool} {r xs : List α} (hb : ok = b) (hx : r = xs) (ho : w'.ownsRow w.heap.size T size v xs.length (cells xs)) (hw : Ext w w') : AllE T size cells w ok r (.returned (.tuple #[v, .bool b])) w' := by
  subst hb hx; exact ⟨v, rfl, ho, hw⟩

set_option maxRecDepth 100000 in
set_option maxHeartbeats 8000000 in
theorem impl_ControlledGates_any (q : Int) (A : Option Addr) (n c : Nat) (gs : List Gt) (w : World) (h : Rd w w.heap.size 4 A n (gcells gs)) (hn : n ≤ 1048576) :
    Calls Try.prog 16 #[.int .i64 q, .slice A n c] w (AllE 29 4 gcells w (gs.all (ctlOk q)) (allR (ctlOk q) (ctlR q) gs)) := by
  have hlen := Lib.hid (h.len Gt.cells_len (by omega))
  go_enter Try.func16, Try.ntmps16
  go_wp2
  go_loopw [6, 14] (fun v i wr => ∃ k : Nat, k ≤ n ∧ i = .int .i64 k ∧ Hid ((gs.take k).all (ctlOk q) = true) ∧ wr.ownsRow w.heap.size 29 4 v ((gs.take k).flatMap (ctlR q)).length (gcells ((gs.take k).flatMap (ctlR q))) ∧ Ext w wr) (fun _ i _ => n - (intOf i).toNat)
  case atStart => exact ⟨0, Nat.zero_le _, rfl, Lib.hid (by simp), own_empty w w _ _ (Ext.refl _), (by repeat (first | exact Ext.refl _ | assumption | refine Ext.alloc ?_ _ | refine Ext.drewN ?_ _ | refine Ext.drew ?_))⟩
  case round =>
    obtain ⟨k, hk, rfl, HQ, hown, hx⟩ := hrel
    by_cases hlt : k < n
    · obtain ⟨b, o, g, rfl, hb, hg, r0, r1, r2, r3⟩ := gate_at (h.ext hx) hlt
      have HG := Lib.hid hg
      clear hg
      have hf := fm_take (ctlR q) (ctlR_len q) gs k
      have hol := ctlR_len q g
      go_wp2_with fail
      refine (impl_ControlledGate_any q g _).mono ?_
      rintro e w1 ⟨v1, rfl, hl1, hy1⟩
      replace hy1 := Ext.trans ((Ext.refl wr).alloc _) hy1
      obtain ⟨A1', c1', rfl, hr1⟩ := own_slice hl1
      have hx1 := hx.trans hy1
      have ho1 := own_ext hown hy1
      clear r0 r1 r2 r3 hl1
      cases hok : ctlOk q g
      · have HO := Lib.hid (all_no HG.out hok)
        go_wp2
        go_ret2
        exact AllE.mk HO.out (allR_no HO.out) (World.ownsRow_nil _ _ _ _) hx1
      · have HQ2 := Lib.hid (all_snoc HG.out HQ.out hok)
        have HS := Lib.hid (fm_snoc (ctlR q) HG.out)
        go_wp2_with (at_builtin; refine appGateS (w0 := w) rfl _ _ rfl _ _ ((gs.take k).flatMap (ctlR q)) rfl ho1 hx1 A1' _ c1' (ctlR q g) rfl hr1 (by omega) ?_; intro v2 w2 ho2 hx2 hg2 hl2)
        go_roundw
        case rel => exact ⟨k + 1, by omega, by go_num, HQ2, by rw [HS.out, List.length_append]; exact ho2, hx2⟩
        case measure => simp [intOf]; omega
    · rw [List.take_of_length_le (by rw [hlen.out]; omega)] at hown HQ
      go_wp2
      go_ret2
      exact AllE.mk HQ.out (allR_yes HQ.out) hown hx

/-- Whether an op can be controlled, and what it gives. -/
def ctoOk (q : Int) (o : Oq) : Bool := o.k != 1 || ctlOk q o.g
def ctoR (q : Int) (o : Oq) : List Oq := if (o.k == 1) = true then gops (ctlR q o.g) o.cond else [o]
theorem ctoR_len (q : Int) (o : Oq) : (ctoR q o).length ≤ 7 := by
  unfold ctoR
  split
  · rw [gops_len]; exact ctlR_len _ _
  · simp
theorem cto_n {q : Int} {o : Oq} (h : (o.k == 1) = false) : ctoOk q o = true ∧ ctoR q o = [o] := by
  unfold ctoOk ctoR; simp [bne, h]
theorem cto_1 {q : Int} {o : Oq} (h : (o.k == 1) = true) : ctoOk q o = ctlOk q o.g ∧ ctoR q o = gops (ctlR q o.g) o.cond := by
  unfold ctoOk ctoR; simp [bne, h]
set_option maxRecDepth 100000 in
set_option maxHeartbeats 8000000 in
theorem impl_ControlledOps_any (q : Int) (A : Option Addr) (n c : Nat) (xs : List Oq) (w : World) (h : Rd w w.heap.size 8 A n (ocells xs)) (hn : n ≤ 1048576) :
    Calls Try.prog 13 #[.int .i64 q, .slice A n c] w (AllE 31 8 ocells w (xs.all (ctoOk q)) (allR (ctoOk q) (ctoR q) xs)) := by
  have hlen := Lib.hid (h.len Oq.cells_len (by omega))
  go_enter Try.func13, Try.ntmps13
  go_wp2
  go_loopw [6, 14] (fun v i wr => ∃ k : Nat, k ≤ n ∧ i = .int .i64 k ∧ Hid ((xs.take k).all (ctoOk q) = true) ∧ wr.ownsRow w.heap.size 31 8 v ((xs.take k).flatMap (ctoR q)).length (ocells ((xs.take k).flatMap (ctoR q))) ∧ Ext w wr) (fun _ i _ => n - (intOf i).toNat)
  case atStart => exact ⟨0, Nat.zero_le _, rfl, Lib.hid (by simp), own_empty w w _ _ (Ext.refl _), (by repeat (first | exact Ext.refl _ | assumption | refine Ext.alloc ?_ _ | refine Ext.drewN ?_ _ | refine Ext.drew ?_))⟩
  case round =>
    obtain ⟨k, hk, rfl, HQ, hown, hx⟩ := hrel
    by_cases hlt : k < n
    · obtain ⟨b, o, x, rfl, hb, hg, r0, r1, r2, r3, r4, r5, r6, r7⟩ := op_at (h.ext hx) hlt
      have HG := Lib.hid hg
      clear hg
      have hf := fm_take (ctoR q) (ctoR_len q) xs k
      have hol := ctlR_len q x.g
      cases hk1 : (x.k == 1)
      · have hk1' : (x.k != 1) = true := by simp [bne, hk1]
        have HC := Lib.hid (cto_n (q := q) hk1)
        have HQ2 := Lib.hid (all_snoc HG.out HQ.out HC.out.1)
        have HS := Lib.hid (fm_snoc (ctoR q) HG.out)
        go_wp2_with (at_builtin; refine appOp rfl _ _ rfl _ _ ((xs.take k).flatMap (ctoR q)) rfl (hown.alloc _) (hx.alloc _) x _ _ rfl (by simp) (by omega) ?_; intro v1 w1 hown1 hx1 hg1 hb1)
        go_roundw
        case rel => exact ⟨k + 1, by omega, by go_num, HQ2, by rw [HS.out, HC.out.2, List.length_append]; exact hown1, hx1⟩
        case measure => simp [intOf]; omega
      · have hk1' : (x.k != 1) = false := by simp [bne, hk1]
        have HC := Lib.hid (cto_1 (q := q) hk1)
        go_wp2_with fail
        refine (impl_ControlledGate_any q x.g _).mono ?_
        rintro e w1 ⟨v1, rfl, hl1, hy1⟩
        have hB := (Blk.new wr 31 #[.int .i64 x.k, .int .i64 x.g.k, .int .i64 x.g.a, .int .i64 x.g.b, .int .i64 x.g.c, .int .i64 x.q, .int .i64 x.bit, .int .i64 x.cond]).ext hy1
        have q0 : w1.cell? ⟨wr.heap.size, 7, none⟩ = some (.int .i64 x.cond) := hB.cell 7
        replace hy1 := Ext.trans ((Ext.refl wr).alloc _) hy1
        obtain ⟨A1', c1', rfl, hr1⟩ := own_slice hl1
        have hx1 := hx.trans hy1
        have ho1 := own_ext hown hy1
        clear r0 r1 r2 r3 r4 r5 r6 r7 hl1
        cases hok : ctlOk q x.g
        · have HO := Lib.hid (all_no HG.out (HC.out.1.trans hok))
          go_wp2
          go_ret2
          exact AllE.mk HO.out (allR_no HO.out) (World.ownsRow_nil _ _ _ _) hx1
        · have HQ2 := Lib.hid (all_snoc HG.out HQ.out (HC.out.1.trans hok))
          have HS := Lib.hid (fm_snoc (ctoR q) HG.out)
          go_wp2_with fail
          refine (impl_GateOps_any A1' _ c1' (ctlR q x.g) x.cond _ hr1 (by omega)).mono ?_
          rintro e w2 ⟨v2, rfl, hl2, hy2⟩
          have HL := Lib.hid (gops_len (ctlR q x.g) x.cond)
          obtain ⟨A2', c2', rfl, hr2⟩ := own_slice hl2
          have hx2 := hx1.trans hy2
          have ho2 := own_ext ho1 hy2
          clear hl2
          go_wp2_with (at_builtin; refine appOpS (w0 := w) rfl _ _ rfl _ _ ((xs.take k).flatMap (ctoR q)) rfl ho2 hx2 A2' _ c2' (gops (ctlR q x.g) x.cond) rfl hr2 (by rw [HL.out]; omega) ?_; intro v3 w3 ho3 hx3 hg3 hl3)
          go_roundw
          case rel => exact ⟨k + 1, by omega, by go_num, HQ2, by rw [HS.out, HC.out.2, List.length_append]; exact ho3, hx3⟩
          case measure => simp [intOf]; omega
    · rw [List.take_of_length_le (by rw [hlen.out]; omega)] at hown HQ
      go_wp2
      go_ret2
      exact AllE.mk HQ.out (allR_yes HQ.out) hown hx
set_option maxRecDepth 100000 in
set_option maxHeartbeats 8000000 in
theorem spec_ControlledOps_any (q : Int) (A : Option Addr) (n c : Nat) (xs : List Oq) (w : World) (h : Rd w w.heap.size 8 A n (ocells xs)) (hn : n ≤ 1048576) :
    Calls Try.prog 14 #[.int .i64 q, .slice A n c] w (AllE 31 8 ocells w (xs.all (ctoOk q)) (allR (ctoOk q) (ctoR q) xs)) := by
  have hlen := Lib.hid (h.len Oq.cells_len (by omega))
  go_enter Try.func14, Try.ntmps14
  go_wp2
  go_loopw [6, 7] (fun v i wr => ∃ k : Nat, k ≤ n ∧ i = .int .i64 k ∧ Hid ((xs.take k).all (ctoOk q) = true) ∧ wr.ownsRow w.heap.size 31 8 v ((xs.take k).flatMap (ctoR q)).length (ocells ((xs.take k).flatMap (ctoR q))) ∧ Ext w wr) (fun _ i _ => n - (intOf i).toNat)
  case atStart => exact ⟨0, Nat.zero_le _, rfl, Lib.hid (by simp), own_empty w w _ _ (Ext.refl _), (by repeat (first | exact Ext.refl _ | assumption | refine Ext.alloc ?_ _ | refine Ext.drewN ?_ _ | refine Ext.drew ?_))⟩
  case round =>
    obtain ⟨k, hk, rfl, HQ, hown, hx⟩ := hrel
    by_cases hlt : k < n
    · obtain ⟨b, o, x, rfl, hb, hg, r0, r1, r2, r3, r4, r5, r6, r7⟩ := op_at (h.ext hx) hlt
      have HG := Lib.hid hg
      clear hg
      have hf := fm_take (ctoR q) (ctoR_len q) xs k
      have hol := ctlR_len q x.g
      cases hk1 : (x.k == 1)
      · have hk1' : (x.k != 1) = true := by simp [bne, hk1]
        have HC := Lib.hid (cto_n (q := q) hk1)
        have HQ2 := Lib.hid (all_snoc HG.out HQ.out HC.out.1)
        have HS := Lib.hid (fm_snoc (ctoR q) HG.out)
        go_wp2_with (at_builtin; refine appOp rfl _ _ rfl _ _ ((xs.take k).flatMap (ctoR q)) rfl hown hx x _ _ rfl (by simp) (by omega) ?_; intro v1 w1 hown1 hx1 hg1 hb1)
        go_roundw
        case rel => exact ⟨k + 1, by omega, by go_num, HQ2, by rw [HS.out, HC.out.2, List.length_append]; exact hown1, hx1⟩
        case measure => simp [intOf]; omega
      · have hk1' : (x.k != 1) = false := by simp [bne, hk1]
        have HC := Lib.hid (cto_1 (q := q) hk1)
        go_wp2_with fail
        refine (spec_ControlledGate_any q x.g _).mono ?_
        rintro e w1 ⟨v1, rfl, hl1, hy1⟩
        have hy0 := hy1
        have q0 := (hy0.cell (p := ⟨b, o + k * 8 + 7, none⟩) hb).trans r7
        obtain ⟨A1', c1', rfl, hr1⟩ := own_slice hl1
        have hx1 := hx.trans hy1
        have ho1 := own_ext hown hy1
        clear r0 r1 r2 r3 r4 r5 r6  hl1
        cases hok : ctlOk q x.g
        · have HO := Lib.hid (all_no HG.out (HC.out.1.trans hok))
          go_wp2
          go_ret2
          exact AllE.mk HO.out (allR_no HO.out) (own_lit hx1 _ _ 8 0 #[] _ rfl rfl rfl (by omega)) (Ext.alloc hx1 _)
        · have HQ2 := Lib.hid (all_snoc HG.out HQ.out (HC.out.1.trans hok))
          have HS := Lib.hid (fm_snoc (ctoR q) HG.out)
          go_wp2_with fail
          refine (spec_GateOps_any A1' _ c1' (ctlR q x.g) x.cond _ hr1 (by omega)).mono ?_
          rintro e w2 ⟨v2, rfl, hl2, hy2⟩
          have HL := Lib.hid (gops_len (ctlR q x.g) x.cond)
          obtain ⟨A2', c2', rfl, hr2⟩ := own_slice hl2
          have hx2 := hx1.trans hy2
          have ho2 := own_ext ho1 hy2
          clear hl2
          go_wp2_with (at_builtin; refine appOpS (w0 := w) rfl _ _ rfl _ _ ((xs.take k).flatMap (ctoR q)) rfl ho2 hx2 A2' _ c2' (gops (ctlR q x.g) x.cond) rfl hr2 (by rw [HL.out]; omega) ?_; intro v3 w3 ho3 hx3 hg3 hl3)
          go_roundw
          case rel => exact ⟨k + 1, by omega, by go_num, HQ2, by rw [HS.out, HC.out.2, List.length_append]; exact ho3, hx3⟩
          case measure => simp [intOf]; omega
    · rw [List.take_of_length_le (by rw [hlen.out]; omega)] at hown HQ
      go_wp2
      go_ret2
      exact AllE.mk HQ.out (allR_yes HQ.out) hown hx
end Go.Proofs.Ytnemoemdanidbaa
