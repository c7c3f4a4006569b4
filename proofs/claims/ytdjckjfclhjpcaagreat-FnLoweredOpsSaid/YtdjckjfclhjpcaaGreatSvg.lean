/-
 Helper text (no claim of its own): validity of a gate, by the reference.
-/
import Derived.Test.YtdjckjfclhjpcaaGreatSval
namespace Go.Proofs.YtdjckjfclhjpcaaGreat
open Go.ChangeShapes Go.WideShapes Go.ChangeAt Go.RowKit Go.Deep
def okS (g : Gt) (m : Int) (i : Nat) (q : Int) : Bool :=
 if ar g.k ≤ i then q == 0 else decide (0 ≤ q) && decide (q ≤ m) && !(hasI ((qus g).take i) q)
theorem okS_hi {g : Gt} {m : Int} {i : Nat} {q : Int} (h : ar g.k ≤ i) : okS g m i q = (q == 0) := if_pos h
theorem okS_lo {g : Gt} {m : Int} {i : Nat} {q : Int} (h : ¬ ar g.k ≤ i) : okS g m i q = (decide (0 ≤ q) && decide (q ≤ m) && !(hasI ((qus g).take i) q)) := if_neg h
theorem okS_out {g : Gt} {m : Int} {i : Nat} {q : Int} (h : ¬ ar g.k ≤ i) (hr : q < 0 ∨ m < q) : okS g m i q = false := by
 rw [okS_lo h]
 rcases hr with hr | hr
 ·have e : decide (0 ≤ q) = false := by simp; omega
  simp [e]
 ·have e : decide (q ≤ m) = false := by simp; omega
  simp [e]
theorem okS_eq (g : Gt) (n : Int) (i : Nat) (q : Int) : okS g (n - 1) i q = okI g n i q := by
 unfold okS okI
 by_cases h : ar g.k ≤ i
 ·rw [if_pos h, if_pos h]
 ·rw [if_neg h, if_neg h]
  have e : (qus g).take i = (qs g).take i := by
   unfold qus
   rw [List.take_take, show min i (ar g.k).toNat = i from by omega]
  rw [e]; rfl
theorem w64 (n : Int) : IntKind.i64.wrap n = wrap64 n := by rw [IntKind.wrap_i64]; unfold wrap64; omega
/-- What the reference's loop finds: all three places are right. -/
def vgS (g : Gt) (n : Int) : Bool := decide (0 < ar g.k) && decide (1 ≤ n) && decide (n ≤ 4)
theorem vg_of_bad {g : Gt} {n m : Int} (hm : m = IntKind.i64.wrap (n - 1)) {k : Nat} {q : Int} (hq : (qs g)[k]? = some q) (h : okS g m k q = false) : vg g n = false := by
 by_cases hn : n < 1 ∨ 4 < n
 ·exact vg_n hn
 ·have e : m = n - 1 := by rw [hm]; exact IntWalk.i64_in _ (by omega)
  subst e
  exact vg_bad hq (by rw [← okS_eq]; exact h)
theorem vg_of_good {g : Gt} {n m : Int} (hm : m = IntKind.i64.wrap (n - 1)) (h : ∀ i q, (qs g)[i]? = some q → okS g m i q = true) : vg g n = vgS g n := by
 unfold vgS
 by_cases hn : n < 1 ∨ 4 < n
 ·rw [vg_n hn]
  rcases hn with hn | hn
  ·have e : decide (1 ≤ n) = false := by simp; omega
   simp [e]
  ·have e : decide (n ≤ 4) = false := by simp; omega
   simp [e]
 ·have e : m = n - 1 := by rw [hm]; exact IntWalk.i64_in _ (by omega)
  subst e
  by_cases h0 : 0 < ar g.k
  ·rw [vg_good (by omega) (by omega) h0 (fun i q hq => by rw [← okS_eq]; exact h i q hq)]
   have e1 : decide (1 ≤ n) = true := by simp; omega
   have e2 : decide (n ≤ 4) = true := by simp; omega
   simp [e1, e2, h0]
  ·have h1 := ar_range g.k
   rw [vg_0 (by omega)]
   simp [h0]

set_option maxRecDepth 100000 in
set_option maxHeartbeats 4000000 in
theorem spec_IsValidGate_any (g : Gt) (n : Int) (w : World) :
  Calls Tryz.prog 61 #[g.val, .int .i64 n] w fun e w' => e = .returned (.bool (vg g n)) ∧ Ext w w' := by
 obtain ⟨ha0, ha3⟩ := ar_range g.k
 have HL0 := Lib.hid (qus_len g)
 go_enter Tryz.func61, Tryz.ntmps61
 go_wp2_with fail
 refine (spec_GateQubits_any g _).mono ?_
 rintro e w1 ⟨v1, rfl, ho1, hx1⟩
 obtain ⟨A1, c1, rfl, hr1⟩ := own_slice ho1
 have hB : Blk w1 w.heap.size 38 #[.int .i64 g.k, .int .i64 g.a, .int .i64 g.b, .int .i64 g.c] := (Blk.new w _ _).ext hx1
 have hx : Ext w w1 := Ext.trans (by exact xx) hx1
 have hhd : 0 < (qus g).length → ∃ b, A1 = some ⟨b, 0, none⟩ ∧ (qus g).length ≤ c1 := fun h => own_head ho1 h
 have HHD := Lib.hid hhd
 clear hhd hx1 ho1
 have b1 : w1.cell? ⟨w.heap.size, 1, none⟩ = some (.int .i64 g.a) := hB.cell 1
 have b2 : w1.cell? ⟨w.heap.size, 2, none⟩ = some (.int .i64 g.b) := hB.cell 2
 have b3 : w1.cell? ⟨w.heap.size, 3, none⟩ = some (.int .i64 g.c) := hB.cell 3
 generalize hL : (qus g).length = L at *
 have HL := HL0
 clear hL HL0
 have hLi : (L : Int) = ar g.k := by have := HL.out; omega
 have HLi := Lib.hid hLi
 have hL3 : L ≤ 3 := by omega
 clear hLi
 go_wp2
 clear b1 b2 b3 hB
 have hA : Blk (w1.alloc (.cells #[.int .i64 g.a, .int .i64 g.b, .int .i64 g.c] 3)) w1.heap.size 3 #[.int .i64 g.a, .int .i64 g.b, .int .i64 g.c] := Blk.new _ _ _
 have hr2 := hr1.ext ((Ext.refl w1).alloc (.cells #[.int .i64 g.a, .int .i64 g.b, .int .i64 g.c] 3))
 have hx2 := hx.alloc (.cells #[.int .i64 g.a, .int .i64 g.b, .int .i64 g.c] 3)
 clear hr1 hx
 generalize (w1.alloc (.cells #[.int .i64 g.a, .int .i64 g.b, .int .i64 g.c] 3)) = W at *
 go_loopw [7] (fun i wr => ∃ k : Nat, k ≤ 3 ∧ i = .int .i64 k ∧ Hid (∀ i q, i < k → (qs g)[i]? = some q → okS g (IntKind.i64.wrap (n - 1)) i q = true) ∧ ∃ r, wr = W.drewN r) (fun i _ => 3 - (intOf i).toNat)
 case atStart => exact ⟨0, by omega, rfl, fun i q h => absurd h (by omega), 0, rfl⟩
 case round =>
  obtain ⟨k, hk, rfl, HQ, r, rfl⟩ := hrel
  by_cases hlt : k < 3
  ·obtain ⟨q, hq⟩ := qs_at (g := g) hlt
   have hc : W.cell? ⟨w1.heap.size, k, none⟩ = some (.int .i64 q) := by
    rw [hA.cell k]
    rcases (by omega : k = 0 ∨ k = 1 ∨ k = 2) with rfl | rfl | rfl <;> (simp [qs] at hq; subst hq; rfl)
   have HG := Lib.hid hq
   clear hq
   have hk0 : (0 : Int) ≤ (k : Int) := by omega
   have hk3 : (k : Int) < 3 := by omega
   by_cases hak : L ≤ k
   ·have hd : decide (L ≤ k) = true := by simp [hak]
    have hd2 : decide (k < L) = false := by simp; omega
    have HO := Lib.hid (okS_hi (g := g) (m := IntKind.i64.wrap (n - 1)) (i := k) (q := q) (by have := HLi.out; omega))
    cases hq0 : (q == 0)
    ·have hq0' : (q != 0) = true := by simp [bne, hq0]
     have HF := Lib.hid (vg_of_bad rfl HG.out (by rw [HO.out, hq0]))
     go_wp2
     go_quiet (fail)
     go_wp2
     go_ret
     exact ⟨ret_bool HF.out.symm, xx⟩
    ·have hq0' : (q != 0) = false := by simp [bne, hq0]
     go_wp2
     go_quiet (fail)
     go_wp2
     go_roundw
     case rel =>
      refine ⟨k + 1, by omega, by go_num, fun i q' hi hq' => ?_, _, rfl⟩
      by_cases e : i = k
      ·subst e
       have := HG.out
       rw [hq'] at this
       injection this with this
       rw [this, HO.out, hq0]
      ·exact HQ.out i q' (by omega) hq'
     case measure => simp [intOf]; omega
   ·have hd : decide (L ≤ k) = false := by simp; omega
    have hkL : k < L := by omega
    have hd2 : decide (k < L) = true := by simp [hkL]
    have hak' : ¬ ar g.k ≤ k := by have := HLi.out; omega
    have HAK := Lib.hid hak'
    have HO := Lib.hid (okS_lo (m := IntKind.i64.wrap (n - 1)) (q := q) hak')
    clear hak hak'
    obtain ⟨b, rfl, hLc⟩ := HHD.out (by omega)
    have hkc : (k : Int) ≤ (c1 : Int) := by omega
    by_cases hr : q < 0 ∨ IntKind.i64.wrap (n - 1) < q
    ·have HF := Lib.hid (vg_of_bad rfl HG.out (okS_out HAK.out hr))
     have HR := Lib.hid hr
     have HR2 : Hid (q < 0 ∨ wrap64 (n - 1) < q) := by rw [w64] at hr; exact hr
     clear hr
     go_wp2
     go_quiet ((go_at_call 40; (with_reducible refine quiet_more (l1In_no _ _ _ _ ?_)); first | exact HR.out | exact HR2.out))
     go_wp2
     go_ret
     exact ⟨ret_bool HF.out.symm, xx⟩
    ·have h1 : 0 ≤ q := by omega
     have h2 : q ≤ IntKind.i64.wrap (n - 1) := by omega
     have HH2 := Lib.hid h2
     have HH3 : Hid (q ≤ wrap64 (n - 1)) := by rw [w64] at h2; exact h2
     have HH1 := Lib.hid h1
     clear hr h2
     have hRk := rd_cut hr2 (Nat.le_of_lt hkL)
     rw [icells_take] at hRk
     have HRk : Hid (∀ z, Rd (W.drewN z) (W.drewN z).heap.size 1 (some ⟨b, 0, none⟩) k (icells ((qus g).take k))) := fun z => hRk.ext ((Ext.refl W).drewN z)
     clear hRk
     cases hs : hasI ((qus g).take k) q
     ·go_wp2
      go_quiet (first | (go_at_call 40; (with_reducible refine quiet_more (l1In_yes _ _ _ _ HH1.out ?_)); first | exact HH2.out | exact HH3.out) | (go_at_call 81; (with_reducible refine quiet_more (l1HasInt_any _ k c1 ((qus g).take k) q _ (HRk.out _) ?_)); omega))
      go_wp2
      go_roundw
      case rel =>
       refine ⟨k + 1, by omega, by go_num, fun i q' hi hq' => ?_, _, rfl⟩
       by_cases e : i = k
       ·subst e
        have := HG.out
        rw [hq'] at this
        injection this with this
        rw [this, HO.out, hs]
        simp [HH1.out, HH2.out]
       ·exact HQ.out i q' (by omega) hq'
      case measure => simp [intOf]; omega
     ·have HF := Lib.hid (vg_of_bad rfl HG.out (by rw [HO.out, hs]; simp))
      go_wp2
      go_quiet (first | (go_at_call 40; (with_reducible refine quiet_more (l1In_yes _ _ _ _ HH1.out ?_)); first | exact HH2.out | exact HH3.out) | (go_at_call 81; (with_reducible refine quiet_more (l1HasInt_any _ k c1 ((qus g).take k) q _ (HRk.out _) ?_)); omega))
      go_wp2
      go_ret
      exact ⟨ret_bool HF.out.symm, xx⟩
  ·obtain rfl : k = 3 := by omega
   have HF := Lib.hid (vg_of_good (g := g) (n := n) rfl (fun i q h => HQ.out i q (by have := (List.getElem?_eq_some_iff.1 h).1; simpa [qs] using this) h))
   by_cases h0 : 0 < L
   ·by_cases hn : n < 1 ∨ 4 < n
    ·have HV : Hid (vgS g n = false) := by
      unfold Hid vgS
      rcases hn with hn | hn
      ·have e : decide (1 ≤ n) = false := by simp; omega
       simp [e]
      ·have e : decide (n ≤ 4) = false := by simp; omega
       simp [e]
     have HN := Lib.hid hn
     clear hn
     go_wp2_with fail
     refine (l1In_no _ _ _ _ HN.out).mono ?_
     rintro e w2 ⟨rfl, rfl⟩
     go_wp2
     go_ret
     exact ⟨ret_bool (by rw [HF.out, HV.out]), xx⟩
    ·have HV : Hid (vgS g n = true) := by
      unfold Hid vgS
      have e1 : decide (1 ≤ n) = true := by simp; omega
      have e2 : decide (n ≤ 4) = true := by simp; omega
      have e3 : decide (0 < ar g.k) = true := by have := HLi.out; simp; omega
      simp [e1, e2, e3]
     go_wp2_with fail
     refine (l1In_yes _ _ _ _ (by omega) (by omega)).mono ?_
     rintro e w2 ⟨rfl, rfl⟩
     go_wp2
     go_ret
     exact ⟨ret_bool (by rw [HF.out, HV.out]), xx⟩
   ·have HV : Hid (vgS g n = false) := by
     unfold Hid vgS
     have e3 : decide (0 < ar g.k) = false := by have := HLi.out; simp; omega
     simp [e3]
    have h0' : decide (0 < L) = false := by simp; omega
    clear h0
    go_wp2
    go_ret
    exact ⟨ret_bool (by rw [HF.out, HV.out]), xx⟩
end Go.Proofs.YtdjckjfclhjpcaaGreat
