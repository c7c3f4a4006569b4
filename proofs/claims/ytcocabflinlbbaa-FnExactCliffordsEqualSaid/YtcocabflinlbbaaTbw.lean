/-
  Helper text (no claim of its own): validity of a tableau, by the program. Printed by gen_tb.py.
-/
import Derived.Test.YtcocabflinlbbaaTbp
import Derived.Test.YtcocabflinlbbaaMu
namespace Go.Proofs.Ytcocabflinlbbaa
open Go.ChangeShapes Go.WideShapes Go.ChangeAt Go.RowKit Go.Deep
set_option linter.unusedVariables false
set_option maxRecDepth 100000 in
set_option maxHeartbeats 8000000 in
theorem impl_IsValidTableau_any (A : Option Addr) (c : Nat) (n : Int) (rs : List Pa) (w : World) (h : Rd w w.heap.size 4 A rs.length (pcells rs)) (hl : rs.length ≤ 100000000) (hcap : rs.length ≤ c) :
    Calls Try.prog 32 #[.agg #[.int .i64 n, .slice A rs.length c]] w fun e w' => e = .returned (.bool (vTab n rs)) ∧ Ext w w' := by
  obtain ⟨l, hgl⟩ : ∃ l, rs.length = l := ⟨_, rfl⟩
  rw [hgl] at h hl hcap
  rw [hgl]
  have HL := Lib.hid hgl
  clear hgl
  by_cases hn : n < 1 ∨ 4 < n
  · have HN := Lib.hid hn
    have HF := Lib.hid (vTab_n (rs := rs) hn)
    clear hn
    go_enter Try.func32, Try.ntmps32
    go_wp2_with fail
    refine (in_no _ _ _ _ HN.out).mono ?_
    rintro e w5 ⟨rfl, rfl⟩
    go_wp2
    go_ret
    exact ⟨ret_bool HF.out.symm, (by repeat (first | exact Ext.refl _ | assumption | refine Ext.alloc ?_ _ | refine Ext.drewN ?_ _ | refine Ext.drew ?_))⟩
  have hn1 : 1 ≤ n := by omega
  have hn4 : n ≤ 4 := by omega
  have hw2 : IntKind.i64.wrap (2 * n) = 2 * n := IntWalk.i64_in _ (by omega)
  clear hn
  cases hll : ((l : Int) == 2 * n)
  · have HF := Lib.hid (vTab_l (rs := rs) (n := n) (by rw [HL.out]; exact hll))
    have hnb : ((l : Int) != 2 * n) = true := by rw [bne, hll]; rfl
    clear hll
    go_enter Try.func32, Try.ntmps32
    go_wp2_with fail
    refine (in_yes _ _ _ _ hn1 hn4).mono ?_
    rintro e w5 ⟨rfl, rfl⟩
    go_wp2
    go_ret
    exact ⟨ret_bool HF.out.symm, (by repeat (first | exact Ext.refl _ | assumption | refine Ext.alloc ?_ _ | refine Ext.drewN ?_ _ | refine Ext.drew ?_))⟩
  have hnb : ((l : Int) != 2 * n) = false := by rw [bne, hll]; rfl
  have HLL : Hid ((l : Int) = 2 * n) := by unfold Hid; simpa using hll
  have HG : Hid ((∀ k, k < l → rowOk n rs k = true) → vTab n rs = true) := fun h => vTab_good hn1 hn4 (by rw [HL.out]; exact hll) (by rw [HL.out]; exact h)
  have HBAD : Hid (∀ k, k < l → rowOk n rs k = false → vTab n rs = false) := fun k hk h => vTab_bad (by rw [HL.out]; exact hk) h
  clear hll
  obtain ⟨b, o, rfl, -, -⟩ := h.2 (by have := HLL.out; omega)
  have HROW : Hid (∀ i, i < l → ∃ x, rs[i]? = some x) := fun i hi => ⟨_, List.getElem?_eq_getElem (by rw [HL.out]; exact hi)⟩
  go_enter Try.func32, Try.ntmps32
  go_wp2_with fail
  refine (in_yes _ _ _ _ hn1 hn4).mono ?_
  rintro e w5 ⟨rfl, rfl⟩
  go_wp2
  have HX : Hid (Ext w (w.alloc (.cells #[.int .i64 n, .slice (some ⟨b, o, none⟩) l c] 35))) := (by repeat (first | exact Ext.refl _ | assumption | refine Ext.alloc ?_ _ | refine Ext.drewN ?_ _ | refine Ext.drew ?_))
  have HB : Hid (Blk (w.alloc (.cells #[.int .i64 n, .slice (some ⟨b, o, none⟩) l c] 35)) w.heap.size 35 #[.int .i64 n, .slice (some ⟨b, o, none⟩) l c]) := Blk.new w _ _
  generalize (w.alloc (.cells #[.int .i64 n, .slice (some ⟨b, o, none⟩) l c] 35)) = w1 at *
  clear hnb hw2
  go_loopw [23] (fun i wr => ∃ k : Nat, k ≤ l ∧ i = .int .i64 k ∧ Hid (∀ j, j < k → rowOk n rs j = true) ∧ Hid (Blk wr w.heap.size 35 #[.int .i64 n, .slice (some ⟨b, o, none⟩) l c] ∧ Ext w wr)) (fun i _ => l - (intOf i).toNat)
  case atStart => exact ⟨0, Nat.zero_le _, rfl, fun j hj => absurd hj (by omega), ⟨HB.out, HX.out⟩⟩
  case round =>
    obtain ⟨k, hk, rfl, HQ, HW⟩ := hrel
    clear HB HX
    by_cases hlt : k < l
    · have HLT := Lib.hid hlt
      obtain ⟨p, hp⟩ := HROW.out k hlt
      have HP := Lib.hid hp
      clear hp
      obtain ⟨x0, x1, x2, x3⟩ := row_at (h.up HW.out.2 (Nat.le_refl _)) HLT.out HP.out
      go_upto_region 6 with (fail)
      have HW2 : Hid (Blk (wr.alloc (.cells #[.int .i64 p.n, .int .i64 p.x, .int .i64 p.z, .int .i64 p.p] 47)) w.heap.size 35 #[.int .i64 n, .slice (some ⟨b, o, none⟩) l c] ∧ Ext w (wr.alloc (.cells #[.int .i64 p.n, .int .i64 p.x, .int .i64 p.z, .int .i64 p.p] 47))) := ⟨HW.out.1.alloc _, HW.out.2.alloc _⟩
      have HP2 : Hid (Blk (wr.alloc (.cells #[.int .i64 p.n, .int .i64 p.x, .int .i64 p.z, .int .i64 p.p] 47)) wr.heap.size 47 #[.int .i64 p.n, .int .i64 p.x, .int .i64 p.z, .int .i64 p.p]) := Blk.new _ _ _
      generalize wr.alloc (.cells #[.int .i64 p.n, .int .i64 p.x, .int .i64 p.z, .int .i64 p.p] 47) = w2 at *
      generalize wr.heap.size = q at *
      clear x0 x1 x2 x3 HW
      obtain ⟨⟨b0, b1⟩, -⟩ := blk2 HW2.out.1
      obtain ⟨⟨x0, x1, x2, x3⟩, -⟩ := cells4 HP2.out
      cases hn : (p.n == n)
      · have HF := Lib.hid (HBAD.out k HLT.out (rowOk_n HP.out hn))
        have hnb : (p.n != n) = true := by rw [bne, hn]; rfl
        clear hn
        go_wp2
        go_ret
        exact ⟨ret_bool HF.out.symm, HW2.out.2⟩
      have hnb : (p.n != n) = false := by rw [bne, hn]; rfl
      cases hh : herm p
      · have HF := Lib.hid (HBAD.out k HLT.out (rowOk_h HP.out hh))
        have HCH : Hid (∀ w', Calls Try.prog 43 #[.agg #[.int .i64 p.n, .int .i64 p.x, .int .i64 p.z, .int .i64 p.p]] w' fun e w'' => e = .returned (.bool false) ∧ Ext w' w'') := fun w' => by rw [← hh]; exact impl_IsHermitianPauli_any p w'
        clear hh hn
        go_wp2_with fail
        refine (HCH.out _).mono ?_
        rintro e w5 ⟨rfl, hy5⟩
        go_wp2
        go_ret
        exact ⟨ret_bool HF.out.symm, HW2.out.2.trans hy5⟩
      have HCH : Hid (∀ w', Calls Try.prog 43 #[.agg #[.int .i64 p.n, .int .i64 p.x, .int .i64 p.z, .int .i64 p.p]] w' fun e w'' => e = .returned (.bool true) ∧ Ext w' w'') := fun w' => by rw [← hh]; exact impl_IsHermitianPauli_any p w'
      have HGD : Hid ((∀ (i : Nat) (x : Pa), i < k → rs[i]? = some x → comm x p = !((k : Int) == (i : Int) + n)) → rowOk n rs k = true) := fun h => rowOk_good HP.out hn hh h
      have HVP := Lib.hid (herm_v hh)
      clear hh hn
      go_wp2_with fail
      refine (HCH.out _).mono ?_
      rintro e w5 ⟨rfl, hy5⟩
      have HW5 : Hid ((Blk w5 w.heap.size 35 #[.int .i64 n, .slice (some ⟨b, o, none⟩) l c] ∧ Ext w w5) ∧ Blk w5 q 47 #[.int .i64 p.n, .int .i64 p.x, .int .i64 p.z, .int .i64 p.p]) := ⟨⟨HW2.out.1.ext hy5, HW2.out.2.trans hy5⟩, HP2.out.ext hy5⟩
      clear hy5 HW2 HP2 b0 b1 x0 x1 x2 x3 hnb
      obtain ⟨⟨b0, b1⟩, -⟩ := blk2 HW5.out.1.1
      have hkc : (k : Int) ≤ (c : Int) := by omega
      have hk0 : (0 : Int) ≤ (k : Int) := by omega
      have hkc' : k ≤ c := by omega
      go_wp2
      clear b0 b1
      go_loopw [43] (fun iv ws => ∃ i : Nat, i ≤ k ∧ iv = .int .i64 i ∧ Hid (∀ (j : Nat) (y : Pa), j < i → rs[j]? = some y → comm y p = !((k : Int) == (j : Int) + n)) ∧ Hid ((Blk ws w.heap.size 35 #[.int .i64 n, .slice (some ⟨b, o, none⟩) l c] ∧ Ext w ws) ∧ Blk ws q 47 #[.int .i64 p.n, .int .i64 p.x, .int .i64 p.z, .int .i64 p.p])) (fun i _ => k - (intOf i).toNat)
      case atStart => exact ⟨0, Nat.zero_le _, rfl, fun j y hj => absurd hj (by omega), HW5⟩
      case round =>
        obtain ⟨i, hi, rfl, HI, HWI⟩ := hrel
        clear HW5
        by_cases hik : i < k
        · have HIK := Lib.hid hik
          have hil : i < l := by omega
          obtain ⟨x, hx⟩ := HROW.out i hil
          have HXI := Lib.hid hx
          clear hx
          have HVX := Lib.hid (rowOk_v HXI.out (HQ.out i HIK.out))
          have hwi : IntKind.i64.wrap ((i : Int) + n) = (i : Int) + n := IntWalk.i64_in _ (by omega)
          obtain ⟨x0, x1, x2, x3⟩ := row_at (h.up HWI.out.1.2 (Nat.le_refl _)) hil HXI.out
          go_upto_region 11 with (fail)
          have HW3 : Hid ((Blk (wr.alloc (.cells #[.int .i64 x.n, .int .i64 x.x, .int .i64 x.z, .int .i64 x.p] 47)) w.heap.size 35 #[.int .i64 n, .slice (some ⟨b, o, none⟩) l c] ∧ Ext w (wr.alloc (.cells #[.int .i64 x.n, .int .i64 x.x, .int .i64 x.z, .int .i64 x.p] 47))) ∧ Blk (wr.alloc (.cells #[.int .i64 x.n, .int .i64 x.x, .int .i64 x.z, .int .i64 x.p] 47)) q 47 #[.int .i64 p.n, .int .i64 p.x, .int .i64 p.z, .int .i64 p.p]) := ⟨⟨HWI.out.1.1.alloc _, HWI.out.1.2.alloc _⟩, HWI.out.2.alloc _⟩
          have HX3 : Hid (Blk (wr.alloc (.cells #[.int .i64 x.n, .int .i64 x.x, .int .i64 x.z, .int .i64 x.p] 47)) wr.heap.size 47 #[.int .i64 x.n, .int .i64 x.x, .int .i64 x.z, .int .i64 x.p]) := Blk.new _ _ _
          generalize wr.alloc (.cells #[.int .i64 x.n, .int .i64 x.x, .int .i64 x.z, .int .i64 x.p] 47) = w3 at *
          generalize wr.heap.size = s at *
          clear x0 x1 x2 x3 HWI
          have HK2 : Hid (∀ w', Ext w3 w' → (w'.cell? ⟨w.heap.size, 0, none⟩ = some (.int .i64 n) ∧ w'.cell? ⟨w.heap.size, 1, none⟩ = some (.slice (some ⟨b, o, none⟩) l c)) ∧ (w'.cell? ⟨s, 0, none⟩ = some (.int .i64 x.n) ∧ w'.cell? ⟨s, 1, none⟩ = some (.int .i64 x.x) ∧ w'.cell? ⟨s, 2, none⟩ = some (.int .i64 x.z) ∧ w'.cell? ⟨s, 3, none⟩ = some (.int .i64 x.p)) ∧ (w'.cell? ⟨q, 0, none⟩ = some (.int .i64 p.n) ∧ w'.cell? ⟨q, 1, none⟩ = some (.int .i64 p.x) ∧ w'.cell? ⟨q, 2, none⟩ = some (.int .i64 p.z) ∧ w'.cell? ⟨q, 3, none⟩ = some (.int .i64 p.p))) := fun w' hx => ⟨(blk2 (HW3.out.1.1.ext hx)).1, (cells4 (HX3.out.ext hx)).1, (cells4 (HW3.out.2.ext hx)).1⟩
          have HWIE : Hid (∀ w', Ext w3 w' → Hid ((Blk w' w.heap.size 35 #[.int .i64 n, .slice (some ⟨b, o, none⟩) l c] ∧ Ext w w') ∧ Blk w' q 47 #[.int .i64 p.n, .int .i64 p.x, .int .i64 p.z, .int .i64 p.p])) := fun w' hx => ⟨⟨HW3.out.1.1.ext hx, HW3.out.1.2.trans hx⟩, HW3.out.2.ext hx⟩
          obtain ⟨⟨b0, b1⟩, ⟨x0, x1, x2, x3⟩, y0, y1, y2, y3⟩ := HK2.out w3 (Ext.refl _)
          cases hc : comm x p <;> cases he : ((k : Int) == (i : Int) + n)
          · have HCC : Hid (∀ w', Calls Try.prog 44 #[.agg #[.int .i64 x.n, .int .i64 x.x, .int .i64 x.z, .int .i64 x.p], .agg #[.int .i64 p.n, .int .i64 p.x, .int .i64 p.z, .int .i64 p.p]] w' fun e w'' => e = .returned (.bool false) ∧ Ext w' w'') := fun w' => by rw [← hc]; exact impl_PaulisCommute_any x p w' HVX.out HVP.out
            have HF := Lib.hid (HBAD.out k HLT.out (rowOk_pair HP.out HIK.out HXI.out (by rw [hc, he])))
            clear hc
            go_region_held3 (fun w' => (w'.cell? ⟨w.heap.size, 0, none⟩ = some (.int .i64 n) ∧ w'.cell? ⟨w.heap.size, 1, none⟩ = some (.slice (some ⟨b, o, none⟩) l c)) ∧ (w'.cell? ⟨s, 0, none⟩ = some (.int .i64 x.n) ∧ w'.cell? ⟨s, 1, none⟩ = some (.int .i64 x.x) ∧ w'.cell? ⟨s, 2, none⟩ = some (.int .i64 x.z) ∧ w'.cell? ⟨s, 3, none⟩ = some (.int .i64 x.p)) ∧ (w'.cell? ⟨q, 0, none⟩ = some (.int .i64 p.n) ∧ w'.cell? ⟨q, 1, none⟩ = some (.int .i64 p.x) ∧ w'.cell? ⟨q, 2, none⟩ = some (.int .i64 p.z) ∧ w'.cell? ⟨q, 3, none⟩ = some (.int .i64 p.p)))
              (first | (go_keep; done) | (refine HK2.out _ ?_; first | assumption | exact (Ext.refl _).drew))
              (first | (go_at_call 44; (with_reducible refine (HCC.out _).mono ?_); rintro e w6 ⟨rfl, hy6⟩; replace hy6 : Ext w3 w6 := Ext.trans (Ext.refl w3).drew hy6))
            all_goals
              go_wp2
              go_ret
              exact ⟨ret_bool HF.out.symm, HW3.out.1.2.trans hy6⟩
          · have HCC : Hid (∀ w', Calls Try.prog 44 #[.agg #[.int .i64 x.n, .int .i64 x.x, .int .i64 x.z, .int .i64 x.p], .agg #[.int .i64 p.n, .int .i64 p.x, .int .i64 p.z, .int .i64 p.p]] w' fun e w'' => e = .returned (.bool false) ∧ Ext w' w'') := fun w' => by rw [← hc]; exact impl_PaulisCommute_any x p w' HVX.out HVP.out
            have HN2 : Hid (∀ (j : Nat) (y : Pa), j < i + 1 → rs[j]? = some y → comm y p = !((k : Int) == (j : Int) + n)) := fun j y hj hy => by
              by_cases e : j = i
              · subst e
                rw [HXI.out] at hy
                obtain rfl := Option.some.inj hy
                rw [hc, he]; rfl
              · exact HI.out j y (by omega) hy
            clear hc
            go_region_held3 (fun w' => (w'.cell? ⟨w.heap.size, 0, none⟩ = some (.int .i64 n) ∧ w'.cell? ⟨w.heap.size, 1, none⟩ = some (.slice (some ⟨b, o, none⟩) l c)) ∧ (w'.cell? ⟨s, 0, none⟩ = some (.int .i64 x.n) ∧ w'.cell? ⟨s, 1, none⟩ = some (.int .i64 x.x) ∧ w'.cell? ⟨s, 2, none⟩ = some (.int .i64 x.z) ∧ w'.cell? ⟨s, 3, none⟩ = some (.int .i64 x.p)) ∧ (w'.cell? ⟨q, 0, none⟩ = some (.int .i64 p.n) ∧ w'.cell? ⟨q, 1, none⟩ = some (.int .i64 p.x) ∧ w'.cell? ⟨q, 2, none⟩ = some (.int .i64 p.z) ∧ w'.cell? ⟨q, 3, none⟩ = some (.int .i64 p.p)))
              (first | (go_keep; done) | (refine HK2.out _ ?_; first | assumption | exact (Ext.refl _).drew))
              (first | (go_at_call 44; (with_reducible refine (HCC.out _).mono ?_); rintro e w6 ⟨rfl, hy6⟩; replace hy6 : Ext w3 w6 := Ext.trans (Ext.refl w3).drew hy6))
            all_goals
              go_wp2
              go_roundw
              case rel => exact ⟨i + 1, by have := HIK.out; omega, by go_num, HN2, HWIE.out _ hy6⟩
              case measure => simp [intOf]; have := HIK.out; omega
          · have HCC : Hid (∀ w', Calls Try.prog 44 #[.agg #[.int .i64 x.n, .int .i64 x.x, .int .i64 x.z, .int .i64 x.p], .agg #[.int .i64 p.n, .int .i64 p.x, .int .i64 p.z, .int .i64 p.p]] w' fun e w'' => e = .returned (.bool true) ∧ Ext w' w'') := fun w' => by rw [← hc]; exact impl_PaulisCommute_any x p w' HVX.out HVP.out
            have HN2 : Hid (∀ (j : Nat) (y : Pa), j < i + 1 → rs[j]? = some y → comm y p = !((k : Int) == (j : Int) + n)) := fun j y hj hy => by
              by_cases e : j = i
              · subst e
                rw [HXI.out] at hy
                obtain rfl := Option.some.inj hy
                rw [hc, he]; rfl
              · exact HI.out j y (by omega) hy
            clear hc
            go_region_held3 (fun w' => (w'.cell? ⟨w.heap.size, 0, none⟩ = some (.int .i64 n) ∧ w'.cell? ⟨w.heap.size, 1, none⟩ = some (.slice (some ⟨b, o, none⟩) l c)) ∧ (w'.cell? ⟨s, 0, none⟩ = some (.int .i64 x.n) ∧ w'.cell? ⟨s, 1, none⟩ = some (.int .i64 x.x) ∧ w'.cell? ⟨s, 2, none⟩ = some (.int .i64 x.z) ∧ w'.cell? ⟨s, 3, none⟩ = some (.int .i64 x.p)) ∧ (w'.cell? ⟨q, 0, none⟩ = some (.int .i64 p.n) ∧ w'.cell? ⟨q, 1, none⟩ = some (.int .i64 p.x) ∧ w'.cell? ⟨q, 2, none⟩ = some (.int .i64 p.z) ∧ w'.cell? ⟨q, 3, none⟩ = some (.int .i64 p.p)))
              (first | (go_keep; done) | (refine HK2.out _ ?_; first | assumption | exact (Ext.refl _).drew))
              (first | (go_at_call 44; (with_reducible refine (HCC.out _).mono ?_); rintro e w6 ⟨rfl, hy6⟩; replace hy6 : Ext w3 w6 := Ext.trans (Ext.refl w3).drew hy6))
            all_goals
              go_wp2
              go_roundw
              case rel => exact ⟨i + 1, by have := HIK.out; omega, by go_num, HN2, HWIE.out _ hy6⟩
              case measure => simp [intOf]; have := HIK.out; omega
          · have HCC : Hid (∀ w', Calls Try.prog 44 #[.agg #[.int .i64 x.n, .int .i64 x.x, .int .i64 x.z, .int .i64 x.p], .agg #[.int .i64 p.n, .int .i64 p.x, .int .i64 p.z, .int .i64 p.p]] w' fun e w'' => e = .returned (.bool true) ∧ Ext w' w'') := fun w' => by rw [← hc]; exact impl_PaulisCommute_any x p w' HVX.out HVP.out
            have HF := Lib.hid (HBAD.out k HLT.out (rowOk_pair HP.out HIK.out HXI.out (by rw [hc, he])))
            clear hc
            go_region_held3 (fun w' => (w'.cell? ⟨w.heap.size, 0, none⟩ = some (.int .i64 n) ∧ w'.cell? ⟨w.heap.size, 1, none⟩ = some (.slice (some ⟨b, o, none⟩) l c)) ∧ (w'.cell? ⟨s, 0, none⟩ = some (.int .i64 x.n) ∧ w'.cell? ⟨s, 1, none⟩ = some (.int .i64 x.x) ∧ w'.cell? ⟨s, 2, none⟩ = some (.int .i64 x.z) ∧ w'.cell? ⟨s, 3, none⟩ = some (.int .i64 x.p)) ∧ (w'.cell? ⟨q, 0, none⟩ = some (.int .i64 p.n) ∧ w'.cell? ⟨q, 1, none⟩ = some (.int .i64 p.x) ∧ w'.cell? ⟨q, 2, none⟩ = some (.int .i64 p.z) ∧ w'.cell? ⟨q, 3, none⟩ = some (.int .i64 p.p)))
              (first | (go_keep; done) | (refine HK2.out _ ?_; first | assumption | exact (Ext.refl _).drew))
              (first | (go_at_call 44; (with_reducible refine (HCC.out _).mono ?_); rintro e w6 ⟨rfl, hy6⟩; replace hy6 : Ext w3 w6 := Ext.trans (Ext.refl w3).drew hy6))
            all_goals
              go_wp2
              go_ret
              exact ⟨ret_bool HF.out.symm, HW3.out.1.2.trans hy6⟩
        · have hik2 : i = k := by omega
          subst hik2
          have HOK := Lib.hid (HGD.out HI.out)
          have HA : Hid (∀ j, j < i + 1 → rowOk n rs j = true) := fun j hj => by
            by_cases e : j = i
            · rw [e]; exact HOK.out
            · exact HQ.out j (by omega)
          go_wp2
          go_roundw
          case rel => exact ⟨i + 1, by omega, by go_num, HA, Lib.hid HWI.out.1⟩
          case measure => simp [intOf]; have := HLT.out; omega
    · have hkl : k = l := by omega
      subst hkl
      have HT := Lib.hid (HG.out HQ.out)
      go_wp2
      go_ret
      exact ⟨ret_bool HT.out.symm, HW.out.2⟩
end Go.Proofs.Ytcocabflinlbbaa
