/-
  Helper text (no claim of its own): the tableau of a circuit, by the program. Printed by gen_tc.py.
-/
import Derived.Test.YtcocabflinlbbaaTbk
import Derived.Test.YtcocabflinlbbaaTbb
import Derived.Test.YtcocabflinlbbaaTbi
namespace Go.Proofs.Ytcocabflinlbbaa
open Go.ChangeShapes Go.WideShapes Go.ChangeAt Go.RowKit Go.Deep
set_option linter.unusedVariables false
set_option linter.unusedSimpArgs false
set_option maxRecDepth 100000 in
set_option maxHeartbeats 8000000 in
theorem impl_CircuitTableau_any (A : Option Addr) (c : Nat) (n : Int) (gs : List Gt) (w : World) (h : Rd w w.heap.size 4 A gs.length (gcells gs)) (hl : gs.length ≤ 100000000) :
    Calls Try.prog 13 #[.agg #[.int .i64 n, .slice A gs.length c]] w fun e w' => TabRes n (tabF n gs) e w' ∧ Ext w w' := by
  go_enter Try.func13, Try.ntmps13
  go_wp2_with fail
  refine (impl_IsValidCircuit_any A c n gs _ (h.ext (by repeat (first | exact Ext.refl _ | assumption | refine Ext.alloc ?_ _ | refine Ext.drewN ?_ _ | refine Ext.drew ?_))) hl).mono ?_
  rintro e w1 ⟨rfl, hx1⟩
  obtain ⟨l, hgl⟩ : ∃ l, gs.length = l := ⟨_, rfl⟩
  rw [hgl] at h hl hx1 ⊢
  have HL := Lib.hid hgl
  clear hgl
  have HC1 : Hid (∀ q, w.heap.size + 2 ≤ q → CG w w1 A l c n q) := fun q hq => ⟨((Blk.new w _ _).alloc _).ext hx1, (Blk.newAt (b := w.heap.size + 1) (by simp)).ext hx1, hq, Ext.trans (by repeat (first | exact Ext.refl _ | assumption | refine Ext.alloc ?_ _ | refine Ext.drewN ?_ _ | refine Ext.drew ?_)) hx1⟩
  have hl1 : w.heap.size + 2 ≤ w1.heap.size := by have := hx1.size; simpa using this
  clear hx1
  cases hv : vCi n gs
  · have HNO : Hid (tabF n gs = none) := tabF_no hv
    clear hv
    have HR := (HC1.out _ (Nat.le_refl _)).2.1
    have HE := Lib.hid (HC1.out _ (Nat.le_refl _)).2.2.2
    obtain ⟨⟨c0, c1⟩, z0, z1⟩ := blk2 HR
    go_wp2
    have HBB : Hid (Blk (put2 _ (w.heap.size + 1) (.int .i64 0) (.slice none 0 0)) (w.heap.size + 1) 35 #[.int .i64 0, .slice none 0 0]) := (HR).put2 _ _
    refine bodyPost_ret (v := .tuple #[.agg #[.int .i64 0, .slice none 0 0], .bool false]) ?_ rfl ?_
    rotate_left
    · exact ⟨tabRes_none HNO.out rfl, ext_put2 (g := w.heap.size + 1) (HE.out) (by omega) _ _⟩
    · exact ret_pair rfl _ _ _ _ _ _ _ rfl rfl HBB.out Try.underlying35 rfl Try.sizeTableauR
  have HV := Lib.hid hv
  have HN := Lib.hid (vCi_bd hv)
  clear hv
  have HROW : Hid (∀ i, i < l → ∃ x, gs[i]? = some x) := fun i hi => ⟨_, List.getElem?_eq_getElem (by rw [HL.out]; exact hi)⟩
  obtain ⟨⟨b0, b1⟩, -⟩ := blk2 (HC1.out _ (Nat.le_refl _)).1
  go_wp2_with fail
  refine (impl_IdentityTableau_any n _ HN.out.1 HN.out.2).mono ?_
  rintro e w2 ⟨⟨v, rfl, A0, c0, rfl, hr0, hc0⟩, hx2⟩
  obtain ⟨rs0, hrs0⟩ : ∃ rs0, idT n.toNat = rs0 := ⟨_, rfl⟩
  have hT0 : tabN n (gs.take 0) = some rs0 := by rw [← hrs0]; exact tabN_zero n gs
  have hm8 : rs0.length ≤ 8 := by rw [← hrs0, idT_len]; have := HN.out; omega
  rw [hrs0] at hr0 hc0 ⊢
  clear hrs0
  obtain ⟨m0, hm0⟩ : ∃ m0, rs0.length = m0 := ⟨_, rfl⟩
  rw [hm0] at hr0 hc0 hm8 ⊢
  clear b0 b1
  go_upto_region 4 with (fail)
  obtain ⟨q, hq⟩ : ∃ q, q = w2.heap.size := ⟨_, rfl⟩
  rw [← hq]
  have HCG : Hid (CG w (w2.alloc (.cells #[.int .i64 n, .slice A0 m0 c0] 35)) A l c n q) := (HC1.out q (by have := hx2.size; omega)).ext (hx2.alloc _)
  have HCT : Hid (CT (w2.alloc (.cells #[.int .i64 n, .slice A0 m0 c0] 35)) n q A0 m0 c0 rs0) := ⟨Blk.newAt hq, hr0.ext ((Ext.refl _).alloc _), hc0, hm8, hm0⟩
  generalize w2.alloc (.cells #[.int .i64 n, .slice A0 m0 c0] 35) = w3 at *
  have HT0 := Lib.hid hT0
  clear hq hl1 HC1 hx2 hr0 hc0 hm8 hm0 hT0
  obtain ⟨⟨t0, t1⟩, -⟩ := blk2 HCG.out.1
  go_wp2
  clear t0 t1
  go_loopw [19] (fun iv wr => ∃ (k : Nat) (rs : List Pa) (A' : Option Addr) (m c' : Nat), iv = .int .i64 k ∧ k ≤ l ∧ Hid (CG w wr A l c n q) ∧ Hid (CT wr n q A' m c' rs) ∧ Hid (tabN n (gs.take k) = some rs)) (fun i _ => l - (intOf i).toNat)
  case atStart => exact ⟨0, rs0, A0, m0, c0, rfl, Nat.zero_le _, HCG, HCT, HT0⟩
  case round =>
    obtain ⟨k, rs, A', m, c', rfl, hk, HG0, HT, HQ⟩ := hrel
    clear HCG HCT HT0
    by_cases hlt : k < l
    · have HLT := Lib.hid hlt
      obtain ⟨b, o, g, rfl, hb, hg, -⟩ := gate_at h hlt
      have HG := Lib.hid hg
      have hm8 : m ≤ 8 := HT.out.2.2.2.1
      have hk1 : IntKind.i64.wrap ((k : Int) + 1) = ((k + 1 : Nat) : Int) := by rw [IntWalk.i64_in _ (by omega)]; rfl
      have hk2 : wrap64 ((k : Int) + 1) = ((k + 1 : Nat) : Int) := by unfold wrap64; omega
      have HK : Hid (∀ w', Ext wr w' → (w'.cell? ⟨w.heap.size, 0, none⟩ = some (.int .i64 n) ∧ w'.cell? ⟨w.heap.size, 1, none⟩ = some (.slice (some ⟨b, o, none⟩) l c)) ∧ (w'.cell? ⟨b, o + k * 4, none⟩ = some (.int .i64 g.k) ∧ w'.cell? ⟨b, o + k * 4 + 1, none⟩ = some (.int .i64 g.a) ∧ w'.cell? ⟨b, o + k * 4 + 2, none⟩ = some (.int .i64 g.b) ∧ w'.cell? ⟨b, o + k * 4 + 3, none⟩ = some (.int .i64 g.c)) ∧ (w'.cell? ⟨q, 0, none⟩ = some (.int .i64 n) ∧ w'.cell? ⟨q, 1, none⟩ = some (.slice A' m c'))) := fun w' hx => by
        obtain ⟨b2, o2, g2, he, -, hg2, x0, x1, x2, x3⟩ := gate_at (h.up (HG0.out.2.2.2.trans hx) (Nat.le_refl _)) hlt
        simp only [Option.some.injEq, Addr.mk.injEq] at he
        obtain ⟨rfl, rfl, -⟩ := he
        rw [hg] at hg2
        obtain rfl := Option.some.inj hg2
        exact ⟨(blk2 (HG0.out.1.ext hx)).1, ⟨x0, x1, x2, x3⟩, (blk2 (HT.out.1.ext hx)).1⟩
      have HCALL : Hid (∀ w', Ext wr w' → Calls Try.prog 22 #[.agg #[.int .i64 n, .slice A' m c'], .agg #[.int .i64 g.k, .int .i64 g.a, .int .i64 g.b, .int .i64 g.c]] w' fun e w'' => TabRes n (tabG n rs g) e w'' ∧ Ext w' w'') := fun w' hx => by
        obtain ⟨-, h2, h3, h4, h5⟩ := HT.out.ext hx
        subst h5
        exact impl_TableauApplyGate_any A' c' n rs g w' h2 (by omega) h3
      clear hg
      cases ht : tabG n rs g with
      | none =>
        have HNO : Hid (tabF n gs = none) := by
          unfold Hid
          rw [tabF_yes HV.out]
          exact tabN_stop (k := k + 1) (by rw [tabN_step HG.out HQ.out]; exact ht)
        have HTG := Lib.hid ht
        clear ht
        obtain ⟨-, ⟨x0, x1, x2, x3⟩, -⟩ := HK.out wr (Ext.refl _)
        go_upto_region 7 with (fail)
        have HX5 : Hid (Ext wr (wr.alloc (.cells #[.int .i64 g.k, .int .i64 g.a, .int .i64 g.b, .int .i64 g.c] 45))) := (Ext.refl _).alloc _
        have HB5 : Hid (Blk (wr.alloc (.cells #[.int .i64 g.k, .int .i64 g.a, .int .i64 g.b, .int .i64 g.c] 45)) wr.heap.size 45 #[.int .i64 g.k, .int .i64 g.a, .int .i64 g.b, .int .i64 g.c]) := Blk.new _ _ _
        have HCALL5 : Hid (∀ w', Ext (wr.alloc (.cells #[.int .i64 g.k, .int .i64 g.a, .int .i64 g.b, .int .i64 g.c] 45)) w' → Calls Try.prog 22 #[.agg #[.int .i64 n, .slice A' m c'], .agg #[.int .i64 g.k, .int .i64 g.a, .int .i64 g.b, .int .i64 g.c]] w' fun e w'' => TabRes n (tabG n rs g) e w'' ∧ Ext w' w'') := fun w' hx => HCALL.out w' (HX5.out.trans hx)
        have HG5 := Lib.hid (HG0.out.ext HX5.out)
        have HT5 := Lib.hid (HT.out.ext HX5.out)
        clear HX5 HG0 HT HCALL HK x0 x1 x2 x3
        generalize wr.alloc (.cells #[.int .i64 g.k, .int .i64 g.a, .int .i64 g.b, .int .i64 g.c] 45) = w5 at *
        generalize wr.heap.size = s5 at *
        obtain ⟨⟨x0, x1, x2, x3⟩, -⟩ := cells4 HB5.out
        obtain ⟨⟨c0, c1⟩, -⟩ := blk2 HT5.out.1
        go_wp2_with fail
        refine (HCALL5.out _ (Ext.refl _)).mono ?_
        rintro e w6 ⟨hres, hy6⟩
        obtain rfl := tabRes_off HTG.out hres
        clear hres
        clear x0 x1 x2 x3 c0 c1 HB5
        go_upto_region 8 with (fail)
        have HX7 : Hid (Ext w5 (w6.alloc (.cells #[.int .i64 0, .slice none 0 0] 35))) := hy6.alloc _
        have HB7 : Hid (Blk (w6.alloc (.cells #[.int .i64 0, .slice none 0 0] 35)) w6.heap.size 35 #[.int .i64 0, .slice none 0 0]) := Blk.new _ _ _

        clear hy6
        generalize w6.alloc (.cells #[.int .i64 0, .slice none 0 0] 35) = w7 at *
        generalize w6.heap.size = s at *
        have HG7 := Lib.hid (HG5.out.ext HX7.out)
        have HT7 := Lib.hid (HT5.out.ext HX7.out)
        clear HX7 HG5 HT5 HCALL5
        obtain ⟨⟨c0, c1⟩, z0, z1⟩ := blk2 HG7.out.2.1
        go_wp2
        have HBB : Hid (Blk (put2 _ (w.heap.size + 1) (.int .i64 0) (.slice none 0 0)) (w.heap.size + 1) 35 #[.int .i64 0, .slice none 0 0]) := (HG7.out.2.1).put2 _ _
        refine bodyPost_ret (v := .tuple #[.agg #[.int .i64 0, .slice none 0 0], .bool false]) ?_ rfl ?_
        rotate_left
        · exact ⟨tabRes_none HNO.out rfl, ext_put2 (g := w.heap.size + 1) (HG7.out.2.2.2) (by omega) _ _⟩
        · exact ret_pair rfl _ _ _ _ _ _ _ rfl rfl HBB.out Try.underlying35 rfl Try.sizeTableauR
      | some rs' =>
        have HQ2 : Hid (tabN n (gs.take (k + 1)) = some rs') := by
          unfold Hid
          rw [tabN_step HG.out HQ.out]; exact ht
        have HM2 : Hid (rs'.length = m) := (tabG_len ht).trans HT.out.2.2.2.2
        have HTG := Lib.hid ht
        clear ht
        obtain ⟨-, ⟨x0, x1, x2, x3⟩, -⟩ := HK.out wr (Ext.refl _)
        go_upto_region 7 with (fail)
        have HX5 : Hid (Ext wr (wr.alloc (.cells #[.int .i64 g.k, .int .i64 g.a, .int .i64 g.b, .int .i64 g.c] 45))) := (Ext.refl _).alloc _
        have HB5 : Hid (Blk (wr.alloc (.cells #[.int .i64 g.k, .int .i64 g.a, .int .i64 g.b, .int .i64 g.c] 45)) wr.heap.size 45 #[.int .i64 g.k, .int .i64 g.a, .int .i64 g.b, .int .i64 g.c]) := Blk.new _ _ _
        have HCALL5 : Hid (∀ w', Ext (wr.alloc (.cells #[.int .i64 g.k, .int .i64 g.a, .int .i64 g.b, .int .i64 g.c] 45)) w' → Calls Try.prog 22 #[.agg #[.int .i64 n, .slice A' m c'], .agg #[.int .i64 g.k, .int .i64 g.a, .int .i64 g.b, .int .i64 g.c]] w' fun e w'' => TabRes n (tabG n rs g) e w'' ∧ Ext w' w'') := fun w' hx => HCALL.out w' (HX5.out.trans hx)
        have HG5 := Lib.hid (HG0.out.ext HX5.out)
        have HT5 := Lib.hid (HT.out.ext HX5.out)
        clear HX5 HG0 HT HCALL HK x0 x1 x2 x3
        generalize wr.alloc (.cells #[.int .i64 g.k, .int .i64 g.a, .int .i64 g.b, .int .i64 g.c] 45) = w5 at *
        generalize wr.heap.size = s5 at *
        obtain ⟨⟨x0, x1, x2, x3⟩, -⟩ := cells4 HB5.out
        obtain ⟨⟨c0, c1⟩, -⟩ := blk2 HT5.out.1
        go_wp2_with fail
        refine (HCALL5.out _ (Ext.refl _)).mono ?_
        rintro e w6 ⟨hres, hy6⟩
        obtain ⟨A2, c2, rfl, hr2, hc2⟩ := tabRes_get HTG.out HM2.out hres
        clear hres
        have HR2 : Hid (Rd w6 w6.heap.size 4 A2 m (pcells rs')) := hr2
        have HC2 : Hid (m ≤ c2) := hc2
        clear hr2 hc2
        clear x0 x1 x2 x3 c0 c1 HB5
        go_upto_region 8 with (fail)
        have HX7 : Hid (Ext w5 (w6.alloc (.cells #[.int .i64 n, .slice A2 m c2] 35))) := hy6.alloc _
        have HB7 : Hid (CT (w6.alloc (.cells #[.int .i64 n, .slice A2 m c2] 35)) n w6.heap.size A2 m c2 rs') := ⟨Blk.new _ _ _, HR2.out.ext ((Ext.refl _).alloc _), HC2.out, hm8, HM2.out⟩
        clear HR2 HC2 HM2
        clear hy6
        generalize w6.alloc (.cells #[.int .i64 n, .slice A2 m c2] 35) = w7 at *
        generalize w6.heap.size = s at *
        have HG7 := Lib.hid (HG5.out.ext HX7.out)
        have HT7 := Lib.hid (HT5.out.ext HX7.out)
        clear HX7 HG5 HT5 HCALL5
        obtain ⟨⟨y0, y1⟩, -⟩ := blk2 HB7.out.1
        obtain ⟨⟨c0, c1⟩, z0, z1⟩ := blk2 HT7.out.1
        go_wp2
        have HT8 := Lib.hid (HB7.out.copy HT7.out.1)
        have HG8 := Lib.hid (HG7.out.put (.int .i64 n) (.slice A2 m c2))
        go_roundw
        case rel => exact ⟨k + 1, rs', A2, m, c2, by first | rfl | rw [hk1] | rw [hk2], by have := HLT.out; omega, HG8, HT8, HQ2⟩
        case measure => simp [intOf, hk2]; have := HLT.out; omega
    · have hkl : k = l := by omega
      have HYES : Hid (tabF n gs = some rs) := by
        unfold Hid
        rw [tabF_yes HV.out, ← HQ.out, hkl, ← HL.out, List.take_length]
      clear hkl
      obtain ⟨⟨c0, c1⟩, -⟩ := blk2 HT.out.1
      obtain ⟨⟨d0, d1⟩, f0, f1⟩ := blk2 HG0.out.2.1
      obtain ⟨⟨t0, t1⟩, -⟩ := blk2 HG0.out.1
      go_wp2
      have HBB : Hid (Blk (put2 wr (w.heap.size + 1) (.int .i64 n) (.slice A' m c')) (w.heap.size + 1) 35 #[.int .i64 n, .slice A' m c']) := HG0.out.2.1.put2 _ _
      refine bodyPost_ret (v := .tuple #[.agg #[.int .i64 n, .slice A' m c'], .bool true]) ?_ rfl ?_
      rotate_left
      · exact ⟨tabRes_some HYES.out rfl (HT.out.out HG0.out.2.1 _ _), ext_put2 (g := w.heap.size + 1) HG0.out.2.2.2 (by omega) _ _⟩
      · exact ret_pair rfl _ _ _ _ _ _ _ rfl rfl HBB.out Try.underlying35 rfl Try.sizeTableauR
end Go.Proofs.Ytcocabflinlbbaa
