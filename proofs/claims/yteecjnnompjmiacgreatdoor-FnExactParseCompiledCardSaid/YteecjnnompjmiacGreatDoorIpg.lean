/-
  Helper text (no claim of its own): a gate read out of a text, by the program. Printed by gen_ipg.py.
-/
import Derived.Test.YteecjnnompjmiacGreatDoorSpg
import Derived.Test.YteecjnnompjmiacGreatDoorPnI
namespace Go.Proofs.YteecjnnompjmiacGreatDoor
open Go.ChangeShapes Go.WideShapes Go.ChangeAt Go.RowKit Go.Deep
set_option linter.unusedVariables false
set_option linter.unusedSimpArgs false
theorem str_getD {w : World} {B n i : Nat} {b o : Nat} {xs : List ByteArray} (h : Rd w B 1 (some ⟨b, o, none⟩) n (scells xs)) (hi : i < n) : b < B ∧ xs[i]? = some (xs.getD i ⟨#[]⟩) ∧ w.cell? ⟨b, o + i, none⟩ = some (.string (xs.getD i ⟨#[]⟩)) := by
  obtain ⟨b', o', x, e, hb, hx, hc⟩ := str_at h hi
  injection e with e; injection e with e1 e2; subst e1 e2
  have : xs.getD i ⟨#[]⟩ = x := by simp [List.getD, hx]
  rw [this]
  exact ⟨hb, hx, hc⟩
theorem getD_size {xs : List ByteArray} {m : Nat} (h : ∀ x ∈ xs, x.size ≤ m) (i : Nat) : (xs.getD i ⟨#[]⟩).size ≤ m := by
  cases e : xs[i]? with
  | none => simp [List.getD, e, ByteArray.size]
  | some x =>
    have : xs.getD i ⟨#[]⟩ = x := by simp [List.getD, e]
    rw [this]
    exact h x (List.mem_of_getElem? e)
theorem gw_getD (h : Gt) : GW ((gw h).getD 0 ⟨#[]⟩) ((gw h).getD 1 ⟨#[]⟩) ((gw h).getD 2 ⟨#[]⟩) ((gw h).getD 3 ⟨#[]⟩) h := by
  have hr := ar_range h.k
  unfold GW gw qus qs
  rcases (by omega : ar h.k = 0 ∨ ar h.k = 1 ∨ ar h.k = 2 ∨ ar h.k = 3) with e | e | e | e
  all_goals
    rw [e]
    refine ⟨rfl, fun q => ?_, fun q => ?_, fun q => ?_⟩
  all_goals first | omega | rfl
theorem gw_len (h : Gt) : ((gw h).length : Int) = ar h.k + 1 := by
  have hr := ar_range h.k
  unfold gw
  rw [List.length_cons, List.length_map, qus_len]
  omega
/-- How far the numbers of a gate are read. -/
def RG (y1 y2 y3 : ByteArray) (q : Nat) (a b c : Int) : Prop :=
  (1 ≤ q → ∃ ok, PN y1 a ok) ∧ (2 ≤ q → ∃ ok, PN y2 b ok) ∧ (3 ≤ q → ∃ ok, PN y3 c ok) ∧ (q ≤ 0 → a = 0) ∧ (q ≤ 1 → b = 0) ∧ (q ≤ 2 → c = 0)
theorem rg0 (y1 y2 y3 : ByteArray) : RG y1 y2 y3 0 0 0 0 := ⟨fun q => by omega, fun q => by omega, fun q => by omega, fun _ => rfl, fun _ => rfl, fun _ => rfl⟩
theorem rg1 {y1 y2 y3 : ByteArray} {a b c n : Int} {ok : Bool} (h : RG y1 y2 y3 0 a b c) (hn : PN y1 n ok) : RG y1 y2 y3 1 n b c := ⟨fun _ => ⟨ok, hn⟩, fun q => by omega, fun q => by omega, fun q => by omega, fun _ => h.2.2.2.2.1 (by omega), fun _ => h.2.2.2.2.2 (by omega)⟩
theorem rg2 {y1 y2 y3 : ByteArray} {a b c n : Int} {ok : Bool} (h : RG y1 y2 y3 1 a b c) (hn : PN y2 n ok) : RG y1 y2 y3 2 a n c := ⟨fun _ => h.1 (by omega), fun _ => ⟨ok, hn⟩, fun q => by omega, fun q => by omega, fun q => by omega, fun _ => h.2.2.2.2.2 (by omega)⟩
theorem rg3 {y1 y2 y3 : ByteArray} {a b c n : Int} {ok : Bool} (h : RG y1 y2 y3 2 a b c) (hn : PN y3 n ok) : RG y1 y2 y3 3 a b n := ⟨fun _ => h.1 (by omega), fun _ => h.2.1 (by omega), fun _ => ⟨ok, hn⟩, fun q => by omega, fun q => by omega, fun q => by omega⟩
theorem word_ok {y0 y1 y2 y3 : ByteArray} {k : Int} {h : Gt} (hv : vg h 4 = true) (hw : GW y0 y1 y2 y3 h) (hk : ∀ j, 1 ≤ j → j ≤ 12 → y0 = gnm j → k = j) {n : Int} {ok : Bool} :
    (1 ≤ ar k → PN y1 n ok → ok = true) ∧ (2 ≤ ar k → PN y2 n ok → ok = true) ∧ (3 ≤ ar k → PN y3 n ok → ok = true) := by
  obtain ⟨w0, w1, w2, w3⟩ := hw
  have hkk := vg_k hv
  have e0 : k = h.k := hk h.k hkk.1 hkk.2 w0
  subst e0
  have hq : ∀ (i : Nat) q, (qs h)[i]? = some q → (i : Int) < ar h.k → 0 ≤ q ∧ q ≤ 3 := by
    intro i q hi hlt
    refine qus_dig hv ?_
    unfold qus
    exact List.mem_of_getElem? (i := i) (by rw [List.getElem?_take_of_lt (by omega)]; exact hi)
  refine ⟨fun e hp => ?_, fun e hp => ?_, fun e hp => ?_⟩
  · have := hq 0 h.a rfl (by omega)
    exact (hp.2.2 h.a this.1 (by omega) (w1 e)).2
  · have := hq 1 h.b rfl (by omega)
    exact (hp.2.2 h.b this.1 (by omega) (w2 e)).2
  · have := hq 2 h.c rfl (by omega)
    exact (hp.2.2 h.c this.1 (by omega) (w3 e)).2
set_option maxRecDepth 100000 in
set_option maxHeartbeats 8000000 in
theorem impl_ParseGate_any (s : ByteArray) (hs : s.size ≤ 1500000) (w : World) (hw : PW w) : Calls Tryz.prog 33 #[.string s] w fun e w' => GateRes s e ∧ Ext w w' := by
  have HPW := Lib.hid hw
  clear hw
  go_enter Tryz.func33, Tryz.ntmps33
  go_wp2_with fail
  refine (impl_SplitByte_any s 32 32 rfl _ (HPW.out.ext (by repeat (first | exact Ext.refl _ | assumption | refine Ext.alloc ?_ _ | refine Ext.drewN ?_ _ | refine Ext.drew ?_))).max (by omega)).mono ?_
  rintro e w2 ⟨b, rfl, hr2, hx2⟩
  have hcn := cut_ne 32 s
  have HB2 : Hid (Blk w2 w.heap.size 37 #[.int .i64 0, .int .i64 0, .int .i64 0, .int .i64 0]) := (Blk.new w _ _).ext hx2
  have HX2 : Hid (Ext w w2) := Ext.trans ((Ext.refl w).alloc _) hx2
  have hsz : ∀ y ∈ cut 32 s, y.size ≤ 2000000 := fun y hy => by have := cut_size hy; omega
  have HZ1 : Hid (((cut 32 s).getD 1 ⟨#[]⟩).size ≤ 2000000000000) := Nat.le_trans (getD_size hsz 1) (by decide)
  have HZ2 : Hid (((cut 32 s).getD 2 ⟨#[]⟩).size ≤ 2000000000000) := Nat.le_trans (getD_size hsz 2) (by decide)
  have HZ3 : Hid (((cut 32 s).getD 3 ⟨#[]⟩).size ≤ 2000000000000) := Nat.le_trans (getD_size hsz 3) (by decide)
  have HY : Hid (∀ w', Ext w2 w' → ∀ i, i < (cut 32 s).length → w'.cell? ⟨b, i, none⟩ = some (.string ((cut 32 s).getD i ⟨#[]⟩))) := fun w' q i hi => by
    obtain ⟨h1, _, h3⟩ := str_getD hr2 hi
    rw [Nat.zero_add] at h3
    exact (q.cell (p := ⟨b, i, none⟩) h1).trans h3
  have HW : Hid (∀ h : Gt, vg h 4 = true → s = gtx h → GW ((cut 32 s).getD 0 ⟨#[]⟩) ((cut 32 s).getD 1 ⟨#[]⟩) ((cut 32 s).getD 2 ⟨#[]⟩) ((cut 32 s).getD 3 ⟨#[]⟩) h ∧ ((cut 32 s).length : Int) = ar h.k + 1) := by
    intro h hv he
    rw [he, gtx_cut hv]
    exact ⟨gw_getD h, gw_len h⟩
  have hml := cut_len 32 s
  obtain ⟨y0, hy0⟩ : ∃ y, (cut 32 s).getD 0 ⟨#[]⟩ = y := ⟨_, rfl⟩
  obtain ⟨y1, hy1⟩ : ∃ y, (cut 32 s).getD 1 ⟨#[]⟩ = y := ⟨_, rfl⟩
  obtain ⟨y2, hy2⟩ : ∃ y, (cut 32 s).getD 2 ⟨#[]⟩ = y := ⟨_, rfl⟩
  obtain ⟨y3, hy3⟩ : ∃ y, (cut 32 s).getD 3 ⟨#[]⟩ = y := ⟨_, rfl⟩
  rw [hy0, hy1, hy2, hy3] at HW
  rw [hy1] at HZ1
  rw [hy2] at HZ2
  rw [hy3] at HZ3
  obtain ⟨m, hm⟩ : ∃ m, (cut 32 s).length = m := ⟨_, rfl⟩
  rw [hm] at HW HY hml hcn ⊢
  have r0 : w2.cell? ⟨b, 0, none⟩ = some (.string y0) := by rw [← hy0]; exact HY.out w2 (Ext.refl _) 0 hcn
  have Q1 : Hid (∀ w', Ext w2 w' → 1 < m → w'.cell? ⟨b, 1, none⟩ = some (.string y1)) := fun w' q h => by rw [← hy1]; exact HY.out w' q 1 h
  have Q2 : Hid (∀ w', Ext w2 w' → 2 < m → w'.cell? ⟨b, 2, none⟩ = some (.string y2)) := fun w' q h => by rw [← hy2]; exact HY.out w' q 2 h
  have Q3 : Hid (∀ w', Ext w2 w' → 3 < m → w'.cell? ⟨b, 3, none⟩ = some (.string y3)) := fun w' q h => by rw [← hy3]; exact HY.out w' q 3 h
  have hm0 : (0 : Int) < (m : Int) := by omega
  have HSB : Hid (∀ k, (∀ j, 1 ≤ j → j ≤ 12 → y0 = gnm j → k = j) → (m : Int) ≠ ar k + 1 → ∀ h : Gt, vg h 4 = true → s = gtx h → (⟨0, 0, 0, 0⟩ : Gt) = h) := by
    intro k hk hne h hv he
    obtain ⟨h1, h2⟩ := HW.out h hv he
    have hkk := vg_k hv
    have := hk h.k hkk.1 hkk.2 h1.1
    subst this
    exact absurd h2 hne
  clear hm hsz hy0 hy1 hy2 hy3 hr2 hx2 hcn HY
  go_wp2_with fail
  refine (impl_GateKind_any y0 _ (HPW.out.ext HX2.out).gn).mono ?_
  rintro e w3 ⟨⟨k, rfl, hk0, hk12, hkj⟩, hx3⟩
  clear r0
  have HKJ := Lib.hid hkj
  clear hkj
  go_upto_region 3 with (fail)
  have HB5 : Hid (Blk (w3.alloc (.cells #[.int .i64 k, .int .i64 0, .int .i64 0, .int .i64 0] 37)) w3.heap.size 37 #[.int .i64 k, .int .i64 0, .int .i64 0, .int .i64 0]) := Blk.new _ _ _
  have HX4 : Hid (Ext w2 (w3.alloc (.cells #[.int .i64 k, .int .i64 0, .int .i64 0, .int .i64 0] 37))) := hx3.alloc _
  have HG : Hid (w2.heap.size ≤ w3.heap.size) := hx3.size
  clear hx3
  have HK : Hid (0 ≤ k ∧ k ≤ 12) := ⟨hk0, hk12⟩
  generalize w3.alloc (.cells #[.int .i64 k, .int .i64 0, .int .i64 0, .int .i64 0] 37) = W at *
  generalize w3.heap.size = g at *
  have HL : Hid (w.heap.size < w2.heap.size) := HB2.out.lt
  have p0 : W.cell? ⟨g, 0, none⟩ = some (.int .i64 k) := HB5.out.cell 0
  go_wp2_with fail
  refine (impl_Arity_any k _).mono ?_
  rintro e w4 ⟨rfl, rfl⟩
  clear p0 hk0 hk12
  rcases (by have := HK.out; omega : k < 1 ∨ (1 ≤ k ∧ k ≤ 8) ∨ (9 ≤ k ∧ k ≤ 11) ∨ k = 12) with hk | hk | hk | hk
  · have ej : ar k = 0 := ar0 (.inl hk)
    have EJ := Lib.hid ej
    rw [ej]
    clear ej hk
    by_cases hm : m = 1
    rotate_left
    · have hmn : ((m : Int) != 1) = true := by simp; omega
      have HN : Hid (∀ h : Gt, vg h 4 = true → s = gtx h → (⟨0, 0, 0, 0⟩ : Gt) = h) := HSB.out k HKJ.out (by have := EJ.out; omega)
      clear hm
      obtain ⟨⟨a0, a1, a2, a3⟩, z0, z1, z2, z3⟩ := cells4 (HB2.out.ext HX4.out)
      go_wp2
      exact bodyPost_ret (v := .tuple #[(⟨0, 0, 0, 0⟩ : Gt).val, .bool false]) (ret_pair rfl _ _ _ _ _ _ _ rfl rfl ((HB2.out.ext HX4.out).put4 (.int .i64 0) (.int .i64 0) (.int .i64 0) (.int .i64 0)) Tryz.underlying37 rfl Tryz.sizeGateR) rfl ⟨gateRes _ _ rfl HN.out, ext_put4 (HX2.out.trans HX4.out) (Nat.le_refl _) _ _ _ _⟩
    subst hm
    clear hm0 hml
    go_upto_region 6 with (fail)
    have F5 : Hid (Blk (W.alloc (.cells #[.pointer (some ⟨g, 1, none⟩), .pointer (some ⟨g, 2, none⟩), .pointer (some ⟨g, 3, none⟩)] 68)) W.heap.size 68 #[.pointer (some ⟨g, 1, none⟩), .pointer (some ⟨g, 2, none⟩), .pointer (some ⟨g, 3, none⟩)]) := Blk.new _ _ _
    have B5 : Hid (Blk (W.alloc (.cells #[.pointer (some ⟨g, 1, none⟩), .pointer (some ⟨g, 2, none⟩), .pointer (some ⟨g, 3, none⟩)] 68)) g 37 #[.int .i64 k, .int .i64 0, .int .i64 0, .int .i64 0]) := HB5.out.alloc _
    have X5 : Hid (Ext w2 (W.alloc (.cells #[.pointer (some ⟨g, 1, none⟩), .pointer (some ⟨g, 2, none⟩), .pointer (some ⟨g, 3, none⟩)] 68))) := HX4.out.alloc _
    have FG : Hid (W.heap.size ≠ g) := Nat.ne_of_gt HB5.out.lt
    clear HB5 HX4
    generalize W.alloc (.cells #[.pointer (some ⟨g, 1, none⟩), .pointer (some ⟨g, 2, none⟩), .pointer (some ⟨g, 3, none⟩)] 68) = V at *
    generalize W.heap.size = f at *
    go_wp2
    go_loopw [33] (fun iv wr => ∃ (q : Nat) (a b' c : Int), iv = .int .i64 q ∧ q ≤ 0 ∧ Hid (RG y1 y2 y3 q a b' c) ∧ Hid (Blk wr g 37 #[.int .i64 k, .int .i64 a, .int .i64 b', .int .i64 c]) ∧ Hid (Blk wr f 68 #[.pointer (some ⟨g, 1, none⟩), .pointer (some ⟨g, 2, none⟩), .pointer (some ⟨g, 3, none⟩)]) ∧ Hid (Ext w2 wr)) (fun i _ => 0 - (intOf i).toNat)
    case atStart => exact ⟨0, 0, 0, 0, rfl, Nat.zero_le _, rg0 _ _ _, B5, F5, X5⟩
    case round =>
      obtain ⟨q, a, b', c, rfl, hq, RR, BB, FF, XX⟩ := hrel
      clear B5 F5 X5
      obtain rfl : q = 0 := by omega
      · have HS : Hid (∀ h : Gt, vg h 4 = true → s = gtx h → (⟨k, a, b', c⟩ : Gt) = h) := by
          intro h hv he
          have hj := EJ.out
          obtain ⟨t1, t2, t3, t4, t5, t6⟩ := RR.out
          exact gate_same hv (HW.out h hv he).1 HKJ.out (fun q => t1 (by omega)) (fun q => t2 (by omega)) (fun q => t3 (by omega)) (fun q => t4 (by omega)) (fun q => t5 (by omega)) (fun q => t6 (by omega))
        have d0 : wr.cell? ⟨g, 0, none⟩ = some (.int .i64 k) := BB.out.cell 0
        have d1 : wr.cell? ⟨g, 1, none⟩ = some (.int .i64 a) := BB.out.cell 1
        have d2 : wr.cell? ⟨g, 2, none⟩ = some (.int .i64 b') := BB.out.cell 2
        have d3 : wr.cell? ⟨g, 3, none⟩ = some (.int .i64 c) := BB.out.cell 3
        go_wp2_with fail
        refine (impl_IsValidGate_any ⟨k, a, b', c⟩ 4 _).mono ?_
        rintro e v ⟨rfl, hy⟩
        have HY := Lib.hid hy
        clear hy d0 d1 d2 d3
        obtain ⟨vv, hvv⟩ : ∃ vv, vg ⟨k, a, b', c⟩ 4 = vv := ⟨_, rfl⟩
        rw [hvv]
        cases vv
        · have HN : Hid (∀ h : Gt, vg h 4 = true → s = gtx h → (⟨0, 0, 0, 0⟩ : Gt) = h) := by
            intro h hv he
            have h1 := HS.out h hv he
            rw [h1, hv] at hvv
            cases hvv
          clear hvv
          obtain ⟨⟨a0, a1, a2, a3⟩, z0, z1, z2, z3⟩ := cells4 (HB2.out.ext (XX.out.trans HY.out))
          go_wp2
          exact bodyPost_ret (v := .tuple #[(⟨0, 0, 0, 0⟩ : Gt).val, .bool false]) (ret_pair rfl _ _ _ _ _ _ _ rfl rfl ((HB2.out.ext (XX.out.trans HY.out)).put4 (.int .i64 0) (.int .i64 0) (.int .i64 0) (.int .i64 0)) Tryz.underlying37 rfl Tryz.sizeGateR) rfl ⟨gateRes _ _ rfl HN.out, ext_put4 (HX2.out.trans (XX.out.trans HY.out)) (Nat.le_refl _) _ _ _ _⟩
        · clear hvv
          have d0 : v.cell? ⟨g, 0, none⟩ = some (.int .i64 k) := (BB.out.ext HY.out).cell 0
          have d1 : v.cell? ⟨g, 1, none⟩ = some (.int .i64 a) := (BB.out.ext HY.out).cell 1
          have d2 : v.cell? ⟨g, 2, none⟩ = some (.int .i64 b') := (BB.out.ext HY.out).cell 2
          have d3 : v.cell? ⟨g, 3, none⟩ = some (.int .i64 c) := (BB.out.ext HY.out).cell 3
          go_wp2_with fail
          have HCG : Hid (∀ w', Ext w2 w' → Calls Tryz.prog 52 #[.agg #[.int .i64 k, .int .i64 a, .int .i64 b', .int .i64 c]] w' fun e w'' => e = .returned (.string (gtx ⟨k, a, b', c⟩)) ∧ Ext w' w'') := fun w' hx => impl_FormatGate_any ⟨k, a, b', c⟩ w' (HPW.out.ext (HX2.out.trans hx)).gn
          refine (HCG.out _ (XX.out.trans HY.out)).mono ?_
          rintro e v9 ⟨rfl, hy9⟩
          have HY9 := Lib.hid hy9
          clear hy9 d0 d1 d2 d3 HCG
          obtain ⟨⟨a0, a1, a2, a3⟩, z0, z1, z2, z3⟩ := cells4 (HB2.out.ext ((XX.out.trans HY.out).trans HY9.out))
          obtain ⟨gs, hgs⟩ : ∃ gs, gtx ⟨k, a, b', c⟩ = gs := ⟨_, rfl⟩
          rw [hgs]
          have HGS := Lib.hid hgs
          clear hgs
          obtain ⟨qq, hqq⟩ : ∃ qq, (ByteArray.toList gs == ByteArray.toList s) = qq := ⟨_, rfl⟩
          cases qq
          · have HN : Hid (∀ h : Gt, vg h 4 = true → s = gtx h → (⟨0, 0, 0, 0⟩ : Gt) = h) := by
              intro h hv he
              have h1 := HS.out h hv he
              rw [← HGS.out, h1, ← he, str_beq_self] at hqq
              cases hqq
            go_wp2
            exact bodyPost_ret (v := .tuple #[(⟨0, 0, 0, 0⟩ : Gt).val, .bool false]) (ret_pair rfl _ _ _ _ _ _ _ rfl rfl ((HB2.out.ext ((XX.out.trans HY.out).trans HY9.out)).put4 (.int .i64 0) (.int .i64 0) (.int .i64 0) (.int .i64 0)) Tryz.underlying37 rfl Tryz.sizeGateR) rfl ⟨gateRes _ _ rfl HN.out, ext_put4 (HX2.out.trans ((XX.out.trans HY.out).trans HY9.out)) (Nat.le_refl _) _ _ _ _⟩
          · have d0 : v9.cell? ⟨g, 0, none⟩ = some (.int .i64 k) := ((BB.out.ext HY.out).ext HY9.out).cell 0
            have d1 : v9.cell? ⟨g, 1, none⟩ = some (.int .i64 a) := ((BB.out.ext HY.out).ext HY9.out).cell 1
            have d2 : v9.cell? ⟨g, 2, none⟩ = some (.int .i64 b') := ((BB.out.ext HY.out).ext HY9.out).cell 2
            have d3 : v9.cell? ⟨g, 3, none⟩ = some (.int .i64 c) := ((BB.out.ext HY.out).ext HY9.out).cell 3
            go_wp2
            exact bodyPost_ret (v := .tuple #[(⟨k, a, b', c⟩ : Gt).val, .bool true]) (ret_pair rfl _ _ _ _ _ _ _ rfl rfl ((HB2.out.ext ((XX.out.trans HY.out).trans HY9.out)).put4 (.int .i64 k) (.int .i64 a) (.int .i64 b') (.int .i64 c)) Tryz.underlying37 rfl Tryz.sizeGateR) rfl ⟨gateRes _ _ rfl HS.out, ext_put4 (HX2.out.trans ((XX.out.trans HY.out).trans HY9.out)) (Nat.le_refl _) _ _ _ _⟩
  · have ej : ar k = 1 := ar1 hk
    have EJ := Lib.hid ej
    rw [ej]
    clear ej hk
    by_cases hm : m = 2
    rotate_left
    · have hmn : ((m : Int) != 2) = true := by simp; omega
      have HN : Hid (∀ h : Gt, vg h 4 = true → s = gtx h → (⟨0, 0, 0, 0⟩ : Gt) = h) := HSB.out k HKJ.out (by have := EJ.out; omega)
      clear hm
      obtain ⟨⟨a0, a1, a2, a3⟩, z0, z1, z2, z3⟩ := cells4 (HB2.out.ext HX4.out)
      go_wp2
      exact bodyPost_ret (v := .tuple #[(⟨0, 0, 0, 0⟩ : Gt).val, .bool false]) (ret_pair rfl _ _ _ _ _ _ _ rfl rfl ((HB2.out.ext HX4.out).put4 (.int .i64 0) (.int .i64 0) (.int .i64 0) (.int .i64 0)) Tryz.underlying37 rfl Tryz.sizeGateR) rfl ⟨gateRes _ _ rfl HN.out, ext_put4 (HX2.out.trans HX4.out) (Nat.le_refl _) _ _ _ _⟩
    subst hm
    clear hm0 hml
    go_upto_region 6 with (fail)
    have F5 : Hid (Blk (W.alloc (.cells #[.pointer (some ⟨g, 1, none⟩), .pointer (some ⟨g, 2, none⟩), .pointer (some ⟨g, 3, none⟩)] 68)) W.heap.size 68 #[.pointer (some ⟨g, 1, none⟩), .pointer (some ⟨g, 2, none⟩), .pointer (some ⟨g, 3, none⟩)]) := Blk.new _ _ _
    have B5 : Hid (Blk (W.alloc (.cells #[.pointer (some ⟨g, 1, none⟩), .pointer (some ⟨g, 2, none⟩), .pointer (some ⟨g, 3, none⟩)] 68)) g 37 #[.int .i64 k, .int .i64 0, .int .i64 0, .int .i64 0]) := HB5.out.alloc _
    have X5 : Hid (Ext w2 (W.alloc (.cells #[.pointer (some ⟨g, 1, none⟩), .pointer (some ⟨g, 2, none⟩), .pointer (some ⟨g, 3, none⟩)] 68))) := HX4.out.alloc _
    have FG : Hid (W.heap.size ≠ g) := Nat.ne_of_gt HB5.out.lt
    clear HB5 HX4
    generalize W.alloc (.cells #[.pointer (some ⟨g, 1, none⟩), .pointer (some ⟨g, 2, none⟩), .pointer (some ⟨g, 3, none⟩)] 68) = V at *
    generalize W.heap.size = f at *
    go_wp2
    go_loopw [33] (fun iv wr => ∃ (q : Nat) (a b' c : Int), iv = .int .i64 q ∧ q ≤ 1 ∧ Hid (RG y1 y2 y3 q a b' c) ∧ Hid (Blk wr g 37 #[.int .i64 k, .int .i64 a, .int .i64 b', .int .i64 c]) ∧ Hid (Blk wr f 68 #[.pointer (some ⟨g, 1, none⟩), .pointer (some ⟨g, 2, none⟩), .pointer (some ⟨g, 3, none⟩)]) ∧ Hid (Ext w2 wr)) (fun i _ => 1 - (intOf i).toNat)
    case atStart => exact ⟨0, 0, 0, 0, rfl, Nat.zero_le _, rg0 _ _ _, B5, F5, X5⟩
    case round =>
      obtain ⟨q, a, b', c, rfl, hq, RR, BB, FF, XX⟩ := hrel
      clear B5 F5 X5
      rcases (by omega : q = 0 ∨ q = 1) with rfl | rfl
      · have q1 : wr.cell? ⟨b, 1, none⟩ = some (.string y1) := Q1.out _ XX.out (by omega)
        go_wp2_with fail
        refine (impl_ParseNumber_any y1 HZ1.out _ (HPW.out.ext (HX2.out.trans XX.out))).mono ?_
        rintro e v ⟨⟨n, ok, rfl, hp⟩, hy⟩
        have HP := Lib.hid hp
        have HY := Lib.hid hy
        clear hp hy q1
        cases ok
        · have HN : Hid (∀ h : Gt, vg h 4 = true → s = gtx h → (⟨0, 0, 0, 0⟩ : Gt) = h) := by
            intro h hv he
            have := (word_ok hv (HW.out h hv he).1 HKJ.out (n := n) (ok := false)).1 (by have := EJ.out; omega) HP.out
            cases this
          obtain ⟨⟨a0, a1, a2, a3⟩, z0, z1, z2, z3⟩ := cells4 (HB2.out.ext (XX.out.trans HY.out))
          go_wp2
          exact bodyPost_ret (v := .tuple #[(⟨0, 0, 0, 0⟩ : Gt).val, .bool false]) (ret_pair rfl _ _ _ _ _ _ _ rfl rfl ((HB2.out.ext (XX.out.trans HY.out)).put4 (.int .i64 0) (.int .i64 0) (.int .i64 0) (.int .i64 0)) Tryz.underlying37 rfl Tryz.sizeGateR) rfl ⟨gateRes _ _ rfl HN.out, ext_put4 (HX2.out.trans (XX.out.trans HY.out)) (Nat.le_refl _) _ _ _ _⟩
        · have c0 : v.cell? ⟨f, 0, none⟩ = some (.pointer (some ⟨g, 1, none⟩)) := (FF.out.ext HY.out).cell 0
          have c1 : v.cell? ⟨g, 1, none⟩ = some (.int .i64 a) := (BB.out.ext HY.out).cell 1
          have c2 : v.frozen? ⟨g, 1, none⟩ = false := (BB.out.ext HY.out).frozen 1
          go_wp2
          go_roundw
          case rel => exact ⟨1, n, b', c, rfl, by omega, rg1 RR.out HP.out, (BB.out.ext HY.out).set_ 1 _, (FF.out.ext HY.out).far (p := ⟨g, 1, none⟩) FG.out _, (XX.out.trans HY.out).setCell (p := ⟨g, 1, none⟩) HG.out _⟩
          case measure => simp [intOf]
      · have HS : Hid (∀ h : Gt, vg h 4 = true → s = gtx h → (⟨k, a, b', c⟩ : Gt) = h) := by
          intro h hv he
          have hj := EJ.out
          obtain ⟨t1, t2, t3, t4, t5, t6⟩ := RR.out
          exact gate_same hv (HW.out h hv he).1 HKJ.out (fun q => t1 (by omega)) (fun q => t2 (by omega)) (fun q => t3 (by omega)) (fun q => t4 (by omega)) (fun q => t5 (by omega)) (fun q => t6 (by omega))
        have d0 : wr.cell? ⟨g, 0, none⟩ = some (.int .i64 k) := BB.out.cell 0
        have d1 : wr.cell? ⟨g, 1, none⟩ = some (.int .i64 a) := BB.out.cell 1
        have d2 : wr.cell? ⟨g, 2, none⟩ = some (.int .i64 b') := BB.out.cell 2
        have d3 : wr.cell? ⟨g, 3, none⟩ = some (.int .i64 c) := BB.out.cell 3
        go_wp2_with fail
        refine (impl_IsValidGate_any ⟨k, a, b', c⟩ 4 _).mono ?_
        rintro e v ⟨rfl, hy⟩
        have HY := Lib.hid hy
        clear hy d0 d1 d2 d3
        obtain ⟨vv, hvv⟩ : ∃ vv, vg ⟨k, a, b', c⟩ 4 = vv := ⟨_, rfl⟩
        rw [hvv]
        cases vv
        · have HN : Hid (∀ h : Gt, vg h 4 = true → s = gtx h → (⟨0, 0, 0, 0⟩ : Gt) = h) := by
            intro h hv he
            have h1 := HS.out h hv he
            rw [h1, hv] at hvv
            cases hvv
          clear hvv
          obtain ⟨⟨a0, a1, a2, a3⟩, z0, z1, z2, z3⟩ := cells4 (HB2.out.ext (XX.out.trans HY.out))
          go_wp2
          exact bodyPost_ret (v := .tuple #[(⟨0, 0, 0, 0⟩ : Gt).val, .bool false]) (ret_pair rfl _ _ _ _ _ _ _ rfl rfl ((HB2.out.ext (XX.out.trans HY.out)).put4 (.int .i64 0) (.int .i64 0) (.int .i64 0) (.int .i64 0)) Tryz.underlying37 rfl Tryz.sizeGateR) rfl ⟨gateRes _ _ rfl HN.out, ext_put4 (HX2.out.trans (XX.out.trans HY.out)) (Nat.le_refl _) _ _ _ _⟩
        · clear hvv
          have d0 : v.cell? ⟨g, 0, none⟩ = some (.int .i64 k) := (BB.out.ext HY.out).cell 0
          have d1 : v.cell? ⟨g, 1, none⟩ = some (.int .i64 a) := (BB.out.ext HY.out).cell 1
          have d2 : v.cell? ⟨g, 2, none⟩ = some (.int .i64 b') := (BB.out.ext HY.out).cell 2
          have d3 : v.cell? ⟨g, 3, none⟩ = some (.int .i64 c) := (BB.out.ext HY.out).cell 3
          go_wp2_with fail
          have HCG : Hid (∀ w', Ext w2 w' → Calls Tryz.prog 52 #[.agg #[.int .i64 k, .int .i64 a, .int .i64 b', .int .i64 c]] w' fun e w'' => e = .returned (.string (gtx ⟨k, a, b', c⟩)) ∧ Ext w' w'') := fun w' hx => impl_FormatGate_any ⟨k, a, b', c⟩ w' (HPW.out.ext (HX2.out.trans hx)).gn
          refine (HCG.out _ (XX.out.trans HY.out)).mono ?_
          rintro e v9 ⟨rfl, hy9⟩
          have HY9 := Lib.hid hy9
          clear hy9 d0 d1 d2 d3 HCG
          obtain ⟨⟨a0, a1, a2, a3⟩, z0, z1, z2, z3⟩ := cells4 (HB2.out.ext ((XX.out.trans HY.out).trans HY9.out))
          obtain ⟨gs, hgs⟩ : ∃ gs, gtx ⟨k, a, b', c⟩ = gs := ⟨_, rfl⟩
          rw [hgs]
          have HGS := Lib.hid hgs
          clear hgs
          obtain ⟨qq, hqq⟩ : ∃ qq, (ByteArray.toList gs == ByteArray.toList s) = qq := ⟨_, rfl⟩
          cases qq
          · have HN : Hid (∀ h : Gt, vg h 4 = true → s = gtx h → (⟨0, 0, 0, 0⟩ : Gt) = h) := by
              intro h hv he
              have h1 := HS.out h hv he
              rw [← HGS.out, h1, ← he, str_beq_self] at hqq
              cases hqq
            go_wp2
            exact bodyPost_ret (v := .tuple #[(⟨0, 0, 0, 0⟩ : Gt).val, .bool false]) (ret_pair rfl _ _ _ _ _ _ _ rfl rfl ((HB2.out.ext ((XX.out.trans HY.out).trans HY9.out)).put4 (.int .i64 0) (.int .i64 0) (.int .i64 0) (.int .i64 0)) Tryz.underlying37 rfl Tryz.sizeGateR) rfl ⟨gateRes _ _ rfl HN.out, ext_put4 (HX2.out.trans ((XX.out.trans HY.out).trans HY9.out)) (Nat.le_refl _) _ _ _ _⟩
          · have d0 : v9.cell? ⟨g, 0, none⟩ = some (.int .i64 k) := ((BB.out.ext HY.out).ext HY9.out).cell 0
            have d1 : v9.cell? ⟨g, 1, none⟩ = some (.int .i64 a) := ((BB.out.ext HY.out).ext HY9.out).cell 1
            have d2 : v9.cell? ⟨g, 2, none⟩ = some (.int .i64 b') := ((BB.out.ext HY.out).ext HY9.out).cell 2
            have d3 : v9.cell? ⟨g, 3, none⟩ = some (.int .i64 c) := ((BB.out.ext HY.out).ext HY9.out).cell 3
            go_wp2
            exact bodyPost_ret (v := .tuple #[(⟨k, a, b', c⟩ : Gt).val, .bool true]) (ret_pair rfl _ _ _ _ _ _ _ rfl rfl ((HB2.out.ext ((XX.out.trans HY.out).trans HY9.out)).put4 (.int .i64 k) (.int .i64 a) (.int .i64 b') (.int .i64 c)) Tryz.underlying37 rfl Tryz.sizeGateR) rfl ⟨gateRes _ _ rfl HS.out, ext_put4 (HX2.out.trans ((XX.out.trans HY.out).trans HY9.out)) (Nat.le_refl _) _ _ _ _⟩
  · have ej : ar k = 2 := ar2 hk
    have EJ := Lib.hid ej
    rw [ej]
    clear ej hk
    by_cases hm : m = 3
    rotate_left
    · have hmn : ((m : Int) != 3) = true := by simp; omega
      have HN : Hid (∀ h : Gt, vg h 4 = true → s = gtx h → (⟨0, 0, 0, 0⟩ : Gt) = h) := HSB.out k HKJ.out (by have := EJ.out; omega)
      clear hm
      obtain ⟨⟨a0, a1, a2, a3⟩, z0, z1, z2, z3⟩ := cells4 (HB2.out.ext HX4.out)
      go_wp2
      exact bodyPost_ret (v := .tuple #[(⟨0, 0, 0, 0⟩ : Gt).val, .bool false]) (ret_pair rfl _ _ _ _ _ _ _ rfl rfl ((HB2.out.ext HX4.out).put4 (.int .i64 0) (.int .i64 0) (.int .i64 0) (.int .i64 0)) Tryz.underlying37 rfl Tryz.sizeGateR) rfl ⟨gateRes _ _ rfl HN.out, ext_put4 (HX2.out.trans HX4.out) (Nat.le_refl _) _ _ _ _⟩
    subst hm
    clear hm0 hml
    go_upto_region 6 with (fail)
    have F5 : Hid (Blk (W.alloc (.cells #[.pointer (some ⟨g, 1, none⟩), .pointer (some ⟨g, 2, none⟩), .pointer (some ⟨g, 3, none⟩)] 68)) W.heap.size 68 #[.pointer (some ⟨g, 1, none⟩), .pointer (some ⟨g, 2, none⟩), .pointer (some ⟨g, 3, none⟩)]) := Blk.new _ _ _
    have B5 : Hid (Blk (W.alloc (.cells #[.pointer (some ⟨g, 1, none⟩), .pointer (some ⟨g, 2, none⟩), .pointer (some ⟨g, 3, none⟩)] 68)) g 37 #[.int .i64 k, .int .i64 0, .int .i64 0, .int .i64 0]) := HB5.out.alloc _
    have X5 : Hid (Ext w2 (W.alloc (.cells #[.pointer (some ⟨g, 1, none⟩), .pointer (some ⟨g, 2, none⟩), .pointer (some ⟨g, 3, none⟩)] 68))) := HX4.out.alloc _
    have FG : Hid (W.heap.size ≠ g) := Nat.ne_of_gt HB5.out.lt
    clear HB5 HX4
    generalize W.alloc (.cells #[.pointer (some ⟨g, 1, none⟩), .pointer (some ⟨g, 2, none⟩), .pointer (some ⟨g, 3, none⟩)] 68) = V at *
    generalize W.heap.size = f at *
    go_wp2
    go_loopw [33] (fun iv wr => ∃ (q : Nat) (a b' c : Int), iv = .int .i64 q ∧ q ≤ 2 ∧ Hid (RG y1 y2 y3 q a b' c) ∧ Hid (Blk wr g 37 #[.int .i64 k, .int .i64 a, .int .i64 b', .int .i64 c]) ∧ Hid (Blk wr f 68 #[.pointer (some ⟨g, 1, none⟩), .pointer (some ⟨g, 2, none⟩), .pointer (some ⟨g, 3, none⟩)]) ∧ Hid (Ext w2 wr)) (fun i _ => 2 - (intOf i).toNat)
    case atStart => exact ⟨0, 0, 0, 0, rfl, Nat.zero_le _, rg0 _ _ _, B5, F5, X5⟩
    case round =>
      obtain ⟨q, a, b', c, rfl, hq, RR, BB, FF, XX⟩ := hrel
      clear B5 F5 X5
      rcases (by omega : q = 0 ∨ q = 1 ∨ q = 2) with rfl | rfl | rfl
      · have q1 : wr.cell? ⟨b, 1, none⟩ = some (.string y1) := Q1.out _ XX.out (by omega)
        go_wp2_with fail
        refine (impl_ParseNumber_any y1 HZ1.out _ (HPW.out.ext (HX2.out.trans XX.out))).mono ?_
        rintro e v ⟨⟨n, ok, rfl, hp⟩, hy⟩
        have HP := Lib.hid hp
        have HY := Lib.hid hy
        clear hp hy q1
        cases ok
        · have HN : Hid (∀ h : Gt, vg h 4 = true → s = gtx h → (⟨0, 0, 0, 0⟩ : Gt) = h) := by
            intro h hv he
            have := (word_ok hv (HW.out h hv he).1 HKJ.out (n := n) (ok := false)).1 (by have := EJ.out; omega) HP.out
            cases this
          obtain ⟨⟨a0, a1, a2, a3⟩, z0, z1, z2, z3⟩ := cells4 (HB2.out.ext (XX.out.trans HY.out))
          go_wp2
          exact bodyPost_ret (v := .tuple #[(⟨0, 0, 0, 0⟩ : Gt).val, .bool false]) (ret_pair rfl _ _ _ _ _ _ _ rfl rfl ((HB2.out.ext (XX.out.trans HY.out)).put4 (.int .i64 0) (.int .i64 0) (.int .i64 0) (.int .i64 0)) Tryz.underlying37 rfl Tryz.sizeGateR) rfl ⟨gateRes _ _ rfl HN.out, ext_put4 (HX2.out.trans (XX.out.trans HY.out)) (Nat.le_refl _) _ _ _ _⟩
        · have c0 : v.cell? ⟨f, 0, none⟩ = some (.pointer (some ⟨g, 1, none⟩)) := (FF.out.ext HY.out).cell 0
          have c1 : v.cell? ⟨g, 1, none⟩ = some (.int .i64 a) := (BB.out.ext HY.out).cell 1
          have c2 : v.frozen? ⟨g, 1, none⟩ = false := (BB.out.ext HY.out).frozen 1
          go_wp2
          go_roundw
          case rel => exact ⟨1, n, b', c, rfl, by omega, rg1 RR.out HP.out, (BB.out.ext HY.out).set_ 1 _, (FF.out.ext HY.out).far (p := ⟨g, 1, none⟩) FG.out _, (XX.out.trans HY.out).setCell (p := ⟨g, 1, none⟩) HG.out _⟩
          case measure => simp [intOf]
      · have q1 : wr.cell? ⟨b, 2, none⟩ = some (.string y2) := Q2.out _ XX.out (by omega)
        go_wp2_with fail
        refine (impl_ParseNumber_any y2 HZ2.out _ (HPW.out.ext (HX2.out.trans XX.out))).mono ?_
        rintro e v ⟨⟨n, ok, rfl, hp⟩, hy⟩
        have HP := Lib.hid hp
        have HY := Lib.hid hy
        clear hp hy q1
        cases ok
        · have HN : Hid (∀ h : Gt, vg h 4 = true → s = gtx h → (⟨0, 0, 0, 0⟩ : Gt) = h) := by
            intro h hv he
            have := (word_ok hv (HW.out h hv he).1 HKJ.out (n := n) (ok := false)).2.1 (by have := EJ.out; omega) HP.out
            cases this
          obtain ⟨⟨a0, a1, a2, a3⟩, z0, z1, z2, z3⟩ := cells4 (HB2.out.ext (XX.out.trans HY.out))
          go_wp2
          exact bodyPost_ret (v := .tuple #[(⟨0, 0, 0, 0⟩ : Gt).val, .bool false]) (ret_pair rfl _ _ _ _ _ _ _ rfl rfl ((HB2.out.ext (XX.out.trans HY.out)).put4 (.int .i64 0) (.int .i64 0) (.int .i64 0) (.int .i64 0)) Tryz.underlying37 rfl Tryz.sizeGateR) rfl ⟨gateRes _ _ rfl HN.out, ext_put4 (HX2.out.trans (XX.out.trans HY.out)) (Nat.le_refl _) _ _ _ _⟩
        · have c0 : v.cell? ⟨f, 1, none⟩ = some (.pointer (some ⟨g, 2, none⟩)) := (FF.out.ext HY.out).cell 1
          have c1 : v.cell? ⟨g, 2, none⟩ = some (.int .i64 b') := (BB.out.ext HY.out).cell 2
          have c2 : v.frozen? ⟨g, 2, none⟩ = false := (BB.out.ext HY.out).frozen 2
          go_wp2
          go_roundw
          case rel => exact ⟨2, a, n, c, rfl, by omega, rg2 RR.out HP.out, (BB.out.ext HY.out).set_ 2 _, (FF.out.ext HY.out).far (p := ⟨g, 2, none⟩) FG.out _, (XX.out.trans HY.out).setCell (p := ⟨g, 2, none⟩) HG.out _⟩
          case measure => simp [intOf]
      · have HS : Hid (∀ h : Gt, vg h 4 = true → s = gtx h → (⟨k, a, b', c⟩ : Gt) = h) := by
          intro h hv he
          have hj := EJ.out
          obtain ⟨t1, t2, t3, t4, t5, t6⟩ := RR.out
          exact gate_same hv (HW.out h hv he).1 HKJ.out (fun q => t1 (by omega)) (fun q => t2 (by omega)) (fun q => t3 (by omega)) (fun q => t4 (by omega)) (fun q => t5 (by omega)) (fun q => t6 (by omega))
        have d0 : wr.cell? ⟨g, 0, none⟩ = some (.int .i64 k) := BB.out.cell 0
        have d1 : wr.cell? ⟨g, 1, none⟩ = some (.int .i64 a) := BB.out.cell 1
        have d2 : wr.cell? ⟨g, 2, none⟩ = some (.int .i64 b') := BB.out.cell 2
        have d3 : wr.cell? ⟨g, 3, none⟩ = some (.int .i64 c) := BB.out.cell 3
        go_wp2_with fail
        refine (impl_IsValidGate_any ⟨k, a, b', c⟩ 4 _).mono ?_
        rintro e v ⟨rfl, hy⟩
        have HY := Lib.hid hy
        clear hy d0 d1 d2 d3
        obtain ⟨vv, hvv⟩ : ∃ vv, vg ⟨k, a, b', c⟩ 4 = vv := ⟨_, rfl⟩
        rw [hvv]
        cases vv
        · have HN : Hid (∀ h : Gt, vg h 4 = true → s = gtx h → (⟨0, 0, 0, 0⟩ : Gt) = h) := by
            intro h hv he
            have h1 := HS.out h hv he
            rw [h1, hv] at hvv
            cases hvv
          clear hvv
          obtain ⟨⟨a0, a1, a2, a3⟩, z0, z1, z2, z3⟩ := cells4 (HB2.out.ext (XX.out.trans HY.out))
          go_wp2
          exact bodyPost_ret (v := .tuple #[(⟨0, 0, 0, 0⟩ : Gt).val, .bool false]) (ret_pair rfl _ _ _ _ _ _ _ rfl rfl ((HB2.out.ext (XX.out.trans HY.out)).put4 (.int .i64 0) (.int .i64 0) (.int .i64 0) (.int .i64 0)) Tryz.underlying37 rfl Tryz.sizeGateR) rfl ⟨gateRes _ _ rfl HN.out, ext_put4 (HX2.out.trans (XX.out.trans HY.out)) (Nat.le_refl _) _ _ _ _⟩
        · clear hvv
          have d0 : v.cell? ⟨g, 0, none⟩ = some (.int .i64 k) := (BB.out.ext HY.out).cell 0
          have d1 : v.cell? ⟨g, 1, none⟩ = some (.int .i64 a) := (BB.out.ext HY.out).cell 1
          have d2 : v.cell? ⟨g, 2, none⟩ = some (.int .i64 b') := (BB.out.ext HY.out).cell 2
          have d3 : v.cell? ⟨g, 3, none⟩ = some (.int .i64 c) := (BB.out.ext HY.out).cell 3
          go_wp2_with fail
          have HCG : Hid (∀ w', Ext w2 w' → Calls Tryz.prog 52 #[.agg #[.int .i64 k, .int .i64 a, .int .i64 b', .int .i64 c]] w' fun e w'' => e = .returned (.string (gtx ⟨k, a, b', c⟩)) ∧ Ext w' w'') := fun w' hx => impl_FormatGate_any ⟨k, a, b', c⟩ w' (HPW.out.ext (HX2.out.trans hx)).gn
          refine (HCG.out _ (XX.out.trans HY.out)).mono ?_
          rintro e v9 ⟨rfl, hy9⟩
          have HY9 := Lib.hid hy9
          clear hy9 d0 d1 d2 d3 HCG
          obtain ⟨⟨a0, a1, a2, a3⟩, z0, z1, z2, z3⟩ := cells4 (HB2.out.ext ((XX.out.trans HY.out).trans HY9.out))
          obtain ⟨gs, hgs⟩ : ∃ gs, gtx ⟨k, a, b', c⟩ = gs := ⟨_, rfl⟩
          rw [hgs]
          have HGS := Lib.hid hgs
          clear hgs
          obtain ⟨qq, hqq⟩ : ∃ qq, (ByteArray.toList gs == ByteArray.toList s) = qq := ⟨_, rfl⟩
          cases qq
          · have HN : Hid (∀ h : Gt, vg h 4 = true → s = gtx h → (⟨0, 0, 0, 0⟩ : Gt) = h) := by
              intro h hv he
              have h1 := HS.out h hv he
              rw [← HGS.out, h1, ← he, str_beq_self] at hqq
              cases hqq
            go_wp2
            exact bodyPost_ret (v := .tuple #[(⟨0, 0, 0, 0⟩ : Gt).val, .bool false]) (ret_pair rfl _ _ _ _ _ _ _ rfl rfl ((HB2.out.ext ((XX.out.trans HY.out).trans HY9.out)).put4 (.int .i64 0) (.int .i64 0) (.int .i64 0) (.int .i64 0)) Tryz.underlying37 rfl Tryz.sizeGateR) rfl ⟨gateRes _ _ rfl HN.out, ext_put4 (HX2.out.trans ((XX.out.trans HY.out).trans HY9.out)) (Nat.le_refl _) _ _ _ _⟩
          · have d0 : v9.cell? ⟨g, 0, none⟩ = some (.int .i64 k) := ((BB.out.ext HY.out).ext HY9.out).cell 0
            have d1 : v9.cell? ⟨g, 1, none⟩ = some (.int .i64 a) := ((BB.out.ext HY.out).ext HY9.out).cell 1
            have d2 : v9.cell? ⟨g, 2, none⟩ = some (.int .i64 b') := ((BB.out.ext HY.out).ext HY9.out).cell 2
            have d3 : v9.cell? ⟨g, 3, none⟩ = some (.int .i64 c) := ((BB.out.ext HY.out).ext HY9.out).cell 3
            go_wp2
            exact bodyPost_ret (v := .tuple #[(⟨k, a, b', c⟩ : Gt).val, .bool true]) (ret_pair rfl _ _ _ _ _ _ _ rfl rfl ((HB2.out.ext ((XX.out.trans HY.out).trans HY9.out)).put4 (.int .i64 k) (.int .i64 a) (.int .i64 b') (.int .i64 c)) Tryz.underlying37 rfl Tryz.sizeGateR) rfl ⟨gateRes _ _ rfl HS.out, ext_put4 (HX2.out.trans ((XX.out.trans HY.out).trans HY9.out)) (Nat.le_refl _) _ _ _ _⟩
  · have ej : ar k = 3 := ar3 hk
    have EJ := Lib.hid ej
    rw [ej]
    clear ej
    have KK := Lib.hid hk
    clear hk
    by_cases hm : m = 4
    rotate_left
    · have hmn : ((m : Int) != 4) = true := by simp; omega
      have HN : Hid (∀ h : Gt, vg h 4 = true → s = gtx h → (⟨0, 0, 0, 0⟩ : Gt) = h) := HSB.out k HKJ.out (by have := EJ.out; omega)
      clear hm
      obtain ⟨⟨a0, a1, a2, a3⟩, z0, z1, z2, z3⟩ := cells4 (HB2.out.ext HX4.out)
      go_wp2
      exact bodyPost_ret (v := .tuple #[(⟨0, 0, 0, 0⟩ : Gt).val, .bool false]) (ret_pair rfl _ _ _ _ _ _ _ rfl rfl ((HB2.out.ext HX4.out).put4 (.int .i64 0) (.int .i64 0) (.int .i64 0) (.int .i64 0)) Tryz.underlying37 rfl Tryz.sizeGateR) rfl ⟨gateRes _ _ rfl HN.out, ext_put4 (HX2.out.trans HX4.out) (Nat.le_refl _) _ _ _ _⟩
    subst hm
    clear hm0 hml
    go_upto_region 6 with (fail)
    have F5 : Hid (Blk (W.alloc (.cells #[.pointer (some ⟨g, 1, none⟩), .pointer (some ⟨g, 2, none⟩), .pointer (some ⟨g, 3, none⟩)] 68)) W.heap.size 68 #[.pointer (some ⟨g, 1, none⟩), .pointer (some ⟨g, 2, none⟩), .pointer (some ⟨g, 3, none⟩)]) := Blk.new _ _ _
    have B5 : Hid (Blk (W.alloc (.cells #[.pointer (some ⟨g, 1, none⟩), .pointer (some ⟨g, 2, none⟩), .pointer (some ⟨g, 3, none⟩)] 68)) g 37 #[.int .i64 k, .int .i64 0, .int .i64 0, .int .i64 0]) := HB5.out.alloc _
    have X5 : Hid (Ext w2 (W.alloc (.cells #[.pointer (some ⟨g, 1, none⟩), .pointer (some ⟨g, 2, none⟩), .pointer (some ⟨g, 3, none⟩)] 68))) := HX4.out.alloc _
    have FG : Hid (W.heap.size ≠ g) := Nat.ne_of_gt HB5.out.lt
    clear HB5 HX4
    generalize W.alloc (.cells #[.pointer (some ⟨g, 1, none⟩), .pointer (some ⟨g, 2, none⟩), .pointer (some ⟨g, 3, none⟩)] 68) = V at *
    generalize W.heap.size = f at *
    go_wp2
    go_loopw [33] (fun iv wr => ∃ (q : Nat) (a b' c : Int), iv = .int .i64 q ∧ q ≤ 3 ∧ Hid (RG y1 y2 y3 q a b' c) ∧ Hid (Blk wr g 37 #[.int .i64 k, .int .i64 a, .int .i64 b', .int .i64 c]) ∧ Hid (Blk wr f 68 #[.pointer (some ⟨g, 1, none⟩), .pointer (some ⟨g, 2, none⟩), .pointer (some ⟨g, 3, none⟩)]) ∧ Hid (Ext w2 wr)) (fun i _ => 3 - (intOf i).toNat)
    case atStart => exact ⟨0, 0, 0, 0, rfl, Nat.zero_le _, rg0 _ _ _, B5, F5, X5⟩
    case round =>
      obtain ⟨q, a, b', c, rfl, hq, RR, BB, FF, XX⟩ := hrel
      clear B5 F5 X5
      rcases (by omega : q = 0 ∨ q = 1 ∨ q = 2 ∨ q = 3) with rfl | rfl | rfl | rfl
      · have q1 : wr.cell? ⟨b, 1, none⟩ = some (.string y1) := Q1.out _ XX.out (by omega)
        go_wp2_with fail
        refine (impl_ParseNumber_any y1 HZ1.out _ (HPW.out.ext (HX2.out.trans XX.out))).mono ?_
        rintro e v ⟨⟨n, ok, rfl, hp⟩, hy⟩
        have HP := Lib.hid hp
        have HY := Lib.hid hy
        clear hp hy q1
        cases ok
        · have HN : Hid (∀ h : Gt, vg h 4 = true → s = gtx h → (⟨0, 0, 0, 0⟩ : Gt) = h) := by
            intro h hv he
            have := (word_ok hv (HW.out h hv he).1 HKJ.out (n := n) (ok := false)).1 (by have := EJ.out; omega) HP.out
            cases this
          obtain ⟨⟨a0, a1, a2, a3⟩, z0, z1, z2, z3⟩ := cells4 (HB2.out.ext (XX.out.trans HY.out))
          go_wp2
          exact bodyPost_ret (v := .tuple #[(⟨0, 0, 0, 0⟩ : Gt).val, .bool false]) (ret_pair rfl _ _ _ _ _ _ _ rfl rfl ((HB2.out.ext (XX.out.trans HY.out)).put4 (.int .i64 0) (.int .i64 0) (.int .i64 0) (.int .i64 0)) Tryz.underlying37 rfl Tryz.sizeGateR) rfl ⟨gateRes _ _ rfl HN.out, ext_put4 (HX2.out.trans (XX.out.trans HY.out)) (Nat.le_refl _) _ _ _ _⟩
        · have c0 : v.cell? ⟨f, 0, none⟩ = some (.pointer (some ⟨g, 1, none⟩)) := (FF.out.ext HY.out).cell 0
          have c1 : v.cell? ⟨g, 1, none⟩ = some (.int .i64 a) := (BB.out.ext HY.out).cell 1
          have c2 : v.frozen? ⟨g, 1, none⟩ = false := (BB.out.ext HY.out).frozen 1
          go_wp2
          go_roundw
          case rel => exact ⟨1, n, b', c, rfl, by omega, rg1 RR.out HP.out, (BB.out.ext HY.out).set_ 1 _, (FF.out.ext HY.out).far (p := ⟨g, 1, none⟩) FG.out _, (XX.out.trans HY.out).setCell (p := ⟨g, 1, none⟩) HG.out _⟩
          case measure => simp [intOf]
      · have q1 : wr.cell? ⟨b, 2, none⟩ = some (.string y2) := Q2.out _ XX.out (by omega)
        go_wp2_with fail
        refine (impl_ParseNumber_any y2 HZ2.out _ (HPW.out.ext (HX2.out.trans XX.out))).mono ?_
        rintro e v ⟨⟨n, ok, rfl, hp⟩, hy⟩
        have HP := Lib.hid hp
        have HY := Lib.hid hy
        clear hp hy q1
        cases ok
        · have HN : Hid (∀ h : Gt, vg h 4 = true → s = gtx h → (⟨0, 0, 0, 0⟩ : Gt) = h) := by
            intro h hv he
            have := (word_ok hv (HW.out h hv he).1 HKJ.out (n := n) (ok := false)).2.1 (by have := EJ.out; omega) HP.out
            cases this
          obtain ⟨⟨a0, a1, a2, a3⟩, z0, z1, z2, z3⟩ := cells4 (HB2.out.ext (XX.out.trans HY.out))
          go_wp2
          exact bodyPost_ret (v := .tuple #[(⟨0, 0, 0, 0⟩ : Gt).val, .bool false]) (ret_pair rfl _ _ _ _ _ _ _ rfl rfl ((HB2.out.ext (XX.out.trans HY.out)).put4 (.int .i64 0) (.int .i64 0) (.int .i64 0) (.int .i64 0)) Tryz.underlying37 rfl Tryz.sizeGateR) rfl ⟨gateRes _ _ rfl HN.out, ext_put4 (HX2.out.trans (XX.out.trans HY.out)) (Nat.le_refl _) _ _ _ _⟩
        · have c0 : v.cell? ⟨f, 1, none⟩ = some (.pointer (some ⟨g, 2, none⟩)) := (FF.out.ext HY.out).cell 1
          have c1 : v.cell? ⟨g, 2, none⟩ = some (.int .i64 b') := (BB.out.ext HY.out).cell 2
          have c2 : v.frozen? ⟨g, 2, none⟩ = false := (BB.out.ext HY.out).frozen 2
          go_wp2
          go_roundw
          case rel => exact ⟨2, a, n, c, rfl, by omega, rg2 RR.out HP.out, (BB.out.ext HY.out).set_ 2 _, (FF.out.ext HY.out).far (p := ⟨g, 2, none⟩) FG.out _, (XX.out.trans HY.out).setCell (p := ⟨g, 2, none⟩) HG.out _⟩
          case measure => simp [intOf]
      · have q1 : wr.cell? ⟨b, 3, none⟩ = some (.string y3) := Q3.out _ XX.out (by omega)
        go_wp2_with fail
        refine (impl_ParseNumber_any y3 HZ3.out _ (HPW.out.ext (HX2.out.trans XX.out))).mono ?_
        rintro e v ⟨⟨n, ok, rfl, hp⟩, hy⟩
        have HP := Lib.hid hp
        have HY := Lib.hid hy
        clear hp hy q1
        cases ok
        · have HN : Hid (∀ h : Gt, vg h 4 = true → s = gtx h → (⟨0, 0, 0, 0⟩ : Gt) = h) := by
            intro h hv he
            have := (word_ok hv (HW.out h hv he).1 HKJ.out (n := n) (ok := false)).2.2 (by have := EJ.out; omega) HP.out
            cases this
          obtain ⟨⟨a0, a1, a2, a3⟩, z0, z1, z2, z3⟩ := cells4 (HB2.out.ext (XX.out.trans HY.out))
          go_wp2
          exact bodyPost_ret (v := .tuple #[(⟨0, 0, 0, 0⟩ : Gt).val, .bool false]) (ret_pair rfl _ _ _ _ _ _ _ rfl rfl ((HB2.out.ext (XX.out.trans HY.out)).put4 (.int .i64 0) (.int .i64 0) (.int .i64 0) (.int .i64 0)) Tryz.underlying37 rfl Tryz.sizeGateR) rfl ⟨gateRes _ _ rfl HN.out, ext_put4 (HX2.out.trans (XX.out.trans HY.out)) (Nat.le_refl _) _ _ _ _⟩
        · have c0 : v.cell? ⟨f, 2, none⟩ = some (.pointer (some ⟨g, 3, none⟩)) := (FF.out.ext HY.out).cell 2
          have c1 : v.cell? ⟨g, 3, none⟩ = some (.int .i64 c) := (BB.out.ext HY.out).cell 3
          have c2 : v.frozen? ⟨g, 3, none⟩ = false := (BB.out.ext HY.out).frozen 3
          go_wp2
          go_roundw
          case rel => exact ⟨3, a, b', n, rfl, by omega, rg3 RR.out HP.out, (BB.out.ext HY.out).set_ 3 _, (FF.out.ext HY.out).far (p := ⟨g, 3, none⟩) FG.out _, (XX.out.trans HY.out).setCell (p := ⟨g, 3, none⟩) HG.out _⟩
          case measure => simp [intOf]
      · have HS : Hid (∀ h : Gt, vg h 4 = true → s = gtx h → (⟨k, a, b', c⟩ : Gt) = h) := by
          intro h hv he
          have hj := EJ.out
          obtain ⟨t1, t2, t3, t4, t5, t6⟩ := RR.out
          exact gate_same hv (HW.out h hv he).1 HKJ.out (fun q => t1 (by omega)) (fun q => t2 (by omega)) (fun q => t3 (by omega)) (fun q => t4 (by omega)) (fun q => t5 (by omega)) (fun q => t6 (by omega))
        have d0 : wr.cell? ⟨g, 0, none⟩ = some (.int .i64 k) := BB.out.cell 0
        have d1 : wr.cell? ⟨g, 1, none⟩ = some (.int .i64 a) := BB.out.cell 1
        have d2 : wr.cell? ⟨g, 2, none⟩ = some (.int .i64 b') := BB.out.cell 2
        have d3 : wr.cell? ⟨g, 3, none⟩ = some (.int .i64 c) := BB.out.cell 3
        go_wp2_with fail
        refine (impl_IsValidGate_any ⟨k, a, b', c⟩ 4 _).mono ?_
        rintro e v ⟨rfl, hy⟩
        have HY := Lib.hid hy
        clear hy d0 d1 d2 d3
        obtain ⟨vv, hvv⟩ : ∃ vv, vg ⟨k, a, b', c⟩ 4 = vv := ⟨_, rfl⟩
        rw [hvv]
        cases vv
        · have HN : Hid (∀ h : Gt, vg h 4 = true → s = gtx h → (⟨0, 0, 0, 0⟩ : Gt) = h) := by
            intro h hv he
            have h1 := HS.out h hv he
            rw [h1, hv] at hvv
            cases hvv
          clear hvv
          obtain ⟨⟨a0, a1, a2, a3⟩, z0, z1, z2, z3⟩ := cells4 (HB2.out.ext (XX.out.trans HY.out))
          go_wp2
          exact bodyPost_ret (v := .tuple #[(⟨0, 0, 0, 0⟩ : Gt).val, .bool false]) (ret_pair rfl _ _ _ _ _ _ _ rfl rfl ((HB2.out.ext (XX.out.trans HY.out)).put4 (.int .i64 0) (.int .i64 0) (.int .i64 0) (.int .i64 0)) Tryz.underlying37 rfl Tryz.sizeGateR) rfl ⟨gateRes _ _ rfl HN.out, ext_put4 (HX2.out.trans (XX.out.trans HY.out)) (Nat.le_refl _) _ _ _ _⟩
        · clear hvv
          have d0 : v.cell? ⟨g, 0, none⟩ = some (.int .i64 k) := (BB.out.ext HY.out).cell 0
          have d1 : v.cell? ⟨g, 1, none⟩ = some (.int .i64 a) := (BB.out.ext HY.out).cell 1
          have d2 : v.cell? ⟨g, 2, none⟩ = some (.int .i64 b') := (BB.out.ext HY.out).cell 2
          have d3 : v.cell? ⟨g, 3, none⟩ = some (.int .i64 c) := (BB.out.ext HY.out).cell 3
          go_wp2_with fail
          have HCG : Hid (∀ w', Ext w2 w' → Calls Tryz.prog 52 #[.agg #[.int .i64 k, .int .i64 a, .int .i64 b', .int .i64 c]] w' fun e w'' => e = .returned (.string (gtx ⟨k, a, b', c⟩)) ∧ Ext w' w'') := fun w' hx => impl_FormatGate_any ⟨k, a, b', c⟩ w' (HPW.out.ext (HX2.out.trans hx)).gn
          refine (HCG.out _ (XX.out.trans HY.out)).mono ?_
          rintro e v9 ⟨rfl, hy9⟩
          have HY9 := Lib.hid hy9
          clear hy9 d0 d1 d2 d3 HCG
          obtain ⟨⟨a0, a1, a2, a3⟩, z0, z1, z2, z3⟩ := cells4 (HB2.out.ext ((XX.out.trans HY.out).trans HY9.out))
          obtain ⟨gs, hgs⟩ : ∃ gs, gtx ⟨k, a, b', c⟩ = gs := ⟨_, rfl⟩
          rw [hgs]
          have HGS := Lib.hid hgs
          clear hgs
          obtain ⟨qq, hqq⟩ : ∃ qq, (ByteArray.toList gs == ByteArray.toList s) = qq := ⟨_, rfl⟩
          cases qq
          · have HN : Hid (∀ h : Gt, vg h 4 = true → s = gtx h → (⟨0, 0, 0, 0⟩ : Gt) = h) := by
              intro h hv he
              have h1 := HS.out h hv he
              rw [← HGS.out, h1, ← he, str_beq_self] at hqq
              cases hqq
            go_wp2
            exact bodyPost_ret (v := .tuple #[(⟨0, 0, 0, 0⟩ : Gt).val, .bool false]) (ret_pair rfl _ _ _ _ _ _ _ rfl rfl ((HB2.out.ext ((XX.out.trans HY.out).trans HY9.out)).put4 (.int .i64 0) (.int .i64 0) (.int .i64 0) (.int .i64 0)) Tryz.underlying37 rfl Tryz.sizeGateR) rfl ⟨gateRes _ _ rfl HN.out, ext_put4 (HX2.out.trans ((XX.out.trans HY.out).trans HY9.out)) (Nat.le_refl _) _ _ _ _⟩
          · have d0 : v9.cell? ⟨g, 0, none⟩ = some (.int .i64 k) := ((BB.out.ext HY.out).ext HY9.out).cell 0
            have d1 : v9.cell? ⟨g, 1, none⟩ = some (.int .i64 a) := ((BB.out.ext HY.out).ext HY9.out).cell 1
            have d2 : v9.cell? ⟨g, 2, none⟩ = some (.int .i64 b') := ((BB.out.ext HY.out).ext HY9.out).cell 2
            have d3 : v9.cell? ⟨g, 3, none⟩ = some (.int .i64 c) := ((BB.out.ext HY.out).ext HY9.out).cell 3
            go_wp2
            exact bodyPost_ret (v := .tuple #[(⟨k, a, b', c⟩ : Gt).val, .bool true]) (ret_pair rfl _ _ _ _ _ _ _ rfl rfl ((HB2.out.ext ((XX.out.trans HY.out).trans HY9.out)).put4 (.int .i64 k) (.int .i64 a) (.int .i64 b') (.int .i64 c)) Tryz.underlying37 rfl Tryz.sizeGateR) rfl ⟨gateRes _ _ rfl HS.out, ext_put4 (HX2.out.trans ((XX.out.trans HY.out).trans HY9.out)) (Nat.le_refl _) _ _ _ _⟩
end Go.Proofs.YteecjnnompjmiacGreatDoor
