/-
  Helper text (no claim of its own): a gate on a state, by the reference. Printed by gen_am.py or gen_an.py.
-/
import Derived.Test.YtofbmkpfliofeabAsn
import Derived.Test.YtofbmkpfliofeabAse
namespace Go.Proofs.Ytofbmkpfliofeab
open Go.ChangeShapes Go.WideShapes Go.ChangeAt Go.RowKit Go.Deep
set_option linter.unusedVariables false
set_option linter.unusedSimpArgs false
/-- A state that a call returned, in a block of its own. -/
def TT (w : World) (b l : Nat) (vs : List Dw) : Prop := (∃ cs, Blk w b 83 cs) ∧ Rd w w.heap.size 5 (some ⟨b, 0, none⟩) l (scells vs)
theorem TT.ext {w w' : World} {b l : Nat} {vs : List Dw} (h : TT w b l vs) (hx : Ext w w') : TT w' b l vs := by
  obtain ⟨⟨cs, h1⟩, h2⟩ := h
  exact ⟨⟨cs, h1.ext hx⟩, h2.ext hx⟩
def TOut (l : Nat) (vs : List Dw) (v : Value) (w : World) : Prop := ∃ b c, v = .slice (some ⟨b, 0, none⟩) l c ∧ TT w b l vs
theorem SB.tout {w : World} {b : Nat} {vs : List Dw} (h : SB w b vs) (m c : Nat) (hm : vs.length = m) : TOut m vs (.slice (some ⟨b, 0, none⟩) m c) w := by
  subst hm
  refine ⟨b, c, rfl, ?_, h.rd⟩
  obtain ⟨cs, h1, -⟩ := h
  exact ⟨cs, h1⟩
/-- How a gate works on a state, step by step: the state that is built ahead of the k-th sending from place i. -/
structure Run (g : Gt) (vs : List Dw) (o : Nat → Nat → List Dw) : Prop where
  start : o 0 0 = List.replicate vs.length d0
  zero : ∀ i x, vs[i]? = some x → eqD x d0 = true → o (i + 1) 0 = o i 0
  step : ∀ i x k s, vs[i]? = some x → eqD x d0 = false → (sent g i)[k]? = some s → ∃ z y y' : Dw, (∀ w, Calls Try.prog 76 #[x.val, s.2.val] w fun e w' => e = .returned (.tuple #[z.val, .bool true]) ∧ Ext w w') ∧ s.1 < vs.length ∧ (o i k)[s.1]? = some y ∧ (∀ w, Calls Try.prog 77 #[y.val, z.val] w fun e w' => e = .returned (.tuple #[y'.val, .bool true]) ∧ Ext w w') ∧ o i (k + 1) = (o i k).set s.1 y'
  next : ∀ i x, vs[i]? = some x → eqD x d0 = false → o (i + 1) 0 = o i (sent g i).length
theorem put5at_ext {w0 w : World} (h : Ext w0 w) {b : Nat} (hb : w0.heap.size ≤ b) (i : Nat) (x : Dw) : Ext w0 (put5at w b i x) := ext_put5at h hb i x
theorem SN.ext {w w' : World} {b : Nat} {l : List (Nat × Dw)} (h : SN w b l) (hx : Ext w w') : SN w' b l := Blk.ext h hx
theorem SN.put {w : World} {b bo i : Nat} {l : List (Nat × Dw)} {x : Dw} (h : SN w b l) (hb : b ≠ bo) : SN (put5at w bo i x) b l := far_put5at h hb i x
def GB (w W : World) (g : Gt) : Prop := Blk W w.heap.size 43 #[.int .i64 g.k, .int .i64 g.a, .int .i64 g.b, .int .i64 g.c] ∧ Ext w W
theorem GB.ext {w W W' : World} {g : Gt} (h : GB w W g) (hx : Ext W W') : GB w W' g := ⟨h.1.ext hx, h.2.trans hx⟩
theorem GB.put {w W : World} {g : Gt} {b i : Nat} {x : Dw} (h : GB w W g) (hb : w.heap.size < b) : GB w (put5at W b i x) g := ⟨far_put5at h.1 (by omega) i x, ext_put5at h.2 (by omega) i x⟩
theorem made_zero {n : Nat} (h1 : 1 ≤ n) (h4 : n ≤ 4) : ∃ cs : Array Value, (∀ w : World, (Instr.makeSlice 55 (.int .i64 ((2 ^ n : Nat) : Int)) (.int .i64 ((2 ^ n : Nat) : Int))).run Try.prog w = .ok (.slice (some ⟨w.heap.size, 0, none⟩) (2 ^ n) (2 ^ n)) (w.alloc (.cells cs 83))) ∧ cs.toList = scells (List.replicate (2 ^ n) d0) := by
  rcases (show n = 1 ∨ n = 2 ∨ n = 3 ∨ n = 4 by omega) with rfl | rfl | rfl | rfl
  · exact ⟨#[.int .i64 0, .int .i64 0, .int .i64 0, .int .i64 0, .int .i64 0, .int .i64 0, .int .i64 0, .int .i64 0, .int .i64 0, .int .i64 0], fun _ => by kernel_rfl, rfl⟩
  · exact ⟨#[.int .i64 0, .int .i64 0, .int .i64 0, .int .i64 0, .int .i64 0, .int .i64 0, .int .i64 0, .int .i64 0, .int .i64 0, .int .i64 0, .int .i64 0, .int .i64 0, .int .i64 0, .int .i64 0, .int .i64 0, .int .i64 0, .int .i64 0, .int .i64 0, .int .i64 0, .int .i64 0], fun _ => by kernel_rfl, rfl⟩
  · exact ⟨#[.int .i64 0, .int .i64 0, .int .i64 0, .int .i64 0, .int .i64 0, .int .i64 0, .int .i64 0, .int .i64 0, .int .i64 0, .int .i64 0, .int .i64 0, .int .i64 0, .int .i64 0, .int .i64 0, .int .i64 0, .int .i64 0, .int .i64 0, .int .i64 0, .int .i64 0, .int .i64 0, .int .i64 0, .int .i64 0, .int .i64 0, .int .i64 0, .int .i64 0, .int .i64 0, .int .i64 0, .int .i64 0, .int .i64 0, .int .i64 0, .int .i64 0, .int .i64 0, .int .i64 0, .int .i64 0, .int .i64 0, .int .i64 0, .int .i64 0, .int .i64 0, .int .i64 0, .int .i64 0], fun _ => by kernel_rfl, rfl⟩
  · exact ⟨#[.int .i64 0, .int .i64 0, .int .i64 0, .int .i64 0, .int .i64 0, .int .i64 0, .int .i64 0, .int .i64 0, .int .i64 0, .int .i64 0, .int .i64 0, .int .i64 0, .int .i64 0, .int .i64 0, .int .i64 0, .int .i64 0, .int .i64 0, .int .i64 0, .int .i64 0, .int .i64 0, .int .i64 0, .int .i64 0, .int .i64 0, .int .i64 0, .int .i64 0, .int .i64 0, .int .i64 0, .int .i64 0, .int .i64 0, .int .i64 0, .int .i64 0, .int .i64 0, .int .i64 0, .int .i64 0, .int .i64 0, .int .i64 0, .int .i64 0, .int .i64 0, .int .i64 0, .int .i64 0, .int .i64 0, .int .i64 0, .int .i64 0, .int .i64 0, .int .i64 0, .int .i64 0, .int .i64 0, .int .i64 0, .int .i64 0, .int .i64 0, .int .i64 0, .int .i64 0, .int .i64 0, .int .i64 0, .int .i64 0, .int .i64 0, .int .i64 0, .int .i64 0, .int .i64 0, .int .i64 0, .int .i64 0, .int .i64 0, .int .i64 0, .int .i64 0, .int .i64 0, .int .i64 0, .int .i64 0, .int .i64 0, .int .i64 0, .int .i64 0, .int .i64 0, .int .i64 0, .int .i64 0, .int .i64 0, .int .i64 0, .int .i64 0, .int .i64 0, .int .i64 0, .int .i64 0, .int .i64 0], fun _ => by kernel_rfl, rfl⟩
set_option maxRecDepth 100000 in
set_option maxHeartbeats 8000000 in
theorem ApplyGate_run {n : Nat} (h1 : 1 ≤ n) (h4 : n ≤ 4) (g : Gt) (hg : vg g n = true) (A : Option Addr) (c : Nat) (vs : List Dw) (w : World) (h : Rd w w.heap.size 5 A vs.length (scells vs)) (hl : vs.length = 2 ^ n) (hd : ∀ x ∈ vs, dok x = true) (o : Nat → Nat → List Dw) (hr : Run g vs o) (hol : ∀ i k, (o i k).length = vs.length) :
    Calls Try.prog 54 #[g.val, .slice A vs.length c] w fun e w' => (∃ v, e = .returned (.tuple #[v, .bool true]) ∧ TOut vs.length (o vs.length 0) v w') ∧ Ext w w' := by
  have HV : Hid (∀ w', Ext w w' → Calls Try.prog 52 #[.slice A vs.length c] w' fun e w'' => e = .returned (.bool true) ∧ Ext w' w'') := fun w' hx => IsValidState_yes h1 h4 A c vs w' (h.ext hx) hl hd
  have HQC : Hid (∀ w', Calls Try.prog 74 #[.slice A vs.length c] w' fun e w'' => e = .returned (.int .i64 n) ∧ w' = w'') := fun w' => by rw [hl]; exact QubitCount_any h1 h4 A c w'
  have HVG : Hid (∀ w', Calls Try.prog 48 #[g.val, .int .i64 n] w' fun e w'' => e = .returned (.bool true) ∧ Ext w' w'') := fun w' => by
    have := spec_IsValidGate_any g n w'
    rw [hg] at this
    exact this
  obtain ⟨cs0, hmk, hcs0⟩ := made_zero h1 h4
  have hl16 : vs.length ≤ 16 := by rw [hl]; rcases (show n = 1 ∨ n = 2 ∨ n = 3 ∨ n = 4 by omega) with rfl | rfl | rfl | rfl <;> decide
  have HGO : Hid (∀ (i : Nat) (w' : World), i < 16 → Calls Try.prog 75 #[g.val, .int .i64 i] w' fun e w'' => NOut (sent g i) e w'' ∧ Ext w' w'') := fun i w' hi => Goes_any hg i hi w'
  have HRUN := Lib.hid hr
  have HST := Lib.hid hr.start
  have HOLL := Lib.hid hol
  rw [← hl] at hmk hcs0
  obtain ⟨l, hgl⟩ : ∃ l, vs.length = l := ⟨_, rfl⟩
  have HLEN := Lib.hid hgl
  unfold Hid at HST
  rw [hgl] at h HV HQC hl16 hmk hcs0 HST ⊢
  replace HST := Lib.hid HST
  have HOL : Hid (∀ i k, (o i k).length = l) := fun i k => (HOLL.out i k).trans hgl
  clear hl hd hgl h1 h4 hg hr hol HOLL
  go_enter Try.func54, Try.ntmps54
  go_upto_region 1 with (fail)
  have HGB : Hid (GB w (w.alloc (.cells #[.int .i64 g.k, .int .i64 g.a, .int .i64 g.b, .int .i64 g.c] 43)) g) := ⟨Blk.new _ _ _, (by repeat (first | exact Ext.refl _ | assumption | refine Ext.alloc ?_ _ | refine Ext.drewN ?_ _ | refine Ext.drew ?_))⟩
  have hs0 : (w.alloc (.cells #[.int .i64 g.k, .int .i64 g.a, .int .i64 g.b, .int .i64 g.c] 43)).heap.size = w.heap.size + 1 := by simp
  generalize w.alloc (.cells #[.int .i64 g.k, .int .i64 g.a, .int .i64 g.b, .int .i64 g.c] 43) = w0 at *
  have HK : Hid (∀ w', Ext w0 w' → (w'.cell? ⟨w.heap.size, 0, none⟩ = some (.int .i64 g.k) ∧ w'.cell? ⟨w.heap.size, 1, none⟩ = some (.int .i64 g.a) ∧ w'.cell? ⟨w.heap.size, 2, none⟩ = some (.int .i64 g.b) ∧ w'.cell? ⟨w.heap.size, 3, none⟩ = some (.int .i64 g.c))) := fun w' hx => (cells4 (HGB.out.1.ext hx)).1
  refine wp_region_held_drew (S := fun w' => (w'.cell? ⟨w.heap.size, 0, none⟩ = some (.int .i64 g.k) ∧ w'.cell? ⟨w.heap.size, 1, none⟩ = some (.int .i64 g.a) ∧ w'.cell? ⟨w.heap.size, 2, none⟩ = some (.int .i64 g.b) ∧ w'.cell? ⟨w.heap.size, 3, none⟩ = some (.int .i64 g.c))) (by kernel_rfl) (HK.out _ (Ext.refl w0).drew) (fun hHeld => ?_)
  (refine wpAnyH_take (i := 0) (v := ?_) rfl (by kernel_rfl) (by kernel_rfl) (by kernel_rfl) (fun _ _ _ h => h) (Or.inl ⟨by rfl, ?_⟩) (by assumption) ?_; rotate_left; · (intro w hSw; (try dsimp only at hSw); go_simp; all_goals with_reducible rfl); (try simp only [Act.put, List.getElem_toArray, List.getElem_cons_zero, List.getElem_cons_succ, List.setIfInBounds_toArray, List.set_cons_zero, List.set_cons_succ]))
  (try simp only [Act.put, List.getElem_toArray, List.getElem_cons_zero, List.getElem_cons_succ, List.setIfInBounds_toArray, List.set_cons_zero, List.set_cons_succ])
  refine wpAnyH_ready (rs := [1]) (by kernel_rfl) (by simp) ?_
  refine AllReadyH.cons rfl (fun K hK => ?_) AllReadyH.nil
  go_simp
  refine (HV.out _ (HGB.out.2.trans (Ext.refl w0).drew)).mono ?_
  rintro e v1 ⟨rfl, hy1⟩
  have HY1 : Hid (Ext w0 v1) := Ext.trans (Ext.refl w0).drew hy1
  clear hy1
  refine hK.out _ _ (HK.out _ HY1.out) (fun hHeld => ?_)
  clear hK K
  (try simp only [Act.put, List.getElem_toArray, List.getElem_cons_zero, List.getElem_cons_succ, List.setIfInBounds_toArray, List.set_cons_zero, List.set_cons_succ])
  (refine wpAnyH_take (i := 2) (v := ?_) rfl (by kernel_rfl) (by kernel_rfl) (by kernel_rfl) (fun _ _ _ h => h) (Or.inl ⟨by rfl, ?_⟩) (by assumption) ?_; rotate_left; · (intro w hSw; (try dsimp only at hSw); go_simp; all_goals with_reducible rfl); (try simp only [Act.put, List.getElem_toArray, List.getElem_cons_zero, List.getElem_cons_succ, List.setIfInBounds_toArray, List.set_cons_zero, List.set_cons_succ]))
  (try simp only [Act.put, List.getElem_toArray, List.getElem_cons_zero, List.getElem_cons_succ, List.setIfInBounds_toArray, List.set_cons_zero, List.set_cons_succ])
  (refine wpAnyH_take (i := 3) (v := ?_) rfl (by kernel_rfl) (by kernel_rfl) (by kernel_rfl) (fun _ _ _ h => h) (Or.inl ⟨by rfl, ?_⟩) (by assumption) ?_; rotate_left; · (intro w hSw; (try dsimp only at hSw); go_simp; all_goals with_reducible rfl); (try simp only [Act.put, List.getElem_toArray, List.getElem_cons_zero, List.getElem_cons_succ, List.setIfInBounds_toArray, List.set_cons_zero, List.set_cons_succ]))
  (try simp only [Act.put, List.getElem_toArray, List.getElem_cons_zero, List.getElem_cons_succ, List.setIfInBounds_toArray, List.set_cons_zero, List.set_cons_succ])
  (refine wpAnyH_take (i := 4) (v := ?_) rfl (by kernel_rfl) (by kernel_rfl) (by kernel_rfl) (fun _ _ _ h => h) (Or.inl ⟨by rfl, ?_⟩) (by assumption) ?_; rotate_left; · (intro w hSw; (try dsimp only at hSw); go_simp; all_goals with_reducible rfl); (try simp only [Act.put, List.getElem_toArray, List.getElem_cons_zero, List.getElem_cons_succ, List.setIfInBounds_toArray, List.set_cons_zero, List.set_cons_succ]))
  (try simp only [Act.put, List.getElem_toArray, List.getElem_cons_zero, List.getElem_cons_succ, List.setIfInBounds_toArray, List.set_cons_zero, List.set_cons_succ])
  (refine wpAnyH_take (i := 5) (v := ?_) rfl (by kernel_rfl) (by kernel_rfl) (by kernel_rfl) (fun _ _ _ h => h) (Or.inl ⟨by rfl, ?_⟩) (by assumption) ?_; rotate_left; · (intro w hSw; (try dsimp only at hSw); go_simp; all_goals with_reducible rfl); (try simp only [Act.put, List.getElem_toArray, List.getElem_cons_zero, List.getElem_cons_succ, List.setIfInBounds_toArray, List.set_cons_zero, List.set_cons_succ]))
  (try simp only [Act.put, List.getElem_toArray, List.getElem_cons_zero, List.getElem_cons_succ, List.setIfInBounds_toArray, List.set_cons_zero, List.set_cons_succ])
  refine wpAnyH_ready (rs := [6]) (by kernel_rfl) (by simp) ?_
  refine AllReadyH.cons rfl (fun K hK => ?_) AllReadyH.nil
  go_simp
  refine (HQC.out _).mono ?_
  rintro e v2 ⟨rfl, rfl⟩
  refine hK.out _ _ (HK.out _ HY1.out) (fun hHeld => ?_)
  clear hK K
  (try simp only [Act.put, List.getElem_toArray, List.getElem_cons_zero, List.getElem_cons_succ, List.setIfInBounds_toArray, List.set_cons_zero, List.set_cons_succ])
  refine wpAnyH_ready (rs := [7]) (by kernel_rfl) (by simp) ?_
  refine AllReadyH.cons rfl (fun K hK => ?_) AllReadyH.nil
  go_simp
  refine (HVG.out _).mono ?_
  rintro e v2 ⟨rfl, hy2⟩
  have HY2 : Hid (Ext w0 v2) := HY1.out.trans hy2
  clear hy2
  refine hK.out _ _ (HK.out _ HY2.out) (fun hHeld => ?_)
  clear hK K
  (try simp only [Act.put, List.getElem_toArray, List.getElem_cons_zero, List.getElem_cons_succ, List.setIfInBounds_toArray, List.set_cons_zero, List.set_cons_succ])
  (refine wpAnyH_take (i := 8) (v := ?_) rfl (by kernel_rfl) (by kernel_rfl) (by kernel_rfl) (fun _ _ _ h => h) (Or.inl ⟨by rfl, ?_⟩) (by assumption) ?_; rotate_left; · (intro w hSw; (try dsimp only at hSw); go_simp; all_goals with_reducible rfl); (try simp only [Act.put, List.getElem_toArray, List.getElem_cons_zero, List.getElem_cons_succ, List.setIfInBounds_toArray, List.set_cons_zero, List.set_cons_succ]))
  (try simp only [Act.put, List.getElem_toArray, List.getElem_cons_zero, List.getElem_cons_succ, List.setIfInBounds_toArray, List.set_cons_zero, List.set_cons_succ])
  (refine wpAnyH_take (i := 9) (v := ?_) rfl (by kernel_rfl) (by kernel_rfl) (by kernel_rfl) (fun _ _ _ h => h) (Or.inl ⟨by rfl, ?_⟩) (by assumption) ?_; rotate_left; · (intro w hSw; (try dsimp only at hSw); go_simp; all_goals with_reducible rfl); (try simp only [Act.put, List.getElem_toArray, List.getElem_cons_zero, List.getElem_cons_succ, List.setIfInBounds_toArray, List.set_cons_zero, List.set_cons_succ]))
  (refine wpAnyH_done (by kernel_rfl) ?_ _)
  clear hHeld

  have HGB2 := Lib.hid (HGB.out.ext HY2.out)
  have hs2 : w.heap.size < v2.heap.size := by have := HY2.out.size; omega
  clear HK HY1 HY2 HGB hs0
  go_upto_region 4 with (fail)
  have HSB : Hid (SB (v2.alloc (.cells cs0 83)) v2.heap.size (o 0 0)) := by unfold Hid; rw [HST.out]; exact ⟨cs0, Blk.new _ _ _, hcs0⟩
  have HGB3 : Hid (GB w (v2.alloc (.cells cs0 83)) g) := HGB2.out.ext ((Ext.refl _).alloc _)
  have HBO : Hid (w.heap.size < v2.heap.size) := hs2
  clear hs2 hmk hcs0 HGB2
  generalize v2.alloc (.cells cs0 83) = w3 at *
  generalize v2.heap.size = bo at *
  go_wp2
  go_loopw [7] (fun iv wr => ∃ i : Nat, iv = .int .i64 i ∧ i ≤ l ∧ Hid (SB wr bo (o i 0)) ∧ Hid (GB w wr g)) (fun i _ => l - (intOf i).toNat)
  case atStart => exact ⟨0, rfl, Nat.zero_le _, HSB, HGB3⟩
  case round =>
    obtain ⟨i, rfl, hi, HSBi, HGBi⟩ := hrel
    clear HSB HGB3
    by_cases hlt : i < l
    · have HIT : Hid (i < l ∧ l ≤ 16) := ⟨hlt, hl16⟩
      have hi1 : IntKind.i64.wrap ((i : Int) + 1) = ((i + 1 : Nat) : Int) := by rw [IntWalk.i64_in _ (by omega)]; rfl
      have hi2 : wrap64 ((i : Int) + 1) = ((i + 1 : Nat) : Int) := by unfold wrap64; omega
      obtain ⟨b, oo, x, rfl, hb, hx, x0, x1, x2, x3, x4⟩ := dw_at (h.up HGBi.out.2 (Nat.le_refl _)) hlt
      have HX0 := Lib.hid hx
      clear hx hb
      have HE := Try.eqgDOmega
      cases hz : eqD x d0 with
      | true =>
        have HN := (show ∀ w, (Op.equalIn 10000 83 x.val (.agg #[.int .i64 0, .int .i64 0, .int .i64 0, .int .i64 0, .int .i64 0])).run Try.prog w = .ok true w from fun w => by rw [show (Value.agg #[.int .i64 0, .int .i64 0, .int .i64 0, .int .i64 0, .int .i64 0]) = d0.val from rfl, eqIn_dw, hz])
        have HNX : Hid (o (i + 1) 0 = o i 0) := HRUN.out.zero i x HX0.out hz
        clear hz
        go_wp2
        go_roundw
        case rel => exact ⟨i + 1, by first | rfl | rw [hi1] | rw [hi2], by have := HIT.out; omega, by rw [HNX.out]; exact HSBi, HGBi⟩
        case measure => simp [intOf, hi2]; have := HIT.out; omega
      | false =>
        have HN := (show ∀ w, (Op.equalIn 10000 83 x.val (.agg #[.int .i64 0, .int .i64 0, .int .i64 0, .int .i64 0, .int .i64 0])).run Try.prog w = .ok false w from fun w => by rw [show (Value.agg #[.int .i64 0, .int .i64 0, .int .i64 0, .int .i64 0, .int .i64 0]) = d0.val from rfl, eqIn_dw, hz])
        have HNEXT : Hid (o (i + 1) 0 = o i (sent g i).length) := HRUN.out.next i x HX0.out hz
        have HSTEP : Hid (∀ k s, (sent g i)[k]? = some s → _) := fun k s hs => HRUN.out.step i x k s HX0.out hz hs
        clear hz
        go_upto_region 8 with (fail)
        clear x0 x1 x2 x3 x4 HN HE
        obtain ⟨⟨g0, g1, g2, g3⟩, -⟩ := cells4 HGBi.out.1
        go_wp2_with fail
        refine (HGO.out i _ (by omega)).mono ?_
        rintro e w4 ⟨⟨b1, rfl, hn4⟩, hx4⟩
        have HSN4 : Hid (SN w4 b1 (sent g i)) := hn4
        have HSB4 := Lib.hid (HSBi.out.ext hx4)
        have HGB4 := Lib.hid (HGBi.out.ext hx4)
        clear hn4 hx4 HSBi HGBi g0 g1 g2 g3
        obtain ⟨m, hm⟩ : ∃ m, (sent g i).length = m := ⟨_, rfl⟩
        have HM : Hid ((sent g i).length = m ∧ m ≤ 2) := ⟨hm, by rw [← hm]; exact sent_len g i⟩
        rw [hm]
        clear hm
        go_wp2
        go_loopw [9] (fun kv wr => ∃ k : Nat, kv = .int .i64 k ∧ k ≤ m ∧ Hid (SB wr bo (o i k)) ∧ Hid (SN wr b1 (sent g i)) ∧ Hid (GB w wr g)) (fun i _ => m - (intOf i).toNat)
        case atStart => exact ⟨0, rfl, Nat.zero_le _, HSB4, HSN4, HGB4⟩
        case round =>
          obtain ⟨k, rfl, hk, HSO0, HSN0, HGB0⟩ := hrel
          clear HSB4 HSN4 HGB4
          by_cases hkt : k < m
          · have HKT : Hid (k < m ∧ m ≤ 2) := ⟨hkt, HM.out.2⟩
            have hj1 : IntKind.i64.wrap ((k : Int) + 1) = ((k + 1 : Nat) : Int) := by rw [IntWalk.i64_in _ (by have := HM.out.2; omega)]; rfl
            have hj2 : wrap64 ((k : Int) + 1) = ((k + 1 : Nat) : Int) := by have := HM.out.2; unfold wrap64; omega
            obtain ⟨s, hs⟩ : ∃ s, (sent g i)[k]? = some s := ⟨_, List.getElem?_eq_getElem (by rw [HM.out.1]; exact hkt)⟩
            have HS0 := Lib.hid hs
            obtain ⟨z, y, y', hcm, hat, hy, hca, hnx⟩ := HSTEP.out k s hs
            have HCM := Lib.hid hcm
            have HCA := Lib.hid hca
            have HAT : Hid (s.1 < l) := by have h5 := HLEN.out; rw [h5] at hat; exact hat
            have HY0 := Lib.hid hy
            have HNX := Lib.hid hnx
            clear hs hcm hca hat hy hnx
            have HK : Hid (∀ w', Ext wr w' → (w'.cell? ⟨b, oo + i * 5, none⟩ = some (.int .i64 x.n.a) ∧ w'.cell? ⟨b, oo + i * 5 + 1, none⟩ = some (.int .i64 x.n.b) ∧ w'.cell? ⟨b, oo + i * 5 + 2, none⟩ = some (.int .i64 x.n.c) ∧ w'.cell? ⟨b, oo + i * 5 + 3, none⟩ = some (.int .i64 x.n.d) ∧ w'.cell? ⟨b, oo + i * 5 + 4, none⟩ = some (.int .i64 x.e)) ∧ (w'.cell? ⟨b1, k * 6, none⟩ = some (.int .i64 s.1) ∧ w'.cell? ⟨b1, k * 6 + 1, none⟩ = some (.int .i64 s.2.n.a) ∧ w'.cell? ⟨b1, k * 6 + 2, none⟩ = some (.int .i64 s.2.n.b) ∧ w'.cell? ⟨b1, k * 6 + 3, none⟩ = some (.int .i64 s.2.n.c) ∧ w'.cell? ⟨b1, k * 6 + 4, none⟩ = some (.int .i64 s.2.n.d) ∧ w'.cell? ⟨b1, k * 6 + 5, none⟩ = some (.int .i64 s.2.e))) := fun w' hx => ⟨state_at (h.up (HGB0.out.2.trans hx) (Nat.le_refl _)) HIT.out.1 HX0.out, SN.at_ (HSN0.out.ext hx) HS0.out⟩
            go_upto_region 12 with (fail)
            refine wp_region_held_drew (S := fun w' => (w'.cell? ⟨b, oo + i * 5, none⟩ = some (.int .i64 x.n.a) ∧ w'.cell? ⟨b, oo + i * 5 + 1, none⟩ = some (.int .i64 x.n.b) ∧ w'.cell? ⟨b, oo + i * 5 + 2, none⟩ = some (.int .i64 x.n.c) ∧ w'.cell? ⟨b, oo + i * 5 + 3, none⟩ = some (.int .i64 x.n.d) ∧ w'.cell? ⟨b, oo + i * 5 + 4, none⟩ = some (.int .i64 x.e)) ∧ (w'.cell? ⟨b1, k * 6, none⟩ = some (.int .i64 s.1) ∧ w'.cell? ⟨b1, k * 6 + 1, none⟩ = some (.int .i64 s.2.n.a) ∧ w'.cell? ⟨b1, k * 6 + 2, none⟩ = some (.int .i64 s.2.n.b) ∧ w'.cell? ⟨b1, k * 6 + 3, none⟩ = some (.int .i64 s.2.n.c) ∧ w'.cell? ⟨b1, k * 6 + 4, none⟩ = some (.int .i64 s.2.n.d) ∧ w'.cell? ⟨b1, k * 6 + 5, none⟩ = some (.int .i64 s.2.e))) (by kernel_rfl) (HK.out _ (Ext.refl wr).drew) (fun hHeld => ?_)
            (refine wpAnyH_take (i := 0) (v := ?_) rfl (by kernel_rfl) (by kernel_rfl) (by kernel_rfl) (fun _ _ _ h => h) (Or.inl ⟨by rfl, ?_⟩) (by assumption) ?_; rotate_left; · (intro w hSw; (try dsimp only at hSw); go_simp; all_goals with_reducible rfl); (try simp only [Act.put, List.getElem_toArray, List.getElem_cons_zero, List.getElem_cons_succ, List.setIfInBounds_toArray, List.set_cons_zero, List.set_cons_succ]))
            (try simp only [Act.put, List.getElem_toArray, List.getElem_cons_zero, List.getElem_cons_succ, List.setIfInBounds_toArray, List.set_cons_zero, List.set_cons_succ])
            (refine wpAnyH_take (i := 1) (v := ?_) rfl (by kernel_rfl) (by kernel_rfl) (by kernel_rfl) (fun _ _ _ h => h) (Or.inl ⟨by rfl, ?_⟩) (by assumption) ?_; rotate_left; · (intro w hSw; (try dsimp only at hSw); go_simp; all_goals with_reducible rfl); (try simp only [Act.put, List.getElem_toArray, List.getElem_cons_zero, List.getElem_cons_succ, List.setIfInBounds_toArray, List.set_cons_zero, List.set_cons_succ]))
            (try simp only [Act.put, List.getElem_toArray, List.getElem_cons_zero, List.getElem_cons_succ, List.setIfInBounds_toArray, List.set_cons_zero, List.set_cons_succ])
            (refine wpAnyH_take (i := 2) (v := ?_) rfl (by kernel_rfl) (by kernel_rfl) (by kernel_rfl) (fun _ _ _ h => h) (Or.inl ⟨by rfl, ?_⟩) (by assumption) ?_; rotate_left; · (intro w hSw; (try dsimp only at hSw); go_simp; all_goals with_reducible rfl); (try simp only [Act.put, List.getElem_toArray, List.getElem_cons_zero, List.getElem_cons_succ, List.setIfInBounds_toArray, List.set_cons_zero, List.set_cons_succ]))
            (try simp only [Act.put, List.getElem_toArray, List.getElem_cons_zero, List.getElem_cons_succ, List.setIfInBounds_toArray, List.set_cons_zero, List.set_cons_succ])
            (refine wpAnyH_take (i := 3) (v := ?_) rfl (by kernel_rfl) (by kernel_rfl) (by kernel_rfl) (fun _ _ _ h => h) (Or.inl ⟨by rfl, ?_⟩) (by assumption) ?_; rotate_left; · (intro w hSw; (try dsimp only at hSw); go_simp; all_goals with_reducible rfl); (try simp only [Act.put, List.getElem_toArray, List.getElem_cons_zero, List.getElem_cons_succ, List.setIfInBounds_toArray, List.set_cons_zero, List.set_cons_succ]))
            (try simp only [Act.put, List.getElem_toArray, List.getElem_cons_zero, List.getElem_cons_succ, List.setIfInBounds_toArray, List.set_cons_zero, List.set_cons_succ])
            (refine wpAnyH_take (i := 4) (v := ?_) rfl (by kernel_rfl) (by kernel_rfl) (by kernel_rfl) (fun _ _ _ h => h) (Or.inl ⟨by rfl, ?_⟩) (by assumption) ?_; rotate_left; · (intro w hSw; (try dsimp only at hSw); go_simp; all_goals with_reducible rfl); (try simp only [Act.put, List.getElem_toArray, List.getElem_cons_zero, List.getElem_cons_succ, List.setIfInBounds_toArray, List.set_cons_zero, List.set_cons_succ]))
            (try simp only [Act.put, List.getElem_toArray, List.getElem_cons_zero, List.getElem_cons_succ, List.setIfInBounds_toArray, List.set_cons_zero, List.set_cons_succ])
            (refine wpAnyH_take (i := 5) (v := ?_) rfl (by kernel_rfl) (by kernel_rfl) (by kernel_rfl) (fun _ _ _ h => h) (Or.inl ⟨by rfl, ?_⟩) (by assumption) ?_; rotate_left; · (intro w hSw; (try dsimp only at hSw); go_simp; all_goals with_reducible rfl); (try simp only [Act.put, List.getElem_toArray, List.getElem_cons_zero, List.getElem_cons_succ, List.setIfInBounds_toArray, List.set_cons_zero, List.set_cons_succ]))
            (try simp only [Act.put, List.getElem_toArray, List.getElem_cons_zero, List.getElem_cons_succ, List.setIfInBounds_toArray, List.set_cons_zero, List.set_cons_succ])
            (refine wpAnyH_take (i := 6) (v := ?_) rfl (by kernel_rfl) (by kernel_rfl) (by kernel_rfl) (fun _ _ _ h => h) (Or.inl ⟨by rfl, ?_⟩) (by assumption) ?_; rotate_left; · (intro w hSw; (try dsimp only at hSw); go_simp; all_goals with_reducible rfl); (try simp only [Act.put, List.getElem_toArray, List.getElem_cons_zero, List.getElem_cons_succ, List.setIfInBounds_toArray, List.set_cons_zero, List.set_cons_succ]))
            (try simp only [Act.put, List.getElem_toArray, List.getElem_cons_zero, List.getElem_cons_succ, List.setIfInBounds_toArray, List.set_cons_zero, List.set_cons_succ])
            (refine wpAnyH_take (i := 7) (v := ?_) rfl (by kernel_rfl) (by kernel_rfl) (by kernel_rfl) (fun _ _ _ h => h) (Or.inl ⟨by rfl, ?_⟩) (by assumption) ?_; rotate_left; · (intro w hSw; (try dsimp only at hSw); go_simp; all_goals with_reducible rfl); (try simp only [Act.put, List.getElem_toArray, List.getElem_cons_zero, List.getElem_cons_succ, List.setIfInBounds_toArray, List.set_cons_zero, List.set_cons_succ]))
            (try simp only [Act.put, List.getElem_toArray, List.getElem_cons_zero, List.getElem_cons_succ, List.setIfInBounds_toArray, List.set_cons_zero, List.set_cons_succ])
            (refine wpAnyH_take (i := 8) (v := ?_) rfl (by kernel_rfl) (by kernel_rfl) (by kernel_rfl) (fun _ _ _ h => h) (Or.inl ⟨by rfl, ?_⟩) (by assumption) ?_; rotate_left; · (intro w hSw; (try dsimp only at hSw); go_simp; all_goals with_reducible rfl); (try simp only [Act.put, List.getElem_toArray, List.getElem_cons_zero, List.getElem_cons_succ, List.setIfInBounds_toArray, List.set_cons_zero, List.set_cons_succ]))
            (try simp only [Act.put, List.getElem_toArray, List.getElem_cons_zero, List.getElem_cons_succ, List.setIfInBounds_toArray, List.set_cons_zero, List.set_cons_succ])
            refine wpAnyH_ready (rs := [9, 13]) (by kernel_rfl) (by simp) ?_
            refine AllReadyH.cons rfl (fun K hK => ?_) (AllReadyH.cons rfl (fun K hK => ?_) AllReadyH.nil)
            · go_simp
              refine (HCM.out _).mono ?_
              rintro e v15 ⟨rfl, hy5⟩
              have HY5 : Hid (Ext wr v15) := Ext.trans (Ext.refl wr).drew hy5
              clear hy5
              refine hK.out _ _ (HK.out _ (HY5.out)) (fun hHeld => ?_)
              clear hK K
              (try simp only [Act.put, List.getElem_toArray, List.getElem_cons_zero, List.getElem_cons_succ, List.setIfInBounds_toArray, List.set_cons_zero, List.set_cons_succ])
              (refine wpAnyH_take (i := 10) (v := ?_) rfl (by kernel_rfl) (by kernel_rfl) (by kernel_rfl) (fun _ _ _ h => h) (Or.inl ⟨by rfl, ?_⟩) (by assumption) ?_; rotate_left; · (intro w hSw; (try dsimp only at hSw); go_simp; all_goals with_reducible rfl); (try simp only [Act.put, List.getElem_toArray, List.getElem_cons_zero, List.getElem_cons_succ, List.setIfInBounds_toArray, List.set_cons_zero, List.set_cons_succ]))
              (try simp only [Act.put, List.getElem_toArray, List.getElem_cons_zero, List.getElem_cons_succ, List.setIfInBounds_toArray, List.set_cons_zero, List.set_cons_succ])
              (refine wpAnyH_take (i := 11) (v := ?_) rfl (by kernel_rfl) (by kernel_rfl) (by kernel_rfl) (fun _ _ _ h => h) (Or.inl ⟨by rfl, ?_⟩) (by assumption) ?_; rotate_left; · (intro w hSw; (try dsimp only at hSw); go_simp; all_goals with_reducible rfl); (try simp only [Act.put, List.getElem_toArray, List.getElem_cons_zero, List.getElem_cons_succ, List.setIfInBounds_toArray, List.set_cons_zero, List.set_cons_succ]))
              (try simp only [Act.put, List.getElem_toArray, List.getElem_cons_zero, List.getElem_cons_succ, List.setIfInBounds_toArray, List.set_cons_zero, List.set_cons_succ])
              (refine wpAnyH_take (i := 12) (v := ?_) rfl (by kernel_rfl) (by kernel_rfl) (by kernel_rfl) (fun _ _ _ h => h) (Or.inl ⟨by rfl, ?_⟩) (by assumption) ?_; rotate_left; · (intro w hSw; (try dsimp only at hSw); go_simp; all_goals with_reducible rfl); (try simp only [Act.put, List.getElem_toArray, List.getElem_cons_zero, List.getElem_cons_succ, List.setIfInBounds_toArray, List.set_cons_zero, List.set_cons_succ]))
              (try simp only [Act.put, List.getElem_toArray, List.getElem_cons_zero, List.getElem_cons_succ, List.setIfInBounds_toArray, List.set_cons_zero, List.set_cons_succ])
              refine wpAnyH_ready (rs := [13]) (by kernel_rfl) (by simp) ?_
              refine AllReadyH.cons rfl (fun K hK => ?_) AllReadyH.nil
              go_simp
              have HX16 : Hid (Ext wr (v15.alloc (.cells #[.int .i64 0, .int .i64 0, .int .i64 0, .int .i64 0, .int .i64 0] 83))) := HY5.out.alloc _
              have HB16 : Hid (Blk (v15.alloc (.cells #[.int .i64 0, .int .i64 0, .int .i64 0, .int .i64 0, .int .i64 0] 83)) v15.heap.size 83 #[.int .i64 0, .int .i64 0, .int .i64 0, .int .i64 0, .int .i64 0]) := Blk.new _ _ _
              have hs16 : wr.heap.size ≤ v15.heap.size := HY5.out.size
              refine hK.out _ _ (HK.out _ (HX16.out)) (fun hHeld => ?_)
              clear hK K
              (try simp only [Act.put, List.getElem_toArray, List.getElem_cons_zero, List.getElem_cons_succ, List.setIfInBounds_toArray, List.set_cons_zero, List.set_cons_succ])
              generalize v15.alloc (.cells #[.int .i64 0, .int .i64 0, .int .i64 0, .int .i64 0, .int .i64 0] 83) = w16 at *
              generalize v15.heap.size = s1 at *
              clear HY5
              refine wpAnyH_ready (rs := [14]) (by kernel_rfl) (by simp) ?_
              refine AllReadyH.cons rfl (fun K hK => ?_) AllReadyH.nil
              obtain ⟨⟨q0, q1, q2, q3, q4⟩, f0, f1, f2, f3, f4⟩ := cells5 HB16.out
              go_simp
              have HX17 : Hid (Ext wr (((((w16.setCell ⟨s1, 0, none⟩ (.int .i64 z.n.a)).setCell ⟨s1, 1, none⟩ (.int .i64 z.n.b)).setCell ⟨s1, 2, none⟩ (.int .i64 z.n.c)).setCell ⟨s1, 3, none⟩ (.int .i64 z.n.d)).setCell ⟨s1, 4, none⟩ (.int .i64 z.e))) := ext_put5 (g := s1) HX16.out hs16 _ _ _ _ _
              have HB17 : Hid (Blk (((((w16.setCell ⟨s1, 0, none⟩ (.int .i64 z.n.a)).setCell ⟨s1, 1, none⟩ (.int .i64 z.n.b)).setCell ⟨s1, 2, none⟩ (.int .i64 z.n.c)).setCell ⟨s1, 3, none⟩ (.int .i64 z.n.d)).setCell ⟨s1, 4, none⟩ (.int .i64 z.e)) s1 83 #[.int .i64 z.n.a, .int .i64 z.n.b, .int .i64 z.n.c, .int .i64 z.n.d, .int .i64 z.e]) := HB16.out.put5 _ _ _ _ _
              refine hK.out _ _ (HK.out _ (HX17.out)) (fun hHeld => ?_)
              clear hK K
              (try simp only [Act.put, List.getElem_toArray, List.getElem_cons_zero, List.getElem_cons_succ, List.setIfInBounds_toArray, List.set_cons_zero, List.set_cons_succ])
              (refine wpAnyH_take (i := 15) (v := ?_) rfl (by kernel_rfl) (by kernel_rfl) (by kernel_rfl) (fun _ _ _ h => h) (Or.inl ⟨by rfl, ?_⟩) (by assumption) ?_; rotate_left; · (intro w hSw; (try dsimp only at hSw); go_simp; all_goals with_reducible rfl); (try simp only [Act.put, List.getElem_toArray, List.getElem_cons_zero, List.getElem_cons_succ, List.setIfInBounds_toArray, List.set_cons_zero, List.set_cons_succ]))
              (refine wpAnyH_done (by kernel_rfl) ?_ _)
              clear q0 q1 q2 q3 q4 f0 f1 f2 f3 f4 hHeld
              generalize (((((w16.setCell ⟨s1, 0, none⟩ (.int .i64 z.n.a)).setCell ⟨s1, 1, none⟩ (.int .i64 z.n.b)).setCell ⟨s1, 2, none⟩ (.int .i64 z.n.c)).setCell ⟨s1, 3, none⟩ (.int .i64 z.n.d)).setCell ⟨s1, 4, none⟩ (.int .i64 z.e)) = w17 at *
              clear HX16 HB16 HK
              have HSO1 := Lib.hid (HSO0.out.ext HX17.out)
              have HSN1 := Lib.hid (HSN0.out.ext HX17.out)
              have HGB1 := Lib.hid (HGB0.out.ext HX17.out)
              clear HX17
              have HK : Hid (∀ w', Ext w17 w' → (w'.cell? ⟨b1, k * 6, none⟩ = some (.int .i64 s.1) ∧ w'.cell? ⟨b1, k * 6 + 1, none⟩ = some (.int .i64 s.2.n.a) ∧ w'.cell? ⟨b1, k * 6 + 2, none⟩ = some (.int .i64 s.2.n.b) ∧ w'.cell? ⟨b1, k * 6 + 3, none⟩ = some (.int .i64 s.2.n.c) ∧ w'.cell? ⟨b1, k * 6 + 4, none⟩ = some (.int .i64 s.2.n.d) ∧ w'.cell? ⟨b1, k * 6 + 5, none⟩ = some (.int .i64 s.2.e)) ∧ (w'.cell? ⟨bo, s.1 * 5, none⟩ = some (.int .i64 y.n.a) ∧ w'.cell? ⟨bo, s.1 * 5 + 1, none⟩ = some (.int .i64 y.n.b) ∧ w'.cell? ⟨bo, s.1 * 5 + 2, none⟩ = some (.int .i64 y.n.c) ∧ w'.cell? ⟨bo, s.1 * 5 + 3, none⟩ = some (.int .i64 y.n.d) ∧ w'.cell? ⟨bo, s.1 * 5 + 4, none⟩ = some (.int .i64 y.e)) ∧ (w'.cell? ⟨s1, 0, none⟩ = some (.int .i64 z.n.a) ∧ w'.cell? ⟨s1, 1, none⟩ = some (.int .i64 z.n.b) ∧ w'.cell? ⟨s1, 2, none⟩ = some (.int .i64 z.n.c) ∧ w'.cell? ⟨s1, 3, none⟩ = some (.int .i64 z.n.d) ∧ w'.cell? ⟨s1, 4, none⟩ = some (.int .i64 z.e))) := fun w' hx => ⟨SN.at_ (HSN1.out.ext hx) HS0.out, (SB.at_ (HSO1.out.ext hx) HY0.out).1, (cells5 (HB17.out.ext hx)).1⟩
              have HBO1 : Hid (bo < w17.heap.size) := by obtain ⟨cs, hcs, -⟩ := HSO1.out; exact hcs.lt
              have hat : s.1 < l := HAT.out
              go_upto_region 13 with (fail)
              refine wp_region_held_drew (S := fun w' => (w'.cell? ⟨b1, k * 6, none⟩ = some (.int .i64 s.1) ∧ w'.cell? ⟨b1, k * 6 + 1, none⟩ = some (.int .i64 s.2.n.a) ∧ w'.cell? ⟨b1, k * 6 + 2, none⟩ = some (.int .i64 s.2.n.b) ∧ w'.cell? ⟨b1, k * 6 + 3, none⟩ = some (.int .i64 s.2.n.c) ∧ w'.cell? ⟨b1, k * 6 + 4, none⟩ = some (.int .i64 s.2.n.d) ∧ w'.cell? ⟨b1, k * 6 + 5, none⟩ = some (.int .i64 s.2.e)) ∧ (w'.cell? ⟨bo, s.1 * 5, none⟩ = some (.int .i64 y.n.a) ∧ w'.cell? ⟨bo, s.1 * 5 + 1, none⟩ = some (.int .i64 y.n.b) ∧ w'.cell? ⟨bo, s.1 * 5 + 2, none⟩ = some (.int .i64 y.n.c) ∧ w'.cell? ⟨bo, s.1 * 5 + 3, none⟩ = some (.int .i64 y.n.d) ∧ w'.cell? ⟨bo, s.1 * 5 + 4, none⟩ = some (.int .i64 y.e)) ∧ (w'.cell? ⟨s1, 0, none⟩ = some (.int .i64 z.n.a) ∧ w'.cell? ⟨s1, 1, none⟩ = some (.int .i64 z.n.b) ∧ w'.cell? ⟨s1, 2, none⟩ = some (.int .i64 z.n.c) ∧ w'.cell? ⟨s1, 3, none⟩ = some (.int .i64 z.n.d) ∧ w'.cell? ⟨s1, 4, none⟩ = some (.int .i64 z.e))) (by kernel_rfl) (HK.out _ (Ext.refl w17).drew) (fun hHeld => ?_)
              (refine wpAnyH_take (i := 0) (v := ?_) rfl (by kernel_rfl) (by kernel_rfl) (by kernel_rfl) (fun _ _ _ h => h) (Or.inl ⟨by rfl, ?_⟩) (by assumption) ?_; rotate_left; · (intro w hSw; (try dsimp only at hSw); go_simp; all_goals with_reducible rfl); (try simp only [Act.put, List.getElem_toArray, List.getElem_cons_zero, List.getElem_cons_succ, List.setIfInBounds_toArray, List.set_cons_zero, List.set_cons_succ]))
              (try simp only [Act.put, List.getElem_toArray, List.getElem_cons_zero, List.getElem_cons_succ, List.setIfInBounds_toArray, List.set_cons_zero, List.set_cons_succ])
              (refine wpAnyH_take (i := 1) (v := ?_) rfl (by kernel_rfl) (by kernel_rfl) (by kernel_rfl) (fun _ _ _ h => h) (Or.inl ⟨by rfl, ?_⟩) (by assumption) ?_; rotate_left; · (intro w hSw; (try dsimp only at hSw); go_simp; all_goals with_reducible rfl); (try simp only [Act.put, List.getElem_toArray, List.getElem_cons_zero, List.getElem_cons_succ, List.setIfInBounds_toArray, List.set_cons_zero, List.set_cons_succ]))
              (try simp only [Act.put, List.getElem_toArray, List.getElem_cons_zero, List.getElem_cons_succ, List.setIfInBounds_toArray, List.set_cons_zero, List.set_cons_succ])
              (refine wpAnyH_take (i := 2) (v := ?_) rfl (by kernel_rfl) (by kernel_rfl) (by kernel_rfl) (fun _ _ _ h => h) (Or.inl ⟨by rfl, ?_⟩) (by assumption) ?_; rotate_left; · (intro w hSw; (try dsimp only at hSw); go_simp; all_goals with_reducible rfl); (try simp only [Act.put, List.getElem_toArray, List.getElem_cons_zero, List.getElem_cons_succ, List.setIfInBounds_toArray, List.set_cons_zero, List.set_cons_succ]))
              (try simp only [Act.put, List.getElem_toArray, List.getElem_cons_zero, List.getElem_cons_succ, List.setIfInBounds_toArray, List.set_cons_zero, List.set_cons_succ])
              (refine wpAnyH_take (i := 3) (v := ?_) rfl (by kernel_rfl) (by kernel_rfl) (by kernel_rfl) (fun _ _ _ h => h) (Or.inl ⟨by rfl, ?_⟩) (by assumption) ?_; rotate_left; · (intro w hSw; (try dsimp only at hSw); go_simp; all_goals with_reducible rfl); (try simp only [Act.put, List.getElem_toArray, List.getElem_cons_zero, List.getElem_cons_succ, List.setIfInBounds_toArray, List.set_cons_zero, List.set_cons_succ]))
              (try simp only [Act.put, List.getElem_toArray, List.getElem_cons_zero, List.getElem_cons_succ, List.setIfInBounds_toArray, List.set_cons_zero, List.set_cons_succ])
              (refine wpAnyH_take (i := 4) (v := ?_) rfl (by kernel_rfl) (by kernel_rfl) (by kernel_rfl) (fun _ _ _ h => h) (Or.inl ⟨by rfl, ?_⟩) (by assumption) ?_; rotate_left; · (intro w hSw; (try dsimp only at hSw); go_simp; all_goals with_reducible rfl); (try simp only [Act.put, List.getElem_toArray, List.getElem_cons_zero, List.getElem_cons_succ, List.setIfInBounds_toArray, List.set_cons_zero, List.set_cons_succ]))
              (try simp only [Act.put, List.getElem_toArray, List.getElem_cons_zero, List.getElem_cons_succ, List.setIfInBounds_toArray, List.set_cons_zero, List.set_cons_succ])
              (refine wpAnyH_take (i := 5) (v := ?_) rfl (by kernel_rfl) (by kernel_rfl) (by kernel_rfl) (fun _ _ _ h => h) (Or.inl ⟨by rfl, ?_⟩) (by assumption) ?_; rotate_left; · (intro w hSw; (try dsimp only at hSw); go_simp; all_goals with_reducible rfl); (try simp only [Act.put, List.getElem_toArray, List.getElem_cons_zero, List.getElem_cons_succ, List.setIfInBounds_toArray, List.set_cons_zero, List.set_cons_succ]))
              (try simp only [Act.put, List.getElem_toArray, List.getElem_cons_zero, List.getElem_cons_succ, List.setIfInBounds_toArray, List.set_cons_zero, List.set_cons_succ])
              (refine wpAnyH_take (i := 6) (v := ?_) rfl (by kernel_rfl) (by kernel_rfl) (by kernel_rfl) (fun _ _ _ h => h) (Or.inl ⟨by rfl, ?_⟩) (by assumption) ?_; rotate_left; · (intro w hSw; (try dsimp only at hSw); go_simp; all_goals with_reducible rfl); (try simp only [Act.put, List.getElem_toArray, List.getElem_cons_zero, List.getElem_cons_succ, List.setIfInBounds_toArray, List.set_cons_zero, List.set_cons_succ]))
              (try simp only [Act.put, List.getElem_toArray, List.getElem_cons_zero, List.getElem_cons_succ, List.setIfInBounds_toArray, List.set_cons_zero, List.set_cons_succ])
              (refine wpAnyH_take (i := 7) (v := ?_) rfl (by kernel_rfl) (by kernel_rfl) (by kernel_rfl) (fun _ _ _ h => h) (Or.inl ⟨by rfl, ?_⟩) (by assumption) ?_; rotate_left; · (intro w hSw; (try dsimp only at hSw); go_simp; all_goals with_reducible rfl); (try simp only [Act.put, List.getElem_toArray, List.getElem_cons_zero, List.getElem_cons_succ, List.setIfInBounds_toArray, List.set_cons_zero, List.set_cons_succ]))
              (try simp only [Act.put, List.getElem_toArray, List.getElem_cons_zero, List.getElem_cons_succ, List.setIfInBounds_toArray, List.set_cons_zero, List.set_cons_succ])
              (refine wpAnyH_take (i := 8) (v := ?_) rfl (by kernel_rfl) (by kernel_rfl) (by kernel_rfl) (fun _ _ _ h => h) (Or.inl ⟨by rfl, ?_⟩) (by assumption) ?_; rotate_left; · (intro w hSw; (try dsimp only at hSw); go_simp; all_goals with_reducible rfl); (try simp only [Act.put, List.getElem_toArray, List.getElem_cons_zero, List.getElem_cons_succ, List.setIfInBounds_toArray, List.set_cons_zero, List.set_cons_succ]))
              (try simp only [Act.put, List.getElem_toArray, List.getElem_cons_zero, List.getElem_cons_succ, List.setIfInBounds_toArray, List.set_cons_zero, List.set_cons_succ])
              refine wpAnyH_ready (rs := [9, 13]) (by kernel_rfl) (by simp) ?_
              refine AllReadyH.cons rfl (fun K hK => ?_) (AllReadyH.cons rfl (fun K hK => ?_) AllReadyH.nil)
              · go_simp
                refine (HCA.out _).mono ?_
                rintro e v25 ⟨rfl, hy5⟩
                have HY5 : Hid (Ext w17 v25) := Ext.trans (Ext.refl w17).drew hy5
                clear hy5
                refine hK.out _ _ (HK.out _ (HY5.out)) (fun hHeld => ?_)
                clear hK K
                (try simp only [Act.put, List.getElem_toArray, List.getElem_cons_zero, List.getElem_cons_succ, List.setIfInBounds_toArray, List.set_cons_zero, List.set_cons_succ])
                (refine wpAnyH_take (i := 10) (v := ?_) rfl (by kernel_rfl) (by kernel_rfl) (by kernel_rfl) (fun _ _ _ h => h) (Or.inl ⟨by rfl, ?_⟩) (by assumption) ?_; rotate_left; · (intro w hSw; (try dsimp only at hSw); go_simp; all_goals with_reducible rfl); (try simp only [Act.put, List.getElem_toArray, List.getElem_cons_zero, List.getElem_cons_succ, List.setIfInBounds_toArray, List.set_cons_zero, List.set_cons_succ]))
                (try simp only [Act.put, List.getElem_toArray, List.getElem_cons_zero, List.getElem_cons_succ, List.setIfInBounds_toArray, List.set_cons_zero, List.set_cons_succ])
                (refine wpAnyH_take (i := 11) (v := ?_) rfl (by kernel_rfl) (by kernel_rfl) (by kernel_rfl) (fun _ _ _ h => h) (Or.inl ⟨by rfl, ?_⟩) (by assumption) ?_; rotate_left; · (intro w hSw; (try dsimp only at hSw); go_simp; all_goals with_reducible rfl); (try simp only [Act.put, List.getElem_toArray, List.getElem_cons_zero, List.getElem_cons_succ, List.setIfInBounds_toArray, List.set_cons_zero, List.set_cons_succ]))
                (try simp only [Act.put, List.getElem_toArray, List.getElem_cons_zero, List.getElem_cons_succ, List.setIfInBounds_toArray, List.set_cons_zero, List.set_cons_succ])
                (refine wpAnyH_take (i := 12) (v := ?_) rfl (by kernel_rfl) (by kernel_rfl) (by kernel_rfl) (fun _ _ _ h => h) (Or.inl ⟨by rfl, ?_⟩) (by assumption) ?_; rotate_left; · (intro w hSw; (try dsimp only at hSw); go_simp; all_goals with_reducible rfl); (try simp only [Act.put, List.getElem_toArray, List.getElem_cons_zero, List.getElem_cons_succ, List.setIfInBounds_toArray, List.set_cons_zero, List.set_cons_succ]))
                (try simp only [Act.put, List.getElem_toArray, List.getElem_cons_zero, List.getElem_cons_succ, List.setIfInBounds_toArray, List.set_cons_zero, List.set_cons_succ])
                refine wpAnyH_ready (rs := [13]) (by kernel_rfl) (by simp) ?_
                refine AllReadyH.cons rfl (fun K hK => ?_) AllReadyH.nil
                go_simp
                have HX26 : Hid (Ext w17 (v25.alloc (.cells #[.int .i64 0, .int .i64 0, .int .i64 0, .int .i64 0, .int .i64 0] 83))) := HY5.out.alloc _
                have HB26 : Hid (Blk (v25.alloc (.cells #[.int .i64 0, .int .i64 0, .int .i64 0, .int .i64 0, .int .i64 0] 83)) v25.heap.size 83 #[.int .i64 0, .int .i64 0, .int .i64 0, .int .i64 0, .int .i64 0]) := Blk.new _ _ _
                have hs26 : w17.heap.size ≤ v25.heap.size := HY5.out.size
                refine hK.out _ _ (HK.out _ (HX26.out)) (fun hHeld => ?_)
                clear hK K
                (try simp only [Act.put, List.getElem_toArray, List.getElem_cons_zero, List.getElem_cons_succ, List.setIfInBounds_toArray, List.set_cons_zero, List.set_cons_succ])
                generalize v25.alloc (.cells #[.int .i64 0, .int .i64 0, .int .i64 0, .int .i64 0, .int .i64 0] 83) = w26 at *
                generalize v25.heap.size = s2 at *
                clear HY5
                refine wpAnyH_ready (rs := [14]) (by kernel_rfl) (by simp) ?_
                refine AllReadyH.cons rfl (fun K hK => ?_) AllReadyH.nil
                obtain ⟨⟨q0, q1, q2, q3, q4⟩, f0, f1, f2, f3, f4⟩ := cells5 HB26.out
                go_simp
                have HX27 : Hid (Ext w17 (((((w26.setCell ⟨s2, 0, none⟩ (.int .i64 y'.n.a)).setCell ⟨s2, 1, none⟩ (.int .i64 y'.n.b)).setCell ⟨s2, 2, none⟩ (.int .i64 y'.n.c)).setCell ⟨s2, 3, none⟩ (.int .i64 y'.n.d)).setCell ⟨s2, 4, none⟩ (.int .i64 y'.e))) := ext_put5 (g := s2) HX26.out hs26 _ _ _ _ _
                have HB27 : Hid (Blk (((((w26.setCell ⟨s2, 0, none⟩ (.int .i64 y'.n.a)).setCell ⟨s2, 1, none⟩ (.int .i64 y'.n.b)).setCell ⟨s2, 2, none⟩ (.int .i64 y'.n.c)).setCell ⟨s2, 3, none⟩ (.int .i64 y'.n.d)).setCell ⟨s2, 4, none⟩ (.int .i64 y'.e)) s2 83 #[.int .i64 y'.n.a, .int .i64 y'.n.b, .int .i64 y'.n.c, .int .i64 y'.n.d, .int .i64 y'.e]) := HB26.out.put5 _ _ _ _ _
                refine hK.out _ _ (HK.out _ (HX27.out)) (fun hHeld => ?_)
                clear hK K
                (try simp only [Act.put, List.getElem_toArray, List.getElem_cons_zero, List.getElem_cons_succ, List.setIfInBounds_toArray, List.set_cons_zero, List.set_cons_succ])
                (refine wpAnyH_take (i := 15) (v := ?_) rfl (by kernel_rfl) (by kernel_rfl) (by kernel_rfl) (fun _ _ _ h => h) (Or.inl ⟨by rfl, ?_⟩) (by assumption) ?_; rotate_left; · (intro w hSw; (try dsimp only at hSw); go_simp; all_goals with_reducible rfl); (try simp only [Act.put, List.getElem_toArray, List.getElem_cons_zero, List.getElem_cons_succ, List.setIfInBounds_toArray, List.set_cons_zero, List.set_cons_succ]))
                (refine wpAnyH_done (by kernel_rfl) ?_ _)
                clear q0 q1 q2 q3 q4 f0 f1 f2 f3 f4 hHeld
                generalize (((((w26.setCell ⟨s2, 0, none⟩ (.int .i64 y'.n.a)).setCell ⟨s2, 1, none⟩ (.int .i64 y'.n.b)).setCell ⟨s2, 2, none⟩ (.int .i64 y'.n.c)).setCell ⟨s2, 3, none⟩ (.int .i64 y'.n.d)).setCell ⟨s2, 4, none⟩ (.int .i64 y'.e)) = w27 at *
                clear HX26 HB26 HK
                obtain ⟨⟨t0, t1, t2, t3, t4⟩, -⟩ := cells5 HB27.out
                go_upto_region 16 with (fail)
                clear t0 t1 t2 t3 t4
                have HSO := Lib.hid (HSO1.out.ext HX27.out)
                have HSN := Lib.hid (HSN1.out.ext HX27.out)
                have HGB := Lib.hid (HGB1.out.ext HX27.out)
                have hne1 : b1 ≠ bo := by obtain ⟨cs, hcs, -⟩ := HSO.out; exact SN.ne HSN.out hcs
                have hne2 : s2 ≠ bo := by have := HBO1.out; omega
                have HK : Hid (∀ w', Ext w27 w' → w'.cell? ⟨b1, k * 6, none⟩ = some (.int .i64 s.1) ∧ (w'.cell? ⟨s2, 0, none⟩ = some (.int .i64 y'.n.a) ∧ w'.cell? ⟨s2, 1, none⟩ = some (.int .i64 y'.n.b) ∧ w'.cell? ⟨s2, 2, none⟩ = some (.int .i64 y'.n.c) ∧ w'.cell? ⟨s2, 3, none⟩ = some (.int .i64 y'.n.d) ∧ w'.cell? ⟨s2, 4, none⟩ = some (.int .i64 y'.e))) := fun w' hx => ⟨(SN.at_ (HSN.out.ext hx) HS0.out).1, (cells5 (HB27.out.ext hx)).1⟩
                refine wp_region_held_drew (S := fun w' => w'.cell? ⟨b1, k * 6, none⟩ = some (.int .i64 s.1) ∧ (w'.cell? ⟨s2, 0, none⟩ = some (.int .i64 y'.n.a) ∧ w'.cell? ⟨s2, 1, none⟩ = some (.int .i64 y'.n.b) ∧ w'.cell? ⟨s2, 2, none⟩ = some (.int .i64 y'.n.c) ∧ w'.cell? ⟨s2, 3, none⟩ = some (.int .i64 y'.n.d) ∧ w'.cell? ⟨s2, 4, none⟩ = some (.int .i64 y'.e))) (by kernel_rfl) (HK.out _ (Ext.refl w27).drew) (fun hHeld => ?_)
                (refine wpAnyH_take (i := 0) (v := ?_) rfl (by kernel_rfl) (by kernel_rfl) (by kernel_rfl) (fun _ _ _ h => h) (Or.inl ⟨by rfl, ?_⟩) (by assumption) ?_; rotate_left; · (intro w hSw; (try dsimp only at hSw); go_simp; all_goals with_reducible rfl); (try simp only [Act.put, List.getElem_toArray, List.getElem_cons_zero, List.getElem_cons_succ, List.setIfInBounds_toArray, List.set_cons_zero, List.set_cons_succ]))
                (try simp only [Act.put, List.getElem_toArray, List.getElem_cons_zero, List.getElem_cons_succ, List.setIfInBounds_toArray, List.set_cons_zero, List.set_cons_succ])
                (refine wpAnyH_take (i := 1) (v := ?_) rfl (by kernel_rfl) (by kernel_rfl) (by kernel_rfl) (fun _ _ _ h => h) (Or.inl ⟨by rfl, ?_⟩) (by assumption) ?_; rotate_left; · (intro w hSw; (try dsimp only at hSw); go_simp; all_goals with_reducible rfl); (try simp only [Act.put, List.getElem_toArray, List.getElem_cons_zero, List.getElem_cons_succ, List.setIfInBounds_toArray, List.set_cons_zero, List.set_cons_succ]))
                (try simp only [Act.put, List.getElem_toArray, List.getElem_cons_zero, List.getElem_cons_succ, List.setIfInBounds_toArray, List.set_cons_zero, List.set_cons_succ])
                (refine wpAnyH_take (i := 2) (v := ?_) rfl (by kernel_rfl) (by kernel_rfl) (by kernel_rfl) (fun _ _ _ h => h) (Or.inl ⟨by rfl, ?_⟩) (by assumption) ?_; rotate_left; · (intro w hSw; (try dsimp only at hSw); go_simp; all_goals with_reducible rfl); (try simp only [Act.put, List.getElem_toArray, List.getElem_cons_zero, List.getElem_cons_succ, List.setIfInBounds_toArray, List.set_cons_zero, List.set_cons_succ]))
                (try simp only [Act.put, List.getElem_toArray, List.getElem_cons_zero, List.getElem_cons_succ, List.setIfInBounds_toArray, List.set_cons_zero, List.set_cons_succ])
                (refine wpAnyH_take (i := 3) (v := ?_) rfl (by kernel_rfl) (by kernel_rfl) (by kernel_rfl) (fun _ _ _ h => h) (Or.inl ⟨by rfl, ?_⟩) (by assumption) ?_; rotate_left; · (intro w hSw; (try dsimp only at hSw); go_simp; all_goals with_reducible rfl); (try simp only [Act.put, List.getElem_toArray, List.getElem_cons_zero, List.getElem_cons_succ, List.setIfInBounds_toArray, List.set_cons_zero, List.set_cons_succ]))
                (try simp only [Act.put, List.getElem_toArray, List.getElem_cons_zero, List.getElem_cons_succ, List.setIfInBounds_toArray, List.set_cons_zero, List.set_cons_succ])
                (refine wpAnyH_take (i := 4) (v := ?_) rfl (by kernel_rfl) (by kernel_rfl) (by kernel_rfl) (fun _ _ _ h => h) (Or.inl ⟨by rfl, ?_⟩) (by assumption) ?_; rotate_left; · (intro w hSw; (try dsimp only at hSw); go_simp; all_goals with_reducible rfl); (try simp only [Act.put, List.getElem_toArray, List.getElem_cons_zero, List.getElem_cons_succ, List.setIfInBounds_toArray, List.set_cons_zero, List.set_cons_succ]))
                (try simp only [Act.put, List.getElem_toArray, List.getElem_cons_zero, List.getElem_cons_succ, List.setIfInBounds_toArray, List.set_cons_zero, List.set_cons_succ])
                (refine wpAnyH_take (i := 5) (v := ?_) rfl (by kernel_rfl) (by kernel_rfl) (by kernel_rfl) (fun _ _ _ h => h) (Or.inl ⟨by rfl, ?_⟩) (by assumption) ?_; rotate_left; · (intro w hSw; (try dsimp only at hSw); go_simp; all_goals with_reducible rfl); (try simp only [Act.put, List.getElem_toArray, List.getElem_cons_zero, List.getElem_cons_succ, List.setIfInBounds_toArray, List.set_cons_zero, List.set_cons_succ]))
                (try simp only [Act.put, List.getElem_toArray, List.getElem_cons_zero, List.getElem_cons_succ, List.setIfInBounds_toArray, List.set_cons_zero, List.set_cons_succ])
                (refine wpAnyH_take (i := 6) (v := ?_) rfl (by kernel_rfl) (by kernel_rfl) (by kernel_rfl) (fun _ _ _ h => h) (Or.inl ⟨by rfl, ?_⟩) (by assumption) ?_; rotate_left; · (intro w hSw; (try dsimp only at hSw); go_simp; all_goals with_reducible rfl); (try simp only [Act.put, List.getElem_toArray, List.getElem_cons_zero, List.getElem_cons_succ, List.setIfInBounds_toArray, List.set_cons_zero, List.set_cons_succ]))
                (try simp only [Act.put, List.getElem_toArray, List.getElem_cons_zero, List.getElem_cons_succ, List.setIfInBounds_toArray, List.set_cons_zero, List.set_cons_succ])
                (refine wpAnyH_take (i := 7) (v := ?_) rfl (by kernel_rfl) (by kernel_rfl) (by kernel_rfl) (fun _ _ _ h => h) (Or.inl ⟨by rfl, ?_⟩) (by assumption) ?_; rotate_left; · (intro w hSw; (try dsimp only at hSw); go_simp; all_goals with_reducible rfl); (try simp only [Act.put, List.getElem_toArray, List.getElem_cons_zero, List.getElem_cons_succ, List.setIfInBounds_toArray, List.set_cons_zero, List.set_cons_succ]))
                (try simp only [Act.put, List.getElem_toArray, List.getElem_cons_zero, List.getElem_cons_succ, List.setIfInBounds_toArray, List.set_cons_zero, List.set_cons_succ])
                refine wpAnyH_ready (rs := [8]) (by kernel_rfl) (by simp) ?_
                refine AllReadyH.cons rfl (fun K hK => ?_) AllReadyH.nil
                obtain ⟨⟨c0, c1, c2, c3, c4⟩, f0, f1, f2, f3, f4⟩ := HSO.out.at_ HY0.out
                go_simp
                refine hK.out _ _ ⟨(SN.at_ (SN.ext (SN.put (i := s.1) (x := y') HSN.out hne1) (Ext.refl _).drew) HS0.out).1, (cells5 (Blk.ext (far_put5at (i := s.1) (x := y') HB27.out hne2) (Ext.refl _).drew)).1⟩ (fun hHeld => ?_)
                clear hK K
                (try simp only [Act.put, List.getElem_toArray, List.getElem_cons_zero, List.getElem_cons_succ, List.setIfInBounds_toArray, List.set_cons_zero, List.set_cons_succ])
                (refine wpAnyH_done (by kernel_rfl) ?_ _)
                have HSO8 : Hid (SB (((((w27.setCell ⟨bo, s.1 * 5, none⟩ (.int .i64 y'.n.a)).setCell ⟨bo, s.1 * 5 + 1, none⟩ (.int .i64 y'.n.b)).setCell ⟨bo, s.1 * 5 + 2, none⟩ (.int .i64 y'.n.c)).setCell ⟨bo, s.1 * 5 + 3, none⟩ (.int .i64 y'.n.d)).setCell ⟨bo, s.1 * 5 + 4, none⟩ (.int .i64 y'.e)).drew bo (o i (k + 1))) := by
                  unfold Hid
                  rw [HNX.out]
                  exact SB.ext (HSO.out.put (by rw [HOL.out]; exact HAT.out) y') (Ext.refl _).drew
                have HSN8 : Hid (SN (((((w27.setCell ⟨bo, s.1 * 5, none⟩ (.int .i64 y'.n.a)).setCell ⟨bo, s.1 * 5 + 1, none⟩ (.int .i64 y'.n.b)).setCell ⟨bo, s.1 * 5 + 2, none⟩ (.int .i64 y'.n.c)).setCell ⟨bo, s.1 * 5 + 3, none⟩ (.int .i64 y'.n.d)).setCell ⟨bo, s.1 * 5 + 4, none⟩ (.int .i64 y'.e)).drew b1 (sent g i)) := SN.ext (SN.put (i := s.1) (x := y') HSN.out hne1) (Ext.refl _).drew
                have HGB8 : Hid (GB w (((((w27.setCell ⟨bo, s.1 * 5, none⟩ (.int .i64 y'.n.a)).setCell ⟨bo, s.1 * 5 + 1, none⟩ (.int .i64 y'.n.b)).setCell ⟨bo, s.1 * 5 + 2, none⟩ (.int .i64 y'.n.c)).setCell ⟨bo, s.1 * 5 + 3, none⟩ (.int .i64 y'.n.d)).setCell ⟨bo, s.1 * 5 + 4, none⟩ (.int .i64 y'.e)).drew g) := GB.ext (HGB.out.put (i := s.1) (x := y') HBO.out) (Ext.refl _).drew
                clear c0 c1 c2 c3 c4 f0 f1 f2 f3 f4 hHeld HSO HSN HGB HK
                generalize (((((w27.setCell ⟨bo, s.1 * 5, none⟩ (.int .i64 y'.n.a)).setCell ⟨bo, s.1 * 5 + 1, none⟩ (.int .i64 y'.n.b)).setCell ⟨bo, s.1 * 5 + 2, none⟩ (.int .i64 y'.n.c)).setCell ⟨bo, s.1 * 5 + 3, none⟩ (.int .i64 y'.n.d)).setCell ⟨bo, s.1 * 5 + 4, none⟩ (.int .i64 y'.e)).drew = w8 at *
                go_wp2
                go_roundw
                case rel => exact ⟨k + 1, by first | rfl | rw [hj1] | rw [hj2], by have := HKT.out; omega, HSO8, HSN8, HGB8⟩
                case measure => simp [intOf, hj2]; have := HKT.out; omega
              · go_simp
                refine hK.out _ _ (HK.out _ (((Ext.refl w17).alloc _).drew)) (fun hHeld => ?_)
                clear hK K
                (try simp only [Act.put, List.getElem_toArray, List.getElem_cons_zero, List.getElem_cons_succ, List.setIfInBounds_toArray, List.set_cons_zero, List.set_cons_succ])
                refine wpAnyH_ready (rs := [9]) (by kernel_rfl) (by simp) ?_
                refine AllReadyH.cons rfl (fun K hK => ?_) AllReadyH.nil
                go_simp
                refine (HCA.out _).mono ?_
                rintro e w26 ⟨rfl, hy5⟩
                have HX26 : Hid (Ext w17 w26) := Ext.trans ((Ext.refl w17).alloc (.cells #[.int .i64 0, .int .i64 0, .int .i64 0, .int .i64 0, .int .i64 0] 83)).drew hy5
                have HB26 : Hid (Blk w26 w17.heap.size 83 #[.int .i64 0, .int .i64 0, .int .i64 0, .int .i64 0, .int .i64 0]) := ((Blk.new w17 83 #[.int .i64 0, .int .i64 0, .int .i64 0, .int .i64 0, .int .i64 0]).ext ((Ext.refl _).drew)).ext hy5
                have hs26 : w17.heap.size ≤ w17.heap.size := Nat.le_refl _
                clear hy5
                refine hK.out _ _ (HK.out _ (HX26.out)) (fun hHeld => ?_)
                clear hK K
                (try simp only [Act.put, List.getElem_toArray, List.getElem_cons_zero, List.getElem_cons_succ, List.setIfInBounds_toArray, List.set_cons_zero, List.set_cons_succ])
                (refine wpAnyH_take (i := 10) (v := ?_) rfl (by kernel_rfl) (by kernel_rfl) (by kernel_rfl) (fun _ _ _ h => h) (Or.inl ⟨by rfl, ?_⟩) (by assumption) ?_; rotate_left; · (intro w hSw; (try dsimp only at hSw); go_simp; all_goals with_reducible rfl); (try simp only [Act.put, List.getElem_toArray, List.getElem_cons_zero, List.getElem_cons_succ, List.setIfInBounds_toArray, List.set_cons_zero, List.set_cons_succ]))
                (try simp only [Act.put, List.getElem_toArray, List.getElem_cons_zero, List.getElem_cons_succ, List.setIfInBounds_toArray, List.set_cons_zero, List.set_cons_succ])
                (refine wpAnyH_take (i := 11) (v := ?_) rfl (by kernel_rfl) (by kernel_rfl) (by kernel_rfl) (fun _ _ _ h => h) (Or.inl ⟨by rfl, ?_⟩) (by assumption) ?_; rotate_left; · (intro w hSw; (try dsimp only at hSw); go_simp; all_goals with_reducible rfl); (try simp only [Act.put, List.getElem_toArray, List.getElem_cons_zero, List.getElem_cons_succ, List.setIfInBounds_toArray, List.set_cons_zero, List.set_cons_succ]))
                (try simp only [Act.put, List.getElem_toArray, List.getElem_cons_zero, List.getElem_cons_succ, List.setIfInBounds_toArray, List.set_cons_zero, List.set_cons_succ])
                (refine wpAnyH_take (i := 12) (v := ?_) rfl (by kernel_rfl) (by kernel_rfl) (by kernel_rfl) (fun _ _ _ h => h) (Or.inl ⟨by rfl, ?_⟩) (by assumption) ?_; rotate_left; · (intro w hSw; (try dsimp only at hSw); go_simp; all_goals with_reducible rfl); (try simp only [Act.put, List.getElem_toArray, List.getElem_cons_zero, List.getElem_cons_succ, List.setIfInBounds_toArray, List.set_cons_zero, List.set_cons_succ]))
                (try simp only [Act.put, List.getElem_toArray, List.getElem_cons_zero, List.getElem_cons_succ, List.setIfInBounds_toArray, List.set_cons_zero, List.set_cons_succ])
                obtain ⟨s2, hs⟩ : ∃ s, s = w17.heap.size := ⟨_, rfl⟩
                rw [← hs] at HB26 ⊢
                replace hs26 : w17.heap.size ≤ s2 := by rw [hs]; exact Nat.le_refl _
                clear hs
                refine wpAnyH_ready (rs := [14]) (by kernel_rfl) (by simp) ?_
                refine AllReadyH.cons rfl (fun K hK => ?_) AllReadyH.nil
                obtain ⟨⟨q0, q1, q2, q3, q4⟩, f0, f1, f2, f3, f4⟩ := cells5 HB26.out
                go_simp
                have HX27 : Hid (Ext w17 (((((w26.setCell ⟨s2, 0, none⟩ (.int .i64 y'.n.a)).setCell ⟨s2, 1, none⟩ (.int .i64 y'.n.b)).setCell ⟨s2, 2, none⟩ (.int .i64 y'.n.c)).setCell ⟨s2, 3, none⟩ (.int .i64 y'.n.d)).setCell ⟨s2, 4, none⟩ (.int .i64 y'.e))) := ext_put5 (g := s2) HX26.out hs26 _ _ _ _ _
                have HB27 : Hid (Blk (((((w26.setCell ⟨s2, 0, none⟩ (.int .i64 y'.n.a)).setCell ⟨s2, 1, none⟩ (.int .i64 y'.n.b)).setCell ⟨s2, 2, none⟩ (.int .i64 y'.n.c)).setCell ⟨s2, 3, none⟩ (.int .i64 y'.n.d)).setCell ⟨s2, 4, none⟩ (.int .i64 y'.e)) s2 83 #[.int .i64 y'.n.a, .int .i64 y'.n.b, .int .i64 y'.n.c, .int .i64 y'.n.d, .int .i64 y'.e]) := HB26.out.put5 _ _ _ _ _
                refine hK.out _ _ (HK.out _ (HX27.out)) (fun hHeld => ?_)
                clear hK K
                (try simp only [Act.put, List.getElem_toArray, List.getElem_cons_zero, List.getElem_cons_succ, List.setIfInBounds_toArray, List.set_cons_zero, List.set_cons_succ])
                (refine wpAnyH_take (i := 15) (v := ?_) rfl (by kernel_rfl) (by kernel_rfl) (by kernel_rfl) (fun _ _ _ h => h) (Or.inl ⟨by rfl, ?_⟩) (by assumption) ?_; rotate_left; · (intro w hSw; (try dsimp only at hSw); go_simp; all_goals with_reducible rfl); (try simp only [Act.put, List.getElem_toArray, List.getElem_cons_zero, List.getElem_cons_succ, List.setIfInBounds_toArray, List.set_cons_zero, List.set_cons_succ]))
                (refine wpAnyH_done (by kernel_rfl) ?_ _)
                clear q0 q1 q2 q3 q4 f0 f1 f2 f3 f4 hHeld
                generalize (((((w26.setCell ⟨s2, 0, none⟩ (.int .i64 y'.n.a)).setCell ⟨s2, 1, none⟩ (.int .i64 y'.n.b)).setCell ⟨s2, 2, none⟩ (.int .i64 y'.n.c)).setCell ⟨s2, 3, none⟩ (.int .i64 y'.n.d)).setCell ⟨s2, 4, none⟩ (.int .i64 y'.e)) = w27 at *
                clear HX26 HB26 HK
                obtain ⟨⟨t0, t1, t2, t3, t4⟩, -⟩ := cells5 HB27.out
                go_upto_region 16 with (fail)
                clear t0 t1 t2 t3 t4
                have HSO := Lib.hid (HSO1.out.ext HX27.out)
                have HSN := Lib.hid (HSN1.out.ext HX27.out)
                have HGB := Lib.hid (HGB1.out.ext HX27.out)
                have hne1 : b1 ≠ bo := by obtain ⟨cs, hcs, -⟩ := HSO.out; exact SN.ne HSN.out hcs
                have hne2 : s2 ≠ bo := by have := HBO1.out; omega
                have HK : Hid (∀ w', Ext w27 w' → w'.cell? ⟨b1, k * 6, none⟩ = some (.int .i64 s.1) ∧ (w'.cell? ⟨s2, 0, none⟩ = some (.int .i64 y'.n.a) ∧ w'.cell? ⟨s2, 1, none⟩ = some (.int .i64 y'.n.b) ∧ w'.cell? ⟨s2, 2, none⟩ = some (.int .i64 y'.n.c) ∧ w'.cell? ⟨s2, 3, none⟩ = some (.int .i64 y'.n.d) ∧ w'.cell? ⟨s2, 4, none⟩ = some (.int .i64 y'.e))) := fun w' hx => ⟨(SN.at_ (HSN.out.ext hx) HS0.out).1, (cells5 (HB27.out.ext hx)).1⟩
                refine wp_region_held_drew (S := fun w' => w'.cell? ⟨b1, k * 6, none⟩ = some (.int .i64 s.1) ∧ (w'.cell? ⟨s2, 0, none⟩ = some (.int .i64 y'.n.a) ∧ w'.cell? ⟨s2, 1, none⟩ = some (.int .i64 y'.n.b) ∧ w'.cell? ⟨s2, 2, none⟩ = some (.int .i64 y'.n.c) ∧ w'.cell? ⟨s2, 3, none⟩ = some (.int .i64 y'.n.d) ∧ w'.cell? ⟨s2, 4, none⟩ = some (.int .i64 y'.e))) (by kernel_rfl) (HK.out _ (Ext.refl w27).drew) (fun hHeld => ?_)
                (refine wpAnyH_take (i := 0) (v := ?_) rfl (by kernel_rfl) (by kernel_rfl) (by kernel_rfl) (fun _ _ _ h => h) (Or.inl ⟨by rfl, ?_⟩) (by assumption) ?_; rotate_left; · (intro w hSw; (try dsimp only at hSw); go_simp; all_goals with_reducible rfl); (try simp only [Act.put, List.getElem_toArray, List.getElem_cons_zero, List.getElem_cons_succ, List.setIfInBounds_toArray, List.set_cons_zero, List.set_cons_succ]))
                (try simp only [Act.put, List.getElem_toArray, List.getElem_cons_zero, List.getElem_cons_succ, List.setIfInBounds_toArray, List.set_cons_zero, List.set_cons_succ])
                (refine wpAnyH_take (i := 1) (v := ?_) rfl (by kernel_rfl) (by kernel_rfl) (by kernel_rfl) (fun _ _ _ h => h) (Or.inl ⟨by rfl, ?_⟩) (by assumption) ?_; rotate_left; · (intro w hSw; (try dsimp only at hSw); go_simp; all_goals with_reducible rfl); (try simp only [Act.put, List.getElem_toArray, List.getElem_cons_zero, List.getElem_cons_succ, List.setIfInBounds_toArray, List.set_cons_zero, List.set_cons_succ]))
                (try simp only [Act.put, List.getElem_toArray, List.getElem_cons_zero, List.getElem_cons_succ, List.setIfInBounds_toArray, List.set_cons_zero, List.set_cons_succ])
                (refine wpAnyH_take (i := 2) (v := ?_) rfl (by kernel_rfl) (by kernel_rfl) (by kernel_rfl) (fun _ _ _ h => h) (Or.inl ⟨by rfl, ?_⟩) (by assumption) ?_; rotate_left; · (intro w hSw; (try dsimp only at hSw); go_simp; all_goals with_reducible rfl); (try simp only [Act.put, List.getElem_toArray, List.getElem_cons_zero, List.getElem_cons_succ, List.setIfInBounds_toArray, List.set_cons_zero, List.set_cons_succ]))
                (try simp only [Act.put, List.getElem_toArray, List.getElem_cons_zero, List.getElem_cons_succ, List.setIfInBounds_toArray, List.set_cons_zero, List.set_cons_succ])
                (refine wpAnyH_take (i := 3) (v := ?_) rfl (by kernel_rfl) (by kernel_rfl) (by kernel_rfl) (fun _ _ _ h => h) (Or.inl ⟨by rfl, ?_⟩) (by assumption) ?_; rotate_left; · (intro w hSw; (try dsimp only at hSw); go_simp; all_goals with_reducible rfl); (try simp only [Act.put, List.getElem_toArray, List.getElem_cons_zero, List.getElem_cons_succ, List.setIfInBounds_toArray, List.set_cons_zero, List.set_cons_succ]))
                (try simp only [Act.put, List.getElem_toArray, List.getElem_cons_zero, List.getElem_cons_succ, List.setIfInBounds_toArray, List.set_cons_zero, List.set_cons_succ])
                (refine wpAnyH_take (i := 4) (v := ?_) rfl (by kernel_rfl) (by kernel_rfl) (by kernel_rfl) (fun _ _ _ h => h) (Or.inl ⟨by rfl, ?_⟩) (by assumption) ?_; rotate_left; · (intro w hSw; (try dsimp only at hSw); go_simp; all_goals with_reducible rfl); (try simp only [Act.put, List.getElem_toArray, List.getElem_cons_zero, List.getElem_cons_succ, List.setIfInBounds_toArray, List.set_cons_zero, List.set_cons_succ]))
                (try simp only [Act.put, List.getElem_toArray, List.getElem_cons_zero, List.getElem_cons_succ, List.setIfInBounds_toArray, List.set_cons_zero, List.set_cons_succ])
                (refine wpAnyH_take (i := 5) (v := ?_) rfl (by kernel_rfl) (by kernel_rfl) (by kernel_rfl) (fun _ _ _ h => h) (Or.inl ⟨by rfl, ?_⟩) (by assumption) ?_; rotate_left; · (intro w hSw; (try dsimp only at hSw); go_simp; all_goals with_reducible rfl); (try simp only [Act.put, List.getElem_toArray, List.getElem_cons_zero, List.getElem_cons_succ, List.setIfInBounds_toArray, List.set_cons_zero, List.set_cons_succ]))
                (try simp only [Act.put, List.getElem_toArray, List.getElem_cons_zero, List.getElem_cons_succ, List.setIfInBounds_toArray, List.set_cons_zero, List.set_cons_succ])
                (refine wpAnyH_take (i := 6) (v := ?_) rfl (by kernel_rfl) (by kernel_rfl) (by kernel_rfl) (fun _ _ _ h => h) (Or.inl ⟨by rfl, ?_⟩) (by assumption) ?_; rotate_left; · (intro w hSw; (try dsimp only at hSw); go_simp; all_goals with_reducible rfl); (try simp only [Act.put, List.getElem_toArray, List.getElem_cons_zero, List.getElem_cons_succ, List.setIfInBounds_toArray, List.set_cons_zero, List.set_cons_succ]))
                (try simp only [Act.put, List.getElem_toArray, List.getElem_cons_zero, List.getElem_cons_succ, List.setIfInBounds_toArray, List.set_cons_zero, List.set_cons_succ])
                (refine wpAnyH_take (i := 7) (v := ?_) rfl (by kernel_rfl) (by kernel_rfl) (by kernel_rfl) (fun _ _ _ h => h) (Or.inl ⟨by rfl, ?_⟩) (by assumption) ?_; rotate_left; · (intro w hSw; (try dsimp only at hSw); go_simp; all_goals with_reducible rfl); (try simp only [Act.put, List.getElem_toArray, List.getElem_cons_zero, List.getElem_cons_succ, List.setIfInBounds_toArray, List.set_cons_zero, List.set_cons_succ]))
                (try simp only [Act.put, List.getElem_toArray, List.getElem_cons_zero, List.getElem_cons_succ, List.setIfInBounds_toArray, List.set_cons_zero, List.set_cons_succ])
                refine wpAnyH_ready (rs := [8]) (by kernel_rfl) (by simp) ?_
                refine AllReadyH.cons rfl (fun K hK => ?_) AllReadyH.nil
                obtain ⟨⟨c0, c1, c2, c3, c4⟩, f0, f1, f2, f3, f4⟩ := HSO.out.at_ HY0.out
                go_simp
                refine hK.out _ _ ⟨(SN.at_ (SN.ext (SN.put (i := s.1) (x := y') HSN.out hne1) (Ext.refl _).drew) HS0.out).1, (cells5 (Blk.ext (far_put5at (i := s.1) (x := y') HB27.out hne2) (Ext.refl _).drew)).1⟩ (fun hHeld => ?_)
                clear hK K
                (try simp only [Act.put, List.getElem_toArray, List.getElem_cons_zero, List.getElem_cons_succ, List.setIfInBounds_toArray, List.set_cons_zero, List.set_cons_succ])
                (refine wpAnyH_done (by kernel_rfl) ?_ _)
                have HSO8 : Hid (SB (((((w27.setCell ⟨bo, s.1 * 5, none⟩ (.int .i64 y'.n.a)).setCell ⟨bo, s.1 * 5 + 1, none⟩ (.int .i64 y'.n.b)).setCell ⟨bo, s.1 * 5 + 2, none⟩ (.int .i64 y'.n.c)).setCell ⟨bo, s.1 * 5 + 3, none⟩ (.int .i64 y'.n.d)).setCell ⟨bo, s.1 * 5 + 4, none⟩ (.int .i64 y'.e)).drew bo (o i (k + 1))) := by
                  unfold Hid
                  rw [HNX.out]
                  exact SB.ext (HSO.out.put (by rw [HOL.out]; exact HAT.out) y') (Ext.refl _).drew
                have HSN8 : Hid (SN (((((w27.setCell ⟨bo, s.1 * 5, none⟩ (.int .i64 y'.n.a)).setCell ⟨bo, s.1 * 5 + 1, none⟩ (.int .i64 y'.n.b)).setCell ⟨bo, s.1 * 5 + 2, none⟩ (.int .i64 y'.n.c)).setCell ⟨bo, s.1 * 5 + 3, none⟩ (.int .i64 y'.n.d)).setCell ⟨bo, s.1 * 5 + 4, none⟩ (.int .i64 y'.e)).drew b1 (sent g i)) := SN.ext (SN.put (i := s.1) (x := y') HSN.out hne1) (Ext.refl _).drew
                have HGB8 : Hid (GB w (((((w27.setCell ⟨bo, s.1 * 5, none⟩ (.int .i64 y'.n.a)).setCell ⟨bo, s.1 * 5 + 1, none⟩ (.int .i64 y'.n.b)).setCell ⟨bo, s.1 * 5 + 2, none⟩ (.int .i64 y'.n.c)).setCell ⟨bo, s.1 * 5 + 3, none⟩ (.int .i64 y'.n.d)).setCell ⟨bo, s.1 * 5 + 4, none⟩ (.int .i64 y'.e)).drew g) := GB.ext (HGB.out.put (i := s.1) (x := y') HBO.out) (Ext.refl _).drew
                clear c0 c1 c2 c3 c4 f0 f1 f2 f3 f4 hHeld HSO HSN HGB HK
                generalize (((((w27.setCell ⟨bo, s.1 * 5, none⟩ (.int .i64 y'.n.a)).setCell ⟨bo, s.1 * 5 + 1, none⟩ (.int .i64 y'.n.b)).setCell ⟨bo, s.1 * 5 + 2, none⟩ (.int .i64 y'.n.c)).setCell ⟨bo, s.1 * 5 + 3, none⟩ (.int .i64 y'.n.d)).setCell ⟨bo, s.1 * 5 + 4, none⟩ (.int .i64 y'.e)).drew = w8 at *
                go_wp2
                go_roundw
                case rel => exact ⟨k + 1, by first | rfl | rw [hj1] | rw [hj2], by have := HKT.out; omega, HSO8, HSN8, HGB8⟩
                case measure => simp [intOf, hj2]; have := HKT.out; omega
            · go_simp
              refine hK.out _ _ (HK.out _ (((Ext.refl wr).alloc _).drew)) (fun hHeld => ?_)
              clear hK K
              (try simp only [Act.put, List.getElem_toArray, List.getElem_cons_zero, List.getElem_cons_succ, List.setIfInBounds_toArray, List.set_cons_zero, List.set_cons_succ])
              refine wpAnyH_ready (rs := [9]) (by kernel_rfl) (by simp) ?_
              refine AllReadyH.cons rfl (fun K hK => ?_) AllReadyH.nil
              go_simp
              refine (HCM.out _).mono ?_
              rintro e w16 ⟨rfl, hy5⟩
              have HX16 : Hid (Ext wr w16) := Ext.trans ((Ext.refl wr).alloc (.cells #[.int .i64 0, .int .i64 0, .int .i64 0, .int .i64 0, .int .i64 0] 83)).drew hy5
              have HB16 : Hid (Blk w16 wr.heap.size 83 #[.int .i64 0, .int .i64 0, .int .i64 0, .int .i64 0, .int .i64 0]) := ((Blk.new wr 83 #[.int .i64 0, .int .i64 0, .int .i64 0, .int .i64 0, .int .i64 0]).ext ((Ext.refl _).drew)).ext hy5
              have hs16 : wr.heap.size ≤ wr.heap.size := Nat.le_refl _
              clear hy5
              refine hK.out _ _ (HK.out _ (HX16.out)) (fun hHeld => ?_)
              clear hK K
              (try simp only [Act.put, List.getElem_toArray, List.getElem_cons_zero, List.getElem_cons_succ, List.setIfInBounds_toArray, List.set_cons_zero, List.set_cons_succ])
              (refine wpAnyH_take (i := 10) (v := ?_) rfl (by kernel_rfl) (by kernel_rfl) (by kernel_rfl) (fun _ _ _ h => h) (Or.inl ⟨by rfl, ?_⟩) (by assumption) ?_; rotate_left; · (intro w hSw; (try dsimp only at hSw); go_simp; all_goals with_reducible rfl); (try simp only [Act.put, List.getElem_toArray, List.getElem_cons_zero, List.getElem_cons_succ, List.setIfInBounds_toArray, List.set_cons_zero, List.set_cons_succ]))
              (try simp only [Act.put, List.getElem_toArray, List.getElem_cons_zero, List.getElem_cons_succ, List.setIfInBounds_toArray, List.set_cons_zero, List.set_cons_succ])
              (refine wpAnyH_take (i := 11) (v := ?_) rfl (by kernel_rfl) (by kernel_rfl) (by kernel_rfl) (fun _ _ _ h => h) (Or.inl ⟨by rfl, ?_⟩) (by assumption) ?_; rotate_left; · (intro w hSw; (try dsimp only at hSw); go_simp; all_goals with_reducible rfl); (try simp only [Act.put, List.getElem_toArray, List.getElem_cons_zero, List.getElem_cons_succ, List.setIfInBounds_toArray, List.set_cons_zero, List.set_cons_succ]))
              (try simp only [Act.put, List.getElem_toArray, List.getElem_cons_zero, List.getElem_cons_succ, List.setIfInBounds_toArray, List.set_cons_zero, List.set_cons_succ])
              (refine wpAnyH_take (i := 12) (v := ?_) rfl (by kernel_rfl) (by kernel_rfl) (by kernel_rfl) (fun _ _ _ h => h) (Or.inl ⟨by rfl, ?_⟩) (by assumption) ?_; rotate_left; · (intro w hSw; (try dsimp only at hSw); go_simp; all_goals with_reducible rfl); (try simp only [Act.put, List.getElem_toArray, List.getElem_cons_zero, List.getElem_cons_succ, List.setIfInBounds_toArray, List.set_cons_zero, List.set_cons_succ]))
              (try simp only [Act.put, List.getElem_toArray, List.getElem_cons_zero, List.getElem_cons_succ, List.setIfInBounds_toArray, List.set_cons_zero, List.set_cons_succ])
              obtain ⟨s1, hs⟩ : ∃ s, s = wr.heap.size := ⟨_, rfl⟩
              rw [← hs] at HB16 ⊢
              replace hs16 : wr.heap.size ≤ s1 := by rw [hs]; exact Nat.le_refl _
              clear hs
              refine wpAnyH_ready (rs := [14]) (by kernel_rfl) (by simp) ?_
              refine AllReadyH.cons rfl (fun K hK => ?_) AllReadyH.nil
              obtain ⟨⟨q0, q1, q2, q3, q4⟩, f0, f1, f2, f3, f4⟩ := cells5 HB16.out
              go_simp
              have HX17 : Hid (Ext wr (((((w16.setCell ⟨s1, 0, none⟩ (.int .i64 z.n.a)).setCell ⟨s1, 1, none⟩ (.int .i64 z.n.b)).setCell ⟨s1, 2, none⟩ (.int .i64 z.n.c)).setCell ⟨s1, 3, none⟩ (.int .i64 z.n.d)).setCell ⟨s1, 4, none⟩ (.int .i64 z.e))) := ext_put5 (g := s1) HX16.out hs16 _ _ _ _ _
              have HB17 : Hid (Blk (((((w16.setCell ⟨s1, 0, none⟩ (.int .i64 z.n.a)).setCell ⟨s1, 1, none⟩ (.int .i64 z.n.b)).setCell ⟨s1, 2, none⟩ (.int .i64 z.n.c)).setCell ⟨s1, 3, none⟩ (.int .i64 z.n.d)).setCell ⟨s1, 4, none⟩ (.int .i64 z.e)) s1 83 #[.int .i64 z.n.a, .int .i64 z.n.b, .int .i64 z.n.c, .int .i64 z.n.d, .int .i64 z.e]) := HB16.out.put5 _ _ _ _ _
              refine hK.out _ _ (HK.out _ (HX17.out)) (fun hHeld => ?_)
              clear hK K
              (try simp only [Act.put, List.getElem_toArray, List.getElem_cons_zero, List.getElem_cons_succ, List.setIfInBounds_toArray, List.set_cons_zero, List.set_cons_succ])
              (refine wpAnyH_take (i := 15) (v := ?_) rfl (by kernel_rfl) (by kernel_rfl) (by kernel_rfl) (fun _ _ _ h => h) (Or.inl ⟨by rfl, ?_⟩) (by assumption) ?_; rotate_left; · (intro w hSw; (try dsimp only at hSw); go_simp; all_goals with_reducible rfl); (try simp only [Act.put, List.getElem_toArray, List.getElem_cons_zero, List.getElem_cons_succ, List.setIfInBounds_toArray, List.set_cons_zero, List.set_cons_succ]))
              (refine wpAnyH_done (by kernel_rfl) ?_ _)
              clear q0 q1 q2 q3 q4 f0 f1 f2 f3 f4 hHeld
              generalize (((((w16.setCell ⟨s1, 0, none⟩ (.int .i64 z.n.a)).setCell ⟨s1, 1, none⟩ (.int .i64 z.n.b)).setCell ⟨s1, 2, none⟩ (.int .i64 z.n.c)).setCell ⟨s1, 3, none⟩ (.int .i64 z.n.d)).setCell ⟨s1, 4, none⟩ (.int .i64 z.e)) = w17 at *
              clear HX16 HB16 HK
              have HSO1 := Lib.hid (HSO0.out.ext HX17.out)
              have HSN1 := Lib.hid (HSN0.out.ext HX17.out)
              have HGB1 := Lib.hid (HGB0.out.ext HX17.out)
              clear HX17
              have HK : Hid (∀ w', Ext w17 w' → (w'.cell? ⟨b1, k * 6, none⟩ = some (.int .i64 s.1) ∧ w'.cell? ⟨b1, k * 6 + 1, none⟩ = some (.int .i64 s.2.n.a) ∧ w'.cell? ⟨b1, k * 6 + 2, none⟩ = some (.int .i64 s.2.n.b) ∧ w'.cell? ⟨b1, k * 6 + 3, none⟩ = some (.int .i64 s.2.n.c) ∧ w'.cell? ⟨b1, k * 6 + 4, none⟩ = some (.int .i64 s.2.n.d) ∧ w'.cell? ⟨b1, k * 6 + 5, none⟩ = some (.int .i64 s.2.e)) ∧ (w'.cell? ⟨bo, s.1 * 5, none⟩ = some (.int .i64 y.n.a) ∧ w'.cell? ⟨bo, s.1 * 5 + 1, none⟩ = some (.int .i64 y.n.b) ∧ w'.cell? ⟨bo, s.1 * 5 + 2, none⟩ = some (.int .i64 y.n.c) ∧ w'.cell? ⟨bo, s.1 * 5 + 3, none⟩ = some (.int .i64 y.n.d) ∧ w'.cell? ⟨bo, s.1 * 5 + 4, none⟩ = some (.int .i64 y.e)) ∧ (w'.cell? ⟨s1, 0, none⟩ = some (.int .i64 z.n.a) ∧ w'.cell? ⟨s1, 1, none⟩ = some (.int .i64 z.n.b) ∧ w'.cell? ⟨s1, 2, none⟩ = some (.int .i64 z.n.c) ∧ w'.cell? ⟨s1, 3, none⟩ = some (.int .i64 z.n.d) ∧ w'.cell? ⟨s1, 4, none⟩ = some (.int .i64 z.e))) := fun w' hx => ⟨SN.at_ (HSN1.out.ext hx) HS0.out, (SB.at_ (HSO1.out.ext hx) HY0.out).1, (cells5 (HB17.out.ext hx)).1⟩
              have HBO1 : Hid (bo < w17.heap.size) := by obtain ⟨cs, hcs, -⟩ := HSO1.out; exact hcs.lt
              have hat : s.1 < l := HAT.out
              go_upto_region 13 with (fail)
              refine wp_region_held_drew (S := fun w' => (w'.cell? ⟨b1, k * 6, none⟩ = some (.int .i64 s.1) ∧ w'.cell? ⟨b1, k * 6 + 1, none⟩ = some (.int .i64 s.2.n.a) ∧ w'.cell? ⟨b1, k * 6 + 2, none⟩ = some (.int .i64 s.2.n.b) ∧ w'.cell? ⟨b1, k * 6 + 3, none⟩ = some (.int .i64 s.2.n.c) ∧ w'.cell? ⟨b1, k * 6 + 4, none⟩ = some (.int .i64 s.2.n.d) ∧ w'.cell? ⟨b1, k * 6 + 5, none⟩ = some (.int .i64 s.2.e)) ∧ (w'.cell? ⟨bo, s.1 * 5, none⟩ = some (.int .i64 y.n.a) ∧ w'.cell? ⟨bo, s.1 * 5 + 1, none⟩ = some (.int .i64 y.n.b) ∧ w'.cell? ⟨bo, s.1 * 5 + 2, none⟩ = some (.int .i64 y.n.c) ∧ w'.cell? ⟨bo, s.1 * 5 + 3, none⟩ = some (.int .i64 y.n.d) ∧ w'.cell? ⟨bo, s.1 * 5 + 4, none⟩ = some (.int .i64 y.e)) ∧ (w'.cell? ⟨s1, 0, none⟩ = some (.int .i64 z.n.a) ∧ w'.cell? ⟨s1, 1, none⟩ = some (.int .i64 z.n.b) ∧ w'.cell? ⟨s1, 2, none⟩ = some (.int .i64 z.n.c) ∧ w'.cell? ⟨s1, 3, none⟩ = some (.int .i64 z.n.d) ∧ w'.cell? ⟨s1, 4, none⟩ = some (.int .i64 z.e))) (by kernel_rfl) (HK.out _ (Ext.refl w17).drew) (fun hHeld => ?_)
              (refine wpAnyH_take (i := 0) (v := ?_) rfl (by kernel_rfl) (by kernel_rfl) (by kernel_rfl) (fun _ _ _ h => h) (Or.inl ⟨by rfl, ?_⟩) (by assumption) ?_; rotate_left; · (intro w hSw; (try dsimp only at hSw); go_simp; all_goals with_reducible rfl); (try simp only [Act.put, List.getElem_toArray, List.getElem_cons_zero, List.getElem_cons_succ, List.setIfInBounds_toArray, List.set_cons_zero, List.set_cons_succ]))
              (try simp only [Act.put, List.getElem_toArray, List.getElem_cons_zero, List.getElem_cons_succ, List.setIfInBounds_toArray, List.set_cons_zero, List.set_cons_succ])
              (refine wpAnyH_take (i := 1) (v := ?_) rfl (by kernel_rfl) (by kernel_rfl) (by kernel_rfl) (fun _ _ _ h => h) (Or.inl ⟨by rfl, ?_⟩) (by assumption) ?_; rotate_left; · (intro w hSw; (try dsimp only at hSw); go_simp; all_goals with_reducible rfl); (try simp only [Act.put, List.getElem_toArray, List.getElem_cons_zero, List.getElem_cons_succ, List.setIfInBounds_toArray, List.set_cons_zero, List.set_cons_succ]))
              (try simp only [Act.put, List.getElem_toArray, List.getElem_cons_zero, List.getElem_cons_succ, List.setIfInBounds_toArray, List.set_cons_zero, List.set_cons_succ])
              (refine wpAnyH_take (i := 2) (v := ?_) rfl (by kernel_rfl) (by kernel_rfl) (by kernel_rfl) (fun _ _ _ h => h) (Or.inl ⟨by rfl, ?_⟩) (by assumption) ?_; rotate_left; · (intro w hSw; (try dsimp only at hSw); go_simp; all_goals with_reducible rfl); (try simp only [Act.put, List.getElem_toArray, List.getElem_cons_zero, List.getElem_cons_succ, List.setIfInBounds_toArray, List.set_cons_zero, List.set_cons_succ]))
              (try simp only [Act.put, List.getElem_toArray, List.getElem_cons_zero, List.getElem_cons_succ, List.setIfInBounds_toArray, List.set_cons_zero, List.set_cons_succ])
              (refine wpAnyH_take (i := 3) (v := ?_) rfl (by kernel_rfl) (by kernel_rfl) (by kernel_rfl) (fun _ _ _ h => h) (Or.inl ⟨by rfl, ?_⟩) (by assumption) ?_; rotate_left; · (intro w hSw; (try dsimp only at hSw); go_simp; all_goals with_reducible rfl); (try simp only [Act.put, List.getElem_toArray, List.getElem_cons_zero, List.getElem_cons_succ, List.setIfInBounds_toArray, List.set_cons_zero, List.set_cons_succ]))
              (try simp only [Act.put, List.getElem_toArray, List.getElem_cons_zero, List.getElem_cons_succ, List.setIfInBounds_toArray, List.set_cons_zero, List.set_cons_succ])
              (refine wpAnyH_take (i := 4) (v := ?_) rfl (by kernel_rfl) (by kernel_rfl) (by kernel_rfl) (fun _ _ _ h => h) (Or.inl ⟨by rfl, ?_⟩) (by assumption) ?_; rotate_left; · (intro w hSw; (try dsimp only at hSw); go_simp; all_goals with_reducible rfl); (try simp only [Act.put, List.getElem_toArray, List.getElem_cons_zero, List.getElem_cons_succ, List.setIfInBounds_toArray, List.set_cons_zero, List.set_cons_succ]))
              (try simp only [Act.put, List.getElem_toArray, List.getElem_cons_zero, List.getElem_cons_succ, List.setIfInBounds_toArray, List.set_cons_zero, List.set_cons_succ])
              (refine wpAnyH_take (i := 5) (v := ?_) rfl (by kernel_rfl) (by kernel_rfl) (by kernel_rfl) (fun _ _ _ h => h) (Or.inl ⟨by rfl, ?_⟩) (by assumption) ?_; rotate_left; · (intro w hSw; (try dsimp only at hSw); go_simp; all_goals with_reducible rfl); (try simp only [Act.put, List.getElem_toArray, List.getElem_cons_zero, List.getElem_cons_succ, List.setIfInBounds_toArray, List.set_cons_zero, List.set_cons_succ]))
              (try simp only [Act.put, List.getElem_toArray, List.getElem_cons_zero, List.getElem_cons_succ, List.setIfInBounds_toArray, List.set_cons_zero, List.set_cons_succ])
              (refine wpAnyH_take (i := 6) (v := ?_) rfl (by kernel_rfl) (by kernel_rfl) (by kernel_rfl) (fun _ _ _ h => h) (Or.inl ⟨by rfl, ?_⟩) (by assumption) ?_; rotate_left; · (intro w hSw; (try dsimp only at hSw); go_simp; all_goals with_reducible rfl); (try simp only [Act.put, List.getElem_toArray, List.getElem_cons_zero, List.getElem_cons_succ, List.setIfInBounds_toArray, List.set_cons_zero, List.set_cons_succ]))
              (try simp only [Act.put, List.getElem_toArray, List.getElem_cons_zero, List.getElem_cons_succ, List.setIfInBounds_toArray, List.set_cons_zero, List.set_cons_succ])
              (refine wpAnyH_take (i := 7) (v := ?_) rfl (by kernel_rfl) (by kernel_rfl) (by kernel_rfl) (fun _ _ _ h => h) (Or.inl ⟨by rfl, ?_⟩) (by assumption) ?_; rotate_left; · (intro w hSw; (try dsimp only at hSw); go_simp; all_goals with_reducible rfl); (try simp only [Act.put, List.getElem_toArray, List.getElem_cons_zero, List.getElem_cons_succ, List.setIfInBounds_toArray, List.set_cons_zero, List.set_cons_succ]))
              (try simp only [Act.put, List.getElem_toArray, List.getElem_cons_zero, List.getElem_cons_succ, List.setIfInBounds_toArray, List.set_cons_zero, List.set_cons_succ])
              (refine wpAnyH_take (i := 8) (v := ?_) rfl (by kernel_rfl) (by kernel_rfl) (by kernel_rfl) (fun _ _ _ h => h) (Or.inl ⟨by rfl, ?_⟩) (by assumption) ?_; rotate_left; · (intro w hSw; (try dsimp only at hSw); go_simp; all_goals with_reducible rfl); (try simp only [Act.put, List.getElem_toArray, List.getElem_cons_zero, List.getElem_cons_succ, List.setIfInBounds_toArray, List.set_cons_zero, List.set_cons_succ]))
              (try simp only [Act.put, List.getElem_toArray, List.getElem_cons_zero, List.getElem_cons_succ, List.setIfInBounds_toArray, List.set_cons_zero, List.set_cons_succ])
              refine wpAnyH_ready (rs := [9, 13]) (by kernel_rfl) (by simp) ?_
              refine AllReadyH.cons rfl (fun K hK => ?_) (AllReadyH.cons rfl (fun K hK => ?_) AllReadyH.nil)
              · go_simp
                refine (HCA.out _).mono ?_
                rintro e v25 ⟨rfl, hy5⟩
                have HY5 : Hid (Ext w17 v25) := Ext.trans (Ext.refl w17).drew hy5
                clear hy5
                refine hK.out _ _ (HK.out _ (HY5.out)) (fun hHeld => ?_)
                clear hK K
                (try simp only [Act.put, List.getElem_toArray, List.getElem_cons_zero, List.getElem_cons_succ, List.setIfInBounds_toArray, List.set_cons_zero, List.set_cons_succ])
                (refine wpAnyH_take (i := 10) (v := ?_) rfl (by kernel_rfl) (by kernel_rfl) (by kernel_rfl) (fun _ _ _ h => h) (Or.inl ⟨by rfl, ?_⟩) (by assumption) ?_; rotate_left; · (intro w hSw; (try dsimp only at hSw); go_simp; all_goals with_reducible rfl); (try simp only [Act.put, List.getElem_toArray, List.getElem_cons_zero, List.getElem_cons_succ, List.setIfInBounds_toArray, List.set_cons_zero, List.set_cons_succ]))
                (try simp only [Act.put, List.getElem_toArray, List.getElem_cons_zero, List.getElem_cons_succ, List.setIfInBounds_toArray, List.set_cons_zero, List.set_cons_succ])
                (refine wpAnyH_take (i := 11) (v := ?_) rfl (by kernel_rfl) (by kernel_rfl) (by kernel_rfl) (fun _ _ _ h => h) (Or.inl ⟨by rfl, ?_⟩) (by assumption) ?_; rotate_left; · (intro w hSw; (try dsimp only at hSw); go_simp; all_goals with_reducible rfl); (try simp only [Act.put, List.getElem_toArray, List.getElem_cons_zero, List.getElem_cons_succ, List.setIfInBounds_toArray, List.set_cons_zero, List.set_cons_succ]))
                (try simp only [Act.put, List.getElem_toArray, List.getElem_cons_zero, List.getElem_cons_succ, List.setIfInBounds_toArray, List.set_cons_zero, List.set_cons_succ])
                (refine wpAnyH_take (i := 12) (v := ?_) rfl (by kernel_rfl) (by kernel_rfl) (by kernel_rfl) (fun _ _ _ h => h) (Or.inl ⟨by rfl, ?_⟩) (by assumption) ?_; rotate_left; · (intro w hSw; (try dsimp only at hSw); go_simp; all_goals with_reducible rfl); (try simp only [Act.put, List.getElem_toArray, List.getElem_cons_zero, List.getElem_cons_succ, List.setIfInBounds_toArray, List.set_cons_zero, List.set_cons_succ]))
                (try simp only [Act.put, List.getElem_toArray, List.getElem_cons_zero, List.getElem_cons_succ, List.setIfInBounds_toArray, List.set_cons_zero, List.set_cons_succ])
                refine wpAnyH_ready (rs := [13]) (by kernel_rfl) (by simp) ?_
                refine AllReadyH.cons rfl (fun K hK => ?_) AllReadyH.nil
                go_simp
                have HX26 : Hid (Ext w17 (v25.alloc (.cells #[.int .i64 0, .int .i64 0, .int .i64 0, .int .i64 0, .int .i64 0] 83))) := HY5.out.alloc _
                have HB26 : Hid (Blk (v25.alloc (.cells #[.int .i64 0, .int .i64 0, .int .i64 0, .int .i64 0, .int .i64 0] 83)) v25.heap.size 83 #[.int .i64 0, .int .i64 0, .int .i64 0, .int .i64 0, .int .i64 0]) := Blk.new _ _ _
                have hs26 : w17.heap.size ≤ v25.heap.size := HY5.out.size
                refine hK.out _ _ (HK.out _ (HX26.out)) (fun hHeld => ?_)
                clear hK K
                (try simp only [Act.put, List.getElem_toArray, List.getElem_cons_zero, List.getElem_cons_succ, List.setIfInBounds_toArray, List.set_cons_zero, List.set_cons_succ])
                generalize v25.alloc (.cells #[.int .i64 0, .int .i64 0, .int .i64 0, .int .i64 0, .int .i64 0] 83) = w26 at *
                generalize v25.heap.size = s2 at *
                clear HY5
                refine wpAnyH_ready (rs := [14]) (by kernel_rfl) (by simp) ?_
                refine AllReadyH.cons rfl (fun K hK => ?_) AllReadyH.nil
                obtain ⟨⟨q0, q1, q2, q3, q4⟩, f0, f1, f2, f3, f4⟩ := cells5 HB26.out
                go_simp
                have HX27 : Hid (Ext w17 (((((w26.setCell ⟨s2, 0, none⟩ (.int .i64 y'.n.a)).setCell ⟨s2, 1, none⟩ (.int .i64 y'.n.b)).setCell ⟨s2, 2, none⟩ (.int .i64 y'.n.c)).setCell ⟨s2, 3, none⟩ (.int .i64 y'.n.d)).setCell ⟨s2, 4, none⟩ (.int .i64 y'.e))) := ext_put5 (g := s2) HX26.out hs26 _ _ _ _ _
                have HB27 : Hid (Blk (((((w26.setCell ⟨s2, 0, none⟩ (.int .i64 y'.n.a)).setCell ⟨s2, 1, none⟩ (.int .i64 y'.n.b)).setCell ⟨s2, 2, none⟩ (.int .i64 y'.n.c)).setCell ⟨s2, 3, none⟩ (.int .i64 y'.n.d)).setCell ⟨s2, 4, none⟩ (.int .i64 y'.e)) s2 83 #[.int .i64 y'.n.a, .int .i64 y'.n.b, .int .i64 y'.n.c, .int .i64 y'.n.d, .int .i64 y'.e]) := HB26.out.put5 _ _ _ _ _
                refine hK.out _ _ (HK.out _ (HX27.out)) (fun hHeld => ?_)
                clear hK K
                (try simp only [Act.put, List.getElem_toArray, List.getElem_cons_zero, List.getElem_cons_succ, List.setIfInBounds_toArray, List.set_cons_zero, List.set_cons_succ])
                (refine wpAnyH_take (i := 15) (v := ?_) rfl (by kernel_rfl) (by kernel_rfl) (by kernel_rfl) (fun _ _ _ h => h) (Or.inl ⟨by rfl, ?_⟩) (by assumption) ?_; rotate_left; · (intro w hSw; (try dsimp only at hSw); go_simp; all_goals with_reducible rfl); (try simp only [Act.put, List.getElem_toArray, List.getElem_cons_zero, List.getElem_cons_succ, List.setIfInBounds_toArray, List.set_cons_zero, List.set_cons_succ]))
                (refine wpAnyH_done (by kernel_rfl) ?_ _)
                clear q0 q1 q2 q3 q4 f0 f1 f2 f3 f4 hHeld
                generalize (((((w26.setCell ⟨s2, 0, none⟩ (.int .i64 y'.n.a)).setCell ⟨s2, 1, none⟩ (.int .i64 y'.n.b)).setCell ⟨s2, 2, none⟩ (.int .i64 y'.n.c)).setCell ⟨s2, 3, none⟩ (.int .i64 y'.n.d)).setCell ⟨s2, 4, none⟩ (.int .i64 y'.e)) = w27 at *
                clear HX26 HB26 HK
                obtain ⟨⟨t0, t1, t2, t3, t4⟩, -⟩ := cells5 HB27.out
                go_upto_region 16 with (fail)
                clear t0 t1 t2 t3 t4
                have HSO := Lib.hid (HSO1.out.ext HX27.out)
                have HSN := Lib.hid (HSN1.out.ext HX27.out)
                have HGB := Lib.hid (HGB1.out.ext HX27.out)
                have hne1 : b1 ≠ bo := by obtain ⟨cs, hcs, -⟩ := HSO.out; exact SN.ne HSN.out hcs
                have hne2 : s2 ≠ bo := by have := HBO1.out; omega
                have HK : Hid (∀ w', Ext w27 w' → w'.cell? ⟨b1, k * 6, none⟩ = some (.int .i64 s.1) ∧ (w'.cell? ⟨s2, 0, none⟩ = some (.int .i64 y'.n.a) ∧ w'.cell? ⟨s2, 1, none⟩ = some (.int .i64 y'.n.b) ∧ w'.cell? ⟨s2, 2, none⟩ = some (.int .i64 y'.n.c) ∧ w'.cell? ⟨s2, 3, none⟩ = some (.int .i64 y'.n.d) ∧ w'.cell? ⟨s2, 4, none⟩ = some (.int .i64 y'.e))) := fun w' hx => ⟨(SN.at_ (HSN.out.ext hx) HS0.out).1, (cells5 (HB27.out.ext hx)).1⟩
                refine wp_region_held_drew (S := fun w' => w'.cell? ⟨b1, k * 6, none⟩ = some (.int .i64 s.1) ∧ (w'.cell? ⟨s2, 0, none⟩ = some (.int .i64 y'.n.a) ∧ w'.cell? ⟨s2, 1, none⟩ = some (.int .i64 y'.n.b) ∧ w'.cell? ⟨s2, 2, none⟩ = some (.int .i64 y'.n.c) ∧ w'.cell? ⟨s2, 3, none⟩ = some (.int .i64 y'.n.d) ∧ w'.cell? ⟨s2, 4, none⟩ = some (.int .i64 y'.e))) (by kernel_rfl) (HK.out _ (Ext.refl w27).drew) (fun hHeld => ?_)
                (refine wpAnyH_take (i := 0) (v := ?_) rfl (by kernel_rfl) (by kernel_rfl) (by kernel_rfl) (fun _ _ _ h => h) (Or.inl ⟨by rfl, ?_⟩) (by assumption) ?_; rotate_left; · (intro w hSw; (try dsimp only at hSw); go_simp; all_goals with_reducible rfl); (try simp only [Act.put, List.getElem_toArray, List.getElem_cons_zero, List.getElem_cons_succ, List.setIfInBounds_toArray, List.set_cons_zero, List.set_cons_succ]))
                (try simp only [Act.put, List.getElem_toArray, List.getElem_cons_zero, List.getElem_cons_succ, List.setIfInBounds_toArray, List.set_cons_zero, List.set_cons_succ])
                (refine wpAnyH_take (i := 1) (v := ?_) rfl (by kernel_rfl) (by kernel_rfl) (by kernel_rfl) (fun _ _ _ h => h) (Or.inl ⟨by rfl, ?_⟩) (by assumption) ?_; rotate_left; · (intro w hSw; (try dsimp only at hSw); go_simp; all_goals with_reducible rfl); (try simp only [Act.put, List.getElem_toArray, List.getElem_cons_zero, List.getElem_cons_succ, List.setIfInBounds_toArray, List.set_cons_zero, List.set_cons_succ]))
                (try simp only [Act.put, List.getElem_toArray, List.getElem_cons_zero, List.getElem_cons_succ, List.setIfInBounds_toArray, List.set_cons_zero, List.set_cons_succ])
                (refine wpAnyH_take (i := 2) (v := ?_) rfl (by kernel_rfl) (by kernel_rfl) (by kernel_rfl) (fun _ _ _ h => h) (Or.inl ⟨by rfl, ?_⟩) (by assumption) ?_; rotate_left; · (intro w hSw; (try dsimp only at hSw); go_simp; all_goals with_reducible rfl); (try simp only [Act.put, List.getElem_toArray, List.getElem_cons_zero, List.getElem_cons_succ, List.setIfInBounds_toArray, List.set_cons_zero, List.set_cons_succ]))
                (try simp only [Act.put, List.getElem_toArray, List.getElem_cons_zero, List.getElem_cons_succ, List.setIfInBounds_toArray, List.set_cons_zero, List.set_cons_succ])
                (refine wpAnyH_take (i := 3) (v := ?_) rfl (by kernel_rfl) (by kernel_rfl) (by kernel_rfl) (fun _ _ _ h => h) (Or.inl ⟨by rfl, ?_⟩) (by assumption) ?_; rotate_left; · (intro w hSw; (try dsimp only at hSw); go_simp; all_goals with_reducible rfl); (try simp only [Act.put, List.getElem_toArray, List.getElem_cons_zero, List.getElem_cons_succ, List.setIfInBounds_toArray, List.set_cons_zero, List.set_cons_succ]))
                (try simp only [Act.put, List.getElem_toArray, List.getElem_cons_zero, List.getElem_cons_succ, List.setIfInBounds_toArray, List.set_cons_zero, List.set_cons_succ])
                (refine wpAnyH_take (i := 4) (v := ?_) rfl (by kernel_rfl) (by kernel_rfl) (by kernel_rfl) (fun _ _ _ h => h) (Or.inl ⟨by rfl, ?_⟩) (by assumption) ?_; rotate_left; · (intro w hSw; (try dsimp only at hSw); go_simp; all_goals with_reducible rfl); (try simp only [Act.put, List.getElem_toArray, List.getElem_cons_zero, List.getElem_cons_succ, List.setIfInBounds_toArray, List.set_cons_zero, List.set_cons_succ]))
                (try simp only [Act.put, List.getElem_toArray, List.getElem_cons_zero, List.getElem_cons_succ, List.setIfInBounds_toArray, List.set_cons_zero, List.set_cons_succ])
                (refine wpAnyH_take (i := 5) (v := ?_) rfl (by kernel_rfl) (by kernel_rfl) (by kernel_rfl) (fun _ _ _ h => h) (Or.inl ⟨by rfl, ?_⟩) (by assumption) ?_; rotate_left; · (intro w hSw; (try dsimp only at hSw); go_simp; all_goals with_reducible rfl); (try simp only [Act.put, List.getElem_toArray, List.getElem_cons_zero, List.getElem_cons_succ, List.setIfInBounds_toArray, List.set_cons_zero, List.set_cons_succ]))
                (try simp only [Act.put, List.getElem_toArray, List.getElem_cons_zero, List.getElem_cons_succ, List.setIfInBounds_toArray, List.set_cons_zero, List.set_cons_succ])
                (refine wpAnyH_take (i := 6) (v := ?_) rfl (by kernel_rfl) (by kernel_rfl) (by kernel_rfl) (fun _ _ _ h => h) (Or.inl ⟨by rfl, ?_⟩) (by assumption) ?_; rotate_left; · (intro w hSw; (try dsimp only at hSw); go_simp; all_goals with_reducible rfl); (try simp only [Act.put, List.getElem_toArray, List.getElem_cons_zero, List.getElem_cons_succ, List.setIfInBounds_toArray, List.set_cons_zero, List.set_cons_succ]))
                (try simp only [Act.put, List.getElem_toArray, List.getElem_cons_zero, List.getElem_cons_succ, List.setIfInBounds_toArray, List.set_cons_zero, List.set_cons_succ])
                (refine wpAnyH_take (i := 7) (v := ?_) rfl (by kernel_rfl) (by kernel_rfl) (by kernel_rfl) (fun _ _ _ h => h) (Or.inl ⟨by rfl, ?_⟩) (by assumption) ?_; rotate_left; · (intro w hSw; (try dsimp only at hSw); go_simp; all_goals with_reducible rfl); (try simp only [Act.put, List.getElem_toArray, List.getElem_cons_zero, List.getElem_cons_succ, List.setIfInBounds_toArray, List.set_cons_zero, List.set_cons_succ]))
                (try simp only [Act.put, List.getElem_toArray, List.getElem_cons_zero, List.getElem_cons_succ, List.setIfInBounds_toArray, List.set_cons_zero, List.set_cons_succ])
                refine wpAnyH_ready (rs := [8]) (by kernel_rfl) (by simp) ?_
                refine AllReadyH.cons rfl (fun K hK => ?_) AllReadyH.nil
                obtain ⟨⟨c0, c1, c2, c3, c4⟩, f0, f1, f2, f3, f4⟩ := HSO.out.at_ HY0.out
                go_simp
                refine hK.out _ _ ⟨(SN.at_ (SN.ext (SN.put (i := s.1) (x := y') HSN.out hne1) (Ext.refl _).drew) HS0.out).1, (cells5 (Blk.ext (far_put5at (i := s.1) (x := y') HB27.out hne2) (Ext.refl _).drew)).1⟩ (fun hHeld => ?_)
                clear hK K
                (try simp only [Act.put, List.getElem_toArray, List.getElem_cons_zero, List.getElem_cons_succ, List.setIfInBounds_toArray, List.set_cons_zero, List.set_cons_succ])
                (refine wpAnyH_done (by kernel_rfl) ?_ _)
                have HSO8 : Hid (SB (((((w27.setCell ⟨bo, s.1 * 5, none⟩ (.int .i64 y'.n.a)).setCell ⟨bo, s.1 * 5 + 1, none⟩ (.int .i64 y'.n.b)).setCell ⟨bo, s.1 * 5 + 2, none⟩ (.int .i64 y'.n.c)).setCell ⟨bo, s.1 * 5 + 3, none⟩ (.int .i64 y'.n.d)).setCell ⟨bo, s.1 * 5 + 4, none⟩ (.int .i64 y'.e)).drew bo (o i (k + 1))) := by
                  unfold Hid
                  rw [HNX.out]
                  exact SB.ext (HSO.out.put (by rw [HOL.out]; exact HAT.out) y') (Ext.refl _).drew
                have HSN8 : Hid (SN (((((w27.setCell ⟨bo, s.1 * 5, none⟩ (.int .i64 y'.n.a)).setCell ⟨bo, s.1 * 5 + 1, none⟩ (.int .i64 y'.n.b)).setCell ⟨bo, s.1 * 5 + 2, none⟩ (.int .i64 y'.n.c)).setCell ⟨bo, s.1 * 5 + 3, none⟩ (.int .i64 y'.n.d)).setCell ⟨bo, s.1 * 5 + 4, none⟩ (.int .i64 y'.e)).drew b1 (sent g i)) := SN.ext (SN.put (i := s.1) (x := y') HSN.out hne1) (Ext.refl _).drew
                have HGB8 : Hid (GB w (((((w27.setCell ⟨bo, s.1 * 5, none⟩ (.int .i64 y'.n.a)).setCell ⟨bo, s.1 * 5 + 1, none⟩ (.int .i64 y'.n.b)).setCell ⟨bo, s.1 * 5 + 2, none⟩ (.int .i64 y'.n.c)).setCell ⟨bo, s.1 * 5 + 3, none⟩ (.int .i64 y'.n.d)).setCell ⟨bo, s.1 * 5 + 4, none⟩ (.int .i64 y'.e)).drew g) := GB.ext (HGB.out.put (i := s.1) (x := y') HBO.out) (Ext.refl _).drew
                clear c0 c1 c2 c3 c4 f0 f1 f2 f3 f4 hHeld HSO HSN HGB HK
                generalize (((((w27.setCell ⟨bo, s.1 * 5, none⟩ (.int .i64 y'.n.a)).setCell ⟨bo, s.1 * 5 + 1, none⟩ (.int .i64 y'.n.b)).setCell ⟨bo, s.1 * 5 + 2, none⟩ (.int .i64 y'.n.c)).setCell ⟨bo, s.1 * 5 + 3, none⟩ (.int .i64 y'.n.d)).setCell ⟨bo, s.1 * 5 + 4, none⟩ (.int .i64 y'.e)).drew = w8 at *
                go_wp2
                go_roundw
                case rel => exact ⟨k + 1, by first | rfl | rw [hj1] | rw [hj2], by have := HKT.out; omega, HSO8, HSN8, HGB8⟩
                case measure => simp [intOf, hj2]; have := HKT.out; omega
              · go_simp
                refine hK.out _ _ (HK.out _ (((Ext.refl w17).alloc _).drew)) (fun hHeld => ?_)
                clear hK K
                (try simp only [Act.put, List.getElem_toArray, List.getElem_cons_zero, List.getElem_cons_succ, List.setIfInBounds_toArray, List.set_cons_zero, List.set_cons_succ])
                refine wpAnyH_ready (rs := [9]) (by kernel_rfl) (by simp) ?_
                refine AllReadyH.cons rfl (fun K hK => ?_) AllReadyH.nil
                go_simp
                refine (HCA.out _).mono ?_
                rintro e w26 ⟨rfl, hy5⟩
                have HX26 : Hid (Ext w17 w26) := Ext.trans ((Ext.refl w17).alloc (.cells #[.int .i64 0, .int .i64 0, .int .i64 0, .int .i64 0, .int .i64 0] 83)).drew hy5
                have HB26 : Hid (Blk w26 w17.heap.size 83 #[.int .i64 0, .int .i64 0, .int .i64 0, .int .i64 0, .int .i64 0]) := ((Blk.new w17 83 #[.int .i64 0, .int .i64 0, .int .i64 0, .int .i64 0, .int .i64 0]).ext ((Ext.refl _).drew)).ext hy5
                have hs26 : w17.heap.size ≤ w17.heap.size := Nat.le_refl _
                clear hy5
                refine hK.out _ _ (HK.out _ (HX26.out)) (fun hHeld => ?_)
                clear hK K
                (try simp only [Act.put, List.getElem_toArray, List.getElem_cons_zero, List.getElem_cons_succ, List.setIfInBounds_toArray, List.set_cons_zero, List.set_cons_succ])
                (refine wpAnyH_take (i := 10) (v := ?_) rfl (by kernel_rfl) (by kernel_rfl) (by kernel_rfl) (fun _ _ _ h => h) (Or.inl ⟨by rfl, ?_⟩) (by assumption) ?_; rotate_left; · (intro w hSw; (try dsimp only at hSw); go_simp; all_goals with_reducible rfl); (try simp only [Act.put, List.getElem_toArray, List.getElem_cons_zero, List.getElem_cons_succ, List.setIfInBounds_toArray, List.set_cons_zero, List.set_cons_succ]))
                (try simp only [Act.put, List.getElem_toArray, List.getElem_cons_zero, List.getElem_cons_succ, List.setIfInBounds_toArray, List.set_cons_zero, List.set_cons_succ])
                (refine wpAnyH_take (i := 11) (v := ?_) rfl (by kernel_rfl) (by kernel_rfl) (by kernel_rfl) (fun _ _ _ h => h) (Or.inl ⟨by rfl, ?_⟩) (by assumption) ?_; rotate_left; · (intro w hSw; (try dsimp only at hSw); go_simp; all_goals with_reducible rfl); (try simp only [Act.put, List.getElem_toArray, List.getElem_cons_zero, List.getElem_cons_succ, List.setIfInBounds_toArray, List.set_cons_zero, List.set_cons_succ]))
                (try simp only [Act.put, List.getElem_toArray, List.getElem_cons_zero, List.getElem_cons_succ, List.setIfInBounds_toArray, List.set_cons_zero, List.set_cons_succ])
                (refine wpAnyH_take (i := 12) (v := ?_) rfl (by kernel_rfl) (by kernel_rfl) (by kernel_rfl) (fun _ _ _ h => h) (Or.inl ⟨by rfl, ?_⟩) (by assumption) ?_; rotate_left; · (intro w hSw; (try dsimp only at hSw); go_simp; all_goals with_reducible rfl); (try simp only [Act.put, List.getElem_toArray, List.getElem_cons_zero, List.getElem_cons_succ, List.setIfInBounds_toArray, List.set_cons_zero, List.set_cons_succ]))
                (try simp only [Act.put, List.getElem_toArray, List.getElem_cons_zero, List.getElem_cons_succ, List.setIfInBounds_toArray, List.set_cons_zero, List.set_cons_succ])
                obtain ⟨s2, hs⟩ : ∃ s, s = w17.heap.size := ⟨_, rfl⟩
                rw [← hs] at HB26 ⊢
                replace hs26 : w17.heap.size ≤ s2 := by rw [hs]; exact Nat.le_refl _
                clear hs
                refine wpAnyH_ready (rs := [14]) (by kernel_rfl) (by simp) ?_
                refine AllReadyH.cons rfl (fun K hK => ?_) AllReadyH.nil
                obtain ⟨⟨q0, q1, q2, q3, q4⟩, f0, f1, f2, f3, f4⟩ := cells5 HB26.out
                go_simp
                have HX27 : Hid (Ext w17 (((((w26.setCell ⟨s2, 0, none⟩ (.int .i64 y'.n.a)).setCell ⟨s2, 1, none⟩ (.int .i64 y'.n.b)).setCell ⟨s2, 2, none⟩ (.int .i64 y'.n.c)).setCell ⟨s2, 3, none⟩ (.int .i64 y'.n.d)).setCell ⟨s2, 4, none⟩ (.int .i64 y'.e))) := ext_put5 (g := s2) HX26.out hs26 _ _ _ _ _
                have HB27 : Hid (Blk (((((w26.setCell ⟨s2, 0, none⟩ (.int .i64 y'.n.a)).setCell ⟨s2, 1, none⟩ (.int .i64 y'.n.b)).setCell ⟨s2, 2, none⟩ (.int .i64 y'.n.c)).setCell ⟨s2, 3, none⟩ (.int .i64 y'.n.d)).setCell ⟨s2, 4, none⟩ (.int .i64 y'.e)) s2 83 #[.int .i64 y'.n.a, .int .i64 y'.n.b, .int .i64 y'.n.c, .int .i64 y'.n.d, .int .i64 y'.e]) := HB26.out.put5 _ _ _ _ _
                refine hK.out _ _ (HK.out _ (HX27.out)) (fun hHeld => ?_)
                clear hK K
                (try simp only [Act.put, List.getElem_toArray, List.getElem_cons_zero, List.getElem_cons_succ, List.setIfInBounds_toArray, List.set_cons_zero, List.set_cons_succ])
                (refine wpAnyH_take (i := 15) (v := ?_) rfl (by kernel_rfl) (by kernel_rfl) (by kernel_rfl) (fun _ _ _ h => h) (Or.inl ⟨by rfl, ?_⟩) (by assumption) ?_; rotate_left; · (intro w hSw; (try dsimp only at hSw); go_simp; all_goals with_reducible rfl); (try simp only [Act.put, List.getElem_toArray, List.getElem_cons_zero, List.getElem_cons_succ, List.setIfInBounds_toArray, List.set_cons_zero, List.set_cons_succ]))
                (refine wpAnyH_done (by kernel_rfl) ?_ _)
                clear q0 q1 q2 q3 q4 f0 f1 f2 f3 f4 hHeld
                generalize (((((w26.setCell ⟨s2, 0, none⟩ (.int .i64 y'.n.a)).setCell ⟨s2, 1, none⟩ (.int .i64 y'.n.b)).setCell ⟨s2, 2, none⟩ (.int .i64 y'.n.c)).setCell ⟨s2, 3, none⟩ (.int .i64 y'.n.d)).setCell ⟨s2, 4, none⟩ (.int .i64 y'.e)) = w27 at *
                clear HX26 HB26 HK
                obtain ⟨⟨t0, t1, t2, t3, t4⟩, -⟩ := cells5 HB27.out
                go_upto_region 16 with (fail)
                clear t0 t1 t2 t3 t4
                have HSO := Lib.hid (HSO1.out.ext HX27.out)
                have HSN := Lib.hid (HSN1.out.ext HX27.out)
                have HGB := Lib.hid (HGB1.out.ext HX27.out)
                have hne1 : b1 ≠ bo := by obtain ⟨cs, hcs, -⟩ := HSO.out; exact SN.ne HSN.out hcs
                have hne2 : s2 ≠ bo := by have := HBO1.out; omega
                have HK : Hid (∀ w', Ext w27 w' → w'.cell? ⟨b1, k * 6, none⟩ = some (.int .i64 s.1) ∧ (w'.cell? ⟨s2, 0, none⟩ = some (.int .i64 y'.n.a) ∧ w'.cell? ⟨s2, 1, none⟩ = some (.int .i64 y'.n.b) ∧ w'.cell? ⟨s2, 2, none⟩ = some (.int .i64 y'.n.c) ∧ w'.cell? ⟨s2, 3, none⟩ = some (.int .i64 y'.n.d) ∧ w'.cell? ⟨s2, 4, none⟩ = some (.int .i64 y'.e))) := fun w' hx => ⟨(SN.at_ (HSN.out.ext hx) HS0.out).1, (cells5 (HB27.out.ext hx)).1⟩
                refine wp_region_held_drew (S := fun w' => w'.cell? ⟨b1, k * 6, none⟩ = some (.int .i64 s.1) ∧ (w'.cell? ⟨s2, 0, none⟩ = some (.int .i64 y'.n.a) ∧ w'.cell? ⟨s2, 1, none⟩ = some (.int .i64 y'.n.b) ∧ w'.cell? ⟨s2, 2, none⟩ = some (.int .i64 y'.n.c) ∧ w'.cell? ⟨s2, 3, none⟩ = some (.int .i64 y'.n.d) ∧ w'.cell? ⟨s2, 4, none⟩ = some (.int .i64 y'.e))) (by kernel_rfl) (HK.out _ (Ext.refl w27).drew) (fun hHeld => ?_)
                (refine wpAnyH_take (i := 0) (v := ?_) rfl (by kernel_rfl) (by kernel_rfl) (by kernel_rfl) (fun _ _ _ h => h) (Or.inl ⟨by rfl, ?_⟩) (by assumption) ?_; rotate_left; · (intro w hSw; (try dsimp only at hSw); go_simp; all_goals with_reducible rfl); (try simp only [Act.put, List.getElem_toArray, List.getElem_cons_zero, List.getElem_cons_succ, List.setIfInBounds_toArray, List.set_cons_zero, List.set_cons_succ]))
                (try simp only [Act.put, List.getElem_toArray, List.getElem_cons_zero, List.getElem_cons_succ, List.setIfInBounds_toArray, List.set_cons_zero, List.set_cons_succ])
                (refine wpAnyH_take (i := 1) (v := ?_) rfl (by kernel_rfl) (by kernel_rfl) (by kernel_rfl) (fun _ _ _ h => h) (Or.inl ⟨by rfl, ?_⟩) (by assumption) ?_; rotate_left; · (intro w hSw; (try dsimp only at hSw); go_simp; all_goals with_reducible rfl); (try simp only [Act.put, List.getElem_toArray, List.getElem_cons_zero, List.getElem_cons_succ, List.setIfInBounds_toArray, List.set_cons_zero, List.set_cons_succ]))
                (try simp only [Act.put, List.getElem_toArray, List.getElem_cons_zero, List.getElem_cons_succ, List.setIfInBounds_toArray, List.set_cons_zero, List.set_cons_succ])
                (refine wpAnyH_take (i := 2) (v := ?_) rfl (by kernel_rfl) (by kernel_rfl) (by kernel_rfl) (fun _ _ _ h => h) (Or.inl ⟨by rfl, ?_⟩) (by assumption) ?_; rotate_left; · (intro w hSw; (try dsimp only at hSw); go_simp; all_goals with_reducible rfl); (try simp only [Act.put, List.getElem_toArray, List.getElem_cons_zero, List.getElem_cons_succ, List.setIfInBounds_toArray, List.set_cons_zero, List.set_cons_succ]))
                (try simp only [Act.put, List.getElem_toArray, List.getElem_cons_zero, List.getElem_cons_succ, List.setIfInBounds_toArray, List.set_cons_zero, List.set_cons_succ])
                (refine wpAnyH_take (i := 3) (v := ?_) rfl (by kernel_rfl) (by kernel_rfl) (by kernel_rfl) (fun _ _ _ h => h) (Or.inl ⟨by rfl, ?_⟩) (by assumption) ?_; rotate_left; · (intro w hSw; (try dsimp only at hSw); go_simp; all_goals with_reducible rfl); (try simp only [Act.put, List.getElem_toArray, List.getElem_cons_zero, List.getElem_cons_succ, List.setIfInBounds_toArray, List.set_cons_zero, List.set_cons_succ]))
                (try simp only [Act.put, List.getElem_toArray, List.getElem_cons_zero, List.getElem_cons_succ, List.setIfInBounds_toArray, List.set_cons_zero, List.set_cons_succ])
                (refine wpAnyH_take (i := 4) (v := ?_) rfl (by kernel_rfl) (by kernel_rfl) (by kernel_rfl) (fun _ _ _ h => h) (Or.inl ⟨by rfl, ?_⟩) (by assumption) ?_; rotate_left; · (intro w hSw; (try dsimp only at hSw); go_simp; all_goals with_reducible rfl); (try simp only [Act.put, List.getElem_toArray, List.getElem_cons_zero, List.getElem_cons_succ, List.setIfInBounds_toArray, List.set_cons_zero, List.set_cons_succ]))
                (try simp only [Act.put, List.getElem_toArray, List.getElem_cons_zero, List.getElem_cons_succ, List.setIfInBounds_toArray, List.set_cons_zero, List.set_cons_succ])
                (refine wpAnyH_take (i := 5) (v := ?_) rfl (by kernel_rfl) (by kernel_rfl) (by kernel_rfl) (fun _ _ _ h => h) (Or.inl ⟨by rfl, ?_⟩) (by assumption) ?_; rotate_left; · (intro w hSw; (try dsimp only at hSw); go_simp; all_goals with_reducible rfl); (try simp only [Act.put, List.getElem_toArray, List.getElem_cons_zero, List.getElem_cons_succ, List.setIfInBounds_toArray, List.set_cons_zero, List.set_cons_succ]))
                (try simp only [Act.put, List.getElem_toArray, List.getElem_cons_zero, List.getElem_cons_succ, List.setIfInBounds_toArray, List.set_cons_zero, List.set_cons_succ])
                (refine wpAnyH_take (i := 6) (v := ?_) rfl (by kernel_rfl) (by kernel_rfl) (by kernel_rfl) (fun _ _ _ h => h) (Or.inl ⟨by rfl, ?_⟩) (by assumption) ?_; rotate_left; · (intro w hSw; (try dsimp only at hSw); go_simp; all_goals with_reducible rfl); (try simp only [Act.put, List.getElem_toArray, List.getElem_cons_zero, List.getElem_cons_succ, List.setIfInBounds_toArray, List.set_cons_zero, List.set_cons_succ]))
                (try simp only [Act.put, List.getElem_toArray, List.getElem_cons_zero, List.getElem_cons_succ, List.setIfInBounds_toArray, List.set_cons_zero, List.set_cons_succ])
                (refine wpAnyH_take (i := 7) (v := ?_) rfl (by kernel_rfl) (by kernel_rfl) (by kernel_rfl) (fun _ _ _ h => h) (Or.inl ⟨by rfl, ?_⟩) (by assumption) ?_; rotate_left; · (intro w hSw; (try dsimp only at hSw); go_simp; all_goals with_reducible rfl); (try simp only [Act.put, List.getElem_toArray, List.getElem_cons_zero, List.getElem_cons_succ, List.setIfInBounds_toArray, List.set_cons_zero, List.set_cons_succ]))
                (try simp only [Act.put, List.getElem_toArray, List.getElem_cons_zero, List.getElem_cons_succ, List.setIfInBounds_toArray, List.set_cons_zero, List.set_cons_succ])
                refine wpAnyH_ready (rs := [8]) (by kernel_rfl) (by simp) ?_
                refine AllReadyH.cons rfl (fun K hK => ?_) AllReadyH.nil
                obtain ⟨⟨c0, c1, c2, c3, c4⟩, f0, f1, f2, f3, f4⟩ := HSO.out.at_ HY0.out
                go_simp
                refine hK.out _ _ ⟨(SN.at_ (SN.ext (SN.put (i := s.1) (x := y') HSN.out hne1) (Ext.refl _).drew) HS0.out).1, (cells5 (Blk.ext (far_put5at (i := s.1) (x := y') HB27.out hne2) (Ext.refl _).drew)).1⟩ (fun hHeld => ?_)
                clear hK K
                (try simp only [Act.put, List.getElem_toArray, List.getElem_cons_zero, List.getElem_cons_succ, List.setIfInBounds_toArray, List.set_cons_zero, List.set_cons_succ])
                (refine wpAnyH_done (by kernel_rfl) ?_ _)
                have HSO8 : Hid (SB (((((w27.setCell ⟨bo, s.1 * 5, none⟩ (.int .i64 y'.n.a)).setCell ⟨bo, s.1 * 5 + 1, none⟩ (.int .i64 y'.n.b)).setCell ⟨bo, s.1 * 5 + 2, none⟩ (.int .i64 y'.n.c)).setCell ⟨bo, s.1 * 5 + 3, none⟩ (.int .i64 y'.n.d)).setCell ⟨bo, s.1 * 5 + 4, none⟩ (.int .i64 y'.e)).drew bo (o i (k + 1))) := by
                  unfold Hid
                  rw [HNX.out]
                  exact SB.ext (HSO.out.put (by rw [HOL.out]; exact HAT.out) y') (Ext.refl _).drew
                have HSN8 : Hid (SN (((((w27.setCell ⟨bo, s.1 * 5, none⟩ (.int .i64 y'.n.a)).setCell ⟨bo, s.1 * 5 + 1, none⟩ (.int .i64 y'.n.b)).setCell ⟨bo, s.1 * 5 + 2, none⟩ (.int .i64 y'.n.c)).setCell ⟨bo, s.1 * 5 + 3, none⟩ (.int .i64 y'.n.d)).setCell ⟨bo, s.1 * 5 + 4, none⟩ (.int .i64 y'.e)).drew b1 (sent g i)) := SN.ext (SN.put (i := s.1) (x := y') HSN.out hne1) (Ext.refl _).drew
                have HGB8 : Hid (GB w (((((w27.setCell ⟨bo, s.1 * 5, none⟩ (.int .i64 y'.n.a)).setCell ⟨bo, s.1 * 5 + 1, none⟩ (.int .i64 y'.n.b)).setCell ⟨bo, s.1 * 5 + 2, none⟩ (.int .i64 y'.n.c)).setCell ⟨bo, s.1 * 5 + 3, none⟩ (.int .i64 y'.n.d)).setCell ⟨bo, s.1 * 5 + 4, none⟩ (.int .i64 y'.e)).drew g) := GB.ext (HGB.out.put (i := s.1) (x := y') HBO.out) (Ext.refl _).drew
                clear c0 c1 c2 c3 c4 f0 f1 f2 f3 f4 hHeld HSO HSN HGB HK
                generalize (((((w27.setCell ⟨bo, s.1 * 5, none⟩ (.int .i64 y'.n.a)).setCell ⟨bo, s.1 * 5 + 1, none⟩ (.int .i64 y'.n.b)).setCell ⟨bo, s.1 * 5 + 2, none⟩ (.int .i64 y'.n.c)).setCell ⟨bo, s.1 * 5 + 3, none⟩ (.int .i64 y'.n.d)).setCell ⟨bo, s.1 * 5 + 4, none⟩ (.int .i64 y'.e)).drew = w8 at *
                go_wp2
                go_roundw
                case rel => exact ⟨k + 1, by first | rfl | rw [hj1] | rw [hj2], by have := HKT.out; omega, HSO8, HSN8, HGB8⟩
                case measure => simp [intOf, hj2]; have := HKT.out; omega
          · have hkm : k = m := by omega
            have HNX : Hid (o (i + 1) 0 = o i k) := by unfold Hid; rw [hkm, HNEXT.out, HM.out.1]
            clear hkm
            go_wp2
            go_roundw
            case rel => exact ⟨i + 1, by first | rfl | rw [hi1] | rw [hi2], by have := HIT.out; omega, by rw [HNX.out]; exact HSO0, HGB0⟩
            case measure => simp [intOf, hi2]; have := HIT.out; omega
    · have hil : i = l := by omega
      subst hil
      go_wp2
      go_ret2
      exact ⟨⟨_, rfl, SB.tout HSBi.out _ _ (HOL.out _ _)⟩, HGBi.out.2⟩
end Go.Proofs.Ytofbmkpfliofeab
