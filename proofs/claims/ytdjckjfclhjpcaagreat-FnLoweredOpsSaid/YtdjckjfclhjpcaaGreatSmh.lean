/-
 Helper text (no claim of its own): programs are elaborated: the environment, and gates. Printed by gen_smh.py.
-/
import Derived.Test.YtdjckjfclhjpcaaGreatSmo
namespace Go.Proofs.YtdjckjfclhjpcaaGreat
open Go.ChangeShapes Go.WideShapes Go.ChangeAt Go.RowKit Go.Deep
set_option linter.unusedVariables false
set_option linter.unusedSimpArgs false
theorem ext_of_eq {a b : World} (h : a = b) : Ext a b := h ▸ Ext.refl a
/-- A row of names in a block of strings. -/
def Ns (w : World) (A : Option Addr) (n : Nat) : Prop := ∃ xs : List ByteArray, (∀ y ∈ xs, y.size ≤ 1000) ∧ xs.length = n ∧ (0 < n → ∃ (b : Nat) (cs : Array Value), A = some ⟨b, 0, none⟩ ∧ Blk w b 9 cs ∧ ∀ (j : Nat) (u : Value), (tcells xs)[j]? = some u → cs[j]? = some u)
theorem Ns.keep {w w' : World} {A : Option Addr} {n : Nat} (h : Ns w A n) (hk : ∀ b cs, Blk w b 9 cs → w'.heap[b]? = w.heap[b]?) : Ns w' A n := by
 obtain ⟨xs, h1, h2, h3⟩ := h
 refine ⟨xs, h1, h2, fun h0 => ?_⟩
 obtain ⟨b, cs, e, hb, hc⟩ := h3 h0
 exact ⟨b, cs, e, (hk b cs hb).trans hb, hc⟩
theorem Ns.rd {w : World} {A : Option Addr} {n : Nat} (h : Ns w A n) : ∃ xs : List ByteArray, (∀ y ∈ xs, y.size ≤ 1000) ∧ Rd w w.heap.size 1 A n (tcells xs) := by
 obtain ⟨xs, h1, h2, h3⟩ := h
 refine ⟨xs, h1, by rw [flat_len tcell_len, h2], fun h0 => ?_⟩
 obtain ⟨b, cs, e, hb, hc⟩ := h3 h0
 exact ⟨b, 0, e, hb.lt, fun j u hu => by rw [Nat.zero_add, hb.cell j]; exact hc j u hu⟩
theorem Ns.own {w : World} {Bs n c : Nat} {A : Option Addr} {xs : List ByteArray} (h : w.ownsRow Bs 9 1 (.slice A n c) n (tcells xs)) (hz : ∀ y ∈ xs, y.size ≤ 1000) : Ns w A n := by
 have hl := h.1
 rw [flat_len tcell_len] at hl
 refine ⟨xs, hz, by omega, fun h0 => ?_⟩
 rcases h.2 with ⟨_, h1⟩ | ⟨g, cap, cur, hv, _, hh, hnc, _, hs, hx⟩
 ·omega
 ·injection hv with hv _ _
  refine ⟨g, cur, hv, hh, fun j u hu => ?_⟩
  have hj := (List.getElem?_eq_some_iff.1 hu).1
  rw [flat_len tcell_len] at hj
  rw [← hx, List.getElem?_take_of_lt (by omega)] at hu
  simpa using hu
theorem Ns.none (w : World) : Ns w none 0 := ⟨[], by simp, rfl, fun h => absurd h (Nat.lt_irrefl 0)⟩
/-- Blocks of other types are other blocks. -/
theorem blk_ne {w : World} {a b s t : Nat} {cs ds : Array Value} (h : Blk w a s cs) (k : Blk w b t ds) (hst : s ≠ t) : a ≠ b := by
 rintro rfl
 unfold Blk at h k
 rw [h] at k
 injection k with k
 injection k with _ k
 exact hst k
/-- The environment: names, bits (at most bd), the most names so far. -/
def En (w : World) (ge : Nat) (An : Option Addr) (nn cn bd : Nat) : Prop := Ns w An nn ∧ ∃ (Ab : Option Addr) (nb cb : Nat) (mo : Int) (lg : Bool), Blk w ge 77 #[.slice An nn cn, .slice Ab nb cb, .int .i64 mo, .bool lg] ∧ nb ≤ bd ∧ (0 ≤ mo ∧ mo ≤ 1000) ∧ Ns w Ab nb
section
variable {w w' : World} {ge : Nat} {An : Option Addr} {nn cn bd : Nat}
theorem En.keep (h : En w ge An nn cn bd) (hg : w'.heap[ge]? = w.heap[ge]?) (hk : ∀ b cs, Blk w b 9 cs → w'.heap[b]? = w.heap[b]?) : En w' ge An nn cn bd := by
 obtain ⟨h1, Ab, nb, cb, mo, lg, h2, h3, h4, h5⟩ := h
 exact ⟨h1.keep hk, Ab, nb, cb, mo, lg, hg.trans h2, h3, h4, h5.keep hk⟩
theorem En.lt (h : En w ge An nn cn bd) : ge < w.heap.size := by obtain ⟨_, Ab, nb, cb, mo, lg, h2, _⟩ := h; exact h2.lt
theorem En.ext (h : En w ge An nn cn bd) (hx : Ext w w') : En w' ge An nn cn bd := h.keep (hx.block ge h.lt) fun b cs hb => hx.block b hb.lt
theorem En.mono {bd' : Nat} (h : En w ge An nn cn bd) (hb : bd ≤ bd') : En w ge An nn cn bd' := by
 obtain ⟨h1, Ab, nb, cb, mo, lg, h2, h3, h4, h5⟩ := h
 exact ⟨h1, Ab, nb, cb, mo, lg, h2, Nat.le_trans h3 hb, h4, h5⟩
theorem En.names (h : En w ge An nn cn bd) : w.cell? ⟨ge, 0, none⟩ = some (.slice An nn cn) := by obtain ⟨_, Ab, nb, cb, mo, lg, h2, _⟩ := h; exact h2.cell 0
/-- It is kept where a row of ops grows. -/
theorem En.grown (h : En w ge An nn cn bd) {Bs n : Nat} {v : Value} {xs : List Value} (ho : w.ownsRow Bs 40 8 v n xs) (hg : w.grownBy w' v.ownBlock) : En w' ge An nn cn bd := by
 have hge := h.lt
 obtain ⟨h1, Ab, nb, cb, mo, lg, h2, h3, h4, h5⟩ := h
 have hk : ∀ b cs, Blk w b 9 cs → w'.heap[b]? = w.heap[b]? := fun b cs hb => hg.block b hb.lt (fun e => own_ne ho hb (by decide) e.symm)
 exact ⟨h1.keep hk, Ab, nb, cb, mo, lg, (hg.block ge hge (fun e => own_ne ho h2 (by decide) e.symm)).trans h2, h3, h4, h5.keep hk⟩
end
theorem Tryz.sizeGateH : (Tryz.prog.info? 38).map (·.size) = some 4 := by kernel_rfl
theorem endGate {fn : Func} {p : Tmp} {W : World} {q : Nat} {x y z u : Int} {P : Ending → World → Prop} (hf : fn.results = #[.cell p 38]) (hB : Blk W q 38 #[.int .i64 x, .int .i64 y, .int .i64 z, .int .i64 u]) (a : Act) (hp : a.tmps.getD p undef = .pointer (some ⟨q, 0, none⟩)) (hd : a.defers = [])
  (h : P (.returned (.agg #[.int .i64 x, .int .i64 y, .int .i64 z, .int .i64 u])) W) : bodyPost Tryz.prog fn P .ret a W :=
 bodyPost_ret (v := .agg #[.int .i64 x, .int .i64 y, .int .i64 z, .int .i64 u]) (results_cell_row hf a.tmps _ q 38 _ (0, 0) _ hp hB Tryz.underlying38 rfl Tryz.sizeGateH) hd h
set_option maxRecDepth 100000 in
set_option maxHeartbeats 8000000 in
theorem l22Gate_any (xk : Int) (wd : ByteArray) (A : Option Addr) (n c : Nat) (cnt : Int) (B : Option Addr) (m e : Nat) (An : Option Addr) (nn cn : Nat) (w : World) (hn : 1 ≤ n) (xs : List ByteArray) (hr : Rd w w.heap.size 1 A n (tcells xs)) (hs : Ns w An nn) (hnn : nn ≤ 1000) :
  Calls Tryz.prog 72 #[.agg #[.int .i64 xk, .string wd, .slice A n c, .int .i64 cnt, .slice B m e], .slice An nn cn] w fun e w' => (∃ x : Gt, e = .returned x.val) ∧ Ext w w' := by
 have HRX := Lib.hid hr
 have HNS := Lib.hid hs.rd
 obtain ⟨b, o, y, rfl, hb, r0, -⟩ := str_0 hr hn
 have hn0 : 0 < n := hn
 have HM : Hid (Blk ((w.alloc (.cells #[.int .i64 xk, .string wd, .slice (some ⟨b, o, none⟩) n c, .int .i64 cnt, .slice B m e] 69)).alloc (.cells #[.int .i64 0, .int .i64 0, .int .i64 0, .int .i64 0] 38)) w.heap.size 69 #[.int .i64 xk, .string wd, .slice (some ⟨b, o, none⟩) n c, .int .i64 cnt, .slice B m e] ∧ Blk ((w.alloc (.cells #[.int .i64 xk, .string wd, .slice (some ⟨b, o, none⟩) n c, .int .i64 cnt, .slice B m e] 69)).alloc (.cells #[.int .i64 0, .int .i64 0, .int .i64 0, .int .i64 0] 38)) (w.heap.size + 1) 38 #[.int .i64 0, .int .i64 0, .int .i64 0, .int .i64 0] ∧ Ext w ((w.alloc (.cells #[.int .i64 xk, .string wd, .slice (some ⟨b, o, none⟩) n c, .int .i64 cnt, .slice B m e] 69)).alloc (.cells #[.int .i64 0, .int .i64 0, .int .i64 0, .int .i64 0] 38))) := ⟨(Blk.new w _ _).alloc _, Blk.newAt (by simp), ((Ext.refl w).alloc _).alloc _⟩
 have HY : Hid (b < ((w.alloc (.cells #[.int .i64 xk, .string wd, .slice (some ⟨b, o, none⟩) n c, .int .i64 cnt, .slice B m e] 69)).alloc (.cells #[.int .i64 0, .int .i64 0, .int .i64 0, .int .i64 0] 38)).heap.size ∧ ((w.alloc (.cells #[.int .i64 xk, .string wd, .slice (some ⟨b, o, none⟩) n c, .int .i64 cnt, .slice B m e] 69)).alloc (.cells #[.int .i64 0, .int .i64 0, .int .i64 0, .int .i64 0] 38)).cell? ⟨b, o, none⟩ = some (.string y)) := ⟨Nat.lt_of_lt_of_le hb HM.out.2.2.size, (HM.out.2.2.cell (p := ⟨b, o, none⟩) hb).trans r0⟩
 clear hr hs r0
 go_enter Tryz.func72, Tryz.ntmps72
 go_upto_region 1 with (fail)
 generalize (w.alloc (.cells #[.int .i64 xk, .string wd, .slice (some ⟨b, o, none⟩) n c, .int .i64 cnt, .slice B m e] 69)).alloc (.cells #[.int .i64 0, .int .i64 0, .int .i64 0, .int .i64 0] 38) = W at *
 have HK1 : Hid (∀ w', Ext W w' → w'.cell? ⟨w.heap.size, 1, none⟩ = some (.string wd) ∧ w'.cell? ⟨w.heap.size, 2, none⟩ = some (.slice (some ⟨b, o, none⟩) n c) ∧ w'.cell? ⟨b, o, none⟩ = some (.string y)) := fun w' hx => ⟨(HM.out.1.ext hx).cell 1, (HM.out.1.ext hx).cell 2, (hx.cell (p := ⟨b, o, none⟩) HY.out.1).trans HY.out.2⟩
 have HRB : Hid (b < w.heap.size) := hb
 have HWL : Hid (w.heap.size + 1 < W.heap.size) := HM.out.2.1.lt
 refine wp_region_held_drew (S := (fun w' => w'.cell? ⟨w.heap.size, 1, none⟩ = some (.string wd) ∧ w'.cell? ⟨w.heap.size, 2, none⟩ = some (.slice (some ⟨b, o, none⟩) n c) ∧ w'.cell? ⟨b, o, none⟩ = some (.string y))) (by kernel_rfl) (HK1.out _ (Ext.refl W).drew) (fun hHeld => ?_)
 (refine tk 0 (v := ?_) ?_ ?_; rotate_left; · (intro w hSw; (try dsimp only at hSw); go_simp; all_goals with_reducible rfl))
 (try simp only [Act.put, L1, L2, L3, L4, L5, L6])
 (refine tk 1 (v := ?_) ?_ ?_; rotate_left; · (intro w hSw; (try dsimp only at hSw); go_simp; all_goals with_reducible rfl))
 (try simp only [Act.put, L1, L2, L3, L4, L5, L6])
 (refine tk 3 (v := ?_) ?_ ?_; rotate_left; · (intro w hSw; (try dsimp only at hSw); go_simp; all_goals with_reducible rfl))
 (try simp only [Act.put, L1, L2, L3, L4, L5, L6])
 (refine tk 4 (v := ?_) ?_ ?_; rotate_left; · (intro w hSw; (try dsimp only at hSw); go_simp; all_goals with_reducible rfl))
 (try simp only [Act.put, L1, L2, L3, L4, L5, L6])
 (refine tk 5 (v := ?_) ?_ ?_; rotate_left; · (intro w hSw; (try dsimp only at hSw); go_simp; all_goals with_reducible rfl))
 (try simp only [Act.put, L1, L2, L3, L4, L5, L6])
 (refine tk 6 (v := ?_) ?_ ?_; rotate_left; · (intro w hSw; (try dsimp only at hSw); go_simp; all_goals with_reducible rfl))
 (try simp only [Act.put, L1, L2, L3, L4, L5, L6])
 (refine tk 7 (v := ?_) ?_ ?_; rotate_left; · (intro w hSw; (try dsimp only at hSw); go_simp; all_goals with_reducible rfl))
 (try simp only [Act.put, L1, L2, L3, L4, L5, L6])
 refine wpAnyH_ready (rs := [2, 10]) (by kernel_rfl) (by simp) ?_
 refine AllReadyH.cons rfl (fun K hK => ?_) (AllReadyH.cons rfl (fun K hK => ?_) AllReadyH.nil)
 ·skip
  go_simp
  refine (spec_GateKind_any wd _).mono ?_
  rintro e1 v0 ⟨⟨k1, rfl, -⟩, hyv0⟩
  have HYv0 : Hid (Ext W v0) := Ext.trans ((Ext.refl W).drew) hyv0
  clear hyv0
  refine hK.out _ _ (HK1.out _ HYv0.out) (fun hHeld => ?_)
  clear hK K
  (try simp only [Act.put, L1, L2, L3, L4, L5, L6])
  refine wpAnyH_ready (rs := [8, 10]) (by kernel_rfl) (by simp) ?_
  refine AllReadyH.cons rfl (fun K hK => ?_) (AllReadyH.cons rfl (fun K hK => ?_) AllReadyH.nil)
  ·skip
   go_simp
   obtain ⟨ns, -, hns⟩ := HNS.out
   refine (l22At_any An nn cn ns y _ ((hns.ext HM.out.2.2).ext (HYv0.out)) (by omega)).mono ?_
   rintro e1 v1 ⟨⟨a1, rfl, -⟩, hw⟩
   have hyv1 := ext_of_eq hw
   clear hw
   have HYv1 : Hid (Ext W v1) := Ext.trans (HYv0.out) hyv1
   clear hyv1
   refine hK.out _ _ (HK1.out _ HYv1.out) (fun hHeld => ?_)
   clear hK K
   (try simp only [Act.put, L1, L2, L3, L4, L5, L6])
   (refine tk 9 (v := ?_) ?_ ?_; rotate_left; · (intro w hSw; (try dsimp only at hSw); go_simp; all_goals with_reducible rfl))
   (try simp only [Act.put, L1, L2, L3, L4, L5, L6])
   refine wpAnyH_ready (rs := [10]) (by kernel_rfl) (by simp) ?_
   refine AllReadyH.cons rfl (fun K hK => ?_) AllReadyH.nil
   go_simp
   have HX6 : Hid (Ext W (v1.alloc (.cells #[.int .i64 0, .int .i64 0, .int .i64 0, .int .i64 0] 38))) := HYv1.out.alloc _
   have HB6 : Hid (Blk (v1.alloc (.cells #[.int .i64 0, .int .i64 0, .int .i64 0, .int .i64 0] 38)) v1.heap.size 38 #[.int .i64 0, .int .i64 0, .int .i64 0, .int .i64 0]) := Blk.new _ _ _
   have HS6 : W.heap.size ≤ v1.heap.size := HYv1.out.size
   refine hK.out _ _ (HK1.out _ HX6.out) (fun hHeld => ?_)
   clear hK K
   (try simp only [Act.put, L1, L2, L3, L4, L5, L6])
   generalize v1.alloc (.cells #[.int .i64 0, .int .i64 0, .int .i64 0, .int .i64 0] 38) = w6 at *
   generalize hse : v1.heap.size = s at *
   clear hse HYv1
   refine wpAnyH_ready (rs := [11]) (by kernel_rfl) (by simp) ?_
   refine AllReadyH.cons rfl (fun K hK => ?_) AllReadyH.nil
   obtain ⟨⟨q0, q1, q2, q3⟩, f0, f1, f2, f3⟩ := cells4 HB6.out
   go_simp
   have HX7 : Hid (Ext W ((((w6.setCell ⟨s, 0, none⟩ (.int .i64 k1)).setCell ⟨s, 1, none⟩ (.int .i64 a1)).setCell ⟨s, 2, none⟩ (.int .i64 0)).setCell ⟨s, 3, none⟩ (.int .i64 0))) := ext_put4 (g := s) HX6.out HS6 _ _ _ _
   have HB7 : Hid (Blk ((((w6.setCell ⟨s, 0, none⟩ (.int .i64 k1)).setCell ⟨s, 1, none⟩ (.int .i64 a1)).setCell ⟨s, 2, none⟩ (.int .i64 0)).setCell ⟨s, 3, none⟩ (.int .i64 0)) s 38 #[.int .i64 k1, .int .i64 a1, .int .i64 0, .int .i64 0]) := HB6.out.put4 _ _ _ _
   refine hK.out _ _ (HK1.out _ HX7.out) (fun hHeld => ?_)
   clear hK K
   (try simp only [Act.put, L1, L2, L3, L4, L5, L6])
   (refine wpAnyH_done (by kernel_rfl) ?_ _)
   clear q0 q1 q2 q3 f0 f1 f2 f3 hHeld
   clear HK1
   have HM7 : Hid (Blk ((((w6.setCell ⟨s, 0, none⟩ (.int .i64 k1)).setCell ⟨s, 1, none⟩ (.int .i64 a1)).setCell ⟨s, 2, none⟩ (.int .i64 0)).setCell ⟨s, 3, none⟩ (.int .i64 0)) w.heap.size 69 #[.int .i64 xk, .string wd, .slice (some ⟨b, o, none⟩) n c, .int .i64 cnt, .slice B m e] ∧ Blk ((((w6.setCell ⟨s, 0, none⟩ (.int .i64 k1)).setCell ⟨s, 1, none⟩ (.int .i64 a1)).setCell ⟨s, 2, none⟩ (.int .i64 0)).setCell ⟨s, 3, none⟩ (.int .i64 0)) (w.heap.size + 1) 38 #[.int .i64 0, .int .i64 0, .int .i64 0, .int .i64 0] ∧ Ext w ((((w6.setCell ⟨s, 0, none⟩ (.int .i64 k1)).setCell ⟨s, 1, none⟩ (.int .i64 a1)).setCell ⟨s, 2, none⟩ (.int .i64 0)).setCell ⟨s, 3, none⟩ (.int .i64 0))) := ⟨HM.out.1.ext HX7.out, HM.out.2.1.ext HX7.out, HM.out.2.2.trans HX7.out⟩
   clear HM HY
   generalize (((w6.setCell ⟨s, 0, none⟩ (.int .i64 k1)).setCell ⟨s, 1, none⟩ (.int .i64 a1)).setCell ⟨s, 2, none⟩ (.int .i64 0)).setCell ⟨s, 3, none⟩ (.int .i64 0) = w7 at *
   have hsz := HM7.out.2.2.size
   obtain ⟨⟨q0, q1, q2, q3⟩, f0, f1, f2, f3⟩ := cells4 HB7.out
   have s2 : w7.cell? ⟨w.heap.size, 2, none⟩ = some (.slice (some ⟨b, o, none⟩) n c) := HM7.out.1.cell 2
   have hws : w.heap.size + 1 < s := by have := HS6; have h8 := HM7.out.2.1.lt; have h9 := HWL.out; omega
   by_cases h2 : 1 < n
   ·have h2i : (1 : Int) < (n : Int) := by omega
    obtain ⟨b', o', y1, hA', hb', -, r1⟩ := str_at (HRX.out.ext HM7.out.2.2) (i := 1) h2
    injection hA' with hA'
    injection hA' with e1 e2
    subst e1 e2
    go_wp2_with fail
    obtain ⟨ns, -, hns⟩ := HNS.out
    refine (l22At_any An nn cn ns y1 _ (hns.ext HM7.out.2.2) (by omega)).mono ?_
    rintro e2 w2 ⟨⟨a2, rfl, -⟩, rfl⟩
    by_cases h3 : 2 < n
    ·have h3i : (2 : Int) < (n : Int) := by omega
     obtain ⟨b', o', y2, hA', hb'', -, r2⟩ := str_at (HRX.out.ext HM7.out.2.2) (i := 2) h3
     injection hA' with hA'
     injection hA' with e1 e2
     subst e1 e2
     have HBa : Hid (Blk (w7.setCell ⟨s, 2, none⟩ (.int .i64 a2)) s 38 #[.int .i64 k1, .int .i64 a1, .int .i64 a2, .int .i64 0]) := HB7.out.set_ 2 _
     have HMa : Hid (Blk (w7.setCell ⟨s, 2, none⟩ (.int .i64 a2)) w.heap.size 69 #[.int .i64 xk, .string wd, .slice (some ⟨b, o, none⟩) n c, .int .i64 cnt, .slice B m e] ∧ Blk (w7.setCell ⟨s, 2, none⟩ (.int .i64 a2)) (w.heap.size + 1) 38 #[.int .i64 0, .int .i64 0, .int .i64 0, .int .i64 0] ∧ Ext w (w7.setCell ⟨s, 2, none⟩ (.int .i64 a2))) := ⟨HM7.out.1.far (p := ⟨s, 2, none⟩) (by show w.heap.size ≠ s; omega) _, HM7.out.2.1.far (p := ⟨s, 2, none⟩) (by show w.heap.size + 1 ≠ s; omega) _, HM7.out.2.2.setCell (p := ⟨s, 2, none⟩) (by show w.heap.size ≤ s; omega) _⟩
     have r2' : (w7.setCell ⟨s, 2, none⟩ (.int .i64 a2)).cell? ⟨b, o + 2, none⟩ = some (.string y2) := (World.cell?_of_block (Below.heap_setCell w7 ⟨s, 2, none⟩ _ b (by show b ≠ s; have := HRB.out; omega))).trans r2
     go_upto_region 4 with (fail)
     clear q0 q1 q2 q3 f0 f1 f2 f3 s2 r1 r2 HB7
     generalize w7.setCell ⟨s, 2, none⟩ (.int .i64 a2) = w8 at *
     obtain ⟨⟨q0, q1, q2, q3⟩, f0, f1, f2, f3⟩ := cells4 HBa.out
     have s2 : w8.cell? ⟨w.heap.size, 2, none⟩ = some (.slice (some ⟨b, o, none⟩) n c) := HMa.out.1.cell 2
     go_wp2_with fail
     refine (l22At_any An nn cn ns y2 _ (hns.ext HMa.out.2.2) (by omega)).mono ?_
     rintro e2 w2 ⟨⟨a3, rfl, -⟩, rfl⟩
     have HBb : Hid (Blk (w8.setCell ⟨s, 3, none⟩ (.int .i64 a3)) s 38 #[.int .i64 k1, .int .i64 a1, .int .i64 a2, .int .i64 a3]) := HBa.out.set_ 3 _
     have HMb : Hid (Blk (w8.setCell ⟨s, 3, none⟩ (.int .i64 a3)) (w.heap.size + 1) 38 #[.int .i64 0, .int .i64 0, .int .i64 0, .int .i64 0] ∧ Ext w (w8.setCell ⟨s, 3, none⟩ (.int .i64 a3))) := ⟨HMa.out.2.1.far (p := ⟨s, 3, none⟩) (by show w.heap.size + 1 ≠ s; omega) _, HMa.out.2.2.setCell (p := ⟨s, 3, none⟩) (by show w.heap.size ≤ s; omega) _⟩
     go_upto_region 6 with (fail)
     clear q0 q1 q2 q3 f0 f1 f2 f3 s2 HBa HMa
     generalize w8.setCell ⟨s, 3, none⟩ (.int .i64 a3) = w9 at *
     obtain ⟨⟨q0, q1, q2, q3⟩, f0, f1, f2, f3⟩ := cells4 HBb.out
     obtain ⟨⟨z0, z1, z2, z3⟩, g0, g1, g2, g3⟩ := cells4 HMb.out.1
     have HBc := Lib.hid (HMb.out.1.put4 (.int .i64 k1) (.int .i64 a1) (.int .i64 a2) (.int .i64 a3))
     have HXc := Lib.hid (ext_put4 HMb.out.2 (show w.heap.size ≤ w.heap.size + 1 by omega) (.int .i64 k1) (.int .i64 a1) (.int .i64 a2) (.int .i64 a3))
     go_wp2
     exact endGate rfl HBc.out _ rfl rfl ⟨⟨⟨k1, a1, a2, a3⟩, rfl⟩, HXc.out⟩
    ·have h3i : ¬ (2 : Int) < (n : Int) := by omega
     have HBa : Hid (Blk (w7.setCell ⟨s, 2, none⟩ (.int .i64 a2)) s 38 #[.int .i64 k1, .int .i64 a1, .int .i64 a2, .int .i64 0]) := HB7.out.set_ 2 _
     have HMa : Hid (Blk (w7.setCell ⟨s, 2, none⟩ (.int .i64 a2)) w.heap.size 69 #[.int .i64 xk, .string wd, .slice (some ⟨b, o, none⟩) n c, .int .i64 cnt, .slice B m e] ∧ Blk (w7.setCell ⟨s, 2, none⟩ (.int .i64 a2)) (w.heap.size + 1) 38 #[.int .i64 0, .int .i64 0, .int .i64 0, .int .i64 0] ∧ Ext w (w7.setCell ⟨s, 2, none⟩ (.int .i64 a2))) := ⟨HM7.out.1.far (p := ⟨s, 2, none⟩) (by show w.heap.size ≠ s; omega) _, HM7.out.2.1.far (p := ⟨s, 2, none⟩) (by show w.heap.size + 1 ≠ s; omega) _, HM7.out.2.2.setCell (p := ⟨s, 2, none⟩) (by show w.heap.size ≤ s; omega) _⟩
     go_upto_region 4 with (fail)
     clear q0 q1 q2 q3 f0 f1 f2 f3 s2 r1 HB7
     generalize w7.setCell ⟨s, 2, none⟩ (.int .i64 a2) = w8 at *
     obtain ⟨⟨q0, q1, q2, q3⟩, f0, f1, f2, f3⟩ := cells4 HBa.out
     have s2 : w8.cell? ⟨w.heap.size, 2, none⟩ = some (.slice (some ⟨b, o, none⟩) n c) := HMa.out.1.cell 2
     obtain ⟨⟨z0, z1, z2, z3⟩, g0, g1, g2, g3⟩ := cells4 HMa.out.2.1
     have HBc := Lib.hid (HMa.out.2.1.put4 (.int .i64 k1) (.int .i64 a1) (.int .i64 a2) (.int .i64 0))
     have HXc := Lib.hid (ext_put4 HMa.out.2.2 (show w.heap.size ≤ w.heap.size + 1 by omega) (.int .i64 k1) (.int .i64 a1) (.int .i64 a2) (.int .i64 0))
     go_wp2
     exact endGate rfl HBc.out _ rfl rfl ⟨⟨⟨k1, a1, a2, 0⟩, rfl⟩, HXc.out⟩
   ·have h2i : ¬ (1 : Int) < (n : Int) := by omega
    have h3i : ¬ (2 : Int) < (n : Int) := by omega
    obtain ⟨⟨z0, z1, z2, z3⟩, g0, g1, g2, g3⟩ := cells4 HM7.out.2.1
    have HBc := Lib.hid (HM7.out.2.1.put4 (.int .i64 k1) (.int .i64 a1) (.int .i64 0) (.int .i64 0))
    have HXc := Lib.hid (ext_put4 HM7.out.2.2 (show w.heap.size ≤ w.heap.size + 1 by omega) (.int .i64 k1) (.int .i64 a1) (.int .i64 0) (.int .i64 0))
    go_wp2
    exact endGate rfl HBc.out _ rfl rfl ⟨⟨⟨k1, a1, 0, 0⟩, rfl⟩, HXc.out⟩
  ·skip
   go_simp
   refine hK.out _ _ (HK1.out _ (HYv0.out.alloc (.cells #[.int .i64 0, .int .i64 0, .int .i64 0, .int .i64 0] 38))) (fun hHeld => ?_)
   clear hK K
   (try simp only [Act.put, L1, L2, L3, L4, L5, L6])
   have HBA : Hid (Blk (v0.alloc (.cells #[.int .i64 0, .int .i64 0, .int .i64 0, .int .i64 0] 38)) v0.heap.size 38 #[.int .i64 0, .int .i64 0, .int .i64 0, .int .i64 0]) := Blk.new _ _ _
   have HSA : Hid (W.heap.size ≤ v0.heap.size) := HYv0.out.size
   obtain ⟨s, hs⟩ : ∃ s, v0.heap.size = s := ⟨_, rfl⟩
   rw [hs] at HBA ⊢
   have HSB : Hid (W.heap.size ≤ s) := by have := HSA.out; unfold Hid; omega
   clear hs HSA
   refine wpAnyH_ready (rs := [8]) (by kernel_rfl) (by simp) ?_
   refine AllReadyH.cons rfl (fun K hK => ?_) AllReadyH.nil
   go_simp
   obtain ⟨ns, -, hns⟩ := HNS.out
   refine (l22At_any An nn cn ns y _ ((hns.ext HM.out.2.2).ext (HYv0.out.alloc (.cells #[.int .i64 0, .int .i64 0, .int .i64 0, .int .i64 0] 38))) (by omega)).mono ?_
   rintro e1 v1 ⟨⟨a1, rfl, -⟩, hw⟩
   have hyv1 := ext_of_eq hw
   clear hw
   have HBv1 := Lib.hid ((HBA.out).ext hyv1)
   have HYv1 : Hid (Ext W v1) := Ext.trans (HYv0.out.alloc (.cells #[.int .i64 0, .int .i64 0, .int .i64 0, .int .i64 0] 38)) hyv1
   clear hyv1
   refine hK.out _ _ (HK1.out _ HYv1.out) (fun hHeld => ?_)
   clear hK K
   (try simp only [Act.put, L1, L2, L3, L4, L5, L6])
   (refine tk 9 (v := ?_) ?_ ?_; rotate_left; · (intro w hSw; (try dsimp only at hSw); go_simp; all_goals with_reducible rfl))
   (try simp only [Act.put, L1, L2, L3, L4, L5, L6])
   have HX6 := HYv1
   have HB6 := Lib.hid (HBv1.out)
   have HS6 : W.heap.size ≤ s := HSB.out
   have hww : ∃ w6, w6 = v1 := ⟨_, rfl⟩
   obtain ⟨w6, rfl⟩ := hww
   refine wpAnyH_ready (rs := [11]) (by kernel_rfl) (by simp) ?_
   refine AllReadyH.cons rfl (fun K hK => ?_) AllReadyH.nil
   obtain ⟨⟨q0, q1, q2, q3⟩, f0, f1, f2, f3⟩ := cells4 HB6.out
   go_simp
   have HX7 : Hid (Ext W ((((w6.setCell ⟨s, 0, none⟩ (.int .i64 k1)).setCell ⟨s, 1, none⟩ (.int .i64 a1)).setCell ⟨s, 2, none⟩ (.int .i64 0)).setCell ⟨s, 3, none⟩ (.int .i64 0))) := ext_put4 (g := s) HX6.out HS6 _ _ _ _
   have HB7 : Hid (Blk ((((w6.setCell ⟨s, 0, none⟩ (.int .i64 k1)).setCell ⟨s, 1, none⟩ (.int .i64 a1)).setCell ⟨s, 2, none⟩ (.int .i64 0)).setCell ⟨s, 3, none⟩ (.int .i64 0)) s 38 #[.int .i64 k1, .int .i64 a1, .int .i64 0, .int .i64 0]) := HB6.out.put4 _ _ _ _
   refine hK.out _ _ (HK1.out _ HX7.out) (fun hHeld => ?_)
   clear hK K
   (try simp only [Act.put, L1, L2, L3, L4, L5, L6])
   (refine wpAnyH_done (by kernel_rfl) ?_ _)
   clear q0 q1 q2 q3 f0 f1 f2 f3 hHeld
   clear HK1
   have HM7 : Hid (Blk ((((w6.setCell ⟨s, 0, none⟩ (.int .i64 k1)).setCell ⟨s, 1, none⟩ (.int .i64 a1)).setCell ⟨s, 2, none⟩ (.int .i64 0)).setCell ⟨s, 3, none⟩ (.int .i64 0)) w.heap.size 69 #[.int .i64 xk, .string wd, .slice (some ⟨b, o, none⟩) n c, .int .i64 cnt, .slice B m e] ∧ Blk ((((w6.setCell ⟨s, 0, none⟩ (.int .i64 k1)).setCell ⟨s, 1, none⟩ (.int .i64 a1)).setCell ⟨s, 2, none⟩ (.int .i64 0)).setCell ⟨s, 3, none⟩ (.int .i64 0)) (w.heap.size + 1) 38 #[.int .i64 0, .int .i64 0, .int .i64 0, .int .i64 0] ∧ Ext w ((((w6.setCell ⟨s, 0, none⟩ (.int .i64 k1)).setCell ⟨s, 1, none⟩ (.int .i64 a1)).setCell ⟨s, 2, none⟩ (.int .i64 0)).setCell ⟨s, 3, none⟩ (.int .i64 0))) := ⟨HM.out.1.ext HX7.out, HM.out.2.1.ext HX7.out, HM.out.2.2.trans HX7.out⟩
   clear HM HY
   generalize (((w6.setCell ⟨s, 0, none⟩ (.int .i64 k1)).setCell ⟨s, 1, none⟩ (.int .i64 a1)).setCell ⟨s, 2, none⟩ (.int .i64 0)).setCell ⟨s, 3, none⟩ (.int .i64 0) = w7 at *
   have hsz := HM7.out.2.2.size
   obtain ⟨⟨q0, q1, q2, q3⟩, f0, f1, f2, f3⟩ := cells4 HB7.out
   have s2 : w7.cell? ⟨w.heap.size, 2, none⟩ = some (.slice (some ⟨b, o, none⟩) n c) := HM7.out.1.cell 2
   have hws : w.heap.size + 1 < s := by have := HS6; have h8 := HM7.out.2.1.lt; have h9 := HWL.out; omega
   by_cases h2 : 1 < n
   ·have h2i : (1 : Int) < (n : Int) := by omega
    obtain ⟨b', o', y1, hA', hb', -, r1⟩ := str_at (HRX.out.ext HM7.out.2.2) (i := 1) h2
    injection hA' with hA'
    injection hA' with e1 e2
    subst e1 e2
    go_wp2_with fail
    obtain ⟨ns, -, hns⟩ := HNS.out
    refine (l22At_any An nn cn ns y1 _ (hns.ext HM7.out.2.2) (by omega)).mono ?_
    rintro e2 w2 ⟨⟨a2, rfl, -⟩, rfl⟩
    by_cases h3 : 2 < n
    ·have h3i : (2 : Int) < (n : Int) := by omega
     obtain ⟨b', o', y2, hA', hb'', -, r2⟩ := str_at (HRX.out.ext HM7.out.2.2) (i := 2) h3
     injection hA' with hA'
     injection hA' with e1 e2
     subst e1 e2
     have HBa : Hid (Blk (w7.setCell ⟨s, 2, none⟩ (.int .i64 a2)) s 38 #[.int .i64 k1, .int .i64 a1, .int .i64 a2, .int .i64 0]) := HB7.out.set_ 2 _
     have HMa : Hid (Blk (w7.setCell ⟨s, 2, none⟩ (.int .i64 a2)) w.heap.size 69 #[.int .i64 xk, .string wd, .slice (some ⟨b, o, none⟩) n c, .int .i64 cnt, .slice B m e] ∧ Blk (w7.setCell ⟨s, 2, none⟩ (.int .i64 a2)) (w.heap.size + 1) 38 #[.int .i64 0, .int .i64 0, .int .i64 0, .int .i64 0] ∧ Ext w (w7.setCell ⟨s, 2, none⟩ (.int .i64 a2))) := ⟨HM7.out.1.far (p := ⟨s, 2, none⟩) (by show w.heap.size ≠ s; omega) _, HM7.out.2.1.far (p := ⟨s, 2, none⟩) (by show w.heap.size + 1 ≠ s; omega) _, HM7.out.2.2.setCell (p := ⟨s, 2, none⟩) (by show w.heap.size ≤ s; omega) _⟩
     have r2' : (w7.setCell ⟨s, 2, none⟩ (.int .i64 a2)).cell? ⟨b, o + 2, none⟩ = some (.string y2) := (World.cell?_of_block (Below.heap_setCell w7 ⟨s, 2, none⟩ _ b (by show b ≠ s; have := HRB.out; omega))).trans r2
     go_upto_region 4 with (fail)
     clear q0 q1 q2 q3 f0 f1 f2 f3 s2 r1 r2 HB7
     generalize w7.setCell ⟨s, 2, none⟩ (.int .i64 a2) = w8 at *
     obtain ⟨⟨q0, q1, q2, q3⟩, f0, f1, f2, f3⟩ := cells4 HBa.out
     have s2 : w8.cell? ⟨w.heap.size, 2, none⟩ = some (.slice (some ⟨b, o, none⟩) n c) := HMa.out.1.cell 2
     go_wp2_with fail
     refine (l22At_any An nn cn ns y2 _ (hns.ext HMa.out.2.2) (by omega)).mono ?_
     rintro e2 w2 ⟨⟨a3, rfl, -⟩, rfl⟩
     have HBb : Hid (Blk (w8.setCell ⟨s, 3, none⟩ (.int .i64 a3)) s 38 #[.int .i64 k1, .int .i64 a1, .int .i64 a2, .int .i64 a3]) := HBa.out.set_ 3 _
     have HMb : Hid (Blk (w8.setCell ⟨s, 3, none⟩ (.int .i64 a3)) (w.heap.size + 1) 38 #[.int .i64 0, .int .i64 0, .int .i64 0, .int .i64 0] ∧ Ext w (w8.setCell ⟨s, 3, none⟩ (.int .i64 a3))) := ⟨HMa.out.2.1.far (p := ⟨s, 3, none⟩) (by show w.heap.size + 1 ≠ s; omega) _, HMa.out.2.2.setCell (p := ⟨s, 3, none⟩) (by show w.heap.size ≤ s; omega) _⟩
     go_upto_region 6 with (fail)
     clear q0 q1 q2 q3 f0 f1 f2 f3 s2 HBa HMa
     generalize w8.setCell ⟨s, 3, none⟩ (.int .i64 a3) = w9 at *
     obtain ⟨⟨q0, q1, q2, q3⟩, f0, f1, f2, f3⟩ := cells4 HBb.out
     obtain ⟨⟨z0, z1, z2, z3⟩, g0, g1, g2, g3⟩ := cells4 HMb.out.1
     have HBc := Lib.hid (HMb.out.1.put4 (.int .i64 k1) (.int .i64 a1) (.int .i64 a2) (.int .i64 a3))
     have HXc := Lib.hid (ext_put4 HMb.out.2 (show w.heap.size ≤ w.heap.size + 1 by omega) (.int .i64 k1) (.int .i64 a1) (.int .i64 a2) (.int .i64 a3))
     go_wp2
     exact endGate rfl HBc.out _ rfl rfl ⟨⟨⟨k1, a1, a2, a3⟩, rfl⟩, HXc.out⟩
    ·have h3i : ¬ (2 : Int) < (n : Int) := by omega
     have HBa : Hid (Blk (w7.setCell ⟨s, 2, none⟩ (.int .i64 a2)) s 38 #[.int .i64 k1, .int .i64 a1, .int .i64 a2, .int .i64 0]) := HB7.out.set_ 2 _
     have HMa : Hid (Blk (w7.setCell ⟨s, 2, none⟩ (.int .i64 a2)) w.heap.size 69 #[.int .i64 xk, .string wd, .slice (some ⟨b, o, none⟩) n c, .int .i64 cnt, .slice B m e] ∧ Blk (w7.setCell ⟨s, 2, none⟩ (.int .i64 a2)) (w.heap.size + 1) 38 #[.int .i64 0, .int .i64 0, .int .i64 0, .int .i64 0] ∧ Ext w (w7.setCell ⟨s, 2, none⟩ (.int .i64 a2))) := ⟨HM7.out.1.far (p := ⟨s, 2, none⟩) (by show w.heap.size ≠ s; omega) _, HM7.out.2.1.far (p := ⟨s, 2, none⟩) (by show w.heap.size + 1 ≠ s; omega) _, HM7.out.2.2.setCell (p := ⟨s, 2, none⟩) (by show w.heap.size ≤ s; omega) _⟩
     go_upto_region 4 with (fail)
     clear q0 q1 q2 q3 f0 f1 f2 f3 s2 r1 HB7
     generalize w7.setCell ⟨s, 2, none⟩ (.int .i64 a2) = w8 at *
     obtain ⟨⟨q0, q1, q2, q3⟩, f0, f1, f2, f3⟩ := cells4 HBa.out
     have s2 : w8.cell? ⟨w.heap.size, 2, none⟩ = some (.slice (some ⟨b, o, none⟩) n c) := HMa.out.1.cell 2
     obtain ⟨⟨z0, z1, z2, z3⟩, g0, g1, g2, g3⟩ := cells4 HMa.out.2.1
     have HBc := Lib.hid (HMa.out.2.1.put4 (.int .i64 k1) (.int .i64 a1) (.int .i64 a2) (.int .i64 0))
     have HXc := Lib.hid (ext_put4 HMa.out.2.2 (show w.heap.size ≤ w.heap.size + 1 by omega) (.int .i64 k1) (.int .i64 a1) (.int .i64 a2) (.int .i64 0))
     go_wp2
     exact endGate rfl HBc.out _ rfl rfl ⟨⟨⟨k1, a1, a2, 0⟩, rfl⟩, HXc.out⟩
   ·have h2i : ¬ (1 : Int) < (n : Int) := by omega
    have h3i : ¬ (2 : Int) < (n : Int) := by omega
    obtain ⟨⟨z0, z1, z2, z3⟩, g0, g1, g2, g3⟩ := cells4 HM7.out.2.1
    have HBc := Lib.hid (HM7.out.2.1.put4 (.int .i64 k1) (.int .i64 a1) (.int .i64 0) (.int .i64 0))
    have HXc := Lib.hid (ext_put4 HM7.out.2.2 (show w.heap.size ≤ w.heap.size + 1 by omega) (.int .i64 k1) (.int .i64 a1) (.int .i64 0) (.int .i64 0))
    go_wp2
    exact endGate rfl HBc.out _ rfl rfl ⟨⟨⟨k1, a1, 0, 0⟩, rfl⟩, HXc.out⟩
 ·skip
  go_simp
  refine hK.out _ _ (HK1.out _ (((Ext.refl W).alloc (.cells #[.int .i64 0, .int .i64 0, .int .i64 0, .int .i64 0] 38)).drew)) (fun hHeld => ?_)
  clear hK K
  (try simp only [Act.put, L1, L2, L3, L4, L5, L6])
  have HBA : Hid (Blk ((W.alloc (.cells #[.int .i64 0, .int .i64 0, .int .i64 0, .int .i64 0] 38)).drew) W.heap.size 38 #[.int .i64 0, .int .i64 0, .int .i64 0, .int .i64 0]) := Blk.drew (Blk.new W 38 #[.int .i64 0, .int .i64 0, .int .i64 0, .int .i64 0])
  have HSA : Hid (W.heap.size ≤ W.heap.size) := Nat.le_refl _
  obtain ⟨s, hs⟩ : ∃ s, W.heap.size = s := ⟨_, rfl⟩
  rw [hs] at HBA ⊢
  have HSB : Hid (W.heap.size ≤ s) := by unfold Hid; omega
  clear hs HSA
  refine wpAnyH_ready (rs := [2]) (by kernel_rfl) (by simp) ?_
  refine AllReadyH.cons rfl (fun K hK => ?_) AllReadyH.nil
  go_simp
  refine (spec_GateKind_any wd _).mono ?_
  rintro e1 v0 ⟨⟨k1, rfl, -⟩, hyv0⟩
  have HBv0 := Lib.hid ((HBA.out).ext hyv0)
  have HYv0 : Hid (Ext W v0) := Ext.trans (((Ext.refl W).alloc (.cells #[.int .i64 0, .int .i64 0, .int .i64 0, .int .i64 0] 38)).drew) hyv0
  clear hyv0
  refine hK.out _ _ (HK1.out _ HYv0.out) (fun hHeld => ?_)
  clear hK K
  (try simp only [Act.put, L1, L2, L3, L4, L5, L6])
  refine wpAnyH_ready (rs := [8]) (by kernel_rfl) (by simp) ?_
  refine AllReadyH.cons rfl (fun K hK => ?_) AllReadyH.nil
  go_simp
  obtain ⟨ns, -, hns⟩ := HNS.out
  refine (l22At_any An nn cn ns y _ ((hns.ext HM.out.2.2).ext (HYv0.out)) (by omega)).mono ?_
  rintro e1 v1 ⟨⟨a1, rfl, -⟩, hw⟩
  have hyv1 := ext_of_eq hw
  clear hw
  have HBv1 := Lib.hid ((HBv0.out).ext hyv1)
  have HYv1 : Hid (Ext W v1) := Ext.trans (HYv0.out) hyv1
  clear hyv1
  refine hK.out _ _ (HK1.out _ HYv1.out) (fun hHeld => ?_)
  clear hK K
  (try simp only [Act.put, L1, L2, L3, L4, L5, L6])
  (refine tk 9 (v := ?_) ?_ ?_; rotate_left; · (intro w hSw; (try dsimp only at hSw); go_simp; all_goals with_reducible rfl))
  (try simp only [Act.put, L1, L2, L3, L4, L5, L6])
  have HX6 := HYv1
  have HB6 := Lib.hid (HBv1.out)
  have HS6 : W.heap.size ≤ s := HSB.out
  have hww : ∃ w6, w6 = v1 := ⟨_, rfl⟩
  obtain ⟨w6, rfl⟩ := hww
  refine wpAnyH_ready (rs := [11]) (by kernel_rfl) (by simp) ?_
  refine AllReadyH.cons rfl (fun K hK => ?_) AllReadyH.nil
  obtain ⟨⟨q0, q1, q2, q3⟩, f0, f1, f2, f3⟩ := cells4 HB6.out
  go_simp
  have HX7 : Hid (Ext W ((((w6.setCell ⟨s, 0, none⟩ (.int .i64 k1)).setCell ⟨s, 1, none⟩ (.int .i64 a1)).setCell ⟨s, 2, none⟩ (.int .i64 0)).setCell ⟨s, 3, none⟩ (.int .i64 0))) := ext_put4 (g := s) HX6.out HS6 _ _ _ _
  have HB7 : Hid (Blk ((((w6.setCell ⟨s, 0, none⟩ (.int .i64 k1)).setCell ⟨s, 1, none⟩ (.int .i64 a1)).setCell ⟨s, 2, none⟩ (.int .i64 0)).setCell ⟨s, 3, none⟩ (.int .i64 0)) s 38 #[.int .i64 k1, .int .i64 a1, .int .i64 0, .int .i64 0]) := HB6.out.put4 _ _ _ _
  refine hK.out _ _ (HK1.out _ HX7.out) (fun hHeld => ?_)
  clear hK K
  (try simp only [Act.put, L1, L2, L3, L4, L5, L6])
  (refine wpAnyH_done (by kernel_rfl) ?_ _)
  clear q0 q1 q2 q3 f0 f1 f2 f3 hHeld
  clear HK1
  have HM7 : Hid (Blk ((((w6.setCell ⟨s, 0, none⟩ (.int .i64 k1)).setCell ⟨s, 1, none⟩ (.int .i64 a1)).setCell ⟨s, 2, none⟩ (.int .i64 0)).setCell ⟨s, 3, none⟩ (.int .i64 0)) w.heap.size 69 #[.int .i64 xk, .string wd, .slice (some ⟨b, o, none⟩) n c, .int .i64 cnt, .slice B m e] ∧ Blk ((((w6.setCell ⟨s, 0, none⟩ (.int .i64 k1)).setCell ⟨s, 1, none⟩ (.int .i64 a1)).setCell ⟨s, 2, none⟩ (.int .i64 0)).setCell ⟨s, 3, none⟩ (.int .i64 0)) (w.heap.size + 1) 38 #[.int .i64 0, .int .i64 0, .int .i64 0, .int .i64 0] ∧ Ext w ((((w6.setCell ⟨s, 0, none⟩ (.int .i64 k1)).setCell ⟨s, 1, none⟩ (.int .i64 a1)).setCell ⟨s, 2, none⟩ (.int .i64 0)).setCell ⟨s, 3, none⟩ (.int .i64 0))) := ⟨HM.out.1.ext HX7.out, HM.out.2.1.ext HX7.out, HM.out.2.2.trans HX7.out⟩
  clear HM HY
  generalize (((w6.setCell ⟨s, 0, none⟩ (.int .i64 k1)).setCell ⟨s, 1, none⟩ (.int .i64 a1)).setCell ⟨s, 2, none⟩ (.int .i64 0)).setCell ⟨s, 3, none⟩ (.int .i64 0) = w7 at *
  have hsz := HM7.out.2.2.size
  obtain ⟨⟨q0, q1, q2, q3⟩, f0, f1, f2, f3⟩ := cells4 HB7.out
  have s2 : w7.cell? ⟨w.heap.size, 2, none⟩ = some (.slice (some ⟨b, o, none⟩) n c) := HM7.out.1.cell 2
  have hws : w.heap.size + 1 < s := by have := HS6; have h8 := HM7.out.2.1.lt; have h9 := HWL.out; omega
  by_cases h2 : 1 < n
  ·have h2i : (1 : Int) < (n : Int) := by omega
   obtain ⟨b', o', y1, hA', hb', -, r1⟩ := str_at (HRX.out.ext HM7.out.2.2) (i := 1) h2
   injection hA' with hA'
   injection hA' with e1 e2
   subst e1 e2
   go_wp2_with fail
   obtain ⟨ns, -, hns⟩ := HNS.out
   refine (l22At_any An nn cn ns y1 _ (hns.ext HM7.out.2.2) (by omega)).mono ?_
   rintro e2 w2 ⟨⟨a2, rfl, -⟩, rfl⟩
   by_cases h3 : 2 < n
   ·have h3i : (2 : Int) < (n : Int) := by omega
    obtain ⟨b', o', y2, hA', hb'', -, r2⟩ := str_at (HRX.out.ext HM7.out.2.2) (i := 2) h3
    injection hA' with hA'
    injection hA' with e1 e2
    subst e1 e2
    have HBa : Hid (Blk (w7.setCell ⟨s, 2, none⟩ (.int .i64 a2)) s 38 #[.int .i64 k1, .int .i64 a1, .int .i64 a2, .int .i64 0]) := HB7.out.set_ 2 _
    have HMa : Hid (Blk (w7.setCell ⟨s, 2, none⟩ (.int .i64 a2)) w.heap.size 69 #[.int .i64 xk, .string wd, .slice (some ⟨b, o, none⟩) n c, .int .i64 cnt, .slice B m e] ∧ Blk (w7.setCell ⟨s, 2, none⟩ (.int .i64 a2)) (w.heap.size + 1) 38 #[.int .i64 0, .int .i64 0, .int .i64 0, .int .i64 0] ∧ Ext w (w7.setCell ⟨s, 2, none⟩ (.int .i64 a2))) := ⟨HM7.out.1.far (p := ⟨s, 2, none⟩) (by show w.heap.size ≠ s; omega) _, HM7.out.2.1.far (p := ⟨s, 2, none⟩) (by show w.heap.size + 1 ≠ s; omega) _, HM7.out.2.2.setCell (p := ⟨s, 2, none⟩) (by show w.heap.size ≤ s; omega) _⟩
    have r2' : (w7.setCell ⟨s, 2, none⟩ (.int .i64 a2)).cell? ⟨b, o + 2, none⟩ = some (.string y2) := (World.cell?_of_block (Below.heap_setCell w7 ⟨s, 2, none⟩ _ b (by show b ≠ s; have := HRB.out; omega))).trans r2
    go_upto_region 4 with (fail)
    clear q0 q1 q2 q3 f0 f1 f2 f3 s2 r1 r2 HB7
    generalize w7.setCell ⟨s, 2, none⟩ (.int .i64 a2) = w8 at *
    obtain ⟨⟨q0, q1, q2, q3⟩, f0, f1, f2, f3⟩ := cells4 HBa.out
    have s2 : w8.cell? ⟨w.heap.size, 2, none⟩ = some (.slice (some ⟨b, o, none⟩) n c) := HMa.out.1.cell 2
    go_wp2_with fail
    refine (l22At_any An nn cn ns y2 _ (hns.ext HMa.out.2.2) (by omega)).mono ?_
    rintro e2 w2 ⟨⟨a3, rfl, -⟩, rfl⟩
    have HBb : Hid (Blk (w8.setCell ⟨s, 3, none⟩ (.int .i64 a3)) s 38 #[.int .i64 k1, .int .i64 a1, .int .i64 a2, .int .i64 a3]) := HBa.out.set_ 3 _
    have HMb : Hid (Blk (w8.setCell ⟨s, 3, none⟩ (.int .i64 a3)) (w.heap.size + 1) 38 #[.int .i64 0, .int .i64 0, .int .i64 0, .int .i64 0] ∧ Ext w (w8.setCell ⟨s, 3, none⟩ (.int .i64 a3))) := ⟨HMa.out.2.1.far (p := ⟨s, 3, none⟩) (by show w.heap.size + 1 ≠ s; omega) _, HMa.out.2.2.setCell (p := ⟨s, 3, none⟩) (by show w.heap.size ≤ s; omega) _⟩
    go_upto_region 6 with (fail)
    clear q0 q1 q2 q3 f0 f1 f2 f3 s2 HBa HMa
    generalize w8.setCell ⟨s, 3, none⟩ (.int .i64 a3) = w9 at *
    obtain ⟨⟨q0, q1, q2, q3⟩, f0, f1, f2, f3⟩ := cells4 HBb.out
    obtain ⟨⟨z0, z1, z2, z3⟩, g0, g1, g2, g3⟩ := cells4 HMb.out.1
    have HBc := Lib.hid (HMb.out.1.put4 (.int .i64 k1) (.int .i64 a1) (.int .i64 a2) (.int .i64 a3))
    have HXc := Lib.hid (ext_put4 HMb.out.2 (show w.heap.size ≤ w.heap.size + 1 by omega) (.int .i64 k1) (.int .i64 a1) (.int .i64 a2) (.int .i64 a3))
    go_wp2
    exact endGate rfl HBc.out _ rfl rfl ⟨⟨⟨k1, a1, a2, a3⟩, rfl⟩, HXc.out⟩
   ·have h3i : ¬ (2 : Int) < (n : Int) := by omega
    have HBa : Hid (Blk (w7.setCell ⟨s, 2, none⟩ (.int .i64 a2)) s 38 #[.int .i64 k1, .int .i64 a1, .int .i64 a2, .int .i64 0]) := HB7.out.set_ 2 _
    have HMa : Hid (Blk (w7.setCell ⟨s, 2, none⟩ (.int .i64 a2)) w.heap.size 69 #[.int .i64 xk, .string wd, .slice (some ⟨b, o, none⟩) n c, .int .i64 cnt, .slice B m e] ∧ Blk (w7.setCell ⟨s, 2, none⟩ (.int .i64 a2)) (w.heap.size + 1) 38 #[.int .i64 0, .int .i64 0, .int .i64 0, .int .i64 0] ∧ Ext w (w7.setCell ⟨s, 2, none⟩ (.int .i64 a2))) := ⟨HM7.out.1.far (p := ⟨s, 2, none⟩) (by show w.heap.size ≠ s; omega) _, HM7.out.2.1.far (p := ⟨s, 2, none⟩) (by show w.heap.size + 1 ≠ s; omega) _, HM7.out.2.2.setCell (p := ⟨s, 2, none⟩) (by show w.heap.size ≤ s; omega) _⟩
    go_upto_region 4 with (fail)
    clear q0 q1 q2 q3 f0 f1 f2 f3 s2 r1 HB7
    generalize w7.setCell ⟨s, 2, none⟩ (.int .i64 a2) = w8 at *
    obtain ⟨⟨q0, q1, q2, q3⟩, f0, f1, f2, f3⟩ := cells4 HBa.out
    have s2 : w8.cell? ⟨w.heap.size, 2, none⟩ = some (.slice (some ⟨b, o, none⟩) n c) := HMa.out.1.cell 2
    obtain ⟨⟨z0, z1, z2, z3⟩, g0, g1, g2, g3⟩ := cells4 HMa.out.2.1
    have HBc := Lib.hid (HMa.out.2.1.put4 (.int .i64 k1) (.int .i64 a1) (.int .i64 a2) (.int .i64 0))
    have HXc := Lib.hid (ext_put4 HMa.out.2.2 (show w.heap.size ≤ w.heap.size + 1 by omega) (.int .i64 k1) (.int .i64 a1) (.int .i64 a2) (.int .i64 0))
    go_wp2
    exact endGate rfl HBc.out _ rfl rfl ⟨⟨⟨k1, a1, a2, 0⟩, rfl⟩, HXc.out⟩
  ·have h2i : ¬ (1 : Int) < (n : Int) := by omega
   have h3i : ¬ (2 : Int) < (n : Int) := by omega
   obtain ⟨⟨z0, z1, z2, z3⟩, g0, g1, g2, g3⟩ := cells4 HM7.out.2.1
   have HBc := Lib.hid (HM7.out.2.1.put4 (.int .i64 k1) (.int .i64 a1) (.int .i64 0) (.int .i64 0))
   have HXc := Lib.hid (ext_put4 HM7.out.2.2 (show w.heap.size ≤ w.heap.size + 1 by omega) (.int .i64 k1) (.int .i64 a1) (.int .i64 0) (.int .i64 0))
   go_wp2
   exact endGate rfl HBc.out _ rfl rfl ⟨⟨⟨k1, a1, 0, 0⟩, rfl⟩, HXc.out⟩
end Go.Proofs.YtdjckjfclhjpcaaGreat
