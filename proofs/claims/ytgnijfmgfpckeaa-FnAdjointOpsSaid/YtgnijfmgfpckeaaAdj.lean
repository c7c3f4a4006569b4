/-
  Helper text (no claim of its own): adjoint ops, by the program and by the reference. Printed by gen_adj.py.
-/
import Derived.Test.YtgnijfmgfpckeaaAli
import Derived.Test.YtgnijfmgfpckeaaOp
namespace Go.Proofs.Ytgnijfmgfpckeaa
open Go.ChangeShapes Go.WideShapes Go.ChangeAt Go.RowKit Go.Deep
set_option linter.unusedVariables false
set_option linter.unusedSimpArgs false
theorem Try.sizeGateR : (Try.prog.info? 30).map (·.size) = some 4 := by kernel_rfl
theorem retG {fn : Func} {p : Tmp} (hf : fn.results = #[.cell p 30]) {W : World} {q : Nat} {cs : Array Value} (hB : Blk W q 30 cs) (tmps : Array Value)
    (hp : tmps.getD p undef = .pointer (some ⟨q, 0, none⟩)) (hs : cs.size = 4) : (results fn tmps).run Try.prog W = .ok (.agg cs) W :=
  results_cell_row hf tmps _ q 30 _ (0, 0) _ hp hB Try.underlying30 rfl (by rw [hs]; exact Try.sizeGateR)
theorem invG_other {k a b c : Int} (h5 : k ≠ 5) (h6 : k ≠ 6) (h7 : k ≠ 7) (h8 : k ≠ 8) : invG ⟨k, a, b, c⟩ = ⟨k, a, b, c⟩ := by unfold invG; simp only [if_neg h5, if_neg h6, if_neg h7, if_neg h8]
theorem invG_inv (g : Gt) : invG (invG g) = g := by
  obtain ⟨k, a, b, c⟩ := g
  by_cases h5 : k = 5
  · subst h5; rfl
  by_cases h6 : k = 6
  · subst h6; rfl
  by_cases h7 : k = 7
  · subst h7; rfl
  by_cases h8 : k = 8
  · subst h8; rfl
  rw [invG_other h5 h6 h7 h8, invG_other h5 h6 h7 h8]
def invO (x : Oq) : Oq := if (x.k == 1) = true then ⟨x.k, invG x.g, x.q, x.bit, x.cond⟩ else x
theorem invO_1 {x : Oq} (h : (x.k == 1) = true) : invO x = ⟨x.k, invG x.g, x.q, x.bit, x.cond⟩ := if_pos h
theorem invO_n {x : Oq} (h : (x.k == 1) = false) : invO x = x := if_neg (by simp [h])
theorem invO_inv (x : Oq) : invO (invO x) = x := by
  cases h : (x.k == 1)
  · rw [invO_n h, invO_n h]
  · have h2 : ((⟨x.k, invG x.g, x.q, x.bit, x.cond⟩ : Oq).k == 1) = true := h
    rw [invO_1 h, invO_1 h2]
    show (⟨x.k, invG (invG x.g), x.q, x.bit, x.cond⟩ : Oq) = x
    rw [invG_inv]
/-- The adjoint of ops. -/
def adjO (xs : List Oq) : List Oq := xs.reverse.map invO
theorem adjO_adjO (xs : List Oq) : adjO (adjO xs) = xs := by
  unfold adjO
  rw [← List.map_reverse, List.reverse_reverse, List.map_map]
  have : invO ∘ invO = id := funext invO_inv
  rw [this, List.map_id]
theorem adjO_len (xs : List Oq) : (adjO xs).length = xs.length := by unfold adjO; rw [List.length_map, List.length_reverse]
set_option maxRecDepth 100000 in
set_option maxHeartbeats 8000000 in
theorem impl_InverseGate_any (g : Gt) (w : World) : Calls Try.prog 14 #[g.val] w fun e w' => e = .returned (invG g).val ∧ Ext w w' := by
  obtain ⟨k, a, b, c⟩ := g
  by_cases h5 : k = 5
  · subst h5
    go_enter Try.func14, Try.ntmps14
    go_upto_region 1 with (fail)
    have HB : Hid (Blk ((w.alloc (.cells #[.int .i64 5, .int .i64 a, .int .i64 b, .int .i64 c] 30)).alloc (.cells #[.int .i64 0, .int .i64 0, .int .i64 0, .int .i64 0] 30)) w.heap.size 30 #[.int .i64 5, .int .i64 a, .int .i64 b, .int .i64 c]) := (Blk.new w _ _).alloc _
    have HR : Hid (Blk ((w.alloc (.cells #[.int .i64 5, .int .i64 a, .int .i64 b, .int .i64 c] 30)).alloc (.cells #[.int .i64 0, .int .i64 0, .int .i64 0, .int .i64 0] 30)) (w.heap.size + 1) 30 #[.int .i64 0, .int .i64 0, .int .i64 0, .int .i64 0]) := Blk.newAt (by simp)
    have HE : Hid (Ext w ((w.alloc (.cells #[.int .i64 5, .int .i64 a, .int .i64 b, .int .i64 c] 30)).alloc (.cells #[.int .i64 0, .int .i64 0, .int .i64 0, .int .i64 0] 30))) := (by repeat (first | exact Ext.refl _ | assumption | refine Ext.alloc ?_ _ | refine Ext.drewN ?_ _ | refine Ext.drew ?_))
    generalize ((w.alloc (.cells #[.int .i64 5, .int .i64 a, .int .i64 b, .int .i64 c] 30)).alloc (.cells #[.int .i64 0, .int .i64 0, .int .i64 0, .int .i64 0] 30)) = w2 at *
    obtain ⟨⟨b0, b1, b2, b3⟩, e0, e1, e2, e3⟩ := cells4 HB.out
    obtain ⟨⟨r0, r1, r2, r3⟩, f0, f1, f2, f3⟩ := cells4 HR.out
    go_upto_region 10 with (fail)
    have HB2 : Hid (Blk (w2.setCell ⟨w.heap.size, 0, none⟩ (.int .i64 6)) w.heap.size 30 #[.int .i64 6, .int .i64 a, .int .i64 b, .int .i64 c]) := HB.out.set_ 0 _
    have HR2 : Hid (Blk (w2.setCell ⟨w.heap.size, 0, none⟩ (.int .i64 6)) (w.heap.size + 1) 30 #[.int .i64 0, .int .i64 0, .int .i64 0, .int .i64 0]) := HR.out.far (p := ⟨w.heap.size, 0, none⟩) (show w.heap.size + 1 ≠ w.heap.size by omega) _
    have HE2 : Hid (Ext w (w2.setCell ⟨w.heap.size, 0, none⟩ (.int .i64 6))) := HE.out.setCell (p := ⟨w.heap.size, 0, none⟩) (Nat.le_refl _) _
    clear b0 b1 b2 b3 e0 e1 e2 e3 r0 r1 r2 r3 f0 f1 f2 f3 HB HR HE
    generalize w2.setCell ⟨w.heap.size, 0, none⟩ (.int .i64 6) = w3 at *
    obtain ⟨⟨b0, b1, b2, b3⟩, -⟩ := cells4 HB2.out
    obtain ⟨⟨r0, r1, r2, r3⟩, f0, f1, f2, f3⟩ := cells4 HR2.out
    go_wp2
    have HBB : Hid (Blk (put4 w3 (w.heap.size + 1) (.int .i64 6) (.int .i64 a) (.int .i64 b) (.int .i64 c)) (w.heap.size + 1) 30 #[.int .i64 6, .int .i64 a, .int .i64 b, .int .i64 c]) := HR2.out.put4 _ _ _ _
    refine bodyPost_ret (v := .agg #[.int .i64 6, .int .i64 a, .int .i64 b, .int .i64 c]) ?_ rfl ?_
    rotate_left
    · exact ⟨rfl, ext_put4 (g := w.heap.size + 1) HE2.out (by omega) _ _ _ _⟩
    · exact retG rfl HBB.out _ (by kernel_rfl) rfl
  by_cases h6 : k = 6
  · subst h6
    go_enter Try.func14, Try.ntmps14
    go_upto_region 1 with (fail)
    have HB : Hid (Blk ((w.alloc (.cells #[.int .i64 6, .int .i64 a, .int .i64 b, .int .i64 c] 30)).alloc (.cells #[.int .i64 0, .int .i64 0, .int .i64 0, .int .i64 0] 30)) w.heap.size 30 #[.int .i64 6, .int .i64 a, .int .i64 b, .int .i64 c]) := (Blk.new w _ _).alloc _
    have HR : Hid (Blk ((w.alloc (.cells #[.int .i64 6, .int .i64 a, .int .i64 b, .int .i64 c] 30)).alloc (.cells #[.int .i64 0, .int .i64 0, .int .i64 0, .int .i64 0] 30)) (w.heap.size + 1) 30 #[.int .i64 0, .int .i64 0, .int .i64 0, .int .i64 0]) := Blk.newAt (by simp)
    have HE : Hid (Ext w ((w.alloc (.cells #[.int .i64 6, .int .i64 a, .int .i64 b, .int .i64 c] 30)).alloc (.cells #[.int .i64 0, .int .i64 0, .int .i64 0, .int .i64 0] 30))) := (by repeat (first | exact Ext.refl _ | assumption | refine Ext.alloc ?_ _ | refine Ext.drewN ?_ _ | refine Ext.drew ?_))
    generalize ((w.alloc (.cells #[.int .i64 6, .int .i64 a, .int .i64 b, .int .i64 c] 30)).alloc (.cells #[.int .i64 0, .int .i64 0, .int .i64 0, .int .i64 0] 30)) = w2 at *
    obtain ⟨⟨b0, b1, b2, b3⟩, e0, e1, e2, e3⟩ := cells4 HB.out
    obtain ⟨⟨r0, r1, r2, r3⟩, f0, f1, f2, f3⟩ := cells4 HR.out
    go_upto_region 10 with (fail)
    have HB2 : Hid (Blk (w2.setCell ⟨w.heap.size, 0, none⟩ (.int .i64 5)) w.heap.size 30 #[.int .i64 5, .int .i64 a, .int .i64 b, .int .i64 c]) := HB.out.set_ 0 _
    have HR2 : Hid (Blk (w2.setCell ⟨w.heap.size, 0, none⟩ (.int .i64 5)) (w.heap.size + 1) 30 #[.int .i64 0, .int .i64 0, .int .i64 0, .int .i64 0]) := HR.out.far (p := ⟨w.heap.size, 0, none⟩) (show w.heap.size + 1 ≠ w.heap.size by omega) _
    have HE2 : Hid (Ext w (w2.setCell ⟨w.heap.size, 0, none⟩ (.int .i64 5))) := HE.out.setCell (p := ⟨w.heap.size, 0, none⟩) (Nat.le_refl _) _
    clear b0 b1 b2 b3 e0 e1 e2 e3 r0 r1 r2 r3 f0 f1 f2 f3 HB HR HE
    generalize w2.setCell ⟨w.heap.size, 0, none⟩ (.int .i64 5) = w3 at *
    obtain ⟨⟨b0, b1, b2, b3⟩, -⟩ := cells4 HB2.out
    obtain ⟨⟨r0, r1, r2, r3⟩, f0, f1, f2, f3⟩ := cells4 HR2.out
    go_wp2
    have HBB : Hid (Blk (put4 w3 (w.heap.size + 1) (.int .i64 5) (.int .i64 a) (.int .i64 b) (.int .i64 c)) (w.heap.size + 1) 30 #[.int .i64 5, .int .i64 a, .int .i64 b, .int .i64 c]) := HR2.out.put4 _ _ _ _
    refine bodyPost_ret (v := .agg #[.int .i64 5, .int .i64 a, .int .i64 b, .int .i64 c]) ?_ rfl ?_
    rotate_left
    · exact ⟨rfl, ext_put4 (g := w.heap.size + 1) HE2.out (by omega) _ _ _ _⟩
    · exact retG rfl HBB.out _ (by kernel_rfl) rfl
  by_cases h7 : k = 7
  · subst h7
    go_enter Try.func14, Try.ntmps14
    go_upto_region 1 with (fail)
    have HB : Hid (Blk ((w.alloc (.cells #[.int .i64 7, .int .i64 a, .int .i64 b, .int .i64 c] 30)).alloc (.cells #[.int .i64 0, .int .i64 0, .int .i64 0, .int .i64 0] 30)) w.heap.size 30 #[.int .i64 7, .int .i64 a, .int .i64 b, .int .i64 c]) := (Blk.new w _ _).alloc _
    have HR : Hid (Blk ((w.alloc (.cells #[.int .i64 7, .int .i64 a, .int .i64 b, .int .i64 c] 30)).alloc (.cells #[.int .i64 0, .int .i64 0, .int .i64 0, .int .i64 0] 30)) (w.heap.size + 1) 30 #[.int .i64 0, .int .i64 0, .int .i64 0, .int .i64 0]) := Blk.newAt (by simp)
    have HE : Hid (Ext w ((w.alloc (.cells #[.int .i64 7, .int .i64 a, .int .i64 b, .int .i64 c] 30)).alloc (.cells #[.int .i64 0, .int .i64 0, .int .i64 0, .int .i64 0] 30))) := (by repeat (first | exact Ext.refl _ | assumption | refine Ext.alloc ?_ _ | refine Ext.drewN ?_ _ | refine Ext.drew ?_))
    generalize ((w.alloc (.cells #[.int .i64 7, .int .i64 a, .int .i64 b, .int .i64 c] 30)).alloc (.cells #[.int .i64 0, .int .i64 0, .int .i64 0, .int .i64 0] 30)) = w2 at *
    obtain ⟨⟨b0, b1, b2, b3⟩, e0, e1, e2, e3⟩ := cells4 HB.out
    obtain ⟨⟨r0, r1, r2, r3⟩, f0, f1, f2, f3⟩ := cells4 HR.out
    go_upto_region 10 with (fail)
    have HB2 : Hid (Blk (w2.setCell ⟨w.heap.size, 0, none⟩ (.int .i64 8)) w.heap.size 30 #[.int .i64 8, .int .i64 a, .int .i64 b, .int .i64 c]) := HB.out.set_ 0 _
    have HR2 : Hid (Blk (w2.setCell ⟨w.heap.size, 0, none⟩ (.int .i64 8)) (w.heap.size + 1) 30 #[.int .i64 0, .int .i64 0, .int .i64 0, .int .i64 0]) := HR.out.far (p := ⟨w.heap.size, 0, none⟩) (show w.heap.size + 1 ≠ w.heap.size by omega) _
    have HE2 : Hid (Ext w (w2.setCell ⟨w.heap.size, 0, none⟩ (.int .i64 8))) := HE.out.setCell (p := ⟨w.heap.size, 0, none⟩) (Nat.le_refl _) _
    clear b0 b1 b2 b3 e0 e1 e2 e3 r0 r1 r2 r3 f0 f1 f2 f3 HB HR HE
    generalize w2.setCell ⟨w.heap.size, 0, none⟩ (.int .i64 8) = w3 at *
    obtain ⟨⟨b0, b1, b2, b3⟩, -⟩ := cells4 HB2.out
    obtain ⟨⟨r0, r1, r2, r3⟩, f0, f1, f2, f3⟩ := cells4 HR2.out
    go_wp2
    have HBB : Hid (Blk (put4 w3 (w.heap.size + 1) (.int .i64 8) (.int .i64 a) (.int .i64 b) (.int .i64 c)) (w.heap.size + 1) 30 #[.int .i64 8, .int .i64 a, .int .i64 b, .int .i64 c]) := HR2.out.put4 _ _ _ _
    refine bodyPost_ret (v := .agg #[.int .i64 8, .int .i64 a, .int .i64 b, .int .i64 c]) ?_ rfl ?_
    rotate_left
    · exact ⟨rfl, ext_put4 (g := w.heap.size + 1) HE2.out (by omega) _ _ _ _⟩
    · exact retG rfl HBB.out _ (by kernel_rfl) rfl
  by_cases h8 : k = 8
  · subst h8
    go_enter Try.func14, Try.ntmps14
    go_upto_region 1 with (fail)
    have HB : Hid (Blk ((w.alloc (.cells #[.int .i64 8, .int .i64 a, .int .i64 b, .int .i64 c] 30)).alloc (.cells #[.int .i64 0, .int .i64 0, .int .i64 0, .int .i64 0] 30)) w.heap.size 30 #[.int .i64 8, .int .i64 a, .int .i64 b, .int .i64 c]) := (Blk.new w _ _).alloc _
    have HR : Hid (Blk ((w.alloc (.cells #[.int .i64 8, .int .i64 a, .int .i64 b, .int .i64 c] 30)).alloc (.cells #[.int .i64 0, .int .i64 0, .int .i64 0, .int .i64 0] 30)) (w.heap.size + 1) 30 #[.int .i64 0, .int .i64 0, .int .i64 0, .int .i64 0]) := Blk.newAt (by simp)
    have HE : Hid (Ext w ((w.alloc (.cells #[.int .i64 8, .int .i64 a, .int .i64 b, .int .i64 c] 30)).alloc (.cells #[.int .i64 0, .int .i64 0, .int .i64 0, .int .i64 0] 30))) := (by repeat (first | exact Ext.refl _ | assumption | refine Ext.alloc ?_ _ | refine Ext.drewN ?_ _ | refine Ext.drew ?_))
    generalize ((w.alloc (.cells #[.int .i64 8, .int .i64 a, .int .i64 b, .int .i64 c] 30)).alloc (.cells #[.int .i64 0, .int .i64 0, .int .i64 0, .int .i64 0] 30)) = w2 at *
    obtain ⟨⟨b0, b1, b2, b3⟩, e0, e1, e2, e3⟩ := cells4 HB.out
    obtain ⟨⟨r0, r1, r2, r3⟩, f0, f1, f2, f3⟩ := cells4 HR.out
    go_upto_region 10 with (fail)
    have HB2 : Hid (Blk (w2.setCell ⟨w.heap.size, 0, none⟩ (.int .i64 7)) w.heap.size 30 #[.int .i64 7, .int .i64 a, .int .i64 b, .int .i64 c]) := HB.out.set_ 0 _
    have HR2 : Hid (Blk (w2.setCell ⟨w.heap.size, 0, none⟩ (.int .i64 7)) (w.heap.size + 1) 30 #[.int .i64 0, .int .i64 0, .int .i64 0, .int .i64 0]) := HR.out.far (p := ⟨w.heap.size, 0, none⟩) (show w.heap.size + 1 ≠ w.heap.size by omega) _
    have HE2 : Hid (Ext w (w2.setCell ⟨w.heap.size, 0, none⟩ (.int .i64 7))) := HE.out.setCell (p := ⟨w.heap.size, 0, none⟩) (Nat.le_refl _) _
    clear b0 b1 b2 b3 e0 e1 e2 e3 r0 r1 r2 r3 f0 f1 f2 f3 HB HR HE
    generalize w2.setCell ⟨w.heap.size, 0, none⟩ (.int .i64 7) = w3 at *
    obtain ⟨⟨b0, b1, b2, b3⟩, -⟩ := cells4 HB2.out
    obtain ⟨⟨r0, r1, r2, r3⟩, f0, f1, f2, f3⟩ := cells4 HR2.out
    go_wp2
    have HBB : Hid (Blk (put4 w3 (w.heap.size + 1) (.int .i64 7) (.int .i64 a) (.int .i64 b) (.int .i64 c)) (w.heap.size + 1) 30 #[.int .i64 7, .int .i64 a, .int .i64 b, .int .i64 c]) := HR2.out.put4 _ _ _ _
    refine bodyPost_ret (v := .agg #[.int .i64 7, .int .i64 a, .int .i64 b, .int .i64 c]) ?_ rfl ?_
    rotate_left
    · exact ⟨rfl, ext_put4 (g := w.heap.size + 1) HE2.out (by omega) _ _ _ _⟩
    · exact retG rfl HBB.out _ (by kernel_rfl) rfl
  have HO := Lib.hid (invG_other (a := a) (b := b) (c := c) h5 h6 h7 h8)
  have g5 : (k == 5) = false := beq_eq_false_iff_ne.2 h5
  have g6 : (k == 6) = false := beq_eq_false_iff_ne.2 h6
  have g7 : (k == 7) = false := beq_eq_false_iff_ne.2 h7
  have g8 : (k == 8) = false := beq_eq_false_iff_ne.2 h8
  clear h5 h6 h7 h8
  go_enter Try.func14, Try.ntmps14
  go_upto_region 1 with (fail)
  have HB : Hid (Blk ((w.alloc (.cells #[.int .i64 k, .int .i64 a, .int .i64 b, .int .i64 c] 30)).alloc (.cells #[.int .i64 0, .int .i64 0, .int .i64 0, .int .i64 0] 30)) w.heap.size 30 #[.int .i64 k, .int .i64 a, .int .i64 b, .int .i64 c]) := (Blk.new w _ _).alloc _
  have HR : Hid (Blk ((w.alloc (.cells #[.int .i64 k, .int .i64 a, .int .i64 b, .int .i64 c] 30)).alloc (.cells #[.int .i64 0, .int .i64 0, .int .i64 0, .int .i64 0] 30)) (w.heap.size + 1) 30 #[.int .i64 0, .int .i64 0, .int .i64 0, .int .i64 0]) := Blk.newAt (by simp)
  have HE : Hid (Ext w ((w.alloc (.cells #[.int .i64 k, .int .i64 a, .int .i64 b, .int .i64 c] 30)).alloc (.cells #[.int .i64 0, .int .i64 0, .int .i64 0, .int .i64 0] 30))) := (by repeat (first | exact Ext.refl _ | assumption | refine Ext.alloc ?_ _ | refine Ext.drewN ?_ _ | refine Ext.drew ?_))
  generalize ((w.alloc (.cells #[.int .i64 k, .int .i64 a, .int .i64 b, .int .i64 c] 30)).alloc (.cells #[.int .i64 0, .int .i64 0, .int .i64 0, .int .i64 0] 30)) = w2 at *
  obtain ⟨⟨b0, b1, b2, b3⟩, e0, e1, e2, e3⟩ := cells4 HB.out
  obtain ⟨⟨r0, r1, r2, r3⟩, f0, f1, f2, f3⟩ := cells4 HR.out
  have HR2 := HR
  have HE2 := HE
  go_wp2
  have HBB : Hid (Blk (put4 w2 (w.heap.size + 1) (.int .i64 k) (.int .i64 a) (.int .i64 b) (.int .i64 c)) (w.heap.size + 1) 30 #[.int .i64 k, .int .i64 a, .int .i64 b, .int .i64 c]) := HR2.out.put4 _ _ _ _
  refine bodyPost_ret (v := .agg #[.int .i64 k, .int .i64 a, .int .i64 b, .int .i64 c]) ?_ rfl ?_
  rotate_left
  · exact ⟨by rw [HO.out], ext_put4 (g := w.heap.size + 1) HE2.out (by omega) _ _ _ _⟩
  · exact retG rfl HBB.out _ (by kernel_rfl) rfl
set_option maxRecDepth 100000 in
set_option maxHeartbeats 8000000 in
theorem spec_InverseGate_any (g : Gt) (w : World) : Calls Try.prog 15 #[g.val] w fun e w' => e = .returned (invG g).val ∧ Ext w w' := by
  obtain ⟨k, a, b, c⟩ := g
  by_cases h5 : k = 5
  · subst h5
    go_enter Try.func15, Try.ntmps15
    go_upto_region 1 with (fail)
    have HB : Hid (Blk ((w.alloc (.cells #[.int .i64 5, .int .i64 a, .int .i64 b, .int .i64 c] 30)).alloc (.cells #[.int .i64 0, .int .i64 0, .int .i64 0, .int .i64 0] 30)) w.heap.size 30 #[.int .i64 5, .int .i64 a, .int .i64 b, .int .i64 c]) := (Blk.new w _ _).alloc _
    have HR : Hid (Blk ((w.alloc (.cells #[.int .i64 5, .int .i64 a, .int .i64 b, .int .i64 c] 30)).alloc (.cells #[.int .i64 0, .int .i64 0, .int .i64 0, .int .i64 0] 30)) (w.heap.size + 1) 30 #[.int .i64 0, .int .i64 0, .int .i64 0, .int .i64 0]) := Blk.newAt (by simp)
    have HE : Hid (Ext w ((w.alloc (.cells #[.int .i64 5, .int .i64 a, .int .i64 b, .int .i64 c] 30)).alloc (.cells #[.int .i64 0, .int .i64 0, .int .i64 0, .int .i64 0] 30))) := (by repeat (first | exact Ext.refl _ | assumption | refine Ext.alloc ?_ _ | refine Ext.drewN ?_ _ | refine Ext.drew ?_))
    generalize ((w.alloc (.cells #[.int .i64 5, .int .i64 a, .int .i64 b, .int .i64 c] 30)).alloc (.cells #[.int .i64 0, .int .i64 0, .int .i64 0, .int .i64 0] 30)) = w2 at *
    obtain ⟨⟨b0, b1, b2, b3⟩, e0, e1, e2, e3⟩ := cells4 HB.out
    obtain ⟨⟨r0, r1, r2, r3⟩, f0, f1, f2, f3⟩ := cells4 HR.out
    go_upto_region 10 with (fail)
    have HB2 : Hid (Blk (w2.setCell ⟨w.heap.size, 0, none⟩ (.int .i64 6)) w.heap.size 30 #[.int .i64 6, .int .i64 a, .int .i64 b, .int .i64 c]) := HB.out.set_ 0 _
    have HR2 : Hid (Blk (w2.setCell ⟨w.heap.size, 0, none⟩ (.int .i64 6)) (w.heap.size + 1) 30 #[.int .i64 0, .int .i64 0, .int .i64 0, .int .i64 0]) := HR.out.far (p := ⟨w.heap.size, 0, none⟩) (show w.heap.size + 1 ≠ w.heap.size by omega) _
    have HE2 : Hid (Ext w (w2.setCell ⟨w.heap.size, 0, none⟩ (.int .i64 6))) := HE.out.setCell (p := ⟨w.heap.size, 0, none⟩) (Nat.le_refl _) _
    clear b0 b1 b2 b3 e0 e1 e2 e3 r0 r1 r2 r3 f0 f1 f2 f3 HB HR HE
    generalize w2.setCell ⟨w.heap.size, 0, none⟩ (.int .i64 6) = w3 at *
    obtain ⟨⟨b0, b1, b2, b3⟩, -⟩ := cells4 HB2.out
    obtain ⟨⟨r0, r1, r2, r3⟩, f0, f1, f2, f3⟩ := cells4 HR2.out
    go_wp2
    have HBB : Hid (Blk (put4 w3 (w.heap.size + 1) (.int .i64 6) (.int .i64 a) (.int .i64 b) (.int .i64 c)) (w.heap.size + 1) 30 #[.int .i64 6, .int .i64 a, .int .i64 b, .int .i64 c]) := HR2.out.put4 _ _ _ _
    refine bodyPost_ret (v := .agg #[.int .i64 6, .int .i64 a, .int .i64 b, .int .i64 c]) ?_ rfl ?_
    rotate_left
    · exact ⟨rfl, ext_put4 (g := w.heap.size + 1) HE2.out (by omega) _ _ _ _⟩
    · exact retG rfl HBB.out _ (by kernel_rfl) rfl
  by_cases h6 : k = 6
  · subst h6
    go_enter Try.func15, Try.ntmps15
    go_upto_region 1 with (fail)
    have HB : Hid (Blk ((w.alloc (.cells #[.int .i64 6, .int .i64 a, .int .i64 b, .int .i64 c] 30)).alloc (.cells #[.int .i64 0, .int .i64 0, .int .i64 0, .int .i64 0] 30)) w.heap.size 30 #[.int .i64 6, .int .i64 a, .int .i64 b, .int .i64 c]) := (Blk.new w _ _).alloc _
    have HR : Hid (Blk ((w.alloc (.cells #[.int .i64 6, .int .i64 a, .int .i64 b, .int .i64 c] 30)).alloc (.cells #[.int .i64 0, .int .i64 0, .int .i64 0, .int .i64 0] 30)) (w.heap.size + 1) 30 #[.int .i64 0, .int .i64 0, .int .i64 0, .int .i64 0]) := Blk.newAt (by simp)
    have HE : Hid (Ext w ((w.alloc (.cells #[.int .i64 6, .int .i64 a, .int .i64 b, .int .i64 c] 30)).alloc (.cells #[.int .i64 0, .int .i64 0, .int .i64 0, .int .i64 0] 30))) := (by repeat (first | exact Ext.refl _ | assumption | refine Ext.alloc ?_ _ | refine Ext.drewN ?_ _ | refine Ext.drew ?_))
    generalize ((w.alloc (.cells #[.int .i64 6, .int .i64 a, .int .i64 b, .int .i64 c] 30)).alloc (.cells #[.int .i64 0, .int .i64 0, .int .i64 0, .int .i64 0] 30)) = w2 at *
    obtain ⟨⟨b0, b1, b2, b3⟩, e0, e1, e2, e3⟩ := cells4 HB.out
    obtain ⟨⟨r0, r1, r2, r3⟩, f0, f1, f2, f3⟩ := cells4 HR.out
    go_upto_region 10 with (fail)
    have HB2 : Hid (Blk (w2.setCell ⟨w.heap.size, 0, none⟩ (.int .i64 5)) w.heap.size 30 #[.int .i64 5, .int .i64 a, .int .i64 b, .int .i64 c]) := HB.out.set_ 0 _
    have HR2 : Hid (Blk (w2.setCell ⟨w.heap.size, 0, none⟩ (.int .i64 5)) (w.heap.size + 1) 30 #[.int .i64 0, .int .i64 0, .int .i64 0, .int .i64 0]) := HR.out.far (p := ⟨w.heap.size, 0, none⟩) (show w.heap.size + 1 ≠ w.heap.size by omega) _
    have HE2 : Hid (Ext w (w2.setCell ⟨w.heap.size, 0, none⟩ (.int .i64 5))) := HE.out.setCell (p := ⟨w.heap.size, 0, none⟩) (Nat.le_refl _) _
    clear b0 b1 b2 b3 e0 e1 e2 e3 r0 r1 r2 r3 f0 f1 f2 f3 HB HR HE
    generalize w2.setCell ⟨w.heap.size, 0, none⟩ (.int .i64 5) = w3 at *
    obtain ⟨⟨b0, b1, b2, b3⟩, -⟩ := cells4 HB2.out
    obtain ⟨⟨r0, r1, r2, r3⟩, f0, f1, f2, f3⟩ := cells4 HR2.out
    go_wp2
    have HBB : Hid (Blk (put4 w3 (w.heap.size + 1) (.int .i64 5) (.int .i64 a) (.int .i64 b) (.int .i64 c)) (w.heap.size + 1) 30 #[.int .i64 5, .int .i64 a, .int .i64 b, .int .i64 c]) := HR2.out.put4 _ _ _ _
    refine bodyPost_ret (v := .agg #[.int .i64 5, .int .i64 a, .int .i64 b, .int .i64 c]) ?_ rfl ?_
    rotate_left
    · exact ⟨rfl, ext_put4 (g := w.heap.size + 1) HE2.out (by omega) _ _ _ _⟩
    · exact retG rfl HBB.out _ (by kernel_rfl) rfl
  by_cases h7 : k = 7
  · subst h7
    go_enter Try.func15, Try.ntmps15
    go_upto_region 1 with (fail)
    have HB : Hid (Blk ((w.alloc (.cells #[.int .i64 7, .int .i64 a, .int .i64 b, .int .i64 c] 30)).alloc (.cells #[.int .i64 0, .int .i64 0, .int .i64 0, .int .i64 0] 30)) w.heap.size 30 #[.int .i64 7, .int .i64 a, .int .i64 b, .int .i64 c]) := (Blk.new w _ _).alloc _
    have HR : Hid (Blk ((w.alloc (.cells #[.int .i64 7, .int .i64 a, .int .i64 b, .int .i64 c] 30)).alloc (.cells #[.int .i64 0, .int .i64 0, .int .i64 0, .int .i64 0] 30)) (w.heap.size + 1) 30 #[.int .i64 0, .int .i64 0, .int .i64 0, .int .i64 0]) := Blk.newAt (by simp)
    have HE : Hid (Ext w ((w.alloc (.cells #[.int .i64 7, .int .i64 a, .int .i64 b, .int .i64 c] 30)).alloc (.cells #[.int .i64 0, .int .i64 0, .int .i64 0, .int .i64 0] 30))) := (by repeat (first | exact Ext.refl _ | assumption | refine Ext.alloc ?_ _ | refine Ext.drewN ?_ _ | refine Ext.drew ?_))
    generalize ((w.alloc (.cells #[.int .i64 7, .int .i64 a, .int .i64 b, .int .i64 c] 30)).alloc (.cells #[.int .i64 0, .int .i64 0, .int .i64 0, .int .i64 0] 30)) = w2 at *
    obtain ⟨⟨b0, b1, b2, b3⟩, e0, e1, e2, e3⟩ := cells4 HB.out
    obtain ⟨⟨r0, r1, r2, r3⟩, f0, f1, f2, f3⟩ := cells4 HR.out
    go_upto_region 10 with (fail)
    have HB2 : Hid (Blk (w2.setCell ⟨w.heap.size, 0, none⟩ (.int .i64 8)) w.heap.size 30 #[.int .i64 8, .int .i64 a, .int .i64 b, .int .i64 c]) := HB.out.set_ 0 _
    have HR2 : Hid (Blk (w2.setCell ⟨w.heap.size, 0, none⟩ (.int .i64 8)) (w.heap.size + 1) 30 #[.int .i64 0, .int .i64 0, .int .i64 0, .int .i64 0]) := HR.out.far (p := ⟨w.heap.size, 0, none⟩) (show w.heap.size + 1 ≠ w.heap.size by omega) _
    have HE2 : Hid (Ext w (w2.setCell ⟨w.heap.size, 0, none⟩ (.int .i64 8))) := HE.out.setCell (p := ⟨w.heap.size, 0, none⟩) (Nat.le_refl _) _
    clear b0 b1 b2 b3 e0 e1 e2 e3 r0 r1 r2 r3 f0 f1 f2 f3 HB HR HE
    generalize w2.setCell ⟨w.heap.size, 0, none⟩ (.int .i64 8) = w3 at *
    obtain ⟨⟨b0, b1, b2, b3⟩, -⟩ := cells4 HB2.out
    obtain ⟨⟨r0, r1, r2, r3⟩, f0, f1, f2, f3⟩ := cells4 HR2.out
    go_wp2
    have HBB : Hid (Blk (put4 w3 (w.heap.size + 1) (.int .i64 8) (.int .i64 a) (.int .i64 b) (.int .i64 c)) (w.heap.size + 1) 30 #[.int .i64 8, .int .i64 a, .int .i64 b, .int .i64 c]) := HR2.out.put4 _ _ _ _
    refine bodyPost_ret (v := .agg #[.int .i64 8, .int .i64 a, .int .i64 b, .int .i64 c]) ?_ rfl ?_
    rotate_left
    · exact ⟨rfl, ext_put4 (g := w.heap.size + 1) HE2.out (by omega) _ _ _ _⟩
    · exact retG rfl HBB.out _ (by kernel_rfl) rfl
  by_cases h8 : k = 8
  · subst h8
    go_enter Try.func15, Try.ntmps15
    go_upto_region 1 with (fail)
    have HB : Hid (Blk ((w.alloc (.cells #[.int .i64 8, .int .i64 a, .int .i64 b, .int .i64 c] 30)).alloc (.cells #[.int .i64 0, .int .i64 0, .int .i64 0, .int .i64 0] 30)) w.heap.size 30 #[.int .i64 8, .int .i64 a, .int .i64 b, .int .i64 c]) := (Blk.new w _ _).alloc _
    have HR : Hid (Blk ((w.alloc (.cells #[.int .i64 8, .int .i64 a, .int .i64 b, .int .i64 c] 30)).alloc (.cells #[.int .i64 0, .int .i64 0, .int .i64 0, .int .i64 0] 30)) (w.heap.size + 1) 30 #[.int .i64 0, .int .i64 0, .int .i64 0, .int .i64 0]) := Blk.newAt (by simp)
    have HE : Hid (Ext w ((w.alloc (.cells #[.int .i64 8, .int .i64 a, .int .i64 b, .int .i64 c] 30)).alloc (.cells #[.int .i64 0, .int .i64 0, .int .i64 0, .int .i64 0] 30))) := (by repeat (first | exact Ext.refl _ | assumption | refine Ext.alloc ?_ _ | refine Ext.drewN ?_ _ | refine Ext.drew ?_))
    generalize ((w.alloc (.cells #[.int .i64 8, .int .i64 a, .int .i64 b, .int .i64 c] 30)).alloc (.cells #[.int .i64 0, .int .i64 0, .int .i64 0, .int .i64 0] 30)) = w2 at *
    obtain ⟨⟨b0, b1, b2, b3⟩, e0, e1, e2, e3⟩ := cells4 HB.out
    obtain ⟨⟨r0, r1, r2, r3⟩, f0, f1, f2, f3⟩ := cells4 HR.out
    go_upto_region 10 with (fail)
    have HB2 : Hid (Blk (w2.setCell ⟨w.heap.size, 0, none⟩ (.int .i64 7)) w.heap.size 30 #[.int .i64 7, .int .i64 a, .int .i64 b, .int .i64 c]) := HB.out.set_ 0 _
    have HR2 : Hid (Blk (w2.setCell ⟨w.heap.size, 0, none⟩ (.int .i64 7)) (w.heap.size + 1) 30 #[.int .i64 0, .int .i64 0, .int .i64 0, .int .i64 0]) := HR.out.far (p := ⟨w.heap.size, 0, none⟩) (show w.heap.size + 1 ≠ w.heap.size by omega) _
    have HE2 : Hid (Ext w (w2.setCell ⟨w.heap.size, 0, none⟩ (.int .i64 7))) := HE.out.setCell (p := ⟨w.heap.size, 0, none⟩) (Nat.le_refl _) _
    clear b0 b1 b2 b3 e0 e1 e2 e3 r0 r1 r2 r3 f0 f1 f2 f3 HB HR HE
    generalize w2.setCell ⟨w.heap.size, 0, none⟩ (.int .i64 7) = w3 at *
    obtain ⟨⟨b0, b1, b2, b3⟩, -⟩ := cells4 HB2.out
    obtain ⟨⟨r0, r1, r2, r3⟩, f0, f1, f2, f3⟩ := cells4 HR2.out
    go_wp2
    have HBB : Hid (Blk (put4 w3 (w.heap.size + 1) (.int .i64 7) (.int .i64 a) (.int .i64 b) (.int .i64 c)) (w.heap.size + 1) 30 #[.int .i64 7, .int .i64 a, .int .i64 b, .int .i64 c]) := HR2.out.put4 _ _ _ _
    refine bodyPost_ret (v := .agg #[.int .i64 7, .int .i64 a, .int .i64 b, .int .i64 c]) ?_ rfl ?_
    rotate_left
    · exact ⟨rfl, ext_put4 (g := w.heap.size + 1) HE2.out (by omega) _ _ _ _⟩
    · exact retG rfl HBB.out _ (by kernel_rfl) rfl
  have HO := Lib.hid (invG_other (a := a) (b := b) (c := c) h5 h6 h7 h8)
  have g5 : (k == 5) = false := beq_eq_false_iff_ne.2 h5
  have g6 : (k == 6) = false := beq_eq_false_iff_ne.2 h6
  have g7 : (k == 7) = false := beq_eq_false_iff_ne.2 h7
  have g8 : (k == 8) = false := beq_eq_false_iff_ne.2 h8
  clear h5 h6 h7 h8
  go_enter Try.func15, Try.ntmps15
  go_upto_region 1 with (fail)
  have HB : Hid (Blk ((w.alloc (.cells #[.int .i64 k, .int .i64 a, .int .i64 b, .int .i64 c] 30)).alloc (.cells #[.int .i64 0, .int .i64 0, .int .i64 0, .int .i64 0] 30)) w.heap.size 30 #[.int .i64 k, .int .i64 a, .int .i64 b, .int .i64 c]) := (Blk.new w _ _).alloc _
  have HR : Hid (Blk ((w.alloc (.cells #[.int .i64 k, .int .i64 a, .int .i64 b, .int .i64 c] 30)).alloc (.cells #[.int .i64 0, .int .i64 0, .int .i64 0, .int .i64 0] 30)) (w.heap.size + 1) 30 #[.int .i64 0, .int .i64 0, .int .i64 0, .int .i64 0]) := Blk.newAt (by simp)
  have HE : Hid (Ext w ((w.alloc (.cells #[.int .i64 k, .int .i64 a, .int .i64 b, .int .i64 c] 30)).alloc (.cells #[.int .i64 0, .int .i64 0, .int .i64 0, .int .i64 0] 30))) := (by repeat (first | exact Ext.refl _ | assumption | refine Ext.alloc ?_ _ | refine Ext.drewN ?_ _ | refine Ext.drew ?_))
  generalize ((w.alloc (.cells #[.int .i64 k, .int .i64 a, .int .i64 b, .int .i64 c] 30)).alloc (.cells #[.int .i64 0, .int .i64 0, .int .i64 0, .int .i64 0] 30)) = w2 at *
  obtain ⟨⟨b0, b1, b2, b3⟩, e0, e1, e2, e3⟩ := cells4 HB.out
  obtain ⟨⟨r0, r1, r2, r3⟩, f0, f1, f2, f3⟩ := cells4 HR.out
  have HR2 := HR
  have HE2 := HE
  go_wp2
  have HBB : Hid (Blk (put4 w2 (w.heap.size + 1) (.int .i64 k) (.int .i64 a) (.int .i64 b) (.int .i64 c)) (w.heap.size + 1) 30 #[.int .i64 k, .int .i64 a, .int .i64 b, .int .i64 c]) := HR2.out.put4 _ _ _ _
  refine bodyPost_ret (v := .agg #[.int .i64 k, .int .i64 a, .int .i64 b, .int .i64 c]) ?_ rfl ?_
  rotate_left
  · exact ⟨by rw [HO.out], ext_put4 (g := w.heap.size + 1) HE2.out (by omega) _ _ _ _⟩
  · exact retG rfl HBB.out _ (by kernel_rfl) rfl
set_option maxRecDepth 100000 in
set_option maxHeartbeats 8000000 in
theorem impl_AdjointOps_any (A : Option Addr) (n c : Nat) (xs : List Oq) (w : World) (h : Rd w w.heap.size 8 A n (ocells xs)) (hn : n ≤ 1048576) :
    Calls Try.prog 6 #[.slice A n c] w fun e w' => ∃ v, e = .returned v ∧ w'.ownsRow w.heap.size 32 8 v n (ocells (adjO xs)) ∧ Ext w w' := by
  have hlen := h.len Oq.cells_len (by omega)
  have HREV : Hid (∀ j i x, j < n → i = n - 1 - j → xs[i]? = some x → (adjO xs)[j]? = some (invO x)) := fun j i x hj hi hx => by
    unfold adjO
    rw [List.getElem?_map, List.getElem?_reverse (by omega), hlen, ← hi, hx]
    rfl
  have HALL : Hid ((adjO xs).length = n) := (adjO_len xs).trans hlen
  clear hlen
  go_enter Try.func6, Try.ntmps6
  have ho0 : (w.alloc (.cells #[] 32)).ownsRow w.heap.size 32 8 (.slice (some ⟨w.heap.size, 0, none⟩) 0 0) 0 (ocells ((adjO xs).take 0)) := own_lit (Ext.refl _) _ _ 8 0 #[] _ rfl rfl rfl (by omega)
  have hw0 : IntKind.i64.wrap ((n : Int) - 1) = (n : Int) - 1 := IntWalk.i64_in _ (by omega)
  go_wp2
  have HD0 : Hid ((w.alloc (.cells #[] 32)).ownsRow w.heap.size 32 8 (.slice (some ⟨w.heap.size, 0, none⟩) 0 0) 0 (ocells ((adjO xs).take 0)) ∧ Ext w (w.alloc (.cells #[] 32))) := ⟨ho0, (Ext.refl _).alloc _⟩
  clear ho0
  generalize w.alloc (.cells #[] 32) = w1 at *
  go_loopw [3, 4] (fun rv iv wr => ∃ (j : Nat) (A' : Option Addr) (cap : Nat), rv = .slice A' j cap ∧ iv = .int .i64 ((n : Int) - 1 - j) ∧ j ≤ n ∧ Hid (wr.ownsRow w.heap.size 32 8 (.slice A' j cap) j (ocells ((adjO xs).take j)) ∧ Ext w wr)) (fun _ i _ => (intOf i + 1).toNat)
  case atStart => exact ⟨0, _, 0, rfl, by simp [hw0], Nat.zero_le _, HD0⟩
  case round =>
    obtain ⟨j, A', cap, rfl, rfl, hj, HDj⟩ := hrel
    clear HD0 hw0
    by_cases hlt : j < n
    · have HLT : Hid (j < n ∧ n ≤ 1048576) := ⟨hlt, hn⟩
      obtain ⟨i, hi⟩ : ∃ i : Nat, (n : Int) - 1 - j = i := ⟨n - 1 - j, by omega⟩
      have hin : i < n := by omega
      have hk1 : IntKind.i64.wrap ((i : Int) - 1) = (n : Int) - 1 - ((j + 1 : Nat) : Int) := by rw [IntWalk.i64_in _ (by omega)]; omega
      have hk2 : wrap64 ((i : Int) - 1) = (n : Int) - 1 - ((j + 1 : Nat) : Int) := by unfold wrap64; omega
      have hi0 : (0 : Int) ≤ (i : Int) := by omega
      have hi1 : (i : Int) ≥ 0 := hi0
      have HI : Hid (i = n - 1 - j) := by show i = n - 1 - j; omega
      rw [hi]
      clear hi hlt hj
      obtain ⟨b, oo, x, rfl, hb, hx, x0, x1, x2, x3, x4, x5, x6, x7⟩ := op_at (h.ext HDj.out.2) hin
      have HG := Lib.hid (HREV.out j i x HLT.out.1 HI.out hx)
      clear hx hb
      go_upto_region 6 with (fail)
      have HB : Hid (Blk (wr.alloc (.cells #[.int .i64 x.k, .int .i64 x.g.k, .int .i64 x.g.a, .int .i64 x.g.b, .int .i64 x.g.c, .int .i64 x.q, .int .i64 x.bit, .int .i64 x.cond] 32)) wr.heap.size 32 #[.int .i64 x.k, .int .i64 x.g.k, .int .i64 x.g.a, .int .i64 x.g.b, .int .i64 x.g.c, .int .i64 x.q, .int .i64 x.bit, .int .i64 x.cond]) := Blk.new _ _ _
      have HD5 : Hid ((wr.alloc (.cells #[.int .i64 x.k, .int .i64 x.g.k, .int .i64 x.g.a, .int .i64 x.g.b, .int .i64 x.g.c, .int .i64 x.q, .int .i64 x.bit, .int .i64 x.cond] 32)).ownsRow w.heap.size 32 8 (.slice A' j cap) j (ocells ((adjO xs).take j)) ∧ Ext w (wr.alloc (.cells #[.int .i64 x.k, .int .i64 x.g.k, .int .i64 x.g.a, .int .i64 x.g.b, .int .i64 x.g.c, .int .i64 x.q, .int .i64 x.bit, .int .i64 x.cond] 32))) := ⟨own_ext HDj.out.1 ((Ext.refl _).alloc _), HDj.out.2.alloc _⟩
      have HBELOW : Hid (w.heap.size ≤ wr.heap.size ∧ ∀ g, (Value.slice A' j cap).ownBlock = some g → g < wr.heap.size) := ⟨HDj.out.2.size, fun g hg => (HDj.out.1.lt g hg).2⟩
      clear HDj x0 x1 x2 x3 x4 x5 x6 x7
      generalize wr.alloc (.cells #[.int .i64 x.k, .int .i64 x.g.k, .int .i64 x.g.a, .int .i64 x.g.b, .int .i64 x.g.c, .int .i64 x.q, .int .i64 x.bit, .int .i64 x.cond] 32) = w5 at *
      generalize wr.heap.size = s at *
      cases hk : (x.k == 1)
      · rw [invO_n hk] at HG
        have y0 := HB.out.cell 0
        have y1 := HB.out.cell 1
        have y2 := HB.out.cell 2
        have y3 := HB.out.cell 3
        have y4 := HB.out.cell 4
        have y5 := HB.out.cell 5
        have y6 := HB.out.cell 6
        have y7 := HB.out.cell 7
        change w5.cell? ⟨s, 0, none⟩ = some (.int .i64 x.k) at y0
        change w5.cell? ⟨s, 1, none⟩ = some (.int .i64 x.g.k) at y1
        change w5.cell? ⟨s, 2, none⟩ = some (.int .i64 x.g.a) at y2
        change w5.cell? ⟨s, 3, none⟩ = some (.int .i64 x.g.b) at y3
        change w5.cell? ⟨s, 4, none⟩ = some (.int .i64 x.g.c) at y4
        change w5.cell? ⟨s, 5, none⟩ = some (.int .i64 x.q) at y5
        change w5.cell? ⟨s, 6, none⟩ = some (.int .i64 x.bit) at y6
        change w5.cell? ⟨s, 7, none⟩ = some (.int .i64 x.cond) at y7
        have HD := HD5
        go_wp2_with (at_builtin; refine appOpS (w0 := w) rfl _ _ rfl _ j ((adjO xs).take j) rfl (own_ext HD.out.1 ((Ext.refl _).alloc _)) (HD.out.2.alloc _) _ 1 1 [x] rfl (rd_new _ _ _ 8 _ (by simp [Oq.cells]) (by simp [Oq.cells])) (by have := HLT.out; omega) ?_; intro v' w9 g1 g2 g3 g4)
        obtain ⟨A9, c9, rfl, _⟩ := own_slice g1
        have HD9 : Hid (w9.ownsRow w.heap.size 32 8 (.slice A9 (j + 1) c9) (j + 1) (ocells ((adjO xs).take (j + 1))) ∧ Ext w w9) := ⟨by rw [List.take_add_one, HG.out]; exact g1, g2⟩
        clear g1 g2 g3 g4
        go_roundw
        case rel => exact ⟨j + 1, A9, c9, rfl, by first | rfl | rw [hk1] | rw [hk2], by have := HLT.out; omega, HD9⟩
        case measure => have h5 := hk2; have h6 : i = n - 1 - j := HI.out; have h7 := HLT.out; simp [intOf]; omega
      · rw [invO_1 hk] at HG
        have y0 : w5.cell? ⟨s, 0, none⟩ = some (.int .i64 x.k) := HB.out.cell 0
        have y1 : w5.cell? ⟨s, 1, none⟩ = some (.int .i64 x.g.k) := HB.out.cell 1
        have y2 : w5.cell? ⟨s, 2, none⟩ = some (.int .i64 x.g.a) := HB.out.cell 2
        have y3 : w5.cell? ⟨s, 3, none⟩ = some (.int .i64 x.g.b) := HB.out.cell 3
        have y4 : w5.cell? ⟨s, 4, none⟩ = some (.int .i64 x.g.c) := HB.out.cell 4
        have y5 : w5.cell? ⟨s, 5, none⟩ = some (.int .i64 x.q) := HB.out.cell 5
        have y6 : w5.cell? ⟨s, 6, none⟩ = some (.int .i64 x.bit) := HB.out.cell 6
        have y7 : w5.cell? ⟨s, 7, none⟩ = some (.int .i64 x.cond) := HB.out.cell 7
        go_wp2_with fail
        refine (impl_InverseGate_any x.g _).mono ?_
        rintro e w6 ⟨rfl, hx6⟩
        have HB6 := Lib.hid (HB.out.ext hx6)
        have HD6 : Hid (w6.ownsRow w.heap.size 32 8 (.slice A' j cap) j (ocells ((adjO xs).take j)) ∧ Ext w w6) := ⟨own_ext HD5.out.1 hx6, HD5.out.2.trans hx6⟩
        clear y0 y1 y2 y3 y4 y5 y6 y7 hx6 HB HD5
        have y1 : w6.cell? ⟨s, 1, none⟩ = some (.int .i64 x.g.k) := HB6.out.cell 1
        have f1 := HB6.out.frozen 1
        have y2 : w6.cell? ⟨s, 2, none⟩ = some (.int .i64 x.g.a) := HB6.out.cell 2
        have f2 := HB6.out.frozen 2
        have y3 : w6.cell? ⟨s, 3, none⟩ = some (.int .i64 x.g.b) := HB6.out.cell 3
        have f3 := HB6.out.frozen 3
        have y4 : w6.cell? ⟨s, 4, none⟩ = some (.int .i64 x.g.c) := HB6.out.cell 4
        have f4 := HB6.out.frozen 4
        go_upto_region 8 with (fail)
        have HB7 : Hid (Blk ((((w6.setCell ⟨s, 1, none⟩ (.int .i64 (invG x.g).k)).setCell ⟨s, 2, none⟩ (.int .i64 (invG x.g).a)).setCell ⟨s, 3, none⟩ (.int .i64 (invG x.g).b)).setCell ⟨s, 4, none⟩ (.int .i64 (invG x.g).c)) s 32 #[.int .i64 x.k, .int .i64 (invG x.g).k, .int .i64 (invG x.g).a, .int .i64 (invG x.g).b, .int .i64 (invG x.g).c, .int .i64 x.q, .int .i64 x.bit, .int .i64 x.cond]) := (((HB6.out.set_ 1 _).set_ 2 _).set_ 3 _).set_ 4 _
        have HD : Hid (((((w6.setCell ⟨s, 1, none⟩ (.int .i64 (invG x.g).k)).setCell ⟨s, 2, none⟩ (.int .i64 (invG x.g).a)).setCell ⟨s, 3, none⟩ (.int .i64 (invG x.g).b)).setCell ⟨s, 4, none⟩ (.int .i64 (invG x.g).c)).ownsRow w.heap.size 32 8 (.slice A' j cap) j (ocells ((adjO xs).take j)) ∧ Ext w ((((w6.setCell ⟨s, 1, none⟩ (.int .i64 (invG x.g).k)).setCell ⟨s, 2, none⟩ (.int .i64 (invG x.g).a)).setCell ⟨s, 3, none⟩ (.int .i64 (invG x.g).b)).setCell ⟨s, 4, none⟩ (.int .i64 (invG x.g).c))) := by
          have hne : ∀ g, (Value.slice A' j cap).ownBlock = some g → g ≠ s := fun g hg => by have := HBELOW.out.2 g hg; omega
          have hgr : w6.grownBy ((((w6.setCell ⟨s, 1, none⟩ (.int .i64 (invG x.g).k)).setCell ⟨s, 2, none⟩ (.int .i64 (invG x.g).a)).setCell ⟨s, 3, none⟩ (.int .i64 (invG x.g).b)).setCell ⟨s, 4, none⟩ (.int .i64 (invG x.g).c)) (some s) := (by refine ⟨rfl, rfl, rfl, by simp, fun k hk hne => ?_⟩; have hne2 : k ≠ s := fun e => hne (by rw [e]); exact (((Below.heap_setCell _ ⟨s, 4, none⟩ _ k hne2).trans (Below.heap_setCell _ ⟨s, 3, none⟩ _ k hne2)).trans (Below.heap_setCell _ ⟨s, 2, none⟩ _ k hne2)).trans (Below.heap_setCell _ ⟨s, 1, none⟩ _ k hne2))
          refine ⟨HD6.out.1.kept hgr ?_, (((HD6.out.2.setCell (p := ⟨s, 1, none⟩) HBELOW.out.1 _).setCell (p := ⟨s, 2, none⟩) HBELOW.out.1 _).setCell (p := ⟨s, 3, none⟩) HBELOW.out.1 _).setCell (p := ⟨s, 4, none⟩) HBELOW.out.1 _⟩
          cases hv : (Value.slice A' j cap).ownBlock with
          | none => exact .inl rfl
          | some k =>
            right
            intro e1
            injection e1 with e1
            exact hne k hv e1
        clear y1 y2 y3 y4 f1 f2 f3 f4 HB6 HD6
        generalize (((w6.setCell ⟨s, 1, none⟩ (.int .i64 (invG x.g).k)).setCell ⟨s, 2, none⟩ (.int .i64 (invG x.g).a)).setCell ⟨s, 3, none⟩ (.int .i64 (invG x.g).b)).setCell ⟨s, 4, none⟩ (.int .i64 (invG x.g).c) = w7 at *
        have y0 : w7.cell? ⟨s, 0, none⟩ = some (.int .i64 x.k) := HB7.out.cell 0
        have y1 : w7.cell? ⟨s, 1, none⟩ = some (.int .i64 (invG x.g).k) := HB7.out.cell 1
        have y2 : w7.cell? ⟨s, 2, none⟩ = some (.int .i64 (invG x.g).a) := HB7.out.cell 2
        have y3 : w7.cell? ⟨s, 3, none⟩ = some (.int .i64 (invG x.g).b) := HB7.out.cell 3
        have y4 : w7.cell? ⟨s, 4, none⟩ = some (.int .i64 (invG x.g).c) := HB7.out.cell 4
        have y5 : w7.cell? ⟨s, 5, none⟩ = some (.int .i64 x.q) := HB7.out.cell 5
        have y6 : w7.cell? ⟨s, 6, none⟩ = some (.int .i64 x.bit) := HB7.out.cell 6
        have y7 : w7.cell? ⟨s, 7, none⟩ = some (.int .i64 x.cond) := HB7.out.cell 7
        go_wp2_with (at_builtin; refine appOpS (w0 := w) rfl _ _ rfl _ j ((adjO xs).take j) rfl (own_ext HD.out.1 ((Ext.refl _).alloc _)) (HD.out.2.alloc _) _ 1 1 [⟨x.k, invG x.g, x.q, x.bit, x.cond⟩] rfl (rd_new _ _ _ 8 _ (by simp [Oq.cells]) (by simp [Oq.cells])) (by have := HLT.out; omega) ?_; intro v' w9 g1 g2 g3 g4)
        obtain ⟨A9, c9, rfl, _⟩ := own_slice g1
        have HD9 : Hid (w9.ownsRow w.heap.size 32 8 (.slice A9 (j + 1) c9) (j + 1) (ocells ((adjO xs).take (j + 1))) ∧ Ext w w9) := ⟨by rw [List.take_add_one, HG.out]; exact g1, g2⟩
        clear g1 g2 g3 g4
        go_roundw
        case rel => exact ⟨j + 1, A9, c9, rfl, by first | rfl | rw [hk1] | rw [hk2], by have := HLT.out; omega, HD9⟩
        case measure => have h5 := hk2; have h6 : i = n - 1 - j := HI.out; have h7 := HLT.out; simp [intOf]; omega
    · have hjn : j = n := by omega
      subst hjn
      have hneg : ¬ (0 : Int) ≤ (j : Int) - 1 - j := by omega
      have hneg2 : ¬ (j : Int) - 1 - j ≥ 0 := hneg
      go_wp2
      go_ret
      have h9 := HDj.out.1
      rw [List.take_of_length_le (by rw [HALL.out]; exact Nat.le_refl _)] at h9
      exact ⟨_, rfl, h9, HDj.out.2⟩
set_option maxRecDepth 100000 in
set_option maxHeartbeats 8000000 in
theorem spec_AdjointOps_any (A : Option Addr) (n c : Nat) (xs : List Oq) (w : World) (h : Rd w w.heap.size 8 A n (ocells xs)) (hn : n ≤ 1048576) :
    Calls Try.prog 8 #[.slice A n c] w fun e w' => ∃ v, e = .returned v ∧ w'.ownsRow w.heap.size 32 8 v n (ocells (adjO xs)) ∧ Ext w w' := by
  have hlen := h.len Oq.cells_len (by omega)
  have HREV : Hid (∀ j i x, j < n → i = n - 1 - j → xs[i]? = some x → (adjO xs)[j]? = some (invO x)) := fun j i x hj hi hx => by
    unfold adjO
    rw [List.getElem?_map, List.getElem?_reverse (by omega), hlen, ← hi, hx]
    rfl
  have HALL : Hid ((adjO xs).length = n) := (adjO_len xs).trans hlen
  clear hlen
  go_enter Try.func8, Try.ntmps8
  have ho0 : (w.alloc (.cells #[] 32)).ownsRow w.heap.size 32 8 (.slice (some ⟨w.heap.size, 0, none⟩) 0 0) 0 (ocells ((adjO xs).take 0)) := own_lit (Ext.refl _) _ _ 8 0 #[] _ rfl rfl rfl (by omega)
  have hw0 : IntKind.i64.wrap ((n : Int) - 1) = (n : Int) - 1 := IntWalk.i64_in _ (by omega)
  go_wp2
  have HD0 : Hid ((w.alloc (.cells #[] 32)).ownsRow w.heap.size 32 8 (.slice (some ⟨w.heap.size, 0, none⟩) 0 0) 0 (ocells ((adjO xs).take 0)) ∧ Ext w (w.alloc (.cells #[] 32))) := ⟨ho0, (Ext.refl _).alloc _⟩
  clear ho0
  generalize w.alloc (.cells #[] 32) = w1 at *
  go_loopw [3, 4] (fun rv iv wr => ∃ (j : Nat) (A' : Option Addr) (cap : Nat), rv = .slice A' j cap ∧ iv = .int .i64 ((n : Int) - 1 - j) ∧ j ≤ n ∧ Hid (wr.ownsRow w.heap.size 32 8 (.slice A' j cap) j (ocells ((adjO xs).take j)) ∧ Ext w wr)) (fun _ i _ => (intOf i + 1).toNat)
  case atStart => exact ⟨0, _, 0, rfl, by simp [hw0], Nat.zero_le _, HD0⟩
  case round =>
    obtain ⟨j, A', cap, rfl, rfl, hj, HDj⟩ := hrel
    clear HD0 hw0
    by_cases hlt : j < n
    · have HLT : Hid (j < n ∧ n ≤ 1048576) := ⟨hlt, hn⟩
      obtain ⟨i, hi⟩ : ∃ i : Nat, (n : Int) - 1 - j = i := ⟨n - 1 - j, by omega⟩
      have hin : i < n := by omega
      have hk1 : IntKind.i64.wrap ((i : Int) - 1) = (n : Int) - 1 - ((j + 1 : Nat) : Int) := by rw [IntWalk.i64_in _ (by omega)]; omega
      have hk2 : wrap64 ((i : Int) - 1) = (n : Int) - 1 - ((j + 1 : Nat) : Int) := by unfold wrap64; omega
      have hi0 : (0 : Int) ≤ (i : Int) := by omega
      have hi1 : (i : Int) ≥ 0 := hi0
      have HI : Hid (i = n - 1 - j) := by show i = n - 1 - j; omega
      rw [hi]
      clear hi hlt hj
      obtain ⟨b, oo, x, rfl, hb, hx, x0, x1, x2, x3, x4, x5, x6, x7⟩ := op_at (h.ext HDj.out.2) hin
      have HG := Lib.hid (HREV.out j i x HLT.out.1 HI.out hx)
      clear hx hb
      go_upto_region 6 with (fail)
      have HB : Hid (Blk (wr.alloc (.cells #[.int .i64 x.k, .int .i64 x.g.k, .int .i64 x.g.a, .int .i64 x.g.b, .int .i64 x.g.c, .int .i64 x.q, .int .i64 x.bit, .int .i64 x.cond] 32)) wr.heap.size 32 #[.int .i64 x.k, .int .i64 x.g.k, .int .i64 x.g.a, .int .i64 x.g.b, .int .i64 x.g.c, .int .i64 x.q, .int .i64 x.bit, .int .i64 x.cond]) := Blk.new _ _ _
      have HD5 : Hid ((wr.alloc (.cells #[.int .i64 x.k, .int .i64 x.g.k, .int .i64 x.g.a, .int .i64 x.g.b, .int .i64 x.g.c, .int .i64 x.q, .int .i64 x.bit, .int .i64 x.cond] 32)).ownsRow w.heap.size 32 8 (.slice A' j cap) j (ocells ((adjO xs).take j)) ∧ Ext w (wr.alloc (.cells #[.int .i64 x.k, .int .i64 x.g.k, .int .i64 x.g.a, .int .i64 x.g.b, .int .i64 x.g.c, .int .i64 x.q, .int .i64 x.bit, .int .i64 x.cond] 32))) := ⟨own_ext HDj.out.1 ((Ext.refl _).alloc _), HDj.out.2.alloc _⟩
      have HBELOW : Hid (w.heap.size ≤ wr.heap.size ∧ ∀ g, (Value.slice A' j cap).ownBlock = some g → g < wr.heap.size) := ⟨HDj.out.2.size, fun g hg => (HDj.out.1.lt g hg).2⟩
      clear HDj x0 x1 x2 x3 x4 x5 x6 x7
      generalize wr.alloc (.cells #[.int .i64 x.k, .int .i64 x.g.k, .int .i64 x.g.a, .int .i64 x.g.b, .int .i64 x.g.c, .int .i64 x.q, .int .i64 x.bit, .int .i64 x.cond] 32) = w5 at *
      generalize wr.heap.size = s at *
      cases hk : (x.k == 1)
      · rw [invO_n hk] at HG
        have y0 := HB.out.cell 0
        have y1 := HB.out.cell 1
        have y2 := HB.out.cell 2
        have y3 := HB.out.cell 3
        have y4 := HB.out.cell 4
        have y5 := HB.out.cell 5
        have y6 := HB.out.cell 6
        have y7 := HB.out.cell 7
        change w5.cell? ⟨s, 0, none⟩ = some (.int .i64 x.k) at y0
        change w5.cell? ⟨s, 1, none⟩ = some (.int .i64 x.g.k) at y1
        change w5.cell? ⟨s, 2, none⟩ = some (.int .i64 x.g.a) at y2
        change w5.cell? ⟨s, 3, none⟩ = some (.int .i64 x.g.b) at y3
        change w5.cell? ⟨s, 4, none⟩ = some (.int .i64 x.g.c) at y4
        change w5.cell? ⟨s, 5, none⟩ = some (.int .i64 x.q) at y5
        change w5.cell? ⟨s, 6, none⟩ = some (.int .i64 x.bit) at y6
        change w5.cell? ⟨s, 7, none⟩ = some (.int .i64 x.cond) at y7
        have HD := HD5
        go_wp2_with (at_builtin; refine appOpS (w0 := w) rfl _ _ rfl _ j ((adjO xs).take j) rfl (own_ext HD.out.1 ((Ext.refl _).alloc _)) (HD.out.2.alloc _) _ 1 1 [x] rfl (rd_new _ _ _ 8 _ (by simp [Oq.cells]) (by simp [Oq.cells])) (by have := HLT.out; omega) ?_; intro v' w9 g1 g2 g3 g4)
        obtain ⟨A9, c9, rfl, _⟩ := own_slice g1
        have HD9 : Hid (w9.ownsRow w.heap.size 32 8 (.slice A9 (j + 1) c9) (j + 1) (ocells ((adjO xs).take (j + 1))) ∧ Ext w w9) := ⟨by rw [List.take_add_one, HG.out]; exact g1, g2⟩
        clear g1 g2 g3 g4
        go_roundw
        case rel => exact ⟨j + 1, A9, c9, rfl, by first | rfl | rw [hk1] | rw [hk2], by have := HLT.out; omega, HD9⟩
        case measure => have h5 := hk2; have h6 : i = n - 1 - j := HI.out; have h7 := HLT.out; simp [intOf]; omega
      · rw [invO_1 hk] at HG
        have y0 : w5.cell? ⟨s, 0, none⟩ = some (.int .i64 x.k) := HB.out.cell 0
        have y1 : w5.cell? ⟨s, 1, none⟩ = some (.int .i64 x.g.k) := HB.out.cell 1
        have y2 : w5.cell? ⟨s, 2, none⟩ = some (.int .i64 x.g.a) := HB.out.cell 2
        have y3 : w5.cell? ⟨s, 3, none⟩ = some (.int .i64 x.g.b) := HB.out.cell 3
        have y4 : w5.cell? ⟨s, 4, none⟩ = some (.int .i64 x.g.c) := HB.out.cell 4
        have y5 : w5.cell? ⟨s, 5, none⟩ = some (.int .i64 x.q) := HB.out.cell 5
        have y6 : w5.cell? ⟨s, 6, none⟩ = some (.int .i64 x.bit) := HB.out.cell 6
        have y7 : w5.cell? ⟨s, 7, none⟩ = some (.int .i64 x.cond) := HB.out.cell 7
        go_wp2_with fail
        refine (spec_InverseGate_any x.g _).mono ?_
        rintro e w6 ⟨rfl, hx6⟩
        have HB6 := Lib.hid (HB.out.ext hx6)
        have HD6 : Hid (w6.ownsRow w.heap.size 32 8 (.slice A' j cap) j (ocells ((adjO xs).take j)) ∧ Ext w w6) := ⟨own_ext HD5.out.1 hx6, HD5.out.2.trans hx6⟩
        clear y0 y1 y2 y3 y4 y5 y6 y7 hx6 HB HD5
        have y1 : w6.cell? ⟨s, 1, none⟩ = some (.int .i64 x.g.k) := HB6.out.cell 1
        have f1 := HB6.out.frozen 1
        have y2 : w6.cell? ⟨s, 2, none⟩ = some (.int .i64 x.g.a) := HB6.out.cell 2
        have f2 := HB6.out.frozen 2
        have y3 : w6.cell? ⟨s, 3, none⟩ = some (.int .i64 x.g.b) := HB6.out.cell 3
        have f3 := HB6.out.frozen 3
        have y4 : w6.cell? ⟨s, 4, none⟩ = some (.int .i64 x.g.c) := HB6.out.cell 4
        have f4 := HB6.out.frozen 4
        go_upto_region 8 with (fail)
        have HB7 : Hid (Blk ((((w6.setCell ⟨s, 1, none⟩ (.int .i64 (invG x.g).k)).setCell ⟨s, 2, none⟩ (.int .i64 (invG x.g).a)).setCell ⟨s, 3, none⟩ (.int .i64 (invG x.g).b)).setCell ⟨s, 4, none⟩ (.int .i64 (invG x.g).c)) s 32 #[.int .i64 x.k, .int .i64 (invG x.g).k, .int .i64 (invG x.g).a, .int .i64 (invG x.g).b, .int .i64 (invG x.g).c, .int .i64 x.q, .int .i64 x.bit, .int .i64 x.cond]) := (((HB6.out.set_ 1 _).set_ 2 _).set_ 3 _).set_ 4 _
        have HD : Hid (((((w6.setCell ⟨s, 1, none⟩ (.int .i64 (invG x.g).k)).setCell ⟨s, 2, none⟩ (.int .i64 (invG x.g).a)).setCell ⟨s, 3, none⟩ (.int .i64 (invG x.g).b)).setCell ⟨s, 4, none⟩ (.int .i64 (invG x.g).c)).ownsRow w.heap.size 32 8 (.slice A' j cap) j (ocells ((adjO xs).take j)) ∧ Ext w ((((w6.setCell ⟨s, 1, none⟩ (.int .i64 (invG x.g).k)).setCell ⟨s, 2, none⟩ (.int .i64 (invG x.g).a)).setCell ⟨s, 3, none⟩ (.int .i64 (invG x.g).b)).setCell ⟨s, 4, none⟩ (.int .i64 (invG x.g).c))) := by
          have hne : ∀ g, (Value.slice A' j cap).ownBlock = some g → g ≠ s := fun g hg => by have := HBELOW.out.2 g hg; omega
          have hgr : w6.grownBy ((((w6.setCell ⟨s, 1, none⟩ (.int .i64 (invG x.g).k)).setCell ⟨s, 2, none⟩ (.int .i64 (invG x.g).a)).setCell ⟨s, 3, none⟩ (.int .i64 (invG x.g).b)).setCell ⟨s, 4, none⟩ (.int .i64 (invG x.g).c)) (some s) := (by refine ⟨rfl, rfl, rfl, by simp, fun k hk hne => ?_⟩; have hne2 : k ≠ s := fun e => hne (by rw [e]); exact (((Below.heap_setCell _ ⟨s, 4, none⟩ _ k hne2).trans (Below.heap_setCell _ ⟨s, 3, none⟩ _ k hne2)).trans (Below.heap_setCell _ ⟨s, 2, none⟩ _ k hne2)).trans (Below.heap_setCell _ ⟨s, 1, none⟩ _ k hne2))
          refine ⟨HD6.out.1.kept hgr ?_, (((HD6.out.2.setCell (p := ⟨s, 1, none⟩) HBELOW.out.1 _).setCell (p := ⟨s, 2, none⟩) HBELOW.out.1 _).setCell (p := ⟨s, 3, none⟩) HBELOW.out.1 _).setCell (p := ⟨s, 4, none⟩) HBELOW.out.1 _⟩
          cases hv : (Value.slice A' j cap).ownBlock with
          | none => exact .inl rfl
          | some k =>
            right
            intro e1
            injection e1 with e1
            exact hne k hv e1
        clear y1 y2 y3 y4 f1 f2 f3 f4 HB6 HD6
        generalize (((w6.setCell ⟨s, 1, none⟩ (.int .i64 (invG x.g).k)).setCell ⟨s, 2, none⟩ (.int .i64 (invG x.g).a)).setCell ⟨s, 3, none⟩ (.int .i64 (invG x.g).b)).setCell ⟨s, 4, none⟩ (.int .i64 (invG x.g).c) = w7 at *
        have y0 : w7.cell? ⟨s, 0, none⟩ = some (.int .i64 x.k) := HB7.out.cell 0
        have y1 : w7.cell? ⟨s, 1, none⟩ = some (.int .i64 (invG x.g).k) := HB7.out.cell 1
        have y2 : w7.cell? ⟨s, 2, none⟩ = some (.int .i64 (invG x.g).a) := HB7.out.cell 2
        have y3 : w7.cell? ⟨s, 3, none⟩ = some (.int .i64 (invG x.g).b) := HB7.out.cell 3
        have y4 : w7.cell? ⟨s, 4, none⟩ = some (.int .i64 (invG x.g).c) := HB7.out.cell 4
        have y5 : w7.cell? ⟨s, 5, none⟩ = some (.int .i64 x.q) := HB7.out.cell 5
        have y6 : w7.cell? ⟨s, 6, none⟩ = some (.int .i64 x.bit) := HB7.out.cell 6
        have y7 : w7.cell? ⟨s, 7, none⟩ = some (.int .i64 x.cond) := HB7.out.cell 7
        go_wp2_with (at_builtin; refine appOpS (w0 := w) rfl _ _ rfl _ j ((adjO xs).take j) rfl (own_ext HD.out.1 ((Ext.refl _).alloc _)) (HD.out.2.alloc _) _ 1 1 [⟨x.k, invG x.g, x.q, x.bit, x.cond⟩] rfl (rd_new _ _ _ 8 _ (by simp [Oq.cells]) (by simp [Oq.cells])) (by have := HLT.out; omega) ?_; intro v' w9 g1 g2 g3 g4)
        obtain ⟨A9, c9, rfl, _⟩ := own_slice g1
        have HD9 : Hid (w9.ownsRow w.heap.size 32 8 (.slice A9 (j + 1) c9) (j + 1) (ocells ((adjO xs).take (j + 1))) ∧ Ext w w9) := ⟨by rw [List.take_add_one, HG.out]; exact g1, g2⟩
        clear g1 g2 g3 g4
        go_roundw
        case rel => exact ⟨j + 1, A9, c9, rfl, by first | rfl | rw [hk1] | rw [hk2], by have := HLT.out; omega, HD9⟩
        case measure => have h5 := hk2; have h6 : i = n - 1 - j := HI.out; have h7 := HLT.out; simp [intOf]; omega
    · have hjn : j = n := by omega
      subst hjn
      have hneg : ¬ (0 : Int) ≤ (j : Int) - 1 - j := by omega
      have hneg2 : ¬ (j : Int) - 1 - j ≥ 0 := hneg
      go_wp2
      go_ret
      have h9 := HDj.out.1
      rw [List.take_of_length_le (by rw [HALL.out]; exact Nat.le_refl _)] at h9
      exact ⟨_, rfl, h9, HDj.out.2⟩
end Go.Proofs.Ytgnijfmgfpckeaa
