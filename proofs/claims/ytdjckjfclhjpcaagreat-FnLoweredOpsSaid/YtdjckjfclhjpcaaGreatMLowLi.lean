/-
 Helper text (no claim of its own): words on drawn routines. Printed by gen_drawo.py.
-/
import Derived.Test.YtdjckjfclhjpcaaGreatMLowLh
import Derived.Test.YtdjckjfclhjpcaaGreatSvg
import Derived.Test.YtdjckjfclhjpcaaGreatCmp
import Derived.Test.YtdjckjfclhjpcaaGreatVop
import Derived.Test.YtdjckjfclhjpcaaGreatOp
import Derived.Test.YtdjckjfclhjpcaaGreatIn
import Derived.Test.YtdjckjfclhjpcaaGreatRet
import Derived.Test.YtdjckjfclhjpcaaGreatMLowLd
import Derived.Test.YtdjckjfclhjpcaaGreatDrawD
import Derived.Deep.RegionLaw
/-
 Helper text (no claim of its own): programs are checked, whole. Printed by gen_smf.py.
-/
namespace Go.Proofs.YtdjckjfclhjpcaaGreat
open Go.ChangeShapes Go.WideShapes Go.ChangeAt Go.RowKit Go.Deep
set_option linter.unusedVariables false
set_option linter.unusedSimpArgs false
set_option maxRecDepth 100000 in
set_option maxHeartbeats 8000000 in
theorem l20All_step {d : Nat} (hIH : ∀ d', d = d' + 1 → AllIn d') : AllIn d := fun A n c An nn cn Ah nh ch Ab nb cb ge K K' w hs hK he h1 h2 hK' hnn => by
  have hn := hs.1
  have IH := Lib.hid hIH
  clear hIH
  have HZ0 : Hid (Blk (w.alloc (.cells #[.int .i64 0, .string ⟨#[]⟩] 103)) w.heap.size 103 #[.int .i64 0, .string ⟨#[]⟩]) := Blk.new _ _ _
  go_enter Tryz.func55, Tryz.ntmps55
  go_wp2
  go_loopw [5] (fun i wr => ∃ k : Nat, k ≤ n ∧ i = .int .i64 k ∧ Hid (Blk wr w.heap.size 103 #[.int .i64 0, .string ⟨#[]⟩]) ∧ Ext w wr) (fun i _ => n - (intOf i).toNat)
  case atStart => exact ⟨0, Nat.zero_le _, rfl, HZ0, xx⟩
  case round =>
   obtain ⟨k, hk, rfl, HZ, hx⟩ := hrel
   by_cases hlt : k < n
   ·obtain ⟨ys, a1, a2⟩ := (hs.ext hK hx).2
    obtain ⟨b, o, x, rfl, hb, hg, r0, r1, r2, r3, r4⟩ := sc_at (a1.rd (hK.ext hx)) hlt
    have hv := a2 x (List.mem_of_getElem? hg)
    obtain ⟨xk, wd, A', n', c', cnt, B', m', e'⟩ := x
    simp only at r0 r1 r2 r3 r4
    obtain ⟨d', hd⟩ : ∃ d', d = d' + 1 := by
     rcases Nat.eq_zero_or_pos d with h0 | h0
     ·rw [h0] at hv
      exact (show False from hv).elim
     ·exact ⟨d - 1, by omega⟩
    subst hd
    obtain ⟨⟨p1, p2, p2', p3, p4⟩, xs, hxs, hxr⟩ := hv.parts (hK.ext hx)
    have HC : Hid (Calls Tryz.prog 67 #[.agg #[.int .i64 xk, .string wd, .slice A' n' c', .int .i64 cnt, .slice B' m' e'], .pointer (some ⟨ge, 0, none⟩)] wr fun e w' => RBad e ∧ Ext wr w') :=
     l20Stmt_of (IH.out d' rfl) xk wd A' n' c' cnt B' m' e' An nn cn Ah nh ch true Ab nb cb ge K K' wr (fun e w' => RBad e ∧ Ext wr w') hv (hK.ext hx) (he.ext hx) (h1.ext hK' hx) (h2.ext hK' hx) (hK'.ext hx) (by omega) (by intro h; cases h) (fun e w' h1 h2 => ⟨h1, h2⟩)
      (fun h2n w1 hx1 => (l20Measure_in xk wd A' n' c' cnt B' m' e' An nn cn Ah nh ch (.slice Ab nb cb) ge w1 (by omega) xs (hxr.ext hx1) ((he.ext hx).ext hx1)).mono fun e w' ⟨q1, q2⟩ => ⟨q1, fun q z0 z1 hq hbq => ⟨hbq.ext q2, fun e' a b he' => ⟨he', ext_put2b (hx1.trans q2) hq a b⟩⟩⟩)
    clear hv hxs hxr a1 a2 hg
    go_wp2_with fail
    refine HC.out.mono ?_
    rintro e w1 ⟨⟨c1, s1, rfl⟩, hx1⟩
    have HZ1 := Lib.hid (HZ.out.ext hx1)
    have hzl := HZ1.out.lt
    cases hc1 : (c1 == 0)
    ·skip
     obtain ⟨⟨q0, q1⟩, f0, f1⟩ := blk2 HZ1.out
     have HB9 : Hid (Blk ((put2b w1 w.heap.size (.int .i64 c1) (.string s1)).alloc (.cells #[.int .i64 c1, .string s1] 103)) w.heap.size 103 #[.int .i64 c1, .string s1]) := (HZ1.out.put2b _ _).alloc _
     have HX9 : Hid (Ext w ((put2b w1 w.heap.size (.int .i64 c1) (.string s1)).alloc (.cells #[.int .i64 c1, .string s1] 103))) := (ext_put2b (hx.trans hx1) (Nat.le_refl _) _ _).alloc _
     go_wp2
     exact endBad rfl HB9.out _ rfl rfl fun e he => ⟨he, HX9.out⟩
    ·go_wp2
     go_roundw
     case rel => exact ⟨k + 1, by omega, by go_num, HZ1.out.alloc _, (hx.trans hx1).alloc _⟩
     case measure => simp [intOf]; omega
   ·obtain ⟨⟨q0, q1⟩, f0, f1⟩ := blk2 HZ.out
    have HB9 := Lib.hid (HZ.out.put2b (.int .i64 0) (.string ⟨#[]⟩))
    have HX9 := Lib.hid (ext_put2b hx (Nat.le_refl _) (.int .i64 0) (.string ⟨#[]⟩))
    go_wp2
    exact endBad rfl HB9.out _ rfl rfl fun e he => ⟨he, HX9.out⟩
theorem l20All_in : ∀ (d : Nat), AllIn d
 | 0 => l20All_step fun d' h => absurd h (by omega)
 | d + 1 => l20All_step fun d' h => by
  obtain rfl : d' = d := by omega
  exact l20All_in d'
theorem Tp.put2b {w w' : World} {ge q : Nat} {v v' : Value} (h : Tp w w' ge v v') (hq : w.heap.size ≤ q) (a b : Value) : Tp w (put2b w' q a b) ge v v' :=
 ⟨h.os, h.tape, h.output, by have h9 := h.size; simpa [Go.Proofs.YtdjckjfclhjpcaaGreat.put2b, World.setCell] using h9, fun k hk h1 h2 => ((Below.heap_setCell (w'.setCell ⟨q, 0, none⟩ a) ⟨q, 1, none⟩ b k (by show k ≠ q; omega)).trans (Below.heap_setCell w' ⟨q, 0, none⟩ a k (by show k ≠ q; omega))).trans (h.keep k hk h1 h2), h.own⟩
theorem TopE.put2b {w : World} {ge q : Nat} {An Ah : Option Addr} {nn cn nh ch : Nat} {v z0 z1 : Value} (h : TopE w ge An nn cn Ah nh ch v) (hb : Blk w q 103 #[z0, z1]) (hq : ge ≠ q) (a b : Value) : TopE (put2b w q a b) ge An nn cn Ah nh ch v := by
 obtain ⟨Ab, nb, cb, h1, h2, h3, bs, h4⟩ := h
 exact ⟨Ab, nb, cb, h1, (h2.far (p := ⟨q, 0, none⟩) hq _).far (p := ⟨q, 1, none⟩) hq _, h3, bs, own_put2b h4 hb (by decide) _ _⟩
theorem TopE.own {w : World} {ge : Nat} {An Ah : Option Addr} {nn cn nh ch : Nat} {v : Value} (h : TopE w ge An nn cn Ah nh ch v) {q : Nat} (hq : v.ownBlock = some q) : ge + 1 ≤ q ∧ q < w.heap.size := by
 obtain ⟨Ab, nb, cb, rfl, h2, h3, bs, h4⟩ := h
 exact h4.lt q hq
set_option maxRecDepth 100000 in
set_option maxHeartbeats 8000000 in
theorem l20All_top (d : Nat) (A : Option Addr) (n c : Nat) (An : Option Addr) (nn cn : Nat) (Ah : Option Addr) (nh ch : Nat) (v : Value) (ge : Nat) (K K' : Nat → Prop) (w : World) (hs : Ss (d + 1) w K A n) (hK : ∀ b, K b → b < ge) (hv : TopE w ge An nn cn Ah nh ch v) (h1 : Nm w K' An nn) (h2 : Nm w K' Ah nh) (hK' : ∀ b, K' b → b < ge) (hnn : nn + (d + 1) ≤ 900 ∧ nh + (d + 1) ≤ 900) :
  Calls Tryz.prog 55 #[.slice A n c, .pointer (some ⟨ge, 0, none⟩)] w fun e w' => RBad e ∧ ∃ v', Tp w w' ge v v' := by
 have hn := hs.1
 have hgl : ge < w.heap.size := by obtain ⟨Ab, nb, cb, _, h2, _⟩ := hv; exact h2.lt
 have HZ0 : Hid (Blk (w.alloc (.cells #[.int .i64 0, .string ⟨#[]⟩] 103)) w.heap.size 103 #[.int .i64 0, .string ⟨#[]⟩]) := Blk.new _ _ _
 have HV0 : Hid (TopE (w.alloc (.cells #[.int .i64 0, .string ⟨#[]⟩] 103)) ge An nn cn Ah nh ch v ∧ Tp w (w.alloc (.cells #[.int .i64 0, .string ⟨#[]⟩] 103)) ge v v ∧ v.ownBlock ≠ some w.heap.size) := ⟨hv.ext ((Ext.refl w).alloc _), Tp.ext ((Ext.refl w).alloc _) ge v, fun e => by have := (hv.own e).2; omega⟩
 have HOWN : Hid (∀ b, v.ownBlock = some b → ge < b) := fun b hb => (hv.own hb).1
 have HIN := Lib.hid (l20All_in d)
 clear hv
 go_enter Tryz.func55, Tryz.ntmps55
 go_wp2
 go_loopw [5] (fun i wr => ∃ (k : Nat) (v' : Value), k ≤ n ∧ i = .int .i64 k ∧ Hid (Blk wr w.heap.size 103 #[.int .i64 0, .string ⟨#[]⟩]) ∧ Hid (TopE wr ge An nn cn Ah nh ch v' ∧ Tp w wr ge v v' ∧ v'.ownBlock ≠ some w.heap.size)) (fun i _ => n - (intOf i).toNat)
 case atStart => exact ⟨0, v, Nat.zero_le _, rfl, HZ0, HV0⟩
 case round =>
  clear HZ0 HV0
  obtain ⟨k, v', hk, rfl, HZ, HV⟩ := hrel
  have hws := HV.out.2.1.size
  have hkeep : ∀ b, b < ge → wr.heap[b]? = w.heap[b]? := fun b hb => HV.out.2.1.keep b (by omega) (by omega) (fun e => by have := HOWN.out b e; omega)
  by_cases hlt : k < n
  ·have hs2 : Ss (d + 1) wr K A n := hs.keep (fun b hb => hkeep b (hK b hb)) fun _ h => h
   have hKo : Old wr K := fun b hb => by have := hK b hb; omega
   have hKo' : Old wr K' := fun b hb => by have := hK' b hb; omega
   obtain ⟨ys, a1, a2⟩ := hs2.2
   obtain ⟨b, o, x, rfl, hb, hg, r0, r1, r2, r3, r4⟩ := sc_at (a1.rd hKo) hlt
   have hv := a2 x (List.mem_of_getElem? hg)
   obtain ⟨xk, wd, A', n', c', cnt, B', m', e'⟩ := x
   simp only at r0 r1 r2 r3 r4
   obtain ⟨p1, p2, p2', p3, p4, ⟨xs, hxs, hxr⟩, -⟩ := id hv
   simp only at p1 p2 p2' p3 p4 hxr
   have hn1 : Nm wr K' An nn := h1.keep (fun b hb => hkeep b (hK' b hb)) fun _ h => h
   have hn2 : Nm wr K' Ah nh := h2.keep (fun b hb => hkeep b (hK' b hb)) fun _ h => h
   have HC : Hid (Calls Tryz.prog 67 #[.agg #[.int .i64 xk, .string wd, .slice A' n' c', .int .i64 cnt, .slice B' m' e'], .pointer (some ⟨ge, 0, none⟩)] wr fun e w' => RBad e ∧ ∃ v'', TopE w' ge An nn cn Ah nh ch v'' ∧ Tp wr w' ge v' v'') := by
    obtain ⟨Ab, nb, cb, hvs, hve, hvb, bs, hvo⟩ := HV.out.1
    refine l20Stmt_of HIN.out xk wd A' n' c' cnt B' m' e' An nn cn Ah nh ch false Ab nb cb ge K K' wr _ hv hKo hve hn1 hn2 hKo' hnn (fun _ => ⟨hvb, bs, Rd.own hvo⟩) (fun e w' q1 q2 => ⟨q1, v', HV.out.1.ext q2, Tp.ext q2 ge v'⟩) fun h2n w1 hx1 => ?_
    refine (l20Measure_top xk wd A' n' c' cnt B' m' e' An nn cn Ah nh ch v' ge K' w1 h2n xs ((hxr.keep (w' := w1) (K' := K) (fun b hb => hx1.block b (hKo b hb)) fun _ h => h).rd hK) (HV.out.1.ext hx1) (hn1.ext hKo' hx1) (hn2.ext hKo' hx1) (hKo'.ext hx1) (by omega) hK').mono ?_
    rintro e w' ⟨q1, v'', q2, q3⟩
    refine ⟨q1, fun q z0 z1 hq hbq => ?_⟩
    have hkq : Blk w' q 103 #[z0, z1] := (q3.keep q hbq.lt (by omega) (fun e => by have := (HV.out.1.own e).2; omega)).trans hbq
    exact ⟨hkq, fun e' a b he' => ⟨he', v'', q2.put2b hkq (by omega) a b, ((Tp.ext hx1 ge v').trans q3).put2b hq a b⟩⟩
   clear hv hxs hxr a1 a2 hg hs2 hn1 hn2
   go_wp2_with fail
   refine HC.out.mono ?_
   rintro e w1 ⟨⟨c1, s1, rfl⟩, v2, ht2, tp2⟩
   have HZ1 : Hid (Blk w1 w.heap.size 103 #[.int .i64 0, .string ⟨#[]⟩]) := (tp2.keep _ HZ.out.lt (by omega) HV.out.2.2).trans HZ.out
   have hzl := HZ1.out.lt
   have ht3 := HV.out.2.1.trans tp2
   have how : v2.ownBlock ≠ some w.heap.size := fun e => by
    rcases tp2.own with h9 | ⟨q, h9, h8⟩
    ·exact HV.out.2.2 (h9 ▸ e)
    ·rw [h9] at e; injection e with e; have := HZ.out.lt; omega
   have hsz3 : w.heap.size ≤ w1.heap.size := ht3.size
   have HT4 : Hid (TopE (w1.alloc (.cells #[.int .i64 c1, .string s1] 103)) ge An nn cn Ah nh ch v2 ∧ Tp w (w1.alloc (.cells #[.int .i64 c1, .string s1] 103)) ge v v2 ∧ v2.ownBlock ≠ some w.heap.size) := ⟨ht2.ext ((Ext.refl w1).alloc _), ht3.trans (Tp.ext ((Ext.refl w1).alloc _) ge v2), how⟩
   have HZ4 : Hid (Blk (w1.alloc (.cells #[.int .i64 c1, .string s1] 103)) w.heap.size 103 #[.int .i64 0, .string ⟨#[]⟩]) := HZ1.out.alloc _
   have HT9 := Lib.hid ht3
   clear ht2 tp2 ht3
   obtain ⟨⟨q0, q1⟩, f0, f1⟩ := blk2 HZ1.out
   cases hc1 : (c1 == 0)
   ·skip
    have HB9 : Hid (Blk ((put2b w1 w.heap.size (.int .i64 c1) (.string s1)).alloc (.cells #[.int .i64 c1, .string s1] 103)) w.heap.size 103 #[.int .i64 c1, .string s1]) := (HZ1.out.put2b _ _).alloc _
    have HX9 : Hid (Tp w ((put2b w1 w.heap.size (.int .i64 c1) (.string s1)).alloc (.cells #[.int .i64 c1, .string s1] 103)) ge v v2) := (HT9.out.put2b (Nat.le_refl _) (.int .i64 c1) (.string s1)).trans (Tp.ext ((Ext.refl _).alloc _) ge v2)
    go_wp2
    exact endBad rfl HB9.out _ rfl rfl fun e he => ⟨he, v2, HX9.out⟩
   ·go_wp2
    go_roundw
    case rel => exact ⟨k + 1, v2, by omega, by go_num, HZ4, HT4⟩
    case measure => simp [intOf]; omega
  ·obtain ⟨⟨q0, q1⟩, f0, f1⟩ := blk2 HZ.out
   have HB9 := Lib.hid (HZ.out.put2b (.int .i64 0) (.string ⟨#[]⟩))
   have HX9 := Lib.hid (HV.out.2.1.put2b (Nat.le_refl _) (.int .i64 0) (.string ⟨#[]⟩))
   go_wp2
   exact endBad rfl HB9.out _ rfl rfl fun e he => ⟨he, v', HX9.out⟩
set_option maxRecDepth 100000 in
set_option maxHeartbeats 16000000 in
theorem IsValidProgram_any (d : Nat) (Aq : Option Addr) (nq cq : Nat) (Bp : Option Addr) (mp ep : Nat) (KS : Nat → Prop) (w : World) (h1 : Nm w KS Aq nq) (h2 : Ss d w KS Bp mp) (hK : Old w KS) (hq : nq ≤ 1000) :
  Calls Tryz.prog 36 #[.agg #[.slice Aq nq cq, .slice Bp mp ep]] w fun e w' => RB e ∧ Ext w w' := by
 have HX0 : Hid (Ext w (w.alloc (.cells #[.slice Aq nq cq, .slice Bp mp ep] 53))) := (Ext.refl w).alloc _
 have HP : Hid (Blk (w.alloc (.cells #[.slice Aq nq cq, .slice Bp mp ep] 53)) w.heap.size 53 #[.slice Aq nq cq, .slice Bp mp ep]) := Blk.new _ _ _
 have HC1 : Hid (∀ w', Ext (w.alloc (.cells #[.slice Aq nq cq, .slice Bp mp ep] 53)) w' → Calls Tryz.prog 56 #[.slice Aq nq cq] w' fun e w'' => RB e ∧ w' = w'') := fun w' hx => by
  obtain ⟨xs, a1, a2⟩ := h1
  exact l17Words_any Aq nq cq xs w' (((a2.rd hK).ext HX0.out).ext hx) (by omega) (fun y hy => by have := a1 y hy; omega)
 have HC2 : Hid (∀ w', Ext (w.alloc (.cells #[.slice Aq nq cq, .slice Bp mp ep] 53)) w' → Calls Tryz.prog 57 #[.slice Bp mp ep] w' fun e w'' => RB e ∧ Ext w' w'') := fun w' hx => l17All_of (fun x K w => IsValidStmt_any d x K w) Bp mp ep KS w' (h2.ext hK (HX0.out.trans hx)) (hK.ext (HX0.out.trans hx))
 have HC3 : Hid (∀ w', Ext (w.alloc (.cells #[.slice Aq nq cq, .slice Bp mp ep] 53)) w' → Calls Tryz.prog 58 #[.slice Bp mp ep] w' fun e w'' => RI e ∧ Ext w' w'') := fun w' hx => NestingDepth_any d Bp mp ep KS w' (h2.ext hK (HX0.out.trans hx)) (hK.ext (HX0.out.trans hx))
 have HC4 : Hid (∀ w', Ext (w.alloc (.cells #[.slice Aq nq cq, .slice Bp mp ep] 53)) w' → Calls Tryz.prog 59 #[.slice Bp mp ep] w' fun e w'' => RI e ∧ Ext w' w'') := fun w' hx => StmtTokenCount_any d Bp mp ep KS w' (h2.ext hK (HX0.out.trans hx)) (hK.ext (HX0.out.trans hx))
 clear h1 h2 hK
 go_enter Tryz.func36, Tryz.ntmps36
 go_upto_region 1 with (fail)
 generalize w.alloc (.cells #[.slice Aq nq cq, .slice Bp mp ep] 53) = W0 at *
 obtain ⟨g, hg⟩ : ∃ g, w.heap.size = g := ⟨_, rfl⟩
 rw [hg] at HP ⊢
 clear hg
 have HK : Hid (∀ w', Ext W0 w' → Ext W0 w' ∧ w'.cell? ⟨g, 0, none⟩ = some (.slice Aq nq cq) ∧ w'.cell? ⟨g, 1, none⟩ = some (.slice Bp mp ep)) := fun w' hx => ⟨hx, (HP.out.ext hx).cell 0, (HP.out.ext hx).cell 1⟩
 clear HP
 refine wp_region_held_drew (S := (fun w' => Ext W0 w' ∧ w'.cell? ⟨g, 0, none⟩ = some (.slice Aq nq cq) ∧ w'.cell? ⟨g, 1, none⟩ = some (.slice Bp mp ep))) (by kernel_rfl) (HK.out _ (Ext.refl W0).drew) (fun hHeld => ?_)
 (refine tk 0 (v := ?_) ?_ ?_; rotate_left; · (intro w hSw; (try dsimp only at hSw); go_simp; all_goals with_reducible rfl))
 (try simp only [Act.put, L1, L2, L3, L4, L5, L6])
 (refine tk 1 (v := ?_) ?_ ?_; rotate_left; · (intro w hSw; (try dsimp only at hSw); go_simp; all_goals with_reducible rfl))
 (try simp only [Act.put, L1, L2, L3, L4, L5, L6])
 (refine tk 2 (v := ?_) ?_ ?_; rotate_left; · (intro w hSw; (try dsimp only at hSw); go_simp; all_goals with_reducible rfl))
 (try simp only [Act.put, L1, L2, L3, L4, L5, L6])
 refine wpAnyH_ready (rs := [3]) (by kernel_rfl) (by simp) ?_
 refine AllReadyH.cons rfl (fun K hK => ?_) AllReadyH.nil
 go_simp
 refine (l1In_rb _ _ _ _).mono ?_
 rintro e0 w0 ⟨⟨b1, rfl⟩, rfl⟩
 refine hK.out _ _ (HK.out _ (Ext.refl W0).drew) (fun hHeld => ?_)
 clear hK K
 (try simp only [Act.put, L1, L2, L3, L4, L5, L6])
 (refine tk 4 (v := ?_) ?_ ?_; rotate_left; · (intro w hSw; (try dsimp only at hSw); go_simp; all_goals with_reducible rfl))
 (try simp only [Act.put, L1, L2, L3, L4, L5, L6])
 cases b1
 ·skip
  (refine wpAnyH_take (i := 5) rfl (by kernel_rfl) (by kernel_rfl) (by kernel_rfl) (fun _ _ _ h => h) (Or.inr ⟨by first | kernel_rfl | rfl, rfl⟩) (by assumption) ?_; (try simp only [Act.put, L1, L2, L3, L4, L5, L6]))
  (refine wpAnyH_take (i := 6) rfl (by kernel_rfl) (by kernel_rfl) (by kernel_rfl) (fun _ _ _ h => h) (Or.inr ⟨by first | kernel_rfl | rfl, rfl⟩) (by assumption) ?_; (try simp only [Act.put, L1, L2, L3, L4, L5, L6]))
  (refine wpAnyH_take (i := 7) rfl (by kernel_rfl) (by kernel_rfl) (by kernel_rfl) (fun _ _ _ h => h) (Or.inr ⟨by first | kernel_rfl | rfl, rfl⟩) (by assumption) ?_; (try simp only [Act.put, L1, L2, L3, L4, L5, L6]))
  (refine tk 8 (v := ?_) ?_ ?_; rotate_left; · (intro w hSw; (try dsimp only at hSw); go_simp; all_goals with_reducible rfl))
  (try simp only [Act.put, L1, L2, L3, L4, L5, L6])
  (refine tk 9 (v := ?_) ?_ ?_; rotate_left; · (intro w hSw; (try dsimp only at hSw); go_simp; all_goals with_reducible rfl))
  (try simp only [Act.put, L1, L2, L3, L4, L5, L6])
  (refine wpAnyH_take (i := 10) rfl (by kernel_rfl) (by kernel_rfl) (by kernel_rfl) (fun _ _ _ h => h) (Or.inr ⟨by first | kernel_rfl | rfl, rfl⟩) (by assumption) ?_; (try simp only [Act.put, L1, L2, L3, L4, L5, L6]))
  (refine wpAnyH_take (i := 11) rfl (by kernel_rfl) (by kernel_rfl) (by kernel_rfl) (fun _ _ _ h => h) (Or.inr ⟨by first | kernel_rfl | rfl, rfl⟩) (by assumption) ?_; (try simp only [Act.put, L1, L2, L3, L4, L5, L6]))
  (refine wpAnyH_take (i := 12) rfl (by kernel_rfl) (by kernel_rfl) (by kernel_rfl) (fun _ _ _ h => h) (Or.inr ⟨by first | kernel_rfl | rfl, rfl⟩) (by assumption) ?_; (try simp only [Act.put, L1, L2, L3, L4, L5, L6]))
  (refine tk 13 (v := ?_) ?_ ?_; rotate_left; · (intro w hSw; (try dsimp only at hSw); go_simp; all_goals with_reducible rfl))
  (try simp only [Act.put, L1, L2, L3, L4, L5, L6])
  (refine tk 14 (v := ?_) ?_ ?_; rotate_left; · (intro w hSw; (try dsimp only at hSw); go_simp; all_goals with_reducible rfl))
  (try simp only [Act.put, L1, L2, L3, L4, L5, L6])
  (refine wpAnyH_take (i := 15) rfl (by kernel_rfl) (by kernel_rfl) (by kernel_rfl) (fun _ _ _ h => h) (Or.inr ⟨by first | kernel_rfl | rfl, rfl⟩) (by assumption) ?_; (try simp only [Act.put, L1, L2, L3, L4, L5, L6]))
  (refine wpAnyH_take (i := 16) rfl (by kernel_rfl) (by kernel_rfl) (by kernel_rfl) (fun _ _ _ h => h) (Or.inr ⟨by first | kernel_rfl | rfl, rfl⟩) (by assumption) ?_; (try simp only [Act.put, L1, L2, L3, L4, L5, L6]))
  (refine wpAnyH_take (i := 17) rfl (by kernel_rfl) (by kernel_rfl) (by kernel_rfl) (fun _ _ _ h => h) (Or.inr ⟨by first | kernel_rfl | rfl, rfl⟩) (by assumption) ?_; (try simp only [Act.put, L1, L2, L3, L4, L5, L6]))
  (refine wpAnyH_take (i := 18) rfl (by kernel_rfl) (by kernel_rfl) (by kernel_rfl) (fun _ _ _ h => h) (Or.inr ⟨by first | kernel_rfl | rfl, rfl⟩) (by assumption) ?_; (try simp only [Act.put, L1, L2, L3, L4, L5, L6]))
  (refine tk 19 (v := ?_) ?_ ?_; rotate_left; · (intro w hSw; (try dsimp only at hSw); go_simp; all_goals with_reducible rfl))
  (try simp only [Act.put, L1, L2, L3, L4, L5, L6])
  (refine tk 20 (v := ?_) ?_ ?_; rotate_left; · (intro w hSw; (try dsimp only at hSw); go_simp; all_goals with_reducible rfl))
  (try simp only [Act.put, L1, L2, L3, L4, L5, L6])
  (refine wpAnyH_take (i := 21) rfl (by kernel_rfl) (by kernel_rfl) (by kernel_rfl) (fun _ _ _ h => h) (Or.inr ⟨by first | kernel_rfl | rfl, rfl⟩) (by assumption) ?_; (try simp only [Act.put, L1, L2, L3, L4, L5, L6]))
  (refine wpAnyH_take (i := 22) rfl (by kernel_rfl) (by kernel_rfl) (by kernel_rfl) (fun _ _ _ h => h) (Or.inr ⟨by first | kernel_rfl | rfl, rfl⟩) (by assumption) ?_; (try simp only [Act.put, L1, L2, L3, L4, L5, L6]))
  (refine wpAnyH_take (i := 23) rfl (by kernel_rfl) (by kernel_rfl) (by kernel_rfl) (fun _ _ _ h => h) (Or.inr ⟨by first | kernel_rfl | rfl, rfl⟩) (by assumption) ?_; (try simp only [Act.put, L1, L2, L3, L4, L5, L6]))
  (refine wpAnyH_take (i := 24) rfl (by kernel_rfl) (by kernel_rfl) (by kernel_rfl) (fun _ _ _ h => h) (Or.inr ⟨by first | kernel_rfl | rfl, rfl⟩) (by assumption) ?_; (try simp only [Act.put, L1, L2, L3, L4, L5, L6]))
  (refine wpAnyH_take (i := 25) rfl (by kernel_rfl) (by kernel_rfl) (by kernel_rfl) (fun _ _ _ h => h) (Or.inr ⟨by first | kernel_rfl | rfl, rfl⟩) (by assumption) ?_; (try simp only [Act.put, L1, L2, L3, L4, L5, L6]))
  (refine wpAnyH_take (i := 26) rfl (by kernel_rfl) (by kernel_rfl) (by kernel_rfl) (fun _ _ _ h => h) (Or.inr ⟨by first | kernel_rfl | rfl, rfl⟩) (by assumption) ?_; (try simp only [Act.put, L1, L2, L3, L4, L5, L6]))
  (refine wpAnyH_take (i := 27) rfl (by kernel_rfl) (by kernel_rfl) (by kernel_rfl) (fun _ _ _ h => h) (Or.inr ⟨by first | kernel_rfl | rfl, rfl⟩) (by assumption) ?_; (try simp only [Act.put, L1, L2, L3, L4, L5, L6]))
  (refine wpAnyH_take (i := 28) rfl (by kernel_rfl) (by kernel_rfl) (by kernel_rfl) (fun _ _ _ h => h) (Or.inr ⟨by first | kernel_rfl | rfl, rfl⟩) (by assumption) ?_; (try simp only [Act.put, L1, L2, L3, L4, L5, L6]))
  (refine wpAnyH_take (i := 29) rfl (by kernel_rfl) (by kernel_rfl) (by kernel_rfl) (fun _ _ _ h => h) (Or.inr ⟨by first | kernel_rfl | rfl, rfl⟩) (by assumption) ?_; (try simp only [Act.put, L1, L2, L3, L4, L5, L6]))
  (refine tk 30 (v := ?_) ?_ ?_; rotate_left; · (intro w hSw; (try dsimp only at hSw); go_simp; all_goals with_reducible rfl))
  (try simp only [Act.put, L1, L2, L3, L4, L5, L6])
  (refine tk 31 (v := ?_) ?_ ?_; rotate_left; · (intro w hSw; (try dsimp only at hSw); go_simp; all_goals with_reducible rfl))
  (try simp only [Act.put, L1, L2, L3, L4, L5, L6])
  (refine wpAnyH_done (by kernel_rfl) ?_ _)
  have HXE : Hid (Ext w W0.drew) := HX0.out.trans ((Ext.refl W0).drew)
  clear hHeld HK
  go_wp2
  go_ret
  exact ⟨⟨_, rfl⟩, HXE.out⟩
 ·skip
  (refine tk 5 (v := ?_) ?_ ?_; rotate_left; · (intro w hSw; (try dsimp only at hSw); go_simp; all_goals with_reducible rfl))
  (try simp only [Act.put, L1, L2, L3, L4, L5, L6])
  (refine tk 6 (v := ?_) ?_ ?_; rotate_left; · (intro w hSw; (try dsimp only at hSw); go_simp; all_goals with_reducible rfl))
  (try simp only [Act.put, L1, L2, L3, L4, L5, L6])
  refine wpAnyH_ready (rs := [7]) (by kernel_rfl) (by simp) ?_
  refine AllReadyH.cons rfl (fun K hK => ?_) AllReadyH.nil
  go_simp
  refine (HC1.out _ ((Ext.refl W0).drew)).mono ?_
  rintro e1 w1 ⟨⟨b2, rfl⟩, rfl⟩
  refine hK.out _ _ (HK.out _ ((Ext.refl W0).drew)) (fun hHeld => ?_)
  clear hK K
  (try simp only [Act.put, L1, L2, L3, L4, L5, L6])
  (refine tk 8 (v := ?_) ?_ ?_; rotate_left; · (intro w hSw; (try dsimp only at hSw); go_simp; all_goals with_reducible rfl))
  (try simp only [Act.put, L1, L2, L3, L4, L5, L6])
  (refine tk 9 (v := ?_) ?_ ?_; rotate_left; · (intro w hSw; (try dsimp only at hSw); go_simp; all_goals with_reducible rfl))
  (try simp only [Act.put, L1, L2, L3, L4, L5, L6])
  cases b2
  ·skip
   (refine wpAnyH_take (i := 10) rfl (by kernel_rfl) (by kernel_rfl) (by kernel_rfl) (fun _ _ _ h => h) (Or.inr ⟨by first | kernel_rfl | rfl, rfl⟩) (by assumption) ?_; (try simp only [Act.put, L1, L2, L3, L4, L5, L6]))
   (refine wpAnyH_take (i := 11) rfl (by kernel_rfl) (by kernel_rfl) (by kernel_rfl) (fun _ _ _ h => h) (Or.inr ⟨by first | kernel_rfl | rfl, rfl⟩) (by assumption) ?_; (try simp only [Act.put, L1, L2, L3, L4, L5, L6]))
   (refine wpAnyH_take (i := 12) rfl (by kernel_rfl) (by kernel_rfl) (by kernel_rfl) (fun _ _ _ h => h) (Or.inr ⟨by first | kernel_rfl | rfl, rfl⟩) (by assumption) ?_; (try simp only [Act.put, L1, L2, L3, L4, L5, L6]))
   (refine tk 13 (v := ?_) ?_ ?_; rotate_left; · (intro w hSw; (try dsimp only at hSw); go_simp; all_goals with_reducible rfl))
   (try simp only [Act.put, L1, L2, L3, L4, L5, L6])
   (refine tk 14 (v := ?_) ?_ ?_; rotate_left; · (intro w hSw; (try dsimp only at hSw); go_simp; all_goals with_reducible rfl))
   (try simp only [Act.put, L1, L2, L3, L4, L5, L6])
   (refine wpAnyH_take (i := 15) rfl (by kernel_rfl) (by kernel_rfl) (by kernel_rfl) (fun _ _ _ h => h) (Or.inr ⟨by first | kernel_rfl | rfl, rfl⟩) (by assumption) ?_; (try simp only [Act.put, L1, L2, L3, L4, L5, L6]))
   (refine wpAnyH_take (i := 16) rfl (by kernel_rfl) (by kernel_rfl) (by kernel_rfl) (fun _ _ _ h => h) (Or.inr ⟨by first | kernel_rfl | rfl, rfl⟩) (by assumption) ?_; (try simp only [Act.put, L1, L2, L3, L4, L5, L6]))
   (refine wpAnyH_take (i := 17) rfl (by kernel_rfl) (by kernel_rfl) (by kernel_rfl) (fun _ _ _ h => h) (Or.inr ⟨by first | kernel_rfl | rfl, rfl⟩) (by assumption) ?_; (try simp only [Act.put, L1, L2, L3, L4, L5, L6]))
   (refine wpAnyH_take (i := 18) rfl (by kernel_rfl) (by kernel_rfl) (by kernel_rfl) (fun _ _ _ h => h) (Or.inr ⟨by first | kernel_rfl | rfl, rfl⟩) (by assumption) ?_; (try simp only [Act.put, L1, L2, L3, L4, L5, L6]))
   (refine tk 19 (v := ?_) ?_ ?_; rotate_left; · (intro w hSw; (try dsimp only at hSw); go_simp; all_goals with_reducible rfl))
   (try simp only [Act.put, L1, L2, L3, L4, L5, L6])
   (refine tk 20 (v := ?_) ?_ ?_; rotate_left; · (intro w hSw; (try dsimp only at hSw); go_simp; all_goals with_reducible rfl))
   (try simp only [Act.put, L1, L2, L3, L4, L5, L6])
   (refine wpAnyH_take (i := 21) rfl (by kernel_rfl) (by kernel_rfl) (by kernel_rfl) (fun _ _ _ h => h) (Or.inr ⟨by first | kernel_rfl | rfl, rfl⟩) (by assumption) ?_; (try simp only [Act.put, L1, L2, L3, L4, L5, L6]))
   (refine wpAnyH_take (i := 22) rfl (by kernel_rfl) (by kernel_rfl) (by kernel_rfl) (fun _ _ _ h => h) (Or.inr ⟨by first | kernel_rfl | rfl, rfl⟩) (by assumption) ?_; (try simp only [Act.put, L1, L2, L3, L4, L5, L6]))
   (refine wpAnyH_take (i := 23) rfl (by kernel_rfl) (by kernel_rfl) (by kernel_rfl) (fun _ _ _ h => h) (Or.inr ⟨by first | kernel_rfl | rfl, rfl⟩) (by assumption) ?_; (try simp only [Act.put, L1, L2, L3, L4, L5, L6]))
   (refine wpAnyH_take (i := 24) rfl (by kernel_rfl) (by kernel_rfl) (by kernel_rfl) (fun _ _ _ h => h) (Or.inr ⟨by first | kernel_rfl | rfl, rfl⟩) (by assumption) ?_; (try simp only [Act.put, L1, L2, L3, L4, L5, L6]))
   (refine wpAnyH_take (i := 25) rfl (by kernel_rfl) (by kernel_rfl) (by kernel_rfl) (fun _ _ _ h => h) (Or.inr ⟨by first | kernel_rfl | rfl, rfl⟩) (by assumption) ?_; (try simp only [Act.put, L1, L2, L3, L4, L5, L6]))
   (refine wpAnyH_take (i := 26) rfl (by kernel_rfl) (by kernel_rfl) (by kernel_rfl) (fun _ _ _ h => h) (Or.inr ⟨by first | kernel_rfl | rfl, rfl⟩) (by assumption) ?_; (try simp only [Act.put, L1, L2, L3, L4, L5, L6]))
   (refine wpAnyH_take (i := 27) rfl (by kernel_rfl) (by kernel_rfl) (by kernel_rfl) (fun _ _ _ h => h) (Or.inr ⟨by first | kernel_rfl | rfl, rfl⟩) (by assumption) ?_; (try simp only [Act.put, L1, L2, L3, L4, L5, L6]))
   (refine wpAnyH_take (i := 28) rfl (by kernel_rfl) (by kernel_rfl) (by kernel_rfl) (fun _ _ _ h => h) (Or.inr ⟨by first | kernel_rfl | rfl, rfl⟩) (by assumption) ?_; (try simp only [Act.put, L1, L2, L3, L4, L5, L6]))
   (refine wpAnyH_take (i := 29) rfl (by kernel_rfl) (by kernel_rfl) (by kernel_rfl) (fun _ _ _ h => h) (Or.inr ⟨by first | kernel_rfl | rfl, rfl⟩) (by assumption) ?_; (try simp only [Act.put, L1, L2, L3, L4, L5, L6]))
   (refine tk 30 (v := ?_) ?_ ?_; rotate_left; · (intro w hSw; (try dsimp only at hSw); go_simp; all_goals with_reducible rfl))
   (try simp only [Act.put, L1, L2, L3, L4, L5, L6])
   (refine tk 31 (v := ?_) ?_ ?_; rotate_left; · (intro w hSw; (try dsimp only at hSw); go_simp; all_goals with_reducible rfl))
   (try simp only [Act.put, L1, L2, L3, L4, L5, L6])
   (refine wpAnyH_done (by kernel_rfl) ?_ _)
   have HXE : Hid (Ext w W0.drew) := HX0.out.trans ((Ext.refl W0).drew)
   clear hHeld HK
   go_wp2
   go_ret
   exact ⟨⟨_, rfl⟩, HXE.out⟩
  ·skip
   (refine tk 10 (v := ?_) ?_ ?_; rotate_left; · (intro w hSw; (try dsimp only at hSw); go_simp; all_goals with_reducible rfl))
   (try simp only [Act.put, L1, L2, L3, L4, L5, L6])
   (refine tk 11 (v := ?_) ?_ ?_; rotate_left; · (intro w hSw; (try dsimp only at hSw); go_simp; all_goals with_reducible rfl))
   (try simp only [Act.put, L1, L2, L3, L4, L5, L6])
   refine wpAnyH_ready (rs := [12]) (by kernel_rfl) (by simp) ?_
   refine AllReadyH.cons rfl (fun K hK => ?_) AllReadyH.nil
   go_simp
   refine (HC2.out _ ((Ext.refl W0).drew)).mono ?_
   rintro e2 w2 ⟨⟨b3, rfl⟩, hx2⟩
   have HX2 : Hid (Ext W0 w2) := Ext.trans ((Ext.refl W0).drew) hx2
   clear hx2
   refine hK.out _ _ (HK.out _ HX2.out) (fun hHeld => ?_)
   clear hK K
   (try simp only [Act.put, L1, L2, L3, L4, L5, L6])
   (refine tk 13 (v := ?_) ?_ ?_; rotate_left; · (intro w hSw; (try dsimp only at hSw); go_simp; all_goals with_reducible rfl))
   (try simp only [Act.put, L1, L2, L3, L4, L5, L6])
   (refine tk 14 (v := ?_) ?_ ?_; rotate_left; · (intro w hSw; (try dsimp only at hSw); go_simp; all_goals with_reducible rfl))
   (try simp only [Act.put, L1, L2, L3, L4, L5, L6])
   cases b3
   ·skip
    (refine wpAnyH_take (i := 15) rfl (by kernel_rfl) (by kernel_rfl) (by kernel_rfl) (fun _ _ _ h => h) (Or.inr ⟨by first | kernel_rfl | rfl, rfl⟩) (by assumption) ?_; (try simp only [Act.put, L1, L2, L3, L4, L5, L6]))
    (refine wpAnyH_take (i := 16) rfl (by kernel_rfl) (by kernel_rfl) (by kernel_rfl) (fun _ _ _ h => h) (Or.inr ⟨by first | kernel_rfl | rfl, rfl⟩) (by assumption) ?_; (try simp only [Act.put, L1, L2, L3, L4, L5, L6]))
    (refine wpAnyH_take (i := 17) rfl (by kernel_rfl) (by kernel_rfl) (by kernel_rfl) (fun _ _ _ h => h) (Or.inr ⟨by first | kernel_rfl | rfl, rfl⟩) (by assumption) ?_; (try simp only [Act.put, L1, L2, L3, L4, L5, L6]))
    (refine wpAnyH_take (i := 18) rfl (by kernel_rfl) (by kernel_rfl) (by kernel_rfl) (fun _ _ _ h => h) (Or.inr ⟨by first | kernel_rfl | rfl, rfl⟩) (by assumption) ?_; (try simp only [Act.put, L1, L2, L3, L4, L5, L6]))
    (refine tk 19 (v := ?_) ?_ ?_; rotate_left; · (intro w hSw; (try dsimp only at hSw); go_simp; all_goals with_reducible rfl))
    (try simp only [Act.put, L1, L2, L3, L4, L5, L6])
    (refine tk 20 (v := ?_) ?_ ?_; rotate_left; · (intro w hSw; (try dsimp only at hSw); go_simp; all_goals with_reducible rfl))
    (try simp only [Act.put, L1, L2, L3, L4, L5, L6])
    (refine wpAnyH_take (i := 21) rfl (by kernel_rfl) (by kernel_rfl) (by kernel_rfl) (fun _ _ _ h => h) (Or.inr ⟨by first | kernel_rfl | rfl, rfl⟩) (by assumption) ?_; (try simp only [Act.put, L1, L2, L3, L4, L5, L6]))
    (refine wpAnyH_take (i := 22) rfl (by kernel_rfl) (by kernel_rfl) (by kernel_rfl) (fun _ _ _ h => h) (Or.inr ⟨by first | kernel_rfl | rfl, rfl⟩) (by assumption) ?_; (try simp only [Act.put, L1, L2, L3, L4, L5, L6]))
    (refine wpAnyH_take (i := 23) rfl (by kernel_rfl) (by kernel_rfl) (by kernel_rfl) (fun _ _ _ h => h) (Or.inr ⟨by first | kernel_rfl | rfl, rfl⟩) (by assumption) ?_; (try simp only [Act.put, L1, L2, L3, L4, L5, L6]))
    (refine wpAnyH_take (i := 24) rfl (by kernel_rfl) (by kernel_rfl) (by kernel_rfl) (fun _ _ _ h => h) (Or.inr ⟨by first | kernel_rfl | rfl, rfl⟩) (by assumption) ?_; (try simp only [Act.put, L1, L2, L3, L4, L5, L6]))
    (refine wpAnyH_take (i := 25) rfl (by kernel_rfl) (by kernel_rfl) (by kernel_rfl) (fun _ _ _ h => h) (Or.inr ⟨by first | kernel_rfl | rfl, rfl⟩) (by assumption) ?_; (try simp only [Act.put, L1, L2, L3, L4, L5, L6]))
    (refine wpAnyH_take (i := 26) rfl (by kernel_rfl) (by kernel_rfl) (by kernel_rfl) (fun _ _ _ h => h) (Or.inr ⟨by first | kernel_rfl | rfl, rfl⟩) (by assumption) ?_; (try simp only [Act.put, L1, L2, L3, L4, L5, L6]))
    (refine wpAnyH_take (i := 27) rfl (by kernel_rfl) (by kernel_rfl) (by kernel_rfl) (fun _ _ _ h => h) (Or.inr ⟨by first | kernel_rfl | rfl, rfl⟩) (by assumption) ?_; (try simp only [Act.put, L1, L2, L3, L4, L5, L6]))
    (refine wpAnyH_take (i := 28) rfl (by kernel_rfl) (by kernel_rfl) (by kernel_rfl) (fun _ _ _ h => h) (Or.inr ⟨by first | kernel_rfl | rfl, rfl⟩) (by assumption) ?_; (try simp only [Act.put, L1, L2, L3, L4, L5, L6]))
    (refine wpAnyH_take (i := 29) rfl (by kernel_rfl) (by kernel_rfl) (by kernel_rfl) (fun _ _ _ h => h) (Or.inr ⟨by first | kernel_rfl | rfl, rfl⟩) (by assumption) ?_; (try simp only [Act.put, L1, L2, L3, L4, L5, L6]))
    (refine tk 30 (v := ?_) ?_ ?_; rotate_left; · (intro w hSw; (try dsimp only at hSw); go_simp; all_goals with_reducible rfl))
    (try simp only [Act.put, L1, L2, L3, L4, L5, L6])
    (refine tk 31 (v := ?_) ?_ ?_; rotate_left; · (intro w hSw; (try dsimp only at hSw); go_simp; all_goals with_reducible rfl))
    (try simp only [Act.put, L1, L2, L3, L4, L5, L6])
    (refine wpAnyH_done (by kernel_rfl) ?_ _)
    have HXE : Hid (Ext w w2) := HX0.out.trans (HX2.out)
    clear hHeld HK
    go_wp2
    go_ret
    exact ⟨⟨_, rfl⟩, HXE.out⟩
   ·skip
    (refine tk 15 (v := ?_) ?_ ?_; rotate_left; · (intro w hSw; (try dsimp only at hSw); go_simp; all_goals with_reducible rfl))
    (try simp only [Act.put, L1, L2, L3, L4, L5, L6])
    (refine tk 16 (v := ?_) ?_ ?_; rotate_left; · (intro w hSw; (try dsimp only at hSw); go_simp; all_goals with_reducible rfl))
    (try simp only [Act.put, L1, L2, L3, L4, L5, L6])
    refine wpAnyH_ready (rs := [17]) (by kernel_rfl) (by simp) ?_
    refine AllReadyH.cons rfl (fun K hK => ?_) AllReadyH.nil
    go_simp
    refine (HC3.out _ (HX2.out)).mono ?_
    rintro e3 w3 ⟨⟨r3, rfl⟩, hx3⟩
    have HX3 : Hid (Ext W0 w3) := Ext.trans (HX2.out) hx3
    clear hx3
    refine hK.out _ _ (HK.out _ HX3.out) (fun hHeld => ?_)
    clear hK K
    (try simp only [Act.put, L1, L2, L3, L4, L5, L6])
    (refine tk 18 (v := ?_) ?_ ?_; rotate_left; · (intro w hSw; (try dsimp only at hSw); go_simp; all_goals with_reducible rfl))
    (try simp only [Act.put, L1, L2, L3, L4, L5, L6])
    (refine tk 19 (v := ?_) ?_ ?_; rotate_left; · (intro w hSw; (try dsimp only at hSw); go_simp; all_goals with_reducible rfl))
    (try simp only [Act.put, L1, L2, L3, L4, L5, L6])
    (refine tk 20 (v := ?_) ?_ ?_; rotate_left; · (intro w hSw; (try dsimp only at hSw); go_simp; all_goals with_reducible rfl))
    (try simp only [Act.put, L1, L2, L3, L4, L5, L6])
    cases hb4 : decide (r3 ≤ 4)
    ·skip
     (refine wpAnyH_take (i := 21) rfl (by kernel_rfl) (by kernel_rfl) (by kernel_rfl) (fun _ _ _ h => h) (Or.inr ⟨by first | kernel_rfl | rfl, rfl⟩) (by assumption) ?_; (try simp only [Act.put, L1, L2, L3, L4, L5, L6]))
     (refine wpAnyH_take (i := 22) rfl (by kernel_rfl) (by kernel_rfl) (by kernel_rfl) (fun _ _ _ h => h) (Or.inr ⟨by first | kernel_rfl | rfl, rfl⟩) (by assumption) ?_; (try simp only [Act.put, L1, L2, L3, L4, L5, L6]))
     (refine wpAnyH_take (i := 23) rfl (by kernel_rfl) (by kernel_rfl) (by kernel_rfl) (fun _ _ _ h => h) (Or.inr ⟨by first | kernel_rfl | rfl, rfl⟩) (by assumption) ?_; (try simp only [Act.put, L1, L2, L3, L4, L5, L6]))
     (refine wpAnyH_take (i := 24) rfl (by kernel_rfl) (by kernel_rfl) (by kernel_rfl) (fun _ _ _ h => h) (Or.inr ⟨by first | kernel_rfl | rfl, rfl⟩) (by assumption) ?_; (try simp only [Act.put, L1, L2, L3, L4, L5, L6]))
     (refine wpAnyH_take (i := 25) rfl (by kernel_rfl) (by kernel_rfl) (by kernel_rfl) (fun _ _ _ h => h) (Or.inr ⟨by first | kernel_rfl | rfl, rfl⟩) (by assumption) ?_; (try simp only [Act.put, L1, L2, L3, L4, L5, L6]))
     (refine wpAnyH_take (i := 26) rfl (by kernel_rfl) (by kernel_rfl) (by kernel_rfl) (fun _ _ _ h => h) (Or.inr ⟨by first | kernel_rfl | rfl, rfl⟩) (by assumption) ?_; (try simp only [Act.put, L1, L2, L3, L4, L5, L6]))
     (refine wpAnyH_take (i := 27) rfl (by kernel_rfl) (by kernel_rfl) (by kernel_rfl) (fun _ _ _ h => h) (Or.inr ⟨by first | kernel_rfl | rfl, rfl⟩) (by assumption) ?_; (try simp only [Act.put, L1, L2, L3, L4, L5, L6]))
     (refine wpAnyH_take (i := 28) rfl (by kernel_rfl) (by kernel_rfl) (by kernel_rfl) (fun _ _ _ h => h) (Or.inr ⟨by first | kernel_rfl | rfl, rfl⟩) (by assumption) ?_; (try simp only [Act.put, L1, L2, L3, L4, L5, L6]))
     (refine wpAnyH_take (i := 29) rfl (by kernel_rfl) (by kernel_rfl) (by kernel_rfl) (fun _ _ _ h => h) (Or.inr ⟨by first | kernel_rfl | rfl, rfl⟩) (by assumption) ?_; (try simp only [Act.put, L1, L2, L3, L4, L5, L6]))
     (refine tk 30 (v := ?_) ?_ ?_; rotate_left; · (intro w hSw; (try dsimp only at hSw); go_simp; all_goals with_reducible rfl))
     (try simp only [Act.put, L1, L2, L3, L4, L5, L6])
     (refine tk 31 (v := ?_) ?_ ?_; rotate_left; · (intro w hSw; (try dsimp only at hSw); go_simp; all_goals with_reducible rfl))
     (try simp only [Act.put, L1, L2, L3, L4, L5, L6])
     (refine wpAnyH_done (by kernel_rfl) ?_ _)
     have HXE : Hid (Ext w w3) := HX0.out.trans (HX3.out)
     clear hHeld HK
     go_wp2
     go_ret
     exact ⟨⟨_, rfl⟩, HXE.out⟩
    ·skip
     (refine tk 21 (v := ?_) ?_ ?_; rotate_left; · (intro w hSw; (try dsimp only at hSw); go_simp; all_goals with_reducible rfl))
     (try simp only [Act.put, L1, L2, L3, L4, L5, L6])
     (refine tk 22 (v := ?_) ?_ ?_; rotate_left; · (intro w hSw; (try dsimp only at hSw); go_simp; all_goals with_reducible rfl))
     (try simp only [Act.put, L1, L2, L3, L4, L5, L6])
     (refine tk 24 (v := ?_) ?_ ?_; rotate_left; · (intro w hSw; (try dsimp only at hSw); go_simp; all_goals with_reducible rfl))
     (try simp only [Act.put, L1, L2, L3, L4, L5, L6])
     (refine tk 25 (v := ?_) ?_ ?_; rotate_left; · (intro w hSw; (try dsimp only at hSw); go_simp; all_goals with_reducible rfl))
     (try simp only [Act.put, L1, L2, L3, L4, L5, L6])
     (refine tk 26 (v := ?_) ?_ ?_; rotate_left; · (intro w hSw; (try dsimp only at hSw); go_simp; all_goals with_reducible rfl))
     (try simp only [Act.put, L1, L2, L3, L4, L5, L6])
     refine wpAnyH_ready (rs := [23]) (by kernel_rfl) (by simp) ?_
     refine AllReadyH.cons rfl (fun K hK => ?_) AllReadyH.nil
     go_simp
     refine (HC4.out _ (HX3.out)).mono ?_
     rintro e4 w4 ⟨⟨r4, rfl⟩, hx4⟩
     have HX4 : Hid (Ext W0 w4) := Ext.trans (HX3.out) hx4
     clear hx4
     refine hK.out _ _ (HK.out _ HX4.out) (fun hHeld => ?_)
     clear hK K
     (try simp only [Act.put, L1, L2, L3, L4, L5, L6])
     (refine tk 27 (v := ?_) ?_ ?_; rotate_left; · (intro w hSw; (try dsimp only at hSw); go_simp; all_goals with_reducible rfl))
     (try simp only [Act.put, L1, L2, L3, L4, L5, L6])
     (refine tk 28 (v := ?_) ?_ ?_; rotate_left; · (intro w hSw; (try dsimp only at hSw); go_simp; all_goals with_reducible rfl))
     (try simp only [Act.put, L1, L2, L3, L4, L5, L6])
     (refine tk 29 (v := ?_) ?_ ?_; rotate_left; · (intro w hSw; (try dsimp only at hSw); go_simp; all_goals with_reducible rfl))
     (try simp only [Act.put, L1, L2, L3, L4, L5, L6])
     (refine tk 30 (v := ?_) ?_ ?_; rotate_left; · (intro w hSw; (try dsimp only at hSw); go_simp; all_goals with_reducible rfl))
     (try simp only [Act.put, L1, L2, L3, L4, L5, L6])
     (refine tk 31 (v := ?_) ?_ ?_; rotate_left; · (intro w hSw; (try dsimp only at hSw); go_simp; all_goals with_reducible rfl))
     (try simp only [Act.put, L1, L2, L3, L4, L5, L6])
     (refine wpAnyH_done (by kernel_rfl) ?_ _)
     have HXE : Hid (Ext w w4) := HX0.out.trans (HX4.out)
     clear hHeld HK
     go_wp2
     go_ret
     exact ⟨⟨_, rfl⟩, HXE.out⟩
end Go.Proofs.YtdjckjfclhjpcaaGreat
/-
 Helper text (no claim of its own): CheckProgram returns. Printed by gen_smg.py.
-/
namespace Go.Proofs.YtdjckjfclhjpcaaGreat
open Go.ChangeShapes Go.WideShapes Go.ChangeAt Go.RowKit Go.Deep
set_option linter.unusedVariables false
set_option linter.unusedSimpArgs false
/-- A code and a name are returned. -/
def RCN (e : Ending) : Prop := ∃ (c : Int) (s : ByteArray), e = .returned (.tuple #[.int .i64 c, .string s])
theorem nm_take {w : World} {B n k : Nat} {A : Option Addr} {xs : List ByteArray} (h : Rd w B 1 A n (tcells xs)) (hk : k ≤ n) : Rd w B 1 A k (tcells (xs.take k)) := by
 have hl := h.len tcell_len (by omega)
 refine ⟨?_, fun h0 => ?_⟩
 ·rw [flat_len tcell_len, List.length_take, hl]; omega
 ·obtain ⟨b', o', e', hb', hc'⟩ := h.2 (by omega)
  refine ⟨b', o', e', hb', fun j u hu => hc' j u ?_⟩
  have hj : j < (xs.take k).length := by have h8 := (List.getElem?_eq_some_iff.1 hu).1; rw [flat_len tcell_len] at h8; omega
  have e9 : tcells xs = tcells (xs.take k) ++ tcells (xs.drop k) := by unfold tcells; rw [← List.flatMap_append, List.take_append_drop]
  rw [e9, List.getElem?_append_left (by rw [flat_len tcell_len]; omega)]
  exact hu
set_option maxRecDepth 100000 in
set_option maxHeartbeats 16000000 in
theorem CheckProgram_any (d : Nat) (Aq : Option Addr) (nq cq : Nat) (Bp : Option Addr) (mp ep : Nat) (KS : Nat → Prop) (w : World) (h1 : Nm w KS Aq nq) (h2 : Ss (d + 1) w KS Bp mp) (hK : Old w KS) (hq : nq ≤ 4 ∧ nq ≤ cq) (hd : d ≤ 100) :
  Calls Tryz.prog 35 #[.agg #[.slice Aq nq cq, .slice Bp mp ep]] w fun e w' => RCN e ∧ Ext w w' := by
 have HX0 : Hid (Ext w (w.alloc (.cells #[.slice Aq nq cq, .slice Bp mp ep] 53))) := (Ext.refl w).alloc _
 have HP : Hid (Blk (w.alloc (.cells #[.slice Aq nq cq, .slice Bp mp ep] 53)) w.heap.size 53 #[.slice Aq nq cq, .slice Bp mp ep]) := Blk.new _ _ _
 have HN := Lib.hid h1
 have HS := Lib.hid h2
 have HK := Lib.hid hK
 clear h1 h2 hK
 go_enter Tryz.func35, Tryz.ntmps35
 go_upto_region 1 with (fail)
 generalize w.alloc (.cells #[.slice Aq nq cq, .slice Bp mp ep] 53) = W0 at *
 obtain ⟨g, hg⟩ : ∃ g, w.heap.size = g := ⟨_, rfl⟩
 rw [hg] at HP ⊢
 have HG : Hid (w.heap.size = g) := hg
 clear hg
 have s0 : W0.cell? ⟨g, 0, none⟩ = some (.slice Aq nq cq) := HP.out.cell 0
 have s1 : W0.cell? ⟨g, 1, none⟩ = some (.slice Bp mp ep) := HP.out.cell 1
 go_wp2_with fail
 refine (IsValidProgram_any (d + 1) Aq nq cq Bp mp ep KS _ (HN.out.ext HK.out HX0.out) (HS.out.ext HK.out HX0.out) (HK.out.ext HX0.out) (by omega)).mono ?_
 rintro e w1 ⟨⟨b1, rfl⟩, hx1⟩
 have HX1 := Lib.hid (HX0.out.trans hx1)
 have HP1 := Lib.hid (HP.out.ext hx1)
 clear hx1 HX0 HP s0 s1
 cases b1
 ·go_wp2
  go_ret2
  exact ⟨⟨_, _, rfl⟩, HX1.out⟩
 ·go_wp2
  go_loopw [4] (fun i wr => ∃ k : Nat, k ≤ nq ∧ i = .int .i64 k ∧ Hid (Blk wr g 53 #[.slice Aq nq cq, .slice Bp mp ep]) ∧ Hid (Ext w wr)) (fun i _ => nq - (intOf i).toNat)
  case atStart => exact ⟨0, Nat.zero_le _, rfl, HP1, HX1⟩
  case round =>
   clear HX1 HP1
   obtain ⟨k, hk, rfl, HP, HX⟩ := hrel
   have s0 : wr.cell? ⟨g, 0, none⟩ = some (.slice Aq nq cq) := HP.out.cell 0
   have s1 : wr.cell? ⟨g, 1, none⟩ = some (.slice Bp mp ep) := HP.out.cell 1
   by_cases hlt : k < nq
   ·obtain ⟨zs, hzs, hz⟩ := HN.out
    obtain ⟨b, o, y, rfl, hb, hy, r0⟩ := str_at ((hz.rd HK.out).ext HX.out) hlt
    have HRN : Hid (Rd wr.drew wr.drew.heap.size 1 (some ⟨b, o, none⟩) k (tcells (zs.take k))) := nm_take (((hz.rd HK.out).ext HX.out).ext (Ext.refl wr).drew) hk
    have HKS : Hid (∀ w', Ext wr w' → w'.cell? ⟨g, 0, none⟩ = some (.slice (some ⟨b, o, none⟩) nq cq) ∧ w'.cell? ⟨b, o + k, none⟩ = some (.string y)) := fun w' hx => ⟨(HP.out.ext hx).cell 0, (hx.cell (p := ⟨b, o + k, none⟩) hb).trans r0⟩
    have hkc : k ≤ cq := by omega
    clear hzs hz hy
    go_upto_region 6 with (fail)
    clear s0 s1 r0
    refine wp_region_held_drew (S := (fun w' => w'.cell? ⟨g, 0, none⟩ = some (.slice (some ⟨b, o, none⟩) nq cq) ∧ w'.cell? ⟨b, o + k, none⟩ = some (.string y))) (by kernel_rfl) (HKS.out _ (Ext.refl wr).drew) (fun hHeld => ?_)
    (refine tk 0 (v := ?_) ?_ ?_; rotate_left; · (intro w hSw; (try dsimp only at hSw); go_simp; all_goals with_reducible rfl))
    (try simp only [Act.put, L1, L2, L3, L4, L5, L6])
    (refine tk 1 (v := ?_) ?_ ?_; rotate_left; · (intro w hSw; (try dsimp only at hSw); go_simp; all_goals with_reducible rfl))
    (try simp only [Act.put, L1, L2, L3, L4, L5, L6])
    (refine tk 2 (v := ?_) ?_ ?_; rotate_left; · (intro w hSw; (try dsimp only at hSw); go_simp; all_goals with_reducible rfl))
    (try simp only [Act.put, L1, L2, L3, L4, L5, L6])
    (refine tk 3 (v := ?_) ?_ ?_; rotate_left; · (intro w hSw; (try dsimp only at hSw); go_simp; all_goals with_reducible rfl))
    (try simp only [Act.put, L1, L2, L3, L4, L5, L6])
    (refine tk 4 (v := ?_) ?_ ?_; rotate_left; · (intro w hSw; (try dsimp only at hSw); go_simp; all_goals with_reducible rfl))
    (try simp only [Act.put, L1, L2, L3, L4, L5, L6])
    (refine tk 5 (v := ?_) ?_ ?_; rotate_left; · (intro w hSw; (try dsimp only at hSw); go_simp; all_goals with_reducible rfl))
    (try simp only [Act.put, L1, L2, L3, L4, L5, L6])
    (refine tk 6 (v := ?_) ?_ ?_; rotate_left; · (intro w hSw; (try dsimp only at hSw); go_simp; all_goals with_reducible rfl))
    (try simp only [Act.put, L1, L2, L3, L4, L5, L6])
    (refine tk 7 (v := ?_) ?_ ?_; rotate_left; · (intro w hSw; (try dsimp only at hSw); go_simp; all_goals with_reducible rfl))
    (try simp only [Act.put, L1, L2, L3, L4, L5, L6])
    (refine tk 8 (v := ?_) ?_ ?_; rotate_left; · (intro w hSw; (try dsimp only at hSw); go_simp; all_goals with_reducible rfl))
    (try simp only [Act.put, L1, L2, L3, L4, L5, L6])
    refine wpAnyH_ready (rs := [9]) (by kernel_rfl) (by simp) ?_
    refine AllReadyH.cons rfl (fun K hK => ?_) AllReadyH.nil
    go_simp
    refine (l1Has_any (some ⟨b, o, none⟩) k cq (zs.take k) y _ HRN.out (by omega)).mono ?_
    rintro e8 w8 ⟨⟨b8, rfl⟩, rfl⟩
    refine hK.out _ _ (HKS.out _ (Ext.refl wr).drew) (fun hHeld => ?_)
    clear hK K
    (try simp only [Act.put, L1, L2, L3, L4, L5, L6])
    (refine wpAnyH_done (by kernel_rfl) ?_ _)
    clear hHeld HRN
    have HX7 : Hid (Ext wr wr.drew) := (Ext.refl wr).drew
    have HP7 := Lib.hid (HP.out.ext HX7.out)
    have HX8 := Lib.hid (HX.out.trans HX7.out)
    cases b8
    ·go_wp2
     go_roundw
     case rel => exact ⟨k + 1, by omega, by go_num, HP7, HX8⟩
     case measure => simp [intOf]; omega
    ·skip
     have HY7 : Hid (b < wr.drew.heap.size ∧ wr.drew.cell? ⟨b, o + k, none⟩ = some (.string y)) := ⟨hb, (HKS.out _ HX7.out).2⟩
     clear HKS HP HX HX7
     generalize wr.drew = w7 at *
     have HK7 : Hid (∀ w', Ext w7 w' → w'.cell? ⟨g, 0, none⟩ = some (.slice (some ⟨b, o, none⟩) nq cq) ∧ w'.cell? ⟨b, o + k, none⟩ = some (.string y)) := fun w' hx => ⟨(HP7.out.ext hx).cell 0, (hx.cell (p := ⟨b, o + k, none⟩) HY7.out.1).trans HY7.out.2⟩
     go_upto_region 7 with (fail)
     refine wp_region_held_drew (S := (fun w' => w'.cell? ⟨g, 0, none⟩ = some (.slice (some ⟨b, o, none⟩) nq cq) ∧ w'.cell? ⟨b, o + k, none⟩ = some (.string y))) (by kernel_rfl) (HK7.out _ (Ext.refl w7).drew) (fun hHeld => ?_)
     (refine tk 0 (v := ?_) ?_ ?_; rotate_left; · (intro w hSw; (try dsimp only at hSw); go_simp; all_goals with_reducible rfl))
     (try simp only [Act.put, L1, L2, L3, L4, L5, L6])
     (refine tk 1 (v := ?_) ?_ ?_; rotate_left; · (intro w hSw; (try dsimp only at hSw); go_simp; all_goals with_reducible rfl))
     (try simp only [Act.put, L1, L2, L3, L4, L5, L6])
     (refine tk 2 (v := ?_) ?_ ?_; rotate_left; · (intro w hSw; (try dsimp only at hSw); go_simp; all_goals with_reducible rfl))
     (try simp only [Act.put, L1, L2, L3, L4, L5, L6])
     (refine tk 3 (v := ?_) ?_ ?_; rotate_left; · (intro w hSw; (try dsimp only at hSw); go_simp; all_goals with_reducible rfl))
     (try simp only [Act.put, L1, L2, L3, L4, L5, L6])
     (refine tk 4 (v := ?_) ?_ ?_; rotate_left; · (intro w hSw; (try dsimp only at hSw); go_simp; all_goals with_reducible rfl))
     (try simp only [Act.put, L1, L2, L3, L4, L5, L6])
     (refine tk 5 (v := ?_) ?_ ?_; rotate_left; · (intro w hSw; (try dsimp only at hSw); go_simp; all_goals with_reducible rfl))
     (try simp only [Act.put, L1, L2, L3, L4, L5, L6])
     (refine tk 6 (v := ?_) ?_ ?_; rotate_left; · (intro w hSw; (try dsimp only at hSw); go_simp; all_goals with_reducible rfl))
     (try simp only [Act.put, L1, L2, L3, L4, L5, L6])
     (refine wpAnyH_done (by kernel_rfl) ?_ _)
     have HX9 : Hid (Ext w w7.drew) := HX8.out.trans (Ext.refl w7).drew
     clear hHeld HK7 HY7 HP7
     go_wp2
     go_ret2
     exact ⟨⟨_, _, rfl⟩, HX9.out⟩
   ·have HSW := Lib.hid (HS.out.ext HK.out HX.out)
    have HNW := Lib.hid (HN.out.ext HK.out HX.out)
    have HE2 : Hid (TopE (wr.alloc (.cells #[.slice Aq nq cq, .slice none 0 0, .bool false, .slice none 0 0] 107)) wr.heap.size Aq nq cq none 0 0 (.slice none 0 0)) := ⟨none, 0, 0, rfl, Blk.new _ _ _, by omega, [], rfl, .inl ⟨rfl, rfl⟩⟩
    have HSX : Hid (Ss (d + 1) (wr.alloc (.cells #[.slice Aq nq cq, .slice none 0 0, .bool false, .slice none 0 0] 107)) KS Bp mp) := HSW.out.ext (HK.out.ext HX.out) ((Ext.refl wr).alloc _)
    have HNX : Hid (Nm (wr.alloc (.cells #[.slice Aq nq cq, .slice none 0 0, .bool false, .slice none 0 0] 107)) KS Aq nq) := HNW.out.ext (HK.out.ext HX.out) ((Ext.refl wr).alloc _)
    have hKl : ∀ b, KS b → b < wr.heap.size := fun b hb => Nat.lt_of_lt_of_le (HK.out b hb) HX.out.size
    go_wp2_with fail
    refine (l20All_top d Bp mp ep Aq nq cq none 0 0 (.slice none 0 0) wr.heap.size KS KS _ HSX.out hKl HE2.out HNX.out Nm.none hKl (by omega)).mono ?_
    rintro e w9 ⟨⟨c1, s9, rfl⟩, v9, tp⟩
    have HX9 : Hid (Ext w w9) := ⟨tp.os.trans HX.out.os, tp.tape.trans HX.out.tape, tp.output.trans HX.out.output, Nat.le_trans HX.out.size (Nat.le_trans ((Ext.refl wr).alloc _).size tp.size), fun b hb => (tp.keep b (Nat.lt_of_lt_of_le (Nat.lt_of_lt_of_le hb HX.out.size) ((Ext.refl wr).alloc _).size) (by have := HX.out.size; omega) (fun h => by cases h)).trans ((Below.heap_alloc wr _ b (Nat.lt_of_lt_of_le hb HX.out.size)).trans (HX.out.block b hb))⟩
    clear tp HE2 HSX HNX hKl HSW HNW s0 s1
    go_upto_region 9 with (fail)
    have HB : Hid (Blk (w9.alloc (.cells #[.int .i64 c1, .string s9] 103)) w9.heap.size 103 #[.int .i64 c1, .string s9]) := Blk.new _ _ _
    have HXA : Hid (Ext w (w9.alloc (.cells #[.int .i64 c1, .string s9] 103))) := HX9.out.alloc _
    generalize w9.alloc (.cells #[.int .i64 c1, .string s9] 103) = w10 at *
    generalize w9.heap.size = s at *
    have HK9 : Hid (∀ w', Ext w10 w' → w'.cell? ⟨s, 0, none⟩ = some (.int .i64 c1) ∧ w'.cell? ⟨s, 1, none⟩ = some (.string s9)) := fun w' hx => ⟨(HB.out.ext hx).cell 0, (HB.out.ext hx).cell 1⟩
    refine wp_region_held_drew (S := (fun w' => w'.cell? ⟨s, 0, none⟩ = some (.int .i64 c1) ∧ w'.cell? ⟨s, 1, none⟩ = some (.string s9))) (by kernel_rfl) (HK9.out _ (Ext.refl w10).drew) (fun hHeld => ?_)
    (refine tk 0 (v := ?_) ?_ ?_; rotate_left; · (intro w hSw; (try dsimp only at hSw); go_simp; all_goals with_reducible rfl))
    (try simp only [Act.put, L1, L2, L3, L4, L5, L6])
    (refine tk 1 (v := ?_) ?_ ?_; rotate_left; · (intro w hSw; (try dsimp only at hSw); go_simp; all_goals with_reducible rfl))
    (try simp only [Act.put, L1, L2, L3, L4, L5, L6])
    (refine tk 2 (v := ?_) ?_ ?_; rotate_left; · (intro w hSw; (try dsimp only at hSw); go_simp; all_goals with_reducible rfl))
    (try simp only [Act.put, L1, L2, L3, L4, L5, L6])
    (refine tk 3 (v := ?_) ?_ ?_; rotate_left; · (intro w hSw; (try dsimp only at hSw); go_simp; all_goals with_reducible rfl))
    (try simp only [Act.put, L1, L2, L3, L4, L5, L6])
    (refine tk 4 (v := ?_) ?_ ?_; rotate_left; · (intro w hSw; (try dsimp only at hSw); go_simp; all_goals with_reducible rfl))
    (try simp only [Act.put, L1, L2, L3, L4, L5, L6])
    (refine tk 5 (v := ?_) ?_ ?_; rotate_left; · (intro w hSw; (try dsimp only at hSw); go_simp; all_goals with_reducible rfl))
    (try simp only [Act.put, L1, L2, L3, L4, L5, L6])
    (refine wpAnyH_done (by kernel_rfl) ?_ _)
    have HXB : Hid (Ext w w10.drew) := HXA.out.trans (Ext.refl w10).drew
    clear hHeld HK9
    go_wp2
    go_ret2
    exact ⟨⟨_, _, rfl⟩, HXB.out⟩
end Go.Proofs.YtdjckjfclhjpcaaGreat
/-
 Helper text (no claim of its own): permutations, by the program and by the reference.
-/
namespace Go.Proofs.YtdjckjfclhjpcaaGreat
open Go.ChangeShapes Go.WideShapes Go.ChangeAt Go.RowKit Go.Deep
end Go.Proofs.YtdjckjfclhjpcaaGreat
/-
 Helper text (no claim of its own): compiled results, as records, and the laws' own helpers on them. Printed in part by gen_struct.py.
-/
namespace Go.Proofs.YtdjckjfclhjpcaaGreat
open Go.ChangeShapes Go.WideShapes Go.ChangeAt Go.RowKit Go.Deep
structure Cm where
 n : Int
 bits : Int
 ops : List Oq
 st : List Int
 fin : List Int
/-- The struct value v reads as the record x; its slices lie below block B. -/
def CmAt (w : World) (B : Nat) (v : Value) (x : Cm) : Prop :=
 ∃ (A1 A2 A3 : Option Addr) (c1 c2 c3 : Nat), v = .agg #[.int .i64 x.n, .int .i64 x.bits, .slice A1 x.ops.length c1, .slice A2 x.st.length c2, .slice A3 x.fin.length c3] ∧ Rd w B 8 A1 x.ops.length (ocells x.ops) ∧ Rd w B 1 A2 x.st.length (icells x.st) ∧ Rd w B 1 A3 x.fin.length (icells x.fin)
/-- The same, each slice in new memory of its own: slice j from block b(j-1) on and below bj. -/
def CmOwn (w : World) (b0 b1 b2 b3 : Nat) (v : Value) (x : Cm) : Prop :=
 ∃ (A1 A2 A3 : Option Addr) (c1 c2 c3 : Nat), v = .agg #[.int .i64 x.n, .int .i64 x.bits, .slice A1 x.ops.length c1, .slice A2 x.st.length c2, .slice A3 x.fin.length c3] ∧ w.ownsRow b0 40 8 (.slice A1 x.ops.length c1) x.ops.length (ocells x.ops) ∧ (∀ g, (Value.slice A1 x.ops.length c1).ownBlock = some g → g < b1) ∧ w.ownsRow b1 3 1 (.slice A2 x.st.length c2) x.st.length (icells x.st) ∧ (∀ g, (Value.slice A2 x.st.length c2).ownBlock = some g → g < b2) ∧ w.ownsRow b2 3 1 (.slice A3 x.fin.length c3) x.fin.length (icells x.fin) ∧ (∀ g, (Value.slice A3 x.fin.length c3).ownBlock = some g → g < b3)
theorem CmAt.up {w w' : World} {B : Nat} {v : Value} {x : Cm} (h : CmAt w B v x) (hx : Ext w w') (hB : B ≤ w.heap.size) : CmAt w' B v x := by
 obtain ⟨A1, A2, A3, c1, c2, c3, hv, h1, h2, h3⟩ := h
 exact ⟨A1, A2, A3, c1, c2, c3, hv, h1.up hx hB, h2.up hx hB, h3.up hx hB⟩
theorem CmAt.more {w : World} {B B' : Nat} {v : Value} {x : Cm} (h : CmAt w B v x) (hB : B ≤ B') : CmAt w B' v x := by
 obtain ⟨A1, A2, A3, c1, c2, c3, hv, h1, h2, h3⟩ := h
 exact ⟨A1, A2, A3, c1, c2, c3, hv, h1.more hB, h2.more hB, h3.more hB⟩
theorem CmAt.grown {w w' : World} {B : Nat} {v : Value} {x : Cm} {row : Option Nat} (h : CmAt w B v x) (hg : w.grownBy w' row) (hB : B ≤ w.heap.size) (hr : ∀ g, row = some g → B ≤ g) : CmAt w' B v x := by
 obtain ⟨A1, A2, A3, c1, c2, c3, hv, h1, h2, h3⟩ := h
 exact ⟨A1, A2, A3, c1, c2, c3, hv, h1.grown hg hB hr, h2.grown hg hB hr, h3.grown hg hB hr⟩
theorem CmOwn.at_ {w : World} {b0 b1 b2 b3 : Nat} {v : Value} {x : Cm} (h : CmOwn w b0 b1 b2 b3 v x) : CmAt w w.heap.size v x := by
 obtain ⟨A1, A2, A3, c1, c2, c3, hv, h1, l1, h2, l2, h3, l3⟩ := h
 exact ⟨A1, A2, A3, c1, c2, c3, hv, Rd.own h1, Rd.own h2, Rd.own h3⟩
theorem CmOwn.ext {w w' : World} {b0 b1 b2 b3 : Nat} {v : Value} {x : Cm} (h : CmOwn w b0 b1 b2 b3 v x) (hx : Ext w w') : CmOwn w' b0 b1 b2 b3 v x := by
 obtain ⟨A1, A2, A3, c1, c2, c3, hv, h1, l1, h2, l2, h3, l3⟩ := h
 exact ⟨A1, A2, A3, c1, c2, c3, hv, own_ext h1 hx, l1, own_ext h2 hx, l2, own_ext h3 hx, l3⟩
def Cm.ok (x : Cm) : Prop := I64 x.n ∧ I64 x.bits ∧ x.ops.length ≤ maxLen ∧ (∀ g ∈ x.ops, g.ok) ∧ x.st.length ≤ maxLen ∧ (∀ g ∈ x.st, I64 g) ∧ x.fin.length ≤ maxLen ∧ (∀ g ∈ x.fin, I64 g)
end Go.Proofs.YtdjckjfclhjpcaaGreat
/-
 Helper text (no claim of its own): validity of a compiled program, by the program and by the reference.
-/
namespace Go.Proofs.YtdjckjfclhjpcaaGreat
open Go.ChangeShapes Go.WideShapes Go.ChangeAt Go.RowKit Go.Deep
def okRun (n bits : Int) (k : Nat) (o : Oq) : Bool := vOp o n bits && !(decide ((k : Int) < o.cond)) && (!(o.k == 2) || o.bit == (k : Int))
def runS (n bits : Int) (s : Option Nat) (o : Oq) : Option Nat :=
 match s with
 | none => none
 | some k => if okRun n bits k o = true then some (if (o.k == 2) = true then k + 1 else k) else none
def runF (n bits : Int) (l : List Oq) : Option Nat := l.foldl (runS n bits) (some 0)
def lst (l : List Oq) (n bits : Int) : Bool := (runF n bits l).any fun k => (k : Int) == bits
theorem runS_none (n bits : Int) (l : List Oq) : l.foldl (runS n bits) none = none := by
 induction l with
 | nil => rfl
 | cons o l ih => exact ih
theorem runF_snoc {n bits : Int} {l : List Oq} {k : Nat} {o : Oq} (h : l[k]? = some o) : runF n bits (l.take (k + 1)) = runS n bits (runF n bits (l.take k)) o := by
 unfold runF; rw [take_snoc h, List.foldl_append]; rfl
theorem lst_no {n bits : Int} {l : List Oq} {k j : Nat} {o : Oq} (h : l[k]? = some o) (hk : runF n bits (l.take k) = some j) (ho : okRun n bits j o = false) : lst l n bits = false := by
 have h1 := runF_snoc (n := n) (bits := bits) h
 rw [hk] at h1
 have h2 : runS n bits (some j) o = none := by simp [runS, ho]
 rw [h2] at h1
 have h3 : runF n bits l = none := by
  have e : l = l.take (k + 1) ++ l.drop (k + 1) := (List.take_append_drop _ _).symm
  unfold runF at h1 ⊢
  rw [e, List.foldl_append, h1]
  exact runS_none _ _ _
 simp [lst, h3]
theorem runF_yes {n bits : Int} {l : List Oq} {k j : Nat} {o : Oq} (h : l[k]? = some o) (hk : runF n bits (l.take k) = some j) (ho : okRun n bits j o = true) : runF n bits (l.take (k + 1)) = some (if (o.k == 2) = true then j + 1 else j) := by
 rw [runF_snoc h, hk]
 simp [runS, ho]
theorem okRun_v {n bits : Int} {j : Nat} {o : Oq} (h : vOp o n bits = false) : okRun n bits j o = false := by simp [okRun, h]
theorem okRun_c {n bits : Int} {j : Nat} {o : Oq} (h : (j : Int) < o.cond) : okRun n bits j o = false := by simp [okRun, h]
theorem okRun_b {n bits : Int} {j : Nat} {o : Oq} (h : (o.k == 2) = true) (hb : (o.bit == (j : Int)) = false) : okRun n bits j o = false := by simp [okRun, h, hb]
theorem okRun_n {n bits : Int} {j : Nat} {o : Oq} (hv : vOp o n bits = true) (hc : ¬ (j : Int) < o.cond) (h : (o.k == 2) = false) : okRun n bits j o = true := by simp [okRun, hv, hc, h]
theorem okRun_m {n bits : Int} {j : Nat} {o : Oq} (hv : vOp o n bits = true) (hc : ¬ (j : Int) < o.cond) (hb : (o.bit == (j : Int)) = true) : okRun n bits j o = true := by simp [okRun, hv, hc, hb]
theorem lst_end {n bits : Int} {l : List Oq} {j : Nat} (h : runF n bits l = some j) : lst l n bits = ((j : Int) == bits) := by simp [lst, h]
end Go.Proofs.YtdjckjfclhjpcaaGreat
/-
 Helper text (no claim of its own): routines, as records, and the laws' own helpers on them. Printed in part by gen_struct.py.
-/
namespace Go.Proofs.YtdjckjfclhjpcaaGreat
open Go.ChangeShapes Go.WideShapes Go.ChangeAt Go.RowKit Go.Deep
structure Rt where
 n : Int
 inn : Int
 bits : Int
 ops : List Oq
/-- The struct value v reads as the record x; its slices lie below block B. -/
def RtAt (w : World) (B : Nat) (v : Value) (x : Rt) : Prop :=
 ∃ (A1 : Option Addr) (c1 : Nat), v = .agg #[.int .i64 x.n, .int .i64 x.inn, .int .i64 x.bits, .slice A1 x.ops.length c1] ∧ Rd w B 8 A1 x.ops.length (ocells x.ops)
/-- The same, each slice in new memory of its own: slice j from block b(j-1) on and below bj. -/
def RtOwn (w : World) (b0 b1 : Nat) (v : Value) (x : Rt) : Prop :=
 ∃ (A1 : Option Addr) (c1 : Nat), v = .agg #[.int .i64 x.n, .int .i64 x.inn, .int .i64 x.bits, .slice A1 x.ops.length c1] ∧ w.ownsRow b0 40 8 (.slice A1 x.ops.length c1) x.ops.length (ocells x.ops) ∧ (∀ g, (Value.slice A1 x.ops.length c1).ownBlock = some g → g < b1)
theorem RtAt.up {w w' : World} {B : Nat} {v : Value} {x : Rt} (h : RtAt w B v x) (hx : Ext w w') (hB : B ≤ w.heap.size) : RtAt w' B v x := by
 obtain ⟨A1, c1, hv, h1⟩ := h
 exact ⟨A1, c1, hv, h1.up hx hB⟩
theorem RtAt.more {w : World} {B B' : Nat} {v : Value} {x : Rt} (h : RtAt w B v x) (hB : B ≤ B') : RtAt w B' v x := by
 obtain ⟨A1, c1, hv, h1⟩ := h
 exact ⟨A1, c1, hv, h1.more hB⟩
theorem RtAt.grown {w w' : World} {B : Nat} {v : Value} {x : Rt} {row : Option Nat} (h : RtAt w B v x) (hg : w.grownBy w' row) (hB : B ≤ w.heap.size) (hr : ∀ g, row = some g → B ≤ g) : RtAt w' B v x := by
 obtain ⟨A1, c1, hv, h1⟩ := h
 exact ⟨A1, c1, hv, h1.grown hg hB hr⟩
theorem RtOwn.at_ {w : World} {b0 b1 : Nat} {v : Value} {x : Rt} (h : RtOwn w b0 b1 v x) : RtAt w w.heap.size v x := by
 obtain ⟨A1, c1, hv, h1, l1⟩ := h
 exact ⟨A1, c1, hv, Rd.own h1⟩
theorem RtOwn.ext {w w' : World} {b0 b1 : Nat} {v : Value} {x : Rt} (h : RtOwn w b0 b1 v x) (hx : Ext w w') : RtOwn w' b0 b1 v x := by
 obtain ⟨A1, c1, hv, h1, l1⟩ := h
 exact ⟨A1, c1, hv, own_ext h1 hx, l1⟩
def Rt.ok (x : Rt) : Prop := I64 x.n ∧ I64 x.inn ∧ I64 x.bits ∧ x.ops.length ≤ maxLen ∧ (∀ g ∈ x.ops, g.ok)
end Go.Proofs.YtdjckjfclhjpcaaGreat
/-
 Helper text (no claim of its own): validity of a routine, by the reference. Printed by gen_vro.py.
-/
namespace Go.Proofs.YtdjckjfclhjpcaaGreat
open Go.ChangeShapes Go.WideShapes Go.ChangeAt Go.RowKit Go.Deep
set_option linter.unusedVariables false
set_option linter.unusedSimpArgs false
/-- Is a routine valid? -/
def vRt (x : Rt) : Bool := inB x.n 1 4 && inB x.inn 1 x.n && inB x.bits 0 3 && decide (x.ops.length ≤ 120) && lst x.ops x.n x.bits
theorem inB_y {x lo hi : Int} (h1 : lo ≤ x) (h2 : x ≤ hi) : inB x lo hi = true := by unfold inB; rw [decide_eq_true h1, decide_eq_true h2]; rfl
theorem inB_n {x lo hi : Int} (h : x < lo ∨ hi < x) : inB x lo hi = false := by
 unfold inB
 rcases h with h | h
 ·rw [decide_eq_false (by omega)]; rfl
 ·rw [decide_eq_false (p := x ≤ hi) (by omega), Bool.and_false]
theorem vRt_bd {x : Rt} (h : vRt x = true) : (1 ≤ x.n ∧ x.n ≤ 4) ∧ x.ops.length ≤ 120 := by
 unfold vRt inB at h
 simp only [Bool.and_eq_true, decide_eq_true_eq] at h
 omega
set_option maxRecDepth 100000 in
set_option maxHeartbeats 8000000 in
theorem spec_IsValidRoutine_any (A1 : Option Addr) (c1 : Nat) (x : Rt) (w : World) (h1 : Rd w w.heap.size 8 A1 x.ops.length (ocells x.ops)) (s1 : x.ops.length ≤ 2000000000000) :
  Calls Tryz.prog 28 #[.agg #[.int .i64 x.n, .int .i64 x.inn, .int .i64 x.bits, .slice A1 x.ops.length c1]] w fun e w' => e = .returned (.bool (vRt x)) ∧ Ext w w' := by
 have HR1 := Lib.hid h1
 have HX0 : Hid (Ext w (w.alloc (.cells #[.int .i64 x.n, .int .i64 x.inn, .int .i64 x.bits, .slice A1 x.ops.length c1] 26))) := (Ext.refl w).alloc _
 have HB0 : Hid (Blk (w.alloc (.cells #[.int .i64 x.n, .int .i64 x.inn, .int .i64 x.bits, .slice A1 x.ops.length c1] 26)) w.heap.size 26 #[.int .i64 x.n, .int .i64 x.inn, .int .i64 x.bits, .slice A1 x.ops.length c1]) := Blk.new w _ _
 go_enter Tryz.func28, Tryz.ntmps28
 go_upto_region 1 with (fail)
 have HX3 := HX0
 have HB3 := HB0
 clear HX0 HB0
 generalize w.alloc (.cells #[.int .i64 x.n, .int .i64 x.inn, .int .i64 x.bits, .slice A1 x.ops.length c1] 26) = W1 at *
 obtain ⟨⟨t0, t1, t2, t3⟩, -⟩ := cells4 HB3.out
 by_cases hn : x.n < 1 ∨ 4 < x.n
 ·have Hn := Lib.hid hn
  have HF : Hid (vRt x = false) := by unfold Hid vRt; rw [inB_n (x := x.n) hn]; simp
  clear hn
  go_wp2_with fail
  refine (l1In_no _ _ _ _ Hn.out).mono ?_
  rintro e wq ⟨rfl, rfl⟩
  go_wp2_with fail
  go_ret
  exact ⟨ret_bool HF.out.symm, HX3.out⟩
 have hn1 : 1 ≤ x.n ∧ x.n ≤ 4 := ⟨by omega, by omega⟩
 have H_x_n := Lib.hid hn1
 clear hn hn1
 go_wp2_with fail
 refine (l1In_yes _ _ _ _ H_x_n.out.1 H_x_n.out.2).mono ?_
 rintro e wq ⟨rfl, rfl⟩
 by_cases hn : x.inn < 1 ∨ x.n < x.inn
 ·have Hn := Lib.hid hn
  have HF : Hid (vRt x = false) := by unfold Hid vRt; rw [inB_n (x := x.inn) hn]; simp
  clear hn
  go_wp2_with fail
  refine (l1In_no _ _ _ _ Hn.out).mono ?_
  rintro e wq ⟨rfl, rfl⟩
  go_wp2_with fail
  go_ret
  exact ⟨ret_bool HF.out.symm, HX3.out⟩
 have hn1 : 1 ≤ x.inn ∧ x.inn ≤ x.n := ⟨by omega, by omega⟩
 have H_x_inn := Lib.hid hn1
 clear hn hn1
 go_wp2_with fail
 refine (l1In_yes _ _ _ _ H_x_inn.out.1 H_x_inn.out.2).mono ?_
 rintro e wq ⟨rfl, rfl⟩
 by_cases hn : x.bits < 0 ∨ 3 < x.bits
 ·have Hn := Lib.hid hn
  have HF : Hid (vRt x = false) := by unfold Hid vRt; rw [inB_n (x := x.bits) hn]; simp
  clear hn
  go_wp2_with fail
  refine (l1In_no _ _ _ _ Hn.out).mono ?_
  rintro e wq ⟨rfl, rfl⟩
  go_wp2_with fail
  go_ret
  exact ⟨ret_bool HF.out.symm, HX3.out⟩
 have hn1 : 0 ≤ x.bits ∧ x.bits ≤ 3 := ⟨by omega, by omega⟩
 have H_x_bits := Lib.hid hn1
 clear hn hn1
 go_wp2_with fail
 refine (l1In_yes _ _ _ _ H_x_bits.out.1 H_x_bits.out.2).mono ?_
 rintro e wq ⟨rfl, rfl⟩
 by_cases hl : 120 < x.ops.length
 ·have HF : Hid (vRt x = false) := by unfold Hid vRt; rw [decide_eq_false (p := x.ops.length ≤ 120) (by omega)]; simp
  have hd1 : decide ((x.ops.length : Int) > 120) = true := by simp; omega
  have hd2 : decide ((120 : Int) < (x.ops.length : Int)) = true := by simp; omega
  go_wp2_with fail
  go_ret
  exact ⟨ret_bool HF.out.symm, HX3.out⟩
 have hl' : x.ops.length ≤ 120 := by omega
 have hd1 : decide ((x.ops.length : Int) > 120) = false := by simp; omega
 have hd2 : decide ((120 : Int) < (x.ops.length : Int)) = false := by simp; omega
 clear hl
 have HI : Hid (vRt x = lst x.ops x.n x.bits) := by unfold Hid vRt; rw [inB_y H_x_n.out.1 H_x_n.out.2, inB_y H_x_inn.out.1 H_x_inn.out.2, inB_y H_x_bits.out.1 H_x_bits.out.2, decide_eq_true hl']; rfl
 go_wp2
 clear hd1 hd2
 go_loopw [3, 4] (fun kn i wr => ∃ k j : Nat, k ≤ x.ops.length ∧ j ≤ k ∧ i = .int .i64 k ∧ kn = .int .i64 j ∧ Hid (runF x.n x.bits (x.ops.take k) = some j) ∧ Blk wr w.heap.size 26 #[.int .i64 x.n, .int .i64 x.inn, .int .i64 x.bits, .slice A1 x.ops.length c1] ∧ Ext w wr) (fun _ i _ => x.ops.length - (intOf i).toNat)
 case atStart => exact ⟨0, 0, Nat.zero_le _, Nat.zero_le _, rfl, rfl, Lib.hid rfl, HB3.out, HX3.out⟩
 case round =>
  obtain ⟨k, j, hk, hj, rfl, rfl, HQ, hB, hx⟩ := hrel
  have b0 : wr.cell? ⟨w.heap.size, 0, none⟩ = some (.int .i64 x.n) := hB.cell 0
  have b2 : wr.cell? ⟨w.heap.size, 2, none⟩ = some (.int .i64 x.bits) := hB.cell 2
  have b3 : wr.cell? ⟨w.heap.size, 3, none⟩ = some (.slice A1 x.ops.length c1) := hB.cell 3
  have hltw := hB.lt
  by_cases hlt : k < x.ops.length
  ·obtain ⟨b, o, g, rfl, hb, hg, h0, h1', h2, h3, h4, h5, h6, h7⟩ := op_at (HR1.out.ext hx) hlt
   have HG := Lib.hid hg
   clear hg
   go_wp2_with fail
   refine (spec_IsValidOp_any g x.n x.bits _).mono ?_
   rintro e w1 ⟨rfl, hy1⟩
   have hO : Blk w1 wr.heap.size 40 #[.int .i64 g.k, .int .i64 g.g.k, .int .i64 g.g.a, .int .i64 g.g.b, .int .i64 g.g.c, .int .i64 g.q, .int .i64 g.bit, .int .i64 g.cond] := (Blk.new wr _ _).ext hy1
   have hB1 := (hB.alloc (.cells #[.int .i64 g.k, .int .i64 g.g.k, .int .i64 g.g.a, .int .i64 g.g.b, .int .i64 g.g.c, .int .i64 g.q, .int .i64 g.bit, .int .i64 g.cond] 40)).ext hy1
   have hx1 : Ext w w1 := Ext.trans (hx.alloc _) hy1
   clear h0 h1' h2 h3 h4 h5 h6 h7 b0 b2 b3 hB hx hy1
   have o0 : w1.cell? ⟨wr.heap.size, 0, none⟩ = some (.int .i64 g.k) := hO.cell 0
   have o6 : w1.cell? ⟨wr.heap.size, 6, none⟩ = some (.int .i64 g.bit) := hO.cell 6
   have o7 : w1.cell? ⟨wr.heap.size, 7, none⟩ = some (.int .i64 g.cond) := hO.cell 7
   clear hO
   cases hv : vOp g x.n x.bits
   ·have HF := Lib.hid (lst_no HG.out HQ.out (okRun_v hv))
    go_wp2
    go_ret
    exact ⟨ret_bool (HI.out.trans HF.out).symm, hx1⟩
   by_cases hc : (j : Int) < g.cond
   ·have HF := Lib.hid (lst_no HG.out HQ.out (okRun_c hc))
    go_wp2
    go_ret
    exact ⟨ret_bool (HI.out.trans HF.out).symm, hx1⟩
   have hc' : g.cond ≤ (j : Int) := by omega
   cases h2 : (g.k == 2)
   ·have HN := Lib.hid (runF_yes HG.out HQ.out (okRun_n hv hc h2))
    rw [if_neg (by simp [h2])] at HN
    clear hc
    go_wp2
    go_roundw
    case rel => exact ⟨k + 1, j, by omega, by omega, by go_num, rfl, HN, hB1, hx1⟩
    case measure => simp [intOf]; omega
   cases hbt : (g.bit == (j : Int))
   ·have HF := Lib.hid (lst_no HG.out HQ.out (okRun_b h2 hbt))
    have hbn : (g.bit != (j : Int)) = true := by simp [bne, hbt]
    clear hc
    go_wp2
    go_ret
    exact ⟨ret_bool (HI.out.trans HF.out).symm, hx1⟩
   have HN := Lib.hid (runF_yes HG.out HQ.out (okRun_m hv hc hbt))
   rw [if_pos h2] at HN
   have hbn : (g.bit != (j : Int)) = false := by simp [bne, hbt]
   clear hc
   go_wp2
   go_roundw
   case rel => exact ⟨k + 1, j + 1, by omega, by omega, by go_num, by go_num, HN, hB1, hx1⟩
   case measure => simp [intOf]; omega
  ·rw [List.take_of_length_le (by omega)] at HQ
   have HF := Lib.hid (lst_end HQ.out)
   go_wp2
   go_ret
   exact ⟨ret_bool (HI.out.trans HF.out).symm, hx⟩
end Go.Proofs.YtdjckjfclhjpcaaGreat
/-
 Helper text (no claim of its own): programs are elaborated. Printed by gen_sml.py.
-/
namespace Go.Proofs.YtdjckjfclhjpcaaGreat
open Go.ChangeShapes Go.WideShapes Go.ChangeAt Go.RowKit Go.Deep
set_option linter.unusedVariables false
set_option linter.unusedSimpArgs false
theorem elA : ∀ (d : Nat), ElA d
 | 0 => l22All_of fun xk wd A n c cnt B m e An nn cn bd ge KS w hsv _ _ _ _ => (show False from hsv).elim
 | d + 1 => l22All_of fun xk wd A n c cnt B m e An nn cn bd ge KS w hsv hKS hE hnn hbd => l22Stmt_of (elA d) xk wd A n c cnt B m e An nn cn bd ge KS w hsv hKS hE hnn hbd
   fun h5 w1 hx => l22Ancilla_of (elA d) xk wd A n c cnt B m e An nn cn bd ge KS w1 (hsv.ext (fun b hb => (hKS b hb).2) hx) (fun b hb => ⟨(hKS b hb).1, Nat.lt_of_lt_of_le (hKS b hb).2 hx.size⟩) (hE.ext hx) hnn hbd h5
/-- What Elaborate returns. -/
def Elab (e : Ending) (w' : World) : Prop := ∃ (x : Rt) (A : Option Addr) (c : Nat) (code : Int), e = .returned (.tuple #[.agg #[.int .i64 x.n, .int .i64 x.inn, .int .i64 x.bits, .slice A x.ops.length c], .int .i64 code]) ∧ Rd w' w'.heap.size 8 A x.ops.length (ocells x.ops) ∧ x.ops.length ≤ 2000 ∧ (code = 0 → vRt x = true)
/-- The end of it: the routine stands in block q. -/
theorem endElab {fn : Func} {p u : Tmp} {W : World} {q : Nat} {w : World} {x : Rt} {A : Option Addr} {c : Nat} {code : Int} (hf : fn.results = #[.cell p 26, .tmp u]) (hB : Blk W q 26 #[.int .i64 x.n, .int .i64 x.inn, .int .i64 x.bits, .slice A x.ops.length c]) (a : Act) (hp : a.tmps.getD p undef = .pointer (some ⟨q, 0, none⟩)) (hu : a.tmps.getD u undef = .int .i64 code) (hd : a.defers = [])
  (hr : Rd W W.heap.size 8 A x.ops.length (ocells x.ops)) (hl : x.ops.length ≤ 2000) (hv : code = 0 → vRt x = true) (hx : Ext w W) : bodyPost Tryz.prog fn (fun e w' => Elab e w' ∧ Ext w w') .ret a W :=
 bodyPost_ret (v := .tuple #[.agg #[.int .i64 x.n, .int .i64 x.inn, .int .i64 x.bits, .slice A x.ops.length c], .int .i64 code]) (ret_pair hf a.tmps W q 26 _ _ _ hp hu hB Tryz.underlying26 rfl (by kernel_rfl)) hd ⟨⟨x, A, c, code, rfl, hr, hl, hv⟩, hx⟩
theorem rd_nil (w : World) (B : Nat) : Rd w B 8 none 0 (ocells []) := ⟨rfl, fun h => absurd h (Nat.lt_irrefl 0)⟩
def rt0 : Rt := ⟨0, 0, 0, []⟩
set_option maxRecDepth 100000 in
set_option maxHeartbeats 32000000 in
theorem Elaborate_any (d : Nat) (Aq : Option Addr) (nq cq : Nat) (Bp : Option Addr) (mp ep : Nat) (KS : Nat → Prop) (w : World) (h1 : Nm w KS Aq nq) (h2 : Ss (d + 1) w KS Bp mp) (hK : Old w KS) (hq : nq ≤ 4 ∧ nq ≤ cq) (hd : d ≤ 100) (hcc : 10 * cC (d + 1) ≤ 1000000) :
  Calls Tryz.prog 21 #[.agg #[.slice Aq nq cq, .slice Bp mp ep]] w fun e w' => Elab e w' ∧ Ext w w' := by
 have HX0 : Hid (Ext w ((w.alloc (.cells #[.slice Aq nq cq, .slice Bp mp ep] 53)).alloc (.cells #[.int .i64 0, .int .i64 0, .int .i64 0, .slice none 0 0] 26))) := ((Ext.refl w).alloc _).alloc _
 have HP0 : Hid (Blk ((w.alloc (.cells #[.slice Aq nq cq, .slice Bp mp ep] 53)).alloc (.cells #[.int .i64 0, .int .i64 0, .int .i64 0, .slice none 0 0] 26)) w.heap.size 53 #[.slice Aq nq cq, .slice Bp mp ep]) := (Blk.new w _ _).alloc _
 have HZ0 : Hid (Blk ((w.alloc (.cells #[.slice Aq nq cq, .slice Bp mp ep] 53)).alloc (.cells #[.int .i64 0, .int .i64 0, .int .i64 0, .slice none 0 0] 26)) (w.heap.size + 1) 26 #[.int .i64 0, .int .i64 0, .int .i64 0, .slice none 0 0]) := Blk.newAt (by simp)
 have HN := Lib.hid h1
 have HS := Lib.hid h2
 have HK := Lib.hid hK
 clear h1 h2 hK
 go_enter Tryz.func21, Tryz.ntmps21
 go_upto_region 1 with (fail)
 generalize ((w.alloc (.cells #[.slice Aq nq cq, .slice Bp mp ep] 53)).alloc (.cells #[.int .i64 0, .int .i64 0, .int .i64 0, .slice none 0 0] 26)) = W0 at *
 have s0 : W0.cell? ⟨w.heap.size, 0, none⟩ = some (.slice Aq nq cq) := HP0.out.cell 0
 have s1 : W0.cell? ⟨w.heap.size, 1, none⟩ = some (.slice Bp mp ep) := HP0.out.cell 1
 go_wp2_with fail
 refine (CheckProgram_any d Aq nq cq Bp mp ep KS _ (HN.out.ext HK.out HX0.out) (HS.out.ext HK.out HX0.out) (HK.out.ext HX0.out) hq hd).mono ?_
 rintro e w1 ⟨⟨code, nm, rfl⟩, hx1⟩
 have HX1 := Lib.hid (HX0.out.trans hx1)
 have HP1 := Lib.hid (HP0.out.ext hx1)
 have HZ1 := Lib.hid (HZ0.out.ext hx1)
 clear hx1 HX0 HP0 HZ0 s0 s1
 have s0 : w1.cell? ⟨w.heap.size, 0, none⟩ = some (.slice Aq nq cq) := HP1.out.cell 0
 have s1 : w1.cell? ⟨w.heap.size, 1, none⟩ = some (.slice Bp mp ep) := HP1.out.cell 1
 go_wp2_with fail
 refine (IsValidProgram_any (d + 1) Aq nq cq Bp mp ep KS _ (HN.out.ext HK.out HX1.out) (HS.out.ext HK.out HX1.out) (HK.out.ext HX1.out) (by omega)).mono ?_
 rintro e w2 ⟨⟨b2, rfl⟩, hx2⟩
 have HX2 := Lib.hid (HX1.out.trans hx2)
 have HP2 := Lib.hid (HP1.out.ext hx2)
 have HZ2 := Lib.hid (HZ1.out.ext hx2)
 clear hx2 HX1 HP1 HZ1 s0 s1
 have HBAD : Hid (∀ (W : World) (cd : Int), cd ≠ 0 → Ext w W → Blk W (w.heap.size + 1) 26 #[.int .i64 0, .int .i64 0, .int .i64 0, .slice none 0 0] → Blk (put4 W (w.heap.size + 1) (.int .i64 0) (.int .i64 0) (.int .i64 0) (.slice none 0 0)) (w.heap.size + 1) 26 #[.int .i64 rt0.n, .int .i64 rt0.inn, .int .i64 rt0.bits, .slice none rt0.ops.length 0] ∧ Ext w (put4 W (w.heap.size + 1) (.int .i64 0) (.int .i64 0) (.int .i64 0) (.slice none 0 0))) := fun W cd _ hx hz => ⟨hz.put4 _ _ _ _, ext_put4 hx (by omega) _ _ _ _⟩
 by_cases hbad : b2 = false ∨ code ≠ 0
 ·obtain ⟨hb9, hx9⟩ := HBAD.out w2 1 (by decide) HX2.out HZ2.out
  have HB9 := Lib.hid hb9
  have HX9 := Lib.hid hx9
  clear hb9 hx9
  obtain ⟨⟨q0, q1, q2, q3⟩, f0, f1, f2, f3⟩ := cells4 HZ2.out
  cases b2
  ·go_wp2
   exact endElab (x := rt0) (code := 1) rfl HB9.out _ rfl rfl rfl (rd_nil _ _) (by decide) (fun h => absurd h (by decide)) HX9.out
  ·have hc0 : (code == 0) = false := by
    rcases hbad with h | h
    ·cases h
    ·simp [h]
   clear hbad
   go_wp2
   exact endElab (x := rt0) (code := 1) rfl HB9.out _ rfl rfl rfl (rd_nil _ _) (by decide) (fun h => absurd h (by decide)) HX9.out
 ·obtain rfl : b2 = true := by cases b2 <;> simp_all
  have hc0 : (code == 0) = true := by
   have : code = 0 := Decidable.byContradiction fun h => hbad (Or.inr h)
   simp [this]
  clear hbad
  go_upto_region 4 with (fail)
  clear hc0
  have HK4 : Hid (∀ w', Ext w2 w' → w'.cell? ⟨w.heap.size, 0, none⟩ = some (.slice Aq nq cq)) := fun w' hx => (HP2.out.ext hx).cell 0
  obtain ⟨zs, hzs, hz⟩ := HN.out
  have HZS := Lib.hid hzs
  have HZR := Lib.hid ((hz.rd HK.out).ext HX2.out)
  clear hzs hz
  refine wp_region_held_drew (S := (fun w' => w'.cell? ⟨w.heap.size, 0, none⟩ = some (.slice Aq nq cq))) (by kernel_rfl) (HK4.out _ (Ext.refl w2).drew) (fun hHeld => ?_)
  (refine tk 1 (v := ?_) ?_ ?_; rotate_left; · (intro w hSw; (try dsimp only at hSw); go_simp; all_goals with_reducible rfl))
  (try simp only [Act.put, L1, L2, L3, L4, L5, L6])
  (refine tk 2 (v := ?_) ?_ ?_; rotate_left; · (intro w hSw; (try dsimp only at hSw); go_simp; all_goals with_reducible rfl))
  (try simp only [Act.put, L1, L2, L3, L4, L5, L6])
  (refine tk 4 (v := ?_) ?_ ?_; rotate_left; · (intro w hSw; (try dsimp only at hSw); go_simp; all_goals with_reducible rfl))
  (try simp only [Act.put, L1, L2, L3, L4, L5, L6])
  (refine tk 5 (v := ?_) ?_ ?_; rotate_left; · (intro w hSw; (try dsimp only at hSw); go_simp; all_goals with_reducible rfl))
  (try simp only [Act.put, L1, L2, L3, L4, L5, L6])
  (refine tk 6 (v := ?_) ?_ ?_; rotate_left; · (intro w hSw; (try dsimp only at hSw); go_simp; all_goals with_reducible rfl))
  (try simp only [Act.put, L1, L2, L3, L4, L5, L6])
  refine wpAnyH_ready (rs := [0]) (by kernel_rfl) (by simp) ?_
  refine AllReadyH.cons rfl (fun K hK => ?_) AllReadyH.nil
  go_simp
  have HXA : Hid (Ext w2 (w2.drew.alloc (.cells #[] 9))) := (Ext.refl w2).drew.alloc _
  refine hK.out _ _ (HK4.out _ HXA.out) (fun hHeld => ?_)
  clear hK K
  (try simp only [Act.put, L1, L2, L3, L4, L5, L6])
  refine wpAnyH_ready (rs := [3]) (by kernel_rfl) (by simp) ?_
  refine AllReadyH.cons rfl (fun K hK => ?_) AllReadyH.nil
  refine stepStrS (w := w2.drew.alloc (.cells #[] 9)) (w0 := w2.drew) rfl _ _ rfl (.slice (some ⟨w2.heap.size, 0, none⟩) 0 0) 0 [] rfl (own_empty w2.drew w2.drew _ 1 (Ext.refl _)) ((Ext.refl _).alloc _) Aq nq cq zs rfl (HZR.out.ext HXA.out) (by omega) ?_
  intro v6 w6 g1 g2 g3 g4
  simp only [Nat.zero_add, List.nil_append] at g1
  obtain ⟨A6, c6, rfl, -⟩ := own_slice g1
  have HX6 : Hid (Ext w2 w6) := Ext.trans (Ext.refl w2).drew g2
  have HO6 := Lib.hid g1
  clear g1 g2 g3 g4
  refine hK.out _ _ (HK4.out _ HX6.out) (fun hHeld => ?_)
  clear hK K
  (try simp only [Act.put, L1, L2, L3, L4, L5, L6])
  (refine tk 7 (v := ?_) ?_ ?_; rotate_left; · (intro w hSw; (try dsimp only at hSw); go_simp; all_goals with_reducible rfl))
  (try simp only [Act.put, L1, L2, L3, L4, L5, L6])
  refine wpAnyH_ready (rs := [8]) (by kernel_rfl) (by simp) ?_
  refine AllReadyH.cons rfl (fun K hK => ?_) AllReadyH.nil
  go_simp
  have HX7 : Hid (Ext w2 (w6.alloc (.cells #[.slice A6 nq c6, .slice none 0 0, .int .i64 nq, .bool false] 77))) := HX6.out.alloc _
  refine hK.out _ _ (HK4.out _ HX7.out) (fun hHeld => ?_)
  clear hK K
  (try simp only [Act.put, L1, L2, L3, L4, L5, L6])
  (refine tk 9 (v := ?_) ?_ ?_; rotate_left; · (intro w hSw; (try dsimp only at hSw); go_simp; all_goals with_reducible rfl))
  (try simp only [Act.put, L1, L2, L3, L4, L5, L6])
  (refine wpAnyH_done (by kernel_rfl) ?_ _)
  have HB7 : Hid (Blk (w6.alloc (.cells #[.slice A6 nq c6, .slice none 0 0, .int .i64 nq, .bool false] 77)) w6.heap.size 77 #[.slice A6 nq c6, .slice none 0 0, .int .i64 nq, .bool false]) := Blk.new _ _ _
  have HN7 : Hid (Ns (w6.alloc (.cells #[.slice A6 nq c6, .slice none 0 0, .int .i64 nq, .bool false] 77)) A6 nq) := (Ns.own HO6.out HZS.out).ext ((Ext.refl w6).alloc _)
  have HG7 : Hid (w.heap.size + 1 < w6.heap.size) := Nat.lt_of_lt_of_le HZ2.out.lt HX6.out.size
  clear hHeld HK4 HZS HZR HXA HO6 HX6
  generalize w6.alloc (.cells #[.slice A6 nq c6, .slice none 0 0, .int .i64 nq, .bool false] 77) = w7 at *
  generalize w6.heap.size = ge at *
  have HP7 := Lib.hid (HP2.out.ext HX7.out)
  have HZ7 := Lib.hid (HZ2.out.ext HX7.out)
  have HXW := Lib.hid (HX2.out.trans HX7.out)
  have HE7 : Hid (En w7 ge A6 nq c6 0) := ⟨HN7.out, none, 0, 0, nq, false, HB7.out, Nat.le_refl 0, by omega, Ns.none _⟩
  have hgl7 := HB7.out.lt
  have hg7 := HG7.out
  have hKl : ∀ b, KS b → b ≠ ge ∧ b < w7.heap.size := fun b hb => by have := HK.out b hb; constructor <;> omega
  have s1 : w7.cell? ⟨w.heap.size, 1, none⟩ = some (.slice Bp mp ep) := HP7.out.cell 1
  go_wp2_with fail
  refine (elA (d + 1) Bp mp ep A6 nq c6 0 ge KS w7 (HS.out.ext HK.out HXW.out) hKl HE7.out (by omega) (by omega)).mono ?_
  rintro e w8 ⟨⟨A8, c8, ys, rfl, ho8, hl8⟩, he8, hg8⟩
  have HX8 : Hid (Ext w w8) := Ext.grown HXW.out hg8 (fun q hq => by injection hq; omega)
  have HP8 : Hid (Blk w8 w.heap.size 53 #[.slice Aq nq cq, .slice Bp mp ep]) := (hg8.block _ HP7.out.lt (fun e => by injection e; omega)).trans HP7.out
  have HZ8 : Hid (Blk w8 (w.heap.size + 1) 26 #[.int .i64 0, .int .i64 0, .int .i64 0, .slice none 0 0]) := (hg8.block _ HZ7.out.lt (fun e => by injection e; omega)).trans HZ7.out
  have HR8 := Lib.hid ho8
  have HOW : Hid (∀ q, (Value.slice A8 ys.length c8).ownBlock = some q → q ≠ w.heap.size + 1) := fun q hq => by have := (ho8.lt q hq).1; omega
  obtain ⟨-, Ab, nb, cb, mo, lg, he2, he3, he4, -⟩ := he8
  have HB8 := Lib.hid he2
  clear ho8 he2 hg8 HP7 HZ7 HXW HE7 HB7 HN7 HX7 HP2 HZ2 HX2 hKl s1 HN HS HK HG7 HBAD
  go_upto_region 6 with (fail)
  have HK6 : Hid (∀ w', Ext w8 w' → w'.cell? ⟨ge, 2, none⟩ = some (.int .i64 mo) ∧ w'.cell? ⟨w.heap.size, 0, none⟩ = some (.slice Aq nq cq) ∧ w'.cell? ⟨ge, 1, none⟩ = some (.slice Ab nb cb)) := fun w' hx => ⟨(HB8.out.ext hx).cell 2, (HP8.out.ext hx).cell 0, (HB8.out.ext hx).cell 1⟩
  refine wp_region_held_drew (S := (fun w' => w'.cell? ⟨ge, 2, none⟩ = some (.int .i64 mo) ∧ w'.cell? ⟨w.heap.size, 0, none⟩ = some (.slice Aq nq cq) ∧ w'.cell? ⟨ge, 1, none⟩ = some (.slice Ab nb cb))) (by kernel_rfl) (HK6.out _ (Ext.refl w8).drew) (fun hHeld => ?_)
  (refine tk 0 (v := ?_) ?_ ?_; rotate_left; · (intro w hSw; (try dsimp only at hSw); go_simp; all_goals with_reducible rfl))
  (try simp only [Act.put, L1, L2, L3, L4, L5, L6])
  (refine tk 1 (v := ?_) ?_ ?_; rotate_left; · (intro w hSw; (try dsimp only at hSw); go_simp; all_goals with_reducible rfl))
  (try simp only [Act.put, L1, L2, L3, L4, L5, L6])
  (refine tk 2 (v := ?_) ?_ ?_; rotate_left; · (intro w hSw; (try dsimp only at hSw); go_simp; all_goals with_reducible rfl))
  (try simp only [Act.put, L1, L2, L3, L4, L5, L6])
  (refine tk 3 (v := ?_) ?_ ?_; rotate_left; · (intro w hSw; (try dsimp only at hSw); go_simp; all_goals with_reducible rfl))
  (try simp only [Act.put, L1, L2, L3, L4, L5, L6])
  (refine tk 4 (v := ?_) ?_ ?_; rotate_left; · (intro w hSw; (try dsimp only at hSw); go_simp; all_goals with_reducible rfl))
  (try simp only [Act.put, L1, L2, L3, L4, L5, L6])
  (refine tk 5 (v := ?_) ?_ ?_; rotate_left; · (intro w hSw; (try dsimp only at hSw); go_simp; all_goals with_reducible rfl))
  (try simp only [Act.put, L1, L2, L3, L4, L5, L6])
  (refine tk 6 (v := ?_) ?_ ?_; rotate_left; · (intro w hSw; (try dsimp only at hSw); go_simp; all_goals with_reducible rfl))
  (try simp only [Act.put, L1, L2, L3, L4, L5, L6])
  (refine tk 7 (v := ?_) ?_ ?_; rotate_left; · (intro w hSw; (try dsimp only at hSw); go_simp; all_goals with_reducible rfl))
  (try simp only [Act.put, L1, L2, L3, L4, L5, L6])
  (refine tk 8 (v := ?_) ?_ ?_; rotate_left; · (intro w hSw; (try dsimp only at hSw); go_simp; all_goals with_reducible rfl))
  (try simp only [Act.put, L1, L2, L3, L4, L5, L6])
  (refine tk 9 (v := ?_) ?_ ?_; rotate_left; · (intro w hSw; (try dsimp only at hSw); go_simp; all_goals with_reducible rfl))
  (try simp only [Act.put, L1, L2, L3, L4, L5, L6])
  (refine tk 10 (v := ?_) ?_ ?_; rotate_left; · (intro w hSw; (try dsimp only at hSw); go_simp; all_goals with_reducible rfl))
  (try simp only [Act.put, L1, L2, L3, L4, L5, L6])
  (refine tk 11 (v := ?_) ?_ ?_; rotate_left; · (intro w hSw; (try dsimp only at hSw); go_simp; all_goals with_reducible rfl))
  (try simp only [Act.put, L1, L2, L3, L4, L5, L6])
  (refine tk 12 (v := ?_) ?_ ?_; rotate_left; · (intro w hSw; (try dsimp only at hSw); go_simp; all_goals with_reducible rfl))
  (try simp only [Act.put, L1, L2, L3, L4, L5, L6])
  (refine tk 13 (v := ?_) ?_ ?_; rotate_left; · (intro w hSw; (try dsimp only at hSw); go_simp; all_goals with_reducible rfl))
  (try simp only [Act.put, L1, L2, L3, L4, L5, L6])
  refine wpAnyH_ready (rs := [14]) (by kernel_rfl) (by simp) ?_
  refine AllReadyH.cons rfl (fun K hK => ?_) AllReadyH.nil
  go_simp
  have HX9 : Hid (Ext w8 (w8.alloc (.cells #[.int .i64 0, .int .i64 0, .int .i64 0, .slice none 0 0] 26)).drew) := ((Ext.refl w8).alloc _).drew
  have HQ9 : Hid (Blk (w8.alloc (.cells #[.int .i64 0, .int .i64 0, .int .i64 0, .slice none 0 0] 26)).drew w8.heap.size 26 #[.int .i64 0, .int .i64 0, .int .i64 0, .slice none 0 0]) := (Blk.new w8 _ _).drew
  refine hK.out _ _ (HK6.out _ HX9.out) (fun hHeld => ?_)
  clear hK K
  (try simp only [Act.put, L1, L2, L3, L4, L5, L6])
  obtain ⟨s, hs⟩ : ∃ s, w8.heap.size = s := ⟨_, rfl⟩
  have hs8 : w8.heap.size ≤ s := Nat.le_of_eq hs
  rw [hs] at HQ9
  try rw [hs]
  clear hs
  generalize (w8.alloc (.cells #[.int .i64 0, .int .i64 0, .int .i64 0, .slice none 0 0] 26)).drew = w9 at *
  obtain ⟨⟨q0, q1, q2, q3⟩, f0, f1, f2, f3⟩ := cells4 HQ9.out
  have HXB : Hid (Ext w8 ((((w9.setCell ⟨s, 0, none⟩ (.int .i64 mo)).setCell ⟨s, 1, none⟩ (.int .i64 nq)).setCell ⟨s, 2, none⟩ (.int .i64 nb)).setCell ⟨s, 3, none⟩ (.slice A8 ys.length c8))) := ext_put4 HX9.out hs8 _ _ _ _
  have HQB : Hid (Blk ((((w9.setCell ⟨s, 0, none⟩ (.int .i64 mo)).setCell ⟨s, 1, none⟩ (.int .i64 nq)).setCell ⟨s, 2, none⟩ (.int .i64 nb)).setCell ⟨s, 3, none⟩ (.slice A8 ys.length c8)) s 26 #[.int .i64 mo, .int .i64 nq, .int .i64 nb, .slice A8 ys.length c8]) := HQ9.out.put4 _ _ _ _
  refine wpAnyH_ready (rs := [15]) (by kernel_rfl) (by simp) ?_
  refine AllReadyH.cons rfl (fun K hK => ?_) AllReadyH.nil
  go_simp
  refine hK.out _ _ (HK6.out _ HXB.out) (fun hHeld => ?_)
  clear hK K
  (try simp only [Act.put, L1, L2, L3, L4, L5, L6])
  (refine wpAnyH_done (by kernel_rfl) ?_ _)
  clear hHeld HK6 q0 q1 q2 q3 f0 f1 f2 f3 HX9 HQ9
  generalize ((((w9.setCell ⟨s, 0, none⟩ (.int .i64 mo)).setCell ⟨s, 1, none⟩ (.int .i64 nq)).setCell ⟨s, 2, none⟩ (.int .i64 nb)).setCell ⟨s, 3, none⟩ (.slice A8 ys.length c8)) = w10 at *
  have HX10 := Lib.hid (HX8.out.trans HXB.out)
  have HZ10 := Lib.hid (HZ8.out.ext HXB.out)
  have HB10 := Lib.hid (HB8.out.ext HXB.out)
  have HR10 := Lib.hid (own_ext HR8.out HXB.out)
  clear HX8 HZ8 HB8 HR8 HP8 HXB
  have e3 : w10.cell? ⟨ge, 3, none⟩ = some (.bool lg) := HB10.out.cell 3
  obtain ⟨⟨o0, o1, o2, o3⟩, -⟩ := cells4 HQB.out
  cases lg
  ·skip
   go_wp2_with fail
   refine (RoutineGateCount_any mo nq nb A8 c8 ys _ (Rd.own HR10.out) (by omega)).mono ?_
   rintro e w11 ⟨rfl, hx11⟩
   have HX11 := Lib.hid (HX10.out.trans hx11)
   have HZ11 := Lib.hid (HZ10.out.ext hx11)
   have HR11 := Lib.hid (own_ext HR10.out hx11)
   have HQ11 := Lib.hid (HQB.out.ext hx11)
   clear hx11 HX10 HZ10 HR10 HQB HB10 e3 o0 o1 o2 o3
   obtain ⟨⟨o0, o1, o2, o3⟩, -⟩ := cells4 HQ11.out
   by_cases hgc : gcnt ys > 60
   ·have hgi : ((gcnt ys : Nat) : Int) > 60 := by omega
    have hgd : decide (((gcnt ys : Nat) : Int) > 60) = true := by simp; omega
    obtain ⟨⟨q0, q1, q2, q3⟩, f0, f1, f2, f3⟩ := cells4 HZ11.out
    have HB9 := Lib.hid ((HZ11.out).put4 (.int .i64 0) (.int .i64 0) (.int .i64 0) (.slice none 0 0))
    have HX9 := Lib.hid (ext_put4 (HX11.out) (show w.heap.size ≤ w.heap.size + 1 by omega) (.int .i64 0) (.int .i64 0) (.int .i64 0) (.slice none 0 0))
    go_wp2
    exact endElab (x := rt0) (code := 2) rfl HB9.out _ rfl rfl rfl (rd_nil _ _) (by decide) (fun h => absurd h (by decide)) HX9.out
   ·have hgi : ¬ ((gcnt ys : Nat) : Int) > 60 := by omega
    have hgd : decide (((gcnt ys : Nat) : Int) > 60) = false := by simp; omega
    go_wp2_with fail
    refine (spec_IsValidRoutine_any A8 c8 ⟨mo, nq, nb, ys⟩ _ (Rd.own HR11.out) (by show ys.length ≤ _; omega)).mono ?_
    rintro e w12 ⟨rfl, hx12⟩
    have HX12 := Lib.hid (HX11.out.trans hx12)
    have HZ12 := Lib.hid (HZ11.out.ext hx12)
    have HR12 := Lib.hid (own_ext HR11.out hx12)
    have HQ12 := Lib.hid (HQ11.out.ext hx12)
    clear hx12 HX11 HZ11 HR11 HQ11 o0 o1 o2 o3
    cases hv : vRt ⟨mo, nq, nb, ys⟩
    ·skip
     obtain ⟨⟨q0, q1, q2, q3⟩, f0, f1, f2, f3⟩ := cells4 HZ12.out
     have HB9 := Lib.hid ((HZ12.out).put4 (.int .i64 0) (.int .i64 0) (.int .i64 0) (.slice none 0 0))
     have HX9 := Lib.hid (ext_put4 (HX12.out) (show w.heap.size ≤ w.heap.size + 1 by omega) (.int .i64 0) (.int .i64 0) (.int .i64 0) (.slice none 0 0))
     go_wp2
     exact endElab (x := rt0) (code := 2) rfl HB9.out _ rfl rfl rfl (rd_nil _ _) (by decide) (fun h => absurd h (by decide)) HX9.out
    ·have HVV := Lib.hid hv
     obtain ⟨⟨o0, o1, o2, o3⟩, -⟩ := cells4 HQ12.out
     obtain ⟨⟨q0, q1, q2, q3⟩, f0, f1, f2, f3⟩ := cells4 HZ12.out
     have HB9 := Lib.hid (HZ12.out.put4 (.int .i64 mo) (.int .i64 nq) (.int .i64 nb) (.slice A8 ys.length c8))
     have HX9 := Lib.hid (ext_put4 HX12.out (show w.heap.size ≤ w.heap.size + 1 by omega) (.int .i64 mo) (.int .i64 nq) (.int .i64 nb) (.slice A8 ys.length c8))
     have HR9 : Hid (Rd (put4 w12 (w.heap.size + 1) (.int .i64 mo) (.int .i64 nq) (.int .i64 nb) (.slice A8 ys.length c8)) (put4 w12 (w.heap.size + 1) (.int .i64 mo) (.int .i64 nq) (.int .i64 nb) (.slice A8 ys.length c8)).heap.size 8 A8 ys.length (ocells ys)) := Rd.own (own_setne (own_setne (own_setne (own_setne HR12.out (p := ⟨w.heap.size + 1, 0, none⟩) HOW.out _) (p := ⟨w.heap.size + 1, 1, none⟩) HOW.out _) (p := ⟨w.heap.size + 1, 2, none⟩) HOW.out _) (p := ⟨w.heap.size + 1, 3, none⟩) HOW.out _)
     go_wp2
     exact endElab (x := ⟨mo, nq, nb, ys⟩) (code := 0) rfl HB9.out _ rfl rfl rfl HR9.out (by show ys.length ≤ 2000; omega) (fun _ => HVV.out) HX9.out
  ·skip
   obtain ⟨⟨q0, q1, q2, q3⟩, f0, f1, f2, f3⟩ := cells4 HZ10.out
   have HB9 := Lib.hid ((HZ10.out).put4 (.int .i64 0) (.int .i64 0) (.int .i64 0) (.slice none 0 0))
   have HX9 := Lib.hid (ext_put4 (HX10.out) (show w.heap.size ≤ w.heap.size + 1 by omega) (.int .i64 0) (.int .i64 0) (.int .i64 0) (.slice none 0 0))
   go_wp2
   exact endElab (x := rt0) (code := 2) rfl HB9.out _ rfl rfl rfl (rd_nil _ _) (by decide) (fun h => absurd h (by decide)) HX9.out
end Go.Proofs.YtdjckjfclhjpcaaGreat
/-
 Helper text (no claim of its own): drawn circuits. Only that they return, and what their results are made of.
-/
namespace Go.Proofs.YtdjckjfclhjpcaaGreat
open Go.ChangeShapes Go.WideShapes Go.ChangeAt Go.RowKit Go.Deep
end Go.Proofs.YtdjckjfclhjpcaaGreat
/-
 Helper text (no claim of its own): drawn circuits, bent. Only that they return, and what their results are made of.
-/
namespace Go.Proofs.YtdjckjfclhjpcaaGreat
open Go.ChangeShapes Go.WideShapes Go.ChangeAt Go.RowKit Go.Deep
theorem own_nq {w : World} {B e size n s : Nat} {v : Value} {xs : List Value} (h : w.ownsRow B e size v n xs) (hs : w.heap.size ≤ s) : ∀ q, v.ownBlock = some q → B ≤ q ∧ q ≠ s := fun q hq => by
 have := h.lt q hq
 exact ⟨this.1, by omega⟩
end Go.Proofs.YtdjckjfclhjpcaaGreat
/-
 Helper text (no claim of its own): drawn circuits, bent. Only that they return, and what their results are made of.
-/
namespace Go.Proofs.YtdjckjfclhjpcaaGreat
open Go.ChangeShapes Go.WideShapes Go.ChangeAt Go.RowKit Go.Deep
/-- What a drawn circuit is. -/
def DrewCirc (w : World) (g most : Nat) (e : Ending) (w' : World) : Prop :=
 ∃ (N : Int) (A : Option Addr) (len cap : Nat) (gs : List Gt), e = .returned (.agg #[.int .i64 N, .slice A len cap]) ∧ (-1 ≤ N ∧ N ≤ 5) ∧ len ≤ most + 61 ∧ w'.ownsRow w.heap.size 38 4 (.slice A len cap) len (gcells gs) ∧ Cur w' g ∧ w.grownBy w' (some g)
theorem DrewCirc.mk {w w' : World} {g most : Nat} (N : Int) (A : Option Addr) (len cap : Nat) (gs : List Gt) (h1 : -1 ≤ N ∧ N ≤ 5) (h2 : len ≤ most + 61) (h3 : w'.ownsRow w.heap.size 38 4 (.slice A len cap) len (gcells gs) ∧ Cur w' g ∧ w.grownBy w' (some g)) : DrewCirc w g most (.returned (.agg #[.int .i64 N, .slice A len cap])) w' :=
 ⟨N, A, len, cap, gs, rfl, h1, h2, h3⟩
end Go.Proofs.YtdjckjfclhjpcaaGreat
namespace Go.Proofs.YtdjckjfclhjpcaaGreat
open Go.ChangeShapes Go.WideShapes Go.ChangeAt Go.RowKit Go.Deep
theorem appO1 {w : World} {B : Nat} {ops : Array Oper} {rest : List Oper} {o : Oper} {a : Act} {Q : Exit → Act → World → Prop} (hgd : o.guard = none) (s x : Operand)
  (ho : o.op = .call { callee := .builtin .append, args := #[s, x], argTypes := #[24, 24] }) (v : Value) (n : Nat) (xs : List Oq) (hs : a.eval s = v)
  (hown : w.ownsRow B 40 8 v n (ocells xs)) (hB : B ≤ w.heap.size) (y : Oq) (e : TypeId) (b : Nat) (hx : a.eval x = .slice (some ⟨b, 0, none⟩) 1 1) (hbs : b = w.heap.size) (hn : n ≤ 1800000000000)
  (h : ∀ A' c' w', w'.ownsRow B 40 8 (.slice A' (n + 1) c') (n + 1) (ocells (xs ++ [y])) → w.grownBy w' v.ownBlock → ((Value.slice A' (n + 1) c').ownBlock = v.ownBlock ∨ (Value.slice A' (n + 1) c').ownBlock = some (w.heap.size + 1)) → wpList Tryz.prog ops Q rest (a.put o.dst (.slice A' (n + 1) c')) w') :
  wpList Tryz.prog ops Q (o :: rest) a (w.alloc (.cells #[.int .i64 y.k, .int .i64 y.g.k, .int .i64 y.g.a, .int .i64 y.g.b, .int .i64 y.g.c, .int .i64 y.q, .int .i64 y.bit, .int .i64 y.cond] e)) := by
 subst hbs
 have hcs := cutW_size hB
 refine appOpS (w0 := cutW w B) hgd s x ho v n xs hs (by rw [hcs]; exact hown.alloc _) ((cutW_ext hB).alloc _) _ 1 1 [y] hx (rd_new w _ e 8 _ (by simp [Oq.cells]) (by simp [Oq.cells])) (by omega) ?_
 intro v' w' h1 h2 h3 h4
 rw [hcs] at h1
 obtain ⟨A', c', rfl, _⟩ := own_slice h1
 exact h A' c' w' h1 (World.grownBy.trans (((Ext.refl w).alloc _).gr _) h3) (by simpa using h4)
theorem stepO1 {w : World} {B : Nat} {ops : Array Oper} {o : Oper} {a : Act} {K : Act → World → Prop} {Q : Exit → Act → World → Prop} {E : Prop} (hgd : o.guard = none) (s x : Operand)
  (ho : o.op = .call { callee := .builtin .append, args := #[s, x], argTypes := #[24, 24] }) (v : Value) (n : Nat) (xs : List Oq) (hs : a.eval s = v)
  (hown : w.ownsRow B 40 8 v n (ocells xs)) (hB : B ≤ w.heap.size) (y : Oq) (e : TypeId) (b : Nat) (hx : a.eval x = .slice (some ⟨b, 0, none⟩) 1 1) (hbs : b = w.heap.size) (hn : n ≤ 1800000000000)
  (h : ∀ A' c' w', w'.ownsRow B 40 8 (.slice A' (n + 1) c') (n + 1) (ocells (xs ++ [y])) → w.grownBy w' v.ownBlock → ((Value.slice A' (n + 1) c').ownBlock = v.ownBlock ∨ (Value.slice A' (n + 1) c').ownBlock = some (w.heap.size + 1)) → K (a.put o.dst (.slice A' (n + 1) c')) w') :
  if Region.wanted o (yielded ops a.tmps) = true then Oper.wp Tryz.prog o a (w.alloc (.cells #[.int .i64 y.k, .int .i64 y.g.k, .int .i64 y.g.a, .int .i64 y.g.b, .int .i64 y.g.c, .int .i64 y.q, .int .i64 y.bit, .int .i64 y.cond] e)) K Q else E := by
 subst hbs
 have hcs := cutW_size hB
 refine stepOpS (w0 := cutW w B) hgd s x ho v n xs hs (by rw [hcs]; exact hown.alloc _) ((cutW_ext hB).alloc _) _ 1 1 [y] hx (rd_new w _ e 8 _ (by simp [Oq.cells]) (by simp [Oq.cells])) (by omega) ?_
 intro v' w' h1 h2 h3 h4
 rw [hcs] at h1
 obtain ⟨A', c', rfl, _⟩ := own_slice h1
 exact h A' c' w' h1 (World.grownBy.trans (((Ext.refl w).alloc _).gr _) h3) (by simpa using h4)
theorem Tryz.sizeRout : (Tryz.prog.info? 26).map (·.size) = some 4 := by kernel_rfl
theorem retR {fn : Func} {p : Tmp} (hf : fn.results = #[.cell p 26]) {W : World} {q : Nat} {z0 z1 z2 z3 : Value} (hB : Blk W q 26 #[z0, z1, z2, z3]) (a b c d : Value) (tmps : Array Value)
  (hp : tmps.getD p undef = .pointer (some ⟨q, 0, none⟩)) : (results fn tmps).run Tryz.prog ((((W.setCell ⟨q, 0, none⟩ a).setCell ⟨q, 1, none⟩ b).setCell ⟨q, 2, none⟩ c).setCell ⟨q, 3, none⟩ d) = .ok (.agg #[a, b, c, d]) ((((W.setCell ⟨q, 0, none⟩ a).setCell ⟨q, 1, none⟩ b).setCell ⟨q, 2, none⟩ c).setCell ⟨q, 3, none⟩ d) :=
 results_cell_row hf tmps _ q 26 _ (0, 0) _ hp (hB.set4 a b c d) Tryz.underlying26 rfl Tryz.sizeRout
/-- A drawn routine whose header lies in block s. -/
def DR (w0 w : World) (g s : Nat) (N I B : Int) (A : Option Addr) (len cap : Nat) (xs : List Oq) : Prop :=
 Blk w w0.heap.size 26 #[.int .i64 0, .int .i64 0, .int .i64 0, .slice none 0 0] ∧ Blk w s 26 #[.int .i64 N, .int .i64 I, .int .i64 B, .slice A len cap] ∧ w.ownsRow (w0.heap.size + 1) 40 8 (.slice A len cap) len (ocells xs) ∧ (∀ q, (Value.slice A len cap).ownBlock = some q → w0.heap.size + 1 ≤ q ∧ q ≠ s) ∧ Cur w g ∧ w0.grownBy w (some g)
section
variable {w0 w w' : World} {g s : Nat} {N I B : Int} {A : Option Addr} {len cap : Nat} {xs : List Oq}
theorem DR.cur (h : DR w0 w g s N I B A len cap xs) : Cur w g := h.2.2.2.2.1
theorem DR.lt (h : DR w0 w g s N I B A len cap xs) : s < w.heap.size ∧ w0.heap.size < w.heap.size := ⟨h.2.1.lt, h.1.lt⟩
theorem DR.grown (h : DR w0 w g s N I B A len cap xs) (hg : w.grownBy w' (some g)) (hC : Cur w' g) (hs : g < s) (hl : g < w0.heap.size) : DR w0 w' g s N I B A len cap xs := by
 obtain ⟨h1, h2, h3, h4, h5, h6⟩ := h
 exact ⟨h1.grown hg (fun k hk => by injection hk; omega), h2.grown hg (fun k hk => by injection hk; omega), own_kept h3 hg (fun k hk => by injection hk; omega), h4, hC, gr_trans h6 hg⟩
theorem DR.drew (h : DR w0 w g s N I B A len cap xs) : DR w0 w.drew g s N I B A len cap xs := by
 obtain ⟨h1, h2, h3, h4, h5, h6⟩ := h
 exact ⟨h1, h2, own_ext h3 (Ext.refl w).drew, h4, h5.ext (Ext.refl w).drew, gr_ext h6 (Ext.refl w).drew⟩
theorem DR.alloc (h : DR w0 w g s N I B A len cap xs) (o : Obj) : DR w0 (w.alloc o) g s N I B A len cap xs := by
 obtain ⟨h1, h2, h3, h4, h5, h6⟩ := h
 exact ⟨h1.alloc o, h2.alloc o, own_ext h3 ((Ext.refl w).alloc o), h4, h5.alloc o, gr_alloc h6 o⟩
theorem DR.setI (h : DR w0 w g s N I B A len cap xs) {j : Nat} {N' I' B' : Int} (u : Value) (he : (#[.int .i64 N, .int .i64 I, .int .i64 B, .slice A len cap] : Array Value).setIfInBounds j u = #[.int .i64 N', .int .i64 I', .int .i64 B', .slice A len cap]) (hs : w0.heap.size < s) (hl : g < w0.heap.size) : DR w0 (w.setCell ⟨s, j, none⟩ u) g s N' I' B' A len cap xs := by
 obtain ⟨h1, h2, h3, h4, h5, h6⟩ := h
 refine ⟨h1.far (p := ⟨s, j, none⟩) (by simp; omega) _, by have := h2.set_ j u; rwa [he] at this, ?_, h4, h5.set_ (p := ⟨s, j, none⟩) (by simp; omega) _, gr_set h6 (p := ⟨s, j, none⟩) (by simp; omega) _⟩
 refine h3.kept (row := some s) (gr_setCell (World.grownBy.refl w (some s)) j _) ?_
 cases hv : (Value.slice A len cap).ownBlock with
 | none => exact .inl rfl
 | some q => exact .inr (fun e => (h4 q hv).2 (by injection e))
/-- A store into a block that is none of the routine's. -/
theorem DR.far (h : DR w0 w g s N I B A len cap xs) {t j : Nat} (u : Value) (ht : t ≠ s) (hw : w0.heap.size < t) (hl : g < w0.heap.size) (hq : ∀ q, (Value.slice A len cap).ownBlock = some q → q ≠ t) : DR w0 (w.setCell ⟨t, j, none⟩ u) g s N I B A len cap xs := by
 obtain ⟨h1, h2, h3, h4, h5, h6⟩ := h
 refine ⟨h1.far (p := ⟨t, j, none⟩) (by simp; omega) _, h2.far (p := ⟨t, j, none⟩) (by simp; omega) _, ?_, h4, h5.set_ (p := ⟨t, j, none⟩) (by simp; omega) _, gr_set h6 (p := ⟨t, j, none⟩) (by simp; omega) _⟩
 refine h3.kept (row := some t) (gr_setCell (World.grownBy.refl w (some t)) j _) ?_
 cases hv : (Value.slice A len cap).ownBlock with
 | none => exact .inl rfl
 | some q => exact .inr (fun e => hq q hv (by injection e))
/-- What an append to the routine's row leaves. -/
theorem DR.app {A' : Option Addr} {c' : Nat} {y : Oq} (h : DR w0 w g s N I B A len cap xs) (hs : w0.heap.size < s) (hl : g < w0.heap.size)
  (ho : w'.ownsRow (w0.heap.size + 1) 40 8 (.slice A' (len + 1) c') (len + 1) (ocells (xs ++ [y]))) (hg : w.grownBy w' (Value.slice A len cap).ownBlock)
  (hb : (Value.slice A' (len + 1) c').ownBlock = (Value.slice A len cap).ownBlock ∨ (Value.slice A' (len + 1) c').ownBlock = some (w.heap.size + 1)) :
  Blk w' s 26 #[.int .i64 N, .int .i64 I, .int .i64 B, .slice A len cap] ∧ DR w0 (w'.setCell ⟨s, 3, none⟩ (.slice A' (len + 1) c')) g s N I B A' (len + 1) c' (xs ++ [y]) := by
 obtain ⟨h1, h2, h3, h4, h5, h6⟩ := h
 have hls := h2.lt
 have hB := h2.grown hg (fun k hk e => (h4 k hk).2 e.symm)
 have h4' : ∀ q, (Value.slice A' (len + 1) c').ownBlock = some q → w0.heap.size + 1 ≤ q ∧ q ≠ s := by
  intro q hq
  rcases hb with hb | hb
  ·rw [hb] at hq; exact h4 q hq
  ·rw [hb] at hq; injection hq with hq
   have := h1.lt
   omega
 refine ⟨hB, (h1.grown hg (fun k hk e => by have := (h4 k hk).1; omega)).far (p := ⟨s, 3, none⟩) (by simp; omega) _, hB.set_ 3 _, ?_, h4', (h5.grown hg (fun k hk => by have := (h4 k hk).1; omega)).set_ (p := ⟨s, 3, none⟩) (by simp; omega) _, gr_set (gr_new h6 hg (fun k hk => by have := (h4 k hk).1; omega)) (p := ⟨s, 3, none⟩) (by simp; omega) _⟩
 refine ho.kept (row := some s) (gr_setCell (World.grownBy.refl w' (some s)) 3 _) ?_
 cases hv : (Value.slice A' (len + 1) c').ownBlock with
 | none => exact .inl rfl
 | some q => exact .inr (fun e => (h4' q hv).2 (by injection e))
/-- What a drawn routine is. -/
def DrewRout (w0 : World) (g most : Nat) (e : Ending) (w' : World) : Prop :=
 ∃ (N I B : Int) (A : Option Addr) (len cap : Nat) (xs : List Oq), e = .returned (.agg #[.int .i64 N, .int .i64 I, .int .i64 B, .slice A len cap]) ∧ (-1 ≤ N ∧ N ≤ 5 ∧ -1 ≤ I ∧ I ≤ 6 ∧ -1 ≤ B ∧ B ≤ 4) ∧ len ≤ most ∧ w'.ownsRow w0.heap.size 40 8 (.slice A len cap) len (ocells xs) ∧ Cur w' g ∧ w0.grownBy w' (some g)
theorem DR.done {most : Nat} (h : DR w0 w g s N I B A len cap xs) (hl : g < w0.heap.size) (hN : -1 ≤ N ∧ N ≤ 5 ∧ -1 ≤ I ∧ I ≤ 6 ∧ -1 ≤ B ∧ B ≤ 4) (hm : len ≤ most) :
  DrewRout w0 g most (.returned (.agg #[.int .i64 N, .int .i64 I, .int .i64 B, .slice A len cap])) ((((w.setCell ⟨w0.heap.size, 0, none⟩ (.int .i64 N)).setCell ⟨w0.heap.size, 1, none⟩ (.int .i64 I)).setCell ⟨w0.heap.size, 2, none⟩ (.int .i64 B)).setCell ⟨w0.heap.size, 3, none⟩ (.slice A len cap)) :=
 ⟨N, I, B, A, len, cap, xs, rfl, hN, hm, own_base (own_set (own_set (own_set (own_set h.2.2.1 (p := ⟨w0.heap.size, 0, none⟩) (by simp) _) (p := ⟨w0.heap.size, 1, none⟩) (by simp) _) (p := ⟨w0.heap.size, 2, none⟩) (by simp) _) (p := ⟨w0.heap.size, 3, none⟩) (by simp) _) (by omega), Cur.set4 h.2.2.2.2.1 hl _ _ _ _, gr_set4 h.2.2.2.2.2 (Nat.le_refl _) _ _ _ _⟩
/-- A drawn routine of one to three qubits. -/
def DrewRout3 (w0 : World) (g most : Nat) (e : Ending) (w' : World) : Prop :=
 ∃ (N I B : Int) (A : Option Addr) (len cap : Nat) (xs : List Oq), e = .returned (.agg #[.int .i64 N, .int .i64 I, .int .i64 B, .slice A len cap]) ∧ (1 ≤ N ∧ N ≤ 3 ∧ -1 ≤ I ∧ I ≤ 6 ∧ -1 ≤ B ∧ B ≤ 4) ∧ len ≤ most ∧ w'.ownsRow w0.heap.size 40 8 (.slice A len cap) len (ocells xs) ∧ Cur w' g ∧ w0.grownBy w' (some g)
theorem DrewRout3.loose {w0 w' : World} {g most : Nat} {e : Ending} (h : DrewRout3 w0 g most e w') : DrewRout w0 g most e w' := by
 obtain ⟨N, I, B, A, len, cap, xs, e1, hN, r⟩ := h
 exact ⟨N, I, B, A, len, cap, xs, e1, by omega, r⟩
theorem DR.done3 {most : Nat} (h : DR w0 w g s N I B A len cap xs) (hl : g < w0.heap.size) (hN : 1 ≤ N ∧ N ≤ 3 ∧ -1 ≤ I ∧ I ≤ 6 ∧ -1 ≤ B ∧ B ≤ 4) (hm : len ≤ most) :
  DrewRout3 w0 g most (.returned (.agg #[.int .i64 N, .int .i64 I, .int .i64 B, .slice A len cap])) ((((w.setCell ⟨w0.heap.size, 0, none⟩ (.int .i64 N)).setCell ⟨w0.heap.size, 1, none⟩ (.int .i64 I)).setCell ⟨w0.heap.size, 2, none⟩ (.int .i64 B)).setCell ⟨w0.heap.size, 3, none⟩ (.slice A len cap)) :=
 ⟨N, I, B, A, len, cap, xs, rfl, hN, hm, own_base (own_set (own_set (own_set (own_set h.2.2.1 (p := ⟨w0.heap.size, 0, none⟩) (by simp) _) (p := ⟨w0.heap.size, 1, none⟩) (by simp) _) (p := ⟨w0.heap.size, 2, none⟩) (by simp) _) (p := ⟨w0.heap.size, 3, none⟩) (by simp) _) (by omega), Cur.set4 h.2.2.2.2.1 hl _ _ _ _, gr_set4 h.2.2.2.2.2 (Nat.le_refl _) _ _ _ _⟩
end
end Go.Proofs.YtdjckjfclhjpcaaGreat
