/-
 Helper text (no claim of its own): a drawn region whose last operation stores into a cell that the region also loads: the condition on the world need not hold behind that store.
-/
import Derived.Test.YtdjckjfclhjpcaaGreatMLowLc
import Derived.Test.YtdjckjfclhjpcaaGreatDrk
import Derived.Test.YtdjckjfclhjpcaaGreatBase
/-
 Helper text (no claim of its own): a clean qubit is elaborated. Printed by gen_smk.py.
-/
namespace Go.Proofs.YtdjckjfclhjpcaaGreat
open Go.ChangeShapes Go.WideShapes Go.ChangeAt Go.RowKit Go.Deep
set_option linter.unusedVariables false
set_option linter.unusedSimpArgs false
theorem Ns.row {w w' : World} {A : Option Addr} {n ge : Nat} {cs : Array Value} (h : Ns w A n) (hg : w.grownBy w' (some ge)) (hb : Blk w ge 77 cs) : Ns w' A n := h.keep fun b ds hd => hg.block b hd.lt (fun e => blk_ne hd hb (by decide) (by injection e))
theorem Ns.rowO {w w' : World} {A : Option Addr} {n Bs k : Nat} {v : Value} {xs : List Value} (h : Ns w A n) (ho : w.ownsRow Bs 40 8 v k xs) (hg : w.grownBy w' v.ownBlock) : Ns w' A n := h.keep fun b ds hd => hg.block b hd.lt (fun e => own_ne ho hd (by decide) e.symm)
theorem Ns.set_ {w : World} {A : Option Addr} {n ge : Nat} {cs : Array Value} (h : Ns w A n) (hb : Blk w ge 77 cs) (i : Nat) (u : Value) : Ns (w.setCell ⟨ge, i, Option.none⟩ u) A n := h.keep fun b ds hd => Below.heap_setCell w ⟨ge, i, Option.none⟩ u b (blk_ne hd hb (by decide))
theorem Ns.ext {w w' : World} {A : Option Addr} {n : Nat} (h : Ns w A n) (hx : Ext w w') : Ns w' A n := h.keep fun b ds hd => hx.block b hd.lt
/-- The statement's block, and the clean op's. -/
structure AnB (W : World) (g : Nat) (xk : Int) (wd : ByteArray) (A : Option Addr) (n c : Nat) (cnt : Int) (B : Option Addr) (m e : Nat) (nn : Nat) : Prop where
 s : Blk W g 69 #[.int .i64 xk, .string wd, .slice A n c, .int .i64 cnt, .slice B m e]
 o : Blk W (g + 1) 40 #[.int .i64 3, .int .i64 0, .int .i64 0, .int .i64 0, .int .i64 0, .int .i64 nn, .int .i64 0, .int .i64 0]
set_option maxRecDepth 100000 in
set_option maxHeartbeats 32000000 in
theorem l22Ancilla_of {d : Nat} (hall : ElA d) (xk : Int) (wd : ByteArray) (A : Option Addr) (n c : Nat) (cnt : Int) (B : Option Addr) (m e : Nat) (An : Option Addr) (nn cn bd ge : Nat) (KS : Nat → Prop) (w : World) (hsv : Sv (d + 1) w KS ⟨xk, wd, A, n, c, cnt, B, m, e⟩) (hKS : ∀ b, KS b → b ≠ ge ∧ b < w.heap.size) (hE : En w ge An nn cn bd) (hnn : nn + (d + 1) ≤ 900) (hbd : bd + cC (d + 1) ≤ 1000000) (h5 : xk = 5) :
  Calls Tryz.prog 77 #[.agg #[.int .i64 xk, .string wd, .slice A n c, .int .i64 cnt, .slice B m e], .pointer (some ⟨ge, 0, none⟩)] w (El w 2002 ge An nn cn (bd + 10 * cC d)) := by
 have hOld : Old w KS := fun b hb => (hKS b hb).2
 obtain ⟨⟨p1, p2, p2', p3, p4⟩, xs, hxs, hxr⟩ := hsv.parts hOld
 simp only at p1 p2 p2' p3 p4 hxr
 have hcC : cC (d + 1) = 1 + 10 * cC d := rfl
 have hn1 : 1 ≤ n := by rw [h5] at p1; exact p1
 clear h5
 have hgl := hE.lt
 have hBA : ∀ b o, A = some ⟨b, o, none⟩ → b ≠ ge ∧ b < w.heap.size := fun b o hA => by
  obtain ⟨_, _, _, _, _, ⟨ys, _, h6⟩, _⟩ := hsv
  obtain ⟨b', o', e', hb', _⟩ := h6.2 hn1
  simp only at e'
  rw [hA] at e'
  injection e' with e'
  injection e' with e1 _
  subst e1
  exact hKS _ hb'
 have HBODY : Hid (∀ (A8 : Option Addr) (c8 : Nat) (w' : World), w.grownBy w' (some ge) → En w' ge A8 (nn + 1) c8 bd → Calls Tryz.prog 37 #[.slice B m e, .pointer (some ⟨ge, 0, none⟩)] w' (El w' 2000 ge A8 (nn + 1) c8 (bd + 10 * cC d))) := fun A8 c8 w' hg he =>
  hall B m e A8 (nn + 1) c8 bd ge KS w' (hsv.body.keep (fun b hb => hg.block b (hKS b hb).2 (fun e => (hKS b hb).1 (by injection e))) fun _ h => h) (fun b hb => ⟨(hKS b hb).1, Nat.lt_of_lt_of_le (hKS b hb).2 hg.size⟩) he (by omega) (by omega)
 obtain ⟨b, o, y, rfl, hb, r0, hym⟩ := str_0 hxr hn1
 have HYS := Lib.hid (hxs y hym)
 have hbg := (hBA b o rfl).1
 have HX : Hid (Ext w ((w.alloc (.cells #[.int .i64 xk, .string wd, .slice (some ⟨b, o, none⟩) n c, .int .i64 cnt, .slice B m e] 69)).alloc (.cells #[.int .i64 3, .int .i64 0, .int .i64 0, .int .i64 0, .int .i64 0, .int .i64 nn, .int .i64 0, .int .i64 0] 40))) := ((Ext.refl w).alloc _).alloc _
 have HM : Hid (AnB ((w.alloc (.cells #[.int .i64 xk, .string wd, .slice (some ⟨b, o, none⟩) n c, .int .i64 cnt, .slice B m e] 69)).alloc (.cells #[.int .i64 3, .int .i64 0, .int .i64 0, .int .i64 0, .int .i64 0, .int .i64 nn, .int .i64 0, .int .i64 0] 40)) w.heap.size xk wd (some ⟨b, o, none⟩) n c cnt B m e nn) := ⟨(Blk.new w _ _).alloc _, Blk.newAt (by simp)⟩
 have HE : Hid (En ((w.alloc (.cells #[.int .i64 xk, .string wd, .slice (some ⟨b, o, none⟩) n c, .int .i64 cnt, .slice B m e] 69)).alloc (.cells #[.int .i64 3, .int .i64 0, .int .i64 0, .int .i64 0, .int .i64 0, .int .i64 nn, .int .i64 0, .int .i64 0] 40)) ge An nn cn bd) := hE.ext HX.out
 have e0 : w.cell? ⟨ge, 0, none⟩ = some (.slice An nn cn) := hE.names
 have hn0 : 0 < n := hn1
 have HRB : Hid (b < w.heap.size ∧ b ≠ ge) := ⟨hb, hbg⟩
 clear hall hsv hKS hOld hxr hxs hE hBA hym
 go_enter Tryz.func77, Tryz.ntmps77
 go_upto_region 3 with (fail)
 have r0' : ((w.alloc (.cells #[.int .i64 xk, .string wd, .slice (some ⟨b, o, none⟩) n c, .int .i64 cnt, .slice B m e] 69)).alloc (.cells #[.int .i64 3, .int .i64 0, .int .i64 0, .int .i64 0, .int .i64 0, .int .i64 nn, .int .i64 0, .int .i64 0] 40)).cell? ⟨b, o, none⟩ = some (.string y) := (HX.out.cell (p := ⟨b, o, none⟩) hb).trans r0
 clear r0 e0
 generalize ((w.alloc (.cells #[.int .i64 xk, .string wd, .slice (some ⟨b, o, none⟩) n c, .int .i64 cnt, .slice B m e] 69)).alloc (.cells #[.int .i64 3, .int .i64 0, .int .i64 0, .int .i64 0, .int .i64 0, .int .i64 nn, .int .i64 0, .int .i64 0] 40)) = W at *
 have e0 : W.cell? ⟨ge, 0, none⟩ = some (.slice An nn cn) := HE.out.names
 have s2 : W.cell? ⟨w.heap.size, 2, none⟩ = some (.slice (some ⟨b, o, none⟩) n c) := HM.out.s.cell 2
 obtain ⟨e1n, Ab, nb, cb, mo, lg, e2, e3, e4, e5⟩ := HE.out
 obtain ⟨ns, hns, hnr⟩ := e1n.rd
 have HNS := Lib.hid hns
 have HNO := Lib.hid e1n
 have HNB := Lib.hid e5
 have HEB := Lib.hid e2
 have hsz : w.heap.size + 1 < W.heap.size := HM.out.o.lt
 clear HE e1n e5 e2 hns
 go_wp2_with fail
 refine (l20Add_any An nn cn ns y _ hnr (by omega)).mono ?_
 rintro e8 w8 ⟨⟨v8, rfl, ho8⟩, hx8⟩
 obtain ⟨A8, c8, rfl, -⟩ := own_slice ho8
 have HX8 := Lib.hid hx8
 have HO8 := Lib.hid ho8
 have HB8 := Lib.hid (HEB.out.ext hx8)
 have y0 : w8.cell? ⟨ge, 0, none⟩ = some (.slice An nn cn) := HB8.out.cell 0
 have f0 := HB8.out.frozen 0
 have hgl8 := HB8.out.lt
 clear ho8 hx8 e0 s2 r0' hnr
 go_upto_region 4 with (fail)
 have HB9 : Hid (Blk (w8.setCell ⟨ge, 0, none⟩ (.slice A8 (nn + 1) c8)) ge 77 #[.slice A8 (nn + 1) c8, .slice Ab nb cb, .int .i64 mo, .bool lg]) := HB8.out.set_ 0 _
 have HM9 : Hid (AnB (w8.setCell ⟨ge, 0, none⟩ (.slice A8 (nn + 1) c8)) w.heap.size xk wd (some ⟨b, o, none⟩) n c cnt B m e nn) := ⟨(HM.out.s.ext HX8.out).far (p := ⟨ge, 0, none⟩) (by show w.heap.size ≠ ge; omega) _, (HM.out.o.ext HX8.out).far (p := ⟨ge, 0, none⟩) (by show w.heap.size + 1 ≠ ge; omega) _⟩
 have HN9 : Hid (Ns (w8.setCell ⟨ge, 0, none⟩ (.slice A8 (nn + 1) c8)) An nn ∧ Ns (w8.setCell ⟨ge, 0, none⟩ (.slice A8 (nn + 1) c8)) Ab nb ∧ Ns (w8.setCell ⟨ge, 0, none⟩ (.slice A8 (nn + 1) c8)) A8 (nn + 1)) := ⟨(HNO.out.ext HX8.out).set_ HB8.out 0 _, (HNB.out.ext HX8.out).set_ HB8.out 0 _, Ns.own (own_far HO8.out HB8.out (by decide) 0 _) (fun u hu => by
  rcases List.mem_append.1 hu with hu | hu
  ·exact HNS.out u hu
  ·obtain rfl := List.mem_singleton.1 hu; exact HYS.out)⟩
 have HG9 : Hid (w.grownBy (w8.setCell ⟨ge, 0, none⟩ (.slice A8 (nn + 1) c8)) (some ge)) := gr_setCell ((HX.out.trans HX8.out).gr _) 0 _
 have hsz9 : W.heap.size ≤ (w8.setCell ⟨ge, 0, none⟩ (.slice A8 (nn + 1) c8)).heap.size := by have := HX8.out.size; simpa [World.setCell] using this
 clear y0 f0 HB8 HM HNO HNB HEB HO8 HX8 HX HNS HYS hgl8
 generalize w8.setCell ⟨ge, 0, none⟩ (.slice A8 (nn + 1) c8) = w9 at *
 refine wp_region_held_drew (S := (fun w' => w'.cell? ⟨ge, 0, none⟩ = some (.slice A8 (nn + 1) c8))) (by kernel_rfl) ((HB9.out.ext (Ext.refl w9).drew).cell 0) (fun hHeld => ?_)
 (refine tk 0 (v := ?_) ?_ ?_; rotate_left; · (intro w hSw; (try dsimp only at hSw); go_simp; all_goals with_reducible rfl))
 (try simp only [Act.put, L1, L2, L3, L4, L5, L6])
 (refine tk 1 (v := ?_) ?_ ?_; rotate_left; · (intro w hSw; (try dsimp only at hSw); go_simp; all_goals with_reducible rfl))
 (try simp only [Act.put, L1, L2, L3, L4, L5, L6])
 (refine tk 2 (v := ?_) ?_ ?_; rotate_left; · (intro w hSw; (try dsimp only at hSw); go_simp; all_goals with_reducible rfl))
 (try simp only [Act.put, L1, L2, L3, L4, L5, L6])
 (refine tk 3 (v := ?_) ?_ ?_; rotate_left; · (intro w hSw; (try dsimp only at hSw); go_simp; all_goals with_reducible rfl))
 (try simp only [Act.put, L1, L2, L3, L4, L5, L6])
 (refine tk 5 (v := ?_) ?_ ?_; rotate_left; · (intro w hSw; (try dsimp only at hSw); go_simp; all_goals with_reducible rfl))
 (try simp only [Act.put, L1, L2, L3, L4, L5, L6])
 (refine tk 6 (v := ?_) ?_ ?_; rotate_left; · (intro w hSw; (try dsimp only at hSw); go_simp; all_goals with_reducible rfl))
 (try simp only [Act.put, L1, L2, L3, L4, L5, L6])
 (refine tk 7 (v := ?_) ?_ ?_; rotate_left; · (intro w hSw; (try dsimp only at hSw); go_simp; all_goals with_reducible rfl))
 (try simp only [Act.put, L1, L2, L3, L4, L5, L6])
 (refine tk 8 (v := ?_) ?_ ?_; rotate_left; · (intro w hSw; (try dsimp only at hSw); go_simp; all_goals with_reducible rfl))
 (try simp only [Act.put, L1, L2, L3, L4, L5, L6])
 (refine tk 9 (v := ?_) ?_ ?_; rotate_left; · (intro w hSw; (try dsimp only at hSw); go_simp; all_goals with_reducible rfl))
 (try simp only [Act.put, L1, L2, L3, L4, L5, L6])
 have e2 : w9.drew.cell? ⟨ge, 2, none⟩ = some (.int .i64 mo) := (HB9.out.ext (Ext.refl w9).drew).cell 2
 refine wpAnyH_ready (rs := [4]) (by kernel_rfl) (by simp) ?_
 refine AllReadyH.cons rfl (fun K hK => ?_) AllReadyH.nil
 go_simp
 refine hK.out _ _ ((HB9.out.ext (Ext.refl w9).drew).cell 0) (fun hHeld => ?_)
 clear hK K
 (try simp only [Act.put, L1, L2, L3, L4, L5, L6])
 refine wpAnyH_ready (rs := [10]) (by kernel_rfl) (by simp) ?_
 refine AllReadyH.cons rfl (fun K hK => ?_) AllReadyH.nil
 go_simp
 refine (l1Max_any _ _ _).mono ?_
 rintro e7 w7 ⟨rfl, rfl⟩
 obtain ⟨m2, hm2⟩ : ∃ m2 : Int, (if ((nn : Int) + 1) < mo then mo else ((nn : Int) + 1)) = m2 := ⟨_, rfl⟩
 have hmb : 0 ≤ m2 ∧ m2 ≤ 1000 := by rw [← hm2]; split <;> omega
 try rw [hm2]
 refine hK.out _ _ ((HB9.out.ext (Ext.refl w9).drew).cell 0) (fun hHeld => ?_)
 clear hK K
 (try simp only [Act.put, L1, L2, L3, L4, L5, L6])
 (refine tk 11 (v := ?_) ?_ ?_; rotate_left; · (intro w hSw; (try dsimp only at hSw); go_simp; all_goals with_reducible rfl))
 (try simp only [Act.put, L1, L2, L3, L4, L5, L6])
 (refine tk 12 (v := ?_) ?_ ?_; rotate_left; · (intro w hSw; (try dsimp only at hSw); go_simp; all_goals with_reducible rfl))
 (try simp only [Act.put, L1, L2, L3, L4, L5, L6])
 have f2 := (HB9.out.ext (Ext.refl w9).drew).frozen 2
 refine wpAnyH_ready (rs := [13]) (by kernel_rfl) (by simp) ?_
 refine AllReadyH.cons rfl (fun K hK => ?_) AllReadyH.nil
 go_simp
 have HB10 : Hid (Blk ((w9.setCell ⟨ge, 2, none⟩ (.int .i64 m2)).drew) ge 77 #[.slice A8 (nn + 1) c8, .slice Ab nb cb, .int .i64 m2, .bool lg]) := (HB9.out.set_ 2 _).drew
 refine hK.out _ _ (HB10.out.cell 0) (fun hHeld => ?_)
 clear hK K
 (try simp only [Act.put, L1, L2, L3, L4, L5, L6])
 (refine wpAnyH_done (by kernel_rfl) ?_ _)
 have HXD : Hid (Ext (w9.setCell ⟨ge, 2, none⟩ (.int .i64 m2)) ((w9.setCell ⟨ge, 2, none⟩ (.int .i64 m2)).drew)) := (Ext.refl _).drew
 have HM10 : Hid (AnB ((w9.setCell ⟨ge, 2, none⟩ (.int .i64 m2)).drew) w.heap.size xk wd (some ⟨b, o, none⟩) n c cnt B m e nn) := ⟨(HM9.out.s.far (p := ⟨ge, 2, none⟩) (by show w.heap.size ≠ ge; omega) _).drew, (HM9.out.o.far (p := ⟨ge, 2, none⟩) (by show w.heap.size + 1 ≠ ge; omega) _).drew⟩
 have HNO : Hid (Ns ((w9.setCell ⟨ge, 2, none⟩ (.int .i64 m2)).drew) An nn) := (HN9.out.1.set_ HB9.out 2 _).ext HXD.out
 have HE10 : Hid (En ((w9.setCell ⟨ge, 2, none⟩ (.int .i64 m2)).drew) ge A8 (nn + 1) c8 bd) := ⟨(HN9.out.2.2.set_ HB9.out 2 _).ext HXD.out, Ab, nb, cb, m2, lg, HB10.out, e3, hmb, (HN9.out.2.1.set_ HB9.out 2 _).ext HXD.out⟩
 have HG10 : Hid (w.grownBy ((w9.setCell ⟨ge, 2, none⟩ (.int .i64 m2)).drew) (some ge)) := gr_ext (gr_setCell HG9.out 2 _) HXD.out
 have hsz10 : W.heap.size ≤ ((w9.setCell ⟨ge, 2, none⟩ (.int .i64 m2)).drew).heap.size := by
  have h9 : w9.heap.size ≤ ((w9.setCell ⟨ge, 2, none⟩ (.int .i64 m2))).heap.size := by simp [World.setCell]
  exact Nat.le_trans hsz9 (Nat.le_trans h9 HXD.out.size)
 clear hHeld e2 f2 HB9 HM9 HN9 HG9 hsz9 HB10 HXD
 generalize (w9.setCell ⟨ge, 2, none⟩ (.int .i64 m2)).drew = w10 at *
 go_upto_region 5 with (fail)
 have HK5 : Hid (∀ w', AnB w' w.heap.size xk wd (some ⟨b, o, none⟩) n c cnt B m e nn → w'.cell? ⟨w.heap.size + 1, 0, none⟩ = some (.int .i64 3) ∧ w'.cell? ⟨w.heap.size + 1, 1, none⟩ = some (.int .i64 0) ∧ w'.cell? ⟨w.heap.size + 1, 2, none⟩ = some (.int .i64 0) ∧ w'.cell? ⟨w.heap.size + 1, 3, none⟩ = some (.int .i64 0) ∧ w'.cell? ⟨w.heap.size + 1, 4, none⟩ = some (.int .i64 0) ∧ w'.cell? ⟨w.heap.size + 1, 5, none⟩ = some (.int .i64 nn) ∧ w'.cell? ⟨w.heap.size + 1, 6, none⟩ = some (.int .i64 0) ∧ w'.cell? ⟨w.heap.size + 1, 7, none⟩ = some (.int .i64 0) ∧ w'.cell? ⟨w.heap.size, 4, none⟩ = some (.slice B m e)) := fun w' h => ⟨h.o.cell 0, h.o.cell 1, h.o.cell 2, h.o.cell 3, h.o.cell 4, h.o.cell 5, h.o.cell 6, h.o.cell 7, h.s.cell 4⟩
 have HMX : Hid (∀ w', Ext w10 w' → AnB w' w.heap.size xk wd (some ⟨b, o, none⟩) n c cnt B m e nn) := fun w' hx => ⟨HM10.out.s.ext hx, HM10.out.o.ext hx⟩
 refine wp_region_held_drew (S := (fun w' => w'.cell? ⟨w.heap.size + 1, 0, none⟩ = some (.int .i64 3) ∧ w'.cell? ⟨w.heap.size + 1, 1, none⟩ = some (.int .i64 0) ∧ w'.cell? ⟨w.heap.size + 1, 2, none⟩ = some (.int .i64 0) ∧ w'.cell? ⟨w.heap.size + 1, 3, none⟩ = some (.int .i64 0) ∧ w'.cell? ⟨w.heap.size + 1, 4, none⟩ = some (.int .i64 0) ∧ w'.cell? ⟨w.heap.size + 1, 5, none⟩ = some (.int .i64 nn) ∧ w'.cell? ⟨w.heap.size + 1, 6, none⟩ = some (.int .i64 0) ∧ w'.cell? ⟨w.heap.size + 1, 7, none⟩ = some (.int .i64 0) ∧ w'.cell? ⟨w.heap.size, 4, none⟩ = some (.slice B m e))) (by kernel_rfl) (HK5.out _ (HMX.out _ (Ext.refl w10).drew)) (fun hHeld => ?_)
 (refine tk 0 (v := ?_) ?_ ?_; rotate_left; · (intro w hSw; (try dsimp only at hSw); go_simp; all_goals with_reducible rfl))
 (try simp only [Act.put, L1, L2, L3, L4, L5, L6])
 (refine tk 2 (v := ?_) ?_ ?_; rotate_left; · (intro w hSw; (try dsimp only at hSw); go_simp; all_goals with_reducible rfl))
 (try simp only [Act.put, L1, L2, L3, L4, L5, L6])
 (refine tk 3 (v := ?_) ?_ ?_; rotate_left; · (intro w hSw; (try dsimp only at hSw); go_simp; all_goals with_reducible rfl))
 (try simp only [Act.put, L1, L2, L3, L4, L5, L6])
 (refine tk 4 (v := ?_) ?_ ?_; rotate_left; · (intro w hSw; (try dsimp only at hSw); go_simp; all_goals with_reducible rfl))
 (try simp only [Act.put, L1, L2, L3, L4, L5, L6])
 refine wpAnyH_ready (rs := [1, 5]) (by kernel_rfl) (by simp) ?_
 refine AllReadyH.cons rfl (fun K hK => ?_) (AllReadyH.cons rfl (fun K hK => ?_) AllReadyH.nil)
 ·skip
  go_simp
  have HXA : Hid (Ext w10 (w10.drew.alloc (.cells #[.int .i64 3, .int .i64 0, .int .i64 0, .int .i64 0, .int .i64 0, .int .i64 nn, .int .i64 0, .int .i64 0] 40))) := ((Ext.refl w10).drew.alloc (.cells #[.int .i64 3, .int .i64 0, .int .i64 0, .int .i64 0, .int .i64 0, .int .i64 nn, .int .i64 0, .int .i64 0] 40))
  have HLA : Hid ((w10.drew.alloc (.cells #[.int .i64 3, .int .i64 0, .int .i64 0, .int .i64 0, .int .i64 0, .int .i64 nn, .int .i64 0, .int .i64 0] 40)).ownsRow (w.heap.size + 1 + 1) 40 8 (.slice (some ⟨w10.heap.size, 0, none⟩) 1 1) 1 (ocells [⟨3, ⟨0, 0, 0, 0⟩, nn, 0, 0⟩])) := own_base (own_lit (Ext.refl w10.drew) w10.heap.size 40 8 1 _ _ rfl (by simp [Oq.cells]) rfl (by omega)) (by have h8 : w10.drew.heap.size = w10.heap.size := rfl; omega)
  refine hK.out _ _ (HK5.out _ (HMX.out _ HXA.out)) (fun hHeld => ?_)
  clear hK K
  (try simp only [Act.put, L1, L2, L3, L4, L5, L6])
  refine wpAnyH_ready (rs := [5]) (by kernel_rfl) (by simp) ?_
  refine AllReadyH.cons rfl (fun K hK => ?_) AllReadyH.nil
  go_simp
  refine (HBODY.out A8 c8 (w10.drew.alloc (.cells #[.int .i64 3, .int .i64 0, .int .i64 0, .int .i64 0, .int .i64 0, .int .i64 nn, .int .i64 0, .int .i64 0] 40)) (gr_ext HG10.out HXA.out) (HE10.out.ext HXA.out)).mono ?_
  rintro e11 w11 ⟨⟨A11, c11, ys, rfl, ho11, hl11⟩, he11, hg11⟩
  have HM11 : Hid (AnB w11 w.heap.size xk wd (some ⟨b, o, none⟩) n c cnt B m e nn) := ⟨(hg11.block _ (HMX.out _ HXA.out).s.lt (fun e => by injection e; omega)).trans (HMX.out _ HXA.out).s, (hg11.block _ (HMX.out _ HXA.out).o.lt (fun e => by injection e; omega)).trans (HMX.out _ HXA.out).o⟩
  obtain ⟨-, _, _, _, _, _, hbz, -⟩ := HE10.out.ext HXA.out
  have HN11 : Hid (Ns w11 An nn) := (HNO.out.ext HXA.out).row hg11 hbz
  have HG11 : Hid (w.grownBy w11 (some ge)) := gr_trans (gr_ext HG10.out HXA.out) hg11
  have hsz11 : w10.heap.size ≤ w11.heap.size := Nat.le_trans (HXA.out).size hg11.size
  obtain ⟨L, hL⟩ : ∃ L, w10.heap.size = L := ⟨_, rfl⟩
  have HOL : Hid (w11.ownsRow (w.heap.size + 1 + 1) 40 8 (.slice (some ⟨L, 0, none⟩) 1 1) 1 (ocells [⟨3, ⟨0, 0, 0, 0⟩, nn, 0, 0⟩])) := by rw [← hL]; exact own_kept HLA.out hg11 (fun g hg => by injection hg; omega)
  have HRY := Lib.hid (Rd.own ho11)
  have HEX := Lib.hid he11
  have HGX := HG11
  have HNX := HN11
  have HMZ := HM11
  try rw [hL]
  clear ho11 he11 hg11 HLA HG11 HN11 HM11 hbz HXA
  refine hK.out _ _ (HK5.out _ HMZ.out) (fun hHeld => ?_)
  clear hK K
  (try simp only [Act.put, L1, L2, L3, L4, L5, L6])
  have hcw : (cutW w11 (w.heap.size + 1 + 1)).heap.size = w.heap.size + 1 + 1 := cutW_size (by omega)
  refine wpAnyH_ready (rs := [6]) (by kernel_rfl) (by simp) ?_
  refine AllReadyH.cons rfl (fun K hK => ?_) AllReadyH.nil
  refine stepOpS (w := w11) (w0 := cutW w11 (w.heap.size + 1 + 1)) rfl _ _ rfl (.slice (some ⟨L, 0, none⟩) 1 1) 1 [⟨3, ⟨0, 0, 0, 0⟩, nn, 0, 0⟩] rfl (by rw [hcw]; exact HOL.out) (cutW_ext (by omega)) A11 ys.length c11 ys rfl HRY.out (by omega) ?_
  intro v12 w12 g1 g2 g3 g4
  rw [hcw] at g1
  obtain ⟨A12, c12, rfl, -⟩ := own_slice g1
  have HE12 : Hid (En w12 ge A8 (nn + 1) c8 (bd + 10 * cC d)) := HEX.out.grown HOL.out g3
  have HG12 : Hid (w.grownBy w12 (some ge)) := gr_new HGX.out g3 (fun q hq => by have := (HOL.out.lt q hq).1; omega)
  have HN12 : Hid (Ns w12 An nn) := HNX.out.rowO HOL.out g3
  have HM12 : Hid (AnB w12 w.heap.size xk wd (some ⟨b, o, none⟩) n c cnt B m e nn) := ⟨(g3.block _ HMZ.out.s.lt (fun e => own_ne HOL.out HMZ.out.s (by decide) e.symm)).trans HMZ.out.s, (g3.block _ HMZ.out.o.lt (fun e => by have := (HOL.out.lt _ e.symm).1; omega)).trans HMZ.out.o⟩
  have HO12 : Hid (w12.ownsRow (w.heap.size + 1 + 1) 40 8 (.slice A12 (1 + ys.length) c12) (1 + ys.length) (ocells ([⟨3, ⟨0, 0, 0, 0⟩, nn, 0, 0⟩] ++ ys))) := g1
  clear g1 g2 g3 g4 hcw HOL HRY HEX HGX HNX HMZ
  refine hK.out _ _ (HK5.out _ HM12.out) (fun hHeld => ?_)
  clear hK K
  (try simp only [Act.put, L1, L2, L3, L4, L5, L6])
  (refine tk 7 (v := ?_) ?_ ?_; rotate_left; · (intro w hSw; (try dsimp only at hSw); go_simp; all_goals with_reducible rfl))
  (try simp only [Act.put, L1, L2, L3, L4, L5, L6])
  (refine wpAnyH_done (by kernel_rfl) ?_ _)
  clear hHeld HK5 HMX HM10 HE10 HG10 HNO
  obtain ⟨z1, Ab', nb', cb', mo', lg', z2, z3, z4, z5⟩ := HE12.out
  have y0 : w12.cell? ⟨ge, 0, none⟩ = some (.slice A8 (nn + 1) c8) := z2.cell 0
  have f0 := z2.frozen 0
  have hgl12 := z2.lt
  have HBZ := Lib.hid z2
  have HNB' := Lib.hid z5
  clear HE12 z1 z2 z5
  go_upto_region 7 with (fail)
  have HB13 : Hid (Blk (w12.setCell ⟨ge, 0, none⟩ (.slice An nn cn)) ge 77 #[.slice An nn cn, .slice Ab' nb' cb', .int .i64 mo', .bool lg']) := HBZ.out.set_ 0 _
  have HE13 : Hid (En (w12.setCell ⟨ge, 0, none⟩ (.slice An nn cn)) ge An nn cn (bd + 10 * cC d)) := ⟨HN12.out.set_ HBZ.out 0 _, Ab', nb', cb', mo', lg', HB13.out, z3, z4, HNB'.out.set_ HBZ.out 0 _⟩
  have HG13 : Hid (w.grownBy (w12.setCell ⟨ge, 0, none⟩ (.slice An nn cn)) (some ge)) := gr_setCell HG12.out 0 _
  have HM13 : Hid (AnB (w12.setCell ⟨ge, 0, none⟩ (.slice An nn cn)) w.heap.size xk wd (some ⟨b, o, none⟩) n c cnt B m e nn) := ⟨HM12.out.s.far (p := ⟨ge, 0, none⟩) (by show w.heap.size ≠ ge; omega) _, HM12.out.o.far (p := ⟨ge, 0, none⟩) (by show w.heap.size + 1 ≠ ge; omega) _⟩
  have HO13 := Lib.hid (own_far HO12.out HBZ.out (by decide) 0 (.slice An nn cn))
  clear y0 f0 HBZ HNB' HB13 HG12 HM12 HO12 HN12 hgl12
  generalize w12.setCell ⟨ge, 0, none⟩ (.slice An nn cn) = w13 at *
  obtain ⟨o0, o1, o2, o3, o4, o5, o6, o7, -⟩ : w13.cell? ⟨w.heap.size + 1, 0, none⟩ = some (.int .i64 3) ∧ w13.cell? ⟨w.heap.size + 1, 1, none⟩ = some (.int .i64 0) ∧ w13.cell? ⟨w.heap.size + 1, 2, none⟩ = some (.int .i64 0) ∧ w13.cell? ⟨w.heap.size + 1, 3, none⟩ = some (.int .i64 0) ∧ w13.cell? ⟨w.heap.size + 1, 4, none⟩ = some (.int .i64 0) ∧ w13.cell? ⟨w.heap.size + 1, 5, none⟩ = some (.int .i64 nn) ∧ w13.cell? ⟨w.heap.size + 1, 6, none⟩ = some (.int .i64 0) ∧ w13.cell? ⟨w.heap.size + 1, 7, none⟩ = some (.int .i64 0) ∧ w13.cell? ⟨w.heap.size, 4, none⟩ = some (.slice B m e) := ⟨HM13.out.o.cell 0, HM13.out.o.cell 1, HM13.out.o.cell 2, HM13.out.o.cell 3, HM13.out.o.cell 4, HM13.out.o.cell 5, HM13.out.o.cell 6, HM13.out.o.cell 7, HM13.out.s.cell 4⟩
  have hsz13 := HM13.out.o.lt
  have hcx : (cutW (w13.alloc (.cells #[.int .i64 3, .int .i64 0, .int .i64 0, .int .i64 0, .int .i64 0, .int .i64 nn, .int .i64 0, .int .i64 0] 40)) (w.heap.size + 1 + 1)).heap.size = w.heap.size + 1 + 1 := cutW_size (by have := ((Ext.refl w13).alloc (.cells #[.int .i64 3, .int .i64 0, .int .i64 0, .int .i64 0, .int .i64 0, .int .i64 nn, .int .i64 0, .int .i64 0] 40)).size; omega)
  go_wp2_with (at_builtin; refine appOpS (w := w13.alloc (.cells #[.int .i64 3, .int .i64 0, .int .i64 0, .int .i64 0, .int .i64 0, .int .i64 nn, .int .i64 0, .int .i64 0] 40)) (w0 := cutW (w13.alloc (.cells #[.int .i64 3, .int .i64 0, .int .i64 0, .int .i64 0, .int .i64 0, .int .i64 nn, .int .i64 0, .int .i64 0] 40)) (w.heap.size + 1 + 1)) rfl _ _ rfl _ (1 + ys.length) ([⟨3, ⟨0, 0, 0, 0⟩, nn, 0, 0⟩] ++ ys) rfl (by rw [hcx]; exact own_ext HO13.out ((Ext.refl w13).alloc _)) (cutW_ext (by have := ((Ext.refl w13).alloc (.cells #[.int .i64 3, .int .i64 0, .int .i64 0, .int .i64 0, .int .i64 0, .int .i64 nn, .int .i64 0, .int .i64 0] 40)).size; omega)) _ 1 1 [⟨3, ⟨0, 0, 0, 0⟩, nn, 0, 0⟩] rfl (rd_new _ _ _ 8 _ (by simp [Oq.cells]) (by simp [Oq.cells])) (by omega) ?_; intro v14 w14 k1 k2 k3 k4; rw [hcx] at k1; obtain ⟨A14, c14, rfl, -⟩ := own_slice k1)
  have HE14 := Lib.hid ((HE13.out.ext ((Ext.refl w13).alloc (.cells #[.int .i64 3, .int .i64 0, .int .i64 0, .int .i64 0, .int .i64 0, .int .i64 nn, .int .i64 0, .int .i64 0] 40))).grown (own_ext HO13.out ((Ext.refl w13).alloc _)) k3)
  have HG14 : Hid (w.grownBy w14 (some ge)) := gr_new (gr_ext HG13.out ((Ext.refl w13).alloc (.cells #[.int .i64 3, .int .i64 0, .int .i64 0, .int .i64 0, .int .i64 0, .int .i64 nn, .int .i64 0, .int .i64 0] 40))) k3 (fun q hq => by have := (HO13.out.lt q hq).1; omega)
  have hlen : (([⟨3, ⟨0, 0, 0, 0⟩, nn, 0, 0⟩] ++ ys) ++ [⟨3, ⟨0, 0, 0, 0⟩, nn, 0, 0⟩] : List Oq).length = 1 + ys.length + 1 := by simp; omega
  go_ret
  refine ⟨⟨A14, c14, ([⟨3, ⟨0, 0, 0, 0⟩, nn, 0, 0⟩] ++ ys) ++ [⟨3, ⟨0, 0, 0, 0⟩, nn, 0, 0⟩], by rw [hlen]; rfl, ?_, by rw [hlen]; omega⟩, HE14.out, HG14.out⟩
  rw [hlen]
  exact own_base k1 (by omega)
 ·skip
  go_simp
  have HXA : Hid (Ext w10 w10.drew) := (Ext.refl w10).drew
  refine (HBODY.out A8 c8 w10.drew (gr_ext HG10.out HXA.out) (HE10.out.ext HXA.out)).mono ?_
  rintro e11 w11 ⟨⟨A11, c11, ys, rfl, ho11, hl11⟩, he11, hg11⟩
  have HM11 : Hid (AnB w11 w.heap.size xk wd (some ⟨b, o, none⟩) n c cnt B m e nn) := ⟨(hg11.block _ (HMX.out _ HXA.out).s.lt (fun e => by injection e; omega)).trans (HMX.out _ HXA.out).s, (hg11.block _ (HMX.out _ HXA.out).o.lt (fun e => by injection e; omega)).trans (HMX.out _ HXA.out).o⟩
  obtain ⟨-, _, _, _, _, _, hbz, -⟩ := HE10.out.ext HXA.out
  have HN11 : Hid (Ns w11 An nn) := (HNO.out.ext HXA.out).row hg11 hbz
  have HG11 : Hid (w.grownBy w11 (some ge)) := gr_trans (gr_ext HG10.out HXA.out) hg11
  have hsz11 : w10.heap.size ≤ w11.heap.size := Nat.le_trans (HXA.out).size hg11.size
  refine hK.out _ _ (HK5.out _ HM11.out) (fun hHeld => ?_)
  clear hK K
  (try simp only [Act.put, L1, L2, L3, L4, L5, L6])
  refine wpAnyH_ready (rs := [1]) (by kernel_rfl) (by simp) ?_
  refine AllReadyH.cons rfl (fun K hK => ?_) AllReadyH.nil
  go_simp
  obtain ⟨L, hL⟩ : ∃ L, w11.heap.size = L := ⟨_, rfl⟩
  have HXB : Hid (Ext w11 (w11.alloc (.cells #[.int .i64 3, .int .i64 0, .int .i64 0, .int .i64 0, .int .i64 0, .int .i64 nn, .int .i64 0, .int .i64 0] 40))) := (Ext.refl w11).alloc _
  have HOL : Hid ((w11.alloc (.cells #[.int .i64 3, .int .i64 0, .int .i64 0, .int .i64 0, .int .i64 0, .int .i64 nn, .int .i64 0, .int .i64 0] 40)).ownsRow (w.heap.size + 1 + 1) 40 8 (.slice (some ⟨L, 0, none⟩) 1 1) 1 (ocells [⟨3, ⟨0, 0, 0, 0⟩, nn, 0, 0⟩])) := by rw [← hL]; exact own_base (own_lit (Ext.refl w11) w11.heap.size 40 8 1 _ _ rfl (by simp [Oq.cells]) rfl (by omega)) (by omega)
  have HRY := Lib.hid ((Rd.own ho11).ext HXB.out)
  have HEX := Lib.hid (he11.ext HXB.out)
  have HGX := Lib.hid (gr_ext HG11.out HXB.out)
  have HNX := Lib.hid (HN11.out.ext HXB.out)
  have HMZ : Hid (AnB (w11.alloc (.cells #[.int .i64 3, .int .i64 0, .int .i64 0, .int .i64 0, .int .i64 0, .int .i64 nn, .int .i64 0, .int .i64 0] 40)) w.heap.size xk wd (some ⟨b, o, none⟩) n c cnt B m e nn) := ⟨HM11.out.s.ext HXB.out, HM11.out.o.ext HXB.out⟩
  try rw [hL]
  clear ho11 he11 hg11 HG11 HN11 HM11 hbz HXA
  refine hK.out _ _ (HK5.out _ HMZ.out) (fun hHeld => ?_)
  clear hK K
  (try simp only [Act.put, L1, L2, L3, L4, L5, L6])
  have hszB := HXB.out.size
  have hcw : (cutW (w11.alloc (.cells #[.int .i64 3, .int .i64 0, .int .i64 0, .int .i64 0, .int .i64 0, .int .i64 nn, .int .i64 0, .int .i64 0] 40)) (w.heap.size + 1 + 1)).heap.size = w.heap.size + 1 + 1 := cutW_size (by omega)
  refine wpAnyH_ready (rs := [6]) (by kernel_rfl) (by simp) ?_
  refine AllReadyH.cons rfl (fun K hK => ?_) AllReadyH.nil
  refine stepOpS (w := (w11.alloc (.cells #[.int .i64 3, .int .i64 0, .int .i64 0, .int .i64 0, .int .i64 0, .int .i64 nn, .int .i64 0, .int .i64 0] 40))) (w0 := cutW (w11.alloc (.cells #[.int .i64 3, .int .i64 0, .int .i64 0, .int .i64 0, .int .i64 0, .int .i64 nn, .int .i64 0, .int .i64 0] 40)) (w.heap.size + 1 + 1)) rfl _ _ rfl (.slice (some ⟨L, 0, none⟩) 1 1) 1 [⟨3, ⟨0, 0, 0, 0⟩, nn, 0, 0⟩] rfl (by rw [hcw]; exact HOL.out) (cutW_ext (by omega)) A11 ys.length c11 ys rfl HRY.out (by omega) ?_
  intro v12 w12 g1 g2 g3 g4
  rw [hcw] at g1
  obtain ⟨A12, c12, rfl, -⟩ := own_slice g1
  have HE12 : Hid (En w12 ge A8 (nn + 1) c8 (bd + 10 * cC d)) := HEX.out.grown HOL.out g3
  have HG12 : Hid (w.grownBy w12 (some ge)) := gr_new HGX.out g3 (fun q hq => by have := (HOL.out.lt q hq).1; omega)
  have HN12 : Hid (Ns w12 An nn) := HNX.out.rowO HOL.out g3
  have HM12 : Hid (AnB w12 w.heap.size xk wd (some ⟨b, o, none⟩) n c cnt B m e nn) := ⟨(g3.block _ HMZ.out.s.lt (fun e => own_ne HOL.out HMZ.out.s (by decide) e.symm)).trans HMZ.out.s, (g3.block _ HMZ.out.o.lt (fun e => by have := (HOL.out.lt _ e.symm).1; omega)).trans HMZ.out.o⟩
  have HO12 : Hid (w12.ownsRow (w.heap.size + 1 + 1) 40 8 (.slice A12 (1 + ys.length) c12) (1 + ys.length) (ocells ([⟨3, ⟨0, 0, 0, 0⟩, nn, 0, 0⟩] ++ ys))) := g1
  clear g1 g2 g3 g4 hcw HOL HRY HEX HGX HNX HMZ
  refine hK.out _ _ (HK5.out _ HM12.out) (fun hHeld => ?_)
  clear hK K
  (try simp only [Act.put, L1, L2, L3, L4, L5, L6])
  (refine tk 7 (v := ?_) ?_ ?_; rotate_left; · (intro w hSw; (try dsimp only at hSw); go_simp; all_goals with_reducible rfl))
  (try simp only [Act.put, L1, L2, L3, L4, L5, L6])
  (refine wpAnyH_done (by kernel_rfl) ?_ _)
  clear hHeld HK5 HMX HM10 HE10 HG10 HNO
  obtain ⟨z1, Ab', nb', cb', mo', lg', z2, z3, z4, z5⟩ := HE12.out
  have y0 : w12.cell? ⟨ge, 0, none⟩ = some (.slice A8 (nn + 1) c8) := z2.cell 0
  have f0 := z2.frozen 0
  have hgl12 := z2.lt
  have HBZ := Lib.hid z2
  have HNB' := Lib.hid z5
  clear HE12 z1 z2 z5
  go_upto_region 7 with (fail)
  have HB13 : Hid (Blk (w12.setCell ⟨ge, 0, none⟩ (.slice An nn cn)) ge 77 #[.slice An nn cn, .slice Ab' nb' cb', .int .i64 mo', .bool lg']) := HBZ.out.set_ 0 _
  have HE13 : Hid (En (w12.setCell ⟨ge, 0, none⟩ (.slice An nn cn)) ge An nn cn (bd + 10 * cC d)) := ⟨HN12.out.set_ HBZ.out 0 _, Ab', nb', cb', mo', lg', HB13.out, z3, z4, HNB'.out.set_ HBZ.out 0 _⟩
  have HG13 : Hid (w.grownBy (w12.setCell ⟨ge, 0, none⟩ (.slice An nn cn)) (some ge)) := gr_setCell HG12.out 0 _
  have HM13 : Hid (AnB (w12.setCell ⟨ge, 0, none⟩ (.slice An nn cn)) w.heap.size xk wd (some ⟨b, o, none⟩) n c cnt B m e nn) := ⟨HM12.out.s.far (p := ⟨ge, 0, none⟩) (by show w.heap.size ≠ ge; omega) _, HM12.out.o.far (p := ⟨ge, 0, none⟩) (by show w.heap.size + 1 ≠ ge; omega) _⟩
  have HO13 := Lib.hid (own_far HO12.out HBZ.out (by decide) 0 (.slice An nn cn))
  clear y0 f0 HBZ HNB' HB13 HG12 HM12 HO12 HN12 hgl12
  generalize w12.setCell ⟨ge, 0, none⟩ (.slice An nn cn) = w13 at *
  obtain ⟨o0, o1, o2, o3, o4, o5, o6, o7, -⟩ : w13.cell? ⟨w.heap.size + 1, 0, none⟩ = some (.int .i64 3) ∧ w13.cell? ⟨w.heap.size + 1, 1, none⟩ = some (.int .i64 0) ∧ w13.cell? ⟨w.heap.size + 1, 2, none⟩ = some (.int .i64 0) ∧ w13.cell? ⟨w.heap.size + 1, 3, none⟩ = some (.int .i64 0) ∧ w13.cell? ⟨w.heap.size + 1, 4, none⟩ = some (.int .i64 0) ∧ w13.cell? ⟨w.heap.size + 1, 5, none⟩ = some (.int .i64 nn) ∧ w13.cell? ⟨w.heap.size + 1, 6, none⟩ = some (.int .i64 0) ∧ w13.cell? ⟨w.heap.size + 1, 7, none⟩ = some (.int .i64 0) ∧ w13.cell? ⟨w.heap.size, 4, none⟩ = some (.slice B m e) := ⟨HM13.out.o.cell 0, HM13.out.o.cell 1, HM13.out.o.cell 2, HM13.out.o.cell 3, HM13.out.o.cell 4, HM13.out.o.cell 5, HM13.out.o.cell 6, HM13.out.o.cell 7, HM13.out.s.cell 4⟩
  have hsz13 := HM13.out.o.lt
  have hcx : (cutW (w13.alloc (.cells #[.int .i64 3, .int .i64 0, .int .i64 0, .int .i64 0, .int .i64 0, .int .i64 nn, .int .i64 0, .int .i64 0] 40)) (w.heap.size + 1 + 1)).heap.size = w.heap.size + 1 + 1 := cutW_size (by have := ((Ext.refl w13).alloc (.cells #[.int .i64 3, .int .i64 0, .int .i64 0, .int .i64 0, .int .i64 0, .int .i64 nn, .int .i64 0, .int .i64 0] 40)).size; omega)
  go_wp2_with (at_builtin; refine appOpS (w := w13.alloc (.cells #[.int .i64 3, .int .i64 0, .int .i64 0, .int .i64 0, .int .i64 0, .int .i64 nn, .int .i64 0, .int .i64 0] 40)) (w0 := cutW (w13.alloc (.cells #[.int .i64 3, .int .i64 0, .int .i64 0, .int .i64 0, .int .i64 0, .int .i64 nn, .int .i64 0, .int .i64 0] 40)) (w.heap.size + 1 + 1)) rfl _ _ rfl _ (1 + ys.length) ([⟨3, ⟨0, 0, 0, 0⟩, nn, 0, 0⟩] ++ ys) rfl (by rw [hcx]; exact own_ext HO13.out ((Ext.refl w13).alloc _)) (cutW_ext (by have := ((Ext.refl w13).alloc (.cells #[.int .i64 3, .int .i64 0, .int .i64 0, .int .i64 0, .int .i64 0, .int .i64 nn, .int .i64 0, .int .i64 0] 40)).size; omega)) _ 1 1 [⟨3, ⟨0, 0, 0, 0⟩, nn, 0, 0⟩] rfl (rd_new _ _ _ 8 _ (by simp [Oq.cells]) (by simp [Oq.cells])) (by omega) ?_; intro v14 w14 k1 k2 k3 k4; rw [hcx] at k1; obtain ⟨A14, c14, rfl, -⟩ := own_slice k1)
  have HE14 := Lib.hid ((HE13.out.ext ((Ext.refl w13).alloc (.cells #[.int .i64 3, .int .i64 0, .int .i64 0, .int .i64 0, .int .i64 0, .int .i64 nn, .int .i64 0, .int .i64 0] 40))).grown (own_ext HO13.out ((Ext.refl w13).alloc _)) k3)
  have HG14 : Hid (w.grownBy w14 (some ge)) := gr_new (gr_ext HG13.out ((Ext.refl w13).alloc (.cells #[.int .i64 3, .int .i64 0, .int .i64 0, .int .i64 0, .int .i64 0, .int .i64 nn, .int .i64 0, .int .i64 0] 40))) k3 (fun q hq => by have := (HO13.out.lt q hq).1; omega)
  have hlen : (([⟨3, ⟨0, 0, 0, 0⟩, nn, 0, 0⟩] ++ ys) ++ [⟨3, ⟨0, 0, 0, 0⟩, nn, 0, 0⟩] : List Oq).length = 1 + ys.length + 1 := by simp; omega
  go_ret
  refine ⟨⟨A14, c14, ([⟨3, ⟨0, 0, 0, 0⟩, nn, 0, 0⟩] ++ ys) ++ [⟨3, ⟨0, 0, 0, 0⟩, nn, 0, 0⟩], by rw [hlen]; rfl, ?_, by rw [hlen]; omega⟩, HE14.out, HG14.out⟩
  rw [hlen]
  exact own_base k1 (by omega)
end Go.Proofs.YtdjckjfclhjpcaaGreat
/-
 Helper text (no claim of its own): drawn statements: names that are free, and gates. Printed by gen_drq.py.
-/
namespace Go.Proofs.YtdjckjfclhjpcaaGreat
open Go.ChangeShapes Go.WideShapes Go.ChangeAt Go.RowKit Go.Deep
set_option linter.unusedVariables false
set_option linter.unusedSimpArgs false
theorem Ns.cur {w w' : World} {A : Option Addr} {n g : Nat} (h : Ns w A n) (hc : Cur w g) (hg : w.grownBy w' (some g)) : Ns w' A n := by
 obtain ⟨_, _, _, _, _, _, hB, _⟩ := hc
 exact h.keep fun b ds hd => hg.block b hd.lt (fun e => blk_ne hd hB (by decide) (by injection e))
set_option maxRecDepth 100000 in
set_option maxHeartbeats 4000000 in
theorem l17Free_any (A B : Option Addr) (n c m e : Nat) (w : World) (h : Ns w A n) (h' : Ns w B m) (hn : n ≤ 1000) (hm : m ≤ 1000) :
  Calls Tryz.prog 51 #[.slice A n c, .slice B m e] w fun e w' => (∃ (A' : Option Addr) (k c' : Nat) (xs : List ByteArray), e = .returned (.slice A' k c') ∧ w'.ownsRow w.heap.size 9 1 (.slice A' k c') k (tcells xs) ∧ k ≤ n ∧ ∀ y ∈ xs, y.size ≤ 1000) ∧ Ext w w' := by
 obtain ⟨xs, hxs, hr⟩ := h.rd
 obtain ⟨zs, -, hr'⟩ := h'.rd
 have HR := Lib.hid hr
 have HR' := Lib.hid hr'
 have HXS := Lib.hid hxs
 clear hr hr' hxs h h'
 go_enter Tryz.func51, Tryz.ntmps51
 go_wp2
 go_loopw [5, 6] (fun v i wr => ∃ (k j : Nat) (ys : List ByteArray), k ≤ n ∧ i = .int .i64 k ∧ j ≤ k ∧ Hid (∀ y ∈ ys, y.size ≤ 1000) ∧ wr.ownsRow w.heap.size 9 1 v j (tcells ys) ∧ Ext w wr) (fun _ i _ => n - (intOf i).toNat)
 case atStart => exact ⟨0, 0, [], Nat.zero_le _, rfl, Nat.le_refl _, Lib.hid (by simp), own_empty w w _ 1 (Ext.refl _), xx⟩
 case round =>
  obtain ⟨k, j, ys, hk, rfl, hj, HY, hown, hx⟩ := hrel
  by_cases hlt : k < n
  ·obtain ⟨b, o, y, rfl, hb, hy, r0⟩ := str_at (HR.out.ext hx) hlt
   have HYM := Lib.hid (HXS.out y (List.mem_of_getElem? hy))
   clear hy
   go_wp2_with fail
   refine (l1Has_any B m e zs y _ (HR'.out.ext hx) (by omega)).mono ?_
   rintro e1 w1 ⟨⟨b1, rfl⟩, rfl⟩
   cases b1
   ·go_wp2_with (at_builtin; refine appStr (w0 := w) rfl _ _ rfl _ j ys rfl hown hx y _ _ rfl rfl (by omega) ?_; intro v1 w1 g1 g2 g3 g4)
    go_roundw
    case rel => exact ⟨k + 1, j + 1, ys ++ [y], by omega, by go_num, by omega, Lib.hid (fun u hu => by
     rcases List.mem_append.1 hu with hu | hu
     ·exact HY.out u hu
     ·obtain rfl := List.mem_singleton.1 hu; exact HYM.out), g1, g2⟩
    case measure => simp [intOf]; omega
   ·go_wp2
    go_roundw
    case rel => exact ⟨k + 1, j, ys, by omega, by go_num, by omega, HY, hown, hx⟩
    case measure => simp [intOf]; omega
  ·obtain ⟨A1, c1, rfl, -⟩ := own_slice hown
   go_wp2
   go_ret
   exact ⟨⟨A1, j, c1, ys, rfl, hown, by omega, HY.out⟩, hx⟩
/-- A drawn gate statement is returned. -/
def RGt (w : World) (g : Nat) (e : Ending) (w' : World) : Prop := ∃ (wd : ByteArray) (A : Option Addr) (n c : Nat) (xs : List ByteArray), e = .returned (.agg #[.int .i64 1, .string wd, .slice A n c, .int .i64 0, .slice none 0 0]) ∧ (1 ≤ n ∧ n ≤ 3 ∧ n ≤ c) ∧ wd.size ≤ 1000 ∧ w'.ownsRow w.heap.size 9 1 (.slice A n c) n (tcells xs) ∧ (∀ y ∈ xs, y.size ≤ 1000) ∧ Cur w' g ∧ w.grownBy w' (some g)
theorem c5s {w : World} {g t : Nat} {a b c d e : Value} (h : Blk w g t #[a, b, c, d, e]) : (w.cell? ⟨g, 0, none⟩ = some a ∧ w.cell? ⟨g, 1, none⟩ = some b ∧ w.cell? ⟨g, 2, none⟩ = some c ∧ w.cell? ⟨g, 3, none⟩ = some d ∧ w.cell? ⟨g, 4, none⟩ = some e) ∧ w.frozen? ⟨g, 0, none⟩ = false ∧ w.frozen? ⟨g, 1, none⟩ = false ∧ w.frozen? ⟨g, 2, none⟩ = false ∧ w.frozen? ⟨g, 3, none⟩ = false ∧ w.frozen? ⟨g, 4, none⟩ = false :=
 ⟨⟨h.cell 0, h.cell 1, h.cell 2, h.cell 3, h.cell 4⟩, h.frozen 0, h.frozen 1, h.frozen 2, h.frozen 3, h.frozen 4⟩
theorem own_capN {w : World} {B e s n c : Nat} {A : Option Addr} {xs : List Value} (h : w.ownsRow B e s (.slice A n c) n xs) : n ≤ c := by
 rcases h.2 with ⟨_, h0⟩ | ⟨g, cap, cur, hv, _, _, hnc, _⟩
 ·omega
 ·injection hv with _ _ h3; omega
theorem PRow.blk {w : World} {b cap n : Nat} (h : PRow w b cap n) : ∃ cs, Blk w b 3 cs := by
 obtain ⟨⟨_, _, cur, hc, _⟩, _⟩ := h
 exact ⟨cur, hc⟩
theorem Tryz.sizeStmt : (Tryz.prog.info? 69).map (·.size) = some 5 := by kernel_rfl
/-- What stands in memory while the names of a gate are drawn. -/
structure LG (w W : World) (g gb sb bp cp nn : Nat) (x : Gt) (wd : ByteArray) (A : Option Addr) (k c : Nat) (xs : List ByteArray) : Prop where
 cur : Cur W g
 gr : w.grownBy W (some g)
 pr : PRow W bp cp nn
 gt : Blk W gb 38 #[.int .i64 x.k, .int .i64 x.a, .int .i64 x.b, .int .i64 x.c]
 st : Blk W sb 69 #[.int .i64 1, .string wd, .slice A k c, .int .i64 0, .slice none 0 0]
 z : Blk W w.heap.size 69 #[.int .i64 0, .string ⟨#[]⟩, .slice none 0 0, .int .i64 0, .slice none 0 0]
 row : W.ownsRow w.heap.size 9 1 (.slice A k c) k (tcells xs)
 sz : ∀ y ∈ xs, y.size ≤ 1000
 lt : w.heap.size < gb ∧ gb < sb ∧ w.heap.size < bp ∧ bp < sb
set_option maxRecDepth 100000 in
set_option maxHeartbeats 16000000 in
theorem l17Gate_any (g : Nat) (An : Option Addr) (nn cn : Nat) (w : World) (h : Cur w g) (hN : Ns w An nn) (hnn : 1 ≤ nn ∧ nn ≤ 4) :
  Calls Tryz.prog 33 #[.pointer (some ⟨g, 0, none⟩), .slice An nn cn] w (RGt w g) := by
 have hgl := h.lt
 have HN := Lib.hid hN
 have HNW : Hid (∀ b o, An = some ⟨b, o, none⟩ → b < w.heap.size) := fun b o hA => by
  obtain ⟨xs, _, hr⟩ := hN.rd
  obtain ⟨b', o', e', hb', _⟩ := hr.2 (by omega)
  rw [hA] at e'
  injection e' with e'
  injection e' with e1 _
  omega
 have hmin : (1 : Int) ≤ (if (3 : Int) < (nn : Int) then 3 else (nn : Int)) ∧ (if (3 : Int) < (nn : Int) then 3 else (nn : Int)) ≤ 3 := by split <;> omega
 obtain ⟨m3, hm3⟩ : ∃ m3 : Nat, (if (3 : Int) < (nn : Int) then 3 else (nn : Int)) = m3 := ⟨_, (Int.toNat_of_nonneg (by omega)).symm⟩
 have hmi : (m3 : Int) ≤ nn := by rw [← hm3]; split <;> omega
 have hmn : m3 ≤ nn := by omega
 rw [hm3] at hmin
 clear hN
 go_enter Tryz.func33, Tryz.ntmps33
 go_wp2_with fail
 refine (l1Min_any _ _ _).mono ?_
 rintro e w1 ⟨rfl, rfl⟩
 rw [hm3]
 go_wp2_with fail
 refine (l9Gate_kind g m3 (by omega) _ (h.alloc _)).mono ?_
 rintro e w2 ⟨x, rfl, har, hC2, hG2⟩
 have HN2 := Lib.hid ((HN.out.ext ((Ext.refl w).alloc _)).cur (h.alloc (.cells #[.int .i64 0, .string ⟨#[]⟩, .slice none 0 0, .int .i64 0, .slice none 0 0] 69)) hG2)
 have HZ2 : Hid (Blk w2 w.heap.size 69 #[.int .i64 0, .string ⟨#[]⟩, .slice none 0 0, .int .i64 0, .slice none 0 0]) := (Blk.new w 69 #[.int .i64 0, .string ⟨#[]⟩, .slice none 0 0, .int .i64 0, .slice none 0 0]).grown hG2 (fun k hk => by injection hk; omega)
 have HG2 : Hid (w.grownBy w2 (some g)) := gr_trans (((Ext.refl w).alloc _).gr _) hG2
 have HB2 : Hid (Blk (w2.alloc (.cells #[.int .i64 x.k, .int .i64 x.a, .int .i64 x.b, .int .i64 x.c] 38)) w2.heap.size 38 #[.int .i64 x.k, .int .i64 x.a, .int .i64 x.b, .int .i64 x.c]) := Blk.new _ _ _
 have hz2 := HZ2.out.lt
 clear hG2
 go_wp2_with fail
 refine (l8Perm_rng g nn hnn _ (hC2.alloc _)).mono ?_
 rintro e w3 ⟨bp, cp, rfl, hbp, hP3, hC3, hG3⟩
 have hsz3 := hG3.size
 simp at hbp hsz3
 have HN3 := Lib.hid ((HN2.out.ext ((Ext.refl w2).alloc (.cells #[.int .i64 x.k, .int .i64 x.a, .int .i64 x.b, .int .i64 x.c] 38))).cur (hC2.alloc (.cells #[.int .i64 x.k, .int .i64 x.a, .int .i64 x.b, .int .i64 x.c] 38)) hG3)
 have HZ3 : Hid (Blk w3 w.heap.size 69 #[.int .i64 0, .string ⟨#[]⟩, .slice none 0 0, .int .i64 0, .slice none 0 0]) := (HZ2.out.alloc _).grown hG3 (fun k hk => by injection hk; omega)
 have HB3 := Lib.hid (HB2.out.grown hG3 (fun k hk => by injection hk; omega))
 have HGW : Hid (w.grownBy w3 (some g)) := gr_trans (gr_alloc HG2.out _) hG3
 have HP3 := Lib.hid hP3
 obtain ⟨gb, hgb⟩ : ∃ gb, w2.heap.size = gb := ⟨_, rfl⟩
 rw [hgb] at HB3 hbp hsz3 hz2 ⊢
 have b0 : w3.cell? ⟨gb, 0, none⟩ = some (.int .i64 x.k) := HB3.out.cell 0
 have hgw : g < w.heap.size := hgl
 clear hG3 HB2 HZ2 HG2 HN2 hC2 hP3 hgb
 go_wp2_with fail
 refine (spec_GateName_any x.k _).mono ?_
 rintro e w4 ⟨rfl, hx4⟩
 obtain ⟨wd, hwd⟩ : ∃ wd, gnm x.k = wd := ⟨_, rfl⟩
 have HWD : Hid (wd.size ≤ 1000) := by rw [← hwd]; exact Nat.le_trans (gnm_size x.k) (by omega)
 rw [hwd]
 have hsz4 := hx4.size
 have hpl := HP3.out.lt
 have HL4 : Hid (LG w (w4.alloc (.cells #[.int .i64 1, .string wd, .slice none 0 0, .int .i64 0, .slice none 0 0] 69)) g gb w4.heap.size bp cp nn x wd none 0 0 []) :=
  ⟨(hC3.ext hx4).alloc _, gr_alloc (gr_ext HGW.out hx4) _, (HP3.out.grown (hx4.gr none) (by simp)).grown (((Ext.refl w4).alloc _).gr none) (by simp), (HB3.out.ext hx4).alloc _, Blk.new _ _ _, (HZ3.out.ext hx4).alloc _, ⟨rfl, .inl ⟨rfl, rfl⟩⟩, by simp, by omega⟩
 have HN4 : Hid (Ns (w4.alloc (.cells #[.int .i64 1, .string wd, .slice none 0 0, .int .i64 0, .slice none 0 0] 69)) An nn) := (HN3.out.ext hx4).ext ((Ext.refl w4).alloc _)
 clear HN3 HZ3 HB3 HGW HP3 b0 hC3 hx4
 obtain ⟨a, ha⟩ : ∃ a : Nat, ar x.k = a := ⟨_, (Int.toNat_of_nonneg (by omega)).symm⟩
 have hax : 1 ≤ a ∧ a ≤ 3 ∧ a ≤ nn := by omega
 go_wp2
 go_loopw [8] (fun i wr => ∃ (k : Nat) (A' : Option Addr) (c' : Nat) (xs : List ByteArray), k ≤ a ∧ i = .int .i64 k ∧ Hid (LG w wr g gb w4.heap.size bp cp nn x wd A' k c' xs) ∧ Hid (Ns wr An nn)) (fun i _ => a - (intOf i).toNat)
 case atStart => exact ⟨0, none, 0, [], Nat.zero_le _, rfl, HL4, HN4⟩
 case round =>
  clear HL4 HN4
  obtain ⟨k, A', c', xs, hk, rfl, HL, HNR⟩ := hrel
  have hsl := HL.out.lt
  generalize w4.heap.size = sb at *
  have b0 : wr.cell? ⟨gb, 0, none⟩ = some (.int .i64 x.k) := HL.out.gt.cell 0
  go_wp2_with fail
  refine (spec_Arity_any _ _).mono ?_
  rintro e w5 ⟨rfl, rfl⟩
  rw [ha]
  by_cases hlt : k < a
  ·obtain ⟨y, hy, hyn⟩ := HL.out.pr.2 k (by omega)
   obtain ⟨ns, hns, hnr⟩ := HNR.out.rd
   obtain ⟨bn, on, s, rfl, hbn, hsm, hs⟩ := str_at hnr hyn
   have HSZ := Lib.hid (hns s (List.mem_of_getElem? hsm))
   have hbw : bn < w.heap.size := HNW.out bn on rfl
   have hbpl := HL.out.pr.lt
   clear hns hsm hnr b0
   have hkn : (k : Int) < (nn : Int) := by omega
   have hyi : (y : Int) < (nn : Int) := by omega
   have hk0 : (0 : Int) ≤ (k : Int) := by omega
   have hy0 : (0 : Int) ≤ (y : Int) := by omega
   have HK : Hid (∀ w', Ext wr w' → w'.cell? ⟨bp, k, none⟩ = some (.int .i64 y) ∧ w'.cell? ⟨bn, on + y, none⟩ = some (.string s)) := fun w' hx => ⟨(hx.cell (p := ⟨bp, k, none⟩) hbpl).trans hy, (hx.cell (p := ⟨bn, on + y, none⟩) hbn).trans hs⟩
   go_upto_region 7 with (fail)
   refine wp_region_held_drew (S := (fun w' => w'.cell? ⟨bp, k, none⟩ = some (.int .i64 y) ∧ w'.cell? ⟨bn, on + y, none⟩ = some (.string s))) (by kernel_rfl) (HK.out _ (Ext.refl wr).drew) (fun hHeld => ?_)
   (refine tk 0 (v := ?_) ?_ ?_; rotate_left; · (intro w hSw; (try dsimp only at hSw); go_simp; all_goals with_reducible rfl))
   (try simp only [Act.put, L1, L2, L3, L4, L5, L6])
   (refine tk 2 (v := ?_) ?_ ?_; rotate_left; · (intro w hSw; (try dsimp only at hSw); go_simp; all_goals with_reducible rfl))
   (try simp only [Act.put, L1, L2, L3, L4, L5, L6])
   (refine tk 3 (v := ?_) ?_ ?_; rotate_left; · (intro w hSw; (try dsimp only at hSw); go_simp; all_goals with_reducible rfl))
   (try simp only [Act.put, L1, L2, L3, L4, L5, L6])
   (refine tk 4 (v := ?_) ?_ ?_; rotate_left; · (intro w hSw; (try dsimp only at hSw); go_simp; all_goals with_reducible rfl))
   (try simp only [Act.put, L1, L2, L3, L4, L5, L6])
   (refine tk 5 (v := ?_) ?_ ?_; rotate_left; · (intro w hSw; (try dsimp only at hSw); go_simp; all_goals with_reducible rfl))
   (try simp only [Act.put, L1, L2, L3, L4, L5, L6])
   (refine tk 6 (v := ?_) ?_ ?_; rotate_left; · (intro w hSw; (try dsimp only at hSw); go_simp; all_goals with_reducible rfl))
   (try simp only [Act.put, L1, L2, L3, L4, L5, L6])
   (refine tk 7 (v := ?_) ?_ ?_; rotate_left; · (intro w hSw; (try dsimp only at hSw); go_simp; all_goals with_reducible rfl))
   (try simp only [Act.put, L1, L2, L3, L4, L5, L6])
   (refine tk 8 (v := ?_) ?_ ?_; rotate_left; · (intro w hSw; (try dsimp only at hSw); go_simp; all_goals with_reducible rfl))
   (try simp only [Act.put, L1, L2, L3, L4, L5, L6])
   have e3a : wr.drew.cell? ⟨sb, 2, none⟩ = some (.slice A' k c') := (HL.out.st.ext (Ext.refl wr).drew).cell 2
   refine wpAnyH_ready (rs := [1, 9]) (by kernel_rfl) (by simp) ?_
   refine AllReadyH.cons rfl (fun K hK => ?_) (AllReadyH.cons rfl (fun K hK => ?_) AllReadyH.nil)
   ·skip
    go_simp
    refine hK.out _ _ (HK.out _ (Ext.refl wr).drew) (fun hHeld => ?_)
    clear hK K
    (try simp only [Act.put, L1, L2, L3, L4, L5, L6])
    refine wpAnyH_ready (rs := [9]) (by kernel_rfl) (by simp) ?_
    refine AllReadyH.cons rfl (fun K hK => ?_) AllReadyH.nil
    go_simp
    refine hK.out _ _ (HK.out _ ((Ext.refl wr).drew.alloc (.cells #[.string s] 9))) (fun hHeld => ?_)
    clear hK K
    (try simp only [Act.put, L1, L2, L3, L4, L5, L6])
    have HXA : Hid (Ext wr (wr.drew.alloc (.cells #[.string s] 9))) := ((Ext.refl wr).drew.alloc (.cells #[.string s] 9))
    have k3 : Rd (wr.drew.alloc (.cells #[.string s] 9)) (wr.drew.alloc (.cells #[.string s] 9)).heap.size 1 (some ⟨wr.heap.size, 0, none⟩) 1 (tcells [s]) := rd_new wr.drew #[.string s] _ 1 _ (by simp [tcell]) (by simp [tcell])
    have hws := HL.out.gr.size
    have hcw : (cutW (wr.drew.alloc (.cells #[.string s] 9)) w.heap.size).heap.size = w.heap.size := cutW_size (by have := HXA.out.size; omega)
    refine wpAnyH_ready (rs := [10]) (by kernel_rfl) (by simp) ?_
    refine AllReadyH.cons rfl (fun K hK => ?_) AllReadyH.nil
    refine stepStrS (w := (wr.drew.alloc (.cells #[.string s] 9))) (w0 := cutW (wr.drew.alloc (.cells #[.string s] 9)) w.heap.size) rfl _ _ rfl (.slice A' k c') k xs rfl (by rw [hcw]; exact own_ext HL.out.row HXA.out) (cutW_ext (by have := HXA.out.size; omega)) (some ⟨wr.heap.size, 0, none⟩) 1 1 [s] rfl k3 (by omega) ?_
    intro v9 w9 g1 g2 g3 g4
    rw [hcw] at g1
    obtain ⟨A9, c9, rfl, -⟩ := own_slice g1
    have hrow := own_ext HL.out.row HXA.out
    obtain ⟨pcs, hpb⟩ := HL.out.pr.blk
    have HP9 : Hid (PRow w9 bp cp nn) := (HL.out.pr.grown (HXA.out.gr none) (by simp)).grown g3 (fun q hq e => own_ne hrow (hpb.ext HXA.out) (by decide) (by rw [e]; exact hq))
    have HT9 : Hid (Blk w9 sb 69 #[.int .i64 1, .string wd, .slice A' k c', .int .i64 0, .slice none 0 0]) := (g3.block _ (HL.out.st.ext HXA.out).lt (fun e => own_ne hrow (HL.out.st.ext HXA.out) (by decide) e.symm)).trans (HL.out.st.ext HXA.out)
    have HZ9 : Hid (Blk w9 w.heap.size 69 #[.int .i64 0, .string ⟨#[]⟩, .slice none 0 0, .int .i64 0, .slice none 0 0]) := (g3.block _ (HL.out.z.ext HXA.out).lt (fun e => own_ne hrow (HL.out.z.ext HXA.out) (by decide) e.symm)).trans (HL.out.z.ext HXA.out)
    have HB9 : Hid (Blk w9 gb 38 #[.int .i64 x.k, .int .i64 x.a, .int .i64 x.b, .int .i64 x.c]) := (g3.block _ (HL.out.gt.ext HXA.out).lt (fun e => own_ne hrow (HL.out.gt.ext HXA.out) (by decide) e.symm)).trans (HL.out.gt.ext HXA.out)
    have HC9 : Hid (Cur w9 g) := (HL.out.cur.ext HXA.out).grown g3 (fun q hq => by have := (hrow.lt q hq).1; omega)
    have HG9 : Hid (w.grownBy w9 (some g)) := gr_new (gr_ext HL.out.gr HXA.out) g3 (fun q hq => (hrow.lt q hq).1)
    have HN9 : Hid (Ns w9 (some ⟨bn, on, none⟩) nn) := by
     obtain ⟨us, u1, u2, u3⟩ := HNR.out.ext HXA.out
     refine ⟨us, u1, u2, fun h0 => ?_⟩
     obtain ⟨q, ds, e, hd, u4⟩ := u3 h0
     refine ⟨q, ds, e, (g3.block q hd.lt (fun e1 => ?_)).trans hd, u4⟩
     have := (hrow.lt q e1.symm).1
     injection e with e
     injection e with e2 _
     omega
    have HY9 : Hid (w9.cell? ⟨bp, k, none⟩ = some (.int .i64 y) ∧ w9.cell? ⟨bn, on + y, none⟩ = some (.string s)) := ⟨(World.cell?_of_block (g3.block bp (by have := HXA.out.size; omega) (fun e => own_ne hrow (hpb.ext HXA.out) (by decide) e.symm))).trans (HK.out _ HXA.out).1, (World.cell?_of_block (g3.block bn (by have := HXA.out.size; omega) (fun e => by have := (hrow.lt _ e.symm).1; omega))).trans (HK.out _ HXA.out).2⟩
    have HR9 : Hid (w9.ownsRow w.heap.size 9 1 (.slice A9 (k + 1) c9) (k + 1) (tcells (xs ++ [s]))) := g1
    clear g1 g2 g3 g4 hcw k3 hrow hpb
    refine hK.out _ _ (HY9.out) (fun hHeld => ?_)
    clear hK K
    (try simp only [Act.put, L1, L2, L3, L4, L5, L6])
    (refine tk 11 (v := ?_) ?_ ?_; rotate_left; · (intro w hSw; (try dsimp only at hSw); go_simp; all_goals with_reducible rfl))
    (try simp only [Act.put, L1, L2, L3, L4, L5, L6])
    have y9 : w9.cell? ⟨sb, 2, none⟩ = some (.slice A' k c') := HT9.out.cell 2
    have f9 := HT9.out.frozen 2
    refine wpAnyH_ready (rs := [12]) (by kernel_rfl) (by simp) ?_
    refine AllReadyH.cons rfl (fun K hK => ?_) AllReadyH.nil
    go_simp
    have HYA : Hid ((w9.setCell ⟨sb, 2, none⟩ (.slice A9 (k + 1) c9)).cell? ⟨bp, k, none⟩ = some (.int .i64 y) ∧ (w9.setCell ⟨sb, 2, none⟩ (.slice A9 (k + 1) c9)).cell? ⟨bn, on + y, none⟩ = some (.string s)) := ⟨(World.cell?_of_block (Below.heap_setCell w9 ⟨sb, 2, none⟩ _ bp (by show bp ≠ sb; omega))).trans HY9.out.1, (World.cell?_of_block (Below.heap_setCell w9 ⟨sb, 2, none⟩ _ bn (by show bn ≠ sb; omega))).trans HY9.out.2⟩
    refine hK.out _ _ (HYA.out) (fun hHeld => ?_)
    clear hK K
    (try simp only [Act.put, L1, L2, L3, L4, L5, L6])
    (refine wpAnyH_done (by kernel_rfl) ?_ _)
    have HLA : Hid (LG w (w9.setCell ⟨sb, 2, none⟩ (.slice A9 (k + 1) c9)) g gb sb bp cp nn x wd A9 (k + 1) c9 (xs ++ [s])) := ⟨HC9.out.set_ (p := ⟨sb, 2, none⟩) (by show g < sb; omega) _, gr_set HG9.out (p := ⟨sb, 2, none⟩) (by show w.heap.size ≤ sb; omega) _, HP9.out.grown (gr_setCell (World.grownBy.refl w9 (some sb)) 2 _) (fun q hq => by injection hq; omega), HB9.out.far (p := ⟨sb, 2, none⟩) (by show gb ≠ sb; omega) _, HT9.out.set_ 2 _, HZ9.out.far (p := ⟨sb, 2, none⟩) (by show w.heap.size ≠ sb; omega) _, own_far HR9.out HT9.out (by decide) 2 _, (fun u hu => by
     rcases List.mem_append.1 hu with hu | hu
     ·exact HL.out.sz u hu
     ·obtain rfl := List.mem_singleton.1 hu; exact HSZ.out), hsl⟩
    have HNA : Hid (Ns (w9.setCell ⟨sb, 2, none⟩ (.slice A9 (k + 1) c9)) (some ⟨bn, on, none⟩) nn) := HN9.out.keep fun q ds hd => Below.heap_setCell w9 ⟨sb, 2, none⟩ _ q (blk_ne hd HT9.out (by decide))
    clear hHeld HK y9 f9 HYA HC9 HG9 HP9 HB9 HT9 HZ9 HR9 HN9 HY9 HL HXA
    generalize (w9.setCell ⟨sb, 2, none⟩ (.slice A9 (k + 1) c9)) = w10 at *
    go_wp2
    go_roundw
    case rel => exact ⟨k + 1, A9, c9, xs ++ [s], by omega, by go_num, HLA, HNA⟩
    case measure => simp [intOf]; omega
   ·skip
    go_simp
    refine hK.out _ _ (HK.out _ ((Ext.refl wr).alloc _).drew) (fun hHeld => ?_)
    clear hK K
    (try simp only [Act.put, L1, L2, L3, L4, L5, L6])
    have e3b : (wr.alloc (.cells #[.string s] 9)).cell? ⟨sb, 2, none⟩ = some (.slice A' k c') := (HL.out.st.ext ((Ext.refl wr).alloc _)).cell 2
    refine wpAnyH_ready (rs := [1]) (by kernel_rfl) (by simp) ?_
    refine AllReadyH.cons rfl (fun K hK => ?_) AllReadyH.nil
    go_simp
    refine hK.out _ _ (HK.out _ ((Ext.refl wr).drew.alloc (.cells #[.string s] 9))) (fun hHeld => ?_)
    clear hK K
    (try simp only [Act.put, L1, L2, L3, L4, L5, L6])
    have HXA : Hid (Ext wr (wr.drew.alloc (.cells #[.string s] 9))) := ((Ext.refl wr).drew.alloc (.cells #[.string s] 9))
    have k3 : Rd (wr.drew.alloc (.cells #[.string s] 9)) (wr.drew.alloc (.cells #[.string s] 9)).heap.size 1 (some ⟨wr.heap.size, 0, none⟩) 1 (tcells [s]) := rd_new wr.drew #[.string s] _ 1 _ (by simp [tcell]) (by simp [tcell])
    have hws := HL.out.gr.size
    have hcw : (cutW (wr.drew.alloc (.cells #[.string s] 9)) w.heap.size).heap.size = w.heap.size := cutW_size (by have := HXA.out.size; omega)
    refine wpAnyH_ready (rs := [10]) (by kernel_rfl) (by simp) ?_
    refine AllReadyH.cons rfl (fun K hK => ?_) AllReadyH.nil
    refine stepStrS (w := (wr.drew.alloc (.cells #[.string s] 9))) (w0 := cutW (wr.drew.alloc (.cells #[.string s] 9)) w.heap.size) rfl _ _ rfl (.slice A' k c') k xs rfl (by rw [hcw]; exact own_ext HL.out.row HXA.out) (cutW_ext (by have := HXA.out.size; omega)) (some ⟨wr.heap.size, 0, none⟩) 1 1 [s] rfl k3 (by omega) ?_
    intro v9 w9 g1 g2 g3 g4
    rw [hcw] at g1
    obtain ⟨A9, c9, rfl, -⟩ := own_slice g1
    have hrow := own_ext HL.out.row HXA.out
    obtain ⟨pcs, hpb⟩ := HL.out.pr.blk
    have HP9 : Hid (PRow w9 bp cp nn) := (HL.out.pr.grown (HXA.out.gr none) (by simp)).grown g3 (fun q hq e => own_ne hrow (hpb.ext HXA.out) (by decide) (by rw [e]; exact hq))
    have HT9 : Hid (Blk w9 sb 69 #[.int .i64 1, .string wd, .slice A' k c', .int .i64 0, .slice none 0 0]) := (g3.block _ (HL.out.st.ext HXA.out).lt (fun e => own_ne hrow (HL.out.st.ext HXA.out) (by decide) e.symm)).trans (HL.out.st.ext HXA.out)
    have HZ9 : Hid (Blk w9 w.heap.size 69 #[.int .i64 0, .string ⟨#[]⟩, .slice none 0 0, .int .i64 0, .slice none 0 0]) := (g3.block _ (HL.out.z.ext HXA.out).lt (fun e => own_ne hrow (HL.out.z.ext HXA.out) (by decide) e.symm)).trans (HL.out.z.ext HXA.out)
    have HB9 : Hid (Blk w9 gb 38 #[.int .i64 x.k, .int .i64 x.a, .int .i64 x.b, .int .i64 x.c]) := (g3.block _ (HL.out.gt.ext HXA.out).lt (fun e => own_ne hrow (HL.out.gt.ext HXA.out) (by decide) e.symm)).trans (HL.out.gt.ext HXA.out)
    have HC9 : Hid (Cur w9 g) := (HL.out.cur.ext HXA.out).grown g3 (fun q hq => by have := (hrow.lt q hq).1; omega)
    have HG9 : Hid (w.grownBy w9 (some g)) := gr_new (gr_ext HL.out.gr HXA.out) g3 (fun q hq => (hrow.lt q hq).1)
    have HN9 : Hid (Ns w9 (some ⟨bn, on, none⟩) nn) := by
     obtain ⟨us, u1, u2, u3⟩ := HNR.out.ext HXA.out
     refine ⟨us, u1, u2, fun h0 => ?_⟩
     obtain ⟨q, ds, e, hd, u4⟩ := u3 h0
     refine ⟨q, ds, e, (g3.block q hd.lt (fun e1 => ?_)).trans hd, u4⟩
     have := (hrow.lt q e1.symm).1
     injection e with e
     injection e with e2 _
     omega
    have HY9 : Hid (w9.cell? ⟨bp, k, none⟩ = some (.int .i64 y) ∧ w9.cell? ⟨bn, on + y, none⟩ = some (.string s)) := ⟨(World.cell?_of_block (g3.block bp (by have := HXA.out.size; omega) (fun e => own_ne hrow (hpb.ext HXA.out) (by decide) e.symm))).trans (HK.out _ HXA.out).1, (World.cell?_of_block (g3.block bn (by have := HXA.out.size; omega) (fun e => by have := (hrow.lt _ e.symm).1; omega))).trans (HK.out _ HXA.out).2⟩
    have HR9 : Hid (w9.ownsRow w.heap.size 9 1 (.slice A9 (k + 1) c9) (k + 1) (tcells (xs ++ [s]))) := g1
    clear g1 g2 g3 g4 hcw k3 hrow hpb
    refine hK.out _ _ (HY9.out) (fun hHeld => ?_)
    clear hK K
    (try simp only [Act.put, L1, L2, L3, L4, L5, L6])
    (refine tk 11 (v := ?_) ?_ ?_; rotate_left; · (intro w hSw; (try dsimp only at hSw); go_simp; all_goals with_reducible rfl))
    (try simp only [Act.put, L1, L2, L3, L4, L5, L6])
    have y9 : w9.cell? ⟨sb, 2, none⟩ = some (.slice A' k c') := HT9.out.cell 2
    have f9 := HT9.out.frozen 2
    refine wpAnyH_ready (rs := [12]) (by kernel_rfl) (by simp) ?_
    refine AllReadyH.cons rfl (fun K hK => ?_) AllReadyH.nil
    go_simp
    have HYA : Hid ((w9.setCell ⟨sb, 2, none⟩ (.slice A9 (k + 1) c9)).cell? ⟨bp, k, none⟩ = some (.int .i64 y) ∧ (w9.setCell ⟨sb, 2, none⟩ (.slice A9 (k + 1) c9)).cell? ⟨bn, on + y, none⟩ = some (.string s)) := ⟨(World.cell?_of_block (Below.heap_setCell w9 ⟨sb, 2, none⟩ _ bp (by show bp ≠ sb; omega))).trans HY9.out.1, (World.cell?_of_block (Below.heap_setCell w9 ⟨sb, 2, none⟩ _ bn (by show bn ≠ sb; omega))).trans HY9.out.2⟩
    refine hK.out _ _ (HYA.out) (fun hHeld => ?_)
    clear hK K
    (try simp only [Act.put, L1, L2, L3, L4, L5, L6])
    (refine wpAnyH_done (by kernel_rfl) ?_ _)
    have HLA : Hid (LG w (w9.setCell ⟨sb, 2, none⟩ (.slice A9 (k + 1) c9)) g gb sb bp cp nn x wd A9 (k + 1) c9 (xs ++ [s])) := ⟨HC9.out.set_ (p := ⟨sb, 2, none⟩) (by show g < sb; omega) _, gr_set HG9.out (p := ⟨sb, 2, none⟩) (by show w.heap.size ≤ sb; omega) _, HP9.out.grown (gr_setCell (World.grownBy.refl w9 (some sb)) 2 _) (fun q hq => by injection hq; omega), HB9.out.far (p := ⟨sb, 2, none⟩) (by show gb ≠ sb; omega) _, HT9.out.set_ 2 _, HZ9.out.far (p := ⟨sb, 2, none⟩) (by show w.heap.size ≠ sb; omega) _, own_far HR9.out HT9.out (by decide) 2 _, (fun u hu => by
     rcases List.mem_append.1 hu with hu | hu
     ·exact HL.out.sz u hu
     ·obtain rfl := List.mem_singleton.1 hu; exact HSZ.out), hsl⟩
    have HNA : Hid (Ns (w9.setCell ⟨sb, 2, none⟩ (.slice A9 (k + 1) c9)) (some ⟨bn, on, none⟩) nn) := HN9.out.keep fun q ds hd => Below.heap_setCell w9 ⟨sb, 2, none⟩ _ q (blk_ne hd HT9.out (by decide))
    clear hHeld HK y9 f9 HYA HC9 HG9 HP9 HB9 HT9 HZ9 HR9 HN9 HY9 HL HXA
    generalize (w9.setCell ⟨sb, 2, none⟩ (.slice A9 (k + 1) c9)) = w10 at *
    go_wp2
    go_roundw
    case rel => exact ⟨k + 1, A9, c9, xs ++ [s], by omega, by go_num, HLA, HNA⟩
    case measure => simp [intOf]; omega
  ·obtain rfl : k = a := by omega
   obtain ⟨⟨t0, t1, t2, t3, t4⟩, -⟩ := c5s HL.out.st
   obtain ⟨⟨z0, z1, z2, z3, z4⟩, f0, f1, f2, f3, f4⟩ := c5s HL.out.z
   have HB9 : Hid (Blk (((((wr.setCell ⟨w.heap.size, 0, none⟩ (.int .i64 1)).setCell ⟨w.heap.size, 1, none⟩ (.string wd)).setCell ⟨w.heap.size, 2, none⟩ (.slice A' k c')).setCell ⟨w.heap.size, 3, none⟩ (.int .i64 0)).setCell ⟨w.heap.size, 4, none⟩ (.slice none 0 0)) w.heap.size 69 #[.int .i64 1, .string wd, .slice A' k c', .int .i64 0, .slice none 0 0]) := ((((HL.out.z.set_ 0 _).set_ 1 _).set_ 2 _).set_ 3 _).set_ 4 _
   have HC9 := Lib.hid (own_capN HL.out.row)
   go_wp2
   refine bodyPost_ret (v := .agg #[.int .i64 1, .string wd, .slice A' k c', .int .i64 0, .slice none 0 0]) (results_cell_row rfl _ _ w.heap.size 69 _ (0, 0) _ rfl HB9.out Tryz.underlying69 rfl Tryz.sizeStmt) rfl ⟨wd, A', k, c', xs, rfl, ⟨hax.1, hax.2.1, HC9.out⟩, HWD.out, ?_, HL.out.sz, ?_, ?_⟩
   ·exact own_far (own_far (own_far (own_far (own_far HL.out.row HL.out.z (by decide) 0 _) (HL.out.z.set_ 0 _) (by decide) 1 _) ((HL.out.z.set_ 0 _).set_ 1 _) (by decide) 2 _) (((HL.out.z.set_ 0 _).set_ 1 _).set_ 2 _) (by decide) 3 _) ((((HL.out.z.set_ 0 _).set_ 1 _).set_ 2 _).set_ 3 _) (by decide) 4 _
   ·exact ((((HL.out.cur.set_ (p := ⟨w.heap.size, 0, none⟩) hgw _).set_ (p := ⟨w.heap.size, 1, none⟩) hgw _).set_ (p := ⟨w.heap.size, 2, none⟩) hgw _).set_ (p := ⟨w.heap.size, 3, none⟩) hgw _).set_ (p := ⟨w.heap.size, 4, none⟩) hgw _
   ·exact gr_set (gr_set (gr_set (gr_set (gr_set HL.out.gr (p := ⟨w.heap.size, 0, none⟩) (Nat.le_refl _) _) (p := ⟨w.heap.size, 1, none⟩) (Nat.le_refl _) _) (p := ⟨w.heap.size, 2, none⟩) (Nat.le_refl _) _) (p := ⟨w.heap.size, 3, none⟩) (Nat.le_refl _) _) (p := ⟨w.heap.size, 4, none⟩) (Nat.le_refl _) _
end Go.Proofs.YtdjckjfclhjpcaaGreat
/-
 Helper text (no claim of its own): drawn statements that keep a qubit clean. Printed by gen_drr.py.
-/
namespace Go.Proofs.YtdjckjfclhjpcaaGreat
open Go.ChangeShapes Go.WideShapes Go.ChangeAt Go.RowKit Go.Deep
set_option linter.unusedVariables false
set_option linter.unusedSimpArgs false
/-- Some statements are returned, in memory of the call's own. -/
def DSl (d N : Nat) (w : World) (g : Nat) (e : Ending) (w' : World) : Prop := ∃ (A : Option Addr) (n c : Nat), e = .returned (.slice A n c) ∧ n ≤ N ∧ n ≤ c ∧ Ss d w' (fun b => w.heap.size ≤ b ∧ b < w'.heap.size) A n ∧ Cur w' g ∧ w.grownBy w' (some g)
theorem nm_blk {w : World} {K : Nat → Prop} {b t : Nat} {xs : List ByteArray} {cs : Array Value} (h : Blk w b t cs) (hc : cs.toList = tcells xs) (hz : ∀ y ∈ xs, y.size ≤ 1000) (hK : K b) : Nm w K (some ⟨b, 0, none⟩) xs.length :=
 ⟨xs, hz, by rw [flat_len tcell_len], fun _ => ⟨b, 0, rfl, hK, fun j u hu => by rw [Nat.zero_add, h.cell j, ← hu, ← hc]; simp⟩⟩
theorem ss_blk {w : World} {K : Nat → Prop} {b d : Nat} {ys : List Sc} {cs : Array Value} (h : Blk w b 69 cs) (hc : cs.toList = mcells ys) (hl : ys.length ≤ 10) (hy : ∀ y ∈ ys, Sv d w K y) (hK : K b) : Ss d w K (some ⟨b, 0, none⟩) ys.length :=
 ⟨hl, ys, ⟨by rw [flat_len Sc.cells_len], fun _ => ⟨b, 0, rfl, hK, fun j u hu => by rw [Nat.zero_add, h.cell j, ← hu, ← hc]; simp⟩⟩, hy⟩
set_option maxRecDepth 100000 in
set_option maxHeartbeats 16000000 in
theorem l17Clean_any (d g : Nat) (An : Option Addr) (nn cn : Nat) (z : ByteArray) (w : World) (h : Cur w g) (hN : Ns w An nn) (hnn : 1 ≤ nn ∧ nn ≤ 4) (hz : z.size ≤ 1000) :
  Calls Tryz.prog 54 #[.pointer (some ⟨g, 0, none⟩), .slice An nn cn, .string z] w (DSl (d + 1) 3 w g) := by
 have hgl := h.lt
 go_enter Tryz.func54, Tryz.ntmps54
 go_wp2_with fail
 refine (l1Below_any g nn _ h (by omega)).mono ?_
 rintro e w1 ⟨x, rfl, ⟨hx0, hx1, _⟩, hC1, hG1⟩
 obtain ⟨j, rfl⟩ := Int.eq_ofNat_of_zero_le hx0
 have hj : j < nn := by have := hx1 (by omega); omega
 clear hx1
 obtain ⟨ns, hns, hnr⟩ := (hN.cur h hG1).rd
 obtain ⟨b, o, y, rfl, hb, hy, r0⟩ := str_at hnr hj
 have HY := Lib.hid (hns y (List.mem_of_getElem? hy))
 have hsz1 := hG1.size
 have HG1 := Lib.hid hG1
 have HC1 := Lib.hid hC1
 clear hns hy hnr hN h hG1 hC1
 have hj0 : (0 : Int) ≤ (j : Int) := by omega
 have hji : (j : Int) < (nn : Int) := by omega
 have HX3 : Hid (Ext w1 (((w1.alloc (.cells #[.string y, .string z] 9)).alloc (.cells #[.int .i64 1, .string ⟨#[99, 120]⟩, .slice (some ⟨w1.heap.size, 0, none⟩) 2 2, .int .i64 0, .slice none 0 0] 69)).alloc (.cells #[.string ⟨#[122]⟩, .string ⟨#[115]⟩, .string ⟨#[116]⟩, .string ⟨#[116, 100]⟩] 9))) := (((Ext.refl w1).alloc _).alloc _).alloc _
 have HA3 : Hid (Blk (((w1.alloc (.cells #[.string y, .string z] 9)).alloc (.cells #[.int .i64 1, .string ⟨#[99, 120]⟩, .slice (some ⟨w1.heap.size, 0, none⟩) 2 2, .int .i64 0, .slice none 0 0] 69)).alloc (.cells #[.string ⟨#[122]⟩, .string ⟨#[115]⟩, .string ⟨#[116]⟩, .string ⟨#[116, 100]⟩] 9)) w1.heap.size 9 #[.string y, .string z]) := ((Blk.new w1 _ _).alloc _).alloc _
 have HS3 : Hid (Blk (((w1.alloc (.cells #[.string y, .string z] 9)).alloc (.cells #[.int .i64 1, .string ⟨#[99, 120]⟩, .slice (some ⟨w1.heap.size, 0, none⟩) 2 2, .int .i64 0, .slice none 0 0] 69)).alloc (.cells #[.string ⟨#[122]⟩, .string ⟨#[115]⟩, .string ⟨#[116]⟩, .string ⟨#[116, 100]⟩] 9)) (w1.heap.size + 1) 69 #[.int .i64 1, .string ⟨#[99, 120]⟩, .slice (some ⟨w1.heap.size, 0, none⟩) 2 2, .int .i64 0, .slice none 0 0]) := (Blk.newAt (by simp)).alloc _
 have HP3 : Hid (Rd (((w1.alloc (.cells #[.string y, .string z] 9)).alloc (.cells #[.int .i64 1, .string ⟨#[99, 120]⟩, .slice (some ⟨w1.heap.size, 0, none⟩) 2 2, .int .i64 0, .slice none 0 0] 69)).alloc (.cells #[.string ⟨#[122]⟩, .string ⟨#[115]⟩, .string ⟨#[116]⟩, .string ⟨#[116, 100]⟩] 9)) (((w1.alloc (.cells #[.string y, .string z] 9)).alloc (.cells #[.int .i64 1, .string ⟨#[99, 120]⟩, .slice (some ⟨w1.heap.size, 0, none⟩) 2 2, .int .i64 0, .slice none 0 0] 69)).alloc (.cells #[.string ⟨#[122]⟩, .string ⟨#[115]⟩, .string ⟨#[116]⟩, .string ⟨#[116, 100]⟩] 9)).heap.size 1 (some ⟨w1.heap.size + 1 + 1, 0, none⟩) 4 (tcells [⟨#[122]⟩, ⟨#[115]⟩, ⟨#[116]⟩, ⟨#[116, 100]⟩])) := rd_newN _ _ _ _ 4 1 _ (by simp) (by simp [tcell]) (by simp [tcell])
 have HC3 := Lib.hid (HC1.out.ext HX3.out)
 go_wp2_with fail
 generalize (((w1.alloc (.cells #[.string y, .string z] 9)).alloc (.cells #[.int .i64 1, .string ⟨#[99, 120]⟩, .slice (some ⟨w1.heap.size, 0, none⟩) 2 2, .int .i64 0, .slice none 0 0] 69)).alloc (.cells #[.string ⟨#[122]⟩, .string ⟨#[115]⟩, .string ⟨#[116]⟩, .string ⟨#[116, 100]⟩] 9)) = w3 at *
 refine (l1Pick_any g _ 4 4 _ _ HC3.out HP3.out (by intro b o e; injection e with e; injection e with e1; omega) (by omega)).mono ?_
 rintro e w4 ⟨x, rfl, hxm, hC4, hG4⟩
 have hxs : x.size ≤ 1000 := by
  simp at hxm
  rcases hxm with rfl | rfl | rfl | rfl <;> decide
 clear hxm
 have HA4 := Lib.hid (HA3.out.grown hG4 (fun k hk => by injection hk; omega))
 have HS4 := Lib.hid (HS3.out.grown hG4 (fun k hk => by injection hk; omega))
 have HG4 : Hid (w.grownBy w4 (some g)) := gr_trans (gr_ext HG1.out HX3.out) hG4
 have HC4 := Lib.hid hC4
 have hs4 := HS4.out.lt
 obtain ⟨⟨q0, q1, q2, q3, q4⟩, -⟩ := c5s HS4.out
 clear hC4 hG4 HC3 HP3 HA3 HS3 HX3 HG1 HC1 r0
 generalize hs1 : w1.heap.size + 1 = s1 at *
 have hsw : w.heap.size ≤ w1.heap.size ∧ w1.heap.size < s1 := by omega
 clear hs1
 go_wp2
 go_ret
 have HXE : Ext w4 (((w4.alloc (.cells #[.string z] 9)).alloc (.cells #[.int .i64 1, .string x, .slice (some ⟨w4.heap.size, 0, none⟩) 1 1, .int .i64 0, .slice none 0 0] 69)).alloc (.cells #[.int .i64 1, .string ⟨#[99, 120]⟩, .slice (some ⟨w1.heap.size, 0, none⟩) 2 2, .int .i64 0, .slice none 0 0, .int .i64 1, .string x, .slice (some ⟨w4.heap.size, 0, none⟩) 1 1, .int .i64 0, .slice none 0 0, .int .i64 1, .string ⟨#[99, 120]⟩, .slice (some ⟨w1.heap.size, 0, none⟩) 2 2, .int .i64 0, .slice none 0 0] 69)) := (((Ext.refl w4).alloc _).alloc _).alloc _
 have HAE : Blk (((w4.alloc (.cells #[.string z] 9)).alloc (.cells #[.int .i64 1, .string x, .slice (some ⟨w4.heap.size, 0, none⟩) 1 1, .int .i64 0, .slice none 0 0] 69)).alloc (.cells #[.int .i64 1, .string ⟨#[99, 120]⟩, .slice (some ⟨w1.heap.size, 0, none⟩) 2 2, .int .i64 0, .slice none 0 0, .int .i64 1, .string x, .slice (some ⟨w4.heap.size, 0, none⟩) 1 1, .int .i64 0, .slice none 0 0, .int .i64 1, .string ⟨#[99, 120]⟩, .slice (some ⟨w1.heap.size, 0, none⟩) 2 2, .int .i64 0, .slice none 0 0] 69)) w1.heap.size 9 #[.string y, .string z] := HA4.out.ext HXE
 have HZE : Blk (((w4.alloc (.cells #[.string z] 9)).alloc (.cells #[.int .i64 1, .string x, .slice (some ⟨w4.heap.size, 0, none⟩) 1 1, .int .i64 0, .slice none 0 0] 69)).alloc (.cells #[.int .i64 1, .string ⟨#[99, 120]⟩, .slice (some ⟨w1.heap.size, 0, none⟩) 2 2, .int .i64 0, .slice none 0 0, .int .i64 1, .string x, .slice (some ⟨w4.heap.size, 0, none⟩) 1 1, .int .i64 0, .slice none 0 0, .int .i64 1, .string ⟨#[99, 120]⟩, .slice (some ⟨w1.heap.size, 0, none⟩) 2 2, .int .i64 0, .slice none 0 0] 69)) w4.heap.size 9 #[.string z] := ((Blk.new w4 _ _).alloc _).alloc _
 have HLE : Blk (((w4.alloc (.cells #[.string z] 9)).alloc (.cells #[.int .i64 1, .string x, .slice (some ⟨w4.heap.size, 0, none⟩) 1 1, .int .i64 0, .slice none 0 0] 69)).alloc (.cells #[.int .i64 1, .string ⟨#[99, 120]⟩, .slice (some ⟨w1.heap.size, 0, none⟩) 2 2, .int .i64 0, .slice none 0 0, .int .i64 1, .string x, .slice (some ⟨w4.heap.size, 0, none⟩) 1 1, .int .i64 0, .slice none 0 0, .int .i64 1, .string ⟨#[99, 120]⟩, .slice (some ⟨w1.heap.size, 0, none⟩) 2 2, .int .i64 0, .slice none 0 0] 69)) (w4.heap.size + 1 + 1) 69 #[.int .i64 1, .string ⟨#[99, 120]⟩, .slice (some ⟨w1.heap.size, 0, none⟩) 2 2, .int .i64 0, .slice none 0 0, .int .i64 1, .string x, .slice (some ⟨w4.heap.size, 0, none⟩) 1 1, .int .i64 0, .slice none 0 0, .int .i64 1, .string ⟨#[99, 120]⟩, .slice (some ⟨w1.heap.size, 0, none⟩) 2 2, .int .i64 0, .slice none 0 0] := Blk.newAt (by simp)
 have hszE : w4.heap.size + 1 + 1 < ((((w4.alloc (.cells #[.string z] 9)).alloc (.cells #[.int .i64 1, .string x, .slice (some ⟨w4.heap.size, 0, none⟩) 1 1, .int .i64 0, .slice none 0 0] 69)).alloc (.cells #[.int .i64 1, .string ⟨#[99, 120]⟩, .slice (some ⟨w1.heap.size, 0, none⟩) 2 2, .int .i64 0, .slice none 0 0, .int .i64 1, .string x, .slice (some ⟨w4.heap.size, 0, none⟩) 1 1, .int .i64 0, .slice none 0 0, .int .i64 1, .string ⟨#[99, 120]⟩, .slice (some ⟨w1.heap.size, 0, none⟩) 2 2, .int .i64 0, .slice none 0 0] 69))).heap.size := HLE.lt
 generalize (((w4.alloc (.cells #[.string z] 9)).alloc (.cells #[.int .i64 1, .string x, .slice (some ⟨w4.heap.size, 0, none⟩) 1 1, .int .i64 0, .slice none 0 0] 69)).alloc (.cells #[.int .i64 1, .string ⟨#[99, 120]⟩, .slice (some ⟨w1.heap.size, 0, none⟩) 2 2, .int .i64 0, .slice none 0 0, .int .i64 1, .string x, .slice (some ⟨w4.heap.size, 0, none⟩) 1 1, .int .i64 0, .slice none 0 0, .int .i64 1, .string ⟨#[99, 120]⟩, .slice (some ⟨w1.heap.size, 0, none⟩) 2 2, .int .i64 0, .slice none 0 0] 69)) = wE at *
 have n1 : Nm wE (fun b => w.heap.size ≤ b ∧ b < wE.heap.size) (some ⟨w1.heap.size, 0, none⟩) 2 := nm_blk (xs := [y, z]) HAE (by simp [tcell]) (by intro u hu; simp at hu; rcases hu with rfl | rfl; exact HY.out; exact hz) ⟨by omega, by omega⟩
 have n2 : Nm wE (fun b => w.heap.size ≤ b ∧ b < wE.heap.size) (some ⟨w4.heap.size, 0, none⟩) 1 := nm_blk (xs := [z]) HZE (by simp [tcell]) (by intro u hu; simp at hu; subst hu; exact hz) ⟨by omega, by omega⟩
 have v1 : Sv (d + 1) wE (fun b => w.heap.size ≤ b ∧ b < wE.heap.size) ⟨1, ⟨#[99, 120]⟩, some ⟨w1.heap.size, 0, none⟩, 2, 2, 0, none, 0, 0⟩ := Sv.leaf (by decide) (by decide) (by decide) (by decide) n1
 have v2 : Sv (d + 1) wE (fun b => w.heap.size ≤ b ∧ b < wE.heap.size) ⟨1, x, some ⟨w4.heap.size, 0, none⟩, 1, 1, 0, none, 0, 0⟩ := Sv.leaf (by decide) (by decide) (by decide) hxs n2
 exact ⟨_, 3, 3, rfl, Nat.le_refl _, Nat.le_refl _, ss_blk (ys := [⟨1, ⟨#[99, 120]⟩, some ⟨w1.heap.size, 0, none⟩, 2, 2, 0, none, 0, 0⟩, ⟨1, x, some ⟨w4.heap.size, 0, none⟩, 1, 1, 0, none, 0, 0⟩, ⟨1, ⟨#[99, 120]⟩, some ⟨w1.heap.size, 0, none⟩, 2, 2, 0, none, 0, 0⟩]) HLE (by simp [Sc.cells]) (by simp) (by intro u hu; simp at hu; rcases hu with rfl | rfl | rfl; exact v1; exact v2; exact v1) ⟨by omega, by omega⟩, HC4.out.ext HXE, gr_ext HG4.out HXE⟩
end Go.Proofs.YtdjckjfclhjpcaaGreat
namespace Go.Proofs.YtdjckjfclhjpcaaGreat
open Go.ChangeShapes Go.WideShapes Go.ChangeAt Go.RowKit Go.Deep
set_option linter.unusedVariables false
/-- What holds at a panic does not hang on the values at hand. -/
structure PQ (Q : Exit → Act → World → Prop) : Prop where
 one : ∀ {c} {a : Act} {d : Tmp} {v : Value} {w : World}, Q (.panic c) (a.put (some d) v) w → Q (.panic c) a w
theorem PQ.out {Q : Exit → Act → World → Prop} (hp : PQ Q) {c} {a : Act} {d : Option Tmp} {v : Value} {w : World} (h : Q (.panic c) (a.put d v) w) : Q (.panic c) a w := by
 cases d with
 | none => exact h
 | some d => exact hp.one h
section
variable {P : Program} {ops : Array Oper} {Q : Exit → Act → World → Prop} {md : Region.Mode} {T : World → Prop} {s : Nat}
/-- Whatever comes up next: behind it T holds, unless it was operation s. -/
def wpHL (P : Program) (md : Region.Mode) (ops : Array Oper) (Q : Exit → Act → World → Prop) (T : World → Prop) (s : Nat) : Nat → Array Bool → Act → World → Prop
 | 0, L, a, w => Region.ready md ops L = [] ∧ Q .normal a w
 | f + 1, L, a, w => (Region.ready md ops L = [] → Q .normal a w) ∧ ∀ i ∈ Region.ready md ops L, wpOp P ops Q i (fun a' w' => (i ≠ s → T w') ∧ wpHL P md ops Q T s f (L.setIfInBounds i true) a' w') a w
theorem hl_any : ∀ (f : Nat) (L : Array Bool) (a : Act) (w : World), wpHL P md ops Q T s f L a w → wpAny P md ops Q f L a w
 | 0, _, _, _, h => h
 | f + 1, _, _, _, h => ⟨h.1, fun i hi => wpOp_mono (fun a' w' k => hl_any f _ a' w' k.2) (h.2 i hi)⟩
/-- Operation s waits for operation i. -/
def waits (md : Region.Mode) (ops : Array Oper) (s i : Nat) : Bool := match ops[s]? with
 | none => false
 | some o => o.after.any fun e => Region.binds md e && e.on == i
theorem waits_not {L : Array Bool} {i : Nat} (hw : waits md ops s i = true) (hi : i ∈ Region.ready md ops L) : s ∉ Region.ready md ops L := by
 intro hs
 obtain ⟨-, o, ho, hall⟩ := mem_ready.1 hs
 unfold waits at hw
 rw [ho] at hw
 obtain ⟨e, he, hb⟩ := Array.any_eq_true'.1 hw
 rw [Bool.and_eq_true, beq_iff_eq] at hb
 have h1 := hall e he hb.1
 have h0 := (mem_ready.1 hi).1
 rw [hb.2] at h1
 by_cases hsz : i < L.size
 ·simp [hsz] at h0 h1
  rw [h0] at h1
  cases h1
 ·simp [Array.getElem?_eq_none (Nat.le_of_not_lt hsz)] at h1
theorem hl_first {i : Nat} {oi : Oper} {v : Value} (hi : ops[i]? = some oi) (hsel : ∀ (j : Nat) (o : Oper) cs b, ops[j]? = some o → o.op ≠ .select cs b) (hw : waits md ops s i = true)
  (hQ : ∀ c a w, Q (.panic c) (a.put oi.dst v) w → Q (.panic c) a w) :
  ∀ (f : Nat) (L : Array Bool) (a : Act) (w : World), (∀ j oj, ops[j]? = some oj → j ≠ i → L.getD j true = false → (∀ e ∈ oj.after, Region.binds md e = true → e.on ≠ i) → oi.apart ops oj = true) →
   i ∈ Region.ready md ops L → YieldsIf P ops T oi v a → T w → wpHL P md ops Q T s f (L.setIfInBounds i true) (a.put oi.dst v) w → wpHL P md ops Q T s (f + 1) L a w := by
 intro f
 induction f with
 | zero =>
  intro L a w _ hr hy hT H
  refine ⟨fun e => absurd hr (by rw [e]; simp), fun j hj => ?_⟩
  by_cases hji : j = i
  ·subst hji
   exact hy.wpOp hi hT ⟨fun _ => hT, H⟩
  ·have k := ready_mono hj hji
   rw [H.1] at k
   cases k
 | succ f ih =>
  intro L a w hfree hr hy hT H
  refine ⟨fun e => absurd hr (by rw [e]; simp), fun j hj => ?_⟩
  by_cases hji : j = i
  ·subst hji
   exact hy.wpOp hi hT ⟨fun _ => hT, H⟩
  ·have hjs : j ≠ s := fun e => waits_not hw hr (e ▸ hj)
   obtain ⟨hun, oj, hoj, hall⟩ := mem_ready.1 hj
   have h0 := (mem_ready.1 hr).1
   have hno : ∀ e ∈ oj.after, Region.binds md e = true → e.on ≠ i := fun e he hb hon => by
    have k := hall e he hb
    rw [hon] at k
    by_cases hsz : i < L.size
    ·simp [hsz] at h0 k
     rw [h0] at k
     cases k
    ·simp [Array.getElem?_eq_none (Nat.le_of_not_lt hsz)] at k
   refine wpOp_mono (fun a' w' k => ⟨fun _ => k.2.1 hjs, ih (L.setIfInBounds j true) a' w' (fun q oq hq hqi hqu hqn => hfree q oq hq hqi ?_ hqn) (ready_mono hr (Ne.symm hji)) k.1 (k.2.1 hjs) ?_⟩)
    (wpOp_putIf hoj (hfree j oj hoj hji hun hno) (fun cs b => hsel i oi cs b hi) (fun cs b => hsel j oj cs b hoj) hQ hy (H.2 j (ready_mono hj hji)))
   ·by_cases hjq : j = q
    ·rw [← hjq]; exact hun
    ·rwa [getD_set_ne true hjq] at hqu
   ·rw [Array.setIfInBounds_comm _ _ hji]
    exact k.2.2
/-- Take operation i first. -/
theorem hlT (i : Nat) {oi : Oper} {v : Value} {f : Nat} {L : Array Bool} {a : Act} {w : World} (hy : ∀ w, T w → (execOp a.eval oi).run P w = .ok (.value v) w) (h : wpHL P md ops Q T s f (L.setIfInBounds i true) (a.put oi.dst v) w)
  (hi : ops[i]? = some oi := by rfl) (hs : Region.noSelect ops = true := by kernel_rfl) (hf : Region.free md ops L i = true := by kernel_rfl) (hr : (Region.ready md ops L).contains i = true := by kernel_rfl) (hw : waits md ops s i = true := by kernel_rfl)
  (hQ : ∀ c a w, Q (.panic c) (a.put oi.dst v) w → Q (.panic c) a w := by first | exact fun _ _ _ h => h | (intro c a w h; exact PQ.out (by assumption) h)) (hwt : Region.wanted oi (yielded ops a.tmps) = true := by rfl) (hT : T w := by assumption) : wpHL P md ops Q T s (f + 1) L a w :=
 hl_first hi (Region.noSelect_spec hs) hw hQ f L a w (Region.free_spec hi hf) (by simpa using hr) (Or.inl ⟨hwt, hy⟩) hT h
/-- As tk, with the panics' condition from the context. -/
theorem tkq {S : World → Prop} (i : Nat) {oi : Oper} {v : Value} {fuel : Nat} {listed : Array Bool} {a : Act} {w : World} (hy : ∀ w, S w → (execOp a.eval oi).run P w = .ok (.value v) w) (h : wpAnyH P md ops Q S fuel (listed.setIfInBounds i true) (a.put oi.dst v) w)
  (hp : PQ Q := by assumption) (hi : ops[i]? = some oi := by rfl) (hs : Region.noSelect ops = true := by kernel_rfl) (hf : Region.free md ops listed i = true := by kernel_rfl) (hr : (Region.ready md ops listed).contains i = true := by kernel_rfl)
  (hw : Region.wanted oi (yielded ops a.tmps) = true := by rfl) (hS : S w := by assumption) : wpAnyH P md ops Q S (fuel + 1) listed a w :=
 wpAnyH_take hi hs hf hr (fun _ _ _ h => hp.out h) (Or.inl ⟨hw, hy⟩) hS h
def AllHL (P : Program) (md : Region.Mode) (ops : Array Oper) (Q : Exit → Act → World → Prop) (T : World → Prop) (s : Nat) (f : Nat) (L : Array Bool) (a : Act) (w : World) (rs : List Nat) : Prop :=
 ∀ i ∈ rs, wpOp P ops Q i (fun a' w' => (i ≠ s → T w') ∧ wpHL P md ops Q T s f (L.setIfInBounds i true) a' w') a w
theorem AllHL.nil {f : Nat} {L : Array Bool} {a : Act} {w : World} : AllHL P md ops Q T s f L a w [] := fun _ h => by cases h
theorem AllHL.cons {f : Nat} {L : Array Bool} {a : Act} {w : World} {i : Nat} {o : Oper} {rs : List Nat} (ho : ops[i]? = some o)
  (h : ∀ K' : Act → World → Prop, Shut (∀ a w, (i ≠ s → T w) → (i ≠ s → T w → wpHL P md ops Q T s f (L.setIfInBounds i true) a w) → (i = s → wpHL P md ops Q T s f (L.setIfInBounds i true) a w) → K' a w) → if Region.wanted o (yielded ops a.tmps) = true then Oper.wp P o a w K' Q else K' (a.put o.dst undef) w)
  (hs : AllHL P md ops Q T s f L a w rs) : AllHL P md ops Q T s f L a w (i :: rs) := fun j hj => by
 rcases List.mem_cons.1 hj with rfl | hj
 ·exact wpOp_step ho fun K' hK => h K' fun a w h1 h2 h3 => hK a w ⟨h1, by
   by_cases e : j = s
   ·exact h3 e
   ·exact h2 e (h1 e)⟩
 ·exact hs j hj
theorem hlR {rs : List Nat} {f : Nat} {L : Array Bool} {a : Act} {w : World} (hr : Region.ready md ops L = rs) (hne : rs ≠ []) (h : AllHL P md ops Q T s f L a w rs) : wpHL P md ops Q T s (f + 1) L a w :=
 ⟨fun h0 => absurd (hr ▸ h0) hne, hr ▸ h⟩
theorem hlD {L : Array Bool} {a : Act} {w : World} (hr : Region.ready md ops L = []) (h : Q .normal a w) : ∀ f, wpHL P md ops Q T s f L a w
 | 0 => ⟨hr, h⟩
 | _ + 1 => ⟨fun _ => h, by rw [hr]; simp⟩
theorem hlB {id : Nat} {a : Act} {w : World} (s : Nat) (hm : P.follows .mixedOrders = true) (hT : T w.drew) (h : T w.drew → wpHL P .any ops Q T s ops.size (Array.replicate ops.size false) a w.drew) : (Code.region id ops true).wp P Q a w :=
 wp_region_any hm (hl_any _ _ _ _ (h hT))
/-- One step that is not the store. -/
theorem AllHL.one {f : Nat} {L : Array Bool} {a : Act} {w : World} {i : Nat} {o : Oper} {rs : List Nat} (ho : ops[i]? = some o) (his : (i == s) = false)
  (h : ∀ K' : Act → World → Prop, Shut (∀ a w, T w → (T w → wpHL P md ops Q T s f (L.setIfInBounds i true) a w) → K' a w) → if Region.wanted o (yielded ops a.tmps) = true then Oper.wp P o a w K' Q else K' (a.put o.dst undef) w)
  (hs : AllHL P md ops Q T s f L a w rs) : AllHL P md ops Q T s f L a w (i :: rs) :=
 AllHL.cons ho (fun K' hK => h K' fun a w hT hW => hK a w (fun _ => hT) (fun _ h1 => hW h1) (fun e => absurd e (by simpa using his))) hs
/-- The store. -/
theorem AllHL.last {f : Nat} {L : Array Bool} {a : Act} {w : World} {o : Oper} {rs : List Nat} (ho : ops[s]? = some o)
  (h : ∀ K' : Act → World → Prop, Shut (∀ a w, wpHL P md ops Q T s f (L.setIfInBounds s true) a w → K' a w) → if Region.wanted o (yielded ops a.tmps) = true then Oper.wp P o a w K' Q else K' (a.put o.dst undef) w)
  (hs : AllHL P md ops Q T s f L a w rs) : AllHL P md ops Q T s f L a w (s :: rs) :=
 AllHL.cons ho (fun K' hK => h K' fun a w hW => hK a w (fun e => absurd rfl e) (fun e _ => absurd rfl e) (fun _ => hW)) hs
end
/-- The operations of a region of some code. -/
def regIn : Code → Nat → Option (Array Oper)
 | .region i ops _, n => if i = n then some ops else none
 | .seq a b, n => match regIn a n with
  | some x => some x
  | none => regIn b n
 | .cond _ a b, n => match regIn a n with
  | some x => some x
  | none => regIn b n
 | .block _ a, n => regIn a n
 | .loop a, n => regIn a n
 | .scope a, n => regIn a n
 | _, _ => none
def regOf (f : Func) (n : Nat) : Array Oper := match f.body with
 | none => #[]
 | some c => match regIn c n with
  | some x => x
  | none => #[]
end Go.Proofs.YtdjckjfclhjpcaaGreat
