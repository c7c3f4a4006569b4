/-
 Helper text (no claim of its own): valid amplitudes, by the reference. Printed by gen_am.py or gen_an.py.
-/
import Derived.Test.YtioimnplhmgbgaaGreatMTabLa
import Derived.Test.YtioimnplhmgbgaaGreatIn
import Derived.Test.YtioimnplhmgbgaaGreatRet
/-
 Helper text (no claim of its own): two drawn circuits. Only that they return, and what their results are made of.
-/
namespace Go.Proofs.YtioimnplhmgbgaaGreat
open Go.ChangeShapes Go.WideShapes Go.ChangeAt Go.RowKit Go.Deep
set_option linter.unusedVariables false
set_option linter.unusedSimpArgs false
/-- Two circuits being drawn: the result cells behind w, the headers q and r, the cursor g. -/
structure D2 (w W : World) (g q r : Nat) (n : Int) (A : Option Addr) (la ca : Nat) (ga : List Gt) (N : Int) (B : Option Addr) (lb cb : Nat) (gb : List Gt) : Prop where
 b0 : Blk W w.heap.size 26 #[.int .i64 0, .slice none 0 0]
 b1 : Blk W (w.heap.size + 1) 26 #[.int .i64 0, .slice none 0 0]
 hq : Blk W q 26 #[.int .i64 n, .slice A la ca]
 hr : Blk W r 26 #[.int .i64 N, .slice B lb cb]
 oa : W.ownsRow (g + 1) 52 4 (.slice A la ca) la (gcells ga)
 ob : W.ownsRow (g + 1) 52 4 (.slice B lb cb) lb (gcells gb)
 cu : Cur W g
 x : Ext w W
 le : w.heap.size + 2 ≤ g ∧ g < q ∧ g < r ∧ q ≠ r
section
variable {w W W' : World} {g q r : Nat} {n N : Int} {A B : Option Addr} {la ca lb cb : Nat} {ga gb : List Gt}
theorem D2.grown (h : D2 w W g q r n A la ca ga N B lb cb gb) (hg : W.grownBy W' (some g)) (hC : Cur W' g) : D2 w W' g q r n A la ca ga N B lb cb gb := by
 obtain ⟨l1, l2, l3, l4⟩ := h.le
 exact ⟨h.b0.grown hg (fun k e => by injection e; omega), h.b1.grown hg (fun k e => by injection e; omega), h.hq.grown hg (fun k e => by injection e; omega), h.hr.grown hg (fun k e => by injection e; omega),
  own_kept h.oa hg (fun k e => by injection e; omega), own_kept h.ob hg (fun k e => by injection e; omega), hC, h.x.grown hg (fun k e => by injection e; omega), h.le⟩
theorem D2.ext (h : D2 w W g q r n A la ca ga N B lb cb gb) (hx : Ext W W') : D2 w W' g q r n A la ca ga N B lb cb gb :=
 ⟨h.b0.ext hx, h.b1.ext hx, h.hq.ext hx, h.hr.ext hx, own_ext h.oa hx, own_ext h.ob hx, h.cu.ext hx, h.x.trans hx, h.le⟩
theorem D2.put (h : D2 w W g q r n A la ca ga N B lb cb gb) {N' : Int} {B' : Option Addr} {lb' cb' : Nat} {gb' : List Gt} (ho : W.ownsRow (g + 1) 52 4 (.slice B' lb' cb') lb' (gcells gb')) : D2 w (put2 W r (.int .i64 N') (.slice B' lb' cb')) g q r n A la ca ga N' B' lb' cb' gb' := by
 obtain ⟨l1, l2, l3, l4⟩ := h.le
 exact ⟨(h.b0.far (p := ⟨r, 0, none⟩) (by show w.heap.size ≠ r; omega) _).far (p := ⟨r, 1, none⟩) (by show w.heap.size ≠ r; omega) _, (h.b1.far (p := ⟨r, 0, none⟩) (by show w.heap.size + 1 ≠ r; omega) _).far (p := ⟨r, 1, none⟩) (by show w.heap.size + 1 ≠ r; omega) _,
  (h.hq.far (p := ⟨r, 0, none⟩) l4 _).far (p := ⟨r, 1, none⟩) l4 _, h.hr.put2 _ _, own_putC2 h.oa h.hr circgate_ne _ _, own_putC2 ho h.hr circgate_ne _ _, Cur.set2 h.cu l3 _ _, ext_put2 h.x (by omega) _ _, h.le⟩
end
/-- What two drawn circuits are. -/
def Drew2 (w : World) (e : Ending) (W : World) : Prop := ∃ (n : Int) (A : Option Addr) (la ca : Nat) (ga : List Gt) (N : Int) (B : Option Addr) (lb cb : Nat) (gb : List Gt),
 e = .returned (.tuple #[.agg #[.int .i64 n, .slice A la ca], .agg #[.int .i64 N, .slice B lb cb]]) ∧ (la ≤ 200 ∧ lb ≤ 200) ∧ Rd W W.heap.size 4 A la (gcells ga) ∧ Rd W W.heap.size 4 B lb (gcells gb) ∧ Ext w W
theorem Drew2.ext {w W W' : World} {e : Ending} (h : Drew2 w e W) (hx : Ext W W') : Drew2 w e W' := by
 obtain ⟨n, A, la, ca, ga, N, B, lb, cb, gb, h1, h2, h3, h4, h5⟩ := h
 exact ⟨n, A, la, ca, ga, N, B, lb, cb, gb, h1, h2, h3.ext hx, h4.ext hx, h5.trans hx⟩
set_option maxRecDepth 100000 in
set_option maxHeartbeats 8000000 in
theorem DrawCliffordsEqual_any (Ab : Option Addr) (nb cb : Nat) (bs : List Int) (w : World) (h : Rd w w.heap.size 1 Ab nb (u8cs bs)) (hn : nb ≤ 1048576) :
  Calls Tryz.prog 5 #[.slice Ab nb cb] w (Drew2 w) := by
 have H0 : Hid (Blk ((w.alloc (.cells #[.int .i64 0, .slice none 0 0] 26)).alloc (.cells #[.int .i64 0, .slice none 0 0] 26)) w.heap.size 26 #[.int .i64 0, .slice none 0 0] ∧ Blk ((w.alloc (.cells #[.int .i64 0, .slice none 0 0] 26)).alloc (.cells #[.int .i64 0, .slice none 0 0] 26)) (w.heap.size + 1) 26 #[.int .i64 0, .slice none 0 0] ∧ Ext w ((w.alloc (.cells #[.int .i64 0, .slice none 0 0] 26)).alloc (.cells #[.int .i64 0, .slice none 0 0] 26)) ∧ w.heap.size + 2 ≤ ((w.alloc (.cells #[.int .i64 0, .slice none 0 0] 26)).alloc (.cells #[.int .i64 0, .slice none 0 0] 26)).heap.size) := ⟨(Blk.new w _ _).alloc _, Blk.newAt (by simp), by exact xx, by simp⟩
 go_enter Tryz.func5, Tryz.ntmps5
 go_wp2_with fail
 refine (l1New_any Ab nb cb bs _ (h.ext (by exact xx)) hn).mono ?_
 rintro e w1 ⟨rfl, hC1, hx1⟩
 generalize (w.alloc (.cells #[.int .i64 0, .slice none 0 0] 26)).alloc (.cells #[.int .i64 0, .slice none 0 0] 26) = w0 at *
 have H1 : Hid (Blk w1 w.heap.size 26 #[.int .i64 0, .slice none 0 0] ∧ Blk w1 (w.heap.size + 1) 26 #[.int .i64 0, .slice none 0 0] ∧ Ext w w1) := ⟨H0.out.1.ext hx1, H0.out.2.1.ext hx1, H0.out.2.2.1.trans hx1⟩
 have HG : Hid (w.heap.size + 2 ≤ w0.heap.size) := H0.out.2.2.2
 clear hx1 h H0
 generalize w0.heap.size = g at *
 have hgl := hC1.lt
 go_wp2_with fail
 refine (l1Below_any g 3 _ hC1 (by omega)).mono ?_
 rintro e w2 ⟨x, rfl, ⟨hx0, hx1', _⟩, hC2, hG2⟩
 obtain ⟨n0, rfl⟩ := Int.eq_ofNat_of_zero_le hx0
 have hn2 : n0 < 3 := by have := hx1' (by omega); omega
 clear hx0 hx1'
 obtain ⟨n, en, hb1, hb2⟩ : ∃ n : Nat, (1 : Int) + (n0 : Int) = (n : Int) ∧ 1 ≤ n ∧ n ≤ 4 := ⟨n0 + 1, by omega, by omega, by omega⟩
 have en2 : IntKind.i64.wrap ((1 : Int) + (n0 : Int)) = (n : Int) := by rw [IntWalk.i64_in _ (by omega)]; exact en
 have en3 : wrap64 ((1 : Int) + (n0 : Int)) = (n : Int) := by rw [← en]; unfold wrap64; omega
 have hgl2 := hC2.lt
 go_wp2_with fail
 refine (l26Circ_any g n 8 ⟨hb1, hb2⟩ (by omega) _ hC2).mono ?_
 rintro e w3 ⟨A, la, ca, ga, rfl, hla, ho3, hC3, hG3⟩
 have hgl3 := hC3.lt
 have HO3 : Hid (w3.ownsRow (g + 1) 52 4 (.slice A la ca) la (gcells ga)) := own_base ho3 (by omega)
 have H3 : Hid (Blk w3 w.heap.size 26 #[.int .i64 0, .slice none 0 0] ∧ Blk w3 (w.heap.size + 1) 26 #[.int .i64 0, .slice none 0 0] ∧ Ext w w3) := by
  have hG := gr_trans hG2 hG3
  have := HG.out
  exact ⟨H1.out.1.grown hG (fun k e => by injection e; omega), H1.out.2.1.grown hG (fun k e => by injection e; omega), H1.out.2.2.grown hG (fun k e => by injection e; omega)⟩
 clear ho3 hG2 hG3 hC1 hC2 H1
 go_upto_region 4 with (fail)
 have HQ4 : Hid (Blk (w3.alloc (.cells #[.int .i64 n, .slice A la ca] 26)) w3.heap.size 26 #[.int .i64 n, .slice A la ca] ∧ Ext w3 (w3.alloc (.cells #[.int .i64 n, .slice A la ca] 26)) ∧ w3.heap.size < (w3.alloc (.cells #[.int .i64 n, .slice A la ca] 26)).heap.size) := ⟨Blk.new _ _ _, (Ext.refl _).alloc _, by simp⟩
 have hC4 := hC3.ext HQ4.out.2.1
 generalize w3.alloc (.cells #[.int .i64 n, .slice A la ca] 26) = w4 at *
 obtain ⟨q, hq⟩ : ∃ q, q = w3.heap.size := ⟨_, rfl⟩
 rw [← hq] at HQ4 ⊢
 have hgq : g < q := by omega
 go_wp2_with fail
 refine (l26Circ_any g n 8 ⟨hb1, hb2⟩ (by omega) _ hC4).mono ?_
 rintro e w5 ⟨B, lb, cb5, gb, rfl, hlb, ho5, hC5, hG5⟩
 have hgl5 := hC5.lt
 have hs45 := gr_size hG5
 have HD6 : Hid (D2 w (w5.alloc (.cells #[.int .i64 n, .slice B lb cb5] 26)) g q w5.heap.size n A la ca ga n B lb cb5 gb) := by
  have := HG.out
  have hq4 := HQ4.out.2.2
  have hx45 := HQ4.out.2.1
  exact ⟨((H3.out.1.ext hx45).grown hG5 (fun k e => by injection e; omega)).alloc _, ((H3.out.2.1.ext hx45).grown hG5 (fun k e => by injection e; omega)).alloc _, (HQ4.out.1.grown hG5 (fun k e => by injection e; omega)).alloc _, Blk.new _ _ _,
   own_ext (own_kept (own_ext HO3.out hx45) hG5 (fun k e => by injection e; omega)) ((Ext.refl _).alloc _), own_ext (own_base ho5 (by omega)) ((Ext.refl _).alloc _), hC5.alloc _, ((H3.out.2.2.trans hx45).grown hG5 (fun k e => by injection e; omega)).alloc _, ⟨this, hgq, by omega, by omega⟩⟩
 clear ho5 hG5 hC3 hC4 hC5 HO3 H3 HQ4 hs45 hq hgl3
 go_upto_region 5 with (fail)
 generalize w5.alloc (.cells #[.int .i64 n, .slice B lb cb5] 26) = w6 at *
 generalize w5.heap.size = r at *
 clear hgl hgl2 hgl5
 go_wp2_with fail
 refine (l1Once_any g 2 _ HD6.out.cu (by omega)).mono ?_
 rintro e w7 ⟨b1, rfl, hC7, hG7⟩
 have HD7 := Lib.hid (HD6.out.grown hG7 hC7)
 clear HD6 hC7 hG7
 -- behind the choice: the last step
 have HFIN : Hid (∀ (W : World) (N : Int) (B : Option Addr) (lb cb : Nat) (gb : List Gt), lb ≤ 200 → D2 w W g q r n A la ca ga N B lb cb gb → Drew2 w (.returned (.tuple #[.agg #[.int .i64 n, .slice A la ca], .agg #[.int .i64 N, .slice B lb cb]])) (put2 (put2 W w.heap.size (.int .i64 n) (.slice A la ca)) (w.heap.size + 1) (.int .i64 N) (.slice B lb cb))) := fun W N B lb cb gb hlb D => by
  have l1 := D.le
  have c0 : Blk (put2 W w.heap.size (.int .i64 n) (.slice A la ca)) (w.heap.size + 1) 26 #[.int .i64 0, .slice none 0 0] := (D.b1.far (p := ⟨w.heap.size, 0, none⟩) (by show w.heap.size + 1 ≠ w.heap.size; omega) _).far (p := ⟨w.heap.size, 1, none⟩) (by show w.heap.size + 1 ≠ w.heap.size; omega) _
  exact ⟨n, A, la, ca, ga, N, B, lb, cb, gb, rfl, ⟨by omega, hlb⟩, Rd.own (own_putC2 (own_putC2 D.oa D.b0 circgate_ne _ _) c0 circgate_ne _ _), Rd.own (own_putC2 (own_putC2 D.ob D.b0 circgate_ne _ _) c0 circgate_ne _ _), ext_put2 (ext_put2 D.x (Nat.le_refl _) _ _) (by omega) _ _⟩
 have HLB : Hid (lb ≤ 200) := by unfold Hid; omega
 have HLA : Hid (la ≤ 200) := by unfold Hid; omega
 clear hla hlb
 cases b1
 ·skip
  go_wp2_with fail
  refine (l1Once_any g 10 _ HD7.out.cu (by omega)).mono ?_
  rintro e w8 ⟨b2, rfl, hC8, hG8⟩
  have HD8 := Lib.hid (HD7.out.grown hG8 hC8)
  clear hC8 hG8 HD7
  cases b2
  ·skip
   have HF := Lib.hid (HFIN.out _ _ _ _ _ _ (by have := HLB.out; omega) HD8.out)
   have HR0 : Hid (Blk (put2 (put2 w8 w.heap.size (.int .i64 n) (.slice A la ca)) (w.heap.size + 1) (.int .i64 n) (.slice B lb cb5)) w.heap.size 26 #[.int .i64 n, .slice A la ca]) := ((HD8.out.b0.put2 _ _).far (p := ⟨w.heap.size + 1, 0, none⟩) (by show w.heap.size ≠ w.heap.size + 1; omega) _).far (p := ⟨w.heap.size + 1, 1, none⟩) (by show w.heap.size ≠ w.heap.size + 1; omega) _
   have c0 : Blk (put2 w8 w.heap.size (.int .i64 n) (.slice A la ca)) (w.heap.size + 1) 26 #[.int .i64 0, .slice none 0 0] := (HD8.out.b1.far (p := ⟨w.heap.size, 0, none⟩) (by show w.heap.size + 1 ≠ w.heap.size; omega) _).far (p := ⟨w.heap.size, 1, none⟩) (by show w.heap.size + 1 ≠ w.heap.size; omega) _
   have HR1 : Hid (Blk (put2 (put2 w8 w.heap.size (.int .i64 n) (.slice A la ca)) (w.heap.size + 1) (.int .i64 n) (.slice B lb cb5)) (w.heap.size + 1) 26 #[.int .i64 n, .slice B lb cb5]) := c0.put2 _ _
   clear c0
   have HS : Hid (∀ w', Blk w' q 26 #[.int .i64 n, .slice A la ca] → Blk w' r 26 #[.int .i64 n, .slice B lb cb5] → (w'.cell? ⟨q, 0, none⟩ = some (.int .i64 n) ∧ w'.cell? ⟨q, 1, none⟩ = some (.slice A la ca)) ∧ (w'.cell? ⟨r, 0, none⟩ = some (.int .i64 n) ∧ w'.cell? ⟨r, 1, none⟩ = some (.slice B lb cb5))) := fun w' h1 h2 => ⟨(blkT2 h1).1, (blkT2 h2).1⟩
   have l1 := HD8.out.le
   have HP1 : Hid (∀ w' u0 u1, Blk w' q 26 #[.int .i64 n, .slice A la ca] ∧ Blk w' r 26 #[.int .i64 n, .slice B lb cb5] → Blk ((w'.setCell ⟨w.heap.size, 0, none⟩ u0).setCell ⟨w.heap.size, 1, none⟩ u1) q 26 #[.int .i64 n, .slice A la ca] ∧ Blk ((w'.setCell ⟨w.heap.size, 0, none⟩ u0).setCell ⟨w.heap.size, 1, none⟩ u1) r 26 #[.int .i64 n, .slice B lb cb5]) := fun w' u0 u1 h => ⟨(h.1.far (p := ⟨w.heap.size, 0, none⟩) (by show q ≠ w.heap.size; omega) _).far (p := ⟨w.heap.size, 1, none⟩) (by show q ≠ w.heap.size; omega) _, (h.2.far (p := ⟨w.heap.size, 0, none⟩) (by show r ≠ w.heap.size; omega) _).far (p := ⟨w.heap.size, 1, none⟩) (by show r ≠ w.heap.size; omega) _⟩
   have HP2 : Hid (∀ w' u0 u1, Blk w' q 26 #[.int .i64 n, .slice A la ca] ∧ Blk w' r 26 #[.int .i64 n, .slice B lb cb5] → Blk ((w'.setCell ⟨w.heap.size + 1, 0, none⟩ u0).setCell ⟨w.heap.size + 1, 1, none⟩ u1) q 26 #[.int .i64 n, .slice A la ca] ∧ Blk ((w'.setCell ⟨w.heap.size + 1, 0, none⟩ u0).setCell ⟨w.heap.size + 1, 1, none⟩ u1) r 26 #[.int .i64 n, .slice B lb cb5]) := fun w' u0 u1 h => ⟨(h.1.far (p := ⟨w.heap.size + 1, 0, none⟩) (by show q ≠ w.heap.size + 1; omega) _).far (p := ⟨w.heap.size + 1, 1, none⟩) (by show q ≠ w.heap.size + 1; omega) _, (h.2.far (p := ⟨w.heap.size + 1, 0, none⟩) (by show r ≠ w.heap.size + 1; omega) _).far (p := ⟨w.heap.size + 1, 1, none⟩) (by show r ≠ w.heap.size + 1; omega) _⟩
   have HS1 : Hid (∀ u0 u1 : Value, (((w8.setCell ⟨w.heap.size, 0, none⟩ u0).setCell ⟨w.heap.size, 1, none⟩ u1).drew.cell? ⟨q, 0, none⟩ = some (.int .i64 n) ∧ ((w8.setCell ⟨w.heap.size, 0, none⟩ u0).setCell ⟨w.heap.size, 1, none⟩ u1).drew.cell? ⟨q, 1, none⟩ = some (.slice A la ca)) ∧ (((w8.setCell ⟨w.heap.size, 0, none⟩ u0).setCell ⟨w.heap.size, 1, none⟩ u1).drew.cell? ⟨r, 0, none⟩ = some (.int .i64 n) ∧ ((w8.setCell ⟨w.heap.size, 0, none⟩ u0).setCell ⟨w.heap.size, 1, none⟩ u1).drew.cell? ⟨r, 1, none⟩ = some (.slice B lb cb5))) := fun u0 u1 => HS.out _ (HP1.out w8 u0 u1 ⟨HD8.out.hq, HD8.out.hr⟩).1 (HP1.out w8 u0 u1 ⟨HD8.out.hq, HD8.out.hr⟩).2
   have HS2 : Hid (∀ u0 u1 v0 v1 : Value, (((((w8.setCell ⟨w.heap.size, 0, none⟩ u0).setCell ⟨w.heap.size, 1, none⟩ u1).setCell ⟨w.heap.size + 1, 0, none⟩ v0).setCell ⟨w.heap.size + 1, 1, none⟩ v1).drew.cell? ⟨q, 0, none⟩ = some (.int .i64 n) ∧ ((((w8.setCell ⟨w.heap.size, 0, none⟩ u0).setCell ⟨w.heap.size, 1, none⟩ u1).setCell ⟨w.heap.size + 1, 0, none⟩ v0).setCell ⟨w.heap.size + 1, 1, none⟩ v1).drew.cell? ⟨q, 1, none⟩ = some (.slice A la ca)) ∧ (((((w8.setCell ⟨w.heap.size, 0, none⟩ u0).setCell ⟨w.heap.size, 1, none⟩ u1).setCell ⟨w.heap.size + 1, 0, none⟩ v0).setCell ⟨w.heap.size + 1, 1, none⟩ v1).drew.cell? ⟨r, 0, none⟩ = some (.int .i64 n) ∧ ((((w8.setCell ⟨w.heap.size, 0, none⟩ u0).setCell ⟨w.heap.size, 1, none⟩ u1).setCell ⟨w.heap.size + 1, 0, none⟩ v0).setCell ⟨w.heap.size + 1, 1, none⟩ v1).drew.cell? ⟨r, 1, none⟩ = some (.slice B lb cb5))) := fun u0 u1 v0 v1 => HS.out _ (HP2.out _ v0 v1 (HP1.out w8 u0 u1 ⟨HD8.out.hq, HD8.out.hr⟩)).1 (HP2.out _ v0 v1 (HP1.out w8 u0 u1 ⟨HD8.out.hq, HD8.out.hr⟩)).2
   clear l1
   obtain ⟨⟨a0, a1⟩, -⟩ := blkT2 HD8.out.hq
   obtain ⟨⟨r0, r1⟩, -⟩ := blkT2 HD8.out.hr
   obtain ⟨⟨b0, b1⟩, y0, y1⟩ := blkT2 HD8.out.b0
   obtain ⟨⟨e0, e1⟩, z0, z1⟩ := blkT2 HD8.out.b1
   go_wp2
   go_region_held3 (fun w' => (w'.cell? ⟨q, 0, none⟩ = some (.int .i64 n) ∧ w'.cell? ⟨q, 1, none⟩ = some (.slice A la ca)) ∧ (w'.cell? ⟨r, 0, none⟩ = some (.int .i64 n) ∧ w'.cell? ⟨r, 1, none⟩ = some (.slice B lb cb5)))
    (first | (go_keep; done) | (with_reducible exact HS1.out _ _) | (with_reducible exact HS2.out _ _ _ _))
    (fail)
   all_goals
    go_wp2
    exact bodyPost_ret (v := .tuple #[.agg #[.int .i64 n, .slice A la ca], .agg #[.int .i64 n, .slice B lb cb5]]) (ret_cells2 rfl _ _ _ _ _ _ _ _ _ rfl rfl (HR0.out.ext (Ext.refl _).drew) (HR1.out.ext (Ext.refl _).drew) Tryz.underlying26 rfl Tryz.sizeCircuitR rfl) rfl (HF.out.ext (Ext.refl _).drew)

  ·go_wp2_with fail
   refine (l11Bent_any g 5 (by omega) _ HD8.out.cu).mono ?_
   rintro e w9 ⟨N9, B9, l9, c9, g9, rfl, -, hl9, ho9, hC9, hG9⟩
   have HD9 := Lib.hid (HD8.out.grown hG9 hC9)
   have HD10 := Lib.hid (HD9.out.put (N' := N9) (own_base ho9 (by have := HD8.out.cu.lt; omega)))
   obtain ⟨⟨r0, r1⟩, y0, y1⟩ := blkT2 HD9.out.hr
   clear hC9 hG9 ho9 HD8 HLB
   have HLB : Hid (l9 ≤ 200) := by unfold Hid; omega
   go_upto_region 11 with (fail)
   clear r0 r1 y0 y1 HD9 hl9
   rw [show (w9.setCell ⟨r, 0, none⟩ (.int .i64 N9)).setCell ⟨r, 1, none⟩ (.slice B9 l9 c9) = put2 w9 r (.int .i64 N9) (.slice B9 l9 c9) from rfl]
   generalize put2 w9 r (.int .i64 N9) (.slice B9 l9 c9) = w10 at *
   have HF := Lib.hid (HFIN.out _ _ _ _ _ _ (by have := HLB.out; omega) HD10.out)
   have HR0 : Hid (Blk (put2 (put2 w10 w.heap.size (.int .i64 n) (.slice A la ca)) (w.heap.size + 1) (.int .i64 N9) (.slice B9 l9 c9)) w.heap.size 26 #[.int .i64 n, .slice A la ca]) := ((HD10.out.b0.put2 _ _).far (p := ⟨w.heap.size + 1, 0, none⟩) (by show w.heap.size ≠ w.heap.size + 1; omega) _).far (p := ⟨w.heap.size + 1, 1, none⟩) (by show w.heap.size ≠ w.heap.size + 1; omega) _
   have c0 : Blk (put2 w10 w.heap.size (.int .i64 n) (.slice A la ca)) (w.heap.size + 1) 26 #[.int .i64 0, .slice none 0 0] := (HD10.out.b1.far (p := ⟨w.heap.size, 0, none⟩) (by show w.heap.size + 1 ≠ w.heap.size; omega) _).far (p := ⟨w.heap.size, 1, none⟩) (by show w.heap.size + 1 ≠ w.heap.size; omega) _
   have HR1 : Hid (Blk (put2 (put2 w10 w.heap.size (.int .i64 n) (.slice A la ca)) (w.heap.size + 1) (.int .i64 N9) (.slice B9 l9 c9)) (w.heap.size + 1) 26 #[.int .i64 N9, .slice B9 l9 c9]) := c0.put2 _ _
   clear c0
   have HS : Hid (∀ w', Blk w' q 26 #[.int .i64 n, .slice A la ca] → Blk w' r 26 #[.int .i64 N9, .slice B9 l9 c9] → (w'.cell? ⟨q, 0, none⟩ = some (.int .i64 n) ∧ w'.cell? ⟨q, 1, none⟩ = some (.slice A la ca)) ∧ (w'.cell? ⟨r, 0, none⟩ = some (.int .i64 N9) ∧ w'.cell? ⟨r, 1, none⟩ = some (.slice B9 l9 c9))) := fun w' h1 h2 => ⟨(blkT2 h1).1, (blkT2 h2).1⟩
   have l1 := HD10.out.le
   have HP1 : Hid (∀ w' u0 u1, Blk w' q 26 #[.int .i64 n, .slice A la ca] ∧ Blk w' r 26 #[.int .i64 N9, .slice B9 l9 c9] → Blk ((w'.setCell ⟨w.heap.size, 0, none⟩ u0).setCell ⟨w.heap.size, 1, none⟩ u1) q 26 #[.int .i64 n, .slice A la ca] ∧ Blk ((w'.setCell ⟨w.heap.size, 0, none⟩ u0).setCell ⟨w.heap.size, 1, none⟩ u1) r 26 #[.int .i64 N9, .slice B9 l9 c9]) := fun w' u0 u1 h => ⟨(h.1.far (p := ⟨w.heap.size, 0, none⟩) (by show q ≠ w.heap.size; omega) _).far (p := ⟨w.heap.size, 1, none⟩) (by show q ≠ w.heap.size; omega) _, (h.2.far (p := ⟨w.heap.size, 0, none⟩) (by show r ≠ w.heap.size; omega) _).far (p := ⟨w.heap.size, 1, none⟩) (by show r ≠ w.heap.size; omega) _⟩
   have HP2 : Hid (∀ w' u0 u1, Blk w' q 26 #[.int .i64 n, .slice A la ca] ∧ Blk w' r 26 #[.int .i64 N9, .slice B9 l9 c9] → Blk ((w'.setCell ⟨w.heap.size + 1, 0, none⟩ u0).setCell ⟨w.heap.size + 1, 1, none⟩ u1) q 26 #[.int .i64 n, .slice A la ca] ∧ Blk ((w'.setCell ⟨w.heap.size + 1, 0, none⟩ u0).setCell ⟨w.heap.size + 1, 1, none⟩ u1) r 26 #[.int .i64 N9, .slice B9 l9 c9]) := fun w' u0 u1 h => ⟨(h.1.far (p := ⟨w.heap.size + 1, 0, none⟩) (by show q ≠ w.heap.size + 1; omega) _).far (p := ⟨w.heap.size + 1, 1, none⟩) (by show q ≠ w.heap.size + 1; omega) _, (h.2.far (p := ⟨w.heap.size + 1, 0, none⟩) (by show r ≠ w.heap.size + 1; omega) _).far (p := ⟨w.heap.size + 1, 1, none⟩) (by show r ≠ w.heap.size + 1; omega) _⟩
   have HS1 : Hid (∀ u0 u1 : Value, (((w10.setCell ⟨w.heap.size, 0, none⟩ u0).setCell ⟨w.heap.size, 1, none⟩ u1).drew.cell? ⟨q, 0, none⟩ = some (.int .i64 n) ∧ ((w10.setCell ⟨w.heap.size, 0, none⟩ u0).setCell ⟨w.heap.size, 1, none⟩ u1).drew.cell? ⟨q, 1, none⟩ = some (.slice A la ca)) ∧ (((w10.setCell ⟨w.heap.size, 0, none⟩ u0).setCell ⟨w.heap.size, 1, none⟩ u1).drew.cell? ⟨r, 0, none⟩ = some (.int .i64 N9) ∧ ((w10.setCell ⟨w.heap.size, 0, none⟩ u0).setCell ⟨w.heap.size, 1, none⟩ u1).drew.cell? ⟨r, 1, none⟩ = some (.slice B9 l9 c9))) := fun u0 u1 => HS.out _ (HP1.out w10 u0 u1 ⟨HD10.out.hq, HD10.out.hr⟩).1 (HP1.out w10 u0 u1 ⟨HD10.out.hq, HD10.out.hr⟩).2
   have HS2 : Hid (∀ u0 u1 v0 v1 : Value, (((((w10.setCell ⟨w.heap.size, 0, none⟩ u0).setCell ⟨w.heap.size, 1, none⟩ u1).setCell ⟨w.heap.size + 1, 0, none⟩ v0).setCell ⟨w.heap.size + 1, 1, none⟩ v1).drew.cell? ⟨q, 0, none⟩ = some (.int .i64 n) ∧ ((((w10.setCell ⟨w.heap.size, 0, none⟩ u0).setCell ⟨w.heap.size, 1, none⟩ u1).setCell ⟨w.heap.size + 1, 0, none⟩ v0).setCell ⟨w.heap.size + 1, 1, none⟩ v1).drew.cell? ⟨q, 1, none⟩ = some (.slice A la ca)) ∧ (((((w10.setCell ⟨w.heap.size, 0, none⟩ u0).setCell ⟨w.heap.size, 1, none⟩ u1).setCell ⟨w.heap.size + 1, 0, none⟩ v0).setCell ⟨w.heap.size + 1, 1, none⟩ v1).drew.cell? ⟨r, 0, none⟩ = some (.int .i64 N9) ∧ ((((w10.setCell ⟨w.heap.size, 0, none⟩ u0).setCell ⟨w.heap.size, 1, none⟩ u1).setCell ⟨w.heap.size + 1, 0, none⟩ v0).setCell ⟨w.heap.size + 1, 1, none⟩ v1).drew.cell? ⟨r, 1, none⟩ = some (.slice B9 l9 c9))) := fun u0 u1 v0 v1 => HS.out _ (HP2.out _ v0 v1 (HP1.out w10 u0 u1 ⟨HD10.out.hq, HD10.out.hr⟩)).1 (HP2.out _ v0 v1 (HP1.out w10 u0 u1 ⟨HD10.out.hq, HD10.out.hr⟩)).2
   clear l1
   obtain ⟨⟨a0, a1⟩, -⟩ := blkT2 HD10.out.hq
   obtain ⟨⟨r0, r1⟩, -⟩ := blkT2 HD10.out.hr
   obtain ⟨⟨b0, b1⟩, y0, y1⟩ := blkT2 HD10.out.b0
   obtain ⟨⟨e0, e1⟩, z0, z1⟩ := blkT2 HD10.out.b1
   go_wp2
   go_region_held3 (fun w' => (w'.cell? ⟨q, 0, none⟩ = some (.int .i64 n) ∧ w'.cell? ⟨q, 1, none⟩ = some (.slice A la ca)) ∧ (w'.cell? ⟨r, 0, none⟩ = some (.int .i64 N9) ∧ w'.cell? ⟨r, 1, none⟩ = some (.slice B9 l9 c9)))
    (first | (go_keep; done) | (with_reducible exact HS1.out _ _) | (with_reducible exact HS2.out _ _ _ _))
    (fail)
   all_goals
    go_wp2
    exact bodyPost_ret (v := .tuple #[.agg #[.int .i64 n, .slice A la ca], .agg #[.int .i64 N9, .slice B9 l9 c9]]) (ret_cells2 rfl _ _ _ _ _ _ _ _ _ rfl rfl (HR0.out.ext (Ext.refl _).drew) (HR1.out.ext (Ext.refl _).drew) Tryz.underlying26 rfl Tryz.sizeCircuitR rfl) rfl (HF.out.ext (Ext.refl _).drew)
 ·have hq7 := HD7.out.hq
  obtain ⟨⟨a0, a1⟩, -⟩ := blkT2 hq7
  clear hq7
  go_wp2_with fail
  refine ((show Calls Tryz.prog 16 #[.agg #[.int .i64 n, .slice A la ca]] w7 (fun e w' => CiB w7 100 e w' ∧ Ext w7 w') by
   have hr := Rd.own HD7.out.oa
   have e := hr.len Gt.cells_len (by omega)
   rw [← e] at hr ⊢
   exact ResynthesizeClifford_any A ca n ga w7 hr (by have := HLB.out; have := HLA.out; omega))).mono ?_
  rintro e wa ⟨⟨Nx, Bx, lx, cx, gx, bx, rfl, hox, hlx⟩, hxx⟩
  have HDa := Lib.hid (HD7.out.ext hxx)
  have HOX := Lib.hid (own_base (base' := g + 1) hox (by have := HD7.out.cu.lt; omega))
  have HLX := Lib.hid hlx
  clear hox hlx hxx a0 a1 HD7
  go_upto_region 7 with (fail)
  have HXB : Hid (Blk (wa.alloc (.cells #[.int .i64 Nx, .slice Bx lx cx] 26)) wa.heap.size 26 #[.int .i64 Nx, .slice Bx lx cx]) := Blk.new _ _ _
  have HDb := Lib.hid (HDa.out.ext ((Ext.refl wa).alloc (.cells #[.int .i64 Nx, .slice Bx lx cx] 26)))
  have HOY := Lib.hid (own_ext HOX.out ((Ext.refl wa).alloc (.cells #[.int .i64 Nx, .slice Bx lx cx] 26)))
  clear HDa HOX
  generalize wa.alloc (.cells #[.int .i64 Nx, .slice Bx lx cx] 26) = wb at *
  generalize wa.heap.size = sx at *
  cases bx
  ·skip
   go_wp2_with fail
   refine (l1Once_any g 10 _ HDb.out.cu (by omega)).mono ?_
   rintro e w8 ⟨b2, rfl, hC8, hG8⟩
   have HD8 := Lib.hid (HDb.out.grown hG8 hC8)
   clear hC8 hG8 HDb
   cases b2
   ·skip
    have HF := Lib.hid (HFIN.out _ _ _ _ _ _ (by have := HLB.out; omega) HD8.out)
    have HR0 : Hid (Blk (put2 (put2 w8 w.heap.size (.int .i64 n) (.slice A la ca)) (w.heap.size + 1) (.int .i64 n) (.slice B lb cb5)) w.heap.size 26 #[.int .i64 n, .slice A la ca]) := ((HD8.out.b0.put2 _ _).far (p := ⟨w.heap.size + 1, 0, none⟩) (by show w.heap.size ≠ w.heap.size + 1; omega) _).far (p := ⟨w.heap.size + 1, 1, none⟩) (by show w.heap.size ≠ w.heap.size + 1; omega) _
    have c0 : Blk (put2 w8 w.heap.size (.int .i64 n) (.slice A la ca)) (w.heap.size + 1) 26 #[.int .i64 0, .slice none 0 0] := (HD8.out.b1.far (p := ⟨w.heap.size, 0, none⟩) (by show w.heap.size + 1 ≠ w.heap.size; omega) _).far (p := ⟨w.heap.size, 1, none⟩) (by show w.heap.size + 1 ≠ w.heap.size; omega) _
    have HR1 : Hid (Blk (put2 (put2 w8 w.heap.size (.int .i64 n) (.slice A la ca)) (w.heap.size + 1) (.int .i64 n) (.slice B lb cb5)) (w.heap.size + 1) 26 #[.int .i64 n, .slice B lb cb5]) := c0.put2 _ _
    clear c0
    have HS : Hid (∀ w', Blk w' q 26 #[.int .i64 n, .slice A la ca] → Blk w' r 26 #[.int .i64 n, .slice B lb cb5] → (w'.cell? ⟨q, 0, none⟩ = some (.int .i64 n) ∧ w'.cell? ⟨q, 1, none⟩ = some (.slice A la ca)) ∧ (w'.cell? ⟨r, 0, none⟩ = some (.int .i64 n) ∧ w'.cell? ⟨r, 1, none⟩ = some (.slice B lb cb5))) := fun w' h1 h2 => ⟨(blkT2 h1).1, (blkT2 h2).1⟩
    have l1 := HD8.out.le
    have HP1 : Hid (∀ w' u0 u1, Blk w' q 26 #[.int .i64 n, .slice A la ca] ∧ Blk w' r 26 #[.int .i64 n, .slice B lb cb5] → Blk ((w'.setCell ⟨w.heap.size, 0, none⟩ u0).setCell ⟨w.heap.size, 1, none⟩ u1) q 26 #[.int .i64 n, .slice A la ca] ∧ Blk ((w'.setCell ⟨w.heap.size, 0, none⟩ u0).setCell ⟨w.heap.size, 1, none⟩ u1) r 26 #[.int .i64 n, .slice B lb cb5]) := fun w' u0 u1 h => ⟨(h.1.far (p := ⟨w.heap.size, 0, none⟩) (by show q ≠ w.heap.size; omega) _).far (p := ⟨w.heap.size, 1, none⟩) (by show q ≠ w.heap.size; omega) _, (h.2.far (p := ⟨w.heap.size, 0, none⟩) (by show r ≠ w.heap.size; omega) _).far (p := ⟨w.heap.size, 1, none⟩) (by show r ≠ w.heap.size; omega) _⟩
    have HP2 : Hid (∀ w' u0 u1, Blk w' q 26 #[.int .i64 n, .slice A la ca] ∧ Blk w' r 26 #[.int .i64 n, .slice B lb cb5] → Blk ((w'.setCell ⟨w.heap.size + 1, 0, none⟩ u0).setCell ⟨w.heap.size + 1, 1, none⟩ u1) q 26 #[.int .i64 n, .slice A la ca] ∧ Blk ((w'.setCell ⟨w.heap.size + 1, 0, none⟩ u0).setCell ⟨w.heap.size + 1, 1, none⟩ u1) r 26 #[.int .i64 n, .slice B lb cb5]) := fun w' u0 u1 h => ⟨(h.1.far (p := ⟨w.heap.size + 1, 0, none⟩) (by show q ≠ w.heap.size + 1; omega) _).far (p := ⟨w.heap.size + 1, 1, none⟩) (by show q ≠ w.heap.size + 1; omega) _, (h.2.far (p := ⟨w.heap.size + 1, 0, none⟩) (by show r ≠ w.heap.size + 1; omega) _).far (p := ⟨w.heap.size + 1, 1, none⟩) (by show r ≠ w.heap.size + 1; omega) _⟩
    have HS1 : Hid (∀ u0 u1 : Value, (((w8.setCell ⟨w.heap.size, 0, none⟩ u0).setCell ⟨w.heap.size, 1, none⟩ u1).drew.cell? ⟨q, 0, none⟩ = some (.int .i64 n) ∧ ((w8.setCell ⟨w.heap.size, 0, none⟩ u0).setCell ⟨w.heap.size, 1, none⟩ u1).drew.cell? ⟨q, 1, none⟩ = some (.slice A la ca)) ∧ (((w8.setCell ⟨w.heap.size, 0, none⟩ u0).setCell ⟨w.heap.size, 1, none⟩ u1).drew.cell? ⟨r, 0, none⟩ = some (.int .i64 n) ∧ ((w8.setCell ⟨w.heap.size, 0, none⟩ u0).setCell ⟨w.heap.size, 1, none⟩ u1).drew.cell? ⟨r, 1, none⟩ = some (.slice B lb cb5))) := fun u0 u1 => HS.out _ (HP1.out w8 u0 u1 ⟨HD8.out.hq, HD8.out.hr⟩).1 (HP1.out w8 u0 u1 ⟨HD8.out.hq, HD8.out.hr⟩).2
    have HS2 : Hid (∀ u0 u1 v0 v1 : Value, (((((w8.setCell ⟨w.heap.size, 0, none⟩ u0).setCell ⟨w.heap.size, 1, none⟩ u1).setCell ⟨w.heap.size + 1, 0, none⟩ v0).setCell ⟨w.heap.size + 1, 1, none⟩ v1).drew.cell? ⟨q, 0, none⟩ = some (.int .i64 n) ∧ ((((w8.setCell ⟨w.heap.size, 0, none⟩ u0).setCell ⟨w.heap.size, 1, none⟩ u1).setCell ⟨w.heap.size + 1, 0, none⟩ v0).setCell ⟨w.heap.size + 1, 1, none⟩ v1).drew.cell? ⟨q, 1, none⟩ = some (.slice A la ca)) ∧ (((((w8.setCell ⟨w.heap.size, 0, none⟩ u0).setCell ⟨w.heap.size, 1, none⟩ u1).setCell ⟨w.heap.size + 1, 0, none⟩ v0).setCell ⟨w.heap.size + 1, 1, none⟩ v1).drew.cell? ⟨r, 0, none⟩ = some (.int .i64 n) ∧ ((((w8.setCell ⟨w.heap.size, 0, none⟩ u0).setCell ⟨w.heap.size, 1, none⟩ u1).setCell ⟨w.heap.size + 1, 0, none⟩ v0).setCell ⟨w.heap.size + 1, 1, none⟩ v1).drew.cell? ⟨r, 1, none⟩ = some (.slice B lb cb5))) := fun u0 u1 v0 v1 => HS.out _ (HP2.out _ v0 v1 (HP1.out w8 u0 u1 ⟨HD8.out.hq, HD8.out.hr⟩)).1 (HP2.out _ v0 v1 (HP1.out w8 u0 u1 ⟨HD8.out.hq, HD8.out.hr⟩)).2
    clear l1
    obtain ⟨⟨a0, a1⟩, -⟩ := blkT2 HD8.out.hq
    obtain ⟨⟨r0, r1⟩, -⟩ := blkT2 HD8.out.hr
    obtain ⟨⟨b0, b1⟩, y0, y1⟩ := blkT2 HD8.out.b0
    obtain ⟨⟨e0, e1⟩, z0, z1⟩ := blkT2 HD8.out.b1
    go_wp2
    go_region_held3 (fun w' => (w'.cell? ⟨q, 0, none⟩ = some (.int .i64 n) ∧ w'.cell? ⟨q, 1, none⟩ = some (.slice A la ca)) ∧ (w'.cell? ⟨r, 0, none⟩ = some (.int .i64 n) ∧ w'.cell? ⟨r, 1, none⟩ = some (.slice B lb cb5)))
     (first | (go_keep; done) | (with_reducible exact HS1.out _ _) | (with_reducible exact HS2.out _ _ _ _))
     (fail)
    all_goals
     go_wp2
     exact bodyPost_ret (v := .tuple #[.agg #[.int .i64 n, .slice A la ca], .agg #[.int .i64 n, .slice B lb cb5]]) (ret_cells2 rfl _ _ _ _ _ _ _ _ _ rfl rfl (HR0.out.ext (Ext.refl _).drew) (HR1.out.ext (Ext.refl _).drew) Tryz.underlying26 rfl Tryz.sizeCircuitR rfl) rfl (HF.out.ext (Ext.refl _).drew)

   ·go_wp2_with fail
    refine (l11Bent_any g 5 (by omega) _ HD8.out.cu).mono ?_
    rintro e w9 ⟨N9, B9, l9, c9, g9, rfl, -, hl9, ho9, hC9, hG9⟩
    have HD9 := Lib.hid (HD8.out.grown hG9 hC9)
    have HD10 := Lib.hid (HD9.out.put (N' := N9) (own_base ho9 (by have := HD8.out.cu.lt; omega)))
    obtain ⟨⟨r0, r1⟩, y0, y1⟩ := blkT2 HD9.out.hr
    clear hC9 hG9 ho9 HD8 HLB
    have HLB : Hid (l9 ≤ 200) := by unfold Hid; omega
    go_upto_region 11 with (fail)
    clear r0 r1 y0 y1 HD9 hl9
    rw [show (w9.setCell ⟨r, 0, none⟩ (.int .i64 N9)).setCell ⟨r, 1, none⟩ (.slice B9 l9 c9) = put2 w9 r (.int .i64 N9) (.slice B9 l9 c9) from rfl]
    generalize put2 w9 r (.int .i64 N9) (.slice B9 l9 c9) = w10 at *
    have HF := Lib.hid (HFIN.out _ _ _ _ _ _ (by have := HLB.out; omega) HD10.out)
    have HR0 : Hid (Blk (put2 (put2 w10 w.heap.size (.int .i64 n) (.slice A la ca)) (w.heap.size + 1) (.int .i64 N9) (.slice B9 l9 c9)) w.heap.size 26 #[.int .i64 n, .slice A la ca]) := ((HD10.out.b0.put2 _ _).far (p := ⟨w.heap.size + 1, 0, none⟩) (by show w.heap.size ≠ w.heap.size + 1; omega) _).far (p := ⟨w.heap.size + 1, 1, none⟩) (by show w.heap.size ≠ w.heap.size + 1; omega) _
    have c0 : Blk (put2 w10 w.heap.size (.int .i64 n) (.slice A la ca)) (w.heap.size + 1) 26 #[.int .i64 0, .slice none 0 0] := (HD10.out.b1.far (p := ⟨w.heap.size, 0, none⟩) (by show w.heap.size + 1 ≠ w.heap.size; omega) _).far (p := ⟨w.heap.size, 1, none⟩) (by show w.heap.size + 1 ≠ w.heap.size; omega) _
    have HR1 : Hid (Blk (put2 (put2 w10 w.heap.size (.int .i64 n) (.slice A la ca)) (w.heap.size + 1) (.int .i64 N9) (.slice B9 l9 c9)) (w.heap.size + 1) 26 #[.int .i64 N9, .slice B9 l9 c9]) := c0.put2 _ _
    clear c0
    have HS : Hid (∀ w', Blk w' q 26 #[.int .i64 n, .slice A la ca] → Blk w' r 26 #[.int .i64 N9, .slice B9 l9 c9] → (w'.cell? ⟨q, 0, none⟩ = some (.int .i64 n) ∧ w'.cell? ⟨q, 1, none⟩ = some (.slice A la ca)) ∧ (w'.cell? ⟨r, 0, none⟩ = some (.int .i64 N9) ∧ w'.cell? ⟨r, 1, none⟩ = some (.slice B9 l9 c9))) := fun w' h1 h2 => ⟨(blkT2 h1).1, (blkT2 h2).1⟩
    have l1 := HD10.out.le
    have HP1 : Hid (∀ w' u0 u1, Blk w' q 26 #[.int .i64 n, .slice A la ca] ∧ Blk w' r 26 #[.int .i64 N9, .slice B9 l9 c9] → Blk ((w'.setCell ⟨w.heap.size, 0, none⟩ u0).setCell ⟨w.heap.size, 1, none⟩ u1) q 26 #[.int .i64 n, .slice A la ca] ∧ Blk ((w'.setCell ⟨w.heap.size, 0, none⟩ u0).setCell ⟨w.heap.size, 1, none⟩ u1) r 26 #[.int .i64 N9, .slice B9 l9 c9]) := fun w' u0 u1 h => ⟨(h.1.far (p := ⟨w.heap.size, 0, none⟩) (by show q ≠ w.heap.size; omega) _).far (p := ⟨w.heap.size, 1, none⟩) (by show q ≠ w.heap.size; omega) _, (h.2.far (p := ⟨w.heap.size, 0, none⟩) (by show r ≠ w.heap.size; omega) _).far (p := ⟨w.heap.size, 1, none⟩) (by show r ≠ w.heap.size; omega) _⟩
    have HP2 : Hid (∀ w' u0 u1, Blk w' q 26 #[.int .i64 n, .slice A la ca] ∧ Blk w' r 26 #[.int .i64 N9, .slice B9 l9 c9] → Blk ((w'.setCell ⟨w.heap.size + 1, 0, none⟩ u0).setCell ⟨w.heap.size + 1, 1, none⟩ u1) q 26 #[.int .i64 n, .slice A la ca] ∧ Blk ((w'.setCell ⟨w.heap.size + 1, 0, none⟩ u0).setCell ⟨w.heap.size + 1, 1, none⟩ u1) r 26 #[.int .i64 N9, .slice B9 l9 c9]) := fun w' u0 u1 h => ⟨(h.1.far (p := ⟨w.heap.size + 1, 0, none⟩) (by show q ≠ w.heap.size + 1; omega) _).far (p := ⟨w.heap.size + 1, 1, none⟩) (by show q ≠ w.heap.size + 1; omega) _, (h.2.far (p := ⟨w.heap.size + 1, 0, none⟩) (by show r ≠ w.heap.size + 1; omega) _).far (p := ⟨w.heap.size + 1, 1, none⟩) (by show r ≠ w.heap.size + 1; omega) _⟩
    have HS1 : Hid (∀ u0 u1 : Value, (((w10.setCell ⟨w.heap.size, 0, none⟩ u0).setCell ⟨w.heap.size, 1, none⟩ u1).drew.cell? ⟨q, 0, none⟩ = some (.int .i64 n) ∧ ((w10.setCell ⟨w.heap.size, 0, none⟩ u0).setCell ⟨w.heap.size, 1, none⟩ u1).drew.cell? ⟨q, 1, none⟩ = some (.slice A la ca)) ∧ (((w10.setCell ⟨w.heap.size, 0, none⟩ u0).setCell ⟨w.heap.size, 1, none⟩ u1).drew.cell? ⟨r, 0, none⟩ = some (.int .i64 N9) ∧ ((w10.setCell ⟨w.heap.size, 0, none⟩ u0).setCell ⟨w.heap.size, 1, none⟩ u1).drew.cell? ⟨r, 1, none⟩ = some (.slice B9 l9 c9))) := fun u0 u1 => HS.out _ (HP1.out w10 u0 u1 ⟨HD10.out.hq, HD10.out.hr⟩).1 (HP1.out w10 u0 u1 ⟨HD10.out.hq, HD10.out.hr⟩).2
    have HS2 : Hid (∀ u0 u1 v0 v1 : Value, (((((w10.setCell ⟨w.heap.size, 0, none⟩ u0).setCell ⟨w.heap.size, 1, none⟩ u1).setCell ⟨w.heap.size + 1, 0, none⟩ v0).setCell ⟨w.heap.size + 1, 1, none⟩ v1).drew.cell? ⟨q, 0, none⟩ = some (.int .i64 n) ∧ ((((w10.setCell ⟨w.heap.size, 0, none⟩ u0).setCell ⟨w.heap.size, 1, none⟩ u1).setCell ⟨w.heap.size + 1, 0, none⟩ v0).setCell ⟨w.heap.size + 1, 1, none⟩ v1).drew.cell? ⟨q, 1, none⟩ = some (.slice A la ca)) ∧ (((((w10.setCell ⟨w.heap.size, 0, none⟩ u0).setCell ⟨w.heap.size, 1, none⟩ u1).setCell ⟨w.heap.size + 1, 0, none⟩ v0).setCell ⟨w.heap.size + 1, 1, none⟩ v1).drew.cell? ⟨r, 0, none⟩ = some (.int .i64 N9) ∧ ((((w10.setCell ⟨w.heap.size, 0, none⟩ u0).setCell ⟨w.heap.size, 1, none⟩ u1).setCell ⟨w.heap.size + 1, 0, none⟩ v0).setCell ⟨w.heap.size + 1, 1, none⟩ v1).drew.cell? ⟨r, 1, none⟩ = some (.slice B9 l9 c9))) := fun u0 u1 v0 v1 => HS.out _ (HP2.out _ v0 v1 (HP1.out w10 u0 u1 ⟨HD10.out.hq, HD10.out.hr⟩)).1 (HP2.out _ v0 v1 (HP1.out w10 u0 u1 ⟨HD10.out.hq, HD10.out.hr⟩)).2
    clear l1
    obtain ⟨⟨a0, a1⟩, -⟩ := blkT2 HD10.out.hq
    obtain ⟨⟨r0, r1⟩, -⟩ := blkT2 HD10.out.hr
    obtain ⟨⟨b0, b1⟩, y0, y1⟩ := blkT2 HD10.out.b0
    obtain ⟨⟨e0, e1⟩, z0, z1⟩ := blkT2 HD10.out.b1
    go_wp2
    go_region_held3 (fun w' => (w'.cell? ⟨q, 0, none⟩ = some (.int .i64 n) ∧ w'.cell? ⟨q, 1, none⟩ = some (.slice A la ca)) ∧ (w'.cell? ⟨r, 0, none⟩ = some (.int .i64 N9) ∧ w'.cell? ⟨r, 1, none⟩ = some (.slice B9 l9 c9)))
     (first | (go_keep; done) | (with_reducible exact HS1.out _ _) | (with_reducible exact HS2.out _ _ _ _))
     (fail)
    all_goals
     go_wp2
     exact bodyPost_ret (v := .tuple #[.agg #[.int .i64 n, .slice A la ca], .agg #[.int .i64 N9, .slice B9 l9 c9]]) (ret_cells2 rfl _ _ _ _ _ _ _ _ _ rfl rfl (HR0.out.ext (Ext.refl _).drew) (HR1.out.ext (Ext.refl _).drew) Tryz.underlying26 rfl Tryz.sizeCircuitR rfl) rfl (HF.out.ext (Ext.refl _).drew)
  ·obtain ⟨⟨s0, s1⟩, -⟩ := blkT2 HXB.out
   obtain ⟨⟨r0, r1⟩, y0, y1⟩ := blkT2 HDb.out.hr
   have HDc := Lib.hid (HDb.out.put (N' := Nx) HOY.out)
   go_upto_region 9 with (fail)
   clear s0 s1 r0 r1 y0 y1 HXB HOY HLB HDb
   have HLB : Hid (lx ≤ 200) := by have := HLX.out; unfold Hid; omega
   rw [show (wb.setCell ⟨r, 0, none⟩ (.int .i64 Nx)).setCell ⟨r, 1, none⟩ (.slice Bx lx cx) = put2 wb r (.int .i64 Nx) (.slice Bx lx cx) from rfl]
   generalize put2 wb r (.int .i64 Nx) (.slice Bx lx cx) = wc at *
   go_wp2_with fail
   refine (l1Once_any g 10 _ HDc.out.cu (by omega)).mono ?_
   rintro e w8 ⟨b2, rfl, hC8, hG8⟩
   have HD8 := Lib.hid (HDc.out.grown hG8 hC8)
   clear hC8 hG8 HDc
   cases b2
   ·skip
    have HF := Lib.hid (HFIN.out _ _ _ _ _ _ (by have := HLB.out; omega) HD8.out)
    have HR0 : Hid (Blk (put2 (put2 w8 w.heap.size (.int .i64 n) (.slice A la ca)) (w.heap.size + 1) (.int .i64 Nx) (.slice Bx lx cx)) w.heap.size 26 #[.int .i64 n, .slice A la ca]) := ((HD8.out.b0.put2 _ _).far (p := ⟨w.heap.size + 1, 0, none⟩) (by show w.heap.size ≠ w.heap.size + 1; omega) _).far (p := ⟨w.heap.size + 1, 1, none⟩) (by show w.heap.size ≠ w.heap.size + 1; omega) _
    have c0 : Blk (put2 w8 w.heap.size (.int .i64 n) (.slice A la ca)) (w.heap.size + 1) 26 #[.int .i64 0, .slice none 0 0] := (HD8.out.b1.far (p := ⟨w.heap.size, 0, none⟩) (by show w.heap.size + 1 ≠ w.heap.size; omega) _).far (p := ⟨w.heap.size, 1, none⟩) (by show w.heap.size + 1 ≠ w.heap.size; omega) _
    have HR1 : Hid (Blk (put2 (put2 w8 w.heap.size (.int .i64 n) (.slice A la ca)) (w.heap.size + 1) (.int .i64 Nx) (.slice Bx lx cx)) (w.heap.size + 1) 26 #[.int .i64 Nx, .slice Bx lx cx]) := c0.put2 _ _
    clear c0
    have HS : Hid (∀ w', Blk w' q 26 #[.int .i64 n, .slice A la ca] → Blk w' r 26 #[.int .i64 Nx, .slice Bx lx cx] → (w'.cell? ⟨q, 0, none⟩ = some (.int .i64 n) ∧ w'.cell? ⟨q, 1, none⟩ = some (.slice A la ca)) ∧ (w'.cell? ⟨r, 0, none⟩ = some (.int .i64 Nx) ∧ w'.cell? ⟨r, 1, none⟩ = some (.slice Bx lx cx))) := fun w' h1 h2 => ⟨(blkT2 h1).1, (blkT2 h2).1⟩
    have l1 := HD8.out.le
    have HP1 : Hid (∀ w' u0 u1, Blk w' q 26 #[.int .i64 n, .slice A la ca] ∧ Blk w' r 26 #[.int .i64 Nx, .slice Bx lx cx] → Blk ((w'.setCell ⟨w.heap.size, 0, none⟩ u0).setCell ⟨w.heap.size, 1, none⟩ u1) q 26 #[.int .i64 n, .slice A la ca] ∧ Blk ((w'.setCell ⟨w.heap.size, 0, none⟩ u0).setCell ⟨w.heap.size, 1, none⟩ u1) r 26 #[.int .i64 Nx, .slice Bx lx cx]) := fun w' u0 u1 h => ⟨(h.1.far (p := ⟨w.heap.size, 0, none⟩) (by show q ≠ w.heap.size; omega) _).far (p := ⟨w.heap.size, 1, none⟩) (by show q ≠ w.heap.size; omega) _, (h.2.far (p := ⟨w.heap.size, 0, none⟩) (by show r ≠ w.heap.size; omega) _).far (p := ⟨w.heap.size, 1, none⟩) (by show r ≠ w.heap.size; omega) _⟩
    have HP2 : Hid (∀ w' u0 u1, Blk w' q 26 #[.int .i64 n, .slice A la ca] ∧ Blk w' r 26 #[.int .i64 Nx, .slice Bx lx cx] → Blk ((w'.setCell ⟨w.heap.size + 1, 0, none⟩ u0).setCell ⟨w.heap.size + 1, 1, none⟩ u1) q 26 #[.int .i64 n, .slice A la ca] ∧ Blk ((w'.setCell ⟨w.heap.size + 1, 0, none⟩ u0).setCell ⟨w.heap.size + 1, 1, none⟩ u1) r 26 #[.int .i64 Nx, .slice Bx lx cx]) := fun w' u0 u1 h => ⟨(h.1.far (p := ⟨w.heap.size + 1, 0, none⟩) (by show q ≠ w.heap.size + 1; omega) _).far (p := ⟨w.heap.size + 1, 1, none⟩) (by show q ≠ w.heap.size + 1; omega) _, (h.2.far (p := ⟨w.heap.size + 1, 0, none⟩) (by show r ≠ w.heap.size + 1; omega) _).far (p := ⟨w.heap.size + 1, 1, none⟩) (by show r ≠ w.heap.size + 1; omega) _⟩
    have HS1 : Hid (∀ u0 u1 : Value, (((w8.setCell ⟨w.heap.size, 0, none⟩ u0).setCell ⟨w.heap.size, 1, none⟩ u1).drew.cell? ⟨q, 0, none⟩ = some (.int .i64 n) ∧ ((w8.setCell ⟨w.heap.size, 0, none⟩ u0).setCell ⟨w.heap.size, 1, none⟩ u1).drew.cell? ⟨q, 1, none⟩ = some (.slice A la ca)) ∧ (((w8.setCell ⟨w.heap.size, 0, none⟩ u0).setCell ⟨w.heap.size, 1, none⟩ u1).drew.cell? ⟨r, 0, none⟩ = some (.int .i64 Nx) ∧ ((w8.setCell ⟨w.heap.size, 0, none⟩ u0).setCell ⟨w.heap.size, 1, none⟩ u1).drew.cell? ⟨r, 1, none⟩ = some (.slice Bx lx cx))) := fun u0 u1 => HS.out _ (HP1.out w8 u0 u1 ⟨HD8.out.hq, HD8.out.hr⟩).1 (HP1.out w8 u0 u1 ⟨HD8.out.hq, HD8.out.hr⟩).2
    have HS2 : Hid (∀ u0 u1 v0 v1 : Value, (((((w8.setCell ⟨w.heap.size, 0, none⟩ u0).setCell ⟨w.heap.size, 1, none⟩ u1).setCell ⟨w.heap.size + 1, 0, none⟩ v0).setCell ⟨w.heap.size + 1, 1, none⟩ v1).drew.cell? ⟨q, 0, none⟩ = some (.int .i64 n) ∧ ((((w8.setCell ⟨w.heap.size, 0, none⟩ u0).setCell ⟨w.heap.size, 1, none⟩ u1).setCell ⟨w.heap.size + 1, 0, none⟩ v0).setCell ⟨w.heap.size + 1, 1, none⟩ v1).drew.cell? ⟨q, 1, none⟩ = some (.slice A la ca)) ∧ (((((w8.setCell ⟨w.heap.size, 0, none⟩ u0).setCell ⟨w.heap.size, 1, none⟩ u1).setCell ⟨w.heap.size + 1, 0, none⟩ v0).setCell ⟨w.heap.size + 1, 1, none⟩ v1).drew.cell? ⟨r, 0, none⟩ = some (.int .i64 Nx) ∧ ((((w8.setCell ⟨w.heap.size, 0, none⟩ u0).setCell ⟨w.heap.size, 1, none⟩ u1).setCell ⟨w.heap.size + 1, 0, none⟩ v0).setCell ⟨w.heap.size + 1, 1, none⟩ v1).drew.cell? ⟨r, 1, none⟩ = some (.slice Bx lx cx))) := fun u0 u1 v0 v1 => HS.out _ (HP2.out _ v0 v1 (HP1.out w8 u0 u1 ⟨HD8.out.hq, HD8.out.hr⟩)).1 (HP2.out _ v0 v1 (HP1.out w8 u0 u1 ⟨HD8.out.hq, HD8.out.hr⟩)).2
    clear l1
    obtain ⟨⟨a0, a1⟩, -⟩ := blkT2 HD8.out.hq
    obtain ⟨⟨r0, r1⟩, -⟩ := blkT2 HD8.out.hr
    obtain ⟨⟨b0, b1⟩, y0, y1⟩ := blkT2 HD8.out.b0
    obtain ⟨⟨e0, e1⟩, z0, z1⟩ := blkT2 HD8.out.b1
    go_wp2
    go_region_held3 (fun w' => (w'.cell? ⟨q, 0, none⟩ = some (.int .i64 n) ∧ w'.cell? ⟨q, 1, none⟩ = some (.slice A la ca)) ∧ (w'.cell? ⟨r, 0, none⟩ = some (.int .i64 Nx) ∧ w'.cell? ⟨r, 1, none⟩ = some (.slice Bx lx cx)))
     (first | (go_keep; done) | (with_reducible exact HS1.out _ _) | (with_reducible exact HS2.out _ _ _ _))
     (fail)
    all_goals
     go_wp2
     exact bodyPost_ret (v := .tuple #[.agg #[.int .i64 n, .slice A la ca], .agg #[.int .i64 Nx, .slice Bx lx cx]]) (ret_cells2 rfl _ _ _ _ _ _ _ _ _ rfl rfl (HR0.out.ext (Ext.refl _).drew) (HR1.out.ext (Ext.refl _).drew) Tryz.underlying26 rfl Tryz.sizeCircuitR rfl) rfl (HF.out.ext (Ext.refl _).drew)

   ·go_wp2_with fail
    refine (l11Bent_any g 5 (by omega) _ HD8.out.cu).mono ?_
    rintro e w9 ⟨N9, B9, l9, c9, g9, rfl, -, hl9, ho9, hC9, hG9⟩
    have HD9 := Lib.hid (HD8.out.grown hG9 hC9)
    have HD10 := Lib.hid (HD9.out.put (N' := N9) (own_base ho9 (by have := HD8.out.cu.lt; omega)))
    obtain ⟨⟨r0, r1⟩, y0, y1⟩ := blkT2 HD9.out.hr
    clear hC9 hG9 ho9 HD8 HLB
    have HLB : Hid (l9 ≤ 200) := by unfold Hid; omega
    go_upto_region 11 with (fail)
    clear r0 r1 y0 y1 HD9 hl9
    rw [show (w9.setCell ⟨r, 0, none⟩ (.int .i64 N9)).setCell ⟨r, 1, none⟩ (.slice B9 l9 c9) = put2 w9 r (.int .i64 N9) (.slice B9 l9 c9) from rfl]
    generalize put2 w9 r (.int .i64 N9) (.slice B9 l9 c9) = w10 at *
    have HF := Lib.hid (HFIN.out _ _ _ _ _ _ (by have := HLB.out; omega) HD10.out)
    have HR0 : Hid (Blk (put2 (put2 w10 w.heap.size (.int .i64 n) (.slice A la ca)) (w.heap.size + 1) (.int .i64 N9) (.slice B9 l9 c9)) w.heap.size 26 #[.int .i64 n, .slice A la ca]) := ((HD10.out.b0.put2 _ _).far (p := ⟨w.heap.size + 1, 0, none⟩) (by show w.heap.size ≠ w.heap.size + 1; omega) _).far (p := ⟨w.heap.size + 1, 1, none⟩) (by show w.heap.size ≠ w.heap.size + 1; omega) _
    have c0 : Blk (put2 w10 w.heap.size (.int .i64 n) (.slice A la ca)) (w.heap.size + 1) 26 #[.int .i64 0, .slice none 0 0] := (HD10.out.b1.far (p := ⟨w.heap.size, 0, none⟩) (by show w.heap.size + 1 ≠ w.heap.size; omega) _).far (p := ⟨w.heap.size, 1, none⟩) (by show w.heap.size + 1 ≠ w.heap.size; omega) _
    have HR1 : Hid (Blk (put2 (put2 w10 w.heap.size (.int .i64 n) (.slice A la ca)) (w.heap.size + 1) (.int .i64 N9) (.slice B9 l9 c9)) (w.heap.size + 1) 26 #[.int .i64 N9, .slice B9 l9 c9]) := c0.put2 _ _
    clear c0
    have HS : Hid (∀ w', Blk w' q 26 #[.int .i64 n, .slice A la ca] → Blk w' r 26 #[.int .i64 N9, .slice B9 l9 c9] → (w'.cell? ⟨q, 0, none⟩ = some (.int .i64 n) ∧ w'.cell? ⟨q, 1, none⟩ = some (.slice A la ca)) ∧ (w'.cell? ⟨r, 0, none⟩ = some (.int .i64 N9) ∧ w'.cell? ⟨r, 1, none⟩ = some (.slice B9 l9 c9))) := fun w' h1 h2 => ⟨(blkT2 h1).1, (blkT2 h2).1⟩
    have l1 := HD10.out.le
    have HP1 : Hid (∀ w' u0 u1, Blk w' q 26 #[.int .i64 n, .slice A la ca] ∧ Blk w' r 26 #[.int .i64 N9, .slice B9 l9 c9] → Blk ((w'.setCell ⟨w.heap.size, 0, none⟩ u0).setCell ⟨w.heap.size, 1, none⟩ u1) q 26 #[.int .i64 n, .slice A la ca] ∧ Blk ((w'.setCell ⟨w.heap.size, 0, none⟩ u0).setCell ⟨w.heap.size, 1, none⟩ u1) r 26 #[.int .i64 N9, .slice B9 l9 c9]) := fun w' u0 u1 h => ⟨(h.1.far (p := ⟨w.heap.size, 0, none⟩) (by show q ≠ w.heap.size; omega) _).far (p := ⟨w.heap.size, 1, none⟩) (by show q ≠ w.heap.size; omega) _, (h.2.far (p := ⟨w.heap.size, 0, none⟩) (by show r ≠ w.heap.size; omega) _).far (p := ⟨w.heap.size, 1, none⟩) (by show r ≠ w.heap.size; omega) _⟩
    have HP2 : Hid (∀ w' u0 u1, Blk w' q 26 #[.int .i64 n, .slice A la ca] ∧ Blk w' r 26 #[.int .i64 N9, .slice B9 l9 c9] → Blk ((w'.setCell ⟨w.heap.size + 1, 0, none⟩ u0).setCell ⟨w.heap.size + 1, 1, none⟩ u1) q 26 #[.int .i64 n, .slice A la ca] ∧ Blk ((w'.setCell ⟨w.heap.size + 1, 0, none⟩ u0).setCell ⟨w.heap.size + 1, 1, none⟩ u1) r 26 #[.int .i64 N9, .slice B9 l9 c9]) := fun w' u0 u1 h => ⟨(h.1.far (p := ⟨w.heap.size + 1, 0, none⟩) (by show q ≠ w.heap.size + 1; omega) _).far (p := ⟨w.heap.size + 1, 1, none⟩) (by show q ≠ w.heap.size + 1; omega) _, (h.2.far (p := ⟨w.heap.size + 1, 0, none⟩) (by show r ≠ w.heap.size + 1; omega) _).far (p := ⟨w.heap.size + 1, 1, none⟩) (by show r ≠ w.heap.size + 1; omega) _⟩
    have HS1 : Hid (∀ u0 u1 : Value, (((w10.setCell ⟨w.heap.size, 0, none⟩ u0).setCell ⟨w.heap.size, 1, none⟩ u1).drew.cell? ⟨q, 0, none⟩ = some (.int .i64 n) ∧ ((w10.setCell ⟨w.heap.size, 0, none⟩ u0).setCell ⟨w.heap.size, 1, none⟩ u1).drew.cell? ⟨q, 1, none⟩ = some (.slice A la ca)) ∧ (((w10.setCell ⟨w.heap.size, 0, none⟩ u0).setCell ⟨w.heap.size, 1, none⟩ u1).drew.cell? ⟨r, 0, none⟩ = some (.int .i64 N9) ∧ ((w10.setCell ⟨w.heap.size, 0, none⟩ u0).setCell ⟨w.heap.size, 1, none⟩ u1).drew.cell? ⟨r, 1, none⟩ = some (.slice B9 l9 c9))) := fun u0 u1 => HS.out _ (HP1.out w10 u0 u1 ⟨HD10.out.hq, HD10.out.hr⟩).1 (HP1.out w10 u0 u1 ⟨HD10.out.hq, HD10.out.hr⟩).2
    have HS2 : Hid (∀ u0 u1 v0 v1 : Value, (((((w10.setCell ⟨w.heap.size, 0, none⟩ u0).setCell ⟨w.heap.size, 1, none⟩ u1).setCell ⟨w.heap.size + 1, 0, none⟩ v0).setCell ⟨w.heap.size + 1, 1, none⟩ v1).drew.cell? ⟨q, 0, none⟩ = some (.int .i64 n) ∧ ((((w10.setCell ⟨w.heap.size, 0, none⟩ u0).setCell ⟨w.heap.size, 1, none⟩ u1).setCell ⟨w.heap.size + 1, 0, none⟩ v0).setCell ⟨w.heap.size + 1, 1, none⟩ v1).drew.cell? ⟨q, 1, none⟩ = some (.slice A la ca)) ∧ (((((w10.setCell ⟨w.heap.size, 0, none⟩ u0).setCell ⟨w.heap.size, 1, none⟩ u1).setCell ⟨w.heap.size + 1, 0, none⟩ v0).setCell ⟨w.heap.size + 1, 1, none⟩ v1).drew.cell? ⟨r, 0, none⟩ = some (.int .i64 N9) ∧ ((((w10.setCell ⟨w.heap.size, 0, none⟩ u0).setCell ⟨w.heap.size, 1, none⟩ u1).setCell ⟨w.heap.size + 1, 0, none⟩ v0).setCell ⟨w.heap.size + 1, 1, none⟩ v1).drew.cell? ⟨r, 1, none⟩ = some (.slice B9 l9 c9))) := fun u0 u1 v0 v1 => HS.out _ (HP2.out _ v0 v1 (HP1.out w10 u0 u1 ⟨HD10.out.hq, HD10.out.hr⟩)).1 (HP2.out _ v0 v1 (HP1.out w10 u0 u1 ⟨HD10.out.hq, HD10.out.hr⟩)).2
    clear l1
    obtain ⟨⟨a0, a1⟩, -⟩ := blkT2 HD10.out.hq
    obtain ⟨⟨r0, r1⟩, -⟩ := blkT2 HD10.out.hr
    obtain ⟨⟨b0, b1⟩, y0, y1⟩ := blkT2 HD10.out.b0
    obtain ⟨⟨e0, e1⟩, z0, z1⟩ := blkT2 HD10.out.b1
    go_wp2
    go_region_held3 (fun w' => (w'.cell? ⟨q, 0, none⟩ = some (.int .i64 n) ∧ w'.cell? ⟨q, 1, none⟩ = some (.slice A la ca)) ∧ (w'.cell? ⟨r, 0, none⟩ = some (.int .i64 N9) ∧ w'.cell? ⟨r, 1, none⟩ = some (.slice B9 l9 c9)))
     (first | (go_keep; done) | (with_reducible exact HS1.out _ _) | (with_reducible exact HS2.out _ _ _ _))
     (fail)
    all_goals
     go_wp2
     exact bodyPost_ret (v := .tuple #[.agg #[.int .i64 n, .slice A la ca], .agg #[.int .i64 N9, .slice B9 l9 c9]]) (ret_cells2 rfl _ _ _ _ _ _ _ _ _ rfl rfl (HR0.out.ext (Ext.refl _).drew) (HR1.out.ext (Ext.refl _).drew) Tryz.underlying26 rfl Tryz.sizeCircuitR rfl) rfl (HF.out.ext (Ext.refl _).drew)
end Go.Proofs.YtioimnplhmgbgaaGreat
/-
 Helper text (no claim of its own): the ring of amplitudes as the program reckons in it (plain Lean).
-/
namespace Go.Proofs.YtioimnplhmgbgaaGreat
open Go.ChangeShapes Go.WideShapes Go.ChangeAt Go.RowKit Go.Deep
structure Zw where
 a : Int
 b : Int
 c : Int
 d : Int
abbrev Zw.val (x : Zw) : Value := .agg #[.int .i64 x.a, .int .i64 x.b, .int .i64 x.c, .int .i64 x.d]
def z0 : Zw := ⟨0, 0, 0, 0⟩
def nr (n : Int) : Bool := decide (-1073741824 ≤ n) && decide (n ≤ 1073741824)
def zok (x : Zw) : Bool := nr x.a && nr x.b && nr x.c && nr x.d
theorem nr_iff {n : Int} : nr n = true ↔ -1073741824 ≤ n ∧ n ≤ 1073741824 := by unfold nr; simp
theorem zok_iff {x : Zw} : zok x = true ↔ (-1073741824 ≤ x.a ∧ x.a ≤ 1073741824) ∧ (-1073741824 ≤ x.b ∧ x.b ≤ 1073741824) ∧ (-1073741824 ≤ x.c ∧ x.c ≤ 1073741824) ∧ (-1073741824 ≤ x.d ∧ x.d ≤ 1073741824) := by
 unfold zok
 simp only [Bool.and_eq_true, nr_iff, and_assoc]
def zadd (x y : Zw) : Zw := ⟨x.a + y.a, x.b + y.b, x.c + y.c, x.d + y.d⟩
def zmul (x y : Zw) : Zw := ⟨x.a * y.a - x.b * y.d - x.c * y.c - x.d * y.b, x.a * y.b + x.b * y.a - x.c * y.d - x.d * y.c, x.a * y.c + x.b * y.b + x.c * y.a - x.d * y.d, x.a * y.d + x.b * y.c + x.c * y.b + x.d * y.a⟩
def zif (x : Zw) : Zw × Bool := if zok x = true then (x, true) else (z0, false)
theorem zif_y {x : Zw} (h : zok x = true) : zif x = (x, true) := if_pos h
def zAdd (x y : Zw) : Zw × Bool := if (zok x && zok y) = true then zif (zadd x y) else (z0, false)
def zMul (x y : Zw) : Zw × Bool := if (zok x && zok y) = true then zif (zmul x y) else (z0, false)
theorem zAdd_y {x y : Zw} (hx : zok x = true) (hy : zok y = true) : zAdd x y = zif (zadd x y) := if_pos (by rw [hx, hy]; rfl)
theorem zMul_y {x y : Zw} (hx : zok x = true) (hy : zok y = true) : zMul x y = zif (zmul x y) := if_pos (by rw [hx, hy]; rfl)
/-- Divided by the root of 2. -/
def zrt (x : Zw) : Zw := ⟨x.b - x.d, x.a + x.c, x.b + x.d, x.c - x.a⟩
def zhalf (x : Zw) : Zw := ⟨x.a.tdiv 2, x.b.tdiv 2, x.c.tdiv 2, x.d.tdiv 2⟩
def ev (n : Int) : Bool := n.tmod 2 == 0
def zev (x : Zw) : Bool := ev x.a && ev x.b && ev x.c && ev x.d
def zDiv (x : Zw) : Zw × Bool := if (zok x && zev (zrt x)) = true then (zhalf (zrt x), true) else (z0, false)
theorem zDiv_n {x : Zw} (h : zok x = false ∨ zev (zrt x) = false) : zDiv x = (z0, false) := if_neg (by rcases h with h | h <;> simp [h])
theorem zDiv_y {x : Zw} (h : zok x = true) (h' : zev (zrt x) = true) : zDiv x = (zhalf (zrt x), true) := if_pos (by rw [h, h']; rfl)

structure Dw where
 n : Zw
 e : Int
abbrev Dw.val (x : Dw) : Value := .agg #[.int .i64 x.n.a, .int .i64 x.n.b, .int .i64 x.n.c, .int .i64 x.n.d, .int .i64 x.e]
def d0 : Dw := ⟨z0, 0⟩
def ex60 (e : Int) : Bool := decide (0 ≤ e) && decide (e ≤ 60)
def dok (x : Dw) : Bool := zok x.n && ex60 x.e && (x.e == 0 || !(zDiv x.n).2)
/-- Divided by the root of 2 as often as it goes, at most k times. -/
def nwL : Nat → Zw → Zw × Nat
 | 0, n => (n, 0)
 | k + 1, n => if (zDiv n).2 = true then nwL k (zDiv n).1 else (n, k + 1)
theorem nwL_y {k : Nat} {n : Zw} (h : (zDiv n).2 = true) : nwL (k + 1) n = nwL k (zDiv n).1 := if_pos h
theorem nwL_n {k : Nat} {n : Zw} (h : (zDiv n).2 = false) : nwL (k + 1) n = (n, k + 1) := if_neg (by simp [h])
def newD (n : Zw) (k : Int) : Dw × Bool := if (zok n && decide (0 ≤ k) && decide (k ≤ 120) && decide ((nwL k.toNat n).2 ≤ 60)) = true then (⟨(nwL k.toNat n).1, (nwL k.toNat n).2⟩, true) else (d0, false)
theorem newD_y {n : Zw} {k : Int} (h : zok n = true) (h0 : 0 ≤ k) (h1 : k ≤ 120) (h2 : (nwL k.toNat n).2 ≤ 60) : newD n k = (⟨(nwL k.toNat n).1, (nwL k.toNat n).2⟩, true) := by
 refine if_pos ?_
 simp [h, h0, h1, h2]
def zrootc : Zw := ⟨0, 1, 0, -1⟩
/-- Times the root of 2, k times. -/
def zup : Nat → Zw → Zw × Bool
 | 0, n => (n, true)
 | k + 1, n => if (zMul n zrootc).2 = true then zup k (zMul n zrootc).1 else (z0, false)
theorem zup_y {k : Nat} {n : Zw} (h : (zMul n zrootc).2 = true) : zup (k + 1) n = zup k (zMul n zrootc).1 := if_pos h
def addK (x y : Zw) (i j : Nat) (k : Int) : Dw × Bool := if ((zup i x).2 && (zup j y).2 && (zAdd (zup i x).1 (zup j y).1).2) = true then newD (zAdd (zup i x).1 (zup j y).1).1 k else (d0, false)
def mx (a b : Int) : Int := if a < b then b else a
def addD (x y : Dw) : Dw × Bool := if (dok x && dok y) = true then addK x.n y.n (mx x.e y.e - x.e).toNat (mx x.e y.e - y.e).toNat (mx x.e y.e) else (d0, false)
theorem addD_y {x y : Dw} (hx : dok x = true) (hy : dok y = true) : addD x y = addK x.n y.n (mx x.e y.e - x.e).toNat (mx x.e y.e - y.e).toNat (mx x.e y.e) := if_pos (by rw [hx, hy]; rfl)
def mulD (x y : Dw) : Dw × Bool := if (dok x && dok y && (zMul x.n y.n).2) = true then newD (zMul x.n y.n).1 (x.e + y.e) else (d0, false)
theorem mulD_y {x y : Dw} (hx : dok x = true) (hy : dok y = true) (hm : (zMul x.n y.n).2 = true) : mulD x y = newD (zMul x.n y.n).1 (x.e + y.e) := if_pos (by rw [hx, hy, hm]; rfl)
/-- Products of near numbers are far from the ends of the int's range. -/
theorem prod_near {x y : Int} (hx : -1073741824 ≤ x ∧ x ≤ 1073741824) (hy : -1073741824 ≤ y ∧ y ≤ 1073741824) : -1152921504606846976 ≤ x * y ∧ x * y ≤ 1152921504606846976 := by
 have h1 : x.natAbs ≤ 1073741824 := by omega
 have h2 : y.natAbs ≤ 1073741824 := by omega
 have h3 : (x * y).natAbs ≤ 1073741824 * 1073741824 := by rw [Int.natAbs_mul]; exact Nat.mul_le_mul h1 h2
 omega
end Go.Proofs.YtioimnplhmgbgaaGreat
/-
 Helper text (no claim of its own): amplitudes: rows of five cells. Printed by gen_am.py or gen_an.py.
-/
namespace Go.Proofs.YtioimnplhmgbgaaGreat
open Go.ChangeShapes Go.WideShapes Go.ChangeAt Go.RowKit Go.Deep
set_option linter.unusedVariables false
set_option linter.unusedSimpArgs false
theorem Tryz.sizeZOmega : (Tryz.prog.info? 60).map (·.size) = some 4 := by kernel_rfl
theorem Tryz.sizeDOmega : (Tryz.prog.info? 62).map (·.size) = some 5 := by kernel_rfl
theorem cells5 {w : World} {g t : Nat} {a b c d e : Value} (h : Blk w g t #[a, b, c, d, e]) : (w.cell? ⟨g, 0, none⟩ = some a ∧ w.cell? ⟨g, 1, none⟩ = some b ∧ w.cell? ⟨g, 2, none⟩ = some c ∧ w.cell? ⟨g, 3, none⟩ = some d ∧ w.cell? ⟨g, 4, none⟩ = some e) ∧ w.frozen? ⟨g, 0, none⟩ = false ∧ w.frozen? ⟨g, 1, none⟩ = false ∧ w.frozen? ⟨g, 2, none⟩ = false ∧ w.frozen? ⟨g, 3, none⟩ = false ∧ w.frozen? ⟨g, 4, none⟩ = false :=
 ⟨⟨h.cell 0, h.cell 1, h.cell 2, h.cell 3, h.cell 4⟩, h.frozen 0, h.frozen 1, h.frozen 2, h.frozen 3, h.frozen 4⟩
def put5 (w : World) (g : Nat) (a b c d e : Value) : World := ((((w.setCell ⟨g, 0, none⟩ a).setCell ⟨g, 1, none⟩ b).setCell ⟨g, 2, none⟩ c).setCell ⟨g, 3, none⟩ d).setCell ⟨g, 4, none⟩ e
theorem Blk.put5 {w : World} {g t : Nat} {z0 z1 z2 z3 z4 : Value} (h : Blk w g t #[z0, z1, z2, z3, z4]) (a b c d e : Value) : Blk (put5 w g a b c d e) g t #[a, b, c, d, e] :=
 ((((h.set_ 0 a).set_ 1 b).set_ 2 c).set_ 3 d).set_ 4 e
theorem ext_put5 {w0 w : World} (h : Ext w0 w) {g : Nat} (hg : w0.heap.size ≤ g) (a b c d e : Value) : Ext w0 (put5 w g a b c d e) :=
 ((((h.setCell (p := ⟨g, 0, none⟩) hg a).setCell (p := ⟨g, 1, none⟩) hg b).setCell (p := ⟨g, 2, none⟩) hg c).setCell (p := ⟨g, 3, none⟩) hg d).setCell (p := ⟨g, 4, none⟩) hg e
theorem far_put5 {w : World} {g k t : Nat} {cs : Array Value} (h : Blk w k t cs) (hg : k ≠ g) (a b c d e : Value) : Blk (put5 w g a b c d e) k t cs :=
 ((((h.far (p := ⟨g, 0, none⟩) hg a).far (p := ⟨g, 1, none⟩) hg b).far (p := ⟨g, 2, none⟩) hg c).far (p := ⟨g, 3, none⟩) hg d).far (p := ⟨g, 4, none⟩) hg e
theorem retZ {fn : Func} {p : Tmp} (hf : fn.results = #[.cell p 60]) {W : World} {q : Nat} {cs : Array Value} (hB : Blk W q 60 cs) (tmps : Array Value)
  (hp : tmps.getD p undef = .pointer (some ⟨q, 0, none⟩)) (hs : cs.size = 4) : (results fn tmps).run Tryz.prog W = .ok (.agg cs) W :=
 results_cell_row hf tmps _ q 60 _ (0, 0) _ hp hB Tryz.underlying60 rfl (by rw [hs]; exact Tryz.sizeZOmega)
theorem retD {fn : Func} {p : Tmp} (hf : fn.results = #[.cell p 62]) {W : World} {q : Nat} {cs : Array Value} (hB : Blk W q 62 cs) (tmps : Array Value)
  (hp : tmps.getD p undef = .pointer (some ⟨q, 0, none⟩)) (hs : cs.size = 5) : (results fn tmps).run Tryz.prog W = .ok (.agg cs) W :=
 results_cell_row hf tmps _ q 62 _ (0, 0) _ hp hB Tryz.underlying62 rfl (by rw [hs]; exact Tryz.sizeDOmega)
end Go.Proofs.YtioimnplhmgbgaaGreat
/-
 Helper text (no claim of its own): sums and products in the ring, by the reference. Printed by gen_am.py or gen_an.py.
-/
namespace Go.Proofs.YtioimnplhmgbgaaGreat
open Go.ChangeShapes Go.WideShapes Go.ChangeAt Go.RowKit Go.Deep
set_option linter.unusedVariables false
set_option linter.unusedSimpArgs false
theorem l2Near_yes (n : Int) (w : World) (h : nr n = true) : Calls Tryz.prog 106 #[.int .i64 n] w fun e w' => e = .returned (.bool true) ∧ w = w' := by
 rw [nr_iff] at h
 go_enter Tryz.func106, Tryz.ntmps106
 go_wp2_with fail
 refine (l1In_yes _ _ _ _ h.1 h.2).mono ?_
 rintro e w' ⟨rfl, rfl⟩
 go_wp2
 go_ret
 exact ⟨rfl, rfl⟩
theorem zok4 {x : Zw} (h : zok x = true) : nr x.a = true ∧ nr x.b = true ∧ nr x.c = true ∧ nr x.d = true := by
 unfold zok at h
 simp only [Bool.and_eq_true] at h
 exact ⟨h.1.1.1, h.1.1.2, h.1.2, h.2⟩
set_option maxRecDepth 100000 in
set_option maxHeartbeats 8000000 in
theorem IsValidZOmega_yes (x : Zw) (w : World) (h : zok x = true) : Calls Tryz.prog 91 #[x.val] w fun e w' => e = .returned (.bool true) ∧ Ext w w' := by
 have HV := Lib.hid (zok4 h)
 clear h
 go_enter Tryz.func91, Tryz.ntmps91
 go_wp2_with fail
 refine (l2Near_yes _ _ HV.out.1).mono ?_
 rintro e w' ⟨rfl, rfl⟩
 go_wp2_with fail
 refine (l2Near_yes _ _ HV.out.2.1).mono ?_
 rintro e w' ⟨rfl, rfl⟩
 go_wp2_with fail
 refine (l2Near_yes _ _ HV.out.2.2.1).mono ?_
 rintro e w' ⟨rfl, rfl⟩
 go_wp2_with fail
 refine (l2Near_yes _ _ HV.out.2.2.2).mono ?_
 rintro e w' ⟨rfl, rfl⟩
 go_wp2
 go_ret
 exact ⟨rfl, xx⟩
set_option maxRecDepth 100000 in
set_option maxHeartbeats 8000000 in
theorem l2If_yes (x : Zw) (w : World) (h : zok x = true) : Calls Tryz.prog 92 #[x.val] w fun e w' => e = .returned (.tuple #[x.val, .bool true]) ∧ Ext w w' := by
 go_enter Tryz.func92, Tryz.ntmps92
 go_wp2_with fail
 refine (IsValidZOmega_yes x _ h).mono ?_
 rintro e w1 ⟨rfl, hx1⟩
 have HBX1 : Hid (Blk w1 (w.heap.size) 60 #[.int .i64 x.a, .int .i64 x.b, .int .i64 x.c, .int .i64 x.d]) := (((Blk.newAt (b := w.heap.size) rfl).alloc _)).ext hx1
 have HBR1 : Hid (Blk w1 (w.heap.size + 1) 60 #[.int .i64 0, .int .i64 0, .int .i64 0, .int .i64 0]) := ((Blk.newAt (b := w.heap.size + 1) (by simp))).ext hx1
 have HE1 : Hid (Ext w w1) := Ext.trans (by exact xx) hx1
 clear hx1
 obtain ⟨⟨cX0, cX1, cX2, cX3⟩, -⟩ := cells4 HBX1.out
 obtain ⟨⟨cR0, cR1, cR2, cR3⟩, fR0, fR1, fR2, fR3⟩ := cells4 HBR1.out
 go_wp2
 have HBB : Hid (Blk (put4 w1 (w.heap.size + 1) (.int .i64 x.a) (.int .i64 x.b) (.int .i64 x.c) (.int .i64 x.d)) (w.heap.size + 1) 60 #[.int .i64 x.a, .int .i64 x.b, .int .i64 x.c, .int .i64 x.d]) := HBR1.out.put4 _ _ _ _
 refine bodyPost_ret (v := .tuple #[.agg #[.int .i64 x.a, .int .i64 x.b, .int .i64 x.c, .int .i64 x.d], .bool true]) ?_ rfl ?_
 rotate_left
 ·exact ⟨rfl, ext_put4 (g := w.heap.size + 1) HE1.out (by omega) _ _ _ _⟩
 ·exact ret_pair rfl _ _ _ _ _ _ _ rfl rfl HBB.out Tryz.underlying60 rfl Tryz.sizeZOmega
theorem wrap_of {n : Int} (h : nr n = true) : IntKind.i64.wrap n = n := by
 rw [nr_iff] at h
 exact IntWalk.i64_in _ (by omega)
set_option maxRecDepth 100000 in
set_option maxHeartbeats 8000000 in
theorem AddZOmega_yes (x y : Zw) (w : World) (hx : zok x = true) (hy : zok y = true) (h : zok (zadd x y) = true) : Calls Tryz.prog 105 #[x.val, y.val] w fun e w' => e = .returned (.tuple #[(zadd x y).val, .bool true]) ∧ Ext w w' := by
 have HX0 := Lib.hid hx
 have HY0 := Lib.hid hy
 have HZ := Lib.hid h
 have HS : Hid (nr (x.a + y.a) = true ∧ nr (x.b + y.b) = true ∧ nr (x.c + y.c) = true ∧ nr (x.d + y.d) = true) := zok4 h
 clear hx hy h
 go_enter Tryz.func105, Tryz.ntmps105
 go_wp2_with fail
 refine (IsValidZOmega_yes x _ HX0.out).mono ?_
 rintro e w1 ⟨rfl, hx1⟩
 have HBX1 : Hid (Blk w1 (w.heap.size) 60 #[.int .i64 x.a, .int .i64 x.b, .int .i64 x.c, .int .i64 x.d]) := ((((Blk.newAt (b := w.heap.size) rfl).alloc _).alloc _)).ext hx1
 have HBY1 : Hid (Blk w1 (w.heap.size + 1) 60 #[.int .i64 y.a, .int .i64 y.b, .int .i64 y.c, .int .i64 y.d]) := (((Blk.newAt (b := w.heap.size + 1) (by simp)).alloc _)).ext hx1
 have HBR1 : Hid (Blk w1 (w.heap.size + 2) 60 #[.int .i64 0, .int .i64 0, .int .i64 0, .int .i64 0]) := ((Blk.newAt (b := w.heap.size + 2) (by simp))).ext hx1
 have HE1 : Hid (Ext w w1) := Ext.trans (by exact xx) hx1
 clear hx1
 obtain ⟨⟨cY0, cY1, cY2, cY3⟩, -⟩ := cells4 HBY1.out
 go_wp2_with fail
 refine (IsValidZOmega_yes y _ HY0.out).mono ?_
 rintro e w2 ⟨rfl, hx2⟩
 have HBX2 := Lib.hid (HBX1.out.ext hx2)
 have HBY2 := Lib.hid (HBY1.out.ext hx2)
 have HBR2 := Lib.hid (HBR1.out.ext hx2)
 have HE2 := Lib.hid (HE1.out.trans hx2)
 clear hx2
 clear cY0 cY1 cY2 cY3
 obtain ⟨⟨cX0, cX1, cX2, cX3⟩, -⟩ := cells4 HBX2.out
 obtain ⟨⟨cY0, cY1, cY2, cY3⟩, -⟩ := cells4 HBY2.out
 have hwa := wrap_of HS.out.1
 have hwb := wrap_of HS.out.2.1
 have hwc := wrap_of HS.out.2.2.1
 have hwd := wrap_of HS.out.2.2.2
 go_wp2_with fail
 refine (l2If_yes (zadd x y) _ HZ.out).mono ?_
 rintro e w3 ⟨rfl, hx3⟩
 have HBX3 := Lib.hid (HBX2.out.ext hx3)
 have HBY3 := Lib.hid (HBY2.out.ext hx3)
 have HBR3 := Lib.hid (HBR2.out.ext hx3)
 have HE3 := Lib.hid (HE2.out.trans hx3)
 clear hx3
 clear hwa hwb hwc hwd
 clear cX0 cX1 cX2 cX3
 clear cY0 cY1 cY2 cY3
 obtain ⟨⟨cR0, cR1, cR2, cR3⟩, fR0, fR1, fR2, fR3⟩ := cells4 HBR3.out
 go_wp2
 have HBB : Hid (Blk (put4 w3 (w.heap.size + 2) (.int .i64 (zadd x y).a) (.int .i64 (zadd x y).b) (.int .i64 (zadd x y).c) (.int .i64 (zadd x y).d)) (w.heap.size + 2) 60 #[.int .i64 (zadd x y).a, .int .i64 (zadd x y).b, .int .i64 (zadd x y).c, .int .i64 (zadd x y).d]) := HBR3.out.put4 _ _ _ _
 refine bodyPost_ret (v := .tuple #[.agg #[.int .i64 (zadd x y).a, .int .i64 (zadd x y).b, .int .i64 (zadd x y).c, .int .i64 (zadd x y).d], .bool true]) ?_ rfl ?_
 rotate_left
 ·exact ⟨rfl, ext_put4 (g := w.heap.size + 2) HE3.out (by omega) _ _ _ _⟩
 ·exact ret_pair rfl _ _ _ _ _ _ _ rfl rfl HBB.out Tryz.underlying60 rfl Tryz.sizeZOmega
set_option maxRecDepth 100000 in
set_option maxHeartbeats 8000000 in
theorem MulZOmega_yes (x y : Zw) (w : World) (hx : zok x = true) (hy : zok y = true) (h : zok (zmul x y) = true) : Calls Tryz.prog 78 #[x.val, y.val] w fun e w' => e = .returned (.tuple #[(zmul x y).val, .bool true]) ∧ Ext w w' := by
 have HX0 := Lib.hid hx
 have HY0 := Lib.hid hy
 have HZ := Lib.hid h
 have HN : Hid (((-1073741824 ≤ x.a ∧ x.a ≤ 1073741824) ∧ (-1073741824 ≤ x.b ∧ x.b ≤ 1073741824) ∧ (-1073741824 ≤ x.c ∧ x.c ≤ 1073741824) ∧ (-1073741824 ≤ x.d ∧ x.d ≤ 1073741824)) ∧ ((-1073741824 ≤ y.a ∧ y.a ≤ 1073741824) ∧ (-1073741824 ≤ y.b ∧ y.b ≤ 1073741824) ∧ (-1073741824 ≤ y.c ∧ y.c ≤ 1073741824) ∧ (-1073741824 ≤ y.d ∧ y.d ≤ 1073741824))) := ⟨zok_iff.1 hx, zok_iff.1 hy⟩
 clear hx hy h
 go_enter Tryz.func78, Tryz.ntmps78
 go_wp2_with fail
 refine (IsValidZOmega_yes x _ HX0.out).mono ?_
 rintro e w1 ⟨rfl, hx1⟩
 have HBX1 : Hid (Blk w1 (w.heap.size) 60 #[.int .i64 x.a, .int .i64 x.b, .int .i64 x.c, .int .i64 x.d]) := ((((Blk.newAt (b := w.heap.size) rfl).alloc _).alloc _)).ext hx1
 have HBY1 : Hid (Blk w1 (w.heap.size + 1) 60 #[.int .i64 y.a, .int .i64 y.b, .int .i64 y.c, .int .i64 y.d]) := (((Blk.newAt (b := w.heap.size + 1) (by simp)).alloc _)).ext hx1
 have HBR1 : Hid (Blk w1 (w.heap.size + 2) 60 #[.int .i64 0, .int .i64 0, .int .i64 0, .int .i64 0]) := ((Blk.newAt (b := w.heap.size + 2) (by simp))).ext hx1
 have HE1 : Hid (Ext w w1) := Ext.trans (by exact xx) hx1
 clear hx1
 obtain ⟨⟨cY0, cY1, cY2, cY3⟩, -⟩ := cells4 HBY1.out
 go_wp2_with fail
 refine (IsValidZOmega_yes y _ HY0.out).mono ?_
 rintro e w2 ⟨rfl, hx2⟩
 have HBX2 := Lib.hid (HBX1.out.ext hx2)
 have HBY2 := Lib.hid (HBY1.out.ext hx2)
 have HBR2 := Lib.hid (HBR1.out.ext hx2)
 have HE2 := Lib.hid (HE1.out.trans hx2)
 clear hx2
 clear cY0 cY1 cY2 cY3
 obtain ⟨⟨cX0, cX1, cX2, cX3⟩, -⟩ := cells4 HBX2.out
 obtain ⟨⟨cY0, cY1, cY2, cY3⟩, -⟩ := cells4 HBY2.out
 have hwaa : IntKind.i64.wrap (x.a * y.a) = x.a * y.a := IntWalk.i64_in _ (by have := prod_near HN.out.1.1 HN.out.2.1; omega)
 have hwbd : IntKind.i64.wrap (x.b * y.d) = x.b * y.d := IntWalk.i64_in _ (by have := prod_near HN.out.1.2.1 HN.out.2.2.2.2; omega)
 have hsa1 : IntKind.i64.wrap (x.a * y.a - x.b * y.d) = x.a * y.a - x.b * y.d := IntWalk.i64_in _ (by have h0 := prod_near HN.out.1.1 HN.out.2.1; have h1 := prod_near HN.out.1.2.1 HN.out.2.2.2.2; omega)
 have hwcc : IntKind.i64.wrap (x.c * y.c) = x.c * y.c := IntWalk.i64_in _ (by have := prod_near HN.out.1.2.2.1 HN.out.2.2.2.1; omega)
 have hsa2 : IntKind.i64.wrap (x.a * y.a - x.b * y.d - x.c * y.c) = x.a * y.a - x.b * y.d - x.c * y.c := IntWalk.i64_in _ (by have h0 := prod_near HN.out.1.1 HN.out.2.1; have h1 := prod_near HN.out.1.2.1 HN.out.2.2.2.2; have h2 := prod_near HN.out.1.2.2.1 HN.out.2.2.2.1; omega)
 have hwdb : IntKind.i64.wrap (x.d * y.b) = x.d * y.b := IntWalk.i64_in _ (by have := prod_near HN.out.1.2.2.2 HN.out.2.2.1; omega)
 have hsa3 : IntKind.i64.wrap (x.a * y.a - x.b * y.d - x.c * y.c - x.d * y.b) = x.a * y.a - x.b * y.d - x.c * y.c - x.d * y.b := IntWalk.i64_in _ (by have h0 := prod_near HN.out.1.1 HN.out.2.1; have h1 := prod_near HN.out.1.2.1 HN.out.2.2.2.2; have h2 := prod_near HN.out.1.2.2.1 HN.out.2.2.2.1; have h3 := prod_near HN.out.1.2.2.2 HN.out.2.2.1; omega)
 have hwab : IntKind.i64.wrap (x.a * y.b) = x.a * y.b := IntWalk.i64_in _ (by have := prod_near HN.out.1.1 HN.out.2.2.1; omega)
 have hwba : IntKind.i64.wrap (x.b * y.a) = x.b * y.a := IntWalk.i64_in _ (by have := prod_near HN.out.1.2.1 HN.out.2.1; omega)
 have hsb1 : IntKind.i64.wrap (x.a * y.b + x.b * y.a) = x.a * y.b + x.b * y.a := IntWalk.i64_in _ (by have h0 := prod_near HN.out.1.1 HN.out.2.2.1; have h1 := prod_near HN.out.1.2.1 HN.out.2.1; omega)
 have hwcd : IntKind.i64.wrap (x.c * y.d) = x.c * y.d := IntWalk.i64_in _ (by have := prod_near HN.out.1.2.2.1 HN.out.2.2.2.2; omega)
 have hsb2 : IntKind.i64.wrap (x.a * y.b + x.b * y.a - x.c * y.d) = x.a * y.b + x.b * y.a - x.c * y.d := IntWalk.i64_in _ (by have h0 := prod_near HN.out.1.1 HN.out.2.2.1; have h1 := prod_near HN.out.1.2.1 HN.out.2.1; have h2 := prod_near HN.out.1.2.2.1 HN.out.2.2.2.2; omega)
 have hwdc : IntKind.i64.wrap (x.d * y.c) = x.d * y.c := IntWalk.i64_in _ (by have := prod_near HN.out.1.2.2.2 HN.out.2.2.2.1; omega)
 have hsb3 : IntKind.i64.wrap (x.a * y.b + x.b * y.a - x.c * y.d - x.d * y.c) = x.a * y.b + x.b * y.a - x.c * y.d - x.d * y.c := IntWalk.i64_in _ (by have h0 := prod_near HN.out.1.1 HN.out.2.2.1; have h1 := prod_near HN.out.1.2.1 HN.out.2.1; have h2 := prod_near HN.out.1.2.2.1 HN.out.2.2.2.2; have h3 := prod_near HN.out.1.2.2.2 HN.out.2.2.2.1; omega)
 have hwac : IntKind.i64.wrap (x.a * y.c) = x.a * y.c := IntWalk.i64_in _ (by have := prod_near HN.out.1.1 HN.out.2.2.2.1; omega)
 have hwbb : IntKind.i64.wrap (x.b * y.b) = x.b * y.b := IntWalk.i64_in _ (by have := prod_near HN.out.1.2.1 HN.out.2.2.1; omega)
 have hsc1 : IntKind.i64.wrap (x.a * y.c + x.b * y.b) = x.a * y.c + x.b * y.b := IntWalk.i64_in _ (by have h0 := prod_near HN.out.1.1 HN.out.2.2.2.1; have h1 := prod_near HN.out.1.2.1 HN.out.2.2.1; omega)
 have hwca : IntKind.i64.wrap (x.c * y.a) = x.c * y.a := IntWalk.i64_in _ (by have := prod_near HN.out.1.2.2.1 HN.out.2.1; omega)
 have hsc2 : IntKind.i64.wrap (x.a * y.c + x.b * y.b + x.c * y.a) = x.a * y.c + x.b * y.b + x.c * y.a := IntWalk.i64_in _ (by have h0 := prod_near HN.out.1.1 HN.out.2.2.2.1; have h1 := prod_near HN.out.1.2.1 HN.out.2.2.1; have h2 := prod_near HN.out.1.2.2.1 HN.out.2.1; omega)
 have hwdd : IntKind.i64.wrap (x.d * y.d) = x.d * y.d := IntWalk.i64_in _ (by have := prod_near HN.out.1.2.2.2 HN.out.2.2.2.2; omega)
 have hsc3 : IntKind.i64.wrap (x.a * y.c + x.b * y.b + x.c * y.a - x.d * y.d) = x.a * y.c + x.b * y.b + x.c * y.a - x.d * y.d := IntWalk.i64_in _ (by have h0 := prod_near HN.out.1.1 HN.out.2.2.2.1; have h1 := prod_near HN.out.1.2.1 HN.out.2.2.1; have h2 := prod_near HN.out.1.2.2.1 HN.out.2.1; have h3 := prod_near HN.out.1.2.2.2 HN.out.2.2.2.2; omega)
 have hwad : IntKind.i64.wrap (x.a * y.d) = x.a * y.d := IntWalk.i64_in _ (by have := prod_near HN.out.1.1 HN.out.2.2.2.2; omega)
 have hwbc : IntKind.i64.wrap (x.b * y.c) = x.b * y.c := IntWalk.i64_in _ (by have := prod_near HN.out.1.2.1 HN.out.2.2.2.1; omega)
 have hsd1 : IntKind.i64.wrap (x.a * y.d + x.b * y.c) = x.a * y.d + x.b * y.c := IntWalk.i64_in _ (by have h0 := prod_near HN.out.1.1 HN.out.2.2.2.2; have h1 := prod_near HN.out.1.2.1 HN.out.2.2.2.1; omega)
 have hwcb : IntKind.i64.wrap (x.c * y.b) = x.c * y.b := IntWalk.i64_in _ (by have := prod_near HN.out.1.2.2.1 HN.out.2.2.1; omega)
 have hsd2 : IntKind.i64.wrap (x.a * y.d + x.b * y.c + x.c * y.b) = x.a * y.d + x.b * y.c + x.c * y.b := IntWalk.i64_in _ (by have h0 := prod_near HN.out.1.1 HN.out.2.2.2.2; have h1 := prod_near HN.out.1.2.1 HN.out.2.2.2.1; have h2 := prod_near HN.out.1.2.2.1 HN.out.2.2.1; omega)
 have hwda : IntKind.i64.wrap (x.d * y.a) = x.d * y.a := IntWalk.i64_in _ (by have := prod_near HN.out.1.2.2.2 HN.out.2.1; omega)
 have hsd3 : IntKind.i64.wrap (x.a * y.d + x.b * y.c + x.c * y.b + x.d * y.a) = x.a * y.d + x.b * y.c + x.c * y.b + x.d * y.a := IntWalk.i64_in _ (by have h0 := prod_near HN.out.1.1 HN.out.2.2.2.2; have h1 := prod_near HN.out.1.2.1 HN.out.2.2.2.1; have h2 := prod_near HN.out.1.2.2.1 HN.out.2.2.1; have h3 := prod_near HN.out.1.2.2.2 HN.out.2.1; omega)
 go_wp2_with fail
 refine (l2If_yes (zmul x y) _ HZ.out).mono ?_
 rintro e w3 ⟨rfl, hx3⟩
 have HBX3 := Lib.hid (HBX2.out.ext hx3)
 have HBY3 := Lib.hid (HBY2.out.ext hx3)
 have HBR3 := Lib.hid (HBR2.out.ext hx3)
 have HE3 := Lib.hid (HE2.out.trans hx3)
 clear hx3
 clear hwaa hwbd hsa1 hwcc hsa2 hwdb hsa3 hwab hwba hsb1 hwcd hsb2 hwdc hsb3 hwac hwbb hsc1 hwca hsc2 hwdd hsc3 hwad hwbc hsd1 hwcb hsd2 hwda hsd3
 clear cX0 cX1 cX2 cX3
 clear cY0 cY1 cY2 cY3
 obtain ⟨⟨cR0, cR1, cR2, cR3⟩, fR0, fR1, fR2, fR3⟩ := cells4 HBR3.out
 go_wp2
 have HBB : Hid (Blk (put4 w3 (w.heap.size + 2) (.int .i64 (zmul x y).a) (.int .i64 (zmul x y).b) (.int .i64 (zmul x y).c) (.int .i64 (zmul x y).d)) (w.heap.size + 2) 60 #[.int .i64 (zmul x y).a, .int .i64 (zmul x y).b, .int .i64 (zmul x y).c, .int .i64 (zmul x y).d]) := HBR3.out.put4 _ _ _ _
 refine bodyPost_ret (v := .tuple #[.agg #[.int .i64 (zmul x y).a, .int .i64 (zmul x y).b, .int .i64 (zmul x y).c, .int .i64 (zmul x y).d], .bool true]) ?_ rfl ?_
 rotate_left
 ·exact ⟨rfl, ext_put4 (g := w.heap.size + 2) HE3.out (by omega) _ _ _ _⟩
 ·exact ret_pair rfl _ _ _ _ _ _ _ rfl rfl HBB.out Tryz.underlying60 rfl Tryz.sizeZOmega
def zneg (x : Zw) : Zw := ⟨-x.a, -x.b, -x.c, -x.d⟩
set_option maxRecDepth 100000 in
set_option maxHeartbeats 8000000 in
theorem NegZOmega_yes (x : Zw) (w : World) (hx : zok x = true) : Calls Tryz.prog 109 #[x.val] w fun e w' => e = .returned (zneg x).val ∧ Ext w w' := by
 have HX0 := Lib.hid hx
 have HN := Lib.hid (zok_iff.1 hx)
 clear hx
 go_enter Tryz.func109, Tryz.ntmps109
 go_wp2_with fail
 refine (IsValidZOmega_yes x _ HX0.out).mono ?_
 rintro e w1 ⟨rfl, hx1⟩
 have HBX1 : Hid (Blk w1 (w.heap.size) 60 #[.int .i64 x.a, .int .i64 x.b, .int .i64 x.c, .int .i64 x.d]) := (((Blk.newAt (b := w.heap.size) rfl).alloc _)).ext hx1
 have HBR1 : Hid (Blk w1 (w.heap.size + 1) 60 #[.int .i64 0, .int .i64 0, .int .i64 0, .int .i64 0]) := ((Blk.newAt (b := w.heap.size + 1) (by simp))).ext hx1
 have HE1 : Hid (Ext w w1) := Ext.trans (by exact xx) hx1
 clear hx1
 obtain ⟨⟨cX0, cX1, cX2, cX3⟩, -⟩ := cells4 HBX1.out
 obtain ⟨⟨cR0, cR1, cR2, cR3⟩, fR0, fR1, fR2, fR3⟩ := cells4 HBR1.out
 have hwa : IntKind.i64.wrap (-x.a) = -x.a := IntWalk.i64_in _ (by have := HN.out; omega)
 have hwb : IntKind.i64.wrap (-x.b) = -x.b := IntWalk.i64_in _ (by have := HN.out; omega)
 have hwc : IntKind.i64.wrap (-x.c) = -x.c := IntWalk.i64_in _ (by have := HN.out; omega)
 have hwd : IntKind.i64.wrap (-x.d) = -x.d := IntWalk.i64_in _ (by have := HN.out; omega)
 go_wp2
 have HBB : Hid (Blk (put4 w1 (w.heap.size + 1) (.int .i64 (zneg x).a) (.int .i64 (zneg x).b) (.int .i64 (zneg x).c) (.int .i64 (zneg x).d)) (w.heap.size + 1) 60 #[.int .i64 (zneg x).a, .int .i64 (zneg x).b, .int .i64 (zneg x).c, .int .i64 (zneg x).d]) := HBR1.out.put4 _ _ _ _
 refine bodyPost_ret (v := .agg #[.int .i64 (zneg x).a, .int .i64 (zneg x).b, .int .i64 (zneg x).c, .int .i64 (zneg x).d]) ?_ rfl ?_
 rotate_left
 ·exact ⟨rfl, ext_put4 (g := w.heap.size + 1) HE1.out (by omega) _ _ _ _⟩
 ·exact retZ rfl HBB.out _ (by kernel_rfl) rfl
end Go.Proofs.YtioimnplhmgbgaaGreat
/-
 Helper text (no claim of its own): amplitudes at a common power of the root of 2 (plain Lean).
-/
namespace Go.Proofs.YtioimnplhmgbgaaGreat
open Go.ChangeShapes Go.WideShapes Go.ChangeAt Go.RowKit Go.Deep
set_option linter.unusedVariables false
theorem Zw.eq {x y : Zw} (ha : x.a = y.a) (hb : x.b = y.b) (hc : x.c = y.c) (hd : x.d = y.d) : x = y := by
 cases x; cases y; simp only at ha hb hc hd; subst ha hb hc hd; rfl
theorem Zw.eqs {x y : Zw} (h : x = y) : x.a = y.a ∧ x.b = y.b ∧ x.c = y.c ∧ x.d = y.d := by subst h; exact ⟨rfl, rfl, rfl, rfl⟩
/-- Times the root of 2, k times. -/
def up : Nat → Zw → Zw
 | 0, x => x
 | k + 1, x => up k (zrt x)
theorem zmul_root (x : Zw) : zmul x zrootc = zrt x := by
 apply Zw.eq <;> simp only [zmul, zrootc, zrt] <;> omega
theorem zrt_zrt (x : Zw) : zrt (zrt x) = ⟨2 * x.a, 2 * x.b, 2 * x.c, 2 * x.d⟩ := by
 apply Zw.eq <;> simp only [zrt] <;> omega
def near (M : Int) (x : Zw) : Prop := (-M ≤ x.a ∧ x.a ≤ M) ∧ (-M ≤ x.b ∧ x.b ≤ M) ∧ (-M ≤ x.c ∧ x.c ≤ M) ∧ (-M ≤ x.d ∧ x.d ≤ M)
theorem near_dn {M : Int} {x : Zw} (h : near M (zrt x)) : near M x := by
 unfold near zrt at *
 simp only at h
 omega
theorem near_root {M : Int} {x : Zw} (h : near M x) : near (2 * M) (zrt x) := by
 unfold near zrt at *
 simp only
 omega
theorem near_le {M N : Int} {x : Zw} (h : near M x) (hl : M ≤ N) : near N x := by unfold near at *; omega
theorem near_add {M N : Int} {x y : Zw} (h : near M x) (k : near N y) : near (M + N) (zadd x y) := by
 unfold near zadd at *
 simp only
 omega
theorem zok_near {x : Zw} : zok x = true ↔ near 1073741824 x := zok_iff
theorem up_succ (k : Nat) : ∀ x : Zw, up (k + 1) x = zrt (up k x) := by
 induction k with
 | zero => exact fun x => rfl
 | succ k ih => exact fun x => ih (zrt x)
theorem up_more (i j : Nat) : ∀ x : Zw, up (i + j) x = up j (up i x) := by
 induction j with
 | zero => exact fun x => rfl
 | succ j ih => exact fun x => by rw [← Nat.add_assoc, up_succ, ih, ← up_succ]
theorem near_of_up {M : Int} (k : Nat) : ∀ {x : Zw}, near M (up k x) → near M x := by
 induction k with
 | zero => exact fun h => h
 | succ k ih => exact fun h => near_dn (ih h)
theorem near_mid {M : Int} {j k : Nat} {x : Zw} (hj : j ≤ k) (h : near M (up k x)) : near M (up j x) := by
 obtain ⟨i, rfl⟩ := Nat.exists_eq_add_of_le hj
 rw [up_more] at h
 exact near_of_up i h
theorem zrt_inj {x y : Zw} (h : zrt x = zrt y) : x = y := by
 obtain ⟨h1, h2, h3, h4⟩ := Zw.eqs h
 simp only [zrt] at h1 h2 h3 h4
 apply Zw.eq <;> omega
theorem up_inj (k : Nat) : ∀ {x y : Zw}, up k x = up k y → x = y := by
 induction k with
 | zero => exact fun h => h
 | succ k ih => exact fun h => zrt_inj (ih h)
theorem zrt_add (x y : Zw) : zrt (zadd x y) = zadd (zrt x) (zrt y) := by
 apply Zw.eq <;> simp only [zrt, zadd] <;> omega
theorem up_add (k : Nat) : ∀ x y : Zw, up k (zadd x y) = zadd (up k x) (up k y) := by
 induction k with
 | zero => exact fun x y => rfl
 | succ k ih => exact fun x y => by show up k (zrt (zadd x y)) = _; rw [zrt_add, ih]; rfl
theorem ev_half {n : Int} (h : ev n = true) : n = 2 * n.tdiv 2 := by
 unfold ev at h
 rw [beq_iff_eq] at h
 have := Int.mul_tdiv_add_tmod n 2
 omega
theorem ev_two (m : Int) : ev (2 * m) = true := by
 unfold ev
 rw [beq_iff_eq]
 exact Int.mul_tmod_right 2 m
theorem div_root {x : Zw} (h : (zDiv x).2 = true) : zrt (zDiv x).1 = x := by
 unfold zDiv at h ⊢
 split at h
 ·rename_i hc
  rw [if_pos hc]
  rw [Bool.and_eq_true] at hc
  have hz := hc.2
  unfold zev at hz
  simp only [Bool.and_eq_true] at hz
  obtain ⟨⟨⟨h1, h2⟩, h3⟩, h4⟩ := hz
  replace h1 := ev_half h1
  replace h2 := ev_half h2
  replace h3 := ev_half h3
  replace h4 := ev_half h4
  simp only [zrt] at h1 h2 h3 h4
  apply Zw.eq <;> simp only [zrt, zhalf] <;> omega
 ·cases h
theorem root_div {y : Zw} (h : zok (zrt y) = true) : (zDiv (zrt y)).2 = true := by
 rw [zDiv_y h]
 rw [zrt_zrt]
 unfold zev
 simp only [ev_two, Bool.and_self]
theorem nwL_is (k : Nat) : ∀ {n : Zw}, zok n = true → (nwL k n).2 ≤ k ∧ up (k - (nwL k n).2) (nwL k n).1 = n ∧ ((nwL k n).2 = 0 ∨ (zDiv (nwL k n).1).2 = false) ∧ zok (nwL k n).1 = true := by
 induction k with
 | zero => exact fun h => ⟨Nat.le_refl _, rfl, Or.inl rfl, h⟩
 | succ k ih =>
  intro n h
  cases hd : (zDiv n).2
  ·rw [nwL_n hd]
   exact ⟨Nat.le_refl _, by rw [Nat.sub_self]; rfl, Or.inr hd, h⟩
  ·rw [nwL_y hd]
   have hr := div_root hd
   have hk : zok (zDiv n).1 = true := zok_near.2 (near_dn (by rw [hr]; exact zok_near.1 h))
   obtain ⟨h1, h2, h3, h4⟩ := ih hk
   refine ⟨by omega, ?_, h3, h4⟩
   rw [show k + 1 - (nwL k (zDiv n).1).2 = (k - (nwL k (zDiv n).1).2) + 1 by omega, up_succ, h2, hr]
theorem dok_iff {x : Dw} : dok x = true ↔ zok x.n = true ∧ 0 ≤ x.e ∧ x.e ≤ 60 ∧ (x.e = 0 ∨ (zDiv x.n).2 = false) := by
 unfold dok ex60
 simp only [Bool.and_eq_true, decide_eq_true_eq, Bool.or_eq_true, beq_iff_eq, Bool.not_eq_true', and_assoc]
/-- The amplitude at the K-th power of the root of 2. -/
def lift (K : Nat) (x : Dw) : Zw := up (K - x.e.toNat) x.n
theorem Dw.eq {x y : Dw} (h : x.n = y.n) (k : x.e = y.e) : x = y := by
 cases x; cases y; simp only at h k; subst h k; rfl
theorem lift_more {K J : Nat} {x : Dw} (h : x.e.toNat ≤ K) : lift (K + J) x = up J (lift K x) := by
 unfold lift
 rw [← up_more]
 congr 1
 omega
theorem lift_le {K : Nat} {x y : Dw} (hx : dok x = true) (hy : dok y = true) (hxK : x.e.toNat ≤ K) (hyK : y.e.toNat ≤ K) (hl : x.e ≤ y.e) (h : lift K x = lift K y) : x = y := by
 obtain ⟨x1, x2, x3, x4⟩ := dok_iff.1 hx
 obtain ⟨y1, y2, y3, y4⟩ := dok_iff.1 hy
 have e : lift K x = up (K - y.e.toNat) (up (y.e.toNat - x.e.toNat) x.n) := by
  unfold lift
  rw [← up_more]
  congr 1
  omega
 rw [e] at h
 have hn : up (y.e.toNat - x.e.toNat) x.n = y.n := up_inj _ h
 rcases Nat.eq_zero_or_pos (y.e.toNat - x.e.toNat) with h0 | h0
 ·rw [h0] at hn
  exact Dw.eq hn (by omega)
 ·obtain ⟨j, hj⟩ := Nat.exists_eq_add_of_le h0
  rw [show y.e.toNat - x.e.toNat = j + 1 by omega, up_succ] at hn
  have := root_div (y := up j x.n) (by rw [hn]; exact y1)
  rw [hn] at this
  rcases y4 with y4 | y4
  ·omega
  ·rw [this] at y4; cases y4
theorem lift_inj {K : Nat} {x y : Dw} (hx : dok x = true) (hy : dok y = true) (hxK : x.e.toNat ≤ K) (hyK : y.e.toNat ≤ K) (h : lift K x = lift K y) : x = y := by
 by_cases hl : x.e ≤ y.e
 ·exact lift_le hx hy hxK hyK hl h
 ·exact (lift_le hy hx hyK hxK (by omega) h.symm).symm
theorem newD_lift {n : Zw} {k : Nat} (h : zok n = true) (hk : k ≤ 60) : ∃ z, newD n k = (z, true) ∧ dok z = true ∧ z.e.toNat ≤ k ∧ ∀ K, k ≤ K → lift K z = up (K - k) n := by
 obtain ⟨h1, h2, h3, h4⟩ := nwL_is k h
 have e : newD n k = (⟨(nwL k n).1, (nwL k n).2⟩, true) := newD_y h (by omega) (by omega) (by rw [Int.toNat_natCast]; omega)
 refine ⟨_, e, dok_iff.2 ⟨h4, by show (0 : Int) ≤ ((nwL k n).2 : Int); omega, by show ((nwL k n).2 : Int) ≤ 60; omega, ?_⟩, by rw [Int.toNat_natCast]; exact h1, fun K hK => ?_⟩
 ·rcases h3 with h3 | h3
  ·left; show ((nwL k n).2 : Int) = 0; rw [h3]; rfl
  ·exact Or.inr h3
 ·unfold lift
  rw [Int.toNat_natCast]
  rw [show K - (nwL k n).2 = (k - (nwL k n).2) + (K - k) by omega, up_more, h2]
theorem zup_up (k : Nat) : ∀ {n : Zw}, near 1073741824 (up k n) → zup k n = (up k n, true) := by
 induction k with
 | zero => exact fun _ => rfl
 | succ k ih =>
  intro n h
  have h0 : near 1073741824 (zrt n) := near_of_up k h
  have hm : zMul n zrootc = (zrt n, true) := by
   rw [zMul_y (zok_near.2 (near_dn h0)) rfl, zmul_root, zif_y (zok_near.2 h0)]
  rw [zup_y (by rw [hm]), hm]
  exact ih h
theorem addD_lift {K : Nat} {x y : Dw} (hx : dok x = true) (hy : dok y = true) (hxK : x.e.toNat ≤ K) (hyK : y.e.toNat ≤ K) (hK : K ≤ 60) (nx : near 1073741824 (lift K x)) (ny : near 1073741824 (lift K y)) (ns : near 1073741824 (zadd (lift K x) (lift K y))) :
  ∃ z, addD x y = (z, true) ∧ dok z = true ∧ z.e.toNat ≤ K ∧ lift K z = zadd (lift K x) (lift K y) := by
 obtain ⟨x1, x2, x3, x4⟩ := dok_iff.1 hx
 obtain ⟨y1, y2, y3, y4⟩ := dok_iff.1 hy
 obtain ⟨m, hm⟩ : ∃ m : Nat, mx x.e y.e = m := ⟨(mx x.e y.e).toNat, by unfold mx; split <;> omega⟩
 have hmx : x.e ≤ m ∧ y.e ≤ m ∧ (m : Int) ≤ K := by rw [← hm]; unfold mx; split <;> omega
 have ex : lift K x = up (K - m) (up ((m : Int) - x.e).toNat x.n) := by unfold lift; rw [← up_more]; congr 1; omega
 have ey : lift K y = up (K - m) (up ((m : Int) - y.e).toNat y.n) := by unfold lift; rw [← up_more]; congr 1; omega
 rw [ex] at nx ns ⊢
 rw [ey] at ny ns ⊢
 rw [← up_add] at ns ⊢
 have ax := near_of_up _ nx
 have ay := near_of_up _ ny
 have an := near_of_up _ ns
 obtain ⟨z, h1, h2, h3, h4⟩ := newD_lift (zok_near.2 an) (k := m) (by omega)
 refine ⟨z, ?_, h2, by omega, h4 K (by omega)⟩
 rw [addD_y hx hy, hm]
 unfold addK
 rw [zup_up _ ax, zup_up _ ay]
 have e : zAdd (up ((m : Int) - x.e).toNat x.n) (up ((m : Int) - y.e).toNat y.n) = (zadd (up ((m : Int) - x.e).toNat x.n) (up ((m : Int) - y.e).toNat y.n), true) := by
  rw [zAdd_y (zok_near.2 ax) (zok_near.2 ay), zif_y (zok_near.2 an)]
 simp only [e, Bool.and_self, if_true]
 exact h1
/-- The powers of the eighth root. -/
def zw : Nat → Zw
 | 0 => ⟨1, 0, 0, 0⟩
 | 1 => ⟨0, 1, 0, 0⟩
 | 2 => ⟨0, 0, 1, 0⟩
 | 3 => ⟨0, 0, 0, 1⟩
 | 4 => ⟨-1, 0, 0, 0⟩
 | 5 => ⟨0, -1, 0, 0⟩
 | 6 => ⟨0, 0, -1, 0⟩
 | _ => ⟨0, 0, 0, -1⟩
def ph (j : Nat) : Dw := ⟨zw j, 0⟩
def rot (j : Nat) (x : Zw) : Zw := zmul x (zw j)
theorem lt8 {j : Nat} (h : j < 8) : j = 0 ∨ j = 1 ∨ j = 2 ∨ j = 3 ∨ j = 4 ∨ j = 5 ∨ j = 6 ∨ j = 7 := by omega
theorem rot_near {M : Int} {j : Nat} {x : Zw} (hj : j < 8) (h : near M x) : near M (rot j x) := by
 unfold near at *
 rcases lt8 hj with rfl | rfl | rfl | rfl | rfl | rfl | rfl | rfl <;> simp only [rot, zmul, zw] <;> omega
theorem rot_zrt {j : Nat} {x : Zw} (hj : j < 8) : rot j (zrt x) = zrt (rot j x) := by
 rcases lt8 hj with rfl | rfl | rfl | rfl | rfl | rfl | rfl | rfl <;> apply Zw.eq <;> simp only [rot, zmul, zw, zrt] <;> omega
theorem rot_up {j : Nat} (hj : j < 8) (k : Nat) : ∀ x : Zw, rot j (up k x) = up k (rot j x) := by
 induction k with
 | zero => exact fun x => rfl
 | succ k ih => exact fun x => by show rot j (up k (zrt x)) = up k (zrt (rot j x)); rw [ih, rot_zrt hj]
theorem rot_rot {i j : Nat} {x : Zw} (hi : i < 8) (hj : j < 8) (h : (i + j) % 8 = 0) : rot i (rot j x) = x := by
 rcases lt8 hj with rfl | rfl | rfl | rfl | rfl | rfl | rfl | rfl <;> rcases lt8 hi with rfl | rfl | rfl | rfl | rfl | rfl | rfl | rfl <;> first | (exfalso; omega) | (apply Zw.eq <;> simp only [rot, zmul, zw] <;> omega)
theorem rot_0 (x : Zw) : rot 0 x = x := by apply Zw.eq <;> simp only [rot, zmul, zw] <;> omega
theorem rot_add {j : Nat} {x y : Zw} (hj : j < 8) : rot j (zadd x y) = zadd (rot j x) (rot j y) := by
 rcases lt8 hj with rfl | rfl | rfl | rfl | rfl | rfl | rfl | rfl <;> apply Zw.eq <;> simp only [rot, zmul, zw, zadd] <;> omega
theorem rot_div {j : Nat} {x : Zw} (hj : j < 8) (hx : zok x = true) (h : (zDiv x).2 = false) : (zDiv (rot j x)).2 = false := by
 cases hd : (zDiv (rot j x)).2
 ·rfl
 ·have hr := div_root hd
  have e : x = zrt (rot ((8 - j) % 8) (zDiv (rot j x)).1) := by
   rw [← rot_zrt (by omega), hr, rot_rot (by omega) hj (by omega)]
  have := root_div (y := rot ((8 - j) % 8) (zDiv (rot j x)).1) (by rw [← e]; exact hx)
  rw [← e, h] at this
  cases this
theorem zw_ok (j : Nat) : zok (zw j) = true := by
 unfold zw
 split <;> rfl
theorem ph_ok (j : Nat) : dok (ph j) = true := dok_iff.2 ⟨zw_ok j, Int.le_refl 0, by show (0 : Int) ≤ 60; decide, Or.inl rfl⟩
theorem mulD_ph {j : Nat} {x : Dw} (hj : j < 8) (hx : dok x = true) : mulD x (ph j) = (⟨rot j x.n, x.e⟩, true) ∧ dok ⟨rot j x.n, x.e⟩ = true := by
 obtain ⟨x1, x2, x3, x4⟩ := dok_iff.1 hx
 have hr : zok (rot j x.n) = true := zok_near.2 (rot_near hj (zok_near.1 x1))
 have hm : zMul x.n (ph j).n = (rot j x.n, true) := by
  show zMul x.n (zw j) = _
  rw [zMul_y x1 (zw_ok j)]
  exact zif_y hr
 have hn : nwL x.e.toNat (rot j x.n) = (rot j x.n, x.e.toNat) := by
  rcases x4 with x4 | x4
  ·rw [x4]; rfl
  ·cases hk : x.e.toNat with
   | zero => rfl
   | succ k => exact nwL_n (rot_div hj x1 x4)
 constructor
 ·rw [mulD_y hx (ph_ok j) (by rw [hm]), hm]
  show newD (rot j x.n) (x.e + 0) = _
  rw [Int.add_zero, newD_y hr x2 (by omega) (by rw [hn]; show x.e.toNat ≤ 60; omega), hn]
  show ((⟨rot j x.n, (x.e.toNat : Int)⟩ : Dw), true) = _
  rw [Int.toNat_of_nonneg x2]
 ·exact dok_iff.2 ⟨hr, x2, x3, x4.imp id (rot_div hj x1)⟩
theorem lift_ph {j K : Nat} {x : Dw} (hj : j < 8) : lift K ⟨rot j x.n, x.e⟩ = rot j (lift K x) := by
 unfold lift
 rw [rot_up hj]
/-- One through the root of 2. -/
def hp : Dw := ⟨⟨1, 0, 0, 0⟩, 1⟩
def hm : Dw := ⟨⟨-1, 0, 0, 0⟩, 1⟩
theorem mulD_h {j : Nat} {x : Dw} (hj : j = 0 ∨ j = 4) (hx : dok x = true) (he : x.e ≤ 59) : ∃ z, mulD x ⟨zw j, 1⟩ = (z, true) ∧ dok z = true ∧ z.e.toNat ≤ x.e.toNat + 1 ∧ ∀ K, x.e.toNat ≤ K → lift (K + 1) z = rot j (lift K x) := by
 have hj8 : j < 8 := by omega
 obtain ⟨x1, x2, x3, x4⟩ := dok_iff.1 hx
 have hr : zok (rot j x.n) = true := zok_near.2 (rot_near hj8 (zok_near.1 x1))
 have hq : dok ⟨zw j, 1⟩ = true := by rcases hj with rfl | rfl <;> rfl
 have hmm : zMul x.n (zw j) = (rot j x.n, true) := by
  rw [zMul_y x1 (zw_ok j)]
  exact zif_y hr
 obtain ⟨z, h1, h2, h3, h4⟩ := newD_lift hr (k := x.e.toNat + 1) (by omega)
 refine ⟨z, ?_, h2, h3, fun K hK => ?_⟩
 ·rw [mulD_y hx hq (by show (zMul x.n (zw j)).2 = true; rw [hmm])]
  show newD (zMul x.n (zw j)).1 (x.e + 1) = _
  rw [hmm, ← h1]
  congr 1
  omega
 ·rw [h4 (K + 1) (by omega)]
  unfold lift
  rw [rot_up hj8]
  congr 1
  omega
end Go.Proofs.YtioimnplhmgbgaaGreat
/-
 Helper text (no claim of its own): division by the root of 2, by the reference. Printed by gen_am.py or gen_an.py.
-/
namespace Go.Proofs.YtioimnplhmgbgaaGreat
open Go.ChangeShapes Go.WideShapes Go.ChangeAt Go.RowKit Go.Deep
set_option linter.unusedVariables false
set_option linter.unusedSimpArgs false
theorem tmod_bd (n : Int) : -1 ≤ n.tmod 2 ∧ n.tmod 2 ≤ 1 := by
 have h1 := Int.tmod_lt_of_pos n (show (0 : Int) < 2 by decide)
 have h2 := Int.lt_tmod_of_pos n (show (0 : Int) < 2 by decide)
 omega
theorem zDiv_is_n {x : Zw} (h : ev (x.b - x.d) = false ∨ ev (x.a + x.c) = false) : zDiv x = (z0, false) := by
 refine zDiv_n (Or.inr ?_)
 unfold zev zrt
 rcases h with h | h <;> simp [h]
theorem ev_c {b d : Int} (h : (b - d).tmod 2 = 0) : (b + d).tmod 2 = 0 := by
 have h1 := Int.mul_tdiv_add_tmod (b - d) 2
 have : b + d = 2 * ((b - d).tdiv 2 + d) := by omega
 rw [this]; exact Int.mul_tmod_right _ _
theorem ev_d {a c : Int} (h : (a + c).tmod 2 = 0) : (c - a).tmod 2 = 0 := by
 have h1 := Int.mul_tdiv_add_tmod (a + c) 2
 have : c - a = 2 * ((a + c).tdiv 2 - a) := by omega
 rw [this]; exact Int.mul_tmod_right _ _
theorem zDiv_is_y {x : Zw} (h : zok x = true) (ha : (x.b - x.d).tmod 2 = 0) (hb : (x.a + x.c).tmod 2 = 0) : zDiv x = (zhalf (zrt x), true) := by
 refine zDiv_y h ?_
 unfold zev zrt ev
 simp [ha, hb, ev_c ha, ev_d hb]
set_option maxRecDepth 100000 in
set_option maxHeartbeats 8000000 in
theorem DivSqrt2_any (x : Zw) (w : World) (hx : zok x = true) : Calls Tryz.prog 90 #[x.val] w fun e w' => e = .returned (.tuple #[(zDiv x).1.val, .bool (zDiv x).2]) ∧ Ext w w' := by
 have HX0 := Lib.hid hx
 have HN := Lib.hid (zok_iff.1 hx)
 by_cases hA : (x.b - x.d).tmod 2 = 0
 ·by_cases hB : (x.a + x.c).tmod 2 = 0
  ·have HD := Lib.hid (zDiv_is_y hx hA hB)
   clear hx
   go_enter Tryz.func90, Tryz.ntmps90
   go_wp2_with fail
   refine (IsValidZOmega_yes x _ HX0.out).mono ?_
   rintro e w1 ⟨rfl, hx1⟩
   have HBX1 : Hid (Blk w1 (w.heap.size) 60 #[.int .i64 x.a, .int .i64 x.b, .int .i64 x.c, .int .i64 x.d]) := (((Blk.newAt (b := w.heap.size) rfl).alloc _)).ext hx1
   have HBR1 : Hid (Blk w1 (w.heap.size + 1) 60 #[.int .i64 0, .int .i64 0, .int .i64 0, .int .i64 0]) := ((Blk.newAt (b := w.heap.size + 1) (by simp))).ext hx1
   have HE1 : Hid (Ext w w1) := Ext.trans (by exact xx) hx1
   clear hx1
   obtain ⟨⟨cX0, cX1, cX2, cX3⟩, -⟩ := cells4 HBX1.out
   have hw0 : IntKind.i64.wrap (x.b - x.d) = (x.b - x.d) := IntWalk.i64_in _ (by have := HN.out; omega)
   have hw1 : IntKind.i64.wrap (x.a + x.c) = (x.a + x.c) := IntWalk.i64_in _ (by have := HN.out; omega)
   have hw2 : IntKind.i64.wrap (x.b + x.d) = (x.b + x.d) := IntWalk.i64_in _ (by have := HN.out; omega)
   have hw3 : IntKind.i64.wrap (x.c - x.a) = (x.c - x.a) := IntWalk.i64_in _ (by have := HN.out; omega)
   go_upto_region 4 with (fail)
   have HBX2 : Hid (Blk (w1.alloc (.cells #[.int .i64 (x.b - x.d), .int .i64 (x.a + x.c), .int .i64 (x.b + x.d), .int .i64 (x.c - x.a)] 60)) (w.heap.size) 60 #[.int .i64 x.a, .int .i64 x.b, .int .i64 x.c, .int .i64 x.d]) := HBX1.out.alloc _
   have HBR2 : Hid (Blk (w1.alloc (.cells #[.int .i64 (x.b - x.d), .int .i64 (x.a + x.c), .int .i64 (x.b + x.d), .int .i64 (x.c - x.a)] 60)) (w.heap.size + 1) 60 #[.int .i64 0, .int .i64 0, .int .i64 0, .int .i64 0]) := HBR1.out.alloc _
   have HBY2 : Hid (Blk (w1.alloc (.cells #[.int .i64 (x.b - x.d), .int .i64 (x.a + x.c), .int .i64 (x.b + x.d), .int .i64 (x.c - x.a)] 60)) w1.heap.size 60 #[.int .i64 (x.b - x.d), .int .i64 (x.a + x.c), .int .i64 (x.b + x.d), .int .i64 (x.c - x.a)]) := Blk.new _ _ _
   have HE2 : Hid (Ext w (w1.alloc (.cells #[.int .i64 (x.b - x.d), .int .i64 (x.a + x.c), .int .i64 (x.b + x.d), .int .i64 (x.c - x.a)] 60))) := HE1.out.alloc _
   have hs2 : w.heap.size + 2 ≤ w1.heap.size := by have := (HBR1).out.lt; omega
   obtain ⟨bY, hbY⟩ : ∃ b, b = w1.heap.size := ⟨_, rfl⟩
   rw [← hbY] at HBY2 hs2 ⊢
   generalize w1.alloc (.cells #[.int .i64 (x.b - x.d), .int .i64 (x.a + x.c), .int .i64 (x.b + x.d), .int .i64 (x.c - x.a)] 60) = w2 at *
   clear hbY
   clear cX0 cX1 cX2 cX3
   clear hw0 hw1 hw2 hw3
   obtain ⟨⟨cY0, cY1, cY2, cY3⟩, -⟩ := cells4 HBY2.out
   have hr0 : IntKind.i64.wrap ((x.b - x.d).tmod 2) = (x.b - x.d).tmod 2 := IntWalk.i64_in _ (by have := tmod_bd (x.b - x.d); omega)
   have hr1 : IntKind.i64.wrap ((x.a + x.c).tmod 2) = (x.a + x.c).tmod 2 := IntWalk.i64_in _ (by have := tmod_bd (x.a + x.c); omega)
   have hr2 : IntKind.i64.wrap ((x.b + x.d).tmod 2) = (x.b + x.d).tmod 2 := IntWalk.i64_in _ (by have := tmod_bd (x.b + x.d); omega)
   have hr3 : IntKind.i64.wrap ((x.c - x.a).tmod 2) = (x.c - x.a).tmod 2 := IntWalk.i64_in _ (by have := tmod_bd (x.c - x.a); omega)
   have hC := ev_c hA
   have hD := ev_d hB
   have hq0 : IntKind.i64.wrap ((x.b - x.d).tdiv 2) = (x.b - x.d).tdiv 2 := IntWalk.i64_in _ (by have := HN.out; have := Int.mul_tdiv_add_tmod (x.b - x.d) 2; omega)
   have hq1 : IntKind.i64.wrap ((x.a + x.c).tdiv 2) = (x.a + x.c).tdiv 2 := IntWalk.i64_in _ (by have := HN.out; have := Int.mul_tdiv_add_tmod (x.a + x.c) 2; omega)
   have hq2 : IntKind.i64.wrap ((x.b + x.d).tdiv 2) = (x.b + x.d).tdiv 2 := IntWalk.i64_in _ (by have := HN.out; have := Int.mul_tdiv_add_tmod (x.b + x.d) 2; omega)
   have hq3 : IntKind.i64.wrap ((x.c - x.a).tdiv 2) = (x.c - x.a).tdiv 2 := IntWalk.i64_in _ (by have := HN.out; have := Int.mul_tdiv_add_tmod (x.c - x.a) 2; omega)
   obtain ⟨⟨cR0, cR1, cR2, cR3⟩, fR0, fR1, fR2, fR3⟩ := cells4 HBR2.out
   go_wp2
   have HBB : Hid (Blk (put4 w2 (w.heap.size + 1) (.int .i64 ((x.b - x.d).tdiv 2)) (.int .i64 ((x.a + x.c).tdiv 2)) (.int .i64 ((x.b + x.d).tdiv 2)) (.int .i64 ((x.c - x.a).tdiv 2))) (w.heap.size + 1) 60 #[.int .i64 ((x.b - x.d).tdiv 2), .int .i64 ((x.a + x.c).tdiv 2), .int .i64 ((x.b + x.d).tdiv 2), .int .i64 ((x.c - x.a).tdiv 2)]) := HBR2.out.put4 _ _ _ _
   refine bodyPost_ret (v := .tuple #[.agg #[.int .i64 ((x.b - x.d).tdiv 2), .int .i64 ((x.a + x.c).tdiv 2), .int .i64 ((x.b + x.d).tdiv 2), .int .i64 ((x.c - x.a).tdiv 2)], .bool true]) ?_ rfl ?_
   rotate_left
   ·exact ⟨by rw [HD.out]; rfl, ext_put4 (g := w.heap.size + 1) HE2.out (by omega) _ _ _ _⟩
   ·exact ret_pair rfl _ _ _ _ _ _ _ rfl rfl HBB.out Tryz.underlying60 rfl Tryz.sizeZOmega
  ·have HD := Lib.hid (zDiv_is_n (x := x) (Or.inr (by unfold ev; rw [beq_eq_false_iff_ne]; exact hB)))
   clear hx
   go_enter Tryz.func90, Tryz.ntmps90
   go_wp2_with fail
   refine (IsValidZOmega_yes x _ HX0.out).mono ?_
   rintro e w1 ⟨rfl, hx1⟩
   have HBX1 : Hid (Blk w1 (w.heap.size) 60 #[.int .i64 x.a, .int .i64 x.b, .int .i64 x.c, .int .i64 x.d]) := (((Blk.newAt (b := w.heap.size) rfl).alloc _)).ext hx1
   have HBR1 : Hid (Blk w1 (w.heap.size + 1) 60 #[.int .i64 0, .int .i64 0, .int .i64 0, .int .i64 0]) := ((Blk.newAt (b := w.heap.size + 1) (by simp))).ext hx1
   have HE1 : Hid (Ext w w1) := Ext.trans (by exact xx) hx1
   clear hx1
   obtain ⟨⟨cX0, cX1, cX2, cX3⟩, -⟩ := cells4 HBX1.out
   have hw0 : IntKind.i64.wrap (x.b - x.d) = (x.b - x.d) := IntWalk.i64_in _ (by have := HN.out; omega)
   have hw1 : IntKind.i64.wrap (x.a + x.c) = (x.a + x.c) := IntWalk.i64_in _ (by have := HN.out; omega)
   have hw2 : IntKind.i64.wrap (x.b + x.d) = (x.b + x.d) := IntWalk.i64_in _ (by have := HN.out; omega)
   have hw3 : IntKind.i64.wrap (x.c - x.a) = (x.c - x.a) := IntWalk.i64_in _ (by have := HN.out; omega)
   go_upto_region 4 with (fail)
   have HBX2 : Hid (Blk (w1.alloc (.cells #[.int .i64 (x.b - x.d), .int .i64 (x.a + x.c), .int .i64 (x.b + x.d), .int .i64 (x.c - x.a)] 60)) (w.heap.size) 60 #[.int .i64 x.a, .int .i64 x.b, .int .i64 x.c, .int .i64 x.d]) := HBX1.out.alloc _
   have HBR2 : Hid (Blk (w1.alloc (.cells #[.int .i64 (x.b - x.d), .int .i64 (x.a + x.c), .int .i64 (x.b + x.d), .int .i64 (x.c - x.a)] 60)) (w.heap.size + 1) 60 #[.int .i64 0, .int .i64 0, .int .i64 0, .int .i64 0]) := HBR1.out.alloc _
   have HBY2 : Hid (Blk (w1.alloc (.cells #[.int .i64 (x.b - x.d), .int .i64 (x.a + x.c), .int .i64 (x.b + x.d), .int .i64 (x.c - x.a)] 60)) w1.heap.size 60 #[.int .i64 (x.b - x.d), .int .i64 (x.a + x.c), .int .i64 (x.b + x.d), .int .i64 (x.c - x.a)]) := Blk.new _ _ _
   have HE2 : Hid (Ext w (w1.alloc (.cells #[.int .i64 (x.b - x.d), .int .i64 (x.a + x.c), .int .i64 (x.b + x.d), .int .i64 (x.c - x.a)] 60))) := HE1.out.alloc _
   have hs2 : w.heap.size + 2 ≤ w1.heap.size := by have := (HBR1).out.lt; omega
   obtain ⟨bY, hbY⟩ : ∃ b, b = w1.heap.size := ⟨_, rfl⟩
   rw [← hbY] at HBY2 hs2 ⊢
   generalize w1.alloc (.cells #[.int .i64 (x.b - x.d), .int .i64 (x.a + x.c), .int .i64 (x.b + x.d), .int .i64 (x.c - x.a)] 60) = w2 at *
   clear hbY
   clear cX0 cX1 cX2 cX3
   clear hw0 hw1 hw2 hw3
   obtain ⟨⟨cY0, cY1, cY2, cY3⟩, -⟩ := cells4 HBY2.out
   have hr0 : IntKind.i64.wrap ((x.b - x.d).tmod 2) = (x.b - x.d).tmod 2 := IntWalk.i64_in _ (by have := tmod_bd (x.b - x.d); omega)
   have hr1 : IntKind.i64.wrap ((x.a + x.c).tmod 2) = (x.a + x.c).tmod 2 := IntWalk.i64_in _ (by have := tmod_bd (x.a + x.c); omega)
   have hr2 : IntKind.i64.wrap ((x.b + x.d).tmod 2) = (x.b + x.d).tmod 2 := IntWalk.i64_in _ (by have := tmod_bd (x.b + x.d); omega)
   have hr3 : IntKind.i64.wrap ((x.c - x.a).tmod 2) = (x.c - x.a).tmod 2 := IntWalk.i64_in _ (by have := tmod_bd (x.c - x.a); omega)
   have hB2 : ((x.a + x.c).tmod 2 != 0) = true := bne_iff_ne.2 hB
   obtain ⟨⟨cR0, cR1, cR2, cR3⟩, fR0, fR1, fR2, fR3⟩ := cells4 HBR2.out
   go_wp2
   have HBB : Hid (Blk (put4 w2 (w.heap.size + 1) (.int .i64 0) (.int .i64 0) (.int .i64 0) (.int .i64 0)) (w.heap.size + 1) 60 #[.int .i64 0, .int .i64 0, .int .i64 0, .int .i64 0]) := HBR2.out.put4 _ _ _ _
   refine bodyPost_ret (v := .tuple #[.agg #[.int .i64 0, .int .i64 0, .int .i64 0, .int .i64 0], .bool false]) ?_ rfl ?_
   rotate_left
   ·exact ⟨by rw [HD.out]; rfl, ext_put4 (g := w.heap.size + 1) HE2.out (by omega) _ _ _ _⟩
   ·exact ret_pair rfl _ _ _ _ _ _ _ rfl rfl HBB.out Tryz.underlying60 rfl Tryz.sizeZOmega
 ·have HD := Lib.hid (zDiv_is_n (x := x) (Or.inl (by unfold ev; rw [beq_eq_false_iff_ne]; exact hA)))
  clear hx
  go_enter Tryz.func90, Tryz.ntmps90
  go_wp2_with fail
  refine (IsValidZOmega_yes x _ HX0.out).mono ?_
  rintro e w1 ⟨rfl, hx1⟩
  have HBX1 : Hid (Blk w1 (w.heap.size) 60 #[.int .i64 x.a, .int .i64 x.b, .int .i64 x.c, .int .i64 x.d]) := (((Blk.newAt (b := w.heap.size) rfl).alloc _)).ext hx1
  have HBR1 : Hid (Blk w1 (w.heap.size + 1) 60 #[.int .i64 0, .int .i64 0, .int .i64 0, .int .i64 0]) := ((Blk.newAt (b := w.heap.size + 1) (by simp))).ext hx1
  have HE1 : Hid (Ext w w1) := Ext.trans (by exact xx) hx1
  clear hx1
  obtain ⟨⟨cX0, cX1, cX2, cX3⟩, -⟩ := cells4 HBX1.out
  have hw0 : IntKind.i64.wrap (x.b - x.d) = (x.b - x.d) := IntWalk.i64_in _ (by have := HN.out; omega)
  have hw1 : IntKind.i64.wrap (x.a + x.c) = (x.a + x.c) := IntWalk.i64_in _ (by have := HN.out; omega)
  have hw2 : IntKind.i64.wrap (x.b + x.d) = (x.b + x.d) := IntWalk.i64_in _ (by have := HN.out; omega)
  have hw3 : IntKind.i64.wrap (x.c - x.a) = (x.c - x.a) := IntWalk.i64_in _ (by have := HN.out; omega)
  go_upto_region 4 with (fail)
  have HBX2 : Hid (Blk (w1.alloc (.cells #[.int .i64 (x.b - x.d), .int .i64 (x.a + x.c), .int .i64 (x.b + x.d), .int .i64 (x.c - x.a)] 60)) (w.heap.size) 60 #[.int .i64 x.a, .int .i64 x.b, .int .i64 x.c, .int .i64 x.d]) := HBX1.out.alloc _
  have HBR2 : Hid (Blk (w1.alloc (.cells #[.int .i64 (x.b - x.d), .int .i64 (x.a + x.c), .int .i64 (x.b + x.d), .int .i64 (x.c - x.a)] 60)) (w.heap.size + 1) 60 #[.int .i64 0, .int .i64 0, .int .i64 0, .int .i64 0]) := HBR1.out.alloc _
  have HBY2 : Hid (Blk (w1.alloc (.cells #[.int .i64 (x.b - x.d), .int .i64 (x.a + x.c), .int .i64 (x.b + x.d), .int .i64 (x.c - x.a)] 60)) w1.heap.size 60 #[.int .i64 (x.b - x.d), .int .i64 (x.a + x.c), .int .i64 (x.b + x.d), .int .i64 (x.c - x.a)]) := Blk.new _ _ _
  have HE2 : Hid (Ext w (w1.alloc (.cells #[.int .i64 (x.b - x.d), .int .i64 (x.a + x.c), .int .i64 (x.b + x.d), .int .i64 (x.c - x.a)] 60))) := HE1.out.alloc _
  have hs2 : w.heap.size + 2 ≤ w1.heap.size := by have := (HBR1).out.lt; omega
  obtain ⟨bY, hbY⟩ : ∃ b, b = w1.heap.size := ⟨_, rfl⟩
  rw [← hbY] at HBY2 hs2 ⊢
  generalize w1.alloc (.cells #[.int .i64 (x.b - x.d), .int .i64 (x.a + x.c), .int .i64 (x.b + x.d), .int .i64 (x.c - x.a)] 60) = w2 at *
  clear hbY
  clear cX0 cX1 cX2 cX3
  clear hw0 hw1 hw2 hw3
  obtain ⟨⟨cY0, cY1, cY2, cY3⟩, -⟩ := cells4 HBY2.out
  have hr0 : IntKind.i64.wrap ((x.b - x.d).tmod 2) = (x.b - x.d).tmod 2 := IntWalk.i64_in _ (by have := tmod_bd (x.b - x.d); omega)
  have hr1 : IntKind.i64.wrap ((x.a + x.c).tmod 2) = (x.a + x.c).tmod 2 := IntWalk.i64_in _ (by have := tmod_bd (x.a + x.c); omega)
  have hr2 : IntKind.i64.wrap ((x.b + x.d).tmod 2) = (x.b + x.d).tmod 2 := IntWalk.i64_in _ (by have := tmod_bd (x.b + x.d); omega)
  have hr3 : IntKind.i64.wrap ((x.c - x.a).tmod 2) = (x.c - x.a).tmod 2 := IntWalk.i64_in _ (by have := tmod_bd (x.c - x.a); omega)
  have hA1 := hA
  have hA2 : ((x.b - x.d).tmod 2 != 0) = true := bne_iff_ne.2 hA
  obtain ⟨⟨cR0, cR1, cR2, cR3⟩, fR0, fR1, fR2, fR3⟩ := cells4 HBR2.out
  go_wp2
  have HBB : Hid (Blk (put4 w2 (w.heap.size + 1) (.int .i64 0) (.int .i64 0) (.int .i64 0) (.int .i64 0)) (w.heap.size + 1) 60 #[.int .i64 0, .int .i64 0, .int .i64 0, .int .i64 0]) := HBR2.out.put4 _ _ _ _
  refine bodyPost_ret (v := .tuple #[.agg #[.int .i64 0, .int .i64 0, .int .i64 0, .int .i64 0], .bool false]) ?_ rfl ?_
  rotate_left
  ·exact ⟨by rw [HD.out]; rfl, ext_put4 (g := w.heap.size + 1) HE2.out (by omega) _ _ _ _⟩
  ·exact ret_pair rfl _ _ _ _ _ _ _ rfl rfl HBB.out Tryz.underlying60 rfl Tryz.sizeZOmega
end Go.Proofs.YtioimnplhmgbgaaGreat
namespace Go.Proofs.YtioimnplhmgbgaaGreat
open Go.ChangeShapes Go.WideShapes Go.ChangeAt Go.RowKit Go.Deep
set_option linter.unusedVariables false
set_option linter.unusedSimpArgs false
set_option maxRecDepth 100000 in
set_option maxHeartbeats 8000000 in
theorem IsValidDOmega_yes (x : Dw) (w : World) (hx : dok x = true) : Calls Tryz.prog 76 #[x.val] w fun e w' => e = .returned (.bool true) ∧ Ext w w' := by
 obtain ⟨x1, x2, x3, x4⟩ := dok_iff.1 hx
 have HX0 := Lib.hid x1
 obtain ⟨m, hm⟩ : ∃ m, (zDiv x.n).1 = m := ⟨_, rfl⟩
 obtain ⟨q, hq⟩ : ∃ q, (zDiv x.n).2 = q := ⟨_, rfl⟩
 have HDV : Hid (∀ w', Calls Tryz.prog 90 #[x.n.val] w' fun e w'' => e = .returned (.tuple #[m.val, .bool q]) ∧ Ext w' w'') := fun w' => by rw [← hm, ← hq]; exact DivSqrt2_any x.n w' x1
 have hE : Hid (0 ≤ x.e ∧ x.e ≤ 60) := ⟨x2, x3⟩
 clear hx x1 hm x2 x3
 cases q with
 | false =>
  clear x4 hq
  go_enter Tryz.func76, Tryz.ntmps76
  go_wp2_with fail
  refine (HDV.out _).mono ?_
  rintro e w1 ⟨rfl, hx1⟩
  have HBX1 : Hid (Blk w1 (w.heap.size) 62 #[.int .i64 x.n.a, .int .i64 x.n.b, .int .i64 x.n.c, .int .i64 x.n.d, .int .i64 x.e]) := ((Blk.newAt (b := w.heap.size) rfl)).ext hx1
  have HE1 : Hid (Ext w w1) := Ext.trans (by exact xx) hx1
  clear hx1
  go_upto_region 2 with (fail)
  have HBX2 : Hid (Blk (w1.alloc (.cells #[.int .i64 m.a, .int .i64 m.b, .int .i64 m.c, .int .i64 m.d] 60)) (w.heap.size) 62 #[.int .i64 x.n.a, .int .i64 x.n.b, .int .i64 x.n.c, .int .i64 x.n.d, .int .i64 x.e]) := HBX1.out.alloc _
  have HBM2 : Hid (Blk (w1.alloc (.cells #[.int .i64 m.a, .int .i64 m.b, .int .i64 m.c, .int .i64 m.d] 60)) w1.heap.size 60 #[.int .i64 m.a, .int .i64 m.b, .int .i64 m.c, .int .i64 m.d]) := Blk.new _ _ _
  have HE2 : Hid (Ext w (w1.alloc (.cells #[.int .i64 m.a, .int .i64 m.b, .int .i64 m.c, .int .i64 m.d] 60))) := HE1.out.alloc _
  have hs2 : w.heap.size + 1 ≤ w1.heap.size := by have := (HBX1).out.lt; omega
  obtain ⟨bM, hbM⟩ : ∃ b, b = w1.heap.size := ⟨_, rfl⟩
  rw [← hbM] at HBM2 hs2 ⊢
  generalize w1.alloc (.cells #[.int .i64 m.a, .int .i64 m.b, .int .i64 m.c, .int .i64 m.d] 60) = w2 at *
  clear hbM
  obtain ⟨⟨cX0, cX1, cX2, cX3, cX4⟩, -⟩ := cells5 HBX2.out
  go_wp2_with fail
  refine (IsValidZOmega_yes x.n _ HX0.out).mono ?_
  rintro e w3 ⟨rfl, hx3⟩
  have HBX3 := Lib.hid (HBX2.out.ext hx3)
  have HBM3 := Lib.hid (HBM2.out.ext hx3)
  have HE3 := Lib.hid (HE2.out.trans hx3)
  clear hx3
  clear cX0 cX1 cX2 cX3 cX4
  obtain ⟨⟨cX0, cX1, cX2, cX3, cX4⟩, -⟩ := cells5 HBX3.out
  go_wp2_with fail
  refine (l1In_yes _ _ _ _ hE.out.1 hE.out.2).mono ?_
  rintro e w' ⟨rfl, rfl⟩
  go_wp2
  go_ret
  exact ⟨rfl, HE3.out⟩
 | true =>
  have h0 : x.e = 0 := by
   rcases x4 with h | h
   ·exact h
   ·rw [hq] at h; cases h
  have HB0 : Hid ((x.e == 0) = true) := beq_iff_eq.2 h0
  clear h0 x4 hq
  go_enter Tryz.func76, Tryz.ntmps76
  go_wp2_with fail
  refine (HDV.out _).mono ?_
  rintro e w1 ⟨rfl, hx1⟩
  have HBX1 : Hid (Blk w1 (w.heap.size) 62 #[.int .i64 x.n.a, .int .i64 x.n.b, .int .i64 x.n.c, .int .i64 x.n.d, .int .i64 x.e]) := ((Blk.newAt (b := w.heap.size) rfl)).ext hx1
  have HE1 : Hid (Ext w w1) := Ext.trans (by exact xx) hx1
  clear hx1
  go_upto_region 2 with (fail)
  have HBX2 : Hid (Blk (w1.alloc (.cells #[.int .i64 m.a, .int .i64 m.b, .int .i64 m.c, .int .i64 m.d] 60)) (w.heap.size) 62 #[.int .i64 x.n.a, .int .i64 x.n.b, .int .i64 x.n.c, .int .i64 x.n.d, .int .i64 x.e]) := HBX1.out.alloc _
  have HBM2 : Hid (Blk (w1.alloc (.cells #[.int .i64 m.a, .int .i64 m.b, .int .i64 m.c, .int .i64 m.d] 60)) w1.heap.size 60 #[.int .i64 m.a, .int .i64 m.b, .int .i64 m.c, .int .i64 m.d]) := Blk.new _ _ _
  have HE2 : Hid (Ext w (w1.alloc (.cells #[.int .i64 m.a, .int .i64 m.b, .int .i64 m.c, .int .i64 m.d] 60))) := HE1.out.alloc _
  have hs2 : w.heap.size + 1 ≤ w1.heap.size := by have := (HBX1).out.lt; omega
  obtain ⟨bM, hbM⟩ : ∃ b, b = w1.heap.size := ⟨_, rfl⟩
  rw [← hbM] at HBM2 hs2 ⊢
  generalize w1.alloc (.cells #[.int .i64 m.a, .int .i64 m.b, .int .i64 m.c, .int .i64 m.d] 60) = w2 at *
  clear hbM
  obtain ⟨⟨cX0, cX1, cX2, cX3, cX4⟩, -⟩ := cells5 HBX2.out
  go_wp2_with fail
  refine (IsValidZOmega_yes x.n _ HX0.out).mono ?_
  rintro e w3 ⟨rfl, hx3⟩
  have HBX3 := Lib.hid (HBX2.out.ext hx3)
  have HBM3 := Lib.hid (HBM2.out.ext hx3)
  have HE3 := Lib.hid (HE2.out.trans hx3)
  clear hx3
  clear cX0 cX1 cX2 cX3 cX4
  obtain ⟨⟨cX0, cX1, cX2, cX3, cX4⟩, -⟩ := cells5 HBX3.out
  go_wp2_with fail
  refine (l1In_yes _ _ _ _ hE.out.1 hE.out.2).mono ?_
  rintro e w' ⟨rfl, rfl⟩
  have hb : (x.e == 0) = true := HB0.out
  go_wp2
  go_ret
  exact ⟨rfl, HE3.out⟩
end Go.Proofs.YtioimnplhmgbgaaGreat
