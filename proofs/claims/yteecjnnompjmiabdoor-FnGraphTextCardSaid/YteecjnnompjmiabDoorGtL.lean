/-
  For every input, the law FnGraphText returns true: graphs round-trip through their text. The tied card: of the row's list the table of powers and the two errors are read; that the library's own length is an int comes of the world's shape.
-/
import Derived.Test.YteecjnnompjmiabDoorIpgr
import Derived.Test.YteecjnnompjmiabDoorDrawU
import Derived.Test.YteecjnnompjmiabDoorTu
import Derived.Test.YteecjnnompjmiabDoorHandS
import Derived.Test.YteecjnnompjmiabDoorCards
import Derived.Test.YteecjnnompjmiabDoorTie
import Derived.LaidMore
import Derived.MakeChecks
import Derived.Stop.Joined
import Derived.Stop.LaidErr
import Derived.SevenTiedAt
import Derived.Lay
import Derived.LaidOnce
namespace Go.Proofs.YteecjnnompjmiabDoor
open Go.ChangeShapes Go.WideShapes Go.ChangeAt Go.RowKit Go.Deep
set_option linter.unusedVariables false
namespace fnGraphText
theorem bigG_any (A : Option Addr) (n c : Nat) (w : World) (hn : n ≤ maxLen) :
    Calls Tryd.prog 4 #[.slice A n c] w fun e w' => e = .returned (.bool (decide (1048576 < n))) ∧ w = w' := by
  unfold maxLen at hn
  go_enter Tryd.func4, Tryd.ntmps4
  go_wp2
  go_ret
  exact ⟨ret_bool (by first | rfl | (rw [decide_eq_decide]; omega)), rfl⟩
/-- A drawn graph, in new memory. -/
def DG1 (w : World) (e : Ending) (w' : World) : Prop := ∃ (x : Gr) (A : Option Addr) (cap : Nat), e = .returned (.agg #[.int .i64 x.n, .slice A x.es.length cap]) ∧ x.es.length ≤ 8 ∧ w'.ownsRow (w.heap.size + 1) 38 2 (.slice A x.es.length cap) x.es.length (ecells x.es) ∧ (∀ e ∈ x.es, e.ok) ∧ Ext w w'
theorem dg1_of {w w1 w' : World} {g : Nat} {P : Int → Prop} {e : Ending} (hx : Ext w w1) (hg : w.heap.size ≤ g) (hg1 : w.heap.size + 1 ≤ w1.heap.size) (h : DrewGr w1 g 8 P e w') : DG1 w e w' := by
  obtain ⟨N, A, len, cap, es, rfl, _, hl, ho, _, hG, hok⟩ := h
  have hr := Rd.own ho
  obtain rfl : es.length = len := hr.len Ed.cells_len (by omega)
  exact ⟨⟨N, es⟩, A, cap, rfl, hl, own_base ho hg1, hok, Ext.grown hx hG (fun q hq => by injection hq with hq; omega)⟩
set_option maxRecDepth 100000 in
set_option maxHeartbeats 4000000 in
theorem drawGraph_any (A : Option Addr) (n c : Nat) (bs : List Int) (w : World) (h : Rd w w.heap.size 1 A n (u8cs bs)) (hn : n ≤ 1048576) :
    Calls Tryd.prog 5 #[.slice A n c] w (DG1 w) := by
  go_enter Tryd.func5, Tryd.ntmps5
  go_wp2_with fail
  refine (l1New_any A n c bs _ (h.ext ((Ext.refl w).alloc _)) hn).mono ?_
  rintro e w1 ⟨rfl, hC1, hx1⟩
  have HX1 : Hid (Ext w w1) := Ext.trans ((Ext.refl w).alloc _) hx1
  have HB : Hid (Blk w1 w.heap.size 26 #[.int .i64 0, .slice none 0 0]) := (Blk.new w _ _).ext hx1
  generalize hgg : (w.alloc (.cells #[.int .i64 0, .slice none 0 0] 26)).heap.size = g at *
  have HGE : Hid (w.heap.size < g) := by unfold Hid; rw [← hgg]; simp
  clear hgg hx1
  go_wp2_with fail
  refine (l36Bent_any g _ hC1).mono ?_
  rintro e w2 ⟨N, B, len, cap, es, rfl, hP, hl, ho, hC2, hG, hok⟩
  have HB2 : Hid (Blk w2 w.heap.size 26 #[.int .i64 0, .slice none 0 0]) := HB.out.grown hG (fun k hk => by injection hk with hk; have := HGE.out; omega)
  have HD : Hid (DG1 w (.returned (.agg #[.int .i64 N, .slice B len cap])) w2) := dg1_of (P := fun N => -1 ≤ N ∧ N ≤ 5) HX1.out (Nat.le_of_lt HGE.out) HB.out.lt ⟨N, B, len, cap, es, rfl, hP, hl, ho, hC2, hG, hok⟩
  obtain ⟨⟨a0, a1⟩, z0, z1⟩ := cells2 HB2.out
  clear hG ho hok hC1 hC2 hP hl h
  go_wp2
  refine bodyPost_ret (v := .agg #[.int .i64 N, .slice B len cap]) (results_cell_row rfl _ _ w.heap.size 26 #[.int .i64 N, .slice B len cap] (0, 0) _ rfl (HB2.out.put2 (.int .i64 N) (.slice B len cap)) Tryd.underlying26 rfl Tryd.sizeGraphR) rfl ?_
  obtain ⟨x, A', cap', he, hl8, hat, hok', hx⟩ := HD.out
  exact ⟨x, A', cap', he, hl8, own_set (own_set hat (p := ⟨w.heap.size, 0, none⟩) (Nat.lt_succ_self _) _) (p := ⟨w.heap.size, 1, none⟩) (Nat.lt_succ_self _) _, hok', ext_put2 hx (Nat.le_refl _) _ _⟩
set_option maxRecDepth 100000 in
set_option maxHeartbeats 4000000 in
theorem drawText_any (A : Option Addr) (n c : Nat) (bs : List Int) (w : World) (h : Rd w w.heap.size 1 A n (u8cs bs)) (hn : n ≤ 1048576) :
    Calls Tryd.prog 8 #[.slice A n c] w fun e w' => (∃ t : ByteArray, e = .returned (.string t) ∧ t.size ≤ 10000) ∧ Ext w w' := by
  go_enter Tryd.func8, Tryd.ntmps8
  go_wp2_with fail
  refine (l1New_any A n c bs _ h hn).mono ?_
  rintro e w1 ⟨rfl, hC1, hx1⟩
  obtain ⟨g, hgg⟩ : ∃ g, w.heap.size = g := ⟨_, rfl⟩
  rw [hgg] at hC1 ⊢
  have HGE : Hid (w.heap.size ≤ g) := Nat.le_of_eq hgg
  clear hgg
  go_wp2_with fail
  refine (l36Bent_any g _ hC1).mono ?_
  rintro e w2 ⟨N, B, len, cap, es, rfl, hP, hl, ho, hC2, hG, hok⟩
  have hr := Rd.own ho
  obtain rfl : es.length = len := hr.len Ed.cells_len (by omega)
  have X2 : Hid (Ext w w2) := Ext.grown hx1 hG (fun q hq => by injection hq with hq; have := HGE.out; omega)
  go_wp2_with fail
  refine (spec_FormatGraph_any _ ⟨N, es⟩ _ ⟨B, cap, rfl, hr⟩ (by show es.length ≤ _; omega)).mono ?_
  rintro e w3 ⟨rfl, hx3⟩
  have hsz : (fmtG ⟨N, es⟩).size ≤ 250 := by
    unfold fmtG
    split
    · rw [fes_size]
      have : (dig N).size = 1 := rfl
      show (dig N).size + 4 * es.length ≤ 250
      omega
    · exact Nat.zero_le _
  obtain ⟨s, hs⟩ : ∃ s, fmtG ⟨N, es⟩ = s := ⟨_, rfl⟩
  rw [hs] at hsz ⊢
  clear hs
  have hC3 := hC2.ext hx3
  have HX3 : Hid (Ext w w3) := X2.out.trans hx3
  clear hr ho hG hok hP hl hC1 hC2 hx3 hx1 h
  have hgl := hC3.lt
  go_wp2_with fail
  refine (l1Turned_any g s _ 5 5 [⟨#[32]⟩, ⟨#[45]⟩, ⟨#[48]⟩, ⟨#[49]⟩, ⟨#[32, 48, 45, 49]⟩] _ hsz (hC3.alloc _) (rd_newN w3 _ _ _ 5 1 _ rfl rfl rfl) (by intro b o e; injection e with e; injection e with e1; omega) (by omega) (by intro x hx; simp at hx; rcases hx with rfl | rfl | rfl | rfl | rfl <;> decide)).mono ?_
  rintro e w4 ⟨t, rfl, ht, hC4, hG4⟩
  go_wp2
  go_ret
  exact ⟨⟨t, rfl, ht⟩, Ext.grown (HX3.out.alloc _) hG4 (fun q hq => by injection hq with hq; have := HGE.out; omega)⟩
theorem ok_iff {x y : Gr} {k : Bool} (h : (k = true ∧ vgraph y = true ∧ fmtG y = fmtG x ∧ ∀ z : Gr, vgraph z = true → fmtG x = fmtG z → y = z) ∨ (k = false ∧ y = Gr0 ∧ ∀ z : Gr, vgraph z = true → fmtG x ≠ fmtG z)) : k = vgraph x ∧ (k = true → y = x) := by
  rcases h with ⟨rfl, hv, ht, hu⟩ | ⟨rfl, rfl, hn⟩
  · cases hx : vgraph x
    · rw [fmtG_no hx] at ht
      have := fmtG_size0 hv
      rw [ht] at this
      exact absurd this (by decide)
    · exact ⟨rfl, fun _ => hu x hx rfl⟩
  · cases hx : vgraph x
    · exact ⟨rfl, fun h => by cases h⟩
    · exact absurd rfl (hn x hx)
theorem same {s : ByteArray} {o o' : Gr} {k k' : Bool}
    (h : (k = true ∧ vgraph o = true ∧ fmtG o = s ∧ ∀ x : Gr, vgraph x = true → s = fmtG x → o = x) ∨ (k = false ∧ o = Gr0 ∧ ∀ x : Gr, vgraph x = true → s ≠ fmtG x))
    (h' : (k' = true ∧ vgraph o' = true ∧ fmtG o' = s ∧ ∀ x : Gr, vgraph x = true → s = fmtG x → o' = x) ∨ (k' = false ∧ o' = Gr0 ∧ ∀ x : Gr, vgraph x = true → s ≠ fmtG x)) : k = k' ∧ (k = true → fmtG o = s ∧ ∀ e ∈ o.es, e.ok) := by
  have hok : ∀ x : Gr, vgraph x = true → ∀ e ∈ x.es, e.ok := by
    intro x hx e he
    obtain ⟨j, hj⟩ := List.getElem?_of_mem he
    have := (vg_facts hx).2 hj
    unfold Ed.ok I64
    omega
  rcases h with ⟨rfl, hv, ht, hu⟩ | ⟨rfl, rfl, hn⟩
  · rcases h' with ⟨rfl, hv', ht', _⟩ | ⟨rfl, rfl, hn'⟩
    · exact ⟨rfl, fun _ => ⟨ht, hok o hv⟩⟩
    · exact absurd ht.symm (hn' o hv)
  · rcases h' with ⟨rfl, hv', ht', _⟩ | ⟨rfl, rfl, hn'⟩
    · exact absurd ht'.symm (hn o' hv')
    · exact ⟨rfl, fun h => by cases h⟩
set_option maxRecDepth 100000 in
set_option maxHeartbeats 8000000 in
theorem walk (A : Option Addr) (n c : Nat) (bs : List Int) (w : World) (h : Rd w w.heap.size 1 A n (u8cs bs)) (hm : n ≤ maxLen) (hw : PW w) :
    Calls Tryd.prog 3 #[.slice A n c] w fun e w' => e = .returned (.bool true) ∧ Ext w w' := by
  have HA : Hid (∀ w', Ext w w' → Rd w' w'.heap.size 1 A n (u8cs bs)) := fun w' q => h.ext q
  have HPW := Lib.hid hw
  clear h hw
  go_enter Tryd.func3, Tryd.ntmps3
  go_wp2_with fail
  refine (bigG_any A n c _ hm).mono ?_
  rintro e wb ⟨rfl, rfl⟩
  by_cases hb : 1048576 < n
  · have hbd : decide (1048576 < n) = true := decide_eq_true hb
    rw [hbd]
    go_wp2
    go_ret
    exact ⟨rfl, Ext.refl _⟩
  have hbd : decide (1048576 < n) = false := decide_eq_false hb
  rw [hbd]
  clear hbd
  have hn : n ≤ 1048576 := by omega
  have HNN := Lib.hid hn
  clear hn hb hm
  go_wp2_with fail
  refine (drawGraph_any A n c bs _ (HA.out _ (Ext.refl _)) HNN.out).mono ?_
  rintro e w1 ⟨x, A1, c1, rfl, hl8, ho1, hok, hx1⟩
  have HOK := Lib.hid hok
  have H8 : Hid (x.es.length ≤ 100000000) := Nat.le_trans hl8 (by decide)
  have HS : Hid ((fmtG x).size ≤ 1500000) := by
    unfold Hid fmtG
    split
    · rw [fes_size]
      have : (dig x.n).size = 1 := rfl
      omega
    · exact Nat.zero_le _
  have HX1 := Lib.hid hx1
  have HR1 : Hid (∀ w', Ext w1 w' → GrAt w' w'.heap.size (.agg #[.int .i64 x.n, .slice A1 x.es.length c1]) x) := fun w' q => ⟨A1, c1, rfl, (Rd.own ho1).ext q⟩
  obtain ⟨l1, hl1⟩ : ∃ l, x.es.length = l := ⟨_, rfl⟩
  rw [hl1] at HR1 ⊢
  clear hx1 ho1 hok hl8
  have B3 : Hid (Blk (w1.alloc (.cells #[.int .i64 x.n, .slice A1 l1 c1] 26)) w1.heap.size 26 #[.int .i64 x.n, .slice A1 l1 c1]) := Blk.new _ _ _
  have X3 : Hid (Ext w1 (w1.alloc (.cells #[.int .i64 x.n, .slice A1 l1 c1] 26))) := (Ext.refl _).alloc _
  go_upto_region 4 with (fail)
  generalize w1.alloc (.cells #[.int .i64 x.n, .slice A1 l1 c1] 26) = W3 at *
  generalize w1.heap.size = p3 at *
  have a0 : W3.cell? ⟨p3, 0, none⟩ = some (.int .i64 x.n) := B3.out.cell 0
  have a1 : W3.cell? ⟨p3, 1, none⟩ = some (.slice A1 l1 c1) := B3.out.cell 1
  go_wp2_with fail
  refine (impl_FormatGraph_any _ x _ (HR1.out _ X3.out) H8.out HOK.out).mono ?_
  rintro e w4 ⟨rfl, hx4⟩
  have X4 := Lib.hid hx4
  clear hx4 a0 a1
  obtain ⟨s, hs⟩ : ∃ s, fmtG x = s := ⟨_, rfl⟩
  rw [hs] at HS ⊢
  have HSS := Lib.hid hs
  clear hs
  go_wp2_with fail
  refine (impl_ParseGraph_any s HS.out _ (HPW.out.ext (HX1.out.trans (X3.out.trans X4.out)))).mono ?_
  rintro e w5 ⟨⟨v5, y, k, b5, rfl, hO5, _, hl5, hR5⟩, hx5⟩
  obtain ⟨A5, c5, rfl, _⟩ := id hO5
  have HK : Hid (k = vgraph x ∧ (k = true → y = x)) := ok_iff (by rw [HSS.out]; exact hR5)
  have X5 := Lib.hid hx5
  have HO5 := Lib.hid hO5
  obtain ⟨l5, hl5'⟩ : ∃ l, y.es.length = l := ⟨_, rfl⟩
  rw [hl5'] at hl5 HO5 ⊢
  have HL5 : Hid (y.es.length ≤ 100000000) := by unfold Hid; omega
  clear hO5 hl5 hl5' hR5 hx5
  have B5 : Hid (Blk (w5.alloc (.cells #[.int .i64 y.n, .slice A5 l5 c5] 26)) w5.heap.size 26 #[.int .i64 y.n, .slice A5 l5 c5]) := Blk.new _ _ _
  have X6 : Hid (Ext w5 (w5.alloc (.cells #[.int .i64 y.n, .slice A5 l5 c5] 26))) := (Ext.refl _).alloc _
  go_upto_region 6 with (fail)
  generalize w5.alloc (.cells #[.int .i64 y.n, .slice A5 l5 c5] 26) = W6 at *
  generalize w5.heap.size = p5 at *
  have XA : Hid (Ext W3 W6) := X4.out.trans (X5.out.trans X6.out)
  have XB : Hid (Ext w W6) := HX1.out.trans (X3.out.trans XA.out)
  go_wp2_with fail
  refine (drawText_any A n c bs _ (HA.out _ XB.out) HNN.out).mono ?_
  rintro e w7 ⟨⟨t, rfl, ht⟩, hx7⟩
  have HT : Hid (t.size ≤ 1500000) := Nat.le_trans ht (by decide)
  have X7 := Lib.hid hx7
  clear ht hx7
  go_wp2_with fail
  refine (impl_ParseGraph_any t HT.out _ (HPW.out.ext (XB.out.trans X7.out))).mono ?_
  rintro e w8 ⟨⟨v8, z, r, b8, rfl, hO8, _, hl8, hR8⟩, hx8⟩
  obtain ⟨A8, c8, rfl, _⟩ := id hO8
  have HR8 := Lib.hid hR8
  have X8 := Lib.hid hx8
  have HO8 := Lib.hid hO8
  obtain ⟨l8, hl8'⟩ : ∃ l, z.es.length = l := ⟨_, rfl⟩
  rw [hl8'] at hl8 HO8 ⊢
  have HL8 : Hid (z.es.length ≤ 100000000) := by unfold Hid; omega
  clear hO8 hl8 hl8' hR8 hx8
  have B8 : Hid (Blk (w8.alloc (.cells #[.int .i64 z.n, .slice A8 l8 c8] 26)) w8.heap.size 26 #[.int .i64 z.n, .slice A8 l8 c8]) := Blk.new _ _ _
  have X9 : Hid (Ext w8 (w8.alloc (.cells #[.int .i64 z.n, .slice A8 l8 c8] 26))) := (Ext.refl _).alloc _
  go_upto_region 8 with (fail)
  generalize w8.alloc (.cells #[.int .i64 z.n, .slice A8 l8 c8] 26) = W9 at *
  generalize w8.heap.size = p8 at *
  go_wp2_with fail
  refine (spec_ParseGraph_any t HT.out _).mono ?_
  rintro e wa ⟨⟨va, z', r', ba, rfl, hOa, _, hla, hRa⟩, hxa⟩
  obtain ⟨Aa, ca, rfl, _⟩ := id hOa
  have HRR : Hid (r = r' ∧ (r = true → fmtG z = t ∧ ∀ e ∈ z.es, e.ok)) := same HR8.out hRa
  obtain ⟨rfl, hrz⟩ := id HRR.out
  have HRZ := Lib.hid hrz
  have Xa := Lib.hid hxa
  clear hOa hla hRa hxa hrz HRR
  have Xb : Hid (Ext wa (wa.alloc (.cells #[.int .i64 z'.n, .slice Aa z'.es.length ca] 26))) := (Ext.refl _).alloc _
  go_upto_region 9 with (fail)
  generalize wa.alloc (.cells #[.int .i64 z'.n, .slice Aa z'.es.length ca] 26) = W at *
  generalize wa.heap.size = pa at *
  have XC : Hid (Ext w8 W) := X9.out.trans (Xa.out.trans Xb.out)
  have XD : Hid (Ext W6 W) := X7.out.trans (X8.out.trans XC.out)
  have XE : Hid (Ext W3 W) := XA.out.trans XD.out
  have XF : Hid (Ext w W) := XB.out.trans XD.out
  have F3 : Hid (∀ w', Ext W w' → w'.cell? ⟨p3, 0, none⟩ = some (.int .i64 x.n) ∧ w'.cell? ⟨p3, 1, none⟩ = some (.slice A1 l1 c1)) := fun w' q => ⟨(B3.out.ext (XE.out.trans q)).cell 0, (B3.out.ext (XE.out.trans q)).cell 1⟩
  have F5 : Hid (∀ w', Ext W w' → w'.cell? ⟨p5, 0, none⟩ = some (.int .i64 y.n) ∧ w'.cell? ⟨p5, 1, none⟩ = some (.slice A5 l5 c5)) := fun w' q => ⟨(B5.out.ext (XD.out.trans q)).cell 0, (B5.out.ext (XD.out.trans q)).cell 1⟩
  have F8 : Hid (∀ w', Ext W w' → w'.cell? ⟨p8, 0, none⟩ = some (.int .i64 z.n) ∧ w'.cell? ⟨p8, 1, none⟩ = some (.slice A8 l8 c8)) := fun w' q => ⟨(B8.out.ext ((Xa.out.trans Xb.out).trans q)).cell 0, (B8.out.ext ((Xa.out.trans Xb.out).trans q)).cell 1⟩
  have G3 : Hid (∀ w', Ext W w' → GrAt w' w'.heap.size (.agg #[.int .i64 x.n, .slice A1 l1 c1]) x) := fun w' q => HR1.out _ (X3.out.trans (XE.out.trans q))
  have G5 : Hid (∀ w', Ext W w' → GrAt w' w'.heap.size (.agg #[.int .i64 y.n, .slice A5 l5 c5]) y) := fun w' q => (HO5.out.ext (X6.out.trans (XD.out.trans q))).at_
  have G8 : Hid (∀ w', Ext W w' → GrAt w' w'.heap.size (.agg #[.int .i64 z.n, .slice A8 l8 c8]) z) := fun w' q => (HO8.out.ext (XC.out.trans q)).at_
  have hss := str_beq_self s
  have hzt := str_beq_self t
  obtain ⟨a0, a1⟩ := F3.out _ (Ext.refl _)
  go_wp2_with fail
  refine (spec_FormatGraph_any _ x _ (G3.out _ (Ext.refl _)) H8.out).mono ?_
  rintro e u1 ⟨rfl, hu1⟩
  rw [HSS.out]
  clear a0 a1
  have U1 := Lib.hid hu1
  clear hu1
  obtain ⟨a0, a1⟩ := F3.out _ U1.out
  go_wp2_with fail
  refine (spec_IsValidGraph_any _ x _ (G3.out _ U1.out) H8.out).mono ?_
  rintro e u2 ⟨rfl, hu2⟩
  clear a0 a1
  have U2 : Hid (Ext W u2) := U1.out.trans hu2
  clear hu2
  rw [← HK.out.1]
  have hkk : (k == k) = true := by cases k <;> rfl
  have hrr : (r == r) = true := by cases r <;> rfl
  cases k
  · cases r
    · go_wp2
      go_ret
      exact ⟨rfl, XF.out.trans U2.out⟩
    · obtain ⟨b0, b1⟩ := F8.out _ U2.out
      go_wp2_with fail
      refine (impl_FormatGraph_any _ z _ (G8.out _ U2.out) HL8.out (HRZ.out trivial).2).mono ?_
      rintro e u3 ⟨rfl, hu3⟩
      rw [(HRZ.out trivial).1]
      go_wp2
      go_ret
      exact ⟨rfl, XF.out.trans (U2.out.trans hu3)⟩
  · have HYX := Lib.hid (HK.out.2 rfl)
    obtain ⟨a0, a1⟩ := F5.out _ U2.out
    go_wp2_with fail
    refine (impl_FormatGraph_any _ y _ (G5.out _ U2.out) HL5.out (by rw [HYX.out]; exact HOK.out)).mono ?_
    rintro e u3 ⟨rfl, hu3⟩
    clear a0 a1
    rw [show fmtG y = s by rw [HYX.out]; exact HSS.out]
    have hyn : y.n = x.n := by rw [HYX.out]
    have U3 : Hid (Ext W u3) := U2.out.trans hu3
    clear hu3
    obtain ⟨a0, a1⟩ := F5.out _ U3.out
    obtain ⟨b0, b1⟩ := F3.out _ U3.out
    obtain ⟨d0, d1⟩ := F8.out _ U3.out
    rw [hyn] at a0
    clear hyn
    cases r
    · go_wp2
      go_ret
      exact ⟨rfl, XF.out.trans U3.out⟩
    · go_wp2_with fail
      refine (impl_FormatGraph_any _ z _ (G8.out _ U3.out) HL8.out (HRZ.out trivial).2).mono ?_
      rintro e u4 ⟨rfl, hu4⟩
      rw [(HRZ.out trivial).1]
      go_wp2
      go_ret
      exact ⟨rfl, XF.out.trans (U3.out.trans hu4)⟩
theorem gT : Tryd.prog.globalNamed "internal/strconv.uint64pow10" = some 0 := by kernel_rfl
theorem gTType : (Tryd.prog.globals[0]?).map (·.type) = some 91 := by kernel_rfl
theorem starE : "*" ++ "errors.errorString" = "*errors.errorString" := by decide
theorem rowE (u : TypeId) (h : Tryd.prog.typeName? 3 u = some "*errors.errorString") : u = 112 :=
  typeName_ptr_named (nm := "errors.errorString") (by rw [starE]; kernel_rfl) (by kernel_rfl) (by decide) u (by rw [starE]; exact h)
theorem pwOf (W : World) (h : laidMetH Tryd.prog Rows.fnGraphTextRow.laid W) (hsh : W.ShapedOpen Tryd.prog) : PW W := by
  rw [MakeChecks.laidMetH_plain _ _ _ (by kernel_rfl)] at h
  have h2 := laidMet.tail (laidMet.tail h)
  have h4 := laidMet.tail (laidMet.tail h2)
  have h5 := laidMet.tail h4
  obtain ⟨_, _, hv1, _, _, _⟩ := laid_sentinel h4 (g := 3) (ti := 63) (tp := 112) (te := 114) (ts := 9) (by kernel_rfl) (by kernel_rfl) Tryd.underlying63 rowE Tryd.underlying112 Tryd.underlying114 rfl rfl Tryd.underlying9 (by kernel_rfl) (by kernel_rfl)
  obtain ⟨_, _, hv2, _, _, _⟩ := laid_sentinel h5 (g := 2) (ti := 63) (tp := 112) (te := 114) (ts := 9) (by kernel_rfl) (by kernel_rfl) Tryd.underlying63 rowE Tryd.underlying112 Tryd.underlying114 rfl rfl Tryd.underlying9 (by kernel_rfl) (by kernel_rfl)
  obtain ⟨m, hm⟩ := Tryd.laysM146.s1_3 W hsh
  exact ⟨Lib.tabIs_of_head gT gTType Tryd.underlying91 Tryd.underlying74 (by kernel_rfl) (by kernel_rfl) h2,
    ⟨_, m, by kernel_rfl, hm⟩, errOk_of_var (g := 2) (by kernel_rfl) hv2, errOk_of_var (g := 3) (by kernel_rfl) hv1⟩
set_option maxRecDepth 100000 in
theorem met (os : Os) (args : Array Value) : laidMetH Tryd.prog Rows.fnGraphTextRow.laid ((World.laidAll Tryd.prog os Rows.fnGraphTextRow.laid).forCall (fun _ _ => 0) ⟨#[], args, []⟩).memory := by
  rw [MakeChecks.laidMetH_plain _ _ _ (by kernel_rfl)]
  exact laidMet_laidAll _ (by kernel_rfl) (by kernel_rfl)
set_option maxRecDepth 100000 in
theorem lifted (os : Os) (started : os.Started) (H : Type) (enc : TypeId × Value → H) :
    ReturnsInHanded {} Tryd.checked os 3 .any (fun w args => (Rows.fnGraphTextSpec.pre enc Tryd.prog Tryd.f3 [] false w args ∧ laidMetH Tryd.prog Rows.fnGraphTextRow.laid w) ∧ sizedMet enc Tryd.prog Tryd.f3 (OpenSpec.ofChange Rows.fnGraphTextSpec) false w args)
      (Rows.fnGraphTextSpec.post enc Tryd.prog Tryd.f3 false true false false) := by
  refine handed_and_shaped (C := Tryd.checked) (X := fun w _ => laidMetH Tryd.prog Rows.fnGraphTextRow.laid w) (fun _ _ _ hh h => h.of_heap hh) own started (by kernel_rfl) Tryd.func3
    (ChangeSpec.witness_shaped (enc := enc) (C := Tryd.checked) (os := os) (X := fun w _ => laidMetH Tryd.prog Rows.fnGraphTextRow.laid w) false (World.laidAll Tryd.prog os Rows.fnGraphTextRow.laid) #[.slice none 0 0] 8 (World.laidAll_os _ _ _) (World.shaped_of_ZipB (by kernel_rfl) (by kernel_rfl)) (by kernel_rfl) (by kernel_rfl) (by kernel_rfl) (met os _)) ?_
  intro W base args ds gs before hval0 hW hL hsh
  have hval : ∀ (j : Nat) t v, Tryd.f3.params[j]? = some t → args[j]? = some v → Value.okWide Tryd.prog W .any base t v := hval0
  have hW' := hW
  obtain ⟨p, q, hA0, hV, rfl, hfz, hnd⟩ := hW
  have hA : DataW.TrodAll enc Tryd.prog W 0 (fun _ => true) true Tryd.f3.params.toList args.toList ds p := hA0
  rw [Tryd.params3] at hA hval
  obtain ⟨v0, vs0, d0, ds0, p0, q0, hargs, rfl, rfl, h0, r0⟩ := trodAll_cons hA
  obtain ⟨rfl, rfl, rfl⟩ := trodAll_nil r0
  obtain rfl : args = #[v0] := by cases args; simp_all
  clear hV
  clear hA0 hval0 hfz hnd
  have hPW := pwOf W hL hsh
  clear hL hsh
  obtain ⟨A, n, c, bs, rfl, hnc0, hcm0, hr0, hok0⟩ := open_lbytes (hval 0 _ v0 rfl rfl) h0
  refine (walk A n c bs W hr0 (by omega) hPW).mono fun e W' ⟨he, hx⟩ => ?_
  subst he
  exact ⟨_, rfl, law_post rfl (by rw [Tryd.params3]; decide +kernel) rfl hW' rfl rfl rfl hx⟩

theorem over : Rows.FnGraphTextSaid :=
  OpenClaim.holds_of_wide 3 Tryd.f3 rfl rfl rfl rfl rfl rfl rfl ⟨rfl, rfl, rfl, rfl, rfl⟩ rfl rfl rfl rfl rfl (by kernel_rfl) Tryd.func3 (by kernel_rfl)
    (of_decide_eq_true (by kernel_rfl)) (by unfold Func.isWrapper; first | (rw [if_pos (by decide +kernel)]; kernel_rfl) | (rw [if_neg (by decide +kernel)]; exact ⟨rfl, rfl⟩))
    (fun os started H enc _ => lifted os started H enc)

/-- The statement: the tied card. -/
theorem proved : Rows.FnGraphTextCardSaid :=
  Claim7.holds_tied_plain_at .later [] [.data, .data, .data, .data, .sentinel, .sentinel, .pinned] true (true, "4620c248898a20c192d1c867d0f60a90da5191370de0a92b047667a4635a146e") true
    over (fun _ h => by cases h) (by kernel_rfl) (fun _ h => by cases h) fnGraphText_row_tie rfl ⟨rfl, rfl⟩ (by kernel_rfl) rfl
    (fun f fn hf hfn => by
      obtain rfl : f = 3 := Option.some.inj ((show Tryd.prog.funcNamed "loop.example/g00506/laws.FnGraphText" = some 3 by kernel_rfl).symm.trans hf) |>.symm
      obtain rfl : fn = Tryd.f3 := (Option.some.inj (Tryd.func3.symm.trans hfn)).symm
      exact ⟨by kernel_rfl, fun j t ht => by
        rw [Tryd.params3] at ht
        have hm : t ∈ [22] := by simpa using Array.mem_of_getElem? ht
        have hall : ([22].all fun u => !Tryd.prog.wantsStandIn u) = true := by kernel_rfl
        exact (show Tryd.prog.wantsStandIn t = false by simpa using List.all_eq_true.1 hall t hm)⟩)
    (by kernel_rfl)
#print axioms proved

end fnGraphText
end Go.Proofs.YteecjnnompjmiabDoor
