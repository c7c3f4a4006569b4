/-
  For every input, the law FnOpText returns true: operations round-trip through their text. The tied card: of the row's list the gates' names, the table of powers and the two errors are read; that the library's own length is an int comes of the world's shape.
-/
import Derived.Test.YteecjnnompjmiaaGreatDoorIpo
import Derived.Test.YteecjnnompjmiaaGreatDoorDl
import Derived.Test.YteecjnnompjmiaaGreatDoorTu
import Derived.Test.YteecjnnompjmiaaGreatDoorLawV
import Derived.Test.YteecjnnompjmiaaGreatDoorHandS
import Derived.Test.YteecjnnompjmiaaGreatDoorCards
import Derived.Test.YteecjnnompjmiaaGreatDoorTie
import Derived.LaidMore
import Derived.MakeChecks
import Derived.Stop.Joined
import Derived.Stop.LaidErr
import Derived.SevenTiedAt
import Derived.Lay
import Derived.LaidOnce
namespace Go.Proofs.YteecjnnompjmiaaGreatDoor
open Go.ChangeShapes Go.WideShapes Go.ChangeAt Go.RowKit Go.Deep
set_option linter.unusedVariables false
namespace fnOpText
theorem bigO_any (A : Option Addr) (n c : Nat) (w : World) (hn : n ≤ maxLen) :
    Calls Tryz.prog 4 #[.slice A n c] w fun e w' => e = .returned (.bool (decide (1048576 < n))) ∧ w = w' := by
  unfold maxLen at hn
  go_enter Tryz.func4, Tryz.ntmps4
  go_wp2
  go_ret
  exact ⟨ret_bool (by first | rfl | (rw [decide_eq_decide]; omega)), rfl⟩
set_option maxRecDepth 100000 in
set_option maxHeartbeats 4000000 in
theorem drawOp_any (A : Option Addr) (n c : Nat) (bs : List Int) (w : World) (h : Rd w w.heap.size 1 A n (u8cs bs)) (hn : n ≤ 1048576) :
    Calls Tryz.prog 5 #[.slice A n c] w fun e w' => (∃ o : Oq, e = .returned o.val) ∧ Ext w w' := by
  go_enter Tryz.func5, Tryz.ntmps5
  go_wp2_with fail
  refine (l1New_any A n c bs _ (h.ext ((Ext.refl w).alloc _)) hn).mono ?_
  rintro e w1 ⟨rfl, hC1, hx1⟩
  have HX1 : Hid (Ext w w1) := Ext.trans ((Ext.refl w).alloc _) hx1
  have HB : Hid (Blk w1 w.heap.size 27 #[.int .i64 0, .int .i64 0, .int .i64 0, .int .i64 0, .int .i64 0, .int .i64 0, .int .i64 0, .int .i64 0]) := (Blk.new w _ _).ext hx1
  generalize hgg : (w.alloc (.cells #[.int .i64 0, .int .i64 0, .int .i64 0, .int .i64 0, .int .i64 0, .int .i64 0, .int .i64 0, .int .i64 0] 27)).heap.size = g at *
  have HGE : Hid (w.heap.size < g) := by unfold Hid; rw [← hgg]; simp
  clear hgg hx1
  go_wp2_with fail
  refine (l21Op_any g _ hC1).mono ?_
  rintro e w2 ⟨o, rfl, hC2, hG⟩
  have HB2 : Hid (Blk w2 w.heap.size 27 #[.int .i64 0, .int .i64 0, .int .i64 0, .int .i64 0, .int .i64 0, .int .i64 0, .int .i64 0, .int .i64 0]) := HB.out.grown hG (fun k hk => by injection hk with hk; have := HGE.out; omega)
  have HX2 : Hid (Ext w w2) := Ext.grown HX1.out hG (fun q hq => by injection hq with hq; have := HGE.out; omega)
  obtain ⟨⟨a0, a1, a2, a3, a4, a5, a6, a7⟩, z0, z1, z2, z3, z4, z5, z6, z7⟩ := cells8 HB2.out
  clear hG hC1 hC2 h
  go_wp2
  exact bodyPost_ret (v := o.val) (results_cell_row rfl _ _ w.heap.size 27 _ (0, 0) _ rfl (HB2.out.put8 (.int .i64 o.k) (.int .i64 o.g.k) (.int .i64 o.g.a) (.int .i64 o.g.b) (.int .i64 o.g.c) (.int .i64 o.q) (.int .i64 o.bit) (.int .i64 o.cond)) Tryz.underlying27 rfl Tryz.sizeOpR) rfl ⟨⟨o, rfl⟩, ext_put8 HX2.out (Nat.le_refl _) _ _ _ _ _ _ _ _⟩
set_option maxRecDepth 100000 in
set_option maxHeartbeats 4000000 in
theorem drawText_any (A : Option Addr) (n c : Nat) (bs : List Int) (w : World) (h : Rd w w.heap.size 1 A n (u8cs bs)) (hn : n ≤ 1048576) :
    Calls Tryz.prog 8 #[.slice A n c] w fun e w' => (∃ t : ByteArray, e = .returned (.string t) ∧ t.size ≤ 10000) ∧ Ext w w' := by
  go_enter Tryz.func8, Tryz.ntmps8
  go_wp2_with fail
  refine (l1New_any A n c bs _ h hn).mono ?_
  rintro e w1 ⟨rfl, hC1, hx1⟩
  obtain ⟨g, hgg⟩ : ∃ g, w.heap.size = g := ⟨_, rfl⟩
  rw [hgg] at hC1 ⊢
  have HGE : Hid (w.heap.size ≤ g) := Nat.le_of_eq hgg
  clear hgg
  go_wp2_with fail
  refine (l21Op_any g _ hC1).mono ?_
  rintro e w2 ⟨o, rfl, hC2, hG⟩
  have X2 : Hid (Ext w w2) := Ext.grown hx1 hG (fun q hq => by injection hq with hq; have := HGE.out; omega)
  go_wp2_with fail
  refine (spec_FormatOp_any o _).mono ?_
  rintro e w3 ⟨rfl, hx3⟩
  have hsz : (otx o).size ≤ 250 := Nat.le_trans (otx_size o) (by decide)
  obtain ⟨s, hs⟩ : ∃ s, otx o = s := ⟨_, rfl⟩
  rw [hs] at hsz ⊢
  clear hs
  have hC3 := hC2.ext hx3
  have HX3 : Hid (Ext w w3) := X2.out.trans hx3
  clear hG hC1 hC2 hx3 hx1 h
  have hgl := hC3.lt
  go_wp2_with fail
  refine (l1Turned_any g s _ 5 5 [⟨#[32]⟩, ⟨#[48]⟩, ⟨#[105, 102, 32, 48, 32]⟩, ⟨#[49]⟩, ⟨#[120]⟩] _ hsz (hC3.alloc _) (rd_newN w3 _ _ _ 5 1 _ rfl rfl rfl) (by intro b o e; injection e with e; injection e with e1; omega) (by omega) (by intro x hx; simp at hx; rcases hx with rfl | rfl | rfl | rfl | rfl <;> decide)).mono ?_
  rintro e w4 ⟨t, rfl, ht, hC4, hG4⟩
  go_wp2
  go_ret
  exact ⟨⟨t, rfl, ht⟩, Ext.grown (HX3.out.alloc _) hG4 (fun q hq => by injection hq with hq; have := HGE.out; omega)⟩
theorem ok_iff {x y : Oq} {k : Bool} (h : (k = true ∧ vOp y 4 3 = true ∧ otx y = otx x ∧ ∀ z : Oq, vOp z 4 3 = true → otx x = otx z → y = z) ∨ (k = false ∧ y = O0 ∧ ∀ z : Oq, vOp z 4 3 = true → otx x ≠ otx z)) : k = !((otx x).toList.isEmpty) ∧ (k = true → y = x) := by
  rcases h with ⟨rfl, hv, ht, hu⟩ | ⟨rfl, rfl, hn⟩
  · have h0 := otx_size0 hv
    rw [ht] at h0
    have hne : (otx x).toList.isEmpty = false := by
      cases e : (otx x).toList.isEmpty
      · rfl
      · rw [(empty_iff _).1 e] at h0
        exact absurd h0 (by decide)
    rw [hne]
    refine ⟨rfl, fun _ => ?_⟩
    cases hx : vOp x 4 3
    · rw [otx_no hx] at h0
      exact absurd h0 (by decide)
    · exact hu x hx rfl
  · cases hx : vOp x 4 3
    · rw [otx_no hx, (empty_iff _).2 rfl]
      exact ⟨rfl, fun h => by cases h⟩
    · exact absurd rfl (hn x hx)
theorem same {s : ByteArray} {o o' : Oq} {k k' : Bool}
    (h : (k = true ∧ vOp o 4 3 = true ∧ otx o = s ∧ ∀ x : Oq, vOp x 4 3 = true → s = otx x → o = x) ∨ (k = false ∧ o = O0 ∧ ∀ x : Oq, vOp x 4 3 = true → s ≠ otx x))
    (h' : (k' = true ∧ vOp o' 4 3 = true ∧ otx o' = s ∧ ∀ x : Oq, vOp x 4 3 = true → s = otx x → o' = x) ∨ (k' = false ∧ o' = O0 ∧ ∀ x : Oq, vOp x 4 3 = true → s ≠ otx x)) : k = k' ∧ (k = true → otx o = s) := by
  rcases h with ⟨rfl, hv, ht, hu⟩ | ⟨rfl, rfl, hn⟩
  · rcases h' with ⟨rfl, hv', ht', _⟩ | ⟨rfl, rfl, hn'⟩
    · exact ⟨rfl, fun _ => ht⟩
    · exact absurd ht.symm (hn' o hv)
  · rcases h' with ⟨rfl, hv', ht', _⟩ | ⟨rfl, rfl, hn'⟩
    · exact absurd ht'.symm (hn o' hv')
    · exact ⟨rfl, fun h => by cases h⟩
set_option maxRecDepth 100000 in
set_option maxHeartbeats 8000000 in
theorem walk (A : Option Addr) (n c : Nat) (bs : List Int) (w : World) (h : Rd w w.heap.size 1 A n (u8cs bs)) (hm : n ≤ maxLen) (hw : PW w) :
    Calls Tryz.prog 3 #[.slice A n c] w fun e w' => e = .returned (.bool true) ∧ Ext w w' := by
  have HA : Hid (∀ w', Ext w w' → Rd w' w'.heap.size 1 A n (u8cs bs)) := fun w' q => h.ext q
  have HPW := Lib.hid hw
  clear h hw
  go_enter Tryz.func3, Tryz.ntmps3
  go_wp2_with fail
  refine (bigO_any A n c _ hm).mono ?_
  rintro e wb ⟨rfl, rfl⟩
  by_cases hb : 1048576 < n
  · have hbd : decide (1048576 < n) = true := decide_eq_true hb
    rw [hbd]
    go_wp2
    go_ret
    exact ⟨rfl, Ext.refl _⟩
  have hbd : decide (1048576 < n) = false := decide_eq_false hb
  rw [hbd]
  clear hbd
  have hn : n ≤ 1048576 := by omega
  have HNN := Lib.hid hn
  clear hn hb hm
  go_wp2_with fail
  refine (drawOp_any A n c bs _ (HA.out _ (Ext.refl _)) HNN.out).mono ?_
  rintro e w1 ⟨⟨x, rfl⟩, hx1⟩
  have HX1 := Lib.hid hx1
  clear hx1
  have B3 : Hid (Blk (w1.alloc (.cells #[.int .i64 x.k, .int .i64 x.g.k, .int .i64 x.g.a, .int .i64 x.g.b, .int .i64 x.g.c, .int .i64 x.q, .int .i64 x.bit, .int .i64 x.cond] 27)) w1.heap.size 27 #[.int .i64 x.k, .int .i64 x.g.k, .int .i64 x.g.a, .int .i64 x.g.b, .int .i64 x.g.c, .int .i64 x.q, .int .i64 x.bit, .int .i64 x.cond]) := Blk.new _ _ _
  have X3 : Hid (Ext w1 (w1.alloc (.cells #[.int .i64 x.k, .int .i64 x.g.k, .int .i64 x.g.a, .int .i64 x.g.b, .int .i64 x.g.c, .int .i64 x.q, .int .i64 x.bit, .int .i64 x.cond] 27))) := (Ext.refl _).alloc _
  go_upto_region 4 with (fail)
  generalize w1.alloc (.cells #[.int .i64 x.k, .int .i64 x.g.k, .int .i64 x.g.a, .int .i64 x.g.b, .int .i64 x.g.c, .int .i64 x.q, .int .i64 x.bit, .int .i64 x.cond] 27) = W3 at *
  generalize w1.heap.size = p3 at *
  obtain ⟨⟨a0, a1, a2, a3, a4, a5, a6, a7⟩, _⟩ := cells8 B3.out
  go_wp2_with fail
  refine (impl_FormatOp_any x _ (HPW.out.ext (HX1.out.trans X3.out)).gn).mono ?_
  rintro e w4 ⟨rfl, hx4⟩
  have X4 := Lib.hid hx4
  clear hx4 a0 a1 a2 a3 a4 a5 a6 a7
  have HS : Hid ((otx x).size ≤ 1400000) := Nat.le_trans (otx_size x) (by decide)
  obtain ⟨s, hs⟩ : ∃ s, otx x = s := ⟨_, rfl⟩
  rw [hs] at HS ⊢
  have HSS := Lib.hid hs
  clear hs
  go_wp2_with fail
  refine (impl_ParseOp_any s HS.out _ (HPW.out.ext (HX1.out.trans (X3.out.trans X4.out)))).mono ?_
  rintro e w5 ⟨⟨y, k, rfl, hR5⟩, hx5⟩
  have HK : Hid (k = !(s.toList.isEmpty) ∧ (k = true → y = x)) := by
    have := ok_iff (x := x) (y := y) (k := k) (by rw [HSS.out]; exact hR5)
    rw [HSS.out] at this
    exact this
  have X5 := Lib.hid hx5
  clear hR5 hx5
  have B6 : Hid (Blk (w5.alloc (.cells #[.int .i64 y.k, .int .i64 y.g.k, .int .i64 y.g.a, .int .i64 y.g.b, .int .i64 y.g.c, .int .i64 y.q, .int .i64 y.bit, .int .i64 y.cond] 27)) w5.heap.size 27 #[.int .i64 y.k, .int .i64 y.g.k, .int .i64 y.g.a, .int .i64 y.g.b, .int .i64 y.g.c, .int .i64 y.q, .int .i64 y.bit, .int .i64 y.cond]) := Blk.new _ _ _
  have X6 : Hid (Ext w5 (w5.alloc (.cells #[.int .i64 y.k, .int .i64 y.g.k, .int .i64 y.g.a, .int .i64 y.g.b, .int .i64 y.g.c, .int .i64 y.q, .int .i64 y.bit, .int .i64 y.cond] 27))) := (Ext.refl _).alloc _
  go_upto_region 6 with (fail)
  generalize w5.alloc (.cells #[.int .i64 y.k, .int .i64 y.g.k, .int .i64 y.g.a, .int .i64 y.g.b, .int .i64 y.g.c, .int .i64 y.q, .int .i64 y.bit, .int .i64 y.cond] 27) = W6 at *
  generalize w5.heap.size = p5 at *
  have XA : Hid (Ext W3 W6) := X4.out.trans (X5.out.trans X6.out)
  have XB : Hid (Ext w W6) := HX1.out.trans (X3.out.trans XA.out)
  go_wp2_with fail
  refine (drawText_any A n c bs _ (HA.out _ XB.out) HNN.out).mono ?_
  rintro e w7 ⟨⟨t, rfl, ht⟩, hx7⟩
  have HT : Hid (t.size ≤ 1400000) := Nat.le_trans ht (by decide)
  have X7 := Lib.hid hx7
  clear ht hx7
  go_wp2_with fail
  refine (impl_ParseOp_any t HT.out _ (HPW.out.ext (XB.out.trans X7.out))).mono ?_
  rintro e w8 ⟨⟨z, r, rfl, hR8⟩, hx8⟩
  have HR8 := Lib.hid hR8
  have X8 := Lib.hid hx8
  clear hR8 hx8
  have B9 : Hid (Blk (w8.alloc (.cells #[.int .i64 z.k, .int .i64 z.g.k, .int .i64 z.g.a, .int .i64 z.g.b, .int .i64 z.g.c, .int .i64 z.q, .int .i64 z.bit, .int .i64 z.cond] 27)) w8.heap.size 27 #[.int .i64 z.k, .int .i64 z.g.k, .int .i64 z.g.a, .int .i64 z.g.b, .int .i64 z.g.c, .int .i64 z.q, .int .i64 z.bit, .int .i64 z.cond]) := Blk.new _ _ _
  have X9 : Hid (Ext w8 (w8.alloc (.cells #[.int .i64 z.k, .int .i64 z.g.k, .int .i64 z.g.a, .int .i64 z.g.b, .int .i64 z.g.c, .int .i64 z.q, .int .i64 z.bit, .int .i64 z.cond] 27))) := (Ext.refl _).alloc _
  go_upto_region 8 with (fail)
  generalize w8.alloc (.cells #[.int .i64 z.k, .int .i64 z.g.k, .int .i64 z.g.a, .int .i64 z.g.b, .int .i64 z.g.c, .int .i64 z.q, .int .i64 z.bit, .int .i64 z.cond] 27) = W9 at *
  generalize w8.heap.size = p8 at *
  go_wp2_with fail
  refine (spec_ParseOp_any t (Nat.le_trans HT.out (by decide)) _).mono ?_
  rintro e wa ⟨⟨z', r', rfl, hRa⟩, hxa⟩
  have HRR : Hid (r = r' ∧ (r = true → otx z = t)) := same HR8.out hRa
  obtain ⟨rfl, hrz⟩ := id HRR.out
  have HRZ := Lib.hid hrz
  have Xa := Lib.hid hxa
  clear hRa hxa hrz HRR
  have B11 : Hid (Blk (wa.alloc (.cells #[.int .i64 z'.k, .int .i64 z'.g.k, .int .i64 z'.g.a, .int .i64 z'.g.b, .int .i64 z'.g.c, .int .i64 z'.q, .int .i64 z'.bit, .int .i64 z'.cond] 27)) wa.heap.size 27 #[.int .i64 z'.k, .int .i64 z'.g.k, .int .i64 z'.g.a, .int .i64 z'.g.b, .int .i64 z'.g.c, .int .i64 z'.q, .int .i64 z'.bit, .int .i64 z'.cond]) := Blk.new _ _ _
  have X11 : Hid (Ext wa (wa.alloc (.cells #[.int .i64 z'.k, .int .i64 z'.g.k, .int .i64 z'.g.a, .int .i64 z'.g.b, .int .i64 z'.g.c, .int .i64 z'.q, .int .i64 z'.bit, .int .i64 z'.cond] 27))) := (Ext.refl _).alloc _
  go_upto_region 9 with (fail)
  generalize wa.alloc (.cells #[.int .i64 z'.k, .int .i64 z'.g.k, .int .i64 z'.g.a, .int .i64 z'.g.b, .int .i64 z'.g.c, .int .i64 z'.q, .int .i64 z'.bit, .int .i64 z'.cond] 27) = W at *
  generalize wa.heap.size = pa at *
  have XC : Hid (Ext W9 W) := Xa.out.trans X11.out
  have XD : Hid (Ext W6 W) := X7.out.trans (X8.out.trans (X9.out.trans XC.out))
  have XE : Hid (Ext W3 W) := XA.out.trans XD.out
  have XF : Hid (Ext w W) := XB.out.trans XD.out
  have hss := str_beq_self s
  have hzt := str_beq_self t
  obtain ⟨⟨a0, a1, a2, a3, a4, a5, a6, a7⟩, _⟩ := cells8 (B3.out.ext XE.out)
  go_wp2_with fail
  refine (spec_FormatOp_any x _).mono ?_
  rintro e u1 ⟨rfl, hu1⟩
  rw [HSS.out]
  clear a0 a1 a2 a3 a4 a5 a6 a7
  have U1 := Lib.hid hu1
  clear hu1
  have hkk : ∀ b : Bool, (b == b) = true := by intro b; cases b <;> rfl
  obtain ⟨em, hem⟩ : ∃ em, s.toList.isEmpty = em := ⟨_, rfl⟩
  have hk := HK.out.1
  rw [hem] at hk
  subst hk
  cases em
  · have HYX := Lib.hid (HK.out.2 rfl)
    have heq : ∀ w, (Op.equalIn 10000 27 y.val x.val).run Tryz.prog w = .ok true w := fun w => by rw [eqIn_op, HYX.out, eqO_self]
    obtain ⟨⟨a0, a1, a2, a3, a4, a5, a6, a7⟩, _⟩ := cells8 (B3.out.ext (XE.out.trans U1.out))
    obtain ⟨⟨b0, b1, b2, b3, b4, b5, b6, b7⟩, _⟩ := cells8 (B6.out.ext (XD.out.trans U1.out))
    cases r
    · go_wp2
      go_ret
      exact ⟨rfl, XF.out.trans U1.out⟩
    · obtain ⟨⟨d0, d1, d2, d3, d4, d5, d6, d7⟩, _⟩ := cells8 (B9.out.ext (XC.out.trans U1.out))
      go_wp2_with fail
      refine (impl_FormatOp_any z _ (HPW.out.ext (XF.out.trans U1.out)).gn).mono ?_
      rintro e u3 ⟨rfl, hu3⟩
      rw [HRZ.out trivial]
      go_wp2
      go_ret
      exact ⟨rfl, XF.out.trans (U1.out.trans hu3)⟩
  · cases r
    · go_wp2
      go_ret
      exact ⟨rfl, XF.out.trans U1.out⟩
    · obtain ⟨⟨d0, d1, d2, d3, d4, d5, d6, d7⟩, _⟩ := cells8 (B9.out.ext (XC.out.trans U1.out))
      go_wp2_with fail
      refine (impl_FormatOp_any z _ (HPW.out.ext (XF.out.trans U1.out)).gn).mono ?_
      rintro e u3 ⟨rfl, hu3⟩
      rw [HRZ.out trivial]
      go_wp2
      go_ret
      exact ⟨rfl, XF.out.trans (U1.out.trans hu3)⟩
theorem gT : Tryz.prog.globalNamed "internal/strconv.uint64pow10" = some 1 := by kernel_rfl
theorem gTType : (Tryz.prog.globals[1]?).map (·.type) = some 106 := by kernel_rfl
theorem starE : "*" ++ "errors.errorString" = "*errors.errorString" := by decide
theorem rowE (u : TypeId) (h : Tryz.prog.typeName? 3 u = some "*errors.errorString") : u = 126 :=
  typeName_ptr_named (nm := "errors.errorString") (by rw [starE]; kernel_rfl) (by kernel_rfl) (by decide) u (by rw [starE]; exact h)
theorem pwOf (W : World) (h : laidMetH Tryz.prog Rows.fnOpTextRow.laid W) (hsh : W.ShapedOpen Tryz.prog) : PW W := by
  rw [MakeChecks.laidMetH_plain _ _ _ (by kernel_rfl)] at h
  have h2 := laidMet.tail (laidMet.tail h)
  have h4 := laidMet.tail (laidMet.tail h2)
  have h5 := laidMet.tail h4
  obtain ⟨_, _, hv1, _, _, _⟩ := laid_sentinel h4 (g := 4) (ti := 69) (tp := 126) (te := 128) (ts := 9) (by kernel_rfl) (by kernel_rfl) Tryz.underlying69 rowE Tryz.underlying126 Tryz.underlying128 rfl rfl Tryz.underlying9 (by kernel_rfl) (by kernel_rfl)
  obtain ⟨_, _, hv2, _, _, _⟩ := laid_sentinel h5 (g := 3) (ti := 69) (tp := 126) (te := 128) (ts := 9) (by kernel_rfl) (by kernel_rfl) Tryz.underlying69 rowE Tryz.underlying126 Tryz.underlying128 rfl rfl Tryz.underlying9 (by kernel_rfl) (by kernel_rfl)
  obtain ⟨m, hm⟩ := Tryz.laysM146.s1_3 W hsh
  exact ⟨gn_of_reads (Lib.laidMet.reads h (List.mem_cons_of_mem _ (List.mem_cons_of_mem _ (List.mem_cons_of_mem _ (List.mem_cons_of_mem _ (List.mem_cons_of_mem _ (List.mem_cons_of_mem _ List.mem_cons_self))))))),
    Lib.tabIs_of_head gT gTType Tryz.underlying106 Tryz.underlying87 (by kernel_rfl) (by kernel_rfl) h2,
    ⟨_, m, by kernel_rfl, hm⟩, errOk_of_var (g := 3) (by kernel_rfl) hv2, errOk_of_var (g := 4) (by kernel_rfl) hv1⟩
set_option maxRecDepth 100000 in
theorem met (os : Os) (args : Array Value) : laidMetH Tryz.prog Rows.fnOpTextRow.laid ((World.laidAll Tryz.prog os Rows.fnOpTextRow.laid).forCall (fun _ _ => 0) ⟨#[], args, []⟩).memory := by
  rw [MakeChecks.laidMetH_plain _ _ _ (by kernel_rfl)]
  exact laidMet_laidAll _ (by kernel_rfl) (by kernel_rfl)
set_option maxRecDepth 100000 in
theorem lifted (os : Os) (started : os.Started) (H : Type) (enc : TypeId × Value → H) :
    ReturnsInHanded {} Tryz.checked os 3 .any (fun w args => (Rows.fnOpTextSpec.pre enc Tryz.prog Tryz.f3 [] false w args ∧ laidMetH Tryz.prog Rows.fnOpTextRow.laid w) ∧ sizedMet enc Tryz.prog Tryz.f3 (OpenSpec.ofChange Rows.fnOpTextSpec) false w args)
      (Rows.fnOpTextSpec.post enc Tryz.prog Tryz.f3 false true false false) := by
  refine handed_and_shaped (C := Tryz.checked) (X := fun w _ => laidMetH Tryz.prog Rows.fnOpTextRow.laid w) (fun _ _ _ hh h => h.of_heap hh) own started (by kernel_rfl) Tryz.func3
    (ChangeSpec.witness_shaped (enc := enc) (C := Tryz.checked) (os := os) (X := fun w _ => laidMetH Tryz.prog Rows.fnOpTextRow.laid w) false (World.laidAll Tryz.prog os Rows.fnOpTextRow.laid) #[.slice none 0 0] 8 (World.laidAll_os _ _ _) (World.shaped_of_ZipB (by kernel_rfl) (by kernel_rfl)) (by kernel_rfl) (by kernel_rfl) (by kernel_rfl) (met os _)) ?_
  intro W base args ds gs before hval0 hW hL hsh
  have hval : ∀ (j : Nat) t v, Tryz.f3.params[j]? = some t → args[j]? = some v → Value.okWide Tryz.prog W .any base t v := hval0
  have hW' := hW
  obtain ⟨p, q, hA0, hV, rfl, hfz, hnd⟩ := hW
  have hA : DataW.TrodAll enc Tryz.prog W 0 (fun _ => true) true Tryz.f3.params.toList args.toList ds p := hA0
  rw [Tryz.params3] at hA hval
  obtain ⟨v0, vs0, d0, ds0, p0, q0, hargs, rfl, rfl, h0, r0⟩ := trodAll_cons hA
  obtain ⟨rfl, rfl, rfl⟩ := trodAll_nil r0
  obtain rfl : args = #[v0] := by cases args; simp_all
  obtain ⟨_, _, _, _, gd, _, rfl, _⟩ := trodVars_one hV
  clear hV
  clear hA0 hval0 hfz hnd
  have hPW := pwOf W hL hsh
  clear hL hsh
  obtain ⟨A, n, c, bs, rfl, hnc0, hcm0, hr0, hok0⟩ := open_lbytes (hval 0 _ v0 rfl rfl) h0
  refine (walk A n c bs W hr0 (by omega) hPW).mono fun e W' ⟨he, hx⟩ => ?_
  subst he
  exact ⟨_, rfl, law_postV (by kernel_rfl) (by rw [Tryz.params3]; decide +kernel) rfl hW' rfl rfl rfl hx⟩

theorem over : Rows.FnOpTextSaid :=
  OpenClaim.holds_of_wide 3 Tryz.f3 rfl rfl rfl rfl rfl rfl rfl ⟨rfl, rfl, rfl, rfl, rfl⟩ rfl rfl rfl rfl rfl (by kernel_rfl) Tryz.func3 (by kernel_rfl)
    (of_decide_eq_true (by kernel_rfl)) (by unfold Func.isWrapper; first | (rw [if_pos (by decide +kernel)]; kernel_rfl) | (rw [if_neg (by decide +kernel)]; exact ⟨rfl, rfl⟩))
    (fun os started H enc _ => lifted os started H enc)

/-- The statement: the tied card. -/
theorem proved : Rows.FnOpTextCardSaid :=
  Claim7.holds_tied_plain_at .later [] [.data, .data, .data, .data, .sentinel, .sentinel, .data, .pinned] true (true, "96acb4049b8f82c46a0261cf28641d33a4c4547ead846a6b731fe7e39bd0443d") true
    over (fun _ h => by cases h) (by kernel_rfl) (fun _ h => by cases h) fnOpText_row_tie rfl ⟨rfl, rfl⟩ (by kernel_rfl) rfl
    (fun f fn hf hfn => by
      obtain rfl : f = 3 := Option.some.inj ((show Tryz.prog.funcNamed "loop.example/g00506/laws.FnOpText" = some 3 by kernel_rfl).symm.trans hf) |>.symm
      obtain rfl : fn = Tryz.f3 := (Option.some.inj (Tryz.func3.symm.trans hfn)).symm
      exact ⟨by kernel_rfl, fun j t ht => by
        rw [Tryz.params3] at ht
        have hm : t ∈ [22] := by simpa using Array.mem_of_getElem? ht
        have hall : ([22].all fun u => !Tryz.prog.wantsStandIn u) = true := by kernel_rfl
        exact (show Tryz.prog.wantsStandIn t = false by simpa using List.all_eq_true.1 hall t hm)⟩)
    (by kernel_rfl)
#print axioms proved

end fnOpText
end Go.Proofs.YteecjnnompjmiaaGreatDoor
