/-
 Helper text (no claim of its own): drawn bodies of programs. Printed by gen_drs.py.
-/
import Derived.Test.YtdjckjfclhjpcaaGreatMLowLd
import Derived.Test.YtdjckjfclhjpcaaGreatMLowLe
namespace Go.Proofs.YtdjckjfclhjpcaaGreat
open Go.ChangeShapes Go.WideShapes Go.ChangeAt Go.RowKit Go.Deep
set_option linter.unusedVariables false
set_option linter.unusedSimpArgs false
/-- The call's own blocks, but for the row v. -/
def KB (w W : World) (v : Value) : Nat → Prop := fun b => w.heap.size ≤ b ∧ b < W.heap.size ∧ v.ownBlock ≠ some b
/-- What stands in memory while statements are drawn. -/
structure LB (w W : World) (g : Nat) (An : Option Addr) (nn D : Nat) (A : Option Addr) (c : Nat) (ys : List Sc) : Prop where
 cur : Cur W g
 gr : w.grownBy W (some g)
 ns : Ns W An nn
 row : W.ownsRow w.heap.size 69 5 (.slice A ys.length c) ys.length (mcells ys)
 sv : ∀ y ∈ ys, Sv D W (KB w W (.slice A ys.length c)) y
section
variable {w W W' : World} {g : Nat} {An : Option Addr} {nn D : Nat} {A : Option Addr} {c : Nat} {ys : List Sc}
theorem LB.draw (h : LB w W g An nn D A c ys) (hgl : g < w.heap.size) (hc : Cur W' g) (hg : W.grownBy W' (some g)) : LB w W' g An nn D A c ys :=
 ⟨hc, gr_trans h.gr hg, h.ns.cur h.cur hg, own_kept h.row hg (fun q hq => by injection hq; omega), fun y hy => Sv.keep (fun b hb => hg.block b hb.2.1 (fun e => by injection e with e; have := hb.1; omega)) (fun b hb => ⟨hb.1, Nat.lt_of_lt_of_le hb.2.1 hg.size, hb.2.2⟩) (h.sv y hy)⟩
theorem LB.ext (h : LB w W g An nn D A c ys) (hx : Ext W W') : LB w W' g An nn D A c ys :=
 ⟨h.cur.ext hx, gr_ext h.gr hx, h.ns.ext hx, own_ext h.row hx, fun y hy => Sv.keep (fun b hb => hx.block b hb.2.1) (fun b hb => ⟨hb.1, Nat.lt_of_lt_of_le hb.2.1 hx.size, hb.2.2⟩) (h.sv y hy)⟩
/-- A statement more. -/
theorem LB.app {w2 : World} {A2 : Option Addr} {c2 : Nat} {x : Sc} (h : LB w W g An nn D A c ys) (hgl : g < w.heap.size) (hx : Sv D W (KB w W (.slice A ys.length c)) x) (g1 : w2.ownsRow w.heap.size 69 5 (.slice A2 (ys.length + 1) c2) (ys.length + 1) (mcells (ys ++ [x]))) (g2 : W.grownBy w2 (Value.slice A ys.length c).ownBlock) (g3 : (Value.slice A2 (ys.length + 1) c2).ownBlock = (Value.slice A ys.length c).ownBlock ∨ (Value.slice A2 (ys.length + 1) c2).ownBlock = some W.heap.size) :
  LB w w2 g An nn D A2 c2 (ys ++ [x]) := by
 have hl : (ys ++ [x]).length = ys.length + 1 := by simp
 have hlt := h.row.lt
 have hk : ∀ y, Sv D W (KB w W (.slice A ys.length c)) y → Sv D w2 (KB w w2 (.slice A2 (ys ++ [x]).length c2)) y := fun y hy => Sv.keep (fun b hb => g2.block b hb.2.1 (fun e => hb.2.2 e.symm)) (fun b hb => ⟨hb.1, Nat.lt_of_lt_of_le hb.2.1 g2.size, fun e => by
  rw [hl] at e
  rcases g3 with g3 | g3
  ·rw [g3] at e; exact hb.2.2 e
  ·rw [g3] at e; injection e with e; have := hb.2.1; omega⟩) hy
 refine ⟨h.cur.grown g2 (fun q hq => by have := (hlt q hq).1; omega), gr_new h.gr g2 (fun q hq => (hlt q hq).1), h.ns.keep fun b ds hd => g2.block b hd.lt (fun e => own_ne h.row hd (by decide) e.symm), by rw [hl]; exact g1, fun y hy => ?_⟩
 rcases List.mem_append.1 hy with hy | hy
 ·exact hk y (h.sv y hy)
 ·obtain rfl := List.mem_singleton.1 hy; exact hk y hx
end
/-- The names, one by one. -/
theorem ns_all {w : World} {A : Option Addr} {n : Nat} (h : Ns w A n) (h0 : 0 < n) : ∃ (b : Nat) (cs : Array Value) (f : Nat → ByteArray), A = some ⟨b, 0, none⟩ ∧ Blk w b 9 cs ∧ (∀ i, i < n → (f i).size ≤ 1000) ∧ ∀ w', Blk w' b 9 cs → ∀ i, i < n → w'.cell? ⟨b, i, none⟩ = some (.string (f i)) := by
 obtain ⟨xs, h1, h2, h3⟩ := h
 obtain ⟨b, cs, e, hb, hc⟩ := h3 h0
 refine ⟨b, cs, fun i => xs.getD i ⟨#[]⟩, e, hb, fun i hi => ?_, fun w' hb' i hi => ?_⟩
 ·have hx : xs[i]? = some xs[i] := List.getElem?_eq_getElem (by omega)
  show (xs.getD i ⟨#[]⟩).size ≤ 1000
  rw [List.getD_eq_getElem?_getD, hx]
  exact h1 _ (List.getElem_mem _)
 ·have hx : xs[i]? = some xs[i] := List.getElem?_eq_getElem (by omega)
  have h4 := flat_at tcell_len xs i xs[i] hx 0 (by omega)
  rw [Nat.mul_one, Nat.add_zero] at h4
  rw [hb'.cell i, hc i _ h4]
  show some (Value.string xs[i]) = some (Value.string (xs.getD i ⟨#[]⟩))
  rw [List.getD_eq_getElem?_getD, hx]
  rfl
/-- The names of a gate that was just drawn. -/
theorem nm_own {w2 w3 : World} {A : Option Addr} {n c : Nat} {xs : List ByteArray} {K : Nat → Prop} (h : w3.ownsRow w2.heap.size 9 1 (.slice A n c) n (tcells xs)) (hz : ∀ y ∈ xs, y.size ≤ 1000) (hK : ∀ b, w2.heap.size ≤ b → b < w3.heap.size → K b) : Nm w3 K A n := by
 refine ⟨xs, hz, h.1, fun h0 => ?_⟩
 obtain ⟨b, o, e, hb, hc⟩ := (Rd.own h).2 h0
 refine ⟨b, o, e, hK b (h.lt b (by rw [e]; rfl)).1 hb, hc⟩
def BodyE (D : Nat) : Prop := ∀ (deep : Int) (wild : Bool) (g : Nat) (An : Option Addr) (nn cn : Nat) (w : World), deep ≤ D → Cur w g → Ns w An nn → (1 ≤ nn ∧ nn ≤ 4) → Calls Tryz.prog 34 #[.pointer (some ⟨g, 0, none⟩), .slice An nn cn, .int .i64 deep, .bool wild] w (DSl (D + 2) 3 w g)
set_option maxRecDepth 100000 in
set_option maxHeartbeats 32000000 in
theorem l17Body_step {D : Nat} (hIH : ∀ D', D = D' + 1 → BodyE D') (hD : D ≤ 10) : BodyE D := by
 intro deep wild g An nn cn w hdD h hN hnn
 have hgl := h.lt
 have IH := Lib.hid hIH
 have HL0 : Hid (LB w (w.alloc (.cells #[] 69)) g An nn (D + 2) (some ⟨w.heap.size, 0, none⟩) 0 []) := ⟨h.alloc _, ((Ext.refl w).alloc _).gr _, hN.ext ((Ext.refl w).alloc _), own_empty w w _ 5 (Ext.refl _), by simp⟩
 clear hIH hN
 go_enter Tryz.func34, Tryz.ntmps34
 go_wp2_with fail
 refine (l1Below_any g 4 _ (h.alloc _) (by omega)).mono ?_
 rintro e w1 ⟨x, rfl, ⟨hx0, hx1, _⟩, hC1, hG1⟩
 obtain ⟨m, rfl⟩ := Int.eq_ofNat_of_zero_le hx0
 have hm : m ≤ 3 := by have := hx1 (by omega); omega
 have HL1 := Lib.hid (HL0.out.draw hgl hC1 hG1)
 clear hx1 hC1 hG1 HL0 h hx0
 go_wp2
 go_loopw [9, 11] (fun v i wr => ∃ (k : Nat) (A' : Option Addr) (c' : Nat) (ys : List Sc), k ≤ m ∧ i = .int .i64 k ∧ v = .slice A' ys.length c' ∧ ys.length ≤ k ∧ Hid (LB w wr g An nn (D + 2) A' c' ys)) (fun _ i _ => m - (intOf i).toNat)
 case atStart => exact ⟨0, _, 0, [], Nat.zero_le _, rfl, rfl, Nat.le_refl _, HL1⟩
 case round =>
  clear HL1
  obtain ⟨k, A', c', ys, hk, rfl, rfl, hyl, HL⟩ := hrel
  by_cases hlt : k < m
  ·go_wp2_with fail
   refine (l1Below_any g 10 _ HL.out.cur (by omega)).mono ?_
   rintro e w2 ⟨q, rfl, ⟨hq0, hq1, _⟩, hC2, hG2⟩
   have hq2 := hq1 (by omega)
   have HL2 := Lib.hid (HL.out.draw hgl hC2 hG2)
   clear HL hC2 hG2 hq1
   by_cases hd1 : deep ≤ 1
   ·skip
    go_wp2_with fail
    refine (l17Gate_any g An nn cn _ HL2.out.cur HL2.out.ns hnn).mono ?_
    rintro e w3 ⟨wd, Ag, ng, cg, xs, rfl, ⟨hg1, hg3, hgc⟩, hwd, hown, hsz, hC3, hG3⟩
    have HL3 := Lib.hid (HL2.out.draw hgl hC3 hG3)
    have HV : Hid (Sv (D + 2) w3 (KB w w3 (.slice A' ys.length c')) ⟨1, wd, Ag, ng, cg, 0, none, 0, 0⟩) := Sv.leaf hg1 (by omega) hgc hwd (nm_own hown hsz fun b h1 h2 => ⟨Nat.le_trans HL2.out.gr.size h1, h2, fun e => by have := (HL2.out.row.lt b e).2; omega⟩)
    clear hown hC3 hG3 HL2
    have HXL : Hid (Ext w3 (w3.alloc (.cells #[.int .i64 1, .string wd, .slice Ag ng cg, .int .i64 0, .slice none 0 0] 69))) := (Ext.refl w3).alloc _
    have HLL := Lib.hid (HL3.out.ext HXL.out)
    have HVL : Hid (Sv (D + 2) (w3.alloc (.cells #[.int .i64 1, .string wd, .slice Ag ng cg, .int .i64 0, .slice none 0 0] 69)) (KB w (w3.alloc (.cells #[.int .i64 1, .string wd, .slice Ag ng cg, .int .i64 0, .slice none 0 0] 69)) (.slice A' ys.length c')) ⟨1, wd, Ag, ng, cg, 0, none, 0, 0⟩) := Sv.keep (fun b hb => HXL.out.block b hb.2.1) (fun b hb => ⟨hb.1, Nat.lt_of_lt_of_le hb.2.1 HXL.out.size, hb.2.2⟩) HV.out
    go_wp2_with (at_builtin; refine appStmS (w := (w3.alloc (.cells #[.int .i64 1, .string wd, .slice Ag ng cg, .int .i64 0, .slice none 0 0] 69))) (B := w.heap.size) rfl _ _ rfl (.slice A' ys.length c') ys.length ys rfl HLL.out.row HLL.out.gr.size _ 1 1 [⟨1, wd, Ag, ng, cg, 0, none, 0, 0⟩] rfl (rd_newN _ _ _ _ 1 5 _ (by first | rfl | simp) (by simp [Sc.cells]) (by simp [Sc.cells])) (by omega) ?_; intro v4 w4 g1 g2 g3; obtain ⟨A4, c4, rfl, -⟩ := own_slice g1)
    have HL4 := Lib.hid (HLL.out.app hgl HVL.out g1 g2 g3)
    go_roundw
    case rel => exact ⟨k + 1, A4, c4, ys ++ [⟨1, wd, Ag, ng, cg, 0, none, 0, 0⟩], by omega, by go_num, by rw [List.length_append]; rfl, by rw [List.length_append]; simp; omega, HL4⟩
    case measure => simp [intOf]; omega
   have hd2 : ¬ deep ≤ 1 := hd1
   by_cases q0 : q = 0
   ·subst q0
    obtain ⟨D', hD'⟩ : ∃ D', D = D' + 1 := ⟨D - 1, by omega⟩
    go_wp2_with fail
    refine (l1Below_any g 3 _ HL2.out.cur (by omega)).mono ?_
    rintro e w5 ⟨r, rfl, ⟨hr0, hr1, _⟩, hC5, hG5⟩
    have hr2 := hr1 (by omega)
    have HL5 := Lib.hid (HL2.out.draw hgl hC5 hG5)
    clear HL2 hC5 hG5 hr1
    have hw1 : IntKind.i64.wrap (deep - 1) = deep - 1 := IntWalk.i64_in _ (by omega)
    go_wp2_with fail
    refine (IH.out D' hD' (deep - 1) wild g An nn cn _ (by omega) HL5.out.cur HL5.out.ns hnn).mono ?_
    rintro e w3 ⟨Ab, nb, cb, rfl, hb1, hb2, hss, hC3, hG3⟩
    have HL3 := Lib.hid (HL5.out.draw hgl hC3 hG3)
    have hss2 : Ss (D + 1) w3 (KB w w3 (.slice A' ys.length c')) Ab nb := by
     rw [hD']
     exact hss.keep (fun b hb => rfl) fun b hb => ⟨Nat.le_trans HL5.out.gr.size hb.1, hb.2, fun e => by have := (HL5.out.row.lt b e).2; have := hb.1; omega⟩
    have HV : Hid (Sv (D + 2) w3 (KB w w3 (.slice A' ys.length c')) ⟨2, ⟨#[]⟩, none, 0, 0, 1 + r, Ab, nb, cb⟩) := Sv.mk (by decide) (by omega) (by omega) (by decide) Nm.none hss2
    clear hss hss2 hC3 hG3 HL5
    have HXL : Hid (Ext w3 (w3.alloc (.cells #[.int .i64 2, .string ⟨#[]⟩, .slice none 0 0, .int .i64 (1 + r), .slice Ab nb cb] 69))) := (Ext.refl w3).alloc _
    have HLL := Lib.hid (HL3.out.ext HXL.out)
    have HVL : Hid (Sv (D + 2) (w3.alloc (.cells #[.int .i64 2, .string ⟨#[]⟩, .slice none 0 0, .int .i64 (1 + r), .slice Ab nb cb] 69)) (KB w (w3.alloc (.cells #[.int .i64 2, .string ⟨#[]⟩, .slice none 0 0, .int .i64 (1 + r), .slice Ab nb cb] 69)) (.slice A' ys.length c')) ⟨2, ⟨#[]⟩, none, 0, 0, (1 + r), Ab, nb, cb⟩) := Sv.keep (fun b hb => HXL.out.block b hb.2.1) (fun b hb => ⟨hb.1, Nat.lt_of_lt_of_le hb.2.1 HXL.out.size, hb.2.2⟩) HV.out
    go_wp2_with (at_builtin; refine appStmS (w := (w3.alloc (.cells #[.int .i64 2, .string ⟨#[]⟩, .slice none 0 0, .int .i64 (1 + r), .slice Ab nb cb] 69))) (B := w.heap.size) rfl _ _ rfl (.slice A' ys.length c') ys.length ys rfl HLL.out.row HLL.out.gr.size _ 1 1 [⟨2, ⟨#[]⟩, none, 0, 0, (1 + r), Ab, nb, cb⟩] rfl (rd_newN _ _ _ _ 1 5 _ (by first | rfl | simp) (by simp [Sc.cells]) (by simp [Sc.cells])) (by omega) ?_; intro v4 w4 g1 g2 g3; obtain ⟨A4, c4, rfl, -⟩ := own_slice g1)
    have HL4 := Lib.hid (HLL.out.app hgl HVL.out g1 g2 g3)
    go_roundw
    case rel => exact ⟨k + 1, A4, c4, ys ++ [⟨2, ⟨#[]⟩, none, 0, 0, (1 + r), Ab, nb, cb⟩], by omega, by go_num, by rw [List.length_append]; rfl, by rw [List.length_append]; simp; omega, HL4⟩
    case measure => simp [intOf]; omega
   by_cases q1 : q = 1
   ·subst q1
    obtain ⟨D', hD'⟩ : ∃ D', D = D' + 1 := ⟨D - 1, by omega⟩
    cases wild
    ·skip
     have hw1 : IntKind.i64.wrap (deep - 1) = deep - 1 := IntWalk.i64_in _ (by omega)
     go_wp2_with fail
     refine (IH.out D' hD' (deep - 1) false g An nn cn _ (by omega) HL2.out.cur HL2.out.ns hnn).mono ?_
     rintro e w3 ⟨Ab, nb, cb, rfl, hb1, hb2, hss, hC3, hG3⟩
     have HL3 := Lib.hid (HL2.out.draw hgl hC3 hG3)
     have hss2 : Ss (D + 1) w3 (KB w w3 (.slice A' ys.length c')) Ab nb := by
      rw [hD']
      exact hss.keep (fun b hb => rfl) fun b hb => ⟨Nat.le_trans HL2.out.gr.size hb.1, hb.2, fun e => by have := (HL2.out.row.lt b e).2; have := hb.1; omega⟩
     have HV : Hid (Sv (D + 2) w3 (KB w w3 (.slice A' ys.length c')) ⟨3, ⟨#[]⟩, none, 0, 0, 0, Ab, nb, cb⟩) := Sv.mk (by decide) (by omega) (by omega) (by decide) Nm.none hss2
     clear hss hss2 hC3 hG3 HL2
     have HXL : Hid (Ext w3 (w3.alloc (.cells #[.int .i64 3, .string ⟨#[]⟩, .slice none 0 0, .int .i64 0, .slice Ab nb cb] 69))) := (Ext.refl w3).alloc _
     have HLL := Lib.hid (HL3.out.ext HXL.out)
     have HVL : Hid (Sv (D + 2) (w3.alloc (.cells #[.int .i64 3, .string ⟨#[]⟩, .slice none 0 0, .int .i64 0, .slice Ab nb cb] 69)) (KB w (w3.alloc (.cells #[.int .i64 3, .string ⟨#[]⟩, .slice none 0 0, .int .i64 0, .slice Ab nb cb] 69)) (.slice A' ys.length c')) ⟨3, ⟨#[]⟩, none, 0, 0, 0, Ab, nb, cb⟩) := Sv.keep (fun b hb => HXL.out.block b hb.2.1) (fun b hb => ⟨hb.1, Nat.lt_of_lt_of_le hb.2.1 HXL.out.size, hb.2.2⟩) HV.out
     go_wp2_with (at_builtin; refine appStmS (w := (w3.alloc (.cells #[.int .i64 3, .string ⟨#[]⟩, .slice none 0 0, .int .i64 0, .slice Ab nb cb] 69))) (B := w.heap.size) rfl _ _ rfl (.slice A' ys.length c') ys.length ys rfl HLL.out.row HLL.out.gr.size _ 1 1 [⟨3, ⟨#[]⟩, none, 0, 0, 0, Ab, nb, cb⟩] rfl (rd_newN _ _ _ _ 1 5 _ (by first | rfl | simp) (by simp [Sc.cells]) (by simp [Sc.cells])) (by omega) ?_; intro v4 w4 g1 g2 g3; obtain ⟨A4, c4, rfl, -⟩ := own_slice g1)
     have HL4 := Lib.hid (HLL.out.app hgl HVL.out g1 g2 g3)
     go_roundw
     case rel => exact ⟨k + 1, A4, c4, ys ++ [⟨3, ⟨#[]⟩, none, 0, 0, 0, Ab, nb, cb⟩], by omega, by go_num, by rw [List.length_append]; rfl, by rw [List.length_append]; simp; omega, HL4⟩
     case measure => simp [intOf]; omega
    ·go_wp2_with fail
     refine (l1Once_any g 6 _ HL2.out.cur (by omega)).mono ?_
     rintro e w5 ⟨bb, rfl, hC5, hG5⟩
     have HL5 := Lib.hid (HL2.out.draw hgl hC5 hG5)
     clear HL2 hC5 hG5
     have hw1 : IntKind.i64.wrap (deep - 1) = deep - 1 := IntWalk.i64_in _ (by omega)
     go_wp2_with fail
     refine (IH.out D' hD' (deep - 1) bb g An nn cn _ (by omega) HL5.out.cur HL5.out.ns hnn).mono ?_
     rintro e w3 ⟨Ab, nb, cb, rfl, hb1, hb2, hss, hC3, hG3⟩
     have HL3 := Lib.hid (HL5.out.draw hgl hC3 hG3)
     have hss2 : Ss (D + 1) w3 (KB w w3 (.slice A' ys.length c')) Ab nb := by
      rw [hD']
      exact hss.keep (fun b hb => rfl) fun b hb => ⟨Nat.le_trans HL5.out.gr.size hb.1, hb.2, fun e => by have := (HL5.out.row.lt b e).2; have := hb.1; omega⟩
     have HV : Hid (Sv (D + 2) w3 (KB w w3 (.slice A' ys.length c')) ⟨3, ⟨#[]⟩, none, 0, 0, 0, Ab, nb, cb⟩) := Sv.mk (by decide) (by omega) (by omega) (by decide) Nm.none hss2
     clear hss hss2 hC3 hG3 HL5
     have HXL : Hid (Ext w3 (w3.alloc (.cells #[.int .i64 3, .string ⟨#[]⟩, .slice none 0 0, .int .i64 0, .slice Ab nb cb] 69))) := (Ext.refl w3).alloc _
     have HLL := Lib.hid (HL3.out.ext HXL.out)
     have HVL : Hid (Sv (D + 2) (w3.alloc (.cells #[.int .i64 3, .string ⟨#[]⟩, .slice none 0 0, .int .i64 0, .slice Ab nb cb] 69)) (KB w (w3.alloc (.cells #[.int .i64 3, .string ⟨#[]⟩, .slice none 0 0, .int .i64 0, .slice Ab nb cb] 69)) (.slice A' ys.length c')) ⟨3, ⟨#[]⟩, none, 0, 0, 0, Ab, nb, cb⟩) := Sv.keep (fun b hb => HXL.out.block b hb.2.1) (fun b hb => ⟨hb.1, Nat.lt_of_lt_of_le hb.2.1 HXL.out.size, hb.2.2⟩) HV.out
     go_wp2_with (at_builtin; refine appStmS (w := (w3.alloc (.cells #[.int .i64 3, .string ⟨#[]⟩, .slice none 0 0, .int .i64 0, .slice Ab nb cb] 69))) (B := w.heap.size) rfl _ _ rfl (.slice A' ys.length c') ys.length ys rfl HLL.out.row HLL.out.gr.size _ 1 1 [⟨3, ⟨#[]⟩, none, 0, 0, 0, Ab, nb, cb⟩] rfl (rd_newN _ _ _ _ 1 5 _ (by first | rfl | simp) (by simp [Sc.cells]) (by simp [Sc.cells])) (by omega) ?_; intro v4 w4 g1 g2 g3; obtain ⟨A4, c4, rfl, -⟩ := own_slice g1)
     have HL4 := Lib.hid (HLL.out.app hgl HVL.out g1 g2 g3)
     go_roundw
     case rel => exact ⟨k + 1, A4, c4, ys ++ [⟨3, ⟨#[]⟩, none, 0, 0, 0, Ab, nb, cb⟩], by omega, by go_num, by rw [List.length_append]; rfl, by rw [List.length_append]; simp; omega, HL4⟩
     case measure => simp [intOf]; omega
   by_cases q2 : q = 2
   ·subst q2
    go_wp2_with fail
    refine (l1Below_any g nn _ HL2.out.cur (by omega)).mono ?_
    rintro e w5 ⟨j, rfl, ⟨hj0, hj1, _⟩, hC5, hG5⟩
    obtain ⟨j, rfl⟩ := Int.eq_ofNat_of_zero_le hj0
    have hj : j < nn := by have := hj1 (by omega); omega
    have hj0i : (0 : Int) ≤ (j : Int) := hj0
    have hji : (j : Int) < (nn : Int) := by omega
    have HL5 := Lib.hid (HL2.out.draw hgl hC5 hG5)
    clear hC5 hG5 HL2 hj1
    obtain ⟨nb, ncs, f, hAn, hnb, hfs, hfc⟩ := ns_all HL5.out.ns (by omega)
    subst hAn
    have HFJ : Hid ((f j).size ≤ 1000) := hfs j hj
    have hcj : w5.cell? ⟨nb, j, none⟩ = some (.string (f j)) := hfc _ hnb j hj
    clear hnb hfs hfc
    have HXA : Hid (Ext w5 (w5.alloc (.cells #[.string (f j)] 9))) := (Ext.refl w5).alloc _
    have HNA : Hid (Ns (w5.alloc (.cells #[.string (f j)] 9)) (some ⟨w5.heap.size, 0, none⟩) 1) := ns_one _ _ HFJ.out
    have HLA := Lib.hid (HL5.out.ext HXA.out)
    go_wp2_with fail
    refine (l17Free_any _ _ nn cn 1 1 _ HLA.out.ns HNA.out (by omega) (by omega)).mono ?_
    rintro e wf ⟨⟨A6, k6, c6, fs, rfl, hown6, hk6, hsz6⟩, hx6⟩
    have HLf := Lib.hid (HLA.out.ext hx6)
    have hga : g < (w5.alloc (.cells #[.string (f j)] 9)).heap.size := Nat.lt_of_lt_of_le hgl HLA.out.gr.size
    have HGF : Hid (g < wf.heap.size) := Nat.lt_of_lt_of_le hga hx6.size
    by_cases h60 : 0 < k6
    rotate_left
    ·have h6i : ¬ (0 : Int) < (k6 : Int) := by omega
     have h6d : decide ((k6 : Int) > 0) = false := by simp; omega
     have h6e : decide ((0 : Int) < (k6 : Int)) = false := by simp; omega
     clear HNA HXA HLA HL5 HFJ hcj hown6 hsz6 hx6 hga
     go_wp2
     go_roundw
     case rel => exact ⟨k + 1, A', c', ys, by omega, by go_num, rfl, by omega, HLf⟩
     case measure => simp [intOf]; omega
    have h6i : (0 : Int) < (k6 : Int) := by omega
    have h6d : decide ((k6 : Int) > 0) = true := by simp; omega
    have h6e : decide ((0 : Int) < (k6 : Int)) = true := by simp; omega
    obtain ⟨bf, of, f0, hA6, hbf, hfm, hfc⟩ := str_at (Rd.own hown6) h60
    subst hA6
    have hbg : bf ≠ g := by have := (hown6.lt bf rfl).1; omega
    rw [Nat.add_zero] at hfc
    have HF0 : Hid (f0.size ≤ 1000) := hsz6 _ (List.mem_of_getElem? hfm)
    have HSF : Hid (∀ w', wf.grownBy w' (some g) → w'.cell? ⟨bf, of, none⟩ = some (.string f0)) := fun w' hg' => (World.cell?_of_block (hg'.block bf hbf (fun e => by injection e with e; exact hbg e))).trans hfc
    clear HNA HXA HLA HL5 hcj hown6 hsz6 hx6 hga hfm hfc hbf hbg
    go_upto_region 19 with (fail)
    refine ctl_reg (by constructor; intro _ _ _ _ _ h; exact h) HLf.out.cur HGF.out h60 HSF.out ?_
    intro y82 y83 y84 y85 y86 y87 y88 y89 lt la x wc hxs hC7 hG7 hlt7 hla7 hA7 hT7
    have HL7 := Lib.hid (HLf.out.draw hgl hC7 hG7)
    have HRL : Hid (w.heap.size ≤ wf.heap.size ∧ ∀ b, (Value.slice A' ys.length c').ownBlock = some b → b < wf.heap.size) := ⟨HLf.out.gr.size, fun b e => (HLf.out.row.lt b e).2⟩
    have HXB : Hid (Ext wc ((wc.alloc (.cells #[.string (f j)] 9)).alloc (.cells #[.int .i64 1, .string x, .slice (some ⟨la, 0, none⟩) 1 1, .int .i64 0, .slice none 0 0] 69))) := ((Ext.refl wc).alloc _).alloc _
    have HL3 := Lib.hid (HL7.out.ext HXB.out)
    have HAB := Lib.hid (hA7.ext HXB.out)
    have HFB : Hid (Blk ((wc.alloc (.cells #[.string (f j)] 9)).alloc (.cells #[.int .i64 1, .string x, .slice (some ⟨la, 0, none⟩) 1 1, .int .i64 0, .slice none 0 0] 69)) wc.heap.size 9 #[.string (f j)]) := (Blk.new _ _ _).alloc _
    have HBB : Hid (Blk ((wc.alloc (.cells #[.string (f j)] 9)).alloc (.cells #[.int .i64 1, .string x, .slice (some ⟨la, 0, none⟩) 1 1, .int .i64 0, .slice none 0 0] 69)) (wc.heap.size + 1) 69 #[.int .i64 1, .string x, .slice (some ⟨la, 0, none⟩) 1 1, .int .i64 0, .slice none 0 0]) := Blk.newAt (by simp)
    have HSB : Hid (Sv (D + 1) ((wc.alloc (.cells #[.string (f j)] 9)).alloc (.cells #[.int .i64 1, .string x, .slice (some ⟨la, 0, none⟩) 1 1, .int .i64 0, .slice none 0 0] 69)) (KB w ((wc.alloc (.cells #[.string (f j)] 9)).alloc (.cells #[.int .i64 1, .string x, .slice (some ⟨la, 0, none⟩) 1 1, .int .i64 0, .slice none 0 0] 69)) (.slice A' ys.length c')) ⟨1, x, some ⟨la, 0, none⟩, 1, 1, 0, none, 0, 0⟩) := Sv.leaf (by decide) (by decide) (by decide) hxs (nm_blk (xs := [f0]) HAB.out (by simp [tcell]) (by intro u hu; simp at hu; subst hu; exact HF0.out) ⟨by have := HRL.out.1; omega, HAB.out.lt, fun e => by have := HRL.out.2 _ e; omega⟩)
    have hws : wf.heap.size ≤ wc.heap.size := hG7.size
    have HV : Hid (Sv (D + 2) ((wc.alloc (.cells #[.string (f j)] 9)).alloc (.cells #[.int .i64 1, .string x, .slice (some ⟨la, 0, none⟩) 1 1, .int .i64 0, .slice none 0 0] 69)) (KB w ((wc.alloc (.cells #[.string (f j)] 9)).alloc (.cells #[.int .i64 1, .string x, .slice (some ⟨la, 0, none⟩) 1 1, .int .i64 0, .slice none 0 0] 69)) (.slice A' ys.length c')) ⟨4, ⟨#[]⟩, some ⟨wc.heap.size, 0, none⟩, 1, 1, 0, some ⟨wc.heap.size + 1, 0, none⟩, 1, 1⟩) := Sv.mk (by decide) (by decide) (by decide) (by decide) (nm_blk (xs := [f j]) HFB.out (by simp [tcell]) (by intro u hu; simp at hu; subst hu; exact HFJ.out) ⟨by have := HRL.out.1; omega, HFB.out.lt, fun e => by have := HRL.out.2 _ e; omega⟩) (ss_blk (ys := [⟨1, x, some ⟨la, 0, none⟩, 1, 1, 0, none, 0, 0⟩]) HBB.out (by simp [Sc.cells]) (by simp) (by intro u hu; simp at hu; subst hu; exact HSB.out) ⟨by have := HRL.out.1; omega, HBB.out.lt, fun e => by have := HRL.out.2 _ e; omega⟩)
    obtain ⟨⟨r0, r1, r2, r3, r4⟩, -⟩ := blk5f (hT7.alloc (.cells #[.string (f j)] 9))
    clear HLf HRL HXB HAB HFB HBB HSB HL7 hA7 hT7 hC7 hG7 hxs hlt7 hla7 hws HF0 HFJ HSF HGF
    have HXL : Hid (Ext ((wc.alloc (.cells #[.string (f j)] 9)).alloc (.cells #[.int .i64 1, .string x, .slice (some ⟨la, 0, none⟩) 1 1, .int .i64 0, .slice none 0 0] 69)) (((wc.alloc (.cells #[.string (f j)] 9)).alloc (.cells #[.int .i64 1, .string x, .slice (some ⟨la, 0, none⟩) 1 1, .int .i64 0, .slice none 0 0] 69)).alloc (.cells #[.int .i64 4, .string ⟨#[]⟩, .slice (some ⟨wc.heap.size, 0, none⟩) 1 1, .int .i64 0, .slice (some ⟨wc.heap.size + 1, 0, none⟩) 1 1] 69))) := (Ext.refl ((wc.alloc (.cells #[.string (f j)] 9)).alloc (.cells #[.int .i64 1, .string x, .slice (some ⟨la, 0, none⟩) 1 1, .int .i64 0, .slice none 0 0] 69))).alloc _
    have HLL := Lib.hid (HL3.out.ext HXL.out)
    have HVL : Hid (Sv (D + 2) (((wc.alloc (.cells #[.string (f j)] 9)).alloc (.cells #[.int .i64 1, .string x, .slice (some ⟨la, 0, none⟩) 1 1, .int .i64 0, .slice none 0 0] 69)).alloc (.cells #[.int .i64 4, .string ⟨#[]⟩, .slice (some ⟨wc.heap.size, 0, none⟩) 1 1, .int .i64 0, .slice (some ⟨wc.heap.size + 1, 0, none⟩) 1 1] 69)) (KB w (((wc.alloc (.cells #[.string (f j)] 9)).alloc (.cells #[.int .i64 1, .string x, .slice (some ⟨la, 0, none⟩) 1 1, .int .i64 0, .slice none 0 0] 69)).alloc (.cells #[.int .i64 4, .string ⟨#[]⟩, .slice (some ⟨wc.heap.size, 0, none⟩) 1 1, .int .i64 0, .slice (some ⟨wc.heap.size + 1, 0, none⟩) 1 1] 69)) (.slice A' ys.length c')) ⟨4, ⟨#[]⟩, (some ⟨wc.heap.size, 0, none⟩), 1, 1, 0, (some ⟨wc.heap.size + 1, 0, none⟩), 1, 1⟩) := Sv.keep (fun b hb => HXL.out.block b hb.2.1) (fun b hb => ⟨hb.1, Nat.lt_of_lt_of_le hb.2.1 HXL.out.size, hb.2.2⟩) HV.out
    go_wp2_with (at_builtin; refine appStmS (w := (((wc.alloc (.cells #[.string (f j)] 9)).alloc (.cells #[.int .i64 1, .string x, .slice (some ⟨la, 0, none⟩) 1 1, .int .i64 0, .slice none 0 0] 69)).alloc (.cells #[.int .i64 4, .string ⟨#[]⟩, .slice (some ⟨wc.heap.size, 0, none⟩) 1 1, .int .i64 0, .slice (some ⟨wc.heap.size + 1, 0, none⟩) 1 1] 69))) (B := w.heap.size) rfl _ _ rfl (.slice A' ys.length c') ys.length ys rfl HLL.out.row HLL.out.gr.size _ 1 1 [⟨4, ⟨#[]⟩, (some ⟨wc.heap.size, 0, none⟩), 1, 1, 0, (some ⟨wc.heap.size + 1, 0, none⟩), 1, 1⟩] rfl (rd_newN _ _ _ _ 1 5 _ (by first | rfl | simp) (by simp [Sc.cells]) (by simp [Sc.cells])) (by omega) ?_; intro v4 w4 g1 g2 g3; obtain ⟨A4, c4, rfl, -⟩ := own_slice g1)
    have HL4 := Lib.hid (HLL.out.app hgl HVL.out g1 g2 g3)
    go_roundw
    case rel => exact ⟨k + 1, A4, c4, ys ++ [⟨4, ⟨#[]⟩, (some ⟨wc.heap.size, 0, none⟩), 1, 1, 0, (some ⟨wc.heap.size + 1, 0, none⟩), 1, 1⟩], by omega, by go_num, by rw [List.length_append]; rfl, by rw [List.length_append]; simp; omega, HL4⟩
    case measure => simp [intOf]; omega
   by_cases q3 : q = 3
   ·subst q3
    obtain ⟨ns, hns, hnr⟩ := HL2.out.ns.rd
    go_wp2_with fail
    refine (l1Has_any An nn cn ns _ _ hnr (by omega)).mono ?_
    rintro e w5 ⟨⟨b5, rfl⟩, rfl⟩
    clear hns hnr
    cases b5
    rotate_left
    ·skip
     go_wp2
     go_roundw
     case rel => exact ⟨k + 1, A', c', ys, by omega, by go_num, rfl, by omega, HL2⟩
     case measure => simp [intOf]; omega
    by_cases h4 : nn < 4
    rotate_left
    ·have h4i : ¬ (nn : Int) < 4 := by omega
     have h4d : decide ((nn : Int) < 4) = false := by simp; omega
     go_wp2
     go_roundw
     case rel => exact ⟨k + 1, A', c', ys, by omega, by go_num, rfl, by omega, HL2⟩
     case measure => simp [intOf]; omega
    have h4i : (nn : Int) < 4 := by omega
    have h4d : decide ((nn : Int) < 4) = true := by simp; omega
    have HXZ : Hid (Ext w2 (w2.alloc (.cells #[.string ⟨#[122, 57]⟩] 9))) := (Ext.refl w2).alloc _
    have HAZ : Hid (Blk (w2.alloc (.cells #[.string ⟨#[122, 57]⟩] 9)) w2.heap.size 9 #[.string ⟨#[122, 57]⟩]) := Blk.new _ _ _
    have HLZ := Lib.hid (HL2.out.ext HXZ.out)
    go_wp2_with fail
    refine (l17Clean_any D g An nn cn _ _ HLZ.out.cur HLZ.out.ns hnn (by decide)).mono ?_
    rintro e w3 ⟨Ab, nb, cb, rfl, hb1, hb2, hss, hC3, hG3⟩
    have HL3 := Lib.hid (HLZ.out.draw hgl hC3 hG3)
    have hAZ : Blk w3 w2.heap.size 9 #[.string ⟨#[122, 57]⟩] := HAZ.out.grown hG3 (fun q hq => by injection hq; have := HL2.out.gr.size; omega)
    have hzs : w2.heap.size < w3.heap.size := hAZ.lt
    have hss2 : Ss (D + 1) w3 (KB w w3 (.slice A' ys.length c')) Ab nb := hss.keep (fun b hb => rfl) fun b hb => ⟨Nat.le_trans HLZ.out.gr.size hb.1, hb.2, fun e => by have := (HLZ.out.row.lt b e).2; have := hb.1; omega⟩
    have hnm : Nm w3 (KB w w3 (.slice A' ys.length c')) (some ⟨w2.heap.size, 0, none⟩) 1 := nm_blk (xs := [⟨#[122, 57]⟩]) hAZ (by simp [tcell]) (by intro u hu; simp at hu; subst hu; decide) ⟨HL2.out.gr.size, hzs, fun e => by have := (HL2.out.row.lt _ e).2; omega⟩
    have HV : Hid (Sv (D + 2) w3 (KB w w3 (.slice A' ys.length c')) ⟨5, ⟨#[]⟩, some ⟨w2.heap.size, 0, none⟩, 1, 1, 0, Ab, nb, cb⟩) := Sv.mk (by decide) (by omega) (by omega) (by decide) hnm hss2
    clear hss hss2 hnm hAZ hC3 hG3 HAZ HLZ HXZ HL2 h4i h4d
    have HXL : Hid (Ext w3 (w3.alloc (.cells #[.int .i64 5, .string ⟨#[]⟩, .slice (some ⟨w2.heap.size, 0, none⟩) 1 1, .int .i64 0, .slice Ab nb cb] 69))) := (Ext.refl w3).alloc _
    have HLL := Lib.hid (HL3.out.ext HXL.out)
    have HVL : Hid (Sv (D + 2) (w3.alloc (.cells #[.int .i64 5, .string ⟨#[]⟩, .slice (some ⟨w2.heap.size, 0, none⟩) 1 1, .int .i64 0, .slice Ab nb cb] 69)) (KB w (w3.alloc (.cells #[.int .i64 5, .string ⟨#[]⟩, .slice (some ⟨w2.heap.size, 0, none⟩) 1 1, .int .i64 0, .slice Ab nb cb] 69)) (.slice A' ys.length c')) ⟨5, ⟨#[]⟩, (some ⟨w2.heap.size, 0, none⟩), 1, 1, 0, Ab, nb, cb⟩) := Sv.keep (fun b hb => HXL.out.block b hb.2.1) (fun b hb => ⟨hb.1, Nat.lt_of_lt_of_le hb.2.1 HXL.out.size, hb.2.2⟩) HV.out
    go_wp2_with (at_builtin; refine appStmS (w := (w3.alloc (.cells #[.int .i64 5, .string ⟨#[]⟩, .slice (some ⟨w2.heap.size, 0, none⟩) 1 1, .int .i64 0, .slice Ab nb cb] 69))) (B := w.heap.size) rfl _ _ rfl (.slice A' ys.length c') ys.length ys rfl HLL.out.row HLL.out.gr.size _ 1 1 [⟨5, ⟨#[]⟩, (some ⟨w2.heap.size, 0, none⟩), 1, 1, 0, Ab, nb, cb⟩] rfl (rd_newN _ _ _ _ 1 5 _ (by first | rfl | simp) (by simp [Sc.cells]) (by simp [Sc.cells])) (by omega) ?_; intro v4 w4 g1 g2 g3; obtain ⟨A4, c4, rfl, -⟩ := own_slice g1)
    have HL4 := Lib.hid (HLL.out.app hgl HVL.out g1 g2 g3)
    go_roundw
    case rel => exact ⟨k + 1, A4, c4, ys ++ [⟨5, ⟨#[]⟩, (some ⟨w2.heap.size, 0, none⟩), 1, 1, 0, Ab, nb, cb⟩], by omega, by go_num, by rw [List.length_append]; rfl, by rw [List.length_append]; simp; omega, HL4⟩
    case measure => simp [intOf]; omega
   by_cases q4 : q = 4
   ·subst q4
    cases wild
    ·skip
     go_wp2
     go_roundw
     case rel => exact ⟨k + 1, A', c', ys, by omega, by go_num, rfl, by omega, HL2⟩
     case measure => simp [intOf]; omega
    go_upto_region 26 with (fail)
    obtain ⟨nb, ncs, f, hAn, hnb, hfs, hfc⟩ := ns_all HL2.out.ns (by omega)
    subst hAn
    have HNB := Lib.hid hnb
    have HFS := Lib.hid hfs
    have HFC := Lib.hid hfc
    have hbg : nb ≠ g := by
     obtain ⟨_, _, _, _, _, _, hcB, _⟩ := HL2.out.cur
     exact blk_ne hnb hcB (by decide)
    clear hnb hfs hfc
    have hgw2 : g < w2.heap.size := Nat.lt_of_lt_of_le hgl HL2.out.gr.size
    refine wp_region_held_drew (S := (fun w' => ∀ i, i < nn → w'.cell? ⟨nb, i, none⟩ = some (.string (f i)))) (by kernel_rfl) (HFC.out _ HNB.out.drew) (fun hHeld => ?_)
    (refine tk 0 (v := ?_) ?_ ?_; rotate_left; · (intro w hSw; (try dsimp only at hSw); go_simp; all_goals with_reducible rfl))
    (try simp only [Act.put, L1, L2, L3, L4, L5, L6])
    (refine tk 1 (v := ?_) ?_ ?_; rotate_left; · (intro w hSw; (try dsimp only at hSw); go_simp; all_goals with_reducible rfl))
    (try simp only [Act.put, L1, L2, L3, L4, L5, L6])
    (refine tk 2 (v := ?_) ?_ ?_; rotate_left; · (intro w hSw; (try dsimp only at hSw); go_simp; all_goals with_reducible rfl))
    (try simp only [Act.put, L1, L2, L3, L4, L5, L6])
    (refine tk 3 (v := ?_) ?_ ?_; rotate_left; · (intro w hSw; (try dsimp only at hSw); go_simp; all_goals with_reducible rfl))
    (try simp only [Act.put, L1, L2, L3, L4, L5, L6])
    (refine tk 4 (v := ?_) ?_ ?_; rotate_left; · (intro w hSw; (try dsimp only at hSw); go_simp; all_goals with_reducible rfl))
    (try simp only [Act.put, L1, L2, L3, L4, L5, L6])
    (refine tk 8 (v := ?_) ?_ ?_; rotate_left; · (intro w hSw; (try dsimp only at hSw); go_simp; all_goals with_reducible rfl))
    (try simp only [Act.put, L1, L2, L3, L4, L5, L6])
    refine wpAnyH_ready (rs := [5, 9]) (by kernel_rfl) (by simp) ?_
    refine AllReadyH.cons rfl (fun K hK => ?_) (AllReadyH.cons rfl (fun K hK => ?_) AllReadyH.nil)
    ·skip
     have HLD := Lib.hid (HL2.out.ext (Ext.refl w2).drew)
     go_simp
     refine (l1Below_any g nn _ HLD.out.cur (by omega)).mono ?_
     rintro e w5 ⟨j, rfl, ⟨hj0, hj1, _⟩, hC5, hG5⟩
     obtain ⟨j, rfl⟩ := Int.eq_ofNat_of_zero_le hj0
     have hj : j < nn := by have := hj1 (by omega); omega
     have hj0i : (0 : Int) ≤ (j : Int) := hj0
     have hji : (j : Int) < (nn : Int) := by omega
     have HL5 := Lib.hid (HLD.out.draw hgl hC5 hG5)
     have HN5 := Lib.hid ((HNB.out.drew).grown hG5 (fun q hq => by injection hq; omega))
     refine hK.out _ _ (HFC.out _ HN5.out) (fun hHeld => ?_)
     clear hK K
     (try simp only [Act.put, L1, L2, L3, L4, L5, L6])
     (refine tk 6 (v := ?_) ?_ ?_; rotate_left; · (intro w hSw; (try dsimp only at hSw); go_simp; all_goals with_reducible rfl))
     (try simp only [Act.put, L1, L2, L3, L4, L5, L6])
     (refine wpAnyH_take (i := 7) (v := (.string (f j))) rfl (by kernel_rfl) (by kernel_rfl) (by kernel_rfl) (fun _ _ _ h => h) (Or.inl ⟨by rfl, ?_⟩) (by assumption) ?_; · (intro w hSw; (try dsimp only at hSw); go_simp; first | done | (rw [hSw j hj]; rfl)))
     (try simp only [Act.put, L1, L2, L3, L4, L5, L6])
     refine wpAnyH_ready (rs := [9]) (by kernel_rfl) (by simp) ?_
     refine AllReadyH.cons rfl (fun K hK => ?_) AllReadyH.nil
     go_simp
     have HXQ : Hid (Ext w5 (w5.alloc (.cells #[.string ⟨#[114]⟩, .string ⟨#[115, 49]⟩, .string ⟨#[114]⟩] 9))) := (Ext.refl w5).alloc _
     have HLQ := Lib.hid (HL5.out.ext HXQ.out)
     have HPQ : Hid (Rd (w5.alloc (.cells #[.string ⟨#[114]⟩, .string ⟨#[115, 49]⟩, .string ⟨#[114]⟩] 9)) (w5.alloc (.cells #[.string ⟨#[114]⟩, .string ⟨#[115, 49]⟩, .string ⟨#[114]⟩] 9)).heap.size 1 (some ⟨w5.heap.size, 0, none⟩) 3 (tcells [⟨#[114]⟩, ⟨#[115, 49]⟩, ⟨#[114]⟩])) := rd_newN w5 _ _ _ 3 1 _ rfl (by simp [tcell]) (by simp [tcell])
     have hgw5 : g < w5.heap.size := Nat.lt_of_lt_of_le hgl HL5.out.gr.size
     refine hK.out _ _ (HFC.out _ (HN5.out.ext HXQ.out)) (fun hHeld => ?_)
     clear hK K
     (try simp only [Act.put, L1, L2, L3, L4, L5, L6])
     refine wpAnyH_ready (rs := [10]) (by kernel_rfl) (by simp) ?_
     refine AllReadyH.cons rfl (fun K hK => ?_) AllReadyH.nil
     go_simp
     refine (l1Pick_any g _ 3 3 _ _ HLQ.out.cur HPQ.out (by intro b o e; injection e with e; injection e with e1; omega) (by omega)).mono ?_
     rintro e w6 ⟨x, rfl, hxm, hC6, hG6⟩
     have hxs : x.size ≤ 1000 := by
      simp at hxm
      rcases hxm with rfl | rfl | rfl <;> decide
     have HLx := Lib.hid (HLQ.out.draw hgl hC6 hG6)
     have HN6 := Lib.hid ((HN5.out.ext HXQ.out).grown hG6 (fun q hq => by injection hq; omega))
     clear hxm hC6 hG6
     refine hK.out _ _ (HFC.out _ HN6.out) (fun hHeld => ?_)
     clear hK K
     (try simp only [Act.put, L1, L2, L3, L4, L5, L6])
     refine wpAnyH_ready (rs := [11]) (by kernel_rfl) (by simp) ?_
     refine AllReadyH.cons rfl (fun K hK => ?_) AllReadyH.nil
     go_simp
     have HXA : Hid (Ext w6 (w6.alloc (.cells #[.string (f j), .string x] 9))) := (Ext.refl w6).alloc _
     have HA : Hid (Blk (w6.alloc (.cells #[.string (f j), .string x] 9)) w6.heap.size 9 #[.string (f j), .string x]) := Blk.new _ _ _
     refine hK.out _ _ (HFC.out _ (HN6.out.ext HXA.out)) (fun hHeld => ?_)
     clear hK K
     (try simp only [Act.put, L1, L2, L3, L4, L5, L6])
     (refine tk 12 (v := ?_) ?_ ?_; rotate_left; · (intro w hSw; (try dsimp only at hSw); go_simp; all_goals with_reducible rfl))
     (try simp only [Act.put, L1, L2, L3, L4, L5, L6])
     have HXL : Hid (Ext (w6.alloc (.cells #[.string (f j), .string x] 9)) ((w6.alloc (.cells #[.string (f j), .string x] 9)).alloc (.cells #[.int .i64 6, .string ⟨#[]⟩, .slice (some ⟨w6.heap.size, 0, none⟩) 2 2, .int .i64 0, .slice none 0 0] 69))) := (Ext.refl _).alloc _
     have HLL := Lib.hid ((HLx.out.ext HXA.out).ext HXL.out)
     have hrl := HLx.out.row.lt
     have hgs6 := HLx.out.gr.size
     have hwl : w6.heap.size < (((w6.alloc (.cells #[.string (f j), .string x] 9)).alloc (.cells #[.int .i64 6, .string ⟨#[]⟩, .slice (some ⟨w6.heap.size, 0, none⟩) 2 2, .int .i64 0, .slice none 0 0] 69))).heap.size := (HA.out.ext HXL.out).lt
     have HVL : Hid (Sv (D + 2) ((w6.alloc (.cells #[.string (f j), .string x] 9)).alloc (.cells #[.int .i64 6, .string ⟨#[]⟩, .slice (some ⟨w6.heap.size, 0, none⟩) 2 2, .int .i64 0, .slice none 0 0] 69)) (KB w ((w6.alloc (.cells #[.string (f j), .string x] 9)).alloc (.cells #[.int .i64 6, .string ⟨#[]⟩, .slice (some ⟨w6.heap.size, 0, none⟩) 2 2, .int .i64 0, .slice none 0 0] 69)) (.slice A' ys.length c')) ⟨6, ⟨#[]⟩, some ⟨w6.heap.size, 0, none⟩, 2, 2, 0, none, 0, 0⟩) := Sv.leaf (by decide) (by decide) (by decide) (by decide) (nm_blk (xs := [f j, x]) (HA.out.ext HXL.out) (by simp [tcell]) (by intro u hu; simp at hu; rcases hu with rfl | rfl; exact HFS.out j hj; exact hxs) ⟨hgs6, hwl, fun e => by have := (hrl _ e).2; omega⟩)
     refine wpAnyH_ready (rs := [13]) (by kernel_rfl) (by simp) ?_
     refine AllReadyH.cons rfl (fun K hK => ?_) AllReadyH.nil
     go_simp
     refine hK.out _ _ (HFC.out _ ((HN6.out.ext HXA.out).ext HXL.out)) (fun hHeld => ?_)
     clear hK K
     (try simp only [Act.put, L1, L2, L3, L4, L5, L6])
     refine wpAnyH_ready (rs := [14]) (by kernel_rfl) (by simp) ?_
     refine AllReadyH.cons rfl (fun K hK => ?_) AllReadyH.nil
     refine stepStmS (w := ((w6.alloc (.cells #[.string (f j), .string x] 9)).alloc (.cells #[.int .i64 6, .string ⟨#[]⟩, .slice (some ⟨w6.heap.size, 0, none⟩) 2 2, .int .i64 0, .slice none 0 0] 69))) (B := w.heap.size) rfl _ _ rfl (.slice A' ys.length c') ys.length ys rfl HLL.out.row HLL.out.gr.size (some ⟨w6.heap.size + 1, 0, none⟩) 1 1 [⟨6, ⟨#[]⟩, some ⟨w6.heap.size, 0, none⟩, 2, 2, 0, none, 0, 0⟩] rfl (rd_newN _ _ _ _ 1 5 _ (by simp) (by simp [Sc.cells]) (by simp [Sc.cells])) (by omega) ?_
     intro v4 w4 g1 g2 g3
     obtain ⟨A4, c4, rfl, -⟩ := own_slice g1
     have HL4 := Lib.hid (HLL.out.app hgl HVL.out g1 g2 g3)
     have HN4 : Hid (Blk w4 nb 9 ncs) := (g2.block nb ((HN6.out.ext HXA.out).ext HXL.out).lt (fun e => own_ne HLL.out.row ((HN6.out.ext HXA.out).ext HXL.out) (by decide) e.symm)).trans ((HN6.out.ext HXA.out).ext HXL.out)
     clear g1 g2 g3
     refine hK.out _ _ (HFC.out _ HN4.out) (fun hHeld => ?_)
     clear hK K
     (try simp only [Act.put, L1, L2, L3, L4, L5, L6])
     (refine tk 15 (v := ?_) ?_ ?_; rotate_left; · (intro w hSw; (try dsimp only at hSw); go_simp; all_goals with_reducible rfl))
     (try simp only [Act.put, L1, L2, L3, L4, L5, L6])
     (refine wpAnyH_done (by kernel_rfl) ?_ _)
     clear hHeld HLL HVL HXL HA HXA HLx HN6 HN4 hrl
     go_wp2
     go_roundw
     case rel => exact ⟨k + 1, A4, c4, ys ++ [⟨6, ⟨#[]⟩, some ⟨w6.heap.size, 0, none⟩, 2, 2, 0, none, 0, 0⟩], by omega, by go_num, by rw [List.length_append]; rfl, by rw [List.length_append]; simp; omega, HL4⟩
     case measure => simp [intOf]; omega
    ·skip
     go_simp
     have HXR : Hid (Ext w2 (w2.drew.alloc (.cells #[.string ⟨#[114]⟩, .string ⟨#[115, 49]⟩, .string ⟨#[114]⟩] 9))) := (Ext.refl w2).drew.alloc _
     have HLR := Lib.hid (HL2.out.ext HXR.out)
     have HNR := Lib.hid (HNB.out.ext HXR.out)
     have HPR : Hid (Rd (w2.drew.alloc (.cells #[.string ⟨#[114]⟩, .string ⟨#[115, 49]⟩, .string ⟨#[114]⟩] 9)) (w2.drew.alloc (.cells #[.string ⟨#[114]⟩, .string ⟨#[115, 49]⟩, .string ⟨#[114]⟩] 9)).heap.size 1 (some ⟨w2.heap.size, 0, none⟩) 3 (tcells [⟨#[114]⟩, ⟨#[115, 49]⟩, ⟨#[114]⟩])) := rd_newN w2.drew _ _ _ 3 1 _ rfl (by simp [tcell]) (by simp [tcell])
     refine hK.out _ _ (HFC.out _ HNR.out) (fun hHeld => ?_)
     clear hK K
     (try simp only [Act.put, L1, L2, L3, L4, L5, L6])
     refine wpAnyH_ready (rs := [5]) (by kernel_rfl) (by simp) ?_
     refine AllReadyH.cons rfl (fun K hK => ?_) AllReadyH.nil
     go_simp
     refine (l1Below_any g nn _ HLR.out.cur (by omega)).mono ?_
     rintro e w5 ⟨j, rfl, ⟨hj0, hj1, _⟩, hC5, hG5⟩
     obtain ⟨j, rfl⟩ := Int.eq_ofNat_of_zero_le hj0
     have hj : j < nn := by have := hj1 (by omega); omega
     have hj0i : (0 : Int) ≤ (j : Int) := hj0
     have hji : (j : Int) < (nn : Int) := by omega
     have HL5 := Lib.hid (HLR.out.draw hgl hC5 hG5)
     have HN5 := Lib.hid ((HNR.out).grown hG5 (fun q hq => by injection hq; omega))
     have HPQ : Hid (Rd w5 w5.heap.size 1 (some ⟨w2.heap.size, 0, none⟩) 3 (tcells [⟨#[114]⟩, ⟨#[115, 49]⟩, ⟨#[114]⟩])) := ⟨HPR.out.1, fun h0 => by
      obtain ⟨b1, o1, e1, hb1, hc1⟩ := HPR.out.2 h0
      have hbe : w2.heap.size = b1 := by injection e1 with e1; injection e1
      exact ⟨b1, o1, e1, Nat.lt_of_lt_of_le hb1 hG5.size, fun i1 u1 hu1 => (World.cell?_of_block (hG5.block b1 hb1 (fun e2 => by injection e2; omega))).trans (hc1 i1 u1 hu1)⟩⟩
     have hgw5 : g < w5.heap.size := Nat.lt_of_lt_of_le hgl HL5.out.gr.size
     refine hK.out _ _ (HFC.out _ HN5.out) (fun hHeld => ?_)
     clear hK K
     (try simp only [Act.put, L1, L2, L3, L4, L5, L6])
     (refine tk 6 (v := ?_) ?_ ?_; rotate_left; · (intro w hSw; (try dsimp only at hSw); go_simp; all_goals with_reducible rfl))
     (try simp only [Act.put, L1, L2, L3, L4, L5, L6])
     (refine wpAnyH_take (i := 7) (v := (.string (f j))) rfl (by kernel_rfl) (by kernel_rfl) (by kernel_rfl) (fun _ _ _ h => h) (Or.inl ⟨by rfl, ?_⟩) (by assumption) ?_; · (intro w hSw; (try dsimp only at hSw); go_simp; first | done | (rw [hSw j hj]; rfl)))
     (try simp only [Act.put, L1, L2, L3, L4, L5, L6])
     refine wpAnyH_ready (rs := [10]) (by kernel_rfl) (by simp) ?_
     refine AllReadyH.cons rfl (fun K hK => ?_) AllReadyH.nil
     go_simp
     refine (l1Pick_any g _ 3 3 _ _ HL5.out.cur HPQ.out (by intro b o e; injection e with e; injection e with e1; omega) (by omega)).mono ?_
     rintro e w6 ⟨x, rfl, hxm, hC6, hG6⟩
     have hxs : x.size ≤ 1000 := by
      simp at hxm
      rcases hxm with rfl | rfl | rfl <;> decide
     have HLx := Lib.hid (HL5.out.draw hgl hC6 hG6)
     have HN6 := Lib.hid ((HN5.out).grown hG6 (fun q hq => by injection hq; omega))
     clear hxm hC6 hG6
     refine hK.out _ _ (HFC.out _ HN6.out) (fun hHeld => ?_)
     clear hK K
     (try simp only [Act.put, L1, L2, L3, L4, L5, L6])
     refine wpAnyH_ready (rs := [11]) (by kernel_rfl) (by simp) ?_
     refine AllReadyH.cons rfl (fun K hK => ?_) AllReadyH.nil
     go_simp
     have HXA : Hid (Ext w6 (w6.alloc (.cells #[.string (f j), .string x] 9))) := (Ext.refl w6).alloc _
     have HA : Hid (Blk (w6.alloc (.cells #[.string (f j), .string x] 9)) w6.heap.size 9 #[.string (f j), .string x]) := Blk.new _ _ _
     refine hK.out _ _ (HFC.out _ (HN6.out.ext HXA.out)) (fun hHeld => ?_)
     clear hK K
     (try simp only [Act.put, L1, L2, L3, L4, L5, L6])
     (refine tk 12 (v := ?_) ?_ ?_; rotate_left; · (intro w hSw; (try dsimp only at hSw); go_simp; all_goals with_reducible rfl))
     (try simp only [Act.put, L1, L2, L3, L4, L5, L6])
     have HXL : Hid (Ext (w6.alloc (.cells #[.string (f j), .string x] 9)) ((w6.alloc (.cells #[.string (f j), .string x] 9)).alloc (.cells #[.int .i64 6, .string ⟨#[]⟩, .slice (some ⟨w6.heap.size, 0, none⟩) 2 2, .int .i64 0, .slice none 0 0] 69))) := (Ext.refl _).alloc _
     have HLL := Lib.hid ((HLx.out.ext HXA.out).ext HXL.out)
     have hrl := HLx.out.row.lt
     have hgs6 := HLx.out.gr.size
     have hwl : w6.heap.size < (((w6.alloc (.cells #[.string (f j), .string x] 9)).alloc (.cells #[.int .i64 6, .string ⟨#[]⟩, .slice (some ⟨w6.heap.size, 0, none⟩) 2 2, .int .i64 0, .slice none 0 0] 69))).heap.size := (HA.out.ext HXL.out).lt
     have HVL : Hid (Sv (D + 2) ((w6.alloc (.cells #[.string (f j), .string x] 9)).alloc (.cells #[.int .i64 6, .string ⟨#[]⟩, .slice (some ⟨w6.heap.size, 0, none⟩) 2 2, .int .i64 0, .slice none 0 0] 69)) (KB w ((w6.alloc (.cells #[.string (f j), .string x] 9)).alloc (.cells #[.int .i64 6, .string ⟨#[]⟩, .slice (some ⟨w6.heap.size, 0, none⟩) 2 2, .int .i64 0, .slice none 0 0] 69)) (.slice A' ys.length c')) ⟨6, ⟨#[]⟩, some ⟨w6.heap.size, 0, none⟩, 2, 2, 0, none, 0, 0⟩) := Sv.leaf (by decide) (by decide) (by decide) (by decide) (nm_blk (xs := [f j, x]) (HA.out.ext HXL.out) (by simp [tcell]) (by intro u hu; simp at hu; rcases hu with rfl | rfl; exact HFS.out j hj; exact hxs) ⟨hgs6, hwl, fun e => by have := (hrl _ e).2; omega⟩)
     refine wpAnyH_ready (rs := [13]) (by kernel_rfl) (by simp) ?_
     refine AllReadyH.cons rfl (fun K hK => ?_) AllReadyH.nil
     go_simp
     refine hK.out _ _ (HFC.out _ ((HN6.out.ext HXA.out).ext HXL.out)) (fun hHeld => ?_)
     clear hK K
     (try simp only [Act.put, L1, L2, L3, L4, L5, L6])
     refine wpAnyH_ready (rs := [14]) (by kernel_rfl) (by simp) ?_
     refine AllReadyH.cons rfl (fun K hK => ?_) AllReadyH.nil
     refine stepStmS (w := ((w6.alloc (.cells #[.string (f j), .string x] 9)).alloc (.cells #[.int .i64 6, .string ⟨#[]⟩, .slice (some ⟨w6.heap.size, 0, none⟩) 2 2, .int .i64 0, .slice none 0 0] 69))) (B := w.heap.size) rfl _ _ rfl (.slice A' ys.length c') ys.length ys rfl HLL.out.row HLL.out.gr.size (some ⟨w6.heap.size + 1, 0, none⟩) 1 1 [⟨6, ⟨#[]⟩, some ⟨w6.heap.size, 0, none⟩, 2, 2, 0, none, 0, 0⟩] rfl (rd_newN _ _ _ _ 1 5 _ (by simp) (by simp [Sc.cells]) (by simp [Sc.cells])) (by omega) ?_
     intro v4 w4 g1 g2 g3
     obtain ⟨A4, c4, rfl, -⟩ := own_slice g1
     have HL4 := Lib.hid (HLL.out.app hgl HVL.out g1 g2 g3)
     have HN4 : Hid (Blk w4 nb 9 ncs) := (g2.block nb ((HN6.out.ext HXA.out).ext HXL.out).lt (fun e => own_ne HLL.out.row ((HN6.out.ext HXA.out).ext HXL.out) (by decide) e.symm)).trans ((HN6.out.ext HXA.out).ext HXL.out)
     clear g1 g2 g3
     refine hK.out _ _ (HFC.out _ HN4.out) (fun hHeld => ?_)
     clear hK K
     (try simp only [Act.put, L1, L2, L3, L4, L5, L6])
     (refine tk 15 (v := ?_) ?_ ?_; rotate_left; · (intro w hSw; (try dsimp only at hSw); go_simp; all_goals with_reducible rfl))
     (try simp only [Act.put, L1, L2, L3, L4, L5, L6])
     (refine wpAnyH_done (by kernel_rfl) ?_ _)
     clear hHeld HLL HVL HXL HA HXA HLx HN6 HN4 hrl
     go_wp2
     go_roundw
     case rel => exact ⟨k + 1, A4, c4, ys ++ [⟨6, ⟨#[]⟩, some ⟨w6.heap.size, 0, none⟩, 2, 2, 0, none, 0, 0⟩], by omega, by go_num, by rw [List.length_append]; rfl, by rw [List.length_append]; simp; omega, HL4⟩
     case measure => simp [intOf]; omega
   by_cases q5 : q = 5
   ·subst q5
    cases wild
    ·skip
     go_wp2
     go_roundw
     case rel => exact ⟨k + 1, A', c', ys, by omega, by go_num, rfl, by omega, HL2⟩
     case measure => simp [intOf]; omega
    have HXQ : Hid (Ext w2 (w2.alloc (.cells #[.string ⟨#[114]⟩, .string ⟨#[115, 49]⟩] 9))) := (Ext.refl w2).alloc _
    have HLQ := Lib.hid (HL2.out.ext HXQ.out)
    have HPQ : Hid (Rd (w2.alloc (.cells #[.string ⟨#[114]⟩, .string ⟨#[115, 49]⟩] 9)) (w2.alloc (.cells #[.string ⟨#[114]⟩, .string ⟨#[115, 49]⟩] 9)).heap.size 1 (some ⟨w2.heap.size, 0, none⟩) 2 (tcells [⟨#[114]⟩, ⟨#[115, 49]⟩])) := rd_newN w2 _ _ _ 2 1 _ rfl (by simp [tcell]) (by simp [tcell])
    have hgw2 : g < w2.heap.size := Nat.lt_of_lt_of_le hgl HL2.out.gr.size
    go_wp2_with fail
    refine (l1Pick_any g _ 2 2 _ _ HLQ.out.cur HPQ.out (by intro b o e; injection e with e; injection e with e1; omega) (by omega)).mono ?_
    rintro e w5 ⟨x, rfl, hxm, hC5, hG5⟩
    have hxs : x.size ≤ 1000 := by
     simp at hxm
     rcases hxm with rfl | rfl <;> decide
    have HL5 := Lib.hid (HLQ.out.draw hgl hC5 hG5)
    clear hxm hC5 hG5 HPQ HLQ HXQ HL2 hgw2
    have HXA : Hid (Ext w5 (w5.alloc (.cells #[.string x] 9))) := (Ext.refl w5).alloc _
    have HLA := Lib.hid (HL5.out.ext HXA.out)
    have HA : Hid (Blk (w5.alloc (.cells #[.string x] 9)) w5.heap.size 9 #[.string x]) := Blk.new _ _ _
    have HLO : Hid (w.heap.size ≤ w5.heap.size ∧ ∀ q, (Value.slice A' ys.length c').ownBlock = some q → q < w5.heap.size) := ⟨HL5.out.gr.size, fun q hq => (HL5.out.row.lt q hq).2⟩
    go_wp2_with fail
    refine (l17Gate_any g An nn cn _ HLA.out.cur HLA.out.ns hnn).mono ?_
    rintro e w3 ⟨wd, Ag, ng, cg, xs, rfl, ⟨hg1, hg3, hgc⟩, hwd, hown, hsz, hC3, hG3⟩
    have HSg : Hid (Sv (D + 1) w3 (KB w w3 (.slice A' ys.length c')) ⟨1, wd, Ag, ng, cg, 0, none, 0, 0⟩) := Sv.leaf hg1 (by omega) hgc hwd (nm_own hown hsz fun b h1 h2 => ⟨Nat.le_trans HLA.out.gr.size h1, h2, fun e => by have := (HLA.out.row.lt b e).2; omega⟩)
    have HA3 := Lib.hid (HA.out.grown hG3 (fun q hq => by injection hq; have := HLO.out.1; omega))
    have HLx := Lib.hid (HLA.out.draw hgl hC3 hG3)
    clear hown hC3 hG3 HLA HA HXA HL5
    have HXB : Hid (Ext w3 (w3.alloc (.cells #[.int .i64 1, .string wd, .slice Ag ng cg, .int .i64 0, .slice none 0 0] 69))) := (Ext.refl w3).alloc _
    have HL3 := Lib.hid (HLx.out.ext HXB.out)
    have HAB := Lib.hid (HA3.out.ext HXB.out)
    have HBB : Hid (Blk (w3.alloc (.cells #[.int .i64 1, .string wd, .slice Ag ng cg, .int .i64 0, .slice none 0 0] 69)) w3.heap.size 69 #[.int .i64 1, .string wd, .slice Ag ng cg, .int .i64 0, .slice none 0 0]) := Blk.new _ _ _
    have HSB : Hid (Sv (D + 1) (w3.alloc (.cells #[.int .i64 1, .string wd, .slice Ag ng cg, .int .i64 0, .slice none 0 0] 69)) (KB w (w3.alloc (.cells #[.int .i64 1, .string wd, .slice Ag ng cg, .int .i64 0, .slice none 0 0] 69)) (.slice A' ys.length c')) ⟨1, wd, Ag, ng, cg, 0, none, 0, 0⟩) := Sv.keep (fun b hb => HXB.out.block b hb.2.1) (fun b hb => ⟨hb.1, Nat.lt_of_lt_of_le hb.2.1 HXB.out.size, hb.2.2⟩) HSg.out
    have hrl := HLx.out.row.lt
    have hgs3 := HLx.out.gr.size
    have HV : Hid (Sv (D + 2) (w3.alloc (.cells #[.int .i64 1, .string wd, .slice Ag ng cg, .int .i64 0, .slice none 0 0] 69)) (KB w (w3.alloc (.cells #[.int .i64 1, .string wd, .slice Ag ng cg, .int .i64 0, .slice none 0 0] 69)) (.slice A' ys.length c')) ⟨7, ⟨#[]⟩, some ⟨w5.heap.size, 0, none⟩, 1, 1, 0, some ⟨w3.heap.size, 0, none⟩, 1, 1⟩) := Sv.mk (by decide) (by decide) (by decide) (by decide) (nm_blk (xs := [x]) HAB.out (by simp [tcell]) (by intro u hu; simp at hu; subst hu; exact hxs) ⟨HLO.out.1, HAB.out.lt, fun e => Nat.lt_irrefl _ (HLO.out.2 _ e)⟩) (ss_blk (ys := [⟨1, wd, Ag, ng, cg, 0, none, 0, 0⟩]) HBB.out (by simp [Sc.cells]) (by simp) (by intro u hu; simp at hu; subst hu; exact HSB.out) ⟨hgs3, HBB.out.lt, fun e => by have := (hrl _ e).2; omega⟩)
    clear HLO HAB HBB HSB HSg HA3 HLx hrl hgs3 HXB
    have HXL : Hid (Ext (w3.alloc (.cells #[.int .i64 1, .string wd, .slice Ag ng cg, .int .i64 0, .slice none 0 0] 69)) ((w3.alloc (.cells #[.int .i64 1, .string wd, .slice Ag ng cg, .int .i64 0, .slice none 0 0] 69)).alloc (.cells #[.int .i64 7, .string ⟨#[]⟩, .slice (some ⟨w5.heap.size, 0, none⟩) 1 1, .int .i64 0, .slice (some ⟨w3.heap.size, 0, none⟩) 1 1] 69))) := (Ext.refl (w3.alloc (.cells #[.int .i64 1, .string wd, .slice Ag ng cg, .int .i64 0, .slice none 0 0] 69))).alloc _
    have HLL := Lib.hid (HL3.out.ext HXL.out)
    have HVL : Hid (Sv (D + 2) ((w3.alloc (.cells #[.int .i64 1, .string wd, .slice Ag ng cg, .int .i64 0, .slice none 0 0] 69)).alloc (.cells #[.int .i64 7, .string ⟨#[]⟩, .slice (some ⟨w5.heap.size, 0, none⟩) 1 1, .int .i64 0, .slice (some ⟨w3.heap.size, 0, none⟩) 1 1] 69)) (KB w ((w3.alloc (.cells #[.int .i64 1, .string wd, .slice Ag ng cg, .int .i64 0, .slice none 0 0] 69)).alloc (.cells #[.int .i64 7, .string ⟨#[]⟩, .slice (some ⟨w5.heap.size, 0, none⟩) 1 1, .int .i64 0, .slice (some ⟨w3.heap.size, 0, none⟩) 1 1] 69)) (.slice A' ys.length c')) ⟨7, ⟨#[]⟩, (some ⟨w5.heap.size, 0, none⟩), 1, 1, 0, (some ⟨w3.heap.size, 0, none⟩), 1, 1⟩) := Sv.keep (fun b hb => HXL.out.block b hb.2.1) (fun b hb => ⟨hb.1, Nat.lt_of_lt_of_le hb.2.1 HXL.out.size, hb.2.2⟩) HV.out
    go_wp2_with (at_builtin; refine appStmS (w := ((w3.alloc (.cells #[.int .i64 1, .string wd, .slice Ag ng cg, .int .i64 0, .slice none 0 0] 69)).alloc (.cells #[.int .i64 7, .string ⟨#[]⟩, .slice (some ⟨w5.heap.size, 0, none⟩) 1 1, .int .i64 0, .slice (some ⟨w3.heap.size, 0, none⟩) 1 1] 69))) (B := w.heap.size) rfl _ _ rfl (.slice A' ys.length c') ys.length ys rfl HLL.out.row HLL.out.gr.size _ 1 1 [⟨7, ⟨#[]⟩, (some ⟨w5.heap.size, 0, none⟩), 1, 1, 0, (some ⟨w3.heap.size, 0, none⟩), 1, 1⟩] rfl (rd_newN _ _ _ _ 1 5 _ (by first | rfl | simp) (by simp [Sc.cells]) (by simp [Sc.cells])) (by omega) ?_; intro v4 w4 g1 g2 g3; obtain ⟨A4, c4, rfl, -⟩ := own_slice g1)
    have HL4 := Lib.hid (HLL.out.app hgl HVL.out g1 g2 g3)
    go_roundw
    case rel => exact ⟨k + 1, A4, c4, ys ++ [⟨7, ⟨#[]⟩, (some ⟨w5.heap.size, 0, none⟩), 1, 1, 0, (some ⟨w3.heap.size, 0, none⟩), 1, 1⟩], by omega, by go_num, by rw [List.length_append]; rfl, by rw [List.length_append]; simp; omega, HL4⟩
    case measure => simp [intOf]; omega
   have f0 : (q == 0) = false := by simp [q0]
   have f1 : (q == 1) = false := by simp [q1]
   have f2 : (q == 2) = false := by simp [q2]
   have f3 : (q == 3) = false := by simp [q3]
   have f4 : (q == 4) = false := by simp [q4]
   have f5 : (q == 5) = false := by simp [q5]
   clear q0 q1 q2 q3 q4 q5
   go_wp2_with fail
   refine (l17Gate_any g An nn cn _ HL2.out.cur HL2.out.ns hnn).mono ?_
   rintro e w3 ⟨wd, Ag, ng, cg, xs, rfl, ⟨hg1, hg3, hgc⟩, hwd, hown, hsz, hC3, hG3⟩
   have HL3 := Lib.hid (HL2.out.draw hgl hC3 hG3)
   have HV : Hid (Sv (D + 2) w3 (KB w w3 (.slice A' ys.length c')) ⟨1, wd, Ag, ng, cg, 0, none, 0, 0⟩) := Sv.leaf hg1 (by omega) hgc hwd (nm_own hown hsz fun b h1 h2 => ⟨Nat.le_trans HL2.out.gr.size h1, h2, fun e => by have := (HL2.out.row.lt b e).2; omega⟩)
   clear hown hC3 hG3 HL2
   have HXL : Hid (Ext w3 (w3.alloc (.cells #[.int .i64 1, .string wd, .slice Ag ng cg, .int .i64 0, .slice none 0 0] 69))) := (Ext.refl w3).alloc _
   have HLL := Lib.hid (HL3.out.ext HXL.out)
   have HVL : Hid (Sv (D + 2) (w3.alloc (.cells #[.int .i64 1, .string wd, .slice Ag ng cg, .int .i64 0, .slice none 0 0] 69)) (KB w (w3.alloc (.cells #[.int .i64 1, .string wd, .slice Ag ng cg, .int .i64 0, .slice none 0 0] 69)) (.slice A' ys.length c')) ⟨1, wd, Ag, ng, cg, 0, none, 0, 0⟩) := Sv.keep (fun b hb => HXL.out.block b hb.2.1) (fun b hb => ⟨hb.1, Nat.lt_of_lt_of_le hb.2.1 HXL.out.size, hb.2.2⟩) HV.out
   go_wp2_with (at_builtin; refine appStmS (w := (w3.alloc (.cells #[.int .i64 1, .string wd, .slice Ag ng cg, .int .i64 0, .slice none 0 0] 69))) (B := w.heap.size) rfl _ _ rfl (.slice A' ys.length c') ys.length ys rfl HLL.out.row HLL.out.gr.size _ 1 1 [⟨1, wd, Ag, ng, cg, 0, none, 0, 0⟩] rfl (rd_newN _ _ _ _ 1 5 _ (by first | rfl | simp) (by simp [Sc.cells]) (by simp [Sc.cells])) (by omega) ?_; intro v4 w4 g1 g2 g3; obtain ⟨A4, c4, rfl, -⟩ := own_slice g1)
   have HL4 := Lib.hid (HLL.out.app hgl HVL.out g1 g2 g3)
   go_roundw
   case rel => exact ⟨k + 1, A4, c4, ys ++ [⟨1, wd, Ag, ng, cg, 0, none, 0, 0⟩], by omega, by go_num, by rw [List.length_append]; rfl, by rw [List.length_append]; simp; omega, HL4⟩
   case measure => simp [intOf]; omega
  ·obtain rfl : k = m := by omega
   have HC := own_capN HL.out.row
   go_wp2
   go_ret
   refine ⟨A', ys.length, c', rfl, by omega, HC, ⟨by omega, ys, ⟨HL.out.row.1, fun h0 => ?_⟩, fun y hy => Sv.keep (fun b hb => rfl) (fun b hb => ⟨hb.1, hb.2.1⟩) (HL.out.sv y hy)⟩, HL.out.cur, HL.out.gr⟩
   obtain ⟨b, o, e, hb, hc⟩ := (Rd.own HL.out.row).2 h0
   exact ⟨b, o, e, ⟨(HL.out.row.lt b (by rw [e]; rfl)).1, hb⟩, hc⟩
theorem l17Body_any : ∀ D : Nat, D ≤ 10 → BodyE D
 | 0, h => l17Body_step (fun D' e => by omega) h
 | D + 1, h => l17Body_step (fun D' e => (show D = D' by omega) ▸ l17Body_any D (by omega)) h
end Go.Proofs.YtdjckjfclhjpcaaGreat
