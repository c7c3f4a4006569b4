/-
  Helper text (no claim of its own): texts that are drawn: one of a list; a text with something put in, or cut short.
-/
import Derived.Test.YteecjnnompjmiaaGreatDoorDraw
import Derived.Test.YteecjnnompjmiaaGreatDoorStr
import Derived.WalkSpells
namespace Go.Proofs.YteecjnnompjmiaaGreatDoor
open Go.ChangeShapes Go.WideShapes Go.ChangeAt Go.RowKit Go.Deep
set_option linter.unusedVariables false
set_option linter.unusedSimpArgs false
set_option maxRecDepth 100000 in
set_option maxHeartbeats 1000000 in
theorem l1Pick_any (g : Nat) (A : Option Addr) (n c : Nat) (xs : List ByteArray) (w : World) (h : Cur w g) (hr : Rd w w.heap.size 1 A n (scells xs)) (hA : ∀ b o, A = some ⟨b, o, none⟩ → g < b) (hn : 0 < n ∧ n ≤ 256) :
    Calls Tryz.prog 40 #[.pointer (some ⟨g, 0, none⟩), .slice A n c] w fun e w' => ∃ x : ByteArray, e = .returned (.string x) ∧ x ∈ xs ∧ Cur w' g ∧ w.grownBy w' (some g) := by
  obtain ⟨hn0, hn1⟩ := hn
  go_enter Tryz.func40, Tryz.ntmps40
  go_wp2_with fail
  refine (l1Below_any g n _ h (by omega)).mono ?_
  rintro e w1 ⟨x, rfl, ⟨hx0, hx1, _⟩, hc1, hg1⟩
  obtain ⟨j, rfl⟩ := Int.eq_ofNat_of_zero_le hx0
  have hj : j < n := by have := hx1 (by omega); omega
  clear hx1
  have hr1 : Rd w1 w1.heap.size 1 A n (scells xs) := by
    refine ⟨hr.1, fun h0 => ?_⟩
    obtain ⟨b, o, e, hb, hc⟩ := hr.2 h0
    have hgb := hA b o e
    exact ⟨b, o, e, Nat.lt_of_lt_of_le hb hg1.size, fun q u hu => (World.cell?_of_block (hg1.block b hb (fun e => by injection e; omega))).trans (hc q u hu)⟩
  obtain ⟨b, o, y, rfl, hb, hy, r0⟩ := str_at hr1 hj
  have HY := Lib.hid (List.mem_of_getElem? hy)
  clear hy
  go_wp2
  go_ret
  exact ⟨y, rfl, HY.out, hc1, hg1⟩
theorem gr_trans' {a b c : World} {row : Option Nat} (h : a.grownBy b row) (k : b.drew.grownBy c row) : a.grownBy c row := h.trans ⟨k.os, k.tape, k.output, k.size, k.block⟩
theorem turn_joins (a y b : ByteArray) (ha : a.size ≤ 100000) (hy : y.size ≤ 100000) (hb : b.size ≤ 100000) :
    (∀ w, (Op.stringOp .add a y).run Tryz.prog w = .ok (.string (a ++ y)) w) ∧ (∀ w, (Op.stringOp .add (a ++ y) b).run Tryz.prog w = .ok (.string (a ++ y ++ b)) w) :=
  ⟨fun w => run_string_add_sum w _ _ (by omega), fun w => run_string_add_sum w _ _ (by rw [ByteArray.size_append]; omega)⟩
set_option maxRecDepth 100000 in
set_option maxHeartbeats 2000000 in
theorem l1Turned_any (g : Nat) (s : ByteArray) (A : Option Addr) (n c : Nat) (xs : List ByteArray) (w : World) (hs : s.size ≤ 250) (h : Cur w g) (hr : Rd w w.heap.size 1 A n (scells xs)) (hA : ∀ b o, A = some ⟨b, o, none⟩ → g < b) (hn : 0 < n ∧ n ≤ 256) (hz : ∀ x ∈ xs, x.size ≤ 1000) :
    Calls Tryz.prog 20 #[.pointer (some ⟨g, 0, none⟩), .string s, .slice A n c] w fun e w' => ∃ t : ByteArray, e = .returned (.string t) ∧ t.size ≤ 10000 ∧ Cur w' g ∧ w.grownBy w' (some g) := by
  have HN := Lib.hid hn
  have HZ := Lib.hid hz
  have HA := Lib.hid hA
  clear hn hz hA
  go_enter Tryz.func20, Tryz.ntmps20
  go_wp2_with fail
  refine (l1Below_any g ((s.size : Int) + 1) _ h (by omega)).mono ?_
  rintro e w1 ⟨x, rfl, ⟨hx0, hx1, _⟩, hc1, hg1⟩
  obtain ⟨j, rfl⟩ := Int.eq_ofNat_of_zero_le hx0
  have hj : j ≤ s.size := by have := hx1 (by omega); omega
  clear hx1
  have hr1 : Rd w1 w1.heap.size 1 A n (scells xs) := by
    refine ⟨hr.1, fun h0 => ?_⟩
    obtain ⟨b, o, e, hb, hc⟩ := hr.2 h0
    have hgb := HA.out b o e
    exact ⟨b, o, e, Nat.lt_of_lt_of_le hb hg1.size, fun q u hu => (World.cell?_of_block (hg1.block b hb (fun e => by injection e; omega))).trans (hc q u hu)⟩
  clear hr
  go_wp2_with fail
  refine (l1Below_any g 6 _ hc1 (by omega)).mono ?_
  rintro e w2 ⟨y, rfl, ⟨hy0, hy1, _⟩, hc2, hg2⟩
  have hr2 : Rd w2 w2.heap.size 1 A n (scells xs) := by
    refine ⟨hr1.1, fun h0 => ?_⟩
    obtain ⟨b, o, e, hb, hc⟩ := hr1.2 h0
    have hgb := HA.out b o e
    exact ⟨b, o, e, Nat.lt_of_lt_of_le hb hg2.size, fun q u hu => (World.cell?_of_block (hg2.block b hb (fun e => by injection e; omega))).trans (hc q u hu)⟩
  clear hr1 hy1 hy0
  have HR := Lib.hid hr2
  have HC := Lib.hid hc2
  have HG := Lib.hid (hg1.trans hg2)
  clear hr2 hc2 hg1 hg2 hc1 h
  have hji : (j : Int) ≤ (s.size : Int) := by omega
  have hjs : (0 : Int) ≤ (j : Int) := by omega
  have hss : (s.extract 0 j).size ≤ 250 := by rw [ByteArray.size_extract]; omega
  have hst : (s.extract j s.size).size ≤ 250 := by rw [ByteArray.size_extract]; omega
  by_cases h0 : y = 0
  · subst h0
    have HS1 := Lib.hid hss
    have HS2 := Lib.hid hst
    clear hss hst
    have HP : Hid (Calls Tryz.prog 40 #[.pointer (some ⟨g, 0, none⟩), .slice A n c] w2.drew fun e w' => ∃ x : ByteArray, e = .returned (.string x) ∧ x ∈ xs ∧ Cur w' g ∧ w2.drew.grownBy w' (some g)) :=
      l1Pick_any g A n c xs _ (HC.out.ext (Ext.refl w2).drew) (HR.out.ext (Ext.refl w2).drew) HA.out HN.out
    go_wp2
    go_region_held3 (fun w' => True)
      (first | go_keep | trivial)
      (first | (go_at_call 40; (with_reducible refine HP.out.mono ?_); rintro e w5 ⟨z, rfl, hz, hC5, hG5⟩; have hzz := HZ.out z hz; obtain ⟨j1, j2⟩ := turn_joins (s.extract 0 j) z (s.extract j s.size) (by have := HS1.out; omega) (by omega) (by have := HS2.out; omega)))
    go_wp2
    go_ret
    exact ⟨_, rfl, by rw [ByteArray.size_append, ByteArray.size_append]; have := HS1.out; have := HS2.out; omega, hC5, gr_trans' HG.out hG5⟩
  · have hy0 : (y == 0) = false := by simp [h0]
    by_cases h1 : y = 1
    · subst h1
      go_wp2
      go_ret
      exact ⟨_, rfl, by omega, HC.out, HG.out⟩
    · have hy1 : (y == 1) = false := by simp [h1]
      go_wp2
      go_ret
      exact ⟨_, rfl, by omega, HC.out, HG.out⟩
end Go.Proofs.YteecjnnompjmiaaGreatDoor
