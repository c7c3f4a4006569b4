/-
 Helper text (no claim of its own): texts that are drawn: one of a list; a text with something put in, or cut short.
-/
import Derived.Test.YtdjckjfclhjpcaaGreatDraw
import Derived.Test.YtdjckjfclhjpcaaGreatStr
import Derived.WalkSpells
namespace Go.Proofs.YtdjckjfclhjpcaaGreat
open Go.ChangeShapes Go.WideShapes Go.ChangeAt Go.RowKit Go.Deep
set_option linter.unusedVariables false
set_option linter.unusedSimpArgs false
set_option maxRecDepth 100000 in
set_option maxHeartbeats 1000000 in
theorem l1Pick_any (g : Nat) (A : Option Addr) (n c : Nat) (xs : List ByteArray) (w : World) (h : Cur w g) (hr : Rd w w.heap.size 1 A n (tcells xs)) (hA : ∀ b o, A = some ⟨b, o, none⟩ → g < b) (hn : 0 < n ∧ n ≤ 256) :
  Calls Tryz.prog 52 #[.pointer (some ⟨g, 0, none⟩), .slice A n c] w fun e w' => ∃ x : ByteArray, e = .returned (.string x) ∧ x ∈ xs ∧ Cur w' g ∧ w.grownBy w' (some g) := by
 obtain ⟨hn0, hn1⟩ := hn
 go_enter Tryz.func52, Tryz.ntmps52
 go_wp2_with fail
 refine (l1Below_any g n _ h (by omega)).mono ?_
 rintro e w1 ⟨x, rfl, ⟨hx0, hx1, _⟩, hc1, hg1⟩
 obtain ⟨j, rfl⟩ := Int.eq_ofNat_of_zero_le hx0
 have hj : j < n := by have := hx1 (by omega); omega
 clear hx1
 have hr1 : Rd w1 w1.heap.size 1 A n (tcells xs) := by
  refine ⟨hr.1, fun h0 => ?_⟩
  obtain ⟨b, o, e, hb, hc⟩ := hr.2 h0
  have hgb := hA b o e
  exact ⟨b, o, e, Nat.lt_of_lt_of_le hb hg1.size, fun q u hu => (World.cell?_of_block (hg1.block b hb (fun e => by injection e; omega))).trans (hc q u hu)⟩
 obtain ⟨b, o, y, rfl, hb, hy, r0⟩ := str_at hr1 hj
 have HY := Lib.hid (List.mem_of_getElem? hy)
 clear hy
 go_wp2
 go_ret
 exact ⟨y, rfl, HY.out, hc1, hg1⟩
end Go.Proofs.YtdjckjfclhjpcaaGreat
