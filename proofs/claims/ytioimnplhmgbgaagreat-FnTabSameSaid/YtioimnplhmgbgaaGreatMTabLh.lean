/-
 For every code, the law FnTabSame returns true: Clifford circuits are equal up to a phase exactly if their tableaux are equal. No condition.
-/
import Derived.Test.YtioimnplhmgbgaaGreatImg
import Derived.Test.YtioimnplhmgbgaaGreatMTabLg
import Derived.Test.YtioimnplhmgbgaaGreatCjp
import Derived.Test.YtioimnplhmgbgaaGreatTbj
import Derived.Test.YtioimnplhmgbgaaGreatMTabLf
import Derived.Test.YtioimnplhmgbgaaGreatTbk
import Derived.Test.YtioimnplhmgbgaaGreatMTabLa
import Derived.Test.YtioimnplhmgbgaaGreatGate
import Derived.Test.YtioimnplhmgbgaaGreatMTabLb
/-
 Helper text (no claim of its own): what a Clifford gate makes of X and Z of a qubit, by the program (third part). Printed by gen_img.py.
-/
namespace Go.Proofs.YtioimnplhmgbgaaGreat
open Go.ChangeShapes Go.WideShapes Go.ChangeAt Go.RowKit Go.Deep
set_option linter.unusedVariables false
set_option maxRecDepth 100000 in
set_option maxHeartbeats 8000000 in
theorem impl_images_10a (g : Gt) (n q : Int) (w : World) (hq0 : 0 ≤ q) (hq3 : q ≤ 3) (ha0 : 0 ≤ g.a) (ha3 : g.a ≤ 3) (hb0 : 0 ≤ g.b) (hb3 : g.b ≤ 3) (hk : g.k = 10) (hf : (q == g.a) = true) (hs : (ar g.k == 2 && q == g.b) = false) (hs2 : (q == g.b) = false) :
  Calls Tryz.prog 62 #[g.val, .int .i64 n, .int .i64 q] w fun e w' => e = .returned (.tuple #[(imgX n g q).val, (imgZ n g q).val]) ∧ Ext w w' := by
 have sq : wrap64 (2 ^ q.toNat) = pw q := pw_wrap hq0 hq3
 have sq2 : IntKind.i64.wrap (2 ^ q.toNat) = pw q := pw_wrapK hq0 hq3
 have sa : wrap64 (2 ^ g.a.toNat) = pw g.a := pw_wrap ha0 ha3
 have sa2 : IntKind.i64.wrap (2 ^ g.a.toNat) = pw g.a := pw_wrapK ha0 ha3
 have sb : wrap64 (2 ^ g.b.toNat) = pw g.b := pw_wrap hb0 hb3
 have sb2 : IntKind.i64.wrap (2 ^ g.b.toNat) = pw g.b := pw_wrapK hb0 hb3
 have EX : Hid (imgX n g q = ⟨n, pw q, pw g.b, 0⟩) := by unfold Hid imgX isFst isSnd; rw [hs, hf]; simp [hk]
 have EZ : Hid (imgZ n g q = ⟨n, 0, pw q, 0⟩) := by unfold Hid imgZ isFst isSnd; rw [hs, hf]; simp [hk]
 have h2 : (ar g.k == 2) = true := by rw [hk]; decide
 have HKK := Lib.hid hk
 clear hk
 go_enter Tryz.func62, Tryz.ntmps62
 go_wp2_with fail
 refine (impl_Arity_any g.k _).mono ?_
 rintro e w1 ⟨rfl, rfl⟩
 have H0 : Hid (Blk (((((w.alloc (.cells #[.int .i64 g.k, .int .i64 g.a, .int .i64 g.b, .int .i64 g.c] 52)).alloc (.cells #[.int .i64 0, .int .i64 0, .int .i64 0, .int .i64 0] 66)).alloc (.cells #[.int .i64 0, .int .i64 0, .int .i64 0, .int .i64 0] 66)).alloc (.cells #[.int .i64 n, .int .i64 (pw q), .int .i64 0, .int .i64 0] 66)).alloc (.cells #[.int .i64 n, .int .i64 0, .int .i64 (pw q), .int .i64 0] 66)) (w.heap.size) 52 #[.int .i64 g.k, .int .i64 g.a, .int .i64 g.b, .int .i64 g.c]) := ((((Blk.new w _ _).alloc _).alloc _).alloc _).alloc _
 have H6 : Hid (Blk (((((w.alloc (.cells #[.int .i64 g.k, .int .i64 g.a, .int .i64 g.b, .int .i64 g.c] 52)).alloc (.cells #[.int .i64 0, .int .i64 0, .int .i64 0, .int .i64 0] 66)).alloc (.cells #[.int .i64 0, .int .i64 0, .int .i64 0, .int .i64 0] 66)).alloc (.cells #[.int .i64 n, .int .i64 (pw q), .int .i64 0, .int .i64 0] 66)).alloc (.cells #[.int .i64 n, .int .i64 0, .int .i64 (pw q), .int .i64 0] 66)) (w.heap.size + 1) 66 #[.int .i64 0, .int .i64 0, .int .i64 0, .int .i64 0]) := (((Blk.newAt (b := w.heap.size + 1) (by simp)).alloc _).alloc _).alloc _
 have H7 : Hid (Blk (((((w.alloc (.cells #[.int .i64 g.k, .int .i64 g.a, .int .i64 g.b, .int .i64 g.c] 52)).alloc (.cells #[.int .i64 0, .int .i64 0, .int .i64 0, .int .i64 0] 66)).alloc (.cells #[.int .i64 0, .int .i64 0, .int .i64 0, .int .i64 0] 66)).alloc (.cells #[.int .i64 n, .int .i64 (pw q), .int .i64 0, .int .i64 0] 66)).alloc (.cells #[.int .i64 n, .int .i64 0, .int .i64 (pw q), .int .i64 0] 66)) (w.heap.size + 1 + 1) 66 #[.int .i64 0, .int .i64 0, .int .i64 0, .int .i64 0]) := ((Blk.newAt (b := w.heap.size + 1 + 1) (by simp)).alloc _).alloc _
 have H8 : Hid (Blk (((((w.alloc (.cells #[.int .i64 g.k, .int .i64 g.a, .int .i64 g.b, .int .i64 g.c] 52)).alloc (.cells #[.int .i64 0, .int .i64 0, .int .i64 0, .int .i64 0] 66)).alloc (.cells #[.int .i64 0, .int .i64 0, .int .i64 0, .int .i64 0] 66)).alloc (.cells #[.int .i64 n, .int .i64 (pw q), .int .i64 0, .int .i64 0] 66)).alloc (.cells #[.int .i64 n, .int .i64 0, .int .i64 (pw q), .int .i64 0] 66)) (w.heap.size + 1 + 1 + 1) 66 #[.int .i64 n, .int .i64 (pw q), .int .i64 0, .int .i64 0]) := (Blk.newAt (b := w.heap.size + 1 + 1 + 1) (by simp)).alloc _
 have H9 : Hid (Blk (((((w.alloc (.cells #[.int .i64 g.k, .int .i64 g.a, .int .i64 g.b, .int .i64 g.c] 52)).alloc (.cells #[.int .i64 0, .int .i64 0, .int .i64 0, .int .i64 0] 66)).alloc (.cells #[.int .i64 0, .int .i64 0, .int .i64 0, .int .i64 0] 66)).alloc (.cells #[.int .i64 n, .int .i64 (pw q), .int .i64 0, .int .i64 0] 66)).alloc (.cells #[.int .i64 n, .int .i64 0, .int .i64 (pw q), .int .i64 0] 66)) (w.heap.size + 1 + 1 + 1 + 1) 66 #[.int .i64 n, .int .i64 0, .int .i64 (pw q), .int .i64 0]) := Blk.newAt (b := w.heap.size + 1 + 1 + 1 + 1) (by simp)
 have HX : Hid (Ext w (((((w.alloc (.cells #[.int .i64 g.k, .int .i64 g.a, .int .i64 g.b, .int .i64 g.c] 52)).alloc (.cells #[.int .i64 0, .int .i64 0, .int .i64 0, .int .i64 0] 66)).alloc (.cells #[.int .i64 0, .int .i64 0, .int .i64 0, .int .i64 0] 66)).alloc (.cells #[.int .i64 n, .int .i64 (pw q), .int .i64 0, .int .i64 0] 66)).alloc (.cells #[.int .i64 n, .int .i64 0, .int .i64 (pw q), .int .i64 0] 66))) := xx
 generalize (((((w.alloc (.cells #[.int .i64 g.k, .int .i64 g.a, .int .i64 g.b, .int .i64 g.c] 52)).alloc (.cells #[.int .i64 0, .int .i64 0, .int .i64 0, .int .i64 0] 66)).alloc (.cells #[.int .i64 0, .int .i64 0, .int .i64 0, .int .i64 0] 66)).alloc (.cells #[.int .i64 n, .int .i64 (pw q), .int .i64 0, .int .i64 0] 66)).alloc (.cells #[.int .i64 n, .int .i64 0, .int .i64 (pw q), .int .i64 0] 66)) = W at *
 obtain ⟨⟨g0, g1, g2, g3⟩, _⟩ := cells4 H0.out
 obtain ⟨⟨x0, x1, x2, x3⟩, xf0, xf1, xf2, xf3⟩ := cells4 H8.out
 obtain ⟨⟨z0, z1, z2, z3⟩, zf0, zf1, zf2, zf3⟩ := cells4 H9.out
 have hk := HKK.out
 rw [hk] at g0
 go_wp2
 replace H8 : Hid (Blk (W.setCell ⟨w.heap.size + 1 + 1 + 1, 2, none⟩ (.int .i64 (pw g.b))) (w.heap.size + 1 + 1 + 1) 66 #[.int .i64 n, .int .i64 (pw q), .int .i64 (pw g.b), .int .i64 0]) := (H8.out.set_ 2 (.int .i64 (pw g.b)))
 replace H6 := Lib.hid ((H6.out.far (p := ⟨w.heap.size + 1 + 1 + 1, 2, none⟩) (by simp; try omega) (.int .i64 (pw g.b))))
 replace H7 := Lib.hid ((H7.out.far (p := ⟨w.heap.size + 1 + 1 + 1, 2, none⟩) (by simp; try omega) (.int .i64 (pw g.b))))
 replace H9 := Lib.hid ((H9.out.far (p := ⟨w.heap.size + 1 + 1 + 1, 2, none⟩) (by simp; try omega) (.int .i64 (pw g.b))))
 replace H0 := Lib.hid ((H0.out.far (p := ⟨w.heap.size + 1 + 1 + 1, 2, none⟩) (by simp; try omega) (.int .i64 (pw g.b))))
 replace HX : Hid (Ext w (W.setCell ⟨w.heap.size + 1 + 1 + 1, 2, none⟩ (.int .i64 (pw g.b)))) := (HX.out.setCell (p := ⟨w.heap.size + 1 + 1 + 1, 2, none⟩) (by simp; try omega) (.int .i64 (pw g.b)))
 clear g0 g1 g2 g3 x0 x1 x2 x3 xf0 xf1 xf2 xf3 z0 z1 z2 z3 zf0 zf1 zf2 zf3
 generalize (W.setCell ⟨w.heap.size + 1 + 1 + 1, 2, none⟩ (.int .i64 (pw g.b))) = W at *
 obtain ⟨⟨g0, g1, g2, g3⟩, _⟩ := cells4 H0.out
 obtain ⟨⟨x0, x1, x2, x3⟩, xf0, xf1, xf2, xf3⟩ := cells4 H8.out
 obtain ⟨⟨z0, z1, z2, z3⟩, zf0, zf1, zf2, zf3⟩ := cells4 H9.out
 obtain ⟨⟨a0, a1, a2, a3⟩, af0, af1, af2, af3⟩ := cells4 H6.out
 obtain ⟨⟨b0, b1, b2, b3⟩, bf0, bf1, bf2, bf3⟩ := cells4 H7.out
 have HS1 : Hid (∀ u0 u1 u2 u3, (((((W.setCell ⟨w.heap.size + 1, 0, none⟩ u0).setCell ⟨w.heap.size + 1, 1, none⟩ u1).setCell ⟨w.heap.size + 1, 2, none⟩ u2).setCell ⟨w.heap.size + 1, 3, none⟩ u3).drew.cell? ⟨w.heap.size + 1 + 1 + 1, 0, none⟩ = some (.int .i64 n) ∧ ((((W.setCell ⟨w.heap.size + 1, 0, none⟩ u0).setCell ⟨w.heap.size + 1, 1, none⟩ u1).setCell ⟨w.heap.size + 1, 2, none⟩ u2).setCell ⟨w.heap.size + 1, 3, none⟩ u3).drew.cell? ⟨w.heap.size + 1 + 1 + 1, 1, none⟩ = some (.int .i64 (pw q)) ∧ ((((W.setCell ⟨w.heap.size + 1, 0, none⟩ u0).setCell ⟨w.heap.size + 1, 1, none⟩ u1).setCell ⟨w.heap.size + 1, 2, none⟩ u2).setCell ⟨w.heap.size + 1, 3, none⟩ u3).drew.cell? ⟨w.heap.size + 1 + 1 + 1, 2, none⟩ = some (.int .i64 (pw g.b)) ∧ ((((W.setCell ⟨w.heap.size + 1, 0, none⟩ u0).setCell ⟨w.heap.size + 1, 1, none⟩ u1).setCell ⟨w.heap.size + 1, 2, none⟩ u2).setCell ⟨w.heap.size + 1, 3, none⟩ u3).drew.cell? ⟨w.heap.size + 1 + 1 + 1, 3, none⟩ = some (.int .i64 0)) ∧ (((((W.setCell ⟨w.heap.size + 1, 0, none⟩ u0).setCell ⟨w.heap.size + 1, 1, none⟩ u1).setCell ⟨w.heap.size + 1, 2, none⟩ u2).setCell ⟨w.heap.size + 1, 3, none⟩ u3).drew.cell? ⟨w.heap.size + 1 + 1 + 1 + 1, 0, none⟩ = some (.int .i64 n) ∧ ((((W.setCell ⟨w.heap.size + 1, 0, none⟩ u0).setCell ⟨w.heap.size + 1, 1, none⟩ u1).setCell ⟨w.heap.size + 1, 2, none⟩ u2).setCell ⟨w.heap.size + 1, 3, none⟩ u3).drew.cell? ⟨w.heap.size + 1 + 1 + 1 + 1, 1, none⟩ = some (.int .i64 0) ∧ ((((W.setCell ⟨w.heap.size + 1, 0, none⟩ u0).setCell ⟨w.heap.size + 1, 1, none⟩ u1).setCell ⟨w.heap.size + 1, 2, none⟩ u2).setCell ⟨w.heap.size + 1, 3, none⟩ u3).drew.cell? ⟨w.heap.size + 1 + 1 + 1 + 1, 2, none⟩ = some (.int .i64 (pw q)) ∧ ((((W.setCell ⟨w.heap.size + 1, 0, none⟩ u0).setCell ⟨w.heap.size + 1, 1, none⟩ u1).setCell ⟨w.heap.size + 1, 2, none⟩ u2).setCell ⟨w.heap.size + 1, 3, none⟩ u3).drew.cell? ⟨w.heap.size + 1 + 1 + 1 + 1, 3, none⟩ = some (.int .i64 0))) := fun u0 u1 u2 u3 => by exact ⟨(cells4 ((far_put4 (g := w.heap.size + 1) H8.out (by omega) u0 u1 u2 u3).ext (Ext.refl _).drew)).1, (cells4 ((far_put4 (g := w.heap.size + 1) H9.out (by omega) u0 u1 u2 u3).ext (Ext.refl _).drew)).1⟩
 have HS2 : Hid (∀ u0 u1 u2 u3 v0 v1 v2 v3, (((((((((W.setCell ⟨w.heap.size + 1, 0, none⟩ u0).setCell ⟨w.heap.size + 1, 1, none⟩ u1).setCell ⟨w.heap.size + 1, 2, none⟩ u2).setCell ⟨w.heap.size + 1, 3, none⟩ u3).setCell ⟨w.heap.size + 1 + 1, 0, none⟩ v0).setCell ⟨w.heap.size + 1 + 1, 1, none⟩ v1).setCell ⟨w.heap.size + 1 + 1, 2, none⟩ v2).setCell ⟨w.heap.size + 1 + 1, 3, none⟩ v3).drew.cell? ⟨w.heap.size + 1 + 1 + 1, 0, none⟩ = some (.int .i64 n) ∧ ((((((((W.setCell ⟨w.heap.size + 1, 0, none⟩ u0).setCell ⟨w.heap.size + 1, 1, none⟩ u1).setCell ⟨w.heap.size + 1, 2, none⟩ u2).setCell ⟨w.heap.size + 1, 3, none⟩ u3).setCell ⟨w.heap.size + 1 + 1, 0, none⟩ v0).setCell ⟨w.heap.size + 1 + 1, 1, none⟩ v1).setCell ⟨w.heap.size + 1 + 1, 2, none⟩ v2).setCell ⟨w.heap.size + 1 + 1, 3, none⟩ v3).drew.cell? ⟨w.heap.size + 1 + 1 + 1, 1, none⟩ = some (.int .i64 (pw q)) ∧ ((((((((W.setCell ⟨w.heap.size + 1, 0, none⟩ u0).setCell ⟨w.heap.size + 1, 1, none⟩ u1).setCell ⟨w.heap.size + 1, 2, none⟩ u2).setCell ⟨w.heap.size + 1, 3, none⟩ u3).setCell ⟨w.heap.size + 1 + 1, 0, none⟩ v0).setCell ⟨w.heap.size + 1 + 1, 1, none⟩ v1).setCell ⟨w.heap.size + 1 + 1, 2, none⟩ v2).setCell ⟨w.heap.size + 1 + 1, 3, none⟩ v3).drew.cell? ⟨w.heap.size + 1 + 1 + 1, 2, none⟩ = some (.int .i64 (pw g.b)) ∧ ((((((((W.setCell ⟨w.heap.size + 1, 0, none⟩ u0).setCell ⟨w.heap.size + 1, 1, none⟩ u1).setCell ⟨w.heap.size + 1, 2, none⟩ u2).setCell ⟨w.heap.size + 1, 3, none⟩ u3).setCell ⟨w.heap.size + 1 + 1, 0, none⟩ v0).setCell ⟨w.heap.size + 1 + 1, 1, none⟩ v1).setCell ⟨w.heap.size + 1 + 1, 2, none⟩ v2).setCell ⟨w.heap.size + 1 + 1, 3, none⟩ v3).drew.cell? ⟨w.heap.size + 1 + 1 + 1, 3, none⟩ = some (.int .i64 0)) ∧ (((((((((W.setCell ⟨w.heap.size + 1, 0, none⟩ u0).setCell ⟨w.heap.size + 1, 1, none⟩ u1).setCell ⟨w.heap.size + 1, 2, none⟩ u2).setCell ⟨w.heap.size + 1, 3, none⟩ u3).setCell ⟨w.heap.size + 1 + 1, 0, none⟩ v0).setCell ⟨w.heap.size + 1 + 1, 1, none⟩ v1).setCell ⟨w.heap.size + 1 + 1, 2, none⟩ v2).setCell ⟨w.heap.size + 1 + 1, 3, none⟩ v3).drew.cell? ⟨w.heap.size + 1 + 1 + 1 + 1, 0, none⟩ = some (.int .i64 n) ∧ ((((((((W.setCell ⟨w.heap.size + 1, 0, none⟩ u0).setCell ⟨w.heap.size + 1, 1, none⟩ u1).setCell ⟨w.heap.size + 1, 2, none⟩ u2).setCell ⟨w.heap.size + 1, 3, none⟩ u3).setCell ⟨w.heap.size + 1 + 1, 0, none⟩ v0).setCell ⟨w.heap.size + 1 + 1, 1, none⟩ v1).setCell ⟨w.heap.size + 1 + 1, 2, none⟩ v2).setCell ⟨w.heap.size + 1 + 1, 3, none⟩ v3).drew.cell? ⟨w.heap.size + 1 + 1 + 1 + 1, 1, none⟩ = some (.int .i64 0) ∧ ((((((((W.setCell ⟨w.heap.size + 1, 0, none⟩ u0).setCell ⟨w.heap.size + 1, 1, none⟩ u1).setCell ⟨w.heap.size + 1, 2, none⟩ u2).setCell ⟨w.heap.size + 1, 3, none⟩ u3).setCell ⟨w.heap.size + 1 + 1, 0, none⟩ v0).setCell ⟨w.heap.size + 1 + 1, 1, none⟩ v1).setCell ⟨w.heap.size + 1 + 1, 2, none⟩ v2).setCell ⟨w.heap.size + 1 + 1, 3, none⟩ v3).drew.cell? ⟨w.heap.size + 1 + 1 + 1 + 1, 2, none⟩ = some (.int .i64 (pw q)) ∧ ((((((((W.setCell ⟨w.heap.size + 1, 0, none⟩ u0).setCell ⟨w.heap.size + 1, 1, none⟩ u1).setCell ⟨w.heap.size + 1, 2, none⟩ u2).setCell ⟨w.heap.size + 1, 3, none⟩ u3).setCell ⟨w.heap.size + 1 + 1, 0, none⟩ v0).setCell ⟨w.heap.size + 1 + 1, 1, none⟩ v1).setCell ⟨w.heap.size + 1 + 1, 2, none⟩ v2).setCell ⟨w.heap.size + 1 + 1, 3, none⟩ v3).drew.cell? ⟨w.heap.size + 1 + 1 + 1 + 1, 3, none⟩ = some (.int .i64 0))) := fun u0 u1 u2 u3 v0 v1 v2 v3 => by exact ⟨(cells4 ((far_put4 (g := w.heap.size + 1 + 1) (far_put4 (g := w.heap.size + 1) H8.out (by omega) u0 u1 u2 u3) (by omega) v0 v1 v2 v3).ext (Ext.refl _).drew)).1, (cells4 ((far_put4 (g := w.heap.size + 1 + 1) (far_put4 (g := w.heap.size + 1) H9.out (by omega) u0 u1 u2 u3) (by omega) v0 v1 v2 v3).ext (Ext.refl _).drew)).1⟩
 have K7 : Hid (∀ u0 u1 u2 u3, Blk ((((W.setCell ⟨w.heap.size + 1, 0, none⟩ u0).setCell ⟨w.heap.size + 1, 1, none⟩ u1).setCell ⟨w.heap.size + 1, 2, none⟩ u2).setCell ⟨w.heap.size + 1, 3, none⟩ u3) (w.heap.size + 1 + 1) 66 #[.int .i64 0, .int .i64 0, .int .i64 0, .int .i64 0]) := fun u0 u1 u2 u3 => far_put4 (g := w.heap.size + 1) H7.out (by omega) u0 u1 u2 u3
 go_region_held3 (fun w' => (w'.cell? ⟨w.heap.size + 1 + 1 + 1, 0, none⟩ = some (.int .i64 n) ∧ w'.cell? ⟨w.heap.size + 1 + 1 + 1, 1, none⟩ = some (.int .i64 (pw q)) ∧ w'.cell? ⟨w.heap.size + 1 + 1 + 1, 2, none⟩ = some (.int .i64 (pw g.b)) ∧ w'.cell? ⟨w.heap.size + 1 + 1 + 1, 3, none⟩ = some (.int .i64 0)) ∧ (w'.cell? ⟨w.heap.size + 1 + 1 + 1 + 1, 0, none⟩ = some (.int .i64 n) ∧ w'.cell? ⟨w.heap.size + 1 + 1 + 1 + 1, 1, none⟩ = some (.int .i64 0) ∧ w'.cell? ⟨w.heap.size + 1 + 1 + 1 + 1, 2, none⟩ = some (.int .i64 (pw q)) ∧ w'.cell? ⟨w.heap.size + 1 + 1 + 1 + 1, 3, none⟩ = some (.int .i64 0)))
  (first | (go_keep; done) | (with_reducible exact HS1.out _ _ _ _) | (with_reducible exact HS2.out _ _ _ _ _ _ _ _))
  (fail)
 all_goals
  go_wp2
  exact bodyPost_ret (v := .tuple #[.agg #[.int .i64 n, .int .i64 (pw q), .int .i64 (pw g.b), .int .i64 0], .agg #[.int .i64 n, .int .i64 0, .int .i64 (pw q), .int .i64 0]]) (ret_cells2 rfl _ _ _ _ _ _ _ _ _ rfl rfl ((far_put4 (g := w.heap.size + 1 + 1) (H6.out.put4 (.int .i64 n) (.int .i64 (pw q)) (.int .i64 (pw g.b)) (.int .i64 0)) (by omega) (.int .i64 n) (.int .i64 0) (.int .i64 (pw q)) (.int .i64 0)).ext (Ext.refl _).drew) (((K7.out (.int .i64 n) (.int .i64 (pw q)) (.int .i64 (pw g.b)) (.int .i64 0)).put4 (.int .i64 n) (.int .i64 0) (.int .i64 (pw q)) (.int .i64 0)).ext (Ext.refl _).drew) Tryz.underlying66 rfl Tryz.sizePauliR rfl) rfl ⟨by rw [EX.out, EZ.out], (ext_put4 (g := w.heap.size + 1 + 1) (ext_put4 (g := w.heap.size + 1) HX.out (by omega) _ _ _ _) (by omega) _ _ _ _).drew⟩
set_option maxRecDepth 100000 in
set_option maxHeartbeats 8000000 in
theorem impl_images_10b (g : Gt) (n q : Int) (w : World) (hq0 : 0 ≤ q) (hq3 : q ≤ 3) (ha0 : 0 ≤ g.a) (ha3 : g.a ≤ 3) (hb0 : 0 ≤ g.b) (hb3 : g.b ≤ 3) (hk : g.k = 10) (hf : (q == g.a) = false) (hs : (ar g.k == 2 && q == g.b) = true) (hs2 : (q == g.b) = true) :
  Calls Tryz.prog 62 #[g.val, .int .i64 n, .int .i64 q] w fun e w' => e = .returned (.tuple #[(imgX n g q).val, (imgZ n g q).val]) ∧ Ext w w' := by
 have sq : wrap64 (2 ^ q.toNat) = pw q := pw_wrap hq0 hq3
 have sq2 : IntKind.i64.wrap (2 ^ q.toNat) = pw q := pw_wrapK hq0 hq3
 have sa : wrap64 (2 ^ g.a.toNat) = pw g.a := pw_wrap ha0 ha3
 have sa2 : IntKind.i64.wrap (2 ^ g.a.toNat) = pw g.a := pw_wrapK ha0 ha3
 have sb : wrap64 (2 ^ g.b.toNat) = pw g.b := pw_wrap hb0 hb3
 have sb2 : IntKind.i64.wrap (2 ^ g.b.toNat) = pw g.b := pw_wrapK hb0 hb3
 have EX : Hid (imgX n g q = ⟨n, pw q, pw g.a, 0⟩) := by unfold Hid imgX isFst isSnd; rw [hs, hf]; simp [hk]
 have EZ : Hid (imgZ n g q = ⟨n, 0, pw q, 0⟩) := by unfold Hid imgZ isFst isSnd; rw [hs, hf]; simp [hk]
 have h2 : (ar g.k == 2) = true := by rw [hk]; decide
 have HKK := Lib.hid hk
 clear hk
 go_enter Tryz.func62, Tryz.ntmps62
 go_wp2_with fail
 refine (impl_Arity_any g.k _).mono ?_
 rintro e w1 ⟨rfl, rfl⟩
 have H0 : Hid (Blk (((((w.alloc (.cells #[.int .i64 g.k, .int .i64 g.a, .int .i64 g.b, .int .i64 g.c] 52)).alloc (.cells #[.int .i64 0, .int .i64 0, .int .i64 0, .int .i64 0] 66)).alloc (.cells #[.int .i64 0, .int .i64 0, .int .i64 0, .int .i64 0] 66)).alloc (.cells #[.int .i64 n, .int .i64 (pw q), .int .i64 0, .int .i64 0] 66)).alloc (.cells #[.int .i64 n, .int .i64 0, .int .i64 (pw q), .int .i64 0] 66)) (w.heap.size) 52 #[.int .i64 g.k, .int .i64 g.a, .int .i64 g.b, .int .i64 g.c]) := ((((Blk.new w _ _).alloc _).alloc _).alloc _).alloc _
 have H6 : Hid (Blk (((((w.alloc (.cells #[.int .i64 g.k, .int .i64 g.a, .int .i64 g.b, .int .i64 g.c] 52)).alloc (.cells #[.int .i64 0, .int .i64 0, .int .i64 0, .int .i64 0] 66)).alloc (.cells #[.int .i64 0, .int .i64 0, .int .i64 0, .int .i64 0] 66)).alloc (.cells #[.int .i64 n, .int .i64 (pw q), .int .i64 0, .int .i64 0] 66)).alloc (.cells #[.int .i64 n, .int .i64 0, .int .i64 (pw q), .int .i64 0] 66)) (w.heap.size + 1) 66 #[.int .i64 0, .int .i64 0, .int .i64 0, .int .i64 0]) := (((Blk.newAt (b := w.heap.size + 1) (by simp)).alloc _).alloc _).alloc _
 have H7 : Hid (Blk (((((w.alloc (.cells #[.int .i64 g.k, .int .i64 g.a, .int .i64 g.b, .int .i64 g.c] 52)).alloc (.cells #[.int .i64 0, .int .i64 0, .int .i64 0, .int .i64 0] 66)).alloc (.cells #[.int .i64 0, .int .i64 0, .int .i64 0, .int .i64 0] 66)).alloc (.cells #[.int .i64 n, .int .i64 (pw q), .int .i64 0, .int .i64 0] 66)).alloc (.cells #[.int .i64 n, .int .i64 0, .int .i64 (pw q), .int .i64 0] 66)) (w.heap.size + 1 + 1) 66 #[.int .i64 0, .int .i64 0, .int .i64 0, .int .i64 0]) := ((Blk.newAt (b := w.heap.size + 1 + 1) (by simp)).alloc _).alloc _
 have H8 : Hid (Blk (((((w.alloc (.cells #[.int .i64 g.k, .int .i64 g.a, .int .i64 g.b, .int .i64 g.c] 52)).alloc (.cells #[.int .i64 0, .int .i64 0, .int .i64 0, .int .i64 0] 66)).alloc (.cells #[.int .i64 0, .int .i64 0, .int .i64 0, .int .i64 0] 66)).alloc (.cells #[.int .i64 n, .int .i64 (pw q), .int .i64 0, .int .i64 0] 66)).alloc (.cells #[.int .i64 n, .int .i64 0, .int .i64 (pw q), .int .i64 0] 66)) (w.heap.size + 1 + 1 + 1) 66 #[.int .i64 n, .int .i64 (pw q), .int .i64 0, .int .i64 0]) := (Blk.newAt (b := w.heap.size + 1 + 1 + 1) (by simp)).alloc _
 have H9 : Hid (Blk (((((w.alloc (.cells #[.int .i64 g.k, .int .i64 g.a, .int .i64 g.b, .int .i64 g.c] 52)).alloc (.cells #[.int .i64 0, .int .i64 0, .int .i64 0, .int .i64 0] 66)).alloc (.cells #[.int .i64 0, .int .i64 0, .int .i64 0, .int .i64 0] 66)).alloc (.cells #[.int .i64 n, .int .i64 (pw q), .int .i64 0, .int .i64 0] 66)).alloc (.cells #[.int .i64 n, .int .i64 0, .int .i64 (pw q), .int .i64 0] 66)) (w.heap.size + 1 + 1 + 1 + 1) 66 #[.int .i64 n, .int .i64 0, .int .i64 (pw q), .int .i64 0]) := Blk.newAt (b := w.heap.size + 1 + 1 + 1 + 1) (by simp)
 have HX : Hid (Ext w (((((w.alloc (.cells #[.int .i64 g.k, .int .i64 g.a, .int .i64 g.b, .int .i64 g.c] 52)).alloc (.cells #[.int .i64 0, .int .i64 0, .int .i64 0, .int .i64 0] 66)).alloc (.cells #[.int .i64 0, .int .i64 0, .int .i64 0, .int .i64 0] 66)).alloc (.cells #[.int .i64 n, .int .i64 (pw q), .int .i64 0, .int .i64 0] 66)).alloc (.cells #[.int .i64 n, .int .i64 0, .int .i64 (pw q), .int .i64 0] 66))) := xx
 generalize (((((w.alloc (.cells #[.int .i64 g.k, .int .i64 g.a, .int .i64 g.b, .int .i64 g.c] 52)).alloc (.cells #[.int .i64 0, .int .i64 0, .int .i64 0, .int .i64 0] 66)).alloc (.cells #[.int .i64 0, .int .i64 0, .int .i64 0, .int .i64 0] 66)).alloc (.cells #[.int .i64 n, .int .i64 (pw q), .int .i64 0, .int .i64 0] 66)).alloc (.cells #[.int .i64 n, .int .i64 0, .int .i64 (pw q), .int .i64 0] 66)) = W at *
 obtain ⟨⟨g0, g1, g2, g3⟩, _⟩ := cells4 H0.out
 obtain ⟨⟨x0, x1, x2, x3⟩, xf0, xf1, xf2, xf3⟩ := cells4 H8.out
 obtain ⟨⟨z0, z1, z2, z3⟩, zf0, zf1, zf2, zf3⟩ := cells4 H9.out
 have hk := HKK.out
 rw [hk] at g0
 go_wp2
 replace H8 : Hid (Blk (W.setCell ⟨w.heap.size + 1 + 1 + 1, 2, none⟩ (.int .i64 (pw g.a))) (w.heap.size + 1 + 1 + 1) 66 #[.int .i64 n, .int .i64 (pw q), .int .i64 (pw g.a), .int .i64 0]) := (H8.out.set_ 2 (.int .i64 (pw g.a)))
 replace H6 := Lib.hid ((H6.out.far (p := ⟨w.heap.size + 1 + 1 + 1, 2, none⟩) (by simp; try omega) (.int .i64 (pw g.a))))
 replace H7 := Lib.hid ((H7.out.far (p := ⟨w.heap.size + 1 + 1 + 1, 2, none⟩) (by simp; try omega) (.int .i64 (pw g.a))))
 replace H9 := Lib.hid ((H9.out.far (p := ⟨w.heap.size + 1 + 1 + 1, 2, none⟩) (by simp; try omega) (.int .i64 (pw g.a))))
 replace H0 := Lib.hid ((H0.out.far (p := ⟨w.heap.size + 1 + 1 + 1, 2, none⟩) (by simp; try omega) (.int .i64 (pw g.a))))
 replace HX : Hid (Ext w (W.setCell ⟨w.heap.size + 1 + 1 + 1, 2, none⟩ (.int .i64 (pw g.a)))) := (HX.out.setCell (p := ⟨w.heap.size + 1 + 1 + 1, 2, none⟩) (by simp; try omega) (.int .i64 (pw g.a)))
 clear g0 g1 g2 g3 x0 x1 x2 x3 xf0 xf1 xf2 xf3 z0 z1 z2 z3 zf0 zf1 zf2 zf3
 generalize (W.setCell ⟨w.heap.size + 1 + 1 + 1, 2, none⟩ (.int .i64 (pw g.a))) = W at *
 obtain ⟨⟨g0, g1, g2, g3⟩, _⟩ := cells4 H0.out
 obtain ⟨⟨x0, x1, x2, x3⟩, xf0, xf1, xf2, xf3⟩ := cells4 H8.out
 obtain ⟨⟨z0, z1, z2, z3⟩, zf0, zf1, zf2, zf3⟩ := cells4 H9.out
 obtain ⟨⟨a0, a1, a2, a3⟩, af0, af1, af2, af3⟩ := cells4 H6.out
 obtain ⟨⟨b0, b1, b2, b3⟩, bf0, bf1, bf2, bf3⟩ := cells4 H7.out
 have HS1 : Hid (∀ u0 u1 u2 u3, (((((W.setCell ⟨w.heap.size + 1, 0, none⟩ u0).setCell ⟨w.heap.size + 1, 1, none⟩ u1).setCell ⟨w.heap.size + 1, 2, none⟩ u2).setCell ⟨w.heap.size + 1, 3, none⟩ u3).drew.cell? ⟨w.heap.size + 1 + 1 + 1, 0, none⟩ = some (.int .i64 n) ∧ ((((W.setCell ⟨w.heap.size + 1, 0, none⟩ u0).setCell ⟨w.heap.size + 1, 1, none⟩ u1).setCell ⟨w.heap.size + 1, 2, none⟩ u2).setCell ⟨w.heap.size + 1, 3, none⟩ u3).drew.cell? ⟨w.heap.size + 1 + 1 + 1, 1, none⟩ = some (.int .i64 (pw q)) ∧ ((((W.setCell ⟨w.heap.size + 1, 0, none⟩ u0).setCell ⟨w.heap.size + 1, 1, none⟩ u1).setCell ⟨w.heap.size + 1, 2, none⟩ u2).setCell ⟨w.heap.size + 1, 3, none⟩ u3).drew.cell? ⟨w.heap.size + 1 + 1 + 1, 2, none⟩ = some (.int .i64 (pw g.a)) ∧ ((((W.setCell ⟨w.heap.size + 1, 0, none⟩ u0).setCell ⟨w.heap.size + 1, 1, none⟩ u1).setCell ⟨w.heap.size + 1, 2, none⟩ u2).setCell ⟨w.heap.size + 1, 3, none⟩ u3).drew.cell? ⟨w.heap.size + 1 + 1 + 1, 3, none⟩ = some (.int .i64 0)) ∧ (((((W.setCell ⟨w.heap.size + 1, 0, none⟩ u0).setCell ⟨w.heap.size + 1, 1, none⟩ u1).setCell ⟨w.heap.size + 1, 2, none⟩ u2).setCell ⟨w.heap.size + 1, 3, none⟩ u3).drew.cell? ⟨w.heap.size + 1 + 1 + 1 + 1, 0, none⟩ = some (.int .i64 n) ∧ ((((W.setCell ⟨w.heap.size + 1, 0, none⟩ u0).setCell ⟨w.heap.size + 1, 1, none⟩ u1).setCell ⟨w.heap.size + 1, 2, none⟩ u2).setCell ⟨w.heap.size + 1, 3, none⟩ u3).drew.cell? ⟨w.heap.size + 1 + 1 + 1 + 1, 1, none⟩ = some (.int .i64 0) ∧ ((((W.setCell ⟨w.heap.size + 1, 0, none⟩ u0).setCell ⟨w.heap.size + 1, 1, none⟩ u1).setCell ⟨w.heap.size + 1, 2, none⟩ u2).setCell ⟨w.heap.size + 1, 3, none⟩ u3).drew.cell? ⟨w.heap.size + 1 + 1 + 1 + 1, 2, none⟩ = some (.int .i64 (pw q)) ∧ ((((W.setCell ⟨w.heap.size + 1, 0, none⟩ u0).setCell ⟨w.heap.size + 1, 1, none⟩ u1).setCell ⟨w.heap.size + 1, 2, none⟩ u2).setCell ⟨w.heap.size + 1, 3, none⟩ u3).drew.cell? ⟨w.heap.size + 1 + 1 + 1 + 1, 3, none⟩ = some (.int .i64 0))) := fun u0 u1 u2 u3 => by exact ⟨(cells4 ((far_put4 (g := w.heap.size + 1) H8.out (by omega) u0 u1 u2 u3).ext (Ext.refl _).drew)).1, (cells4 ((far_put4 (g := w.heap.size + 1) H9.out (by omega) u0 u1 u2 u3).ext (Ext.refl _).drew)).1⟩
 have HS2 : Hid (∀ u0 u1 u2 u3 v0 v1 v2 v3, (((((((((W.setCell ⟨w.heap.size + 1, 0, none⟩ u0).setCell ⟨w.heap.size + 1, 1, none⟩ u1).setCell ⟨w.heap.size + 1, 2, none⟩ u2).setCell ⟨w.heap.size + 1, 3, none⟩ u3).setCell ⟨w.heap.size + 1 + 1, 0, none⟩ v0).setCell ⟨w.heap.size + 1 + 1, 1, none⟩ v1).setCell ⟨w.heap.size + 1 + 1, 2, none⟩ v2).setCell ⟨w.heap.size + 1 + 1, 3, none⟩ v3).drew.cell? ⟨w.heap.size + 1 + 1 + 1, 0, none⟩ = some (.int .i64 n) ∧ ((((((((W.setCell ⟨w.heap.size + 1, 0, none⟩ u0).setCell ⟨w.heap.size + 1, 1, none⟩ u1).setCell ⟨w.heap.size + 1, 2, none⟩ u2).setCell ⟨w.heap.size + 1, 3, none⟩ u3).setCell ⟨w.heap.size + 1 + 1, 0, none⟩ v0).setCell ⟨w.heap.size + 1 + 1, 1, none⟩ v1).setCell ⟨w.heap.size + 1 + 1, 2, none⟩ v2).setCell ⟨w.heap.size + 1 + 1, 3, none⟩ v3).drew.cell? ⟨w.heap.size + 1 + 1 + 1, 1, none⟩ = some (.int .i64 (pw q)) ∧ ((((((((W.setCell ⟨w.heap.size + 1, 0, none⟩ u0).setCell ⟨w.heap.size + 1, 1, none⟩ u1).setCell ⟨w.heap.size + 1, 2, none⟩ u2).setCell ⟨w.heap.size + 1, 3, none⟩ u3).setCell ⟨w.heap.size + 1 + 1, 0, none⟩ v0).setCell ⟨w.heap.size + 1 + 1, 1, none⟩ v1).setCell ⟨w.heap.size + 1 + 1, 2, none⟩ v2).setCell ⟨w.heap.size + 1 + 1, 3, none⟩ v3).drew.cell? ⟨w.heap.size + 1 + 1 + 1, 2, none⟩ = some (.int .i64 (pw g.a)) ∧ ((((((((W.setCell ⟨w.heap.size + 1, 0, none⟩ u0).setCell ⟨w.heap.size + 1, 1, none⟩ u1).setCell ⟨w.heap.size + 1, 2, none⟩ u2).setCell ⟨w.heap.size + 1, 3, none⟩ u3).setCell ⟨w.heap.size + 1 + 1, 0, none⟩ v0).setCell ⟨w.heap.size + 1 + 1, 1, none⟩ v1).setCell ⟨w.heap.size + 1 + 1, 2, none⟩ v2).setCell ⟨w.heap.size + 1 + 1, 3, none⟩ v3).drew.cell? ⟨w.heap.size + 1 + 1 + 1, 3, none⟩ = some (.int .i64 0)) ∧ (((((((((W.setCell ⟨w.heap.size + 1, 0, none⟩ u0).setCell ⟨w.heap.size + 1, 1, none⟩ u1).setCell ⟨w.heap.size + 1, 2, none⟩ u2).setCell ⟨w.heap.size + 1, 3, none⟩ u3).setCell ⟨w.heap.size + 1 + 1, 0, none⟩ v0).setCell ⟨w.heap.size + 1 + 1, 1, none⟩ v1).setCell ⟨w.heap.size + 1 + 1, 2, none⟩ v2).setCell ⟨w.heap.size + 1 + 1, 3, none⟩ v3).drew.cell? ⟨w.heap.size + 1 + 1 + 1 + 1, 0, none⟩ = some (.int .i64 n) ∧ ((((((((W.setCell ⟨w.heap.size + 1, 0, none⟩ u0).setCell ⟨w.heap.size + 1, 1, none⟩ u1).setCell ⟨w.heap.size + 1, 2, none⟩ u2).setCell ⟨w.heap.size + 1, 3, none⟩ u3).setCell ⟨w.heap.size + 1 + 1, 0, none⟩ v0).setCell ⟨w.heap.size + 1 + 1, 1, none⟩ v1).setCell ⟨w.heap.size + 1 + 1, 2, none⟩ v2).setCell ⟨w.heap.size + 1 + 1, 3, none⟩ v3).drew.cell? ⟨w.heap.size + 1 + 1 + 1 + 1, 1, none⟩ = some (.int .i64 0) ∧ ((((((((W.setCell ⟨w.heap.size + 1, 0, none⟩ u0).setCell ⟨w.heap.size + 1, 1, none⟩ u1).setCell ⟨w.heap.size + 1, 2, none⟩ u2).setCell ⟨w.heap.size + 1, 3, none⟩ u3).setCell ⟨w.heap.size + 1 + 1, 0, none⟩ v0).setCell ⟨w.heap.size + 1 + 1, 1, none⟩ v1).setCell ⟨w.heap.size + 1 + 1, 2, none⟩ v2).setCell ⟨w.heap.size + 1 + 1, 3, none⟩ v3).drew.cell? ⟨w.heap.size + 1 + 1 + 1 + 1, 2, none⟩ = some (.int .i64 (pw q)) ∧ ((((((((W.setCell ⟨w.heap.size + 1, 0, none⟩ u0).setCell ⟨w.heap.size + 1, 1, none⟩ u1).setCell ⟨w.heap.size + 1, 2, none⟩ u2).setCell ⟨w.heap.size + 1, 3, none⟩ u3).setCell ⟨w.heap.size + 1 + 1, 0, none⟩ v0).setCell ⟨w.heap.size + 1 + 1, 1, none⟩ v1).setCell ⟨w.heap.size + 1 + 1, 2, none⟩ v2).setCell ⟨w.heap.size + 1 + 1, 3, none⟩ v3).drew.cell? ⟨w.heap.size + 1 + 1 + 1 + 1, 3, none⟩ = some (.int .i64 0))) := fun u0 u1 u2 u3 v0 v1 v2 v3 => by exact ⟨(cells4 ((far_put4 (g := w.heap.size + 1 + 1) (far_put4 (g := w.heap.size + 1) H8.out (by omega) u0 u1 u2 u3) (by omega) v0 v1 v2 v3).ext (Ext.refl _).drew)).1, (cells4 ((far_put4 (g := w.heap.size + 1 + 1) (far_put4 (g := w.heap.size + 1) H9.out (by omega) u0 u1 u2 u3) (by omega) v0 v1 v2 v3).ext (Ext.refl _).drew)).1⟩
 have K7 : Hid (∀ u0 u1 u2 u3, Blk ((((W.setCell ⟨w.heap.size + 1, 0, none⟩ u0).setCell ⟨w.heap.size + 1, 1, none⟩ u1).setCell ⟨w.heap.size + 1, 2, none⟩ u2).setCell ⟨w.heap.size + 1, 3, none⟩ u3) (w.heap.size + 1 + 1) 66 #[.int .i64 0, .int .i64 0, .int .i64 0, .int .i64 0]) := fun u0 u1 u2 u3 => far_put4 (g := w.heap.size + 1) H7.out (by omega) u0 u1 u2 u3
 go_region_held3 (fun w' => (w'.cell? ⟨w.heap.size + 1 + 1 + 1, 0, none⟩ = some (.int .i64 n) ∧ w'.cell? ⟨w.heap.size + 1 + 1 + 1, 1, none⟩ = some (.int .i64 (pw q)) ∧ w'.cell? ⟨w.heap.size + 1 + 1 + 1, 2, none⟩ = some (.int .i64 (pw g.a)) ∧ w'.cell? ⟨w.heap.size + 1 + 1 + 1, 3, none⟩ = some (.int .i64 0)) ∧ (w'.cell? ⟨w.heap.size + 1 + 1 + 1 + 1, 0, none⟩ = some (.int .i64 n) ∧ w'.cell? ⟨w.heap.size + 1 + 1 + 1 + 1, 1, none⟩ = some (.int .i64 0) ∧ w'.cell? ⟨w.heap.size + 1 + 1 + 1 + 1, 2, none⟩ = some (.int .i64 (pw q)) ∧ w'.cell? ⟨w.heap.size + 1 + 1 + 1 + 1, 3, none⟩ = some (.int .i64 0)))
  (first | (go_keep; done) | (with_reducible exact HS1.out _ _ _ _) | (with_reducible exact HS2.out _ _ _ _ _ _ _ _))
  (fail)
 all_goals
  go_wp2
  exact bodyPost_ret (v := .tuple #[.agg #[.int .i64 n, .int .i64 (pw q), .int .i64 (pw g.a), .int .i64 0], .agg #[.int .i64 n, .int .i64 0, .int .i64 (pw q), .int .i64 0]]) (ret_cells2 rfl _ _ _ _ _ _ _ _ _ rfl rfl ((far_put4 (g := w.heap.size + 1 + 1) (H6.out.put4 (.int .i64 n) (.int .i64 (pw q)) (.int .i64 (pw g.a)) (.int .i64 0)) (by omega) (.int .i64 n) (.int .i64 0) (.int .i64 (pw q)) (.int .i64 0)).ext (Ext.refl _).drew) (((K7.out (.int .i64 n) (.int .i64 (pw q)) (.int .i64 (pw g.a)) (.int .i64 0)).put4 (.int .i64 n) (.int .i64 0) (.int .i64 (pw q)) (.int .i64 0)).ext (Ext.refl _).drew) Tryz.underlying66 rfl Tryz.sizePauliR rfl) rfl ⟨by rw [EX.out, EZ.out], (ext_put4 (g := w.heap.size + 1 + 1) (ext_put4 (g := w.heap.size + 1) HX.out (by omega) _ _ _ _) (by omega) _ _ _ _).drew⟩
set_option maxRecDepth 100000 in
set_option maxHeartbeats 8000000 in
theorem impl_images_11a (g : Gt) (n q : Int) (w : World) (hq0 : 0 ≤ q) (hq3 : q ≤ 3) (ha0 : 0 ≤ g.a) (ha3 : g.a ≤ 3) (hb0 : 0 ≤ g.b) (hb3 : g.b ≤ 3) (hk : g.k = 11) (hf : (q == g.a) = true) (hs : (ar g.k == 2 && q == g.b) = false) (hs2 : (q == g.b) = false) :
  Calls Tryz.prog 62 #[g.val, .int .i64 n, .int .i64 q] w fun e w' => e = .returned (.tuple #[(imgX n g q).val, (imgZ n g q).val]) ∧ Ext w w' := by
 have sq : wrap64 (2 ^ q.toNat) = pw q := pw_wrap hq0 hq3
 have sq2 : IntKind.i64.wrap (2 ^ q.toNat) = pw q := pw_wrapK hq0 hq3
 have sa : wrap64 (2 ^ g.a.toNat) = pw g.a := pw_wrap ha0 ha3
 have sa2 : IntKind.i64.wrap (2 ^ g.a.toNat) = pw g.a := pw_wrapK ha0 ha3
 have sb : wrap64 (2 ^ g.b.toNat) = pw g.b := pw_wrap hb0 hb3
 have sb2 : IntKind.i64.wrap (2 ^ g.b.toNat) = pw g.b := pw_wrapK hb0 hb3
 have EX : Hid (imgX n g q = ⟨n, pw g.b, 0, 0⟩) := by unfold Hid imgX isFst isSnd; rw [hs, hf]; simp [hk]
 have EZ : Hid (imgZ n g q = ⟨n, 0, pw g.b, 0⟩) := by unfold Hid imgZ isFst isSnd; rw [hs, hf]; simp [hk]
 have h2 : (ar g.k == 2) = true := by rw [hk]; decide
 have HKK := Lib.hid hk
 clear hk
 go_enter Tryz.func62, Tryz.ntmps62
 go_wp2_with fail
 refine (impl_Arity_any g.k _).mono ?_
 rintro e w1 ⟨rfl, rfl⟩
 have H0 : Hid (Blk (((((w.alloc (.cells #[.int .i64 g.k, .int .i64 g.a, .int .i64 g.b, .int .i64 g.c] 52)).alloc (.cells #[.int .i64 0, .int .i64 0, .int .i64 0, .int .i64 0] 66)).alloc (.cells #[.int .i64 0, .int .i64 0, .int .i64 0, .int .i64 0] 66)).alloc (.cells #[.int .i64 n, .int .i64 (pw q), .int .i64 0, .int .i64 0] 66)).alloc (.cells #[.int .i64 n, .int .i64 0, .int .i64 (pw q), .int .i64 0] 66)) (w.heap.size) 52 #[.int .i64 g.k, .int .i64 g.a, .int .i64 g.b, .int .i64 g.c]) := ((((Blk.new w _ _).alloc _).alloc _).alloc _).alloc _
 have H6 : Hid (Blk (((((w.alloc (.cells #[.int .i64 g.k, .int .i64 g.a, .int .i64 g.b, .int .i64 g.c] 52)).alloc (.cells #[.int .i64 0, .int .i64 0, .int .i64 0, .int .i64 0] 66)).alloc (.cells #[.int .i64 0, .int .i64 0, .int .i64 0, .int .i64 0] 66)).alloc (.cells #[.int .i64 n, .int .i64 (pw q), .int .i64 0, .int .i64 0] 66)).alloc (.cells #[.int .i64 n, .int .i64 0, .int .i64 (pw q), .int .i64 0] 66)) (w.heap.size + 1) 66 #[.int .i64 0, .int .i64 0, .int .i64 0, .int .i64 0]) := (((Blk.newAt (b := w.heap.size + 1) (by simp)).alloc _).alloc _).alloc _
 have H7 : Hid (Blk (((((w.alloc (.cells #[.int .i64 g.k, .int .i64 g.a, .int .i64 g.b, .int .i64 g.c] 52)).alloc (.cells #[.int .i64 0, .int .i64 0, .int .i64 0, .int .i64 0] 66)).alloc (.cells #[.int .i64 0, .int .i64 0, .int .i64 0, .int .i64 0] 66)).alloc (.cells #[.int .i64 n, .int .i64 (pw q), .int .i64 0, .int .i64 0] 66)).alloc (.cells #[.int .i64 n, .int .i64 0, .int .i64 (pw q), .int .i64 0] 66)) (w.heap.size + 1 + 1) 66 #[.int .i64 0, .int .i64 0, .int .i64 0, .int .i64 0]) := ((Blk.newAt (b := w.heap.size + 1 + 1) (by simp)).alloc _).alloc _
 have H8 : Hid (Blk (((((w.alloc (.cells #[.int .i64 g.k, .int .i64 g.a, .int .i64 g.b, .int .i64 g.c] 52)).alloc (.cells #[.int .i64 0, .int .i64 0, .int .i64 0, .int .i64 0] 66)).alloc (.cells #[.int .i64 0, .int .i64 0, .int .i64 0, .int .i64 0] 66)).alloc (.cells #[.int .i64 n, .int .i64 (pw q), .int .i64 0, .int .i64 0] 66)).alloc (.cells #[.int .i64 n, .int .i64 0, .int .i64 (pw q), .int .i64 0] 66)) (w.heap.size + 1 + 1 + 1) 66 #[.int .i64 n, .int .i64 (pw q), .int .i64 0, .int .i64 0]) := (Blk.newAt (b := w.heap.size + 1 + 1 + 1) (by simp)).alloc _
 have H9 : Hid (Blk (((((w.alloc (.cells #[.int .i64 g.k, .int .i64 g.a, .int .i64 g.b, .int .i64 g.c] 52)).alloc (.cells #[.int .i64 0, .int .i64 0, .int .i64 0, .int .i64 0] 66)).alloc (.cells #[.int .i64 0, .int .i64 0, .int .i64 0, .int .i64 0] 66)).alloc (.cells #[.int .i64 n, .int .i64 (pw q), .int .i64 0, .int .i64 0] 66)).alloc (.cells #[.int .i64 n, .int .i64 0, .int .i64 (pw q), .int .i64 0] 66)) (w.heap.size + 1 + 1 + 1 + 1) 66 #[.int .i64 n, .int .i64 0, .int .i64 (pw q), .int .i64 0]) := Blk.newAt (b := w.heap.size + 1 + 1 + 1 + 1) (by simp)
 have HX : Hid (Ext w (((((w.alloc (.cells #[.int .i64 g.k, .int .i64 g.a, .int .i64 g.b, .int .i64 g.c] 52)).alloc (.cells #[.int .i64 0, .int .i64 0, .int .i64 0, .int .i64 0] 66)).alloc (.cells #[.int .i64 0, .int .i64 0, .int .i64 0, .int .i64 0] 66)).alloc (.cells #[.int .i64 n, .int .i64 (pw q), .int .i64 0, .int .i64 0] 66)).alloc (.cells #[.int .i64 n, .int .i64 0, .int .i64 (pw q), .int .i64 0] 66))) := xx
 generalize (((((w.alloc (.cells #[.int .i64 g.k, .int .i64 g.a, .int .i64 g.b, .int .i64 g.c] 52)).alloc (.cells #[.int .i64 0, .int .i64 0, .int .i64 0, .int .i64 0] 66)).alloc (.cells #[.int .i64 0, .int .i64 0, .int .i64 0, .int .i64 0] 66)).alloc (.cells #[.int .i64 n, .int .i64 (pw q), .int .i64 0, .int .i64 0] 66)).alloc (.cells #[.int .i64 n, .int .i64 0, .int .i64 (pw q), .int .i64 0] 66)) = W at *
 obtain ⟨⟨g0, g1, g2, g3⟩, _⟩ := cells4 H0.out
 obtain ⟨⟨x0, x1, x2, x3⟩, xf0, xf1, xf2, xf3⟩ := cells4 H8.out
 obtain ⟨⟨z0, z1, z2, z3⟩, zf0, zf1, zf2, zf3⟩ := cells4 H9.out
 have hk := HKK.out
 rw [hk] at g0
 obtain ⟨⟨a0, a1, a2, a3⟩, af0, af1, af2, af3⟩ := cells4 H6.out
 obtain ⟨⟨b0, b1, b2, b3⟩, bf0, bf1, bf2, bf3⟩ := cells4 H7.out
 have HS1 : Hid (∀ u0 u1 u2 u3, ((((W.setCell ⟨w.heap.size + 1, 0, none⟩ u0).setCell ⟨w.heap.size + 1, 1, none⟩ u1).setCell ⟨w.heap.size + 1, 2, none⟩ u2).setCell ⟨w.heap.size + 1, 3, none⟩ u3).drew.cell? ⟨w.heap.size, 1, none⟩ = some (.int .i64 g.a) ∧ ((((W.setCell ⟨w.heap.size + 1, 0, none⟩ u0).setCell ⟨w.heap.size + 1, 1, none⟩ u1).setCell ⟨w.heap.size + 1, 2, none⟩ u2).setCell ⟨w.heap.size + 1, 3, none⟩ u3).drew.cell? ⟨w.heap.size, 2, none⟩ = some (.int .i64 g.b)) := fun u0 u1 u2 u3 => by have h := cells4 ((far_put4 (g := w.heap.size + 1) H0.out (by omega) u0 u1 u2 u3).ext (Ext.refl _).drew); exact ⟨h.1.2.1, h.1.2.2.1⟩
 have HS2 : Hid (∀ u0 u1 u2 u3 v0 v1 v2 v3, ((((((((W.setCell ⟨w.heap.size + 1, 0, none⟩ u0).setCell ⟨w.heap.size + 1, 1, none⟩ u1).setCell ⟨w.heap.size + 1, 2, none⟩ u2).setCell ⟨w.heap.size + 1, 3, none⟩ u3).setCell ⟨w.heap.size + 1 + 1, 0, none⟩ v0).setCell ⟨w.heap.size + 1 + 1, 1, none⟩ v1).setCell ⟨w.heap.size + 1 + 1, 2, none⟩ v2).setCell ⟨w.heap.size + 1 + 1, 3, none⟩ v3).drew.cell? ⟨w.heap.size, 1, none⟩ = some (.int .i64 g.a) ∧ ((((((((W.setCell ⟨w.heap.size + 1, 0, none⟩ u0).setCell ⟨w.heap.size + 1, 1, none⟩ u1).setCell ⟨w.heap.size + 1, 2, none⟩ u2).setCell ⟨w.heap.size + 1, 3, none⟩ u3).setCell ⟨w.heap.size + 1 + 1, 0, none⟩ v0).setCell ⟨w.heap.size + 1 + 1, 1, none⟩ v1).setCell ⟨w.heap.size + 1 + 1, 2, none⟩ v2).setCell ⟨w.heap.size + 1 + 1, 3, none⟩ v3).drew.cell? ⟨w.heap.size, 2, none⟩ = some (.int .i64 g.b)) := fun u0 u1 u2 u3 v0 v1 v2 v3 => by have h := cells4 ((far_put4 (g := w.heap.size + 1 + 1) (far_put4 (g := w.heap.size + 1) H0.out (by omega) u0 u1 u2 u3) (by omega) v0 v1 v2 v3).ext (Ext.refl _).drew); exact ⟨h.1.2.1, h.1.2.2.1⟩
 have K7 : Hid (∀ u0 u1 u2 u3, Blk ((((W.setCell ⟨w.heap.size + 1, 0, none⟩ u0).setCell ⟨w.heap.size + 1, 1, none⟩ u1).setCell ⟨w.heap.size + 1, 2, none⟩ u2).setCell ⟨w.heap.size + 1, 3, none⟩ u3) (w.heap.size + 1 + 1) 66 #[.int .i64 0, .int .i64 0, .int .i64 0, .int .i64 0]) := fun u0 u1 u2 u3 => far_put4 (g := w.heap.size + 1) H7.out (by omega) u0 u1 u2 u3
 go_wp2
 go_region_held3 (fun w' => w'.cell? ⟨w.heap.size, 1, none⟩ = some (.int .i64 g.a) ∧ w'.cell? ⟨w.heap.size, 2, none⟩ = some (.int .i64 g.b))
  (first | (go_keep; done) | (with_reducible exact HS1.out _ _ _ _) | (with_reducible exact HS2.out _ _ _ _ _ _ _ _))
  (fail)
 all_goals
  go_wp2
  exact bodyPost_ret (v := .tuple #[.agg #[.int .i64 n, .int .i64 (pw g.b), .int .i64 0, .int .i64 0], .agg #[.int .i64 n, .int .i64 0, .int .i64 (pw g.b), .int .i64 0]]) (ret_cells2 rfl _ _ _ _ _ _ _ _ _ rfl rfl ((far_put4 (g := w.heap.size + 1 + 1) (H6.out.put4 (.int .i64 n) (.int .i64 (pw g.b)) (.int .i64 0) (.int .i64 0)) (by omega) (.int .i64 n) (.int .i64 0) (.int .i64 (pw g.b)) (.int .i64 0)).ext (Ext.refl _).drew) (((K7.out (.int .i64 n) (.int .i64 (pw g.b)) (.int .i64 0) (.int .i64 0)).put4 (.int .i64 n) (.int .i64 0) (.int .i64 (pw g.b)) (.int .i64 0)).ext (Ext.refl _).drew) Tryz.underlying66 rfl Tryz.sizePauliR rfl) rfl ⟨by rw [EX.out, EZ.out], (ext_put4 (g := w.heap.size + 1 + 1) (ext_put4 (g := w.heap.size + 1) HX.out (by omega) _ _ _ _) (by omega) _ _ _ _).drew⟩
set_option maxRecDepth 100000 in
set_option maxHeartbeats 8000000 in
theorem impl_images_11b (g : Gt) (n q : Int) (w : World) (hq0 : 0 ≤ q) (hq3 : q ≤ 3) (ha0 : 0 ≤ g.a) (ha3 : g.a ≤ 3) (hb0 : 0 ≤ g.b) (hb3 : g.b ≤ 3) (hk : g.k = 11) (hf : (q == g.a) = false) (hs : (ar g.k == 2 && q == g.b) = true) (hs2 : (q == g.b) = true) :
  Calls Tryz.prog 62 #[g.val, .int .i64 n, .int .i64 q] w fun e w' => e = .returned (.tuple #[(imgX n g q).val, (imgZ n g q).val]) ∧ Ext w w' := by
 have sq : wrap64 (2 ^ q.toNat) = pw q := pw_wrap hq0 hq3
 have sq2 : IntKind.i64.wrap (2 ^ q.toNat) = pw q := pw_wrapK hq0 hq3
 have sa : wrap64 (2 ^ g.a.toNat) = pw g.a := pw_wrap ha0 ha3
 have sa2 : IntKind.i64.wrap (2 ^ g.a.toNat) = pw g.a := pw_wrapK ha0 ha3
 have sb : wrap64 (2 ^ g.b.toNat) = pw g.b := pw_wrap hb0 hb3
 have sb2 : IntKind.i64.wrap (2 ^ g.b.toNat) = pw g.b := pw_wrapK hb0 hb3
 have EX : Hid (imgX n g q = ⟨n, pw g.a, 0, 0⟩) := by unfold Hid imgX isFst isSnd; rw [hs, hf]; simp [hk]
 have EZ : Hid (imgZ n g q = ⟨n, 0, pw g.a, 0⟩) := by unfold Hid imgZ isFst isSnd; rw [hs, hf]; simp [hk]
 have h2 : (ar g.k == 2) = true := by rw [hk]; decide
 have HKK := Lib.hid hk
 clear hk
 go_enter Tryz.func62, Tryz.ntmps62
 go_wp2_with fail
 refine (impl_Arity_any g.k _).mono ?_
 rintro e w1 ⟨rfl, rfl⟩
 have H0 : Hid (Blk (((((w.alloc (.cells #[.int .i64 g.k, .int .i64 g.a, .int .i64 g.b, .int .i64 g.c] 52)).alloc (.cells #[.int .i64 0, .int .i64 0, .int .i64 0, .int .i64 0] 66)).alloc (.cells #[.int .i64 0, .int .i64 0, .int .i64 0, .int .i64 0] 66)).alloc (.cells #[.int .i64 n, .int .i64 (pw q), .int .i64 0, .int .i64 0] 66)).alloc (.cells #[.int .i64 n, .int .i64 0, .int .i64 (pw q), .int .i64 0] 66)) (w.heap.size) 52 #[.int .i64 g.k, .int .i64 g.a, .int .i64 g.b, .int .i64 g.c]) := ((((Blk.new w _ _).alloc _).alloc _).alloc _).alloc _
 have H6 : Hid (Blk (((((w.alloc (.cells #[.int .i64 g.k, .int .i64 g.a, .int .i64 g.b, .int .i64 g.c] 52)).alloc (.cells #[.int .i64 0, .int .i64 0, .int .i64 0, .int .i64 0] 66)).alloc (.cells #[.int .i64 0, .int .i64 0, .int .i64 0, .int .i64 0] 66)).alloc (.cells #[.int .i64 n, .int .i64 (pw q), .int .i64 0, .int .i64 0] 66)).alloc (.cells #[.int .i64 n, .int .i64 0, .int .i64 (pw q), .int .i64 0] 66)) (w.heap.size + 1) 66 #[.int .i64 0, .int .i64 0, .int .i64 0, .int .i64 0]) := (((Blk.newAt (b := w.heap.size + 1) (by simp)).alloc _).alloc _).alloc _
 have H7 : Hid (Blk (((((w.alloc (.cells #[.int .i64 g.k, .int .i64 g.a, .int .i64 g.b, .int .i64 g.c] 52)).alloc (.cells #[.int .i64 0, .int .i64 0, .int .i64 0, .int .i64 0] 66)).alloc (.cells #[.int .i64 0, .int .i64 0, .int .i64 0, .int .i64 0] 66)).alloc (.cells #[.int .i64 n, .int .i64 (pw q), .int .i64 0, .int .i64 0] 66)).alloc (.cells #[.int .i64 n, .int .i64 0, .int .i64 (pw q), .int .i64 0] 66)) (w.heap.size + 1 + 1) 66 #[.int .i64 0, .int .i64 0, .int .i64 0, .int .i64 0]) := ((Blk.newAt (b := w.heap.size + 1 + 1) (by simp)).alloc _).alloc _
 have H8 : Hid (Blk (((((w.alloc (.cells #[.int .i64 g.k, .int .i64 g.a, .int .i64 g.b, .int .i64 g.c] 52)).alloc (.cells #[.int .i64 0, .int .i64 0, .int .i64 0, .int .i64 0] 66)).alloc (.cells #[.int .i64 0, .int .i64 0, .int .i64 0, .int .i64 0] 66)).alloc (.cells #[.int .i64 n, .int .i64 (pw q), .int .i64 0, .int .i64 0] 66)).alloc (.cells #[.int .i64 n, .int .i64 0, .int .i64 (pw q), .int .i64 0] 66)) (w.heap.size + 1 + 1 + 1) 66 #[.int .i64 n, .int .i64 (pw q), .int .i64 0, .int .i64 0]) := (Blk.newAt (b := w.heap.size + 1 + 1 + 1) (by simp)).alloc _
 have H9 : Hid (Blk (((((w.alloc (.cells #[.int .i64 g.k, .int .i64 g.a, .int .i64 g.b, .int .i64 g.c] 52)).alloc (.cells #[.int .i64 0, .int .i64 0, .int .i64 0, .int .i64 0] 66)).alloc (.cells #[.int .i64 0, .int .i64 0, .int .i64 0, .int .i64 0] 66)).alloc (.cells #[.int .i64 n, .int .i64 (pw q), .int .i64 0, .int .i64 0] 66)).alloc (.cells #[.int .i64 n, .int .i64 0, .int .i64 (pw q), .int .i64 0] 66)) (w.heap.size + 1 + 1 + 1 + 1) 66 #[.int .i64 n, .int .i64 0, .int .i64 (pw q), .int .i64 0]) := Blk.newAt (b := w.heap.size + 1 + 1 + 1 + 1) (by simp)
 have HX : Hid (Ext w (((((w.alloc (.cells #[.int .i64 g.k, .int .i64 g.a, .int .i64 g.b, .int .i64 g.c] 52)).alloc (.cells #[.int .i64 0, .int .i64 0, .int .i64 0, .int .i64 0] 66)).alloc (.cells #[.int .i64 0, .int .i64 0, .int .i64 0, .int .i64 0] 66)).alloc (.cells #[.int .i64 n, .int .i64 (pw q), .int .i64 0, .int .i64 0] 66)).alloc (.cells #[.int .i64 n, .int .i64 0, .int .i64 (pw q), .int .i64 0] 66))) := xx
 generalize (((((w.alloc (.cells #[.int .i64 g.k, .int .i64 g.a, .int .i64 g.b, .int .i64 g.c] 52)).alloc (.cells #[.int .i64 0, .int .i64 0, .int .i64 0, .int .i64 0] 66)).alloc (.cells #[.int .i64 0, .int .i64 0, .int .i64 0, .int .i64 0] 66)).alloc (.cells #[.int .i64 n, .int .i64 (pw q), .int .i64 0, .int .i64 0] 66)).alloc (.cells #[.int .i64 n, .int .i64 0, .int .i64 (pw q), .int .i64 0] 66)) = W at *
 obtain ⟨⟨g0, g1, g2, g3⟩, _⟩ := cells4 H0.out
 obtain ⟨⟨x0, x1, x2, x3⟩, xf0, xf1, xf2, xf3⟩ := cells4 H8.out
 obtain ⟨⟨z0, z1, z2, z3⟩, zf0, zf1, zf2, zf3⟩ := cells4 H9.out
 have hk := HKK.out
 rw [hk] at g0
 obtain ⟨⟨a0, a1, a2, a3⟩, af0, af1, af2, af3⟩ := cells4 H6.out
 obtain ⟨⟨b0, b1, b2, b3⟩, bf0, bf1, bf2, bf3⟩ := cells4 H7.out
 have HS1 : Hid (∀ u0 u1 u2 u3, ((((W.setCell ⟨w.heap.size + 1, 0, none⟩ u0).setCell ⟨w.heap.size + 1, 1, none⟩ u1).setCell ⟨w.heap.size + 1, 2, none⟩ u2).setCell ⟨w.heap.size + 1, 3, none⟩ u3).drew.cell? ⟨w.heap.size, 1, none⟩ = some (.int .i64 g.a) ∧ ((((W.setCell ⟨w.heap.size + 1, 0, none⟩ u0).setCell ⟨w.heap.size + 1, 1, none⟩ u1).setCell ⟨w.heap.size + 1, 2, none⟩ u2).setCell ⟨w.heap.size + 1, 3, none⟩ u3).drew.cell? ⟨w.heap.size, 2, none⟩ = some (.int .i64 g.b)) := fun u0 u1 u2 u3 => by have h := cells4 ((far_put4 (g := w.heap.size + 1) H0.out (by omega) u0 u1 u2 u3).ext (Ext.refl _).drew); exact ⟨h.1.2.1, h.1.2.2.1⟩
 have HS2 : Hid (∀ u0 u1 u2 u3 v0 v1 v2 v3, ((((((((W.setCell ⟨w.heap.size + 1, 0, none⟩ u0).setCell ⟨w.heap.size + 1, 1, none⟩ u1).setCell ⟨w.heap.size + 1, 2, none⟩ u2).setCell ⟨w.heap.size + 1, 3, none⟩ u3).setCell ⟨w.heap.size + 1 + 1, 0, none⟩ v0).setCell ⟨w.heap.size + 1 + 1, 1, none⟩ v1).setCell ⟨w.heap.size + 1 + 1, 2, none⟩ v2).setCell ⟨w.heap.size + 1 + 1, 3, none⟩ v3).drew.cell? ⟨w.heap.size, 1, none⟩ = some (.int .i64 g.a) ∧ ((((((((W.setCell ⟨w.heap.size + 1, 0, none⟩ u0).setCell ⟨w.heap.size + 1, 1, none⟩ u1).setCell ⟨w.heap.size + 1, 2, none⟩ u2).setCell ⟨w.heap.size + 1, 3, none⟩ u3).setCell ⟨w.heap.size + 1 + 1, 0, none⟩ v0).setCell ⟨w.heap.size + 1 + 1, 1, none⟩ v1).setCell ⟨w.heap.size + 1 + 1, 2, none⟩ v2).setCell ⟨w.heap.size + 1 + 1, 3, none⟩ v3).drew.cell? ⟨w.heap.size, 2, none⟩ = some (.int .i64 g.b)) := fun u0 u1 u2 u3 v0 v1 v2 v3 => by have h := cells4 ((far_put4 (g := w.heap.size + 1 + 1) (far_put4 (g := w.heap.size + 1) H0.out (by omega) u0 u1 u2 u3) (by omega) v0 v1 v2 v3).ext (Ext.refl _).drew); exact ⟨h.1.2.1, h.1.2.2.1⟩
 have K7 : Hid (∀ u0 u1 u2 u3, Blk ((((W.setCell ⟨w.heap.size + 1, 0, none⟩ u0).setCell ⟨w.heap.size + 1, 1, none⟩ u1).setCell ⟨w.heap.size + 1, 2, none⟩ u2).setCell ⟨w.heap.size + 1, 3, none⟩ u3) (w.heap.size + 1 + 1) 66 #[.int .i64 0, .int .i64 0, .int .i64 0, .int .i64 0]) := fun u0 u1 u2 u3 => far_put4 (g := w.heap.size + 1) H7.out (by omega) u0 u1 u2 u3
 go_wp2
 go_region_held3 (fun w' => w'.cell? ⟨w.heap.size, 1, none⟩ = some (.int .i64 g.a) ∧ w'.cell? ⟨w.heap.size, 2, none⟩ = some (.int .i64 g.b))
  (first | (go_keep; done) | (with_reducible exact HS1.out _ _ _ _) | (with_reducible exact HS2.out _ _ _ _ _ _ _ _))
  (fail)
 all_goals
  go_wp2
  exact bodyPost_ret (v := .tuple #[.agg #[.int .i64 n, .int .i64 (pw g.a), .int .i64 0, .int .i64 0], .agg #[.int .i64 n, .int .i64 0, .int .i64 (pw g.a), .int .i64 0]]) (ret_cells2 rfl _ _ _ _ _ _ _ _ _ rfl rfl ((far_put4 (g := w.heap.size + 1 + 1) (H6.out.put4 (.int .i64 n) (.int .i64 (pw g.a)) (.int .i64 0) (.int .i64 0)) (by omega) (.int .i64 n) (.int .i64 0) (.int .i64 (pw g.a)) (.int .i64 0)).ext (Ext.refl _).drew) (((K7.out (.int .i64 n) (.int .i64 (pw g.a)) (.int .i64 0) (.int .i64 0)).put4 (.int .i64 n) (.int .i64 0) (.int .i64 (pw g.a)) (.int .i64 0)).ext (Ext.refl _).drew) Tryz.underlying66 rfl Tryz.sizePauliR rfl) rfl ⟨by rw [EX.out, EZ.out], (ext_put4 (g := w.heap.size + 1 + 1) (ext_put4 (g := w.heap.size + 1) HX.out (by omega) _ _ _ _) (by omega) _ _ _ _).drew⟩
end Go.Proofs.YtioimnplhmgbgaaGreat
/-
 Helper text (no claim of its own): what a Clifford gate makes of X and Z of a qubit, by the program (whole). Printed by gen_img.py.
-/
namespace Go.Proofs.YtioimnplhmgbgaaGreat
open Go.ChangeShapes Go.WideShapes Go.ChangeAt Go.RowKit Go.Deep
set_option linter.unusedVariables false
theorem images_hs2 {g : Gt} {q : Int} (h : ar g.k = 2) (hs : (ar g.k == 2 && q == g.b) = false) : (q == g.b) = false := by
 have h3 : (ar g.k == 2) = true := by rw [h]; decide
 rw [h3, Bool.true_and] at hs; exact hs
theorem impl_images_any (g : Gt) (n q : Int) (w : World) (hq0 : 0 ≤ q) (hq3 : q ≤ 3) (ha0 : 0 ≤ g.a) (ha3 : g.a ≤ 3) (hb0 : 0 ≤ g.b) (hb3 : g.b ≤ 3) (hc : cliff g = true) (hne : ar g.k = 2 → g.a ≠ g.b) :
  Calls Tryz.prog 62 #[g.val, .int .i64 n, .int .i64 q] w fun e w' => e = .returned (.tuple #[(imgX n g q).val, (imgZ n g q).val]) ∧ Ext w w' := by
 have hk := cliff_k hc
 cases hf : (q == g.a)
 ·cases hs : (ar g.k == 2 && q == g.b)
  ·exact impl_images_none g n q w hq0 hq3 ha0 ha3 hb0 hb3 hf hs
  ·have h2 : ar g.k = 2 ∧ q = g.b := by simpa using hs
   have hs2 : (q == g.b) = true := by simpa using h2.2
   have h3 := h2.1
   have h4 : g.k = 9 ∨ g.k = 10 ∨ g.k = 11 := by unfold ar at h3; omega
   rcases h4 with h | h | h
   ·exact impl_images_9b g n q w hq0 hq3 ha0 ha3 hb0 hb3 h hf hs hs2
   ·exact impl_images_10b g n q w hq0 hq3 ha0 ha3 hb0 hb3 h hf hs hs2
   ·exact impl_images_11b g n q w hq0 hq3 ha0 ha3 hb0 hb3 h hf hs hs2
 ·have hqa : q = g.a := by simpa using hf
  have hs : (ar g.k == 2 && q == g.b) = false := by
   cases e : (ar g.k == 2 && q == g.b) with
   | false => rfl
   | true =>
    have h3 : ar g.k = 2 ∧ q = g.b := by simpa using e
    exact absurd (hqa.symm.trans h3.2) (hne h3.1)
  rcases hk with h | h | h | h | h | h | h | h | h
  ·exact impl_images_1a g n q w hq0 hq3 ha0 ha3 hb0 hb3 h hf hs
  ·exact impl_images_2a g n q w hq0 hq3 ha0 ha3 hb0 hb3 h hf hs
  ·exact impl_images_3a g n q w hq0 hq3 ha0 ha3 hb0 hb3 h hf hs
  ·exact impl_images_4a g n q w hq0 hq3 ha0 ha3 hb0 hb3 h hf hs
  ·exact impl_images_5a g n q w hq0 hq3 ha0 ha3 hb0 hb3 h hf hs
  ·exact impl_images_6a g n q w hq0 hq3 ha0 ha3 hb0 hb3 h hf hs
  ·exact impl_images_9a g n q w hq0 hq3 ha0 ha3 hb0 hb3 h hf hs (images_hs2 (by rw [h]; decide) hs)
  ·exact impl_images_10a g n q w hq0 hq3 ha0 ha3 hb0 hb3 h hf hs (images_hs2 (by rw [h]; decide) hs)
  ·exact impl_images_11a g n q w hq0 hq3 ha0 ha3 hb0 hb3 h hf hs (images_hs2 (by rw [h]; decide) hs)
end Go.Proofs.YtioimnplhmgbgaaGreat
/-
 Helper text (no claim of its own): conjugation of a Pauli by a Clifford gate, by the program. Printed by gen_cj.py.
-/
namespace Go.Proofs.YtioimnplhmgbgaaGreat
open Go.ChangeShapes Go.WideShapes Go.ChangeAt Go.RowKit Go.Deep
set_option linter.unusedVariables false
/-- The state of a round: the two images as well. -/
def CjV (w W : World) (p : Pa) (g : Gt) (q : Nat) (r : Pa) (s : Nat) (ix iz : Pa) : Prop :=
 CjW w W p g q r ∧ Blk W s 66 #[.int .i64 ix.n, .int .i64 ix.x, .int .i64 ix.z, .int .i64 ix.p] ∧ Blk W (s + 1) 66 #[.int .i64 iz.n, .int .i64 iz.x, .int .i64 iz.z, .int .i64 iz.p] ∧ q < s
theorem CjV.ext {w W W' : World} {p : Pa} {g : Gt} {q s : Nat} {r ix iz : Pa} (h : CjV w W p g q r s ix iz) (hx : Ext W W') : CjV w W' p g q r s ix iz :=
 ⟨h.1.ext hx, h.2.1.ext hx, h.2.2.1.ext hx, h.2.2.2⟩
theorem CjV.put {w W : World} {p : Pa} {g : Gt} {q s : Nat} {r ix iz : Pa} (h : CjV w W p g q r s ix iz) (m : Pa) : CjV w ((((W.setCell ⟨q, 0, none⟩ (.int .i64 m.n)).setCell ⟨q, 1, none⟩ (.int .i64 m.x)).setCell ⟨q, 2, none⟩ (.int .i64 m.z)).setCell ⟨q, 3, none⟩ (.int .i64 m.p)) p g q m s ix iz :=
 ⟨h.1.put m, far_put4 h.2.1 (by have := h.2.2.2; omega) _ _ _ _, far_put4 h.2.2.1 (by have := h.2.2.2; omega) _ _ _ _, h.2.2.2⟩
set_option maxRecDepth 100000 in
set_option maxHeartbeats 16000000 in
theorem impl_ConjugatePauli_any (p : Pa) (g : Gt) (w : World) : Calls Tryz.prog 40 #[p.val, g.val] w fun e w' => CjRes p g e ∧ Ext w w' := by
 go_enter Tryz.func40, Tryz.ntmps40
 go_wp2_with fail
 refine (impl_IsValidPauli_any p _).mono ?_
 rintro e w1 ⟨rfl, hx1⟩
 have HR1 : Hid (Blk w1 (w.heap.size + 2) 66 #[.int .i64 0, .int .i64 0, .int .i64 0, .int .i64 0]) := (Blk.newAt (b := w.heap.size + 2) (by simp)).ext hx1
 have HP1 : Hid (Blk w1 w.heap.size 66 #[.int .i64 p.n, .int .i64 p.x, .int .i64 p.z, .int .i64 p.p]) := (((Blk.new w _ _).alloc _).alloc _).ext hx1
 have HG1 : Hid (Blk w1 (w.heap.size + 1) 52 #[.int .i64 g.k, .int .i64 g.a, .int .i64 g.b, .int .i64 g.c]) := ((Blk.newAt (b := w.heap.size + 1) (by simp)).alloc _).ext hx1
 have HX1 : Hid (Ext w w1) := Ext.trans (by exact xx) hx1
 have hl1 : w.heap.size + 3 ≤ w1.heap.size := by have := hx1.size; simpa using this
 clear hx1
 cases hv : vPa p
 ·have HN : Hid (cjOk p g = false) := by unfold Hid cjOk; rw [hv]; simp
  clear hv
  obtain ⟨⟨c0, c1, c2, c3⟩, z0, z1, z2, z3⟩ := cells4 HR1.out
  go_wp2
  have HBB : Hid (Blk (put4 _ (w.heap.size + 2) (.int .i64 0) (.int .i64 0) (.int .i64 0) (.int .i64 0)) (w.heap.size + 2) 66 #[.int .i64 0, .int .i64 0, .int .i64 0, .int .i64 0]) := HR1.out.put4 _ _ _ _
  refine bodyPost_ret (v := .tuple #[P0.val, .bool false]) ?_ rfl ?_
  rotate_left
  ·exact ⟨cjRes_no HN.out rfl, ext_put4 (g := w.heap.size + 2) HX1.out (by omega) _ _ _ _⟩
  ·exact ret_pair rfl _ _ _ _ _ _ _ rfl rfl HBB.out Tryz.underlying66 rfl Tryz.sizePauliR
 have HV := Lib.hid hv
 clear hv
 obtain ⟨⟨g0, g1, g2, g3⟩, -⟩ := cells4 HG1.out
 obtain ⟨⟨p0, p1, p2, p3⟩, -⟩ := cells4 HP1.out
 go_wp2_with fail
 refine (impl_IsValidGate_any g p.n _).mono ?_
 rintro e w2 ⟨rfl, hx2⟩
 have HR2 := Lib.hid (HR1.out.ext hx2)
 have HP2 := Lib.hid (HP1.out.ext hx2)
 have HG2 := Lib.hid (HG1.out.ext hx2)
 have HX2 := Lib.hid (HX1.out.trans hx2)
 have hl2 : w.heap.size + 3 ≤ w2.heap.size := by have := hx2.size; omega
 clear hx2 HR1 HP1 HG1 HX1 g0 g1 g2 g3 p0 p1 p2 p3 hl1
 cases hv : vg g p.n
 ·have HN : Hid (cjOk p g = false) := by unfold Hid cjOk; rw [hv]; simp
  clear hv
  obtain ⟨⟨c0, c1, c2, c3⟩, z0, z1, z2, z3⟩ := cells4 HR2.out
  go_wp2
  have HBB : Hid (Blk (put4 _ (w.heap.size + 2) (.int .i64 0) (.int .i64 0) (.int .i64 0) (.int .i64 0)) (w.heap.size + 2) 66 #[.int .i64 0, .int .i64 0, .int .i64 0, .int .i64 0]) := HR2.out.put4 _ _ _ _
  refine bodyPost_ret (v := .tuple #[P0.val, .bool false]) ?_ rfl ?_
  rotate_left
  ·exact ⟨cjRes_no HN.out rfl, ext_put4 (g := w.heap.size + 2) HX2.out (by omega) _ _ _ _⟩
  ·exact ret_pair rfl _ _ _ _ _ _ _ rfl rfl HBB.out Tryz.underlying66 rfl Tryz.sizePauliR
 have HVG := Lib.hid hv
 clear hv
 obtain ⟨⟨g0, g1, g2, g3⟩, -⟩ := cells4 HG2.out
 go_wp2_with fail
 refine (impl_IsClifford_any g _).mono ?_
 rintro e w3 ⟨rfl, hx3⟩
 have HR3 := Lib.hid (HR2.out.ext hx3)
 have HP3 := Lib.hid (HP2.out.ext hx3)
 have HG3 := Lib.hid (HG2.out.ext hx3)
 have HX3 := Lib.hid (HX2.out.trans hx3)
 have hl3 : w.heap.size + 3 ≤ w3.heap.size := by have := hx3.size; omega
 clear hx3 HR2 HP2 HG2 HX2 g0 g1 g2 g3 hl2
 cases hv : cliff g
 ·have HN : Hid (cjOk p g = false) := by unfold Hid cjOk; rw [hv]; simp
  clear hv
  obtain ⟨⟨c0, c1, c2, c3⟩, z0, z1, z2, z3⟩ := cells4 HR3.out
  go_wp2
  have HBB : Hid (Blk (put4 _ (w.heap.size + 2) (.int .i64 0) (.int .i64 0) (.int .i64 0) (.int .i64 0)) (w.heap.size + 2) 66 #[.int .i64 0, .int .i64 0, .int .i64 0, .int .i64 0]) := HR3.out.put4 _ _ _ _
  refine bodyPost_ret (v := .tuple #[P0.val, .bool false]) ?_ rfl ?_
  rotate_left
  ·exact ⟨cjRes_no HN.out rfl, ext_put4 (g := w.heap.size + 2) HX3.out (by omega) _ _ _ _⟩
  ·exact ret_pair rfl _ _ _ _ _ _ _ rfl rfl HBB.out Tryz.underlying66 rfl Tryz.sizePauliR
 have HC := Lib.hid hv
 have HOK : Hid (cjOk p g = true) := by unfold Hid cjOk; rw [HV.out, HVG.out, HC.out]; rfl
 clear hv
 have hnb := vPa_iff.1 HV.out
 obtain ⟨hn1, hn4⟩ := hnb.1
 clear hnb
 obtain ⟨⟨p0, p1, p2, p3⟩, -⟩ := cells4 HP3.out
 obtain ⟨q, hq⟩ : ∃ q, q = w3.heap.size := ⟨_, rfl⟩
 go_upto_region 4 with (fail)
 rw [← hq]
 have HW : Hid (CjW w (w3.alloc (.cells #[.int .i64 p.n, .int .i64 0, .int .i64 0, .int .i64 p.p] 66)) p g q ⟨p.n, 0, 0, p.p⟩) :=
  ⟨HP3.out.alloc _, HG3.out.alloc _, HR3.out.alloc _, Blk.newAt hq, HX3.out.alloc _, by rw [hq]; exact hl3⟩
 clear HP3 HG3 HR3 HX3 hl3 p0 p1 p2 p3
 generalize w3.alloc (.cells #[.int .i64 p.n, .int .i64 0, .int .i64 0, .int .i64 p.p] 66) = W0 at *
 clear hq
 go_wp2
 go_loopw [7] (fun iv wr => ∃ k : Nat, iv = .int .i64 k ∧ (k : Int) ≤ p.n ∧ Hid (CjW w wr p g q (cjN p g k))) (fun i _ => 4 - (intOf i).toNat)
 case atStart => exact ⟨0, rfl, by omega, HW⟩
 case round =>
  obtain ⟨k, rfl, hk, HO⟩ := hrel
  clear HW
  have hp0 : wr.cell? ⟨w.heap.size, 0, none⟩ = some (.int .i64 p.n) := HO.out.1.cell 0
  by_cases hlt : (k : Int) < p.n
  ·have hk0 : (0 : Int) ≤ (k : Int) := by omega
   have hk3 : (k : Int) ≤ 3 := by omega
   have HN := Lib.hid (cjN_step p g k)
   have HB := Lib.hid (vg_ab HVG.out)
   obtain ⟨r, hr⟩ : ∃ r, cjN p g k = r := ⟨_, rfl⟩
   rw [hr] at HO HN
   clear hr
   have hku : IntKind.u64.wrap (k : Int) = (k : Int) := IntWalk.u64_in _ (by omega)
   have hk1 : IntKind.i64.wrap ((k : Int) + 1) = ((k + 1 : Nat) : Int) := by rw [IntWalk.i64_in _ (by omega)]; rfl
   obtain ⟨ix, hix⟩ : ∃ i, imgX p.n g k = i := ⟨_, rfl⟩
   obtain ⟨iz, hiz⟩ : ∃ i, imgZ p.n g k = i := ⟨_, rfl⟩
   have HI : Hid (∀ w', Calls Tryz.prog 62 #[.agg #[.int .i64 g.k, .int .i64 g.a, .int .i64 g.b, .int .i64 g.c], .int .i64 p.n, .int .i64 (k : Int)] w' fun e w'' => e = .returned (.tuple #[.agg #[.int .i64 ix.n, .int .i64 ix.x, .int .i64 ix.z, .int .i64 ix.p], .agg #[.int .i64 iz.n, .int .i64 iz.x, .int .i64 iz.z, .int .i64 iz.p]]) ∧ Ext w' w'') := fun w' => by rw [← hix, ← hiz]; exact impl_images_any g p.n k w' hk0 hk3 HB.out.1.1 HB.out.1.2 HB.out.2.1.1 HB.out.2.1.2 HC.out HB.out.2.2
   have HIx := Lib.hid hix
   have HIz := Lib.hid hiz
   clear hix hiz
   obtain ⟨⟨g0, g1, g2, g3⟩, -⟩ := cells4 HO.out.2.1
   go_wp2_with fail
   refine (HI.out _).mono ?_
   rintro e w5 ⟨rfl, hx5⟩
   have D1 := Lib.hid (HO.out.ext hx5)
   clear hx5 g0 g1 g2 g3 hp0 HO
   obtain ⟨s, hs⟩ : ∃ s, s = w5.heap.size := ⟨_, rfl⟩
   have hqs : q < s := by rw [hs]; exact D1.out.2.2.2.1.lt
   go_upto_region 8 with (fail)
   rw [← hs]
   have HV0 : Hid (CjV w ((w5.alloc (.cells #[.int .i64 ix.n, .int .i64 ix.x, .int .i64 ix.z, .int .i64 ix.p] 66)).alloc (.cells #[.int .i64 iz.n, .int .i64 iz.x, .int .i64 iz.z, .int .i64 iz.p] 66)) p g q r s ix iz) :=
    ⟨D1.out.ext (((Ext.refl _).alloc _).alloc _), (Blk.newAt hs).alloc _, Blk.newAt (by simp [hs]), hqs⟩
   generalize ((w5.alloc (.cells #[.int .i64 ix.n, .int .i64 ix.x, .int .i64 ix.z, .int .i64 ix.p] 66)).alloc (.cells #[.int .i64 iz.n, .int .i64 iz.x, .int .i64 iz.z, .int .i64 iz.p] 66)) = W5 at *
   clear hs D1
   cases hbx : bitI p.x k
   ·have hwx : (bits .and .i64 (p.x / 2 ^ k) 1 == 1) = false := hbx
    have HEx : Hid (cjX p g k r = r) := cjX_no hbx
    clear hbx
    obtain ⟨⟨p0, p1, p2, p3⟩, -⟩ := cells4 HV0.out.1.1
    go_upto_region 10 with (fail)
    clear p0 p1 p2 p3 hwx
    cases hbz : bitI p.z k
    ·have hwz : (bits .and .i64 (p.z / 2 ^ k) 1 == 1) = false := hbz
     have HEz : Hid (cjZ p g k r = r) := cjZ_no hbz
     clear hbz
     obtain ⟨⟨p0, p1, p2, p3⟩, -⟩ := cells4 HV0.out.1.1
     go_wp2
     go_roundw
     case rel => exact ⟨k + 1, by first | rfl | rw [hk1], by omega, by rw [HN.out, HEx.out, HEz.out]; exact Lib.hid HV0.out.1⟩
     case measure => simp [intOf]; omega
    ·have hwz : (bits .and .i64 (p.z / 2 ^ k) 1 == 1) = true := hbz
     obtain ⟨⟨p0, p1, p2, p3⟩, -⟩ := cells4 HV0.out.1.1
     go_upto_region 11 with (fail)
     clear p0 p1 p2 p3 hwz
     obtain ⟨mz, hmz⟩ : ∃ m, mulR r iz = m := ⟨_, rfl⟩
     have HMz : Hid (∀ w', Calls Tryz.prog 63 #[.agg #[.int .i64 r.n, .int .i64 r.x, .int .i64 r.z, .int .i64 r.p], .agg #[.int .i64 iz.n, .int .i64 iz.x, .int .i64 iz.z, .int .i64 iz.p]] w' fun e w'' => (∃ b, e = .returned (.tuple #[.agg #[.int .i64 mz.n, .int .i64 mz.x, .int .i64 mz.z, .int .i64 mz.p], .bool b])) ∧ Ext w' w'') := fun w' => by
      refine (impl_MulPauli_any r iz w').mono ?_
      rintro e w'' ⟨he, hx⟩
      exact ⟨⟨vPa r && vPa iz && r.n == iz.n, by rw [← hmz]; exact he⟩, hx⟩
     have HEz : Hid (cjZ p g k r = mz) := by unfold Hid; rw [cjZ_yes hbz, ← hmz, HIz.out]
     clear hmz hbz
     obtain ⟨⟨q0, q1, q2, q3⟩, -⟩ := cells4 HV0.out.1.2.2.2.1
     obtain ⟨⟨y0, y1, y2, y3⟩, -⟩ := cells4 HV0.out.2.2.1
     go_wp2_with fail
     refine (HMz.out _).mono ?_
     rintro e uz ⟨⟨bm, rfl⟩, hy⟩
     have Dz := Lib.hid (HV0.out.ext hy)
     clear hy q0 q1 q2 q3 y0 y1 y2 y3
     obtain ⟨⟨q0, q1, q2, q3⟩, f0, f1, f2, f3⟩ := cells4 Dz.out.1.2.2.2.1
     go_wp2
     have E0 := Lib.hid (Dz.out.put mz)
     clear q0 q1 q2 q3 f0 f1 f2 f3
     go_roundw
     case rel => exact ⟨k + 1, by first | rfl | rw [hk1], by omega, by rw [HN.out, HEx.out, HEz.out]; exact Lib.hid E0.out.1⟩
     case measure => simp [intOf]; omega
   ·have hwx : (bits .and .i64 (p.x / 2 ^ k) 1 == 1) = true := hbx
    obtain ⟨⟨p0, p1, p2, p3⟩, -⟩ := cells4 HV0.out.1.1
    go_upto_region 9 with (fail)
    clear p0 p1 p2 p3 hwx
    obtain ⟨mx, hmx⟩ : ∃ m, mulR r ix = m := ⟨_, rfl⟩
    have HMx : Hid (∀ w', Calls Tryz.prog 63 #[.agg #[.int .i64 r.n, .int .i64 r.x, .int .i64 r.z, .int .i64 r.p], .agg #[.int .i64 ix.n, .int .i64 ix.x, .int .i64 ix.z, .int .i64 ix.p]] w' fun e w'' => (∃ b, e = .returned (.tuple #[.agg #[.int .i64 mx.n, .int .i64 mx.x, .int .i64 mx.z, .int .i64 mx.p], .bool b])) ∧ Ext w' w'') := fun w' => by
     refine (impl_MulPauli_any r ix w').mono ?_
     rintro e w'' ⟨he, hx⟩
     exact ⟨⟨vPa r && vPa ix && r.n == ix.n, by rw [← hmx]; exact he⟩, hx⟩
    have HEx : Hid (cjX p g k r = mx) := by unfold Hid; rw [cjX_yes hbx, ← hmx, HIx.out]
    clear hmx hbx
    obtain ⟨⟨q0, q1, q2, q3⟩, -⟩ := cells4 HV0.out.1.2.2.2.1
    obtain ⟨⟨y0, y1, y2, y3⟩, -⟩ := cells4 HV0.out.2.1
    go_wp2_with fail
    refine (HMx.out _).mono ?_
    rintro e ux ⟨⟨bm, rfl⟩, hy⟩
    have Dx := Lib.hid (HV0.out.ext hy)
    clear hy q0 q1 q2 q3 y0 y1 y2 y3
    obtain ⟨⟨q0, q1, q2, q3⟩, f0, f1, f2, f3⟩ := cells4 Dx.out.1.2.2.2.1
    go_upto_region 10 with (fail)
    have EX := Lib.hid (Dx.out.put mx)
    clear q0 q1 q2 q3 f0 f1 f2 f3
    generalize ((((ux.setCell ⟨q, 0, none⟩ (.int .i64 mx.n)).setCell ⟨q, 1, none⟩ (.int .i64 mx.x)).setCell ⟨q, 2, none⟩ (.int .i64 mx.z)).setCell ⟨q, 3, none⟩ (.int .i64 mx.p)) = Wx at *
    cases hbz : bitI p.z k
    ·have hwz : (bits .and .i64 (p.z / 2 ^ k) 1 == 1) = false := hbz
     have HEz : Hid (cjZ p g k mx = mx) := cjZ_no hbz
     clear hbz
     obtain ⟨⟨p0, p1, p2, p3⟩, -⟩ := cells4 EX.out.1.1
     go_wp2
     go_roundw
     case rel => exact ⟨k + 1, by first | rfl | rw [hk1], by omega, by rw [HN.out, HEx.out, HEz.out]; exact Lib.hid EX.out.1⟩
     case measure => simp [intOf]; omega
    ·have hwz : (bits .and .i64 (p.z / 2 ^ k) 1 == 1) = true := hbz
     obtain ⟨⟨p0, p1, p2, p3⟩, -⟩ := cells4 EX.out.1.1
     go_upto_region 11 with (fail)
     clear p0 p1 p2 p3 hwz
     obtain ⟨mz, hmz⟩ : ∃ m, mulR mx iz = m := ⟨_, rfl⟩
     have HMz : Hid (∀ w', Calls Tryz.prog 63 #[.agg #[.int .i64 mx.n, .int .i64 mx.x, .int .i64 mx.z, .int .i64 mx.p], .agg #[.int .i64 iz.n, .int .i64 iz.x, .int .i64 iz.z, .int .i64 iz.p]] w' fun e w'' => (∃ b, e = .returned (.tuple #[.agg #[.int .i64 mz.n, .int .i64 mz.x, .int .i64 mz.z, .int .i64 mz.p], .bool b])) ∧ Ext w' w'') := fun w' => by
      refine (impl_MulPauli_any mx iz w').mono ?_
      rintro e w'' ⟨he, hx⟩
      exact ⟨⟨vPa mx && vPa iz && mx.n == iz.n, by rw [← hmz]; exact he⟩, hx⟩
     have HEz : Hid (cjZ p g k mx = mz) := by unfold Hid; rw [cjZ_yes hbz, ← hmz, HIz.out]
     clear hmz hbz
     obtain ⟨⟨q0, q1, q2, q3⟩, -⟩ := cells4 EX.out.1.2.2.2.1
     obtain ⟨⟨y0, y1, y2, y3⟩, -⟩ := cells4 EX.out.2.2.1
     go_wp2_with fail
     refine (HMz.out _).mono ?_
     rintro e uz ⟨⟨bm, rfl⟩, hy⟩
     have Dz := Lib.hid (EX.out.ext hy)
     clear hy q0 q1 q2 q3 y0 y1 y2 y3
     obtain ⟨⟨q0, q1, q2, q3⟩, f0, f1, f2, f3⟩ := cells4 Dz.out.1.2.2.2.1
     go_wp2
     have E1 := Lib.hid (Dz.out.put mz)
     clear q0 q1 q2 q3 f0 f1 f2 f3
     go_roundw
     case rel => exact ⟨k + 1, by first | rfl | rw [hk1], by omega, by rw [HN.out, HEx.out, HEz.out]; exact Lib.hid E1.out.1⟩
     case measure => simp [intOf]; omega
  ·have HR : Hid (cjN p g p.n.toNat = cjN p g k) := by unfold Hid; rw [show p.n.toNat = k by omega]
   obtain ⟨r, hr⟩ : ∃ r, cjN p g k = r := ⟨_, rfl⟩
   rw [hr] at HO HR
   clear hr
   obtain ⟨⟨c0, c1, c2, c3⟩, z0, z1, z2, z3⟩ := cells4 HO.out.2.2.1
   obtain ⟨⟨r0, r1, r2, r3⟩, -⟩ := cells4 HO.out.2.2.2.1
   go_wp2
   have HBB : Hid (Blk (put4 wr (w.heap.size + 2) (.int .i64 r.n) (.int .i64 r.x) (.int .i64 r.z) (.int .i64 r.p)) (w.heap.size + 2) 66 #[.int .i64 r.n, .int .i64 r.x, .int .i64 r.z, .int .i64 r.p]) := HO.out.2.2.1.put4 _ _ _ _
   refine bodyPost_ret (v := .tuple #[r.val, .bool true]) ?_ rfl ?_
   rotate_left
   ·exact ⟨cjRes_yes HOK.out HR.out rfl, ext_put4 (g := w.heap.size + 2) HO.out.2.2.2.2.1 (by omega) _ _ _ _⟩
   ·exact ret_pair rfl _ _ _ _ _ _ _ rfl rfl HBB.out Tryz.underlying66 rfl Tryz.sizePauliR
end Go.Proofs.YtioimnplhmgbgaaGreat
/-
 Helper text (no claim of its own): a gate on a tableau, by the program. Printed by gen_tc.py.
-/
namespace Go.Proofs.YtioimnplhmgbgaaGreat
open Go.ChangeShapes Go.WideShapes Go.ChangeAt Go.RowKit Go.Deep
set_option linter.unusedVariables false
set_option linter.unusedSimpArgs false
set_option maxRecDepth 100000 in
set_option maxHeartbeats 8000000 in
theorem impl_TableauApplyGate_any (A : Option Addr) (c : Nat) (n : Int) (rs : List Pa) (g : Gt) (w : World) (h : Rd w w.heap.size 4 A rs.length (pcells rs)) (hl : rs.length ≤ 100000000) (hcap : rs.length ≤ c) :
  Calls Tryz.prog 20 #[.agg #[.int .i64 n, .slice A rs.length c], g.val] w fun e w' => TabRes n (tabG n rs g) e w' ∧ Ext w w' := by
 go_enter Tryz.func20, Tryz.ntmps20
 go_wp2_with fail
 refine (impl_IsValidTableau_any A c n rs _ (h.ext (by exact xx)) hl hcap).mono ?_
 rintro e w1 ⟨rfl, hx1⟩
 obtain ⟨l, hgl⟩ : ∃ l, rs.length = l := ⟨_, rfl⟩
 rw [hgl] at h hl hcap hx1 ⊢
 have HL := Lib.hid hgl
 clear hgl
 have HA1 : Hid (∀ q, w.heap.size + 3 ≤ q → AG w w1 A l c n g q) := fun q hq => ⟨(((Blk.new w _ _).alloc _).alloc _).ext hx1, ((Blk.newAt (b := w.heap.size + 1) (by simp)).alloc _).ext hx1, (Blk.newAt (b := w.heap.size + 2) (by simp)).ext hx1, hq⟩
 have HX1 : Hid (Ext w w1) := Ext.trans (by exact xx) hx1
 have hl1 : w.heap.size + 3 ≤ w1.heap.size := by have := hx1.size; simpa using this
 clear hx1
 cases hv : vTab n rs
 ·have HNO : Hid (tabG n rs g = none) := tabG_no hv
  clear hv
  have HR := HA1.out _ (Nat.le_refl _)
  have HR' := HR.2.2.1
  clear HR
  obtain ⟨⟨c0, c1⟩, z0, z1⟩ := blkT2 HR'
  go_wp2
  have HBB : Hid (Blk (put2 _ (w.heap.size + 2) (.int .i64 0) (.slice none 0 0)) (w.heap.size + 2) 31 #[.int .i64 0, .slice none 0 0]) := HR'.put2 _ _
  refine bodyPost_ret (v := .tuple #[.agg #[.int .i64 0, .slice none 0 0], .bool false]) ?_ rfl ?_
  rotate_left
  ·exact ⟨tabRes_none HNO.out rfl, ext_put2 (g := w.heap.size + 2) (HX1.out) (by omega) _ _⟩
  ·exact ret_pair rfl _ _ _ _ _ _ _ rfl rfl HBB.out Tryz.underlying31 rfl Tryz.sizeTableauR
 have HV := Lib.hid hv
 have HVL := Lib.hid (vTab_len hv)
 clear hv
 obtain ⟨b, o, rfl, -, -⟩ := h.2 (by have := HVL.out; have := HL.out; omega)
 have HROW : Hid (∀ i, i < l → ∃ x, rs[i]? = some x) := fun i hi => ⟨_, List.getElem?_eq_getElem (by rw [HL.out]; exact hi)⟩
 have hl8 : l ≤ 8 := by have := HVL.out; have := HL.out; omega
 clear hl hcap
 obtain ⟨⟨t0, t1⟩, -⟩ := blkT2 (HA1.out _ (Nat.le_refl _)).1
 go_upto_region 4 with (fail)
 obtain ⟨q, hq⟩ : ∃ q, q = w1.heap.size := ⟨_, rfl⟩
 rw [← hq]
 have HAG : Hid (AG w (w1.alloc (.cells #[.int .i64 n, .slice none 0 0] 31)) (some ⟨b, o, none⟩) l c n g q) := (HA1.out q (by omega)).ext ((Ext.refl _).alloc _)
 have HD : Hid (DT w (w1.alloc (.cells #[.int .i64 n, .slice none 0 0] 31)) q n none 0 0 []) := ⟨Blk.newAt hq, ⟨rfl, Or.inl ⟨rfl, rfl⟩⟩, HX1.out.alloc _, by omega⟩
 clear t0 t1
 generalize w1.alloc (.cells #[.int .i64 n, .slice none 0 0] 31) = w2 at *
 clear hq hl1 HA1 HX1
 obtain ⟨⟨t0, t1⟩, -⟩ := blkT2 HAG.out.1
 go_wp2
 clear t0 t1
 go_loopw [21] (fun iv wr => ∃ (k : Nat) (A' : Option Addr) (cap : Nat), iv = .int .i64 k ∧ k ≤ l ∧ Hid (DT w wr q n A' k cap ((rs.take k).map fun p => cj p g)) ∧ Hid (AG w wr (some ⟨b, o, none⟩) l c n g q) ∧ Hid ((rs.take k).all (fun p => cjOk p g) = true)) (fun i _ => l - (intOf i).toNat)
 case atStart => exact ⟨0, none, 0, rfl, Nat.zero_le _, by simpa using HD, HAG, by simp [Hid]⟩
 case round =>
  obtain ⟨k, A', cap, rfl, hk, HD0, HA0, HQ⟩ := hrel
  clear HD HAG
  by_cases hlt : k < l
  ·have HLT := Lib.hid hlt
   obtain ⟨p, hp⟩ := HROW.out k hlt
   have HP := Lib.hid hp
   clear hp
   obtain ⟨y, hy⟩ : ∃ y, cj p g = y := ⟨_, rfl⟩
   have HY : Hid ((rs.take (k + 1)).map (fun p => cj p g) = ((rs.take k).map fun p => cj p g) ++ [y]) := by unfold Hid; rw [map_snoc _ HP.out, hy]
   have hk1 : IntKind.i64.wrap ((k : Int) + 1) = ((k + 1 : Nat) : Int) := by rw [IntWalk.i64_in _ (by omega)]; rfl
   have hk2 : wrap64 ((k : Int) + 1) = ((k + 1 : Nat) : Int) := by unfold wrap64; omega
   obtain ⟨x0, x1, x2, x3⟩ := row_at (h.up HD0.out.x (Nat.le_refl _)) HLT.out HP.out
   cases hok : cjOk p g
   ·have HC : Hid (∀ w', Calls Tryz.prog 40 #[.agg #[.int .i64 p.n, .int .i64 p.x, .int .i64 p.z, .int .i64 p.p], .agg #[.int .i64 g.k, .int .i64 g.a, .int .i64 g.b, .int .i64 g.c]] w' fun e w'' => e = .returned (.tuple #[.agg #[.int .i64 y.n, .int .i64 y.x, .int .i64 y.z, .int .i64 y.p], .bool false]) ∧ Ext w' w'') := fun w' => by
     refine (impl_ConjugatePauli_any p g w').mono ?_
     rintro e w'' ⟨he, hx⟩
     exact ⟨by rw [← hy, ← hok]; exact he, hx⟩
    have HNO : Hid (tabG n rs g = none) := tabG_bad HP.out hok
    clear hok hy
    go_upto_region 7 with (fail)
    have HX5 : Hid (Ext wr (wr.alloc (.cells #[.int .i64 p.n, .int .i64 p.x, .int .i64 p.z, .int .i64 p.p] 66))) := (Ext.refl _).alloc _
    have HB5 : Hid (Blk (wr.alloc (.cells #[.int .i64 p.n, .int .i64 p.x, .int .i64 p.z, .int .i64 p.p] 66)) wr.heap.size 66 #[.int .i64 p.n, .int .i64 p.x, .int .i64 p.z, .int .i64 p.p]) := Blk.new _ _ _
    have HA5 := Lib.hid (HA0.out.ext HX5.out)
    have HD5 := Lib.hid (HD0.out.ext HX5.out)
    clear HX5 HA0 HD0 x0 x1 x2 x3
    generalize wr.alloc (.cells #[.int .i64 p.n, .int .i64 p.x, .int .i64 p.z, .int .i64 p.p] 66) = w5 at *
    generalize wr.heap.size = s5 at *
    obtain ⟨⟨x0, x1, x2, x3⟩, -⟩ := cells4 HB5.out
    obtain ⟨⟨g0, g1, g2, g3⟩, -⟩ := cells4 HA5.out.2.1
    go_wp2_with fail
    refine (HC.out _).mono ?_
    rintro e w6 ⟨rfl, hy6⟩
    clear x0 x1 x2 x3 g0 g1 g2 g3 HB5
    go_upto_region 8 with (fail)
    have HX7 : Hid (Ext w5 (w6.alloc (.cells #[.int .i64 y.n, .int .i64 y.x, .int .i64 y.z, .int .i64 y.p] 66))) := hy6.alloc _
    have HB7 : Hid (Blk (w6.alloc (.cells #[.int .i64 y.n, .int .i64 y.x, .int .i64 y.z, .int .i64 y.p] 66)) w6.heap.size 66 #[.int .i64 y.n, .int .i64 y.x, .int .i64 y.z, .int .i64 y.p]) := Blk.new _ _ _
    clear hy6
    generalize w6.alloc (.cells #[.int .i64 y.n, .int .i64 y.x, .int .i64 y.z, .int .i64 y.p] 66) = w7 at *
    generalize w6.heap.size = s at *
    have HD7 := Lib.hid (HD5.out.ext HX7.out)
    have HA7 := Lib.hid (HA5.out.ext HX7.out)
    clear HX7 HD5 HA5 HC
    obtain ⟨⟨c0, c1⟩, z0, z1⟩ := blkT2 HA7.out.2.2.1
    go_wp2
    have HBB : Hid (Blk (put2 _ (w.heap.size + 2) (.int .i64 0) (.slice none 0 0)) (w.heap.size + 2) 31 #[.int .i64 0, .slice none 0 0]) := (HA7.out.2.2.1).put2 _ _
    refine bodyPost_ret (v := .tuple #[.agg #[.int .i64 0, .slice none 0 0], .bool false]) ?_ rfl ?_
    rotate_left
    ·exact ⟨tabRes_none HNO.out rfl, ext_put2 (g := w.heap.size + 2) (HD7.out.x) (by omega) _ _⟩
    ·exact ret_pair rfl _ _ _ _ _ _ _ rfl rfl HBB.out Tryz.underlying31 rfl Tryz.sizeTableauR
   ·have HC : Hid (∀ w', Calls Tryz.prog 40 #[.agg #[.int .i64 p.n, .int .i64 p.x, .int .i64 p.z, .int .i64 p.p], .agg #[.int .i64 g.k, .int .i64 g.a, .int .i64 g.b, .int .i64 g.c]] w' fun e w'' => e = .returned (.tuple #[.agg #[.int .i64 y.n, .int .i64 y.x, .int .i64 y.z, .int .i64 y.p], .bool true]) ∧ Ext w' w'') := fun w' => by
     refine (impl_ConjugatePauli_any p g w').mono ?_
     rintro e w'' ⟨he, hx⟩
     exact ⟨by rw [← hy, ← hok]; exact he, hx⟩
    have HQ2 : Hid ((rs.take (k + 1)).all (fun p => cjOk p g) = true) := allT_snoc (fun p => cjOk p g) HP.out HQ.out hok
    clear hok hy
    go_upto_region 7 with (fail)
    have HX5 : Hid (Ext wr (wr.alloc (.cells #[.int .i64 p.n, .int .i64 p.x, .int .i64 p.z, .int .i64 p.p] 66))) := (Ext.refl _).alloc _
    have HB5 : Hid (Blk (wr.alloc (.cells #[.int .i64 p.n, .int .i64 p.x, .int .i64 p.z, .int .i64 p.p] 66)) wr.heap.size 66 #[.int .i64 p.n, .int .i64 p.x, .int .i64 p.z, .int .i64 p.p]) := Blk.new _ _ _
    have HA5 := Lib.hid (HA0.out.ext HX5.out)
    have HD5 := Lib.hid (HD0.out.ext HX5.out)
    clear HX5 HA0 HD0 x0 x1 x2 x3
    generalize wr.alloc (.cells #[.int .i64 p.n, .int .i64 p.x, .int .i64 p.z, .int .i64 p.p] 66) = w5 at *
    generalize wr.heap.size = s5 at *
    obtain ⟨⟨x0, x1, x2, x3⟩, -⟩ := cells4 HB5.out
    obtain ⟨⟨g0, g1, g2, g3⟩, -⟩ := cells4 HA5.out.2.1
    go_wp2_with fail
    refine (HC.out _).mono ?_
    rintro e w6 ⟨rfl, hy6⟩
    clear x0 x1 x2 x3 g0 g1 g2 g3 HB5
    go_upto_region 8 with (fail)
    have HX7 : Hid (Ext w5 (w6.alloc (.cells #[.int .i64 y.n, .int .i64 y.x, .int .i64 y.z, .int .i64 y.p] 66))) := hy6.alloc _
    have HB7 : Hid (Blk (w6.alloc (.cells #[.int .i64 y.n, .int .i64 y.x, .int .i64 y.z, .int .i64 y.p] 66)) w6.heap.size 66 #[.int .i64 y.n, .int .i64 y.x, .int .i64 y.z, .int .i64 y.p]) := Blk.new _ _ _
    clear hy6
    generalize w6.alloc (.cells #[.int .i64 y.n, .int .i64 y.x, .int .i64 y.z, .int .i64 y.p] 66) = w7 at *
    generalize w6.heap.size = s at *
    have HD7 := Lib.hid (HD5.out.ext HX7.out)
    have HA7 := Lib.hid (HA5.out.ext HX7.out)
    clear HX7 HD5 HA5 HC
    obtain ⟨⟨c0, c1⟩, -⟩ := blkT2 HD7.out.b
    obtain ⟨⟨y0, y1, y2, y3⟩, -⟩ := cells4 HB7.out
    go_wp2_with (at_builtin; refine DT.app (HD7.out.ext ((Ext.refl _).alloc (.cells #[.int .i64 y.n, .int .i64 y.x, .int .i64 y.z, .int .i64 y.p] 66))) rfl _ _ rfl rfl y _ rfl (rd_new _ _ _ 4 _ (by simp [Pa.cells]) (by simp [Pa.cells])) (by omega) ?_; intro A7 c7 w8 ⟨hb7, hD7, hbk⟩; have k6 : w8.cell? ⟨q, 1, none⟩ = some (.slice A' k cap) := hb7.cell 1; have f6 : w8.frozen? ⟨q, 1, none⟩ = false := hb7.frozen 1)
    have HD8 := Lib.hid hD7
    have HA8 := Lib.hid ((HA7.out.ext ((Ext.refl _).alloc (.cells #[.int .i64 y.n, .int .i64 y.x, .int .i64 y.z, .int .i64 y.p] 66))).left hbk)
    clear hb7 hD7 hbk
    go_roundw
    case rel => exact ⟨k + 1, A7, c7, by first | rfl | rw [hk1] | rw [hk2], by have := HLT.out; omega, by rw [HY.out]; exact HD8, HA8, HQ2⟩
    case measure => simp [intOf, hk2]; have := HLT.out; omega
  ·have hkl : k = l := by omega
   have HYES : Hid (tabG n rs g = some ((rs.take k).map fun p => cj p g)) := tabG_good HV.out (by rw [HL.out, hkl]) HQ.out
   clear hkl
   obtain ⟨⟨c0, c1⟩, -⟩ := blkT2 HD0.out.b
   obtain ⟨⟨d0, d1⟩, f0, f1⟩ := blkT2 HA0.out.2.2.1
   obtain ⟨⟨t0, t1⟩, -⟩ := blkT2 HA0.out.1
   go_wp2
   have HBB : Hid (Blk (put2 wr (w.heap.size + 2) (.int .i64 n) (.slice A' k cap)) (w.heap.size + 2) 31 #[.int .i64 n, .slice A' k cap]) := HA0.out.2.2.1.put2 _ _
   refine bodyPost_ret (v := .tuple #[.agg #[.int .i64 n, .slice A' k cap], .bool true]) ?_ rfl ?_
   rotate_left
   ·exact ⟨tabRes_some HYES.out rfl (TabOut.put (rs := []) (n := 0) HD0.out (by have := HA0.out.2.2.2; omega) _ _), ext_put2 (g := w.heap.size + 2) HD0.out.x (by omega) _ _⟩
   ·exact ret_pair rfl _ _ _ _ _ _ _ rfl rfl HBB.out Tryz.underlying31 rfl Tryz.sizeTableauR
end Go.Proofs.YtioimnplhmgbgaaGreat
/-
 Helper text (no claim of its own): the tableau of a circuit, by the program. Printed by gen_tc.py.
-/
namespace Go.Proofs.YtioimnplhmgbgaaGreat
open Go.ChangeShapes Go.WideShapes Go.ChangeAt Go.RowKit Go.Deep
set_option linter.unusedVariables false
set_option linter.unusedSimpArgs false
set_option maxRecDepth 100000 in
set_option maxHeartbeats 8000000 in
theorem impl_CircuitTableau_any (A : Option Addr) (c : Nat) (n : Int) (gs : List Gt) (w : World) (h : Rd w w.heap.size 4 A gs.length (gcells gs)) (hl : gs.length ≤ 100000000) :
  Calls Tryz.prog 6 #[.agg #[.int .i64 n, .slice A gs.length c]] w fun e w' => TabRes n (tabF n gs) e w' ∧ Ext w w' := by
 go_enter Tryz.func6, Tryz.ntmps6
 go_wp2_with fail
 refine (impl_IsValidCircuit_any A c n gs _ (h.ext (by exact xx)) hl).mono ?_
 rintro e w1 ⟨rfl, hx1⟩
 obtain ⟨l, hgl⟩ : ∃ l, gs.length = l := ⟨_, rfl⟩
 rw [hgl] at h hl hx1 ⊢
 have HL := Lib.hid hgl
 clear hgl
 have HC1 : Hid (∀ q, w.heap.size + 2 ≤ q → CG w w1 A l c n q) := fun q hq => ⟨((Blk.new w _ _).alloc _).ext hx1, (Blk.newAt (b := w.heap.size + 1) (by simp)).ext hx1, hq, Ext.trans (by exact xx) hx1⟩
 have hl1 : w.heap.size + 2 ≤ w1.heap.size := by have := hx1.size; simpa using this
 clear hx1
 cases hv : vCi n gs
 ·have HNO : Hid (tabF n gs = none) := tabF_no hv
  clear hv
  have HR := (HC1.out _ (Nat.le_refl _)).2.1
  have HE := Lib.hid (HC1.out _ (Nat.le_refl _)).2.2.2
  obtain ⟨⟨c0, c1⟩, z0, z1⟩ := blkT2 HR
  go_wp2
  have HBB : Hid (Blk (put2 _ (w.heap.size + 1) (.int .i64 0) (.slice none 0 0)) (w.heap.size + 1) 31 #[.int .i64 0, .slice none 0 0]) := (HR).put2 _ _
  refine bodyPost_ret (v := .tuple #[.agg #[.int .i64 0, .slice none 0 0], .bool false]) ?_ rfl ?_
  rotate_left
  ·exact ⟨tabRes_none HNO.out rfl, ext_put2 (g := w.heap.size + 1) (HE.out) (by omega) _ _⟩
  ·exact ret_pair rfl _ _ _ _ _ _ _ rfl rfl HBB.out Tryz.underlying31 rfl Tryz.sizeTableauR
 have HV := Lib.hid hv
 have HN := Lib.hid (vCi_bd hv)
 clear hv
 have HROW : Hid (∀ i, i < l → ∃ x, gs[i]? = some x) := fun i hi => ⟨_, List.getElem?_eq_getElem (by rw [HL.out]; exact hi)⟩
 obtain ⟨⟨b0, b1⟩, -⟩ := blkT2 (HC1.out _ (Nat.le_refl _)).1
 go_wp2_with fail
 refine (impl_IdentityTableau_any n _ HN.out.1 HN.out.2).mono ?_
 rintro e w2 ⟨⟨v, rfl, A0, c0, rfl, hr0, hc0⟩, hx2⟩
 obtain ⟨rs0, hrs0⟩ : ∃ rs0, idT n.toNat = rs0 := ⟨_, rfl⟩
 have hT0 : tabN n (gs.take 0) = some rs0 := by rw [← hrs0]; exact tabN_zero n gs
 have hm8 : rs0.length ≤ 8 := by rw [← hrs0, idT_len]; have := HN.out; omega
 rw [hrs0] at hr0 hc0 ⊢
 clear hrs0
 obtain ⟨m0, hm0⟩ : ∃ m0, rs0.length = m0 := ⟨_, rfl⟩
 rw [hm0] at hr0 hc0 hm8 ⊢
 clear b0 b1
 go_upto_region 4 with (fail)
 obtain ⟨q, hq⟩ : ∃ q, q = w2.heap.size := ⟨_, rfl⟩
 rw [← hq]
 have HCG : Hid (CG w (w2.alloc (.cells #[.int .i64 n, .slice A0 m0 c0] 31)) A l c n q) := (HC1.out q (by have := hx2.size; omega)).ext (hx2.alloc _)
 have HCT : Hid (CT (w2.alloc (.cells #[.int .i64 n, .slice A0 m0 c0] 31)) n q A0 m0 c0 rs0) := ⟨Blk.newAt hq, hr0.ext ((Ext.refl _).alloc _), hc0, hm8, hm0⟩
 generalize w2.alloc (.cells #[.int .i64 n, .slice A0 m0 c0] 31) = w3 at *
 have HT0 := Lib.hid hT0
 clear hq hl1 HC1 hx2 hr0 hc0 hm8 hm0 hT0
 obtain ⟨⟨t0, t1⟩, -⟩ := blkT2 HCG.out.1
 go_wp2
 clear t0 t1
 go_loopw [19] (fun iv wr => ∃ (k : Nat) (rs : List Pa) (A' : Option Addr) (m c' : Nat), iv = .int .i64 k ∧ k ≤ l ∧ Hid (CG w wr A l c n q) ∧ Hid (CT wr n q A' m c' rs) ∧ Hid (tabN n (gs.take k) = some rs)) (fun i _ => l - (intOf i).toNat)
 case atStart => exact ⟨0, rs0, A0, m0, c0, rfl, Nat.zero_le _, HCG, HCT, HT0⟩
 case round =>
  obtain ⟨k, rs, A', m, c', rfl, hk, HG0, HT, HQ⟩ := hrel
  clear HCG HCT HT0
  by_cases hlt : k < l
  ·have HLT := Lib.hid hlt
   obtain ⟨b, o, g, rfl, hb, hg, -⟩ := gate_at h hlt
   have HG := Lib.hid hg
   have hm8 : m ≤ 8 := HT.out.2.2.2.1
   have hk1 : IntKind.i64.wrap ((k : Int) + 1) = ((k + 1 : Nat) : Int) := by rw [IntWalk.i64_in _ (by omega)]; rfl
   have hk2 : wrap64 ((k : Int) + 1) = ((k + 1 : Nat) : Int) := by unfold wrap64; omega
   have HK : Hid (∀ w', Ext wr w' → (w'.cell? ⟨w.heap.size, 0, none⟩ = some (.int .i64 n) ∧ w'.cell? ⟨w.heap.size, 1, none⟩ = some (.slice (some ⟨b, o, none⟩) l c)) ∧ (w'.cell? ⟨b, o + k * 4, none⟩ = some (.int .i64 g.k) ∧ w'.cell? ⟨b, o + k * 4 + 1, none⟩ = some (.int .i64 g.a) ∧ w'.cell? ⟨b, o + k * 4 + 2, none⟩ = some (.int .i64 g.b) ∧ w'.cell? ⟨b, o + k * 4 + 3, none⟩ = some (.int .i64 g.c)) ∧ (w'.cell? ⟨q, 0, none⟩ = some (.int .i64 n) ∧ w'.cell? ⟨q, 1, none⟩ = some (.slice A' m c'))) := fun w' hx => by
    obtain ⟨b2, o2, g2, he, -, hg2, x0, x1, x2, x3⟩ := gate_at (h.up (HG0.out.2.2.2.trans hx) (Nat.le_refl _)) hlt
    simp only [Option.some.injEq, Addr.mk.injEq] at he
    obtain ⟨rfl, rfl, -⟩ := he
    rw [hg] at hg2
    obtain rfl := Option.some.inj hg2
    exact ⟨(blkT2 (HG0.out.1.ext hx)).1, ⟨x0, x1, x2, x3⟩, (blkT2 (HT.out.1.ext hx)).1⟩
   have HCALL : Hid (∀ w', Ext wr w' → Calls Tryz.prog 20 #[.agg #[.int .i64 n, .slice A' m c'], .agg #[.int .i64 g.k, .int .i64 g.a, .int .i64 g.b, .int .i64 g.c]] w' fun e w'' => TabRes n (tabG n rs g) e w'' ∧ Ext w' w'') := fun w' hx => by
    obtain ⟨-, h2, h3, h4, h5⟩ := HT.out.ext hx
    subst h5
    exact impl_TableauApplyGate_any A' c' n rs g w' h2 (by omega) h3
   clear hg
   cases ht : tabG n rs g with
   | none =>
    have HNO : Hid (tabF n gs = none) := by
     unfold Hid
     rw [tabF_yes HV.out]
     exact tabN_stop (k := k + 1) (by rw [tabN_step HG.out HQ.out]; exact ht)
    have HTG := Lib.hid ht
    clear ht
    obtain ⟨-, ⟨x0, x1, x2, x3⟩, -⟩ := HK.out wr (Ext.refl _)
    go_upto_region 7 with (fail)
    have HX5 : Hid (Ext wr (wr.alloc (.cells #[.int .i64 g.k, .int .i64 g.a, .int .i64 g.b, .int .i64 g.c] 52))) := (Ext.refl _).alloc _
    have HB5 : Hid (Blk (wr.alloc (.cells #[.int .i64 g.k, .int .i64 g.a, .int .i64 g.b, .int .i64 g.c] 52)) wr.heap.size 52 #[.int .i64 g.k, .int .i64 g.a, .int .i64 g.b, .int .i64 g.c]) := Blk.new _ _ _
    have HCALL5 : Hid (∀ w', Ext (wr.alloc (.cells #[.int .i64 g.k, .int .i64 g.a, .int .i64 g.b, .int .i64 g.c] 52)) w' → Calls Tryz.prog 20 #[.agg #[.int .i64 n, .slice A' m c'], .agg #[.int .i64 g.k, .int .i64 g.a, .int .i64 g.b, .int .i64 g.c]] w' fun e w'' => TabRes n (tabG n rs g) e w'' ∧ Ext w' w'') := fun w' hx => HCALL.out w' (HX5.out.trans hx)
    have HG5 := Lib.hid (HG0.out.ext HX5.out)
    have HT5 := Lib.hid (HT.out.ext HX5.out)
    clear HX5 HG0 HT HCALL HK x0 x1 x2 x3
    generalize wr.alloc (.cells #[.int .i64 g.k, .int .i64 g.a, .int .i64 g.b, .int .i64 g.c] 52) = w5 at *
    generalize wr.heap.size = s5 at *
    obtain ⟨⟨x0, x1, x2, x3⟩, -⟩ := cells4 HB5.out
    obtain ⟨⟨c0, c1⟩, -⟩ := blkT2 HT5.out.1
    go_wp2_with fail
    refine (HCALL5.out _ (Ext.refl _)).mono ?_
    rintro e w6 ⟨hres, hy6⟩
    obtain rfl := tabRes_off HTG.out hres
    clear hres
    clear x0 x1 x2 x3 c0 c1 HB5
    go_upto_region 8 with (fail)
    have HX7 : Hid (Ext w5 (w6.alloc (.cells #[.int .i64 0, .slice none 0 0] 31))) := hy6.alloc _
    have HB7 : Hid (Blk (w6.alloc (.cells #[.int .i64 0, .slice none 0 0] 31)) w6.heap.size 31 #[.int .i64 0, .slice none 0 0]) := Blk.new _ _ _

    clear hy6
    generalize w6.alloc (.cells #[.int .i64 0, .slice none 0 0] 31) = w7 at *
    generalize w6.heap.size = s at *
    have HG7 := Lib.hid (HG5.out.ext HX7.out)
    have HT7 := Lib.hid (HT5.out.ext HX7.out)
    clear HX7 HG5 HT5 HCALL5
    obtain ⟨⟨c0, c1⟩, z0, z1⟩ := blkT2 HG7.out.2.1
    go_wp2
    have HBB : Hid (Blk (put2 _ (w.heap.size + 1) (.int .i64 0) (.slice none 0 0)) (w.heap.size + 1) 31 #[.int .i64 0, .slice none 0 0]) := (HG7.out.2.1).put2 _ _
    refine bodyPost_ret (v := .tuple #[.agg #[.int .i64 0, .slice none 0 0], .bool false]) ?_ rfl ?_
    rotate_left
    ·exact ⟨tabRes_none HNO.out rfl, ext_put2 (g := w.heap.size + 1) (HG7.out.2.2.2) (by omega) _ _⟩
    ·exact ret_pair rfl _ _ _ _ _ _ _ rfl rfl HBB.out Tryz.underlying31 rfl Tryz.sizeTableauR
   | some rs' =>
    have HQ2 : Hid (tabN n (gs.take (k + 1)) = some rs') := by
     unfold Hid
     rw [tabN_step HG.out HQ.out]; exact ht
    have HM2 : Hid (rs'.length = m) := (tabG_len ht).trans HT.out.2.2.2.2
    have HTG := Lib.hid ht
    clear ht
    obtain ⟨-, ⟨x0, x1, x2, x3⟩, -⟩ := HK.out wr (Ext.refl _)
    go_upto_region 7 with (fail)
    have HX5 : Hid (Ext wr (wr.alloc (.cells #[.int .i64 g.k, .int .i64 g.a, .int .i64 g.b, .int .i64 g.c] 52))) := (Ext.refl _).alloc _
    have HB5 : Hid (Blk (wr.alloc (.cells #[.int .i64 g.k, .int .i64 g.a, .int .i64 g.b, .int .i64 g.c] 52)) wr.heap.size 52 #[.int .i64 g.k, .int .i64 g.a, .int .i64 g.b, .int .i64 g.c]) := Blk.new _ _ _
    have HCALL5 : Hid (∀ w', Ext (wr.alloc (.cells #[.int .i64 g.k, .int .i64 g.a, .int .i64 g.b, .int .i64 g.c] 52)) w' → Calls Tryz.prog 20 #[.agg #[.int .i64 n, .slice A' m c'], .agg #[.int .i64 g.k, .int .i64 g.a, .int .i64 g.b, .int .i64 g.c]] w' fun e w'' => TabRes n (tabG n rs g) e w'' ∧ Ext w' w'') := fun w' hx => HCALL.out w' (HX5.out.trans hx)
    have HG5 := Lib.hid (HG0.out.ext HX5.out)
    have HT5 := Lib.hid (HT.out.ext HX5.out)
    clear HX5 HG0 HT HCALL HK x0 x1 x2 x3
    generalize wr.alloc (.cells #[.int .i64 g.k, .int .i64 g.a, .int .i64 g.b, .int .i64 g.c] 52) = w5 at *
    generalize wr.heap.size = s5 at *
    obtain ⟨⟨x0, x1, x2, x3⟩, -⟩ := cells4 HB5.out
    obtain ⟨⟨c0, c1⟩, -⟩ := blkT2 HT5.out.1
    go_wp2_with fail
    refine (HCALL5.out _ (Ext.refl _)).mono ?_
    rintro e w6 ⟨hres, hy6⟩
    obtain ⟨A2, c2, rfl, hr2, hc2⟩ := tabRes_get HTG.out HM2.out hres
    clear hres
    have HR2 : Hid (Rd w6 w6.heap.size 4 A2 m (pcells rs')) := hr2
    have HC2 : Hid (m ≤ c2) := hc2
    clear hr2 hc2
    clear x0 x1 x2 x3 c0 c1 HB5
    go_upto_region 8 with (fail)
    have HX7 : Hid (Ext w5 (w6.alloc (.cells #[.int .i64 n, .slice A2 m c2] 31))) := hy6.alloc _
    have HB7 : Hid (CT (w6.alloc (.cells #[.int .i64 n, .slice A2 m c2] 31)) n w6.heap.size A2 m c2 rs') := ⟨Blk.new _ _ _, HR2.out.ext ((Ext.refl _).alloc _), HC2.out, hm8, HM2.out⟩
    clear HR2 HC2 HM2
    clear hy6
    generalize w6.alloc (.cells #[.int .i64 n, .slice A2 m c2] 31) = w7 at *
    generalize w6.heap.size = s at *
    have HG7 := Lib.hid (HG5.out.ext HX7.out)
    have HT7 := Lib.hid (HT5.out.ext HX7.out)
    clear HX7 HG5 HT5 HCALL5
    obtain ⟨⟨y0, y1⟩, -⟩ := blkT2 HB7.out.1
    obtain ⟨⟨c0, c1⟩, z0, z1⟩ := blkT2 HT7.out.1
    go_wp2
    have HT8 := Lib.hid (HB7.out.copy HT7.out.1)
    have HG8 := Lib.hid (HG7.out.put (.int .i64 n) (.slice A2 m c2))
    go_roundw
    case rel => exact ⟨k + 1, rs', A2, m, c2, by first | rfl | rw [hk1] | rw [hk2], by have := HLT.out; omega, HG8, HT8, HQ2⟩
    case measure => simp [intOf, hk2]; have := HLT.out; omega
  ·have hkl : k = l := by omega
   have HYES : Hid (tabF n gs = some rs) := by
    unfold Hid
    rw [tabF_yes HV.out, ← HQ.out, hkl, ← HL.out, List.take_length]
   clear hkl
   obtain ⟨⟨c0, c1⟩, -⟩ := blkT2 HT.out.1
   obtain ⟨⟨d0, d1⟩, f0, f1⟩ := blkT2 HG0.out.2.1
   obtain ⟨⟨t0, t1⟩, -⟩ := blkT2 HG0.out.1
   go_wp2
   have HBB : Hid (Blk (put2 wr (w.heap.size + 1) (.int .i64 n) (.slice A' m c')) (w.heap.size + 1) 31 #[.int .i64 n, .slice A' m c']) := HG0.out.2.1.put2 _ _
   refine bodyPost_ret (v := .tuple #[.agg #[.int .i64 n, .slice A' m c'], .bool true]) ?_ rfl ?_
   rotate_left
   ·exact ⟨tabRes_some HYES.out rfl (HT.out.out HG0.out.2.1 _ _), ext_put2 (g := w.heap.size + 1) HG0.out.2.2.2 (by omega) _ _⟩
   ·exact ret_pair rfl _ _ _ _ _ _ _ rfl rfl HBB.out Tryz.underlying31 rfl Tryz.sizeTableauR
end Go.Proofs.YtioimnplhmgbgaaGreat
/-
 Helper text (no claim of its own): circuits, as records, and the laws' own helpers on them. Printed in part by gen_struct.py.
-/
namespace Go.Proofs.YtioimnplhmgbgaaGreat
open Go.ChangeShapes Go.WideShapes Go.ChangeAt Go.RowKit Go.Deep
structure Ci where
 n : Int
 gs : List Gt
/-- The struct value v reads as the record x; its slices lie below block B. -/
def CiAt (w : World) (B : Nat) (v : Value) (x : Ci) : Prop :=
 ∃ (A1 : Option Addr) (c1 : Nat), v = .agg #[.int .i64 x.n, .slice A1 x.gs.length c1] ∧ Rd w B 4 A1 x.gs.length (gcells x.gs)
/-- The same, each slice in new memory of its own: slice j from block b(j-1) on and below bj. -/
def CiOwn (w : World) (b0 b1 : Nat) (v : Value) (x : Ci) : Prop :=
 ∃ (A1 : Option Addr) (c1 : Nat), v = .agg #[.int .i64 x.n, .slice A1 x.gs.length c1] ∧ w.ownsRow b0 52 4 (.slice A1 x.gs.length c1) x.gs.length (gcells x.gs) ∧ (∀ g, (Value.slice A1 x.gs.length c1).ownBlock = some g → g < b1)
theorem CiAt.up {w w' : World} {B : Nat} {v : Value} {x : Ci} (h : CiAt w B v x) (hx : Ext w w') (hB : B ≤ w.heap.size) : CiAt w' B v x := by
 obtain ⟨A1, c1, hv, h1⟩ := h
 exact ⟨A1, c1, hv, h1.up hx hB⟩
theorem CiAt.more {w : World} {B B' : Nat} {v : Value} {x : Ci} (h : CiAt w B v x) (hB : B ≤ B') : CiAt w B' v x := by
 obtain ⟨A1, c1, hv, h1⟩ := h
 exact ⟨A1, c1, hv, h1.more hB⟩
theorem CiAt.grown {w w' : World} {B : Nat} {v : Value} {x : Ci} {row : Option Nat} (h : CiAt w B v x) (hg : w.grownBy w' row) (hB : B ≤ w.heap.size) (hr : ∀ g, row = some g → B ≤ g) : CiAt w' B v x := by
 obtain ⟨A1, c1, hv, h1⟩ := h
 exact ⟨A1, c1, hv, h1.grown hg hB hr⟩
theorem CiOwn.at_ {w : World} {b0 b1 : Nat} {v : Value} {x : Ci} (h : CiOwn w b0 b1 v x) : CiAt w w.heap.size v x := by
 obtain ⟨A1, c1, hv, h1, l1⟩ := h
 exact ⟨A1, c1, hv, Rd.own h1⟩
theorem CiOwn.ext {w w' : World} {b0 b1 : Nat} {v : Value} {x : Ci} (h : CiOwn w b0 b1 v x) (hx : Ext w w') : CiOwn w' b0 b1 v x := by
 obtain ⟨A1, c1, hv, h1, l1⟩ := h
 exact ⟨A1, c1, hv, own_ext h1 hx, l1⟩
def Ci.ok (x : Ci) : Prop := I64 x.n ∧ x.gs.length ≤ maxLen ∧ (∀ g ∈ x.gs, g.ok)
end Go.Proofs.YtioimnplhmgbgaaGreat
/-
 Helper text (no claim of its own): CliffordsEqual, by the program and by the reference. Printed by gen_tc.py.
-/
namespace Go.Proofs.YtioimnplhmgbgaaGreat
open Go.ChangeShapes Go.WideShapes Go.ChangeAt Go.RowKit Go.Deep
set_option linter.unusedVariables false
set_option linter.unusedSimpArgs false
theorem fold_len (n : Int) (m : Nat) : ∀ (gs : List Gt) (t0 : Option (List Pa)), (∀ rs, t0 = some rs → rs.length = m) → ∀ rs, gs.foldl (fun t g => t.bind fun rs => tabG n rs g) t0 = some rs → rs.length = m
 | [], t0, h, rs, e => h rs e
 | g :: gs, t0, h, rs, e => by
  rw [List.foldl_cons] at e
  refine fold_len n m gs _ (fun rs2 e2 => ?_) rs e
  cases t0 with
  | none => cases e2
  | some r0 => exact (tabG_len e2).trans (h r0 rfl)
theorem tabF_len {n : Int} {gs : List Gt} {rs : List Pa} (h : tabF n gs = some rs) : rs.length ≤ 8 := by
 unfold tabF at h
 split at h
 ·rename_i hv
  have hb := vCi_bd hv
  have := fold_len n (2 * n.toNat) gs (some (idT n.toNat)) (fun r e => by injection e with e; subst e; exact idT_len _) rs h
  omega
 ·cases h
theorem tabRes_any {n : Int} {t : Option (List Pa)} {e : Ending} {w : World} (h : TabRes n t e w) : ∃ (N : Int) (A : Option Addr) (m c : Nat) (b : Bool), e = .returned (.tuple #[.agg #[.int .i64 N, .slice A m c], .bool b]) ∧ t.isSome = b ∧ Hid (∀ rs, t = some rs → N = n ∧ Rd w w.heap.size 4 A m (pcells rs) ∧ rs.length = m) := by
 cases t with
 | none => exact ⟨0, none, 0, 0, false, h, rfl, fun rs e => by cases e⟩
 | some r =>
  obtain ⟨v, he, A, c, rfl, hr, hc⟩ := h
  exact ⟨n, A, r.length, c, true, he, rfl, fun rs e => by injection e with e; subst e; exact ⟨rfl, hr, rfl⟩⟩
/-- Equal tableaux. -/
def eqT (x y : Ci) : Bool :=
 match tabF x.n x.gs, tabF y.n y.gs with
 | some a, some b => x.n == y.n && eqL eqP a b
 | _, _ => false
theorem eqT_l {x y : Ci} (h : (tabF x.n x.gs).isSome = false) : eqT x y = false := by
 unfold eqT; cases hx : tabF x.n x.gs with
 | none => rfl
 | some a => rw [hx] at h; cases h
theorem eqT_r {x y : Ci} (h : (tabF y.n y.gs).isSome = false) : eqT x y = false := by
 unfold eqT; cases hy : tabF y.n y.gs with
 | none => cases tabF x.n x.gs <;> rfl
 | some a => rw [hy] at h; cases h
theorem eqT_both {x y : Ci} {a b : List Pa} (h : tabF x.n x.gs = some a) (k : tabF y.n y.gs = some b) : eqT x y = (x.n == y.n && eqL eqP a b) := by unfold eqT; rw [h, k]
set_option maxRecDepth 100000 in
set_option maxHeartbeats 8000000 in
theorem impl_CliffordsEqual_any (v u : Value) (x y : Ci) (w : World) (h : CiAt w w.heap.size v x) (h' : CiAt w w.heap.size u y) (hs : x.gs.length ≤ 100000000 ∧ y.gs.length ≤ 100000000) :
  Calls Tryz.prog 11 #[v, u] w fun e w' => e = .returned (.bool (eqT x y)) ∧ Ext w w' := by
 obtain ⟨A, c, rfl, h1⟩ := h
 obtain ⟨B, d, rfl, h2⟩ := h'
 obtain ⟨s1, s2⟩ := hs
 obtain ⟨l1, e1⟩ : ∃ l, x.gs.length = l := ⟨_, rfl⟩
 obtain ⟨l2, e2⟩ : ∃ l, y.gs.length = l := ⟨_, rfl⟩
 have H1 : Hid (∀ w', Ext w w' → Calls Tryz.prog 6 #[.agg #[.int .i64 x.n, .slice A l1 c]] w' fun e w'' => TabRes x.n (tabF x.n x.gs) e w'' ∧ Ext w' w'') := fun w' hx => by subst e1; exact impl_CircuitTableau_any A c x.n x.gs w' (h1.ext hx) s1
 have H2 : Hid (∀ w', Ext w w' → Calls Tryz.prog 6 #[.agg #[.int .i64 y.n, .slice B l2 d]] w' fun e w'' => TabRes y.n (tabF y.n y.gs) e w'' ∧ Ext w' w'') := fun w' hx => by subst e2; exact impl_CircuitTableau_any B d y.n y.gs w' (h2.ext hx) s2
 rw [e1, e2]
 clear h1 h2 s1 s2 e1 e2
 go_enter Tryz.func11, Tryz.ntmps11
 go_wp2_with fail
 refine (H1.out _ (by exact xx)).mono ?_
 rintro e w1 ⟨hres, hx1⟩
 obtain ⟨N1, A1, m1, c1, q1, rfl, hq1, HR1⟩ := tabRes_any hres
 clear hres
 have HX1 : Hid (Ext w w1) := Ext.trans (by exact xx) hx1
 have HB1 : Hid (Blk w1 (w.heap.size + 1) 26 #[.int .i64 y.n, .slice B l2 d]) := (Blk.newAt (b := w.heap.size + 1) (by simp)).ext hx1
 clear hx1
 go_upto_region 2 with (fail)
 have HX2 : Hid (Ext w (w1.alloc (.cells #[.int .i64 N1, .slice A1 m1 c1] 31))) := HX1.out.alloc _
 have HB2 := Lib.hid (HB1.out.alloc (.cells #[.int .i64 N1, .slice A1 m1 c1] 31))
 have HT2 : Hid (Blk (w1.alloc (.cells #[.int .i64 N1, .slice A1 m1 c1] 31)) w1.heap.size 31 #[.int .i64 N1, .slice A1 m1 c1]) := Blk.new _ _ _
 have HE2 : Hid (Ext w1 (w1.alloc (.cells #[.int .i64 N1, .slice A1 m1 c1] 31))) := (Ext.refl _).alloc _
 generalize w1.alloc (.cells #[.int .i64 N1, .slice A1 m1 c1] 31) = w2 at *
 generalize w1.heap.size = r1 at HT2 ⊢
 clear HX1 HB1
 obtain ⟨⟨b0, b1⟩, -⟩ := blkT2 HB2.out
 go_wp2_with fail
 refine (H2.out _ HX2.out).mono ?_
 rintro e w3 ⟨hres, hx3⟩
 obtain ⟨N2, A2, m2, c2, q2, rfl, hq2, HR2⟩ := tabRes_any hres
 clear hres b0 b1
 have HX3 : Hid (Ext w w3) := HX2.out.trans hx3
 have HT3 := Lib.hid (HT2.out.ext hx3)
 have HE3 : Hid (Ext w1 w3) := HE2.out.trans hx3
 clear hx3 HX2 HT2 HE2 HB2
 go_upto_region 3 with (fail)
 have HX4 : Hid (Ext w (w3.alloc (.cells #[.int .i64 N2, .slice A2 m2 c2] 31))) := HX3.out.alloc _
 have HT4 := Lib.hid (HT3.out.alloc (.cells #[.int .i64 N2, .slice A2 m2 c2] 31))
 have HU4 : Hid (Blk (w3.alloc (.cells #[.int .i64 N2, .slice A2 m2 c2] 31)) w3.heap.size 31 #[.int .i64 N2, .slice A2 m2 c2]) := Blk.new _ _ _
 have HE4 : Hid (Ext w1 (w3.alloc (.cells #[.int .i64 N2, .slice A2 m2 c2] 31))) := HE3.out.alloc _
 have HF4 : Hid (Ext w3 (w3.alloc (.cells #[.int .i64 N2, .slice A2 m2 c2] 31))) := (Ext.refl _).alloc _
 generalize w3.alloc (.cells #[.int .i64 N2, .slice A2 m2 c2] 31) = w4 at *
 generalize w3.heap.size = r3 at HU4 ⊢
 clear HX3 HT3 HE3
 cases q1 with
 | false =>
  have HF := Lib.hid (eqT_l (y := y) hq1)
  clear hq1 hq2
  go_wp2
  go_ret
  exact ⟨ret_bool HF.out.symm, HX4.out⟩
 | true =>
  cases q2 with
  | false =>
   have HF := Lib.hid (eqT_r (x := x) hq2)
   clear hq1 hq2
   go_wp2
   go_ret
   exact ⟨ret_bool HF.out.symm, HX4.out⟩
  | true =>
   obtain ⟨a, ha⟩ := Option.isSome_iff_exists.mp hq1
   obtain ⟨b, hb⟩ := Option.isSome_iff_exists.mp hq2
   obtain ⟨rfl, ra, la⟩ := HR1.out a ha
   obtain ⟨rfl, rb, lb⟩ := HR2.out b hb
   have HEQ := Lib.hid (eqT_both ha hb)
   have HL := Lib.hid (And.intro (tabF_len ha) (tabF_len hb))
   have HC : Hid (Calls Tryz.prog 29 #[.agg #[.int .i64 x.n, .slice A1 m1 c1], .agg #[.int .i64 y.n, .slice A2 m2 c2]] w4 fun e w'' => e = .returned (.bool (x.n == y.n && eqL eqP a b)) ∧ Ext w4 w'') := by
    subst la lb
    exact impl_EqualTableau_any A1 A2 c1 c2 x.n y.n a b w4 (ra.ext HE4.out) (rb.ext HF4.out) (by have := HL.out; omega) (by have := HL.out; omega)
   clear hq1 hq2 ha hb ra rb la lb HR1 HR2
   obtain ⟨⟨t0, t1⟩, -⟩ := blkT2 HT4.out
   obtain ⟨⟨u0, u1⟩, -⟩ := blkT2 HU4.out
   go_wp2_with fail
   refine (HC.out).mono ?_
   rintro e w5 ⟨rfl, hx5⟩
   go_wp2
   go_ret
   exact ⟨ret_bool (by rw [HEQ.out]), HX4.out.trans hx5⟩
end Go.Proofs.YtioimnplhmgbgaaGreat
namespace Go.Proofs.YtioimnplhmgbgaaGreat
open Go.ChangeShapes Go.WideShapes Go.ChangeAt Go.RowKit Go.Deep
set_option linter.unusedVariables false
set_option linter.unusedSimpArgs false
namespace fnTabSame
theorem tabRes_any {n : Int} {t : Option (List Pa)} {e : Ending} {w : World} (h : TabRes n t e w) : ∃ (m : Int) (B : Option Addr) (l d : Nat) (rs : List Pa), e = .returned (.tuple #[.agg #[.int .i64 m, .slice B l d], .bool t.isSome]) ∧ Hid (Rd w w.heap.size 4 B l (pcells rs)) ∧ Hid (rs.length = l ∧ l ≤ d ∧ ∀ ss, t = some ss → ss = rs ∧ m = n) := by
 cases t with
 | none => exact ⟨0, none, 0, 0, [], h, ⟨rfl, fun h0 => absurd h0 (by omega)⟩, rfl, Nat.le_refl _, fun ss e => by cases e⟩
 | some rs =>
  obtain ⟨v, he, B, d, rfl, hr, hc⟩ := h
  exact ⟨n, B, rs.length, d, rs, he, hr, rfl, hc, fun ss e => by cases e; exact ⟨rfl, rfl⟩⟩
theorem tabF_parts {n : Int} {gs : List Gt} {rs : List Pa} (h : tabF n gs = some rs) : vCi n gs = true ∧ tabN n gs = some rs ∧ 1 ≤ n ∧ n ≤ 4 := by
 cases hv : vCi n gs
 ·rw [tabF_no hv] at h; cases h
 ·rw [tabF_yes hv] at h
  have := vCi_bd hv
  exact ⟨rfl, h, this.1, this.2⟩
theorem tabF_len {n : Int} {gs : List Gt} {rs : List Pa} (h : tabF n gs = some rs) : rs.length ≤ 8 := by
 obtain ⟨-, hT, h1, h4⟩ := tabF_parts h
 obtain ⟨k, rfl⟩ := Int.eq_ofNat_of_zero_le (by omega : 0 ≤ n)
 have h2 : ∀ (gs : List Gt) (rs0 rs : List Pa), gs.foldl (fun t g => t.bind fun rs => tabG k rs g) (some rs0) = some rs → rs.length = rs0.length := by
  intro gs
  induction gs with
  | nil => intro rs0 rs h; cases h; rfl
  | cons g r ih =>
   intro rs0 rs h
   rw [List.foldl_cons] at h
   cases h3 : tabG k rs0 g with
   | none => rw [show (some rs0).bind (fun rs => tabG k rs g) = none from h3, foldNone] at h; cases h
   | some r1 => rw [show (some rs0).bind (fun rs => tabG k rs g) = some r1 from h3] at h; rw [ih r1 rs h, tabG_len h3]
 have h3 := h2 gs _ rs hT
 rw [h3, idT_len, Int.toNat_natCast]
 omega
theorem vCi_cols {n : Nat} {gs : List Gt} (h : vCi n gs = true) : (∃ r, Cols n gs r) ∧ gs.length ≤ 60 := by
 unfold vCi at h
 simp only [Bool.and_eq_true, decide_eq_true_eq] at h
 obtain ⟨⟨-, h60⟩, hall⟩ := h
 exact ⟨cols_of (fun g hg => List.all_eq_true.1 hall g hg) (Nat.le_trans (hcs_le gs) h60), h60⟩
/-- The matrix of a circuit. -/
theorem mat_of {n : Nat} (A : Option Addr) (c : Nat) (gs : List Gt) (r : Nat → List Dw) (w : World) (h : Rd w w.heap.size 4 A gs.length (gcells gs)) (hv : vCi n gs = true) (hr : Cols n gs r) :
  Calls Tryz.prog 8 #[.agg #[.int .i64 n, .slice A gs.length c]] w fun e w' => (∃ Y d, e = .returned (.tuple #[.slice Y (2 ^ n) d, .bool true]) ∧ MX w' Y (2 ^ n) (2 ^ n) (colM (2 ^ n) r)) ∧ Ext w w' := by
 have hb := vCi_bd hv
 have h60 := (vCi_cols hv).2
 exact CircuitMatrix_any A c gs r w h hv (fun i hi => actsL_of (by omega) (by omega) (basis_St n i).len (fun x hx => ((basis_St n i).ok x hx).1) (by omega) (hr i hi).1 A c) (fun j hj => (hr j hj).2.1.len)
theorem gp_any {n m : Nat} (h1 : 1 ≤ n ∧ n ≤ 4) (k1 : 1 ≤ m ∧ m ≤ 4) {ga gb : List Gt} {ra rb : List Pa} {r s : Nat → List Dw} (ta : tabN n ga = some ra) (tb : tabN m gb = some rb) (hr : Cols n ga r) (hs : Cols m gb s) (X Y : Option Addr) (c d : Nat) (w : World)
  (hx : MX w X (2 ^ n) (2 ^ n) (colM (2 ^ n) r)) (hy : MX w Y (2 ^ m) (2 ^ m) (colM (2 ^ m) s)) :
  Calls Tryz.prog 9 #[.slice X (2 ^ n) c, .slice Y (2 ^ m) d] w fun e w' => (∃ i : Int, e = .returned (.tuple #[.int .i64 i, .bool (((n : Int) == (m : Int)) && eqL eqP ra rb)])) ∧ Ext w w' := by
 by_cases hnm : n = m
 ·subst hnm
  refine (GlobalPhase_any h1.1 h1.2 X Y c d _ _ w hx hy (colM_ok hr) (colM_ok hs)).mono ?_
  rintro e w' ⟨he, hx⟩
  rw [show ((n : Int) == (n : Int)) = true from by simp, Bool.true_and]
  exact ⟨gp_tab h1.1 h1.2 ta tb hr hs he, hx⟩
 ·refine (GlobalPhase_ne hnm h1.1 h1.2 k1.1 k1.2 X Y c d _ _ w hx hy (colM_ok hr) (colM_ok hs)).mono ?_
  rintro e w' ⟨he, hx⟩
  rw [show ((n : Int) == (m : Int)) = false from by simp; omega, Bool.false_and]
  exact ⟨⟨0, he⟩, hx⟩
set_option maxRecDepth 100000 in
set_option maxHeartbeats 8000000 in
theorem walk (Ab : Option Addr) (nb cb : Nat) (bs : List Int) (w : World) (h : Rd w w.heap.size 1 Ab nb (u8cs bs)) (hm : nb ≤ maxLen) :
  Calls Tryz.prog 3 #[.slice Ab nb cb] w fun e w' => e = .returned (.bool true) ∧ Ext w w' := by
 go_enter Tryz.func3, Tryz.ntmps3
 go_wp2_with fail
 refine (big_any Ab nb cb _ hm).mono ?_
 rintro e w0 ⟨rfl, rfl⟩
 by_cases hbig : 1048576 < nb
 ·have hd : decide (1048576 < nb) = true := by simpa using hbig
  go_wp2
  go_ret
  exact ⟨rfl, Ext.refl _⟩
 have hd : decide (1048576 < nb) = false := by simpa using hbig
 go_wp2_with fail
 refine (DrawCliffordsEqual_any Ab nb cb bs _ h (by omega)).mono ?_
 rintro e w1 ⟨n, A, la, ca, ga, m, B, lb, cb1, gb, rfl, ⟨hla, hlb⟩, hra, hrb, hx1⟩
 clear hd h
 have hle := hra.len Gt.cells_len (by omega)
 subst hle
 have hle := hrb.len Gt.cells_len (by omega)
 subst hle
 go_upto_region 4 with (fail)
 have HA : Hid (∀ w', Ext ((w1.alloc (.cells #[.int .i64 n, .slice A ga.length ca] 26)).alloc (.cells #[.int .i64 m, .slice B gb.length cb1] 26)) w' → Rd w' w'.heap.size 4 A ga.length (gcells ga)) := fun w' hx => hra.ext ((((Ext.refl w1).alloc _).alloc _).trans hx)
 have HB : Hid (∀ w', Ext ((w1.alloc (.cells #[.int .i64 n, .slice A ga.length ca] 26)).alloc (.cells #[.int .i64 m, .slice B gb.length cb1] 26)) w' → Rd w' w'.heap.size 4 B gb.length (gcells gb)) := fun w' hx => hrb.ext ((((Ext.refl w1).alloc _).alloc _).trans hx)
 have HQ : Hid (Blk ((w1.alloc (.cells #[.int .i64 n, .slice A ga.length ca] 26)).alloc (.cells #[.int .i64 m, .slice B gb.length cb1] 26)) w1.heap.size 26 #[.int .i64 n, .slice A ga.length ca]) := (Blk.new w1 _ _).alloc _
 have HR : Hid (Blk ((w1.alloc (.cells #[.int .i64 n, .slice A ga.length ca] 26)).alloc (.cells #[.int .i64 m, .slice B gb.length cb1] 26)) (w1.heap.size + 1) 26 #[.int .i64 m, .slice B gb.length cb1]) := Blk.newAt (by simp)
 have HX2 : Hid (Ext w ((w1.alloc (.cells #[.int .i64 n, .slice A ga.length ca] 26)).alloc (.cells #[.int .i64 m, .slice B gb.length cb1] 26))) := (hx1.alloc _).alloc _
 have HLN : Hid (ga.length ≤ 200 ∧ gb.length ≤ 200) := ⟨hla, hlb⟩
 clear hra hrb hx1 hla hlb
 generalize ((w1.alloc (.cells #[.int .i64 n, .slice A ga.length ca] 26)).alloc (.cells #[.int .i64 m, .slice B gb.length cb1] 26)) = w2 at *
 generalize w1.heap.size = q at *
 have HTA : Hid (∀ w', Ext w2 w' → Calls Tryz.prog 6 #[.agg #[.int .i64 n, .slice A ga.length ca]] w' fun e w'' => TabRes n (tabF n ga) e w'' ∧ Ext w' w'') := fun w' hx => impl_CircuitTableau_any A ca n ga w' (HA.out w' hx) (by have := HLN.out; omega)
 have HTB : Hid (∀ w', Ext w2 w' → Calls Tryz.prog 6 #[.agg #[.int .i64 m, .slice B gb.length cb1]] w' fun e w'' => TabRes m (tabF m gb) e w'' ∧ Ext w' w'') := fun w' hx => impl_CircuitTableau_any B cb1 m gb w' (HB.out w' hx) (by have := HLN.out; omega)
 have HTC : Hid (∀ w', Ext w2 w' → Calls Tryz.prog 7 #[.agg #[.int .i64 n, .slice A ga.length ca]] w' fun e w'' => TabRes n (tabF n ga) e w'' ∧ Ext w' w'') := fun w' hx => spec_CircuitTableau_any A ca n ga w' (HA.out w' hx) (by have := HLN.out; omega)
 have HCE : Hid (∀ w', Ext w2 w' → Calls Tryz.prog 11 #[.agg #[.int .i64 n, .slice A ga.length ca], .agg #[.int .i64 m, .slice B gb.length cb1]] w' fun e w'' => e = .returned (.bool (eqT ⟨n, ga⟩ ⟨m, gb⟩)) ∧ Ext w' w'') := fun w' hx => impl_CliffordsEqual_any _ _ ⟨n, ga⟩ ⟨m, gb⟩ w' ⟨A, ca, rfl, HA.out w' hx⟩ ⟨B, cb1, rfl, HB.out w' hx⟩ (by have := HLN.out; show ga.length ≤ 100000000 ∧ gb.length ≤ 100000000; omega)
 have HM : Hid (∀ ra rb, tabF n ga = some ra → tabF m gb = some rb → ∃ (k l : Nat) (r s : Nat → List Dw), n = k ∧ m = l ∧
   (∀ w', Ext w2 w' → Calls Tryz.prog 8 #[.agg #[.int .i64 n, .slice A ga.length ca]] w' fun e w'' => (∃ Y d, e = .returned (.tuple #[.slice Y (2 ^ k) d, .bool true]) ∧ MX w'' Y (2 ^ k) (2 ^ k) (colM (2 ^ k) r)) ∧ Ext w' w'') ∧
   (∀ w', Ext w2 w' → Calls Tryz.prog 8 #[.agg #[.int .i64 m, .slice B gb.length cb1]] w' fun e w'' => (∃ Y d, e = .returned (.tuple #[.slice Y (2 ^ l) d, .bool true]) ∧ MX w'' Y (2 ^ l) (2 ^ l) (colM (2 ^ l) s)) ∧ Ext w' w'') ∧
   ∀ (X Y : Option Addr) (c d : Nat) (w' : World), MX w' X (2 ^ k) (2 ^ k) (colM (2 ^ k) r) → MX w' Y (2 ^ l) (2 ^ l) (colM (2 ^ l) s) → Calls Tryz.prog 9 #[.slice X (2 ^ k) c, .slice Y (2 ^ l) d] w' fun e w'' => (∃ i : Int, e = .returned (.tuple #[.int .i64 i, .bool (n == m && eqL eqP ra rb)])) ∧ Ext w' w'') := fun ra rb ta tb => by
  obtain ⟨va, na, n1, n4⟩ := tabF_parts ta
  obtain ⟨vb, nb, m1, m4⟩ := tabF_parts tb
  obtain ⟨k, rfl⟩ := Int.eq_ofNat_of_zero_le (by omega : 0 ≤ n)
  obtain ⟨l, rfl⟩ := Int.eq_ofNat_of_zero_le (by omega : 0 ≤ m)
  obtain ⟨⟨r, hr⟩, -⟩ := vCi_cols va
  obtain ⟨⟨s, hs⟩, -⟩ := vCi_cols vb
  exact ⟨k, l, r, s, rfl, rfl, fun w' hx => mat_of A ca ga r w' (HA.out w' hx) va hr, fun w' hx => mat_of B cb1 gb s w' (HB.out w' hx) vb hs, fun X Y c d w' hx hy => gp_any (by omega) (by omega) na nb hr hs X Y c d w' hx hy⟩
 have HEQ : Hid (∀ ra rb, tabF n ga = some ra → tabF m gb = some rb → eqT ⟨n, ga⟩ ⟨m, gb⟩ = (n == m && eqL eqP ra rb)) := fun ra rb ta tb => by
  show (match tabF n ga, tabF m gb with
   | some a, some b => n == m && eqL eqP a b
   | _, _ => false) = _
  rw [ta, tb]
 have HLE : Hid ((∀ ra, tabF n ga = some ra → ra.length ≤ 8) ∧ (∀ rb, tabF m gb = some rb → rb.length ≤ 8)) := ⟨fun ra h => tabF_len h, fun rb h => tabF_len h⟩
 clear HA HB HLN
 generalize tabF n ga = ta at *
 generalize tabF m gb = tb at *
 generalize eqT ⟨n, ga⟩ ⟨m, gb⟩ = et at *
 generalize ga.length = la at *
 generalize gb.length = lb at *
 obtain ⟨⟨a0, a1⟩, -⟩ := blkT2 (HQ.out.ext (Ext.refl w2))
 obtain ⟨⟨b0, b1⟩, -⟩ := blkT2 (HR.out.ext (Ext.refl w2))
 go_wp2_with fail
 refine (HTA.out _ (Ext.refl _)).mono ?_
 rintro e w3 ⟨hres, hx3⟩
 obtain ⟨m3, B3, l3, d3, r3, rfl, HR3, HL3⟩ := tabRes_any hres
 clear hres a0 a1 b0 b1
 have HX3 := Lib.hid hx3
 clear hx3
 have HS : Hid (Blk (w3.alloc (.cells #[.int .i64 m3, .slice B3 l3 d3] 31)) w3.heap.size 31 #[.int .i64 m3, .slice B3 l3 d3] ∧ Rd (w3.alloc (.cells #[.int .i64 m3, .slice B3 l3 d3] 31)) (w3.alloc (.cells #[.int .i64 m3, .slice B3 l3 d3] 31)).heap.size 4 B3 l3 (pcells r3)) := ⟨Blk.new _ _ _, HR3.out.ext ((Ext.refl _).alloc _)⟩
 have HX4 : Hid (Ext w2 (w3.alloc (.cells #[.int .i64 m3, .slice B3 l3 d3] 31))) := HX3.out.alloc _
 go_upto_region 5 with (fail)
 generalize w3.alloc (.cells #[.int .i64 m3, .slice B3 l3 d3] 31) = w4 at *
 generalize w3.heap.size = q3 at *
 clear HX3 HR3
 obtain ⟨⟨a0, a1⟩, -⟩ := blkT2 (HQ.out.ext HX4.out)
 obtain ⟨⟨b0, b1⟩, -⟩ := blkT2 (HR.out.ext HX4.out)
 go_wp2_with fail
 refine (HTB.out _ HX4.out).mono ?_
 rintro e w5 ⟨hres, hx5⟩
 obtain ⟨m5, B5, l5, d5, r5, rfl, HR5, HL5⟩ := tabRes_any hres
 clear hres a0 a1 b0 b1
 have HX5 := Lib.hid hx5
 clear hx5
 have HT : Hid (Blk (w5.alloc (.cells #[.int .i64 m5, .slice B5 l5 d5] 31)) w5.heap.size 31 #[.int .i64 m5, .slice B5 l5 d5] ∧ Rd (w5.alloc (.cells #[.int .i64 m5, .slice B5 l5 d5] 31)) (w5.alloc (.cells #[.int .i64 m5, .slice B5 l5 d5] 31)).heap.size 4 B5 l5 (pcells r5)) := ⟨Blk.new _ _ _, HR5.out.ext ((Ext.refl _).alloc _)⟩
 have HX6 : Hid (Ext w4 (w5.alloc (.cells #[.int .i64 m5, .slice B5 l5 d5] 31))) := HX5.out.alloc _
 go_upto_region 6 with (fail)
 generalize w5.alloc (.cells #[.int .i64 m5, .slice B5 l5 d5] 31) = w6 at *
 generalize w5.heap.size = q5 at *
 clear HX5 HR5
 obtain ⟨⟨a0, a1⟩, -⟩ := blkT2 (HQ.out.ext (HX4.out.trans HX6.out))
 obtain ⟨⟨b0, b1⟩, -⟩ := blkT2 (HR.out.ext (HX4.out.trans HX6.out))
 go_wp2_with fail
 refine (HTC.out _ (HX4.out.trans HX6.out)).mono ?_
 rintro e w7 ⟨hres, hx7⟩
 obtain ⟨m7, B7, l7, d7, r7, rfl, -, -⟩ := tabRes_any hres
 clear hres a0 a1 b0 b1
 have HX8 : Hid (Ext w6 (w7.alloc (.cells #[.int .i64 m7, .slice B7 l7 d7] 31))) := hx7.alloc _
 go_upto_region 7 with (fail)
 generalize w7.alloc (.cells #[.int .i64 m7, .slice B7 l7 d7] 31) = w8 at *
 generalize w7.heap.size = q7 at *
 clear hx7 HTA HTB HTC
 have HX8' : Hid (Ext w2 w8) := HX4.out.trans (HX6.out.trans HX8.out)
 have HEND : Hid (Ext w w8) := HX2.out.trans HX8'.out
 cases ta with
 | none =>
  go_wp2
  go_ret
  exact ⟨rfl, HEND.out⟩
 | some ra =>
  cases tb with
  | none =>
   go_wp2
   go_ret
   exact ⟨rfl, HEND.out⟩
  | some rb =>
   obtain ⟨rfl, rfl⟩ := HL3.out.2.2 ra rfl
   obtain ⟨rfl, rfl⟩ := HL5.out.2.2 rb rfl
   obtain ⟨k, l, r, s, -, -, hma, hmb, hgp⟩ := HM.out ra rb rfl rfl
   have he := HEQ.out ra rb rfl rfl
   have HMA := Lib.hid hma
   have HMB := Lib.hid hmb
   have HGP := Lib.hid hgp
   clear HM hma hmb hgp HEQ
   have HET : Hid (∀ w', Ext w8 w' → Calls Tryz.prog 10 #[.agg #[.int .i64 m3, .slice B3 l3 d3], .agg #[.int .i64 m5, .slice B5 l5 d5]] w' fun e w'' => e = .returned (.bool et) ∧ Ext w' w'') := fun w' hx => by
    have e1 := HL3.out.1
    have e2 := HL5.out.1
    have h1 := HS.out.2.ext ((HX6.out.trans HX8.out).trans hx)
    have h2 := HT.out.2.ext (HX8.out.trans hx)
    rw [he, ← e1, ← e2]
    rw [← e1] at h1
    rw [← e2] at h2
    exact spec_EqualTableau_any B3 B5 d3 d5 m3 m5 ra rb w' h1 h2 (by have := HLE.out.1 ra rfl; omega) (by have := HLE.out.2 rb rfl; omega)
   rw [← he] at HGP
   clear he HL3 HL5
   generalize 2 ^ k = lk at *
   generalize 2 ^ l = ll at *
   obtain ⟨⟨a0, a1⟩, -⟩ := blkT2 (HQ.out.ext HX8'.out)
   obtain ⟨⟨b0, b1⟩, -⟩ := blkT2 (HR.out.ext HX8'.out)
   go_wp2_with fail
   refine (HMA.out _ HX8'.out).mono ?_
   rintro e w9 ⟨⟨Y9, d9, rfl, hm9⟩, hx9⟩
   have HX9 := Lib.hid (HX8'.out.trans hx9)
   have HM9 := Lib.hid hm9
   have HZ9 := Lib.hid hx9
   clear a0 a1 b0 b1 hm9 hx9
   obtain ⟨⟨a0, a1⟩, -⟩ := blkT2 (HQ.out.ext HX9.out)
   obtain ⟨⟨b0, b1⟩, -⟩ := blkT2 (HR.out.ext HX9.out)
   go_wp2_with fail
   refine (HMB.out _ HX9.out).mono ?_
   rintro e w10 ⟨⟨Y10, d10, rfl, hm10⟩, hx10⟩
   have HX10 := Lib.hid (HX9.out.trans hx10)
   have HM10 := Lib.hid hm10
   have HM9' := Lib.hid (HM9.out.ext hx10)
   have HZ10 := Lib.hid (HZ9.out.trans hx10)
   clear a0 a1 b0 b1 hm10 hx10 HM9
   go_wp2_with fail
   refine (HGP.out _ _ _ _ _ HM9'.out HM10.out).mono ?_
   rintro e w11 ⟨⟨i11, rfl⟩, hx11⟩
   have HX11 := Lib.hid (HX10.out.trans hx11)
   have HZ11 := Lib.hid (HZ10.out.trans hx11)
   clear hx11 HM9' HM10 HMA HMB HGP
   obtain ⟨⟨a0, a1⟩, -⟩ := blkT2 (HQ.out.ext HX11.out)
   obtain ⟨⟨b0, b1⟩, -⟩ := blkT2 (HR.out.ext HX11.out)
   obtain ⟨⟨s0, s1⟩, -⟩ := blkT2 (HS.out.1.ext ((HX6.out.trans HX8.out).trans HZ11.out))
   obtain ⟨⟨t0, t1⟩, -⟩ := blkT2 (HT.out.1.ext (HX8.out.trans HZ11.out))
   go_wp2_with fail
   refine (HET.out _ HZ11.out).mono ?_
   rintro e w12 ⟨rfl, hx12⟩
   have HX12 := Lib.hid (HX11.out.trans hx12)
   clear hx12 a0 a1 b0 b1 s0 s1 t0 t1
   obtain ⟨⟨a0, a1⟩, -⟩ := blkT2 (HQ.out.ext HX12.out)
   obtain ⟨⟨b0, b1⟩, -⟩ := blkT2 (HR.out.ext HX12.out)
   have hee : (et == et) = true := by cases et <;> rfl
   go_wp2_with fail
   refine (HCE.out _ HX12.out).mono ?_
   rintro e w13 ⟨rfl, hx13⟩
   go_wp2
   go_ret
   exact ⟨rfl, HX2.out.trans (HX12.out.trans hx13)⟩
set_option maxRecDepth 100000 in
theorem lifted (os : Os) (started : os.Started) (H : Type) (enc : TypeId × Value → H) :
  ReturnsInHanded {} Tryz.checked os 3 .any (Rows.fnTabSameSpec.pre6 enc Tryz.prog Tryz.f3 Rows.fnTabSameRow.domain false) (Rows.fnTabSameSpec.post enc Tryz.prog Tryz.f3 false true false false) := by
 refine returnsInHanded_of_change (C := Tryz.checked) own started (by kernel_rfl) Tryz.func3
  (ChangeSpec.witness6 (enc := enc) (C := Tryz.checked) false ⟨#[], #[.slice none 0 0], []⟩ 8 (by kernel_rfl) (by kernel_rfl) (by kernel_rfl) (by kernel_rfl)) ?_
 intro W base args ds gs before hval0 hW hcnd _
 have hval : ∀ (j : Nat) t v, Tryz.f3.params[j]? = some t → args[j]? = some v → Value.okWide Tryz.prog W .any base t v := hval0
 have hW' := hW
 obtain ⟨p, q, hA0, hV, rfl, hfz, hnd⟩ := hW
 have hA : DataW.TrodAll enc Tryz.prog W 0 (fun _ => true) true Tryz.f3.params.toList args.toList ds p := hA0
 rw [Tryz.params3] at hA hval
 obtain ⟨v0, vs0, d0, ds0, p0, q0, hargs, rfl, rfl, h0, r0⟩ := trodAll_cons hA
 obtain ⟨rfl, rfl, rfl⟩ := trodAll_nil r0
 obtain rfl : args = #[v0] := by cases args; simp_all
 clear hA0 hval0 hfz hnd hV hcnd
 obtain ⟨A, n, c, bs, rfl, hnc0, hcm0, hr0, hok0⟩ := open_lbytes (hval 0 _ v0 rfl rfl) h0
 refine (walk A n c bs W hr0 (by omega)).mono fun e W' ⟨he, hx⟩ => ?_
 subst he
 exact ⟨_, rfl, law_post rfl (by rw [Tryz.params3]; decide +kernel) rfl hW' rfl rfl rfl hx⟩

theorem over : Rows.fnTabSameRow.holds Tryz.pinned (OpenSpec.ofChange Rows.fnTabSameSpec) :=
 OpenClaim.holds_of_wide 3 Tryz.f3 rfl rfl rfl rfl rfl rfl rfl ⟨rfl, rfl, rfl, rfl, rfl⟩ rfl rfl rfl rfl rfl (by kernel_rfl) Tryz.func3 (by kernel_rfl)
  (of_decide_eq_true (by kernel_rfl)) (by unfold Func.isWrapper; first | (rw [if_pos (by decide +kernel)]; kernel_rfl) | (rw [if_neg (by decide +kernel)]; exact ⟨rfl, rfl⟩))
  (fun os started H enc _ => lifted os started H enc)

/-- The statement. -/
theorem proved : Rows.FnTabSameSaid := over
#print axioms proved

end fnTabSame
end Go.Proofs.YtioimnplhmgbgaaGreat
