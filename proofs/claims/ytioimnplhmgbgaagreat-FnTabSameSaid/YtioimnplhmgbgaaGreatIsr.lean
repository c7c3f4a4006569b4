/-
 Helper text (no claim of its own): what a Clifford gate of two qubits makes of X and Z of a qubit, by the reference. Printed by gen_isp.py.
-/
import Derived.Test.YtioimnplhmgbgaaGreatIsp
namespace Go.Proofs.YtioimnplhmgbgaaGreat
open Go.ChangeShapes Go.WideShapes Go.ChangeAt Go.RowKit Go.Deep
set_option linter.unusedVariables false
set_option maxRecDepth 100000 in
set_option maxHeartbeats 8000000 in
theorem spec_image_9fa (a b c n q : Int) (w : World) (hq0 : 0 ≤ q) (hq3 : q ≤ 3) (ha0 : 0 ≤ a) (ha3 : a ≤ 3) (hb0 : 0 ≤ b) (hb3 : b ≤ 3) (hs : acts ⟨9, a, b, c⟩ q = true) (hf : isFst ⟨9, a, b, c⟩ q = true) (hqa : q = a) (hqb : q ≠ b) :
  Calls Tryz.prog 71 #[.int .i64 n, .agg #[.int .i64 9, .int .i64 a, .int .i64 b, .int .i64 c], .int .i64 q, .bool false] w fun e w' => e = .returned (img n (⟨9, a, b, c⟩ : Gt) q false).val ∧ Ext w w' := by
 have sq : wrap64 (2 ^ q.toNat) = pw q := pw_wrap hq0 hq3
 have sq2 : IntKind.i64.wrap (2 ^ q.toNat) = pw q := pw_wrapK hq0 hq3
 have squ : IntKind.u64.wrap q = q := u64_of hq0 hq3
 have sa : wrap64 (2 ^ a.toNat) = pw a := pw_wrap ha0 ha3
 have sa2 : IntKind.i64.wrap (2 ^ a.toNat) = pw a := pw_wrapK ha0 ha3
 have sau : IntKind.u64.wrap a = a := u64_of ha0 ha3
 have sb : wrap64 (2 ^ b.toNat) = pw b := pw_wrap hb0 hb3
 have sb2 : IntKind.i64.wrap (2 ^ b.toNat) = pw b := pw_wrapK hb0 hb3
 have sbu : IntKind.u64.wrap b = b := u64_of hb0 hb3
 have EI : img n ⟨9, a, b, c⟩ q false = ⟨n, bits .or .i64 (pw q) (pw b), 0, 0⟩ := by unfold img imgX; rw [← acts_eq (show cliff ⟨9, a, b, c⟩ = true from rfl), hs]; first | rfl | (simp [hf]; done) | (simp [hf, orI]; done)
 have ea : (q == a) = true := by simpa using hqa
 have eb : (q == b) = false := by simpa using hqb
 clear hf hqa hqb
 have ER : Hid (Ending.returned (img n (⟨9, a, b, c⟩ : Gt) q false).val = Ending.returned (.agg #[.int .i64 n, .int .i64 (bits .or .i64 (pw q) (pw b)), .int .i64 0, .int .i64 0])) := by unfold Hid; rw [EI]
 clear EI
 have HAC : Hid (∀ w', Calls Tryz.prog 87 #[.agg #[.int .i64 9, .int .i64 a, .int .i64 b, .int .i64 c], .int .i64 q] w' fun e w'' => e = .returned (.bool true) ∧ Ext w' w'') := fun w' => by have h := spec_ActsOn_any (⟨9, a, b, c⟩ : Gt) q w'; rw [hs] at h; exact h
 clear hs
 have HC1 : Hid (∀ w', Calls Tryz.prog 43 #[.int .i64 n, .int .i64 q, .bool false] w' fun e w'' => e = .returned (.agg #[.int .i64 n, .int .i64 (pw q), .int .i64 0, .int .i64 0]) ∧ Ext w' w'') := fun w' => spec_l25Single_any n q false w' hq0 hq3
 have HC2 : Hid (∀ w', Calls Tryz.prog 43 #[.int .i64 n, .int .i64 q, .bool true] w' fun e w'' => e = .returned (.agg #[.int .i64 n, .int .i64 0, .int .i64 (pw q), .int .i64 0]) ∧ Ext w' w'') := fun w' => spec_l25Single_any n q true w' hq0 hq3
 have or1 : bits .or .i64 (pw q) 0 = pw q := pw_or0 hq0 hq3
 have or2 : bits .or .i64 0 (pw q) = pw q := pw_0or hq0 hq3
 go_enter Tryz.func71, Tryz.ntmps71
 go_wp2_with fail
 refine (HC1.out _).mono ?_
 rintro e w1 ⟨rfl, hx1⟩
 have HG1 : Hid (Blk w1 w.heap.size 52 #[.int .i64 9, .int .i64 a, .int .i64 b, .int .i64 c]) := ((Blk.new w _ _).alloc _).ext hx1
 have HR1 : Hid (Blk w1 (w.heap.size + 1) 66 #[.int .i64 0, .int .i64 0, .int .i64 0, .int .i64 0]) := (Blk.newAt (b := w.heap.size + 1) (by simp)).ext hx1
 have HX1 : Hid (Ext w w1) := Ext.trans (by exact xx) hx1
 have hl1 : w.heap.size + 2 ≤ w1.heap.size := by have := hx1.size; simpa using this
 clear hx1
 obtain ⟨p9, hp9⟩ : ∃ p9, p9 = w1.heap.size := ⟨_, rfl⟩
 rw [← hp9] at hl1
 go_wp2_with fail
 refine (HC2.out _).mono ?_
 rintro e w2 ⟨rfl, hx2⟩
 have HG2 : Hid (Blk w2 w.heap.size 52 #[.int .i64 9, .int .i64 a, .int .i64 b, .int .i64 c]) := (HG1.out.alloc _).ext hx2
 have HR2 : Hid (Blk w2 (w.heap.size + 1) 66 #[.int .i64 0, .int .i64 0, .int .i64 0, .int .i64 0]) := (HR1.out.alloc _).ext hx2
 have H92 : Hid (Blk w2 p9 66 #[.int .i64 n, .int .i64 (pw q), .int .i64 0, .int .i64 0]) := (Blk.newAt (b := p9) hp9).ext hx2
 have HX2 : Hid (Ext w w2) := (HX1.out.alloc _).trans hx2
 have hl2 : p9 + 1 ≤ w2.heap.size := by have := hx2.size; simp at this; omega
 clear hx2 HG1 HR1 HX1
 rw [← hp9]
 clear hp9
 obtain ⟨p10, hp10⟩ : ∃ p10, p10 = w2.heap.size := ⟨_, rfl⟩
 rw [← hp10] at hl2
 obtain ⟨⟨x0, x1, x2, x3⟩, -⟩ := cells4 (H92.out.alloc (.cells #[.int .i64 n, .int .i64 0, .int .i64 (pw q), .int .i64 0] 66))
 have B10 : Blk (w2.alloc (.cells #[.int .i64 n, .int .i64 0, .int .i64 (pw q), .int .i64 0] 66)) w2.heap.size 66 #[.int .i64 n, .int .i64 0, .int .i64 (pw q), .int .i64 0] := Blk.new _ _ _
 obtain ⟨⟨y0, y1, y2, y3⟩, -⟩ := cells4 B10
 obtain ⟨⟨g0, g1, g2, g3⟩, -⟩ := cells4 ((HG2.out.alloc (.cells #[.int .i64 n, .int .i64 0, .int .i64 (pw q), .int .i64 0] 66)).alloc (.cells #[.int .i64 n, .int .i64 (pw q), .int .i64 (pw q), .int .i64 0] 66))
 go_wp2_with fail
 refine (HAC.out _).mono ?_
 rintro e w3 ⟨rfl, hx3⟩
 rw [← hp10]
 have HG3 : Hid (Blk w3 w.heap.size 52 #[.int .i64 9, .int .i64 a, .int .i64 b, .int .i64 c]) := ((HG2.out.alloc _).alloc _).ext hx3
 have HR3 : Hid (Blk w3 (w.heap.size + 1) 66 #[.int .i64 0, .int .i64 0, .int .i64 0, .int .i64 0]) := ((HR2.out.alloc _).alloc _).ext hx3
 have H93 : Hid (Blk w3 p9 66 #[.int .i64 n, .int .i64 (pw q), .int .i64 0, .int .i64 0]) := ((H92.out.alloc _).alloc _).ext hx3
 have H103 : Hid (Blk w3 p10 66 #[.int .i64 n, .int .i64 0, .int .i64 (pw q), .int .i64 0]) := by rw [hp10]; exact ((B10.alloc _).ext hx3)
 have H113 : Hid (Blk w3 (p10 + 1) 66 #[.int .i64 n, .int .i64 (pw q), .int .i64 (pw q), .int .i64 0]) := by rw [hp10]; exact ((Blk.newAt (b := w2.heap.size + 1) (by simp)).ext hx3)
 have HX3 : Hid (Ext w w3) := ((HX2.out.alloc _).alloc _).trans hx3
 have hl3 : p10 + 2 ≤ w3.heap.size := by have := hx3.size; simp at this; omega
 clear hx3 HG2 HR2 HX2 H92 x0 x1 x2 x3 y0 y1 y2 y3 g0 g1 g2 g3 B10 hp10
 obtain ⟨⟨g0, g1, g2, g3⟩, -⟩ := cells4 HG3.out
 obtain ⟨⟨r0, r1, r2, r3⟩, rf0, rf1, rf2, rf3⟩ := cells4 HR3.out
 obtain ⟨⟨x0, x1, x2, x3⟩, xf0, xf1, xf2, xf3⟩ := cells4 H93.out
 obtain ⟨⟨y0, y1, y2, y3⟩, yf0, yf1, yf2, yf3⟩ := cells4 H103.out
 obtain ⟨⟨z0, z1, z2, z3⟩, zf0, zf1, zf2, zf3⟩ := cells4 H113.out
 have n1 : w.heap.size + 1 ≠ p9 := by omega
 have n2 : w.heap.size + 1 ≠ p10 + 1 := by omega
 go_wp2
 have HBB : Hid (Blk (put4 (w3.setCell ⟨p9, 1, none⟩ (.int .i64 (bits .or .i64 (pw q) (pw b)))) (w.heap.size + 1) (.int .i64 n) (.int .i64 (bits .or .i64 (pw q) (pw b))) (.int .i64 0) (.int .i64 0)) (w.heap.size + 1) 66 #[.int .i64 n, .int .i64 (bits .or .i64 (pw q) (pw b)), .int .i64 0, .int .i64 0]) := (HR3.out.far (p := ⟨p9, 1, none⟩) (by simp; omega) (.int .i64 (bits .or .i64 (pw q) (pw b)))).put4 _ _ _ _
 have HXX : Hid (Ext w (put4 (w3.setCell ⟨p9, 1, none⟩ (.int .i64 (bits .or .i64 (pw q) (pw b)))) (w.heap.size + 1) (.int .i64 n) (.int .i64 (bits .or .i64 (pw q) (pw b))) (.int .i64 0) (.int .i64 0))) := ext_put4 (g := w.heap.size + 1) (HX3.out.setCell (p := ⟨p9, 1, none⟩) (by simp; omega) (.int .i64 (bits .or .i64 (pw q) (pw b)))) (by omega) _ _ _ _
 refine bodyPost_ret (v := .agg #[.int .i64 n, .int .i64 (bits .or .i64 (pw q) (pw b)), .int .i64 0, .int .i64 0]) ?_ rfl ?_
 rotate_left
 ·exact ⟨ER.out.symm, HXX.out⟩
 ·exact retP rfl HBB.out _ (by kernel_rfl) rfl
set_option maxRecDepth 100000 in
set_option maxHeartbeats 8000000 in
theorem spec_image_9ta (a b c n q : Int) (w : World) (hq0 : 0 ≤ q) (hq3 : q ≤ 3) (ha0 : 0 ≤ a) (ha3 : a ≤ 3) (hb0 : 0 ≤ b) (hb3 : b ≤ 3) (hs : acts ⟨9, a, b, c⟩ q = true) (hf : isFst ⟨9, a, b, c⟩ q = true) (hqa : q = a) (hqb : q ≠ b) :
  Calls Tryz.prog 71 #[.int .i64 n, .agg #[.int .i64 9, .int .i64 a, .int .i64 b, .int .i64 c], .int .i64 q, .bool true] w fun e w' => e = .returned (img n (⟨9, a, b, c⟩ : Gt) q true).val ∧ Ext w w' := by
 have sq : wrap64 (2 ^ q.toNat) = pw q := pw_wrap hq0 hq3
 have sq2 : IntKind.i64.wrap (2 ^ q.toNat) = pw q := pw_wrapK hq0 hq3
 have squ : IntKind.u64.wrap q = q := u64_of hq0 hq3
 have sa : wrap64 (2 ^ a.toNat) = pw a := pw_wrap ha0 ha3
 have sa2 : IntKind.i64.wrap (2 ^ a.toNat) = pw a := pw_wrapK ha0 ha3
 have sau : IntKind.u64.wrap a = a := u64_of ha0 ha3
 have sb : wrap64 (2 ^ b.toNat) = pw b := pw_wrap hb0 hb3
 have sb2 : IntKind.i64.wrap (2 ^ b.toNat) = pw b := pw_wrapK hb0 hb3
 have sbu : IntKind.u64.wrap b = b := u64_of hb0 hb3
 have EI : img n ⟨9, a, b, c⟩ q true = ⟨n, 0, pw q, 0⟩ := by unfold img imgZ; rw [← acts_eq (show cliff ⟨9, a, b, c⟩ = true from rfl), hs]; first | rfl | (simp [hf]; done) | (simp [hf, orI]; done)
 have ea : (q == a) = true := by simpa using hqa
 have eb : (q == b) = false := by simpa using hqb
 clear hf hqa hqb
 have ER : Hid (Ending.returned (img n (⟨9, a, b, c⟩ : Gt) q true).val = Ending.returned (.agg #[.int .i64 n, .int .i64 0, .int .i64 (pw q), .int .i64 0])) := by unfold Hid; rw [EI]
 clear EI
 have HAC : Hid (∀ w', Calls Tryz.prog 87 #[.agg #[.int .i64 9, .int .i64 a, .int .i64 b, .int .i64 c], .int .i64 q] w' fun e w'' => e = .returned (.bool true) ∧ Ext w' w'') := fun w' => by have h := spec_ActsOn_any (⟨9, a, b, c⟩ : Gt) q w'; rw [hs] at h; exact h
 clear hs
 have HC1 : Hid (∀ w', Calls Tryz.prog 43 #[.int .i64 n, .int .i64 q, .bool true] w' fun e w'' => e = .returned (.agg #[.int .i64 n, .int .i64 0, .int .i64 (pw q), .int .i64 0]) ∧ Ext w' w'') := fun w' => spec_l25Single_any n q true w' hq0 hq3
 have HC2 : Hid (∀ w', Calls Tryz.prog 43 #[.int .i64 n, .int .i64 q, .bool false] w' fun e w'' => e = .returned (.agg #[.int .i64 n, .int .i64 (pw q), .int .i64 0, .int .i64 0]) ∧ Ext w' w'') := fun w' => spec_l25Single_any n q false w' hq0 hq3
 have or1 : bits .or .i64 (pw q) 0 = pw q := pw_or0 hq0 hq3
 have or2 : bits .or .i64 0 (pw q) = pw q := pw_0or hq0 hq3
 go_enter Tryz.func71, Tryz.ntmps71
 go_wp2_with fail
 refine (HC1.out _).mono ?_
 rintro e w1 ⟨rfl, hx1⟩
 have HG1 : Hid (Blk w1 w.heap.size 52 #[.int .i64 9, .int .i64 a, .int .i64 b, .int .i64 c]) := ((Blk.new w _ _).alloc _).ext hx1
 have HR1 : Hid (Blk w1 (w.heap.size + 1) 66 #[.int .i64 0, .int .i64 0, .int .i64 0, .int .i64 0]) := (Blk.newAt (b := w.heap.size + 1) (by simp)).ext hx1
 have HX1 : Hid (Ext w w1) := Ext.trans (by exact xx) hx1
 have hl1 : w.heap.size + 2 ≤ w1.heap.size := by have := hx1.size; simpa using this
 clear hx1
 obtain ⟨p9, hp9⟩ : ∃ p9, p9 = w1.heap.size := ⟨_, rfl⟩
 rw [← hp9] at hl1
 go_wp2_with fail
 refine (HC2.out _).mono ?_
 rintro e w2 ⟨rfl, hx2⟩
 have HG2 : Hid (Blk w2 w.heap.size 52 #[.int .i64 9, .int .i64 a, .int .i64 b, .int .i64 c]) := (HG1.out.alloc _).ext hx2
 have HR2 : Hid (Blk w2 (w.heap.size + 1) 66 #[.int .i64 0, .int .i64 0, .int .i64 0, .int .i64 0]) := (HR1.out.alloc _).ext hx2
 have H92 : Hid (Blk w2 p9 66 #[.int .i64 n, .int .i64 0, .int .i64 (pw q), .int .i64 0]) := (Blk.newAt (b := p9) hp9).ext hx2
 have HX2 : Hid (Ext w w2) := (HX1.out.alloc _).trans hx2
 have hl2 : p9 + 1 ≤ w2.heap.size := by have := hx2.size; simp at this; omega
 clear hx2 HG1 HR1 HX1
 rw [← hp9]
 clear hp9
 obtain ⟨p10, hp10⟩ : ∃ p10, p10 = w2.heap.size := ⟨_, rfl⟩
 rw [← hp10] at hl2
 obtain ⟨⟨x0, x1, x2, x3⟩, -⟩ := cells4 (H92.out.alloc (.cells #[.int .i64 n, .int .i64 (pw q), .int .i64 0, .int .i64 0] 66))
 have B10 : Blk (w2.alloc (.cells #[.int .i64 n, .int .i64 (pw q), .int .i64 0, .int .i64 0] 66)) w2.heap.size 66 #[.int .i64 n, .int .i64 (pw q), .int .i64 0, .int .i64 0] := Blk.new _ _ _
 obtain ⟨⟨y0, y1, y2, y3⟩, -⟩ := cells4 B10
 obtain ⟨⟨g0, g1, g2, g3⟩, -⟩ := cells4 ((HG2.out.alloc (.cells #[.int .i64 n, .int .i64 (pw q), .int .i64 0, .int .i64 0] 66)).alloc (.cells #[.int .i64 n, .int .i64 (pw q), .int .i64 (pw q), .int .i64 0] 66))
 go_wp2_with fail
 refine (HAC.out _).mono ?_
 rintro e w3 ⟨rfl, hx3⟩
 rw [← hp10]
 have HG3 : Hid (Blk w3 w.heap.size 52 #[.int .i64 9, .int .i64 a, .int .i64 b, .int .i64 c]) := ((HG2.out.alloc _).alloc _).ext hx3
 have HR3 : Hid (Blk w3 (w.heap.size + 1) 66 #[.int .i64 0, .int .i64 0, .int .i64 0, .int .i64 0]) := ((HR2.out.alloc _).alloc _).ext hx3
 have H93 : Hid (Blk w3 p9 66 #[.int .i64 n, .int .i64 0, .int .i64 (pw q), .int .i64 0]) := ((H92.out.alloc _).alloc _).ext hx3
 have H103 : Hid (Blk w3 p10 66 #[.int .i64 n, .int .i64 (pw q), .int .i64 0, .int .i64 0]) := by rw [hp10]; exact ((B10.alloc _).ext hx3)
 have H113 : Hid (Blk w3 (p10 + 1) 66 #[.int .i64 n, .int .i64 (pw q), .int .i64 (pw q), .int .i64 0]) := by rw [hp10]; exact ((Blk.newAt (b := w2.heap.size + 1) (by simp)).ext hx3)
 have HX3 : Hid (Ext w w3) := ((HX2.out.alloc _).alloc _).trans hx3
 have hl3 : p10 + 2 ≤ w3.heap.size := by have := hx3.size; simp at this; omega
 clear hx3 HG2 HR2 HX2 H92 x0 x1 x2 x3 y0 y1 y2 y3 g0 g1 g2 g3 B10 hp10
 obtain ⟨⟨g0, g1, g2, g3⟩, -⟩ := cells4 HG3.out
 obtain ⟨⟨r0, r1, r2, r3⟩, rf0, rf1, rf2, rf3⟩ := cells4 HR3.out
 obtain ⟨⟨x0, x1, x2, x3⟩, xf0, xf1, xf2, xf3⟩ := cells4 H93.out
 obtain ⟨⟨y0, y1, y2, y3⟩, yf0, yf1, yf2, yf3⟩ := cells4 H103.out
 obtain ⟨⟨z0, z1, z2, z3⟩, zf0, zf1, zf2, zf3⟩ := cells4 H113.out
 have n1 : w.heap.size + 1 ≠ p9 := by omega
 have n2 : w.heap.size + 1 ≠ p10 + 1 := by omega
 go_wp2
 have HBB : Hid (Blk (put4 w3 (w.heap.size + 1) (.int .i64 n) (.int .i64 0) (.int .i64 (pw q)) (.int .i64 0)) (w.heap.size + 1) 66 #[.int .i64 n, .int .i64 0, .int .i64 (pw q), .int .i64 0]) := HR3.out.put4 _ _ _ _
 have HXX : Hid (Ext w (put4 w3 (w.heap.size + 1) (.int .i64 n) (.int .i64 0) (.int .i64 (pw q)) (.int .i64 0))) := ext_put4 (g := w.heap.size + 1) HX3.out (by omega) _ _ _ _
 refine bodyPost_ret (v := .agg #[.int .i64 n, .int .i64 0, .int .i64 (pw q), .int .i64 0]) ?_ rfl ?_
 rotate_left
 ·exact ⟨ER.out.symm, HXX.out⟩
 ·exact retP rfl HBB.out _ (by kernel_rfl) rfl
set_option maxRecDepth 100000 in
set_option maxHeartbeats 8000000 in
theorem spec_image_9fb (a b c n q : Int) (w : World) (hq0 : 0 ≤ q) (hq3 : q ≤ 3) (ha0 : 0 ≤ a) (ha3 : a ≤ 3) (hb0 : 0 ≤ b) (hb3 : b ≤ 3) (hs : acts ⟨9, a, b, c⟩ q = true) (hf : isFst ⟨9, a, b, c⟩ q = false) (hqa : q ≠ a) (hqb : q = b) :
  Calls Tryz.prog 71 #[.int .i64 n, .agg #[.int .i64 9, .int .i64 a, .int .i64 b, .int .i64 c], .int .i64 q, .bool false] w fun e w' => e = .returned (img n (⟨9, a, b, c⟩ : Gt) q false).val ∧ Ext w w' := by
 have sq : wrap64 (2 ^ q.toNat) = pw q := pw_wrap hq0 hq3
 have sq2 : IntKind.i64.wrap (2 ^ q.toNat) = pw q := pw_wrapK hq0 hq3
 have squ : IntKind.u64.wrap q = q := u64_of hq0 hq3
 have sa : wrap64 (2 ^ a.toNat) = pw a := pw_wrap ha0 ha3
 have sa2 : IntKind.i64.wrap (2 ^ a.toNat) = pw a := pw_wrapK ha0 ha3
 have sau : IntKind.u64.wrap a = a := u64_of ha0 ha3
 have sb : wrap64 (2 ^ b.toNat) = pw b := pw_wrap hb0 hb3
 have sb2 : IntKind.i64.wrap (2 ^ b.toNat) = pw b := pw_wrapK hb0 hb3
 have sbu : IntKind.u64.wrap b = b := u64_of hb0 hb3
 have EI : img n ⟨9, a, b, c⟩ q false = ⟨n, pw q, 0, 0⟩ := by unfold img imgX; rw [← acts_eq (show cliff ⟨9, a, b, c⟩ = true from rfl), hs]; first | rfl | (simp [hf]; done) | (simp [hf, orI]; done)
 have ea : (q == a) = false := by simpa using hqa
 have eb : (q == b) = true := by simpa using hqb
 clear hf hqa hqb
 have ER : Hid (Ending.returned (img n (⟨9, a, b, c⟩ : Gt) q false).val = Ending.returned (.agg #[.int .i64 n, .int .i64 (pw q), .int .i64 0, .int .i64 0])) := by unfold Hid; rw [EI]
 clear EI
 have HAC : Hid (∀ w', Calls Tryz.prog 87 #[.agg #[.int .i64 9, .int .i64 a, .int .i64 b, .int .i64 c], .int .i64 q] w' fun e w'' => e = .returned (.bool true) ∧ Ext w' w'') := fun w' => by have h := spec_ActsOn_any (⟨9, a, b, c⟩ : Gt) q w'; rw [hs] at h; exact h
 clear hs
 have HC1 : Hid (∀ w', Calls Tryz.prog 43 #[.int .i64 n, .int .i64 q, .bool false] w' fun e w'' => e = .returned (.agg #[.int .i64 n, .int .i64 (pw q), .int .i64 0, .int .i64 0]) ∧ Ext w' w'') := fun w' => spec_l25Single_any n q false w' hq0 hq3
 have HC2 : Hid (∀ w', Calls Tryz.prog 43 #[.int .i64 n, .int .i64 q, .bool true] w' fun e w'' => e = .returned (.agg #[.int .i64 n, .int .i64 0, .int .i64 (pw q), .int .i64 0]) ∧ Ext w' w'') := fun w' => spec_l25Single_any n q true w' hq0 hq3
 have or1 : bits .or .i64 (pw q) 0 = pw q := pw_or0 hq0 hq3
 have or2 : bits .or .i64 0 (pw q) = pw q := pw_0or hq0 hq3
 go_enter Tryz.func71, Tryz.ntmps71
 go_wp2_with fail
 refine (HC1.out _).mono ?_
 rintro e w1 ⟨rfl, hx1⟩
 have HG1 : Hid (Blk w1 w.heap.size 52 #[.int .i64 9, .int .i64 a, .int .i64 b, .int .i64 c]) := ((Blk.new w _ _).alloc _).ext hx1
 have HR1 : Hid (Blk w1 (w.heap.size + 1) 66 #[.int .i64 0, .int .i64 0, .int .i64 0, .int .i64 0]) := (Blk.newAt (b := w.heap.size + 1) (by simp)).ext hx1
 have HX1 : Hid (Ext w w1) := Ext.trans (by exact xx) hx1
 have hl1 : w.heap.size + 2 ≤ w1.heap.size := by have := hx1.size; simpa using this
 clear hx1
 obtain ⟨p9, hp9⟩ : ∃ p9, p9 = w1.heap.size := ⟨_, rfl⟩
 rw [← hp9] at hl1
 go_wp2_with fail
 refine (HC2.out _).mono ?_
 rintro e w2 ⟨rfl, hx2⟩
 have HG2 : Hid (Blk w2 w.heap.size 52 #[.int .i64 9, .int .i64 a, .int .i64 b, .int .i64 c]) := (HG1.out.alloc _).ext hx2
 have HR2 : Hid (Blk w2 (w.heap.size + 1) 66 #[.int .i64 0, .int .i64 0, .int .i64 0, .int .i64 0]) := (HR1.out.alloc _).ext hx2
 have H92 : Hid (Blk w2 p9 66 #[.int .i64 n, .int .i64 (pw q), .int .i64 0, .int .i64 0]) := (Blk.newAt (b := p9) hp9).ext hx2
 have HX2 : Hid (Ext w w2) := (HX1.out.alloc _).trans hx2
 have hl2 : p9 + 1 ≤ w2.heap.size := by have := hx2.size; simp at this; omega
 clear hx2 HG1 HR1 HX1
 rw [← hp9]
 clear hp9
 obtain ⟨p10, hp10⟩ : ∃ p10, p10 = w2.heap.size := ⟨_, rfl⟩
 rw [← hp10] at hl2
 obtain ⟨⟨x0, x1, x2, x3⟩, -⟩ := cells4 (H92.out.alloc (.cells #[.int .i64 n, .int .i64 0, .int .i64 (pw q), .int .i64 0] 66))
 have B10 : Blk (w2.alloc (.cells #[.int .i64 n, .int .i64 0, .int .i64 (pw q), .int .i64 0] 66)) w2.heap.size 66 #[.int .i64 n, .int .i64 0, .int .i64 (pw q), .int .i64 0] := Blk.new _ _ _
 obtain ⟨⟨y0, y1, y2, y3⟩, -⟩ := cells4 B10
 obtain ⟨⟨g0, g1, g2, g3⟩, -⟩ := cells4 ((HG2.out.alloc (.cells #[.int .i64 n, .int .i64 0, .int .i64 (pw q), .int .i64 0] 66)).alloc (.cells #[.int .i64 n, .int .i64 (pw q), .int .i64 (pw q), .int .i64 0] 66))
 go_wp2_with fail
 refine (HAC.out _).mono ?_
 rintro e w3 ⟨rfl, hx3⟩
 rw [← hp10]
 have HG3 : Hid (Blk w3 w.heap.size 52 #[.int .i64 9, .int .i64 a, .int .i64 b, .int .i64 c]) := ((HG2.out.alloc _).alloc _).ext hx3
 have HR3 : Hid (Blk w3 (w.heap.size + 1) 66 #[.int .i64 0, .int .i64 0, .int .i64 0, .int .i64 0]) := ((HR2.out.alloc _).alloc _).ext hx3
 have H93 : Hid (Blk w3 p9 66 #[.int .i64 n, .int .i64 (pw q), .int .i64 0, .int .i64 0]) := ((H92.out.alloc _).alloc _).ext hx3
 have H103 : Hid (Blk w3 p10 66 #[.int .i64 n, .int .i64 0, .int .i64 (pw q), .int .i64 0]) := by rw [hp10]; exact ((B10.alloc _).ext hx3)
 have H113 : Hid (Blk w3 (p10 + 1) 66 #[.int .i64 n, .int .i64 (pw q), .int .i64 (pw q), .int .i64 0]) := by rw [hp10]; exact ((Blk.newAt (b := w2.heap.size + 1) (by simp)).ext hx3)
 have HX3 : Hid (Ext w w3) := ((HX2.out.alloc _).alloc _).trans hx3
 have hl3 : p10 + 2 ≤ w3.heap.size := by have := hx3.size; simp at this; omega
 clear hx3 HG2 HR2 HX2 H92 x0 x1 x2 x3 y0 y1 y2 y3 g0 g1 g2 g3 B10 hp10
 obtain ⟨⟨g0, g1, g2, g3⟩, -⟩ := cells4 HG3.out
 obtain ⟨⟨r0, r1, r2, r3⟩, rf0, rf1, rf2, rf3⟩ := cells4 HR3.out
 obtain ⟨⟨x0, x1, x2, x3⟩, xf0, xf1, xf2, xf3⟩ := cells4 H93.out
 obtain ⟨⟨y0, y1, y2, y3⟩, yf0, yf1, yf2, yf3⟩ := cells4 H103.out
 obtain ⟨⟨z0, z1, z2, z3⟩, zf0, zf1, zf2, zf3⟩ := cells4 H113.out
 have n1 : w.heap.size + 1 ≠ p9 := by omega
 have n2 : w.heap.size + 1 ≠ p10 + 1 := by omega
 go_wp2
 have HBB : Hid (Blk (put4 w3 (w.heap.size + 1) (.int .i64 n) (.int .i64 (pw q)) (.int .i64 0) (.int .i64 0)) (w.heap.size + 1) 66 #[.int .i64 n, .int .i64 (pw q), .int .i64 0, .int .i64 0]) := HR3.out.put4 _ _ _ _
 have HXX : Hid (Ext w (put4 w3 (w.heap.size + 1) (.int .i64 n) (.int .i64 (pw q)) (.int .i64 0) (.int .i64 0))) := ext_put4 (g := w.heap.size + 1) HX3.out (by omega) _ _ _ _
 refine bodyPost_ret (v := .agg #[.int .i64 n, .int .i64 (pw q), .int .i64 0, .int .i64 0]) ?_ rfl ?_
 rotate_left
 ·exact ⟨ER.out.symm, HXX.out⟩
 ·exact retP rfl HBB.out _ (by kernel_rfl) rfl
set_option maxRecDepth 100000 in
set_option maxHeartbeats 8000000 in
theorem spec_image_9tb (a b c n q : Int) (w : World) (hq0 : 0 ≤ q) (hq3 : q ≤ 3) (ha0 : 0 ≤ a) (ha3 : a ≤ 3) (hb0 : 0 ≤ b) (hb3 : b ≤ 3) (hs : acts ⟨9, a, b, c⟩ q = true) (hf : isFst ⟨9, a, b, c⟩ q = false) (hqa : q ≠ a) (hqb : q = b) :
  Calls Tryz.prog 71 #[.int .i64 n, .agg #[.int .i64 9, .int .i64 a, .int .i64 b, .int .i64 c], .int .i64 q, .bool true] w fun e w' => e = .returned (img n (⟨9, a, b, c⟩ : Gt) q true).val ∧ Ext w w' := by
 have sq : wrap64 (2 ^ q.toNat) = pw q := pw_wrap hq0 hq3
 have sq2 : IntKind.i64.wrap (2 ^ q.toNat) = pw q := pw_wrapK hq0 hq3
 have squ : IntKind.u64.wrap q = q := u64_of hq0 hq3
 have sa : wrap64 (2 ^ a.toNat) = pw a := pw_wrap ha0 ha3
 have sa2 : IntKind.i64.wrap (2 ^ a.toNat) = pw a := pw_wrapK ha0 ha3
 have sau : IntKind.u64.wrap a = a := u64_of ha0 ha3
 have sb : wrap64 (2 ^ b.toNat) = pw b := pw_wrap hb0 hb3
 have sb2 : IntKind.i64.wrap (2 ^ b.toNat) = pw b := pw_wrapK hb0 hb3
 have sbu : IntKind.u64.wrap b = b := u64_of hb0 hb3
 have EI : img n ⟨9, a, b, c⟩ q true = ⟨n, 0, bits .or .i64 (pw q) (pw a), 0⟩ := by unfold img imgZ; rw [← acts_eq (show cliff ⟨9, a, b, c⟩ = true from rfl), hs]; first | rfl | (simp [hf]; done) | (simp [hf, orI]; done)
 have ea : (q == a) = false := by simpa using hqa
 have eb : (q == b) = true := by simpa using hqb
 clear hf hqa hqb
 have ER : Hid (Ending.returned (img n (⟨9, a, b, c⟩ : Gt) q true).val = Ending.returned (.agg #[.int .i64 n, .int .i64 0, .int .i64 (bits .or .i64 (pw q) (pw a)), .int .i64 0])) := by unfold Hid; rw [EI]
 clear EI
 have HAC : Hid (∀ w', Calls Tryz.prog 87 #[.agg #[.int .i64 9, .int .i64 a, .int .i64 b, .int .i64 c], .int .i64 q] w' fun e w'' => e = .returned (.bool true) ∧ Ext w' w'') := fun w' => by have h := spec_ActsOn_any (⟨9, a, b, c⟩ : Gt) q w'; rw [hs] at h; exact h
 clear hs
 have HC1 : Hid (∀ w', Calls Tryz.prog 43 #[.int .i64 n, .int .i64 q, .bool true] w' fun e w'' => e = .returned (.agg #[.int .i64 n, .int .i64 0, .int .i64 (pw q), .int .i64 0]) ∧ Ext w' w'') := fun w' => spec_l25Single_any n q true w' hq0 hq3
 have HC2 : Hid (∀ w', Calls Tryz.prog 43 #[.int .i64 n, .int .i64 q, .bool false] w' fun e w'' => e = .returned (.agg #[.int .i64 n, .int .i64 (pw q), .int .i64 0, .int .i64 0]) ∧ Ext w' w'') := fun w' => spec_l25Single_any n q false w' hq0 hq3
 have or1 : bits .or .i64 (pw q) 0 = pw q := pw_or0 hq0 hq3
 have or2 : bits .or .i64 0 (pw q) = pw q := pw_0or hq0 hq3
 go_enter Tryz.func71, Tryz.ntmps71
 go_wp2_with fail
 refine (HC1.out _).mono ?_
 rintro e w1 ⟨rfl, hx1⟩
 have HG1 : Hid (Blk w1 w.heap.size 52 #[.int .i64 9, .int .i64 a, .int .i64 b, .int .i64 c]) := ((Blk.new w _ _).alloc _).ext hx1
 have HR1 : Hid (Blk w1 (w.heap.size + 1) 66 #[.int .i64 0, .int .i64 0, .int .i64 0, .int .i64 0]) := (Blk.newAt (b := w.heap.size + 1) (by simp)).ext hx1
 have HX1 : Hid (Ext w w1) := Ext.trans (by exact xx) hx1
 have hl1 : w.heap.size + 2 ≤ w1.heap.size := by have := hx1.size; simpa using this
 clear hx1
 obtain ⟨p9, hp9⟩ : ∃ p9, p9 = w1.heap.size := ⟨_, rfl⟩
 rw [← hp9] at hl1
 go_wp2_with fail
 refine (HC2.out _).mono ?_
 rintro e w2 ⟨rfl, hx2⟩
 have HG2 : Hid (Blk w2 w.heap.size 52 #[.int .i64 9, .int .i64 a, .int .i64 b, .int .i64 c]) := (HG1.out.alloc _).ext hx2
 have HR2 : Hid (Blk w2 (w.heap.size + 1) 66 #[.int .i64 0, .int .i64 0, .int .i64 0, .int .i64 0]) := (HR1.out.alloc _).ext hx2
 have H92 : Hid (Blk w2 p9 66 #[.int .i64 n, .int .i64 0, .int .i64 (pw q), .int .i64 0]) := (Blk.newAt (b := p9) hp9).ext hx2
 have HX2 : Hid (Ext w w2) := (HX1.out.alloc _).trans hx2
 have hl2 : p9 + 1 ≤ w2.heap.size := by have := hx2.size; simp at this; omega
 clear hx2 HG1 HR1 HX1
 rw [← hp9]
 clear hp9
 obtain ⟨p10, hp10⟩ : ∃ p10, p10 = w2.heap.size := ⟨_, rfl⟩
 rw [← hp10] at hl2
 obtain ⟨⟨x0, x1, x2, x3⟩, -⟩ := cells4 (H92.out.alloc (.cells #[.int .i64 n, .int .i64 (pw q), .int .i64 0, .int .i64 0] 66))
 have B10 : Blk (w2.alloc (.cells #[.int .i64 n, .int .i64 (pw q), .int .i64 0, .int .i64 0] 66)) w2.heap.size 66 #[.int .i64 n, .int .i64 (pw q), .int .i64 0, .int .i64 0] := Blk.new _ _ _
 obtain ⟨⟨y0, y1, y2, y3⟩, -⟩ := cells4 B10
 obtain ⟨⟨g0, g1, g2, g3⟩, -⟩ := cells4 ((HG2.out.alloc (.cells #[.int .i64 n, .int .i64 (pw q), .int .i64 0, .int .i64 0] 66)).alloc (.cells #[.int .i64 n, .int .i64 (pw q), .int .i64 (pw q), .int .i64 0] 66))
 go_wp2_with fail
 refine (HAC.out _).mono ?_
 rintro e w3 ⟨rfl, hx3⟩
 rw [← hp10]
 have HG3 : Hid (Blk w3 w.heap.size 52 #[.int .i64 9, .int .i64 a, .int .i64 b, .int .i64 c]) := ((HG2.out.alloc _).alloc _).ext hx3
 have HR3 : Hid (Blk w3 (w.heap.size + 1) 66 #[.int .i64 0, .int .i64 0, .int .i64 0, .int .i64 0]) := ((HR2.out.alloc _).alloc _).ext hx3
 have H93 : Hid (Blk w3 p9 66 #[.int .i64 n, .int .i64 0, .int .i64 (pw q), .int .i64 0]) := ((H92.out.alloc _).alloc _).ext hx3
 have H103 : Hid (Blk w3 p10 66 #[.int .i64 n, .int .i64 (pw q), .int .i64 0, .int .i64 0]) := by rw [hp10]; exact ((B10.alloc _).ext hx3)
 have H113 : Hid (Blk w3 (p10 + 1) 66 #[.int .i64 n, .int .i64 (pw q), .int .i64 (pw q), .int .i64 0]) := by rw [hp10]; exact ((Blk.newAt (b := w2.heap.size + 1) (by simp)).ext hx3)
 have HX3 : Hid (Ext w w3) := ((HX2.out.alloc _).alloc _).trans hx3
 have hl3 : p10 + 2 ≤ w3.heap.size := by have := hx3.size; simp at this; omega
 clear hx3 HG2 HR2 HX2 H92 x0 x1 x2 x3 y0 y1 y2 y3 g0 g1 g2 g3 B10 hp10
 obtain ⟨⟨g0, g1, g2, g3⟩, -⟩ := cells4 HG3.out
 obtain ⟨⟨r0, r1, r2, r3⟩, rf0, rf1, rf2, rf3⟩ := cells4 HR3.out
 obtain ⟨⟨x0, x1, x2, x3⟩, xf0, xf1, xf2, xf3⟩ := cells4 H93.out
 obtain ⟨⟨y0, y1, y2, y3⟩, yf0, yf1, yf2, yf3⟩ := cells4 H103.out
 obtain ⟨⟨z0, z1, z2, z3⟩, zf0, zf1, zf2, zf3⟩ := cells4 H113.out
 have n1 : w.heap.size + 1 ≠ p9 := by omega
 have n2 : w.heap.size + 1 ≠ p10 + 1 := by omega
 go_wp2
 have HBB : Hid (Blk (put4 (w3.setCell ⟨p9, 2, none⟩ (.int .i64 (bits .or .i64 (pw q) (pw a)))) (w.heap.size + 1) (.int .i64 n) (.int .i64 0) (.int .i64 (bits .or .i64 (pw q) (pw a))) (.int .i64 0)) (w.heap.size + 1) 66 #[.int .i64 n, .int .i64 0, .int .i64 (bits .or .i64 (pw q) (pw a)), .int .i64 0]) := (HR3.out.far (p := ⟨p9, 2, none⟩) (by simp; omega) (.int .i64 (bits .or .i64 (pw q) (pw a)))).put4 _ _ _ _
 have HXX : Hid (Ext w (put4 (w3.setCell ⟨p9, 2, none⟩ (.int .i64 (bits .or .i64 (pw q) (pw a)))) (w.heap.size + 1) (.int .i64 n) (.int .i64 0) (.int .i64 (bits .or .i64 (pw q) (pw a))) (.int .i64 0))) := ext_put4 (g := w.heap.size + 1) (HX3.out.setCell (p := ⟨p9, 2, none⟩) (by simp; omega) (.int .i64 (bits .or .i64 (pw q) (pw a)))) (by omega) _ _ _ _
 refine bodyPost_ret (v := .agg #[.int .i64 n, .int .i64 0, .int .i64 (bits .or .i64 (pw q) (pw a)), .int .i64 0]) ?_ rfl ?_
 rotate_left
 ·exact ⟨ER.out.symm, HXX.out⟩
 ·exact retP rfl HBB.out _ (by kernel_rfl) rfl
set_option maxRecDepth 100000 in
set_option maxHeartbeats 8000000 in
theorem spec_image_10fa (a b c n q : Int) (w : World) (hq0 : 0 ≤ q) (hq3 : q ≤ 3) (ha0 : 0 ≤ a) (ha3 : a ≤ 3) (hb0 : 0 ≤ b) (hb3 : b ≤ 3) (hs : acts ⟨10, a, b, c⟩ q = true) (hf : isFst ⟨10, a, b, c⟩ q = true) (hqa : q = a) (hqb : q ≠ b) :
  Calls Tryz.prog 71 #[.int .i64 n, .agg #[.int .i64 10, .int .i64 a, .int .i64 b, .int .i64 c], .int .i64 q, .bool false] w fun e w' => e = .returned (img n (⟨10, a, b, c⟩ : Gt) q false).val ∧ Ext w w' := by
 have sq : wrap64 (2 ^ q.toNat) = pw q := pw_wrap hq0 hq3
 have sq2 : IntKind.i64.wrap (2 ^ q.toNat) = pw q := pw_wrapK hq0 hq3
 have squ : IntKind.u64.wrap q = q := u64_of hq0 hq3
 have sa : wrap64 (2 ^ a.toNat) = pw a := pw_wrap ha0 ha3
 have sa2 : IntKind.i64.wrap (2 ^ a.toNat) = pw a := pw_wrapK ha0 ha3
 have sau : IntKind.u64.wrap a = a := u64_of ha0 ha3
 have sb : wrap64 (2 ^ b.toNat) = pw b := pw_wrap hb0 hb3
 have sb2 : IntKind.i64.wrap (2 ^ b.toNat) = pw b := pw_wrapK hb0 hb3
 have sbu : IntKind.u64.wrap b = b := u64_of hb0 hb3
 have EI : img n ⟨10, a, b, c⟩ q false = ⟨n, pw q, pw b, 0⟩ := by unfold img imgX; rw [← acts_eq (show cliff ⟨10, a, b, c⟩ = true from rfl), hs]; first | rfl | (simp [hf]; done) | (simp [hf, orI]; done)
 have ea : (q == a) = true := by simpa using hqa
 have eb : (q == b) = false := by simpa using hqb
 have s1 : IntKind.i64.wrap (a + b) = a + b := IntWalk.i64_in _ (by omega)
 have s2 : IntKind.i64.wrap (a + b - q) = b := by rw [show a + b - q = b by omega]; exact IntWalk.i64_in _ (by omega)
 clear hf hqa hqb
 have ER : Hid (Ending.returned (img n (⟨10, a, b, c⟩ : Gt) q false).val = Ending.returned (.agg #[.int .i64 n, .int .i64 (pw q), .int .i64 (pw b), .int .i64 0])) := by unfold Hid; rw [EI]
 clear EI
 have HAC : Hid (∀ w', Calls Tryz.prog 87 #[.agg #[.int .i64 10, .int .i64 a, .int .i64 b, .int .i64 c], .int .i64 q] w' fun e w'' => e = .returned (.bool true) ∧ Ext w' w'') := fun w' => by have h := spec_ActsOn_any (⟨10, a, b, c⟩ : Gt) q w'; rw [hs] at h; exact h
 clear hs
 have HC1 : Hid (∀ w', Calls Tryz.prog 43 #[.int .i64 n, .int .i64 q, .bool false] w' fun e w'' => e = .returned (.agg #[.int .i64 n, .int .i64 (pw q), .int .i64 0, .int .i64 0]) ∧ Ext w' w'') := fun w' => spec_l25Single_any n q false w' hq0 hq3
 have HC2 : Hid (∀ w', Calls Tryz.prog 43 #[.int .i64 n, .int .i64 q, .bool true] w' fun e w'' => e = .returned (.agg #[.int .i64 n, .int .i64 0, .int .i64 (pw q), .int .i64 0]) ∧ Ext w' w'') := fun w' => spec_l25Single_any n q true w' hq0 hq3
 have or1 : bits .or .i64 (pw q) 0 = pw q := pw_or0 hq0 hq3
 have or2 : bits .or .i64 0 (pw q) = pw q := pw_0or hq0 hq3
 go_enter Tryz.func71, Tryz.ntmps71
 go_wp2_with fail
 refine (HC1.out _).mono ?_
 rintro e w1 ⟨rfl, hx1⟩
 have HG1 : Hid (Blk w1 w.heap.size 52 #[.int .i64 10, .int .i64 a, .int .i64 b, .int .i64 c]) := ((Blk.new w _ _).alloc _).ext hx1
 have HR1 : Hid (Blk w1 (w.heap.size + 1) 66 #[.int .i64 0, .int .i64 0, .int .i64 0, .int .i64 0]) := (Blk.newAt (b := w.heap.size + 1) (by simp)).ext hx1
 have HX1 : Hid (Ext w w1) := Ext.trans (by exact xx) hx1
 have hl1 : w.heap.size + 2 ≤ w1.heap.size := by have := hx1.size; simpa using this
 clear hx1
 obtain ⟨p9, hp9⟩ : ∃ p9, p9 = w1.heap.size := ⟨_, rfl⟩
 rw [← hp9] at hl1
 go_wp2_with fail
 refine (HC2.out _).mono ?_
 rintro e w2 ⟨rfl, hx2⟩
 have HG2 : Hid (Blk w2 w.heap.size 52 #[.int .i64 10, .int .i64 a, .int .i64 b, .int .i64 c]) := (HG1.out.alloc _).ext hx2
 have HR2 : Hid (Blk w2 (w.heap.size + 1) 66 #[.int .i64 0, .int .i64 0, .int .i64 0, .int .i64 0]) := (HR1.out.alloc _).ext hx2
 have H92 : Hid (Blk w2 p9 66 #[.int .i64 n, .int .i64 (pw q), .int .i64 0, .int .i64 0]) := (Blk.newAt (b := p9) hp9).ext hx2
 have HX2 : Hid (Ext w w2) := (HX1.out.alloc _).trans hx2
 have hl2 : p9 + 1 ≤ w2.heap.size := by have := hx2.size; simp at this; omega
 clear hx2 HG1 HR1 HX1
 rw [← hp9]
 clear hp9
 obtain ⟨p10, hp10⟩ : ∃ p10, p10 = w2.heap.size := ⟨_, rfl⟩
 rw [← hp10] at hl2
 obtain ⟨⟨x0, x1, x2, x3⟩, -⟩ := cells4 (H92.out.alloc (.cells #[.int .i64 n, .int .i64 0, .int .i64 (pw q), .int .i64 0] 66))
 have B10 : Blk (w2.alloc (.cells #[.int .i64 n, .int .i64 0, .int .i64 (pw q), .int .i64 0] 66)) w2.heap.size 66 #[.int .i64 n, .int .i64 0, .int .i64 (pw q), .int .i64 0] := Blk.new _ _ _
 obtain ⟨⟨y0, y1, y2, y3⟩, -⟩ := cells4 B10
 obtain ⟨⟨g0, g1, g2, g3⟩, -⟩ := cells4 ((HG2.out.alloc (.cells #[.int .i64 n, .int .i64 0, .int .i64 (pw q), .int .i64 0] 66)).alloc (.cells #[.int .i64 n, .int .i64 (pw q), .int .i64 (pw q), .int .i64 0] 66))
 go_wp2_with fail
 refine (HAC.out _).mono ?_
 rintro e w3 ⟨rfl, hx3⟩
 rw [← hp10]
 have HG3 : Hid (Blk w3 w.heap.size 52 #[.int .i64 10, .int .i64 a, .int .i64 b, .int .i64 c]) := ((HG2.out.alloc _).alloc _).ext hx3
 have HR3 : Hid (Blk w3 (w.heap.size + 1) 66 #[.int .i64 0, .int .i64 0, .int .i64 0, .int .i64 0]) := ((HR2.out.alloc _).alloc _).ext hx3
 have H93 : Hid (Blk w3 p9 66 #[.int .i64 n, .int .i64 (pw q), .int .i64 0, .int .i64 0]) := ((H92.out.alloc _).alloc _).ext hx3
 have H103 : Hid (Blk w3 p10 66 #[.int .i64 n, .int .i64 0, .int .i64 (pw q), .int .i64 0]) := by rw [hp10]; exact ((B10.alloc _).ext hx3)
 have H113 : Hid (Blk w3 (p10 + 1) 66 #[.int .i64 n, .int .i64 (pw q), .int .i64 (pw q), .int .i64 0]) := by rw [hp10]; exact ((Blk.newAt (b := w2.heap.size + 1) (by simp)).ext hx3)
 have HX3 : Hid (Ext w w3) := ((HX2.out.alloc _).alloc _).trans hx3
 have hl3 : p10 + 2 ≤ w3.heap.size := by have := hx3.size; simp at this; omega
 clear hx3 HG2 HR2 HX2 H92 x0 x1 x2 x3 y0 y1 y2 y3 g0 g1 g2 g3 B10 hp10
 obtain ⟨⟨g0, g1, g2, g3⟩, -⟩ := cells4 HG3.out
 obtain ⟨⟨r0, r1, r2, r3⟩, rf0, rf1, rf2, rf3⟩ := cells4 HR3.out
 obtain ⟨⟨x0, x1, x2, x3⟩, xf0, xf1, xf2, xf3⟩ := cells4 H93.out
 obtain ⟨⟨y0, y1, y2, y3⟩, yf0, yf1, yf2, yf3⟩ := cells4 H103.out
 obtain ⟨⟨z0, z1, z2, z3⟩, zf0, zf1, zf2, zf3⟩ := cells4 H113.out
 have n1 : w.heap.size + 1 ≠ p9 := by omega
 have n2 : w.heap.size + 1 ≠ p10 + 1 := by omega
 go_wp2
 have HBB : Hid (Blk (put4 (w3.setCell ⟨p9, 2, none⟩ (.int .i64 (pw b))) (w.heap.size + 1) (.int .i64 n) (.int .i64 (pw q)) (.int .i64 (pw b)) (.int .i64 0)) (w.heap.size + 1) 66 #[.int .i64 n, .int .i64 (pw q), .int .i64 (pw b), .int .i64 0]) := (HR3.out.far (p := ⟨p9, 2, none⟩) (by simp; omega) (.int .i64 (pw b))).put4 _ _ _ _
 have HXX : Hid (Ext w (put4 (w3.setCell ⟨p9, 2, none⟩ (.int .i64 (pw b))) (w.heap.size + 1) (.int .i64 n) (.int .i64 (pw q)) (.int .i64 (pw b)) (.int .i64 0))) := ext_put4 (g := w.heap.size + 1) (HX3.out.setCell (p := ⟨p9, 2, none⟩) (by simp; omega) (.int .i64 (pw b))) (by omega) _ _ _ _
 refine bodyPost_ret (v := .agg #[.int .i64 n, .int .i64 (pw q), .int .i64 (pw b), .int .i64 0]) ?_ rfl ?_
 rotate_left
 ·exact ⟨ER.out.symm, HXX.out⟩
 ·exact retP rfl HBB.out _ (by kernel_rfl) rfl
set_option maxRecDepth 100000 in
set_option maxHeartbeats 8000000 in
theorem spec_image_10ta (a b c n q : Int) (w : World) (hq0 : 0 ≤ q) (hq3 : q ≤ 3) (ha0 : 0 ≤ a) (ha3 : a ≤ 3) (hb0 : 0 ≤ b) (hb3 : b ≤ 3) (hs : acts ⟨10, a, b, c⟩ q = true) (hf : isFst ⟨10, a, b, c⟩ q = true) (hqa : q = a) (hqb : q ≠ b) :
  Calls Tryz.prog 71 #[.int .i64 n, .agg #[.int .i64 10, .int .i64 a, .int .i64 b, .int .i64 c], .int .i64 q, .bool true] w fun e w' => e = .returned (img n (⟨10, a, b, c⟩ : Gt) q true).val ∧ Ext w w' := by
 have sq : wrap64 (2 ^ q.toNat) = pw q := pw_wrap hq0 hq3
 have sq2 : IntKind.i64.wrap (2 ^ q.toNat) = pw q := pw_wrapK hq0 hq3
 have squ : IntKind.u64.wrap q = q := u64_of hq0 hq3
 have sa : wrap64 (2 ^ a.toNat) = pw a := pw_wrap ha0 ha3
 have sa2 : IntKind.i64.wrap (2 ^ a.toNat) = pw a := pw_wrapK ha0 ha3
 have sau : IntKind.u64.wrap a = a := u64_of ha0 ha3
 have sb : wrap64 (2 ^ b.toNat) = pw b := pw_wrap hb0 hb3
 have sb2 : IntKind.i64.wrap (2 ^ b.toNat) = pw b := pw_wrapK hb0 hb3
 have sbu : IntKind.u64.wrap b = b := u64_of hb0 hb3
 have EI : img n ⟨10, a, b, c⟩ q true = ⟨n, 0, pw q, 0⟩ := by unfold img imgZ; rw [← acts_eq (show cliff ⟨10, a, b, c⟩ = true from rfl), hs]; first | rfl | (simp [hf]; done) | (simp [hf, orI]; done)
 have ea : (q == a) = true := by simpa using hqa
 have eb : (q == b) = false := by simpa using hqb
 clear hf hqa hqb
 have ER : Hid (Ending.returned (img n (⟨10, a, b, c⟩ : Gt) q true).val = Ending.returned (.agg #[.int .i64 n, .int .i64 0, .int .i64 (pw q), .int .i64 0])) := by unfold Hid; rw [EI]
 clear EI
 have HAC : Hid (∀ w', Calls Tryz.prog 87 #[.agg #[.int .i64 10, .int .i64 a, .int .i64 b, .int .i64 c], .int .i64 q] w' fun e w'' => e = .returned (.bool true) ∧ Ext w' w'') := fun w' => by have h := spec_ActsOn_any (⟨10, a, b, c⟩ : Gt) q w'; rw [hs] at h; exact h
 clear hs
 have HC1 : Hid (∀ w', Calls Tryz.prog 43 #[.int .i64 n, .int .i64 q, .bool true] w' fun e w'' => e = .returned (.agg #[.int .i64 n, .int .i64 0, .int .i64 (pw q), .int .i64 0]) ∧ Ext w' w'') := fun w' => spec_l25Single_any n q true w' hq0 hq3
 have HC2 : Hid (∀ w', Calls Tryz.prog 43 #[.int .i64 n, .int .i64 q, .bool false] w' fun e w'' => e = .returned (.agg #[.int .i64 n, .int .i64 (pw q), .int .i64 0, .int .i64 0]) ∧ Ext w' w'') := fun w' => spec_l25Single_any n q false w' hq0 hq3
 have or1 : bits .or .i64 (pw q) 0 = pw q := pw_or0 hq0 hq3
 have or2 : bits .or .i64 0 (pw q) = pw q := pw_0or hq0 hq3
 go_enter Tryz.func71, Tryz.ntmps71
 go_wp2_with fail
 refine (HC1.out _).mono ?_
 rintro e w1 ⟨rfl, hx1⟩
 have HG1 : Hid (Blk w1 w.heap.size 52 #[.int .i64 10, .int .i64 a, .int .i64 b, .int .i64 c]) := ((Blk.new w _ _).alloc _).ext hx1
 have HR1 : Hid (Blk w1 (w.heap.size + 1) 66 #[.int .i64 0, .int .i64 0, .int .i64 0, .int .i64 0]) := (Blk.newAt (b := w.heap.size + 1) (by simp)).ext hx1
 have HX1 : Hid (Ext w w1) := Ext.trans (by exact xx) hx1
 have hl1 : w.heap.size + 2 ≤ w1.heap.size := by have := hx1.size; simpa using this
 clear hx1
 obtain ⟨p9, hp9⟩ : ∃ p9, p9 = w1.heap.size := ⟨_, rfl⟩
 rw [← hp9] at hl1
 go_wp2_with fail
 refine (HC2.out _).mono ?_
 rintro e w2 ⟨rfl, hx2⟩
 have HG2 : Hid (Blk w2 w.heap.size 52 #[.int .i64 10, .int .i64 a, .int .i64 b, .int .i64 c]) := (HG1.out.alloc _).ext hx2
 have HR2 : Hid (Blk w2 (w.heap.size + 1) 66 #[.int .i64 0, .int .i64 0, .int .i64 0, .int .i64 0]) := (HR1.out.alloc _).ext hx2
 have H92 : Hid (Blk w2 p9 66 #[.int .i64 n, .int .i64 0, .int .i64 (pw q), .int .i64 0]) := (Blk.newAt (b := p9) hp9).ext hx2
 have HX2 : Hid (Ext w w2) := (HX1.out.alloc _).trans hx2
 have hl2 : p9 + 1 ≤ w2.heap.size := by have := hx2.size; simp at this; omega
 clear hx2 HG1 HR1 HX1
 rw [← hp9]
 clear hp9
 obtain ⟨p10, hp10⟩ : ∃ p10, p10 = w2.heap.size := ⟨_, rfl⟩
 rw [← hp10] at hl2
 obtain ⟨⟨x0, x1, x2, x3⟩, -⟩ := cells4 (H92.out.alloc (.cells #[.int .i64 n, .int .i64 (pw q), .int .i64 0, .int .i64 0] 66))
 have B10 : Blk (w2.alloc (.cells #[.int .i64 n, .int .i64 (pw q), .int .i64 0, .int .i64 0] 66)) w2.heap.size 66 #[.int .i64 n, .int .i64 (pw q), .int .i64 0, .int .i64 0] := Blk.new _ _ _
 obtain ⟨⟨y0, y1, y2, y3⟩, -⟩ := cells4 B10
 obtain ⟨⟨g0, g1, g2, g3⟩, -⟩ := cells4 ((HG2.out.alloc (.cells #[.int .i64 n, .int .i64 (pw q), .int .i64 0, .int .i64 0] 66)).alloc (.cells #[.int .i64 n, .int .i64 (pw q), .int .i64 (pw q), .int .i64 0] 66))
 go_wp2_with fail
 refine (HAC.out _).mono ?_
 rintro e w3 ⟨rfl, hx3⟩
 rw [← hp10]
 have HG3 : Hid (Blk w3 w.heap.size 52 #[.int .i64 10, .int .i64 a, .int .i64 b, .int .i64 c]) := ((HG2.out.alloc _).alloc _).ext hx3
 have HR3 : Hid (Blk w3 (w.heap.size + 1) 66 #[.int .i64 0, .int .i64 0, .int .i64 0, .int .i64 0]) := ((HR2.out.alloc _).alloc _).ext hx3
 have H93 : Hid (Blk w3 p9 66 #[.int .i64 n, .int .i64 0, .int .i64 (pw q), .int .i64 0]) := ((H92.out.alloc _).alloc _).ext hx3
 have H103 : Hid (Blk w3 p10 66 #[.int .i64 n, .int .i64 (pw q), .int .i64 0, .int .i64 0]) := by rw [hp10]; exact ((B10.alloc _).ext hx3)
 have H113 : Hid (Blk w3 (p10 + 1) 66 #[.int .i64 n, .int .i64 (pw q), .int .i64 (pw q), .int .i64 0]) := by rw [hp10]; exact ((Blk.newAt (b := w2.heap.size + 1) (by simp)).ext hx3)
 have HX3 : Hid (Ext w w3) := ((HX2.out.alloc _).alloc _).trans hx3
 have hl3 : p10 + 2 ≤ w3.heap.size := by have := hx3.size; simp at this; omega
 clear hx3 HG2 HR2 HX2 H92 x0 x1 x2 x3 y0 y1 y2 y3 g0 g1 g2 g3 B10 hp10
 obtain ⟨⟨g0, g1, g2, g3⟩, -⟩ := cells4 HG3.out
 obtain ⟨⟨r0, r1, r2, r3⟩, rf0, rf1, rf2, rf3⟩ := cells4 HR3.out
 obtain ⟨⟨x0, x1, x2, x3⟩, xf0, xf1, xf2, xf3⟩ := cells4 H93.out
 obtain ⟨⟨y0, y1, y2, y3⟩, yf0, yf1, yf2, yf3⟩ := cells4 H103.out
 obtain ⟨⟨z0, z1, z2, z3⟩, zf0, zf1, zf2, zf3⟩ := cells4 H113.out
 have n1 : w.heap.size + 1 ≠ p9 := by omega
 have n2 : w.heap.size + 1 ≠ p10 + 1 := by omega
 go_wp2
 have HBB : Hid (Blk (put4 w3 (w.heap.size + 1) (.int .i64 n) (.int .i64 0) (.int .i64 (pw q)) (.int .i64 0)) (w.heap.size + 1) 66 #[.int .i64 n, .int .i64 0, .int .i64 (pw q), .int .i64 0]) := HR3.out.put4 _ _ _ _
 have HXX : Hid (Ext w (put4 w3 (w.heap.size + 1) (.int .i64 n) (.int .i64 0) (.int .i64 (pw q)) (.int .i64 0))) := ext_put4 (g := w.heap.size + 1) HX3.out (by omega) _ _ _ _
 refine bodyPost_ret (v := .agg #[.int .i64 n, .int .i64 0, .int .i64 (pw q), .int .i64 0]) ?_ rfl ?_
 rotate_left
 ·exact ⟨ER.out.symm, HXX.out⟩
 ·exact retP rfl HBB.out _ (by kernel_rfl) rfl
set_option maxRecDepth 100000 in
set_option maxHeartbeats 8000000 in
theorem spec_image_10fb (a b c n q : Int) (w : World) (hq0 : 0 ≤ q) (hq3 : q ≤ 3) (ha0 : 0 ≤ a) (ha3 : a ≤ 3) (hb0 : 0 ≤ b) (hb3 : b ≤ 3) (hs : acts ⟨10, a, b, c⟩ q = true) (hf : isFst ⟨10, a, b, c⟩ q = false) (hqa : q ≠ a) (hqb : q = b) :
  Calls Tryz.prog 71 #[.int .i64 n, .agg #[.int .i64 10, .int .i64 a, .int .i64 b, .int .i64 c], .int .i64 q, .bool false] w fun e w' => e = .returned (img n (⟨10, a, b, c⟩ : Gt) q false).val ∧ Ext w w' := by
 have sq : wrap64 (2 ^ q.toNat) = pw q := pw_wrap hq0 hq3
 have sq2 : IntKind.i64.wrap (2 ^ q.toNat) = pw q := pw_wrapK hq0 hq3
 have squ : IntKind.u64.wrap q = q := u64_of hq0 hq3
 have sa : wrap64 (2 ^ a.toNat) = pw a := pw_wrap ha0 ha3
 have sa2 : IntKind.i64.wrap (2 ^ a.toNat) = pw a := pw_wrapK ha0 ha3
 have sau : IntKind.u64.wrap a = a := u64_of ha0 ha3
 have sb : wrap64 (2 ^ b.toNat) = pw b := pw_wrap hb0 hb3
 have sb2 : IntKind.i64.wrap (2 ^ b.toNat) = pw b := pw_wrapK hb0 hb3
 have sbu : IntKind.u64.wrap b = b := u64_of hb0 hb3
 have EI : img n ⟨10, a, b, c⟩ q false = ⟨n, pw q, pw a, 0⟩ := by unfold img imgX; rw [← acts_eq (show cliff ⟨10, a, b, c⟩ = true from rfl), hs]; first | rfl | (simp [hf]; done) | (simp [hf, orI]; done)
 have ea : (q == a) = false := by simpa using hqa
 have eb : (q == b) = true := by simpa using hqb
 have s1 : IntKind.i64.wrap (a + b) = a + b := IntWalk.i64_in _ (by omega)
 have s2 : IntKind.i64.wrap (a + b - q) = a := by rw [show a + b - q = a by omega]; exact IntWalk.i64_in _ (by omega)
 clear hf hqa hqb
 have ER : Hid (Ending.returned (img n (⟨10, a, b, c⟩ : Gt) q false).val = Ending.returned (.agg #[.int .i64 n, .int .i64 (pw q), .int .i64 (pw a), .int .i64 0])) := by unfold Hid; rw [EI]
 clear EI
 have HAC : Hid (∀ w', Calls Tryz.prog 87 #[.agg #[.int .i64 10, .int .i64 a, .int .i64 b, .int .i64 c], .int .i64 q] w' fun e w'' => e = .returned (.bool true) ∧ Ext w' w'') := fun w' => by have h := spec_ActsOn_any (⟨10, a, b, c⟩ : Gt) q w'; rw [hs] at h; exact h
 clear hs
 have HC1 : Hid (∀ w', Calls Tryz.prog 43 #[.int .i64 n, .int .i64 q, .bool false] w' fun e w'' => e = .returned (.agg #[.int .i64 n, .int .i64 (pw q), .int .i64 0, .int .i64 0]) ∧ Ext w' w'') := fun w' => spec_l25Single_any n q false w' hq0 hq3
 have HC2 : Hid (∀ w', Calls Tryz.prog 43 #[.int .i64 n, .int .i64 q, .bool true] w' fun e w'' => e = .returned (.agg #[.int .i64 n, .int .i64 0, .int .i64 (pw q), .int .i64 0]) ∧ Ext w' w'') := fun w' => spec_l25Single_any n q true w' hq0 hq3
 have or1 : bits .or .i64 (pw q) 0 = pw q := pw_or0 hq0 hq3
 have or2 : bits .or .i64 0 (pw q) = pw q := pw_0or hq0 hq3
 go_enter Tryz.func71, Tryz.ntmps71
 go_wp2_with fail
 refine (HC1.out _).mono ?_
 rintro e w1 ⟨rfl, hx1⟩
 have HG1 : Hid (Blk w1 w.heap.size 52 #[.int .i64 10, .int .i64 a, .int .i64 b, .int .i64 c]) := ((Blk.new w _ _).alloc _).ext hx1
 have HR1 : Hid (Blk w1 (w.heap.size + 1) 66 #[.int .i64 0, .int .i64 0, .int .i64 0, .int .i64 0]) := (Blk.newAt (b := w.heap.size + 1) (by simp)).ext hx1
 have HX1 : Hid (Ext w w1) := Ext.trans (by exact xx) hx1
 have hl1 : w.heap.size + 2 ≤ w1.heap.size := by have := hx1.size; simpa using this
 clear hx1
 obtain ⟨p9, hp9⟩ : ∃ p9, p9 = w1.heap.size := ⟨_, rfl⟩
 rw [← hp9] at hl1
 go_wp2_with fail
 refine (HC2.out _).mono ?_
 rintro e w2 ⟨rfl, hx2⟩
 have HG2 : Hid (Blk w2 w.heap.size 52 #[.int .i64 10, .int .i64 a, .int .i64 b, .int .i64 c]) := (HG1.out.alloc _).ext hx2
 have HR2 : Hid (Blk w2 (w.heap.size + 1) 66 #[.int .i64 0, .int .i64 0, .int .i64 0, .int .i64 0]) := (HR1.out.alloc _).ext hx2
 have H92 : Hid (Blk w2 p9 66 #[.int .i64 n, .int .i64 (pw q), .int .i64 0, .int .i64 0]) := (Blk.newAt (b := p9) hp9).ext hx2
 have HX2 : Hid (Ext w w2) := (HX1.out.alloc _).trans hx2
 have hl2 : p9 + 1 ≤ w2.heap.size := by have := hx2.size; simp at this; omega
 clear hx2 HG1 HR1 HX1
 rw [← hp9]
 clear hp9
 obtain ⟨p10, hp10⟩ : ∃ p10, p10 = w2.heap.size := ⟨_, rfl⟩
 rw [← hp10] at hl2
 obtain ⟨⟨x0, x1, x2, x3⟩, -⟩ := cells4 (H92.out.alloc (.cells #[.int .i64 n, .int .i64 0, .int .i64 (pw q), .int .i64 0] 66))
 have B10 : Blk (w2.alloc (.cells #[.int .i64 n, .int .i64 0, .int .i64 (pw q), .int .i64 0] 66)) w2.heap.size 66 #[.int .i64 n, .int .i64 0, .int .i64 (pw q), .int .i64 0] := Blk.new _ _ _
 obtain ⟨⟨y0, y1, y2, y3⟩, -⟩ := cells4 B10
 obtain ⟨⟨g0, g1, g2, g3⟩, -⟩ := cells4 ((HG2.out.alloc (.cells #[.int .i64 n, .int .i64 0, .int .i64 (pw q), .int .i64 0] 66)).alloc (.cells #[.int .i64 n, .int .i64 (pw q), .int .i64 (pw q), .int .i64 0] 66))
 go_wp2_with fail
 refine (HAC.out _).mono ?_
 rintro e w3 ⟨rfl, hx3⟩
 rw [← hp10]
 have HG3 : Hid (Blk w3 w.heap.size 52 #[.int .i64 10, .int .i64 a, .int .i64 b, .int .i64 c]) := ((HG2.out.alloc _).alloc _).ext hx3
 have HR3 : Hid (Blk w3 (w.heap.size + 1) 66 #[.int .i64 0, .int .i64 0, .int .i64 0, .int .i64 0]) := ((HR2.out.alloc _).alloc _).ext hx3
 have H93 : Hid (Blk w3 p9 66 #[.int .i64 n, .int .i64 (pw q), .int .i64 0, .int .i64 0]) := ((H92.out.alloc _).alloc _).ext hx3
 have H103 : Hid (Blk w3 p10 66 #[.int .i64 n, .int .i64 0, .int .i64 (pw q), .int .i64 0]) := by rw [hp10]; exact ((B10.alloc _).ext hx3)
 have H113 : Hid (Blk w3 (p10 + 1) 66 #[.int .i64 n, .int .i64 (pw q), .int .i64 (pw q), .int .i64 0]) := by rw [hp10]; exact ((Blk.newAt (b := w2.heap.size + 1) (by simp)).ext hx3)
 have HX3 : Hid (Ext w w3) := ((HX2.out.alloc _).alloc _).trans hx3
 have hl3 : p10 + 2 ≤ w3.heap.size := by have := hx3.size; simp at this; omega
 clear hx3 HG2 HR2 HX2 H92 x0 x1 x2 x3 y0 y1 y2 y3 g0 g1 g2 g3 B10 hp10
 obtain ⟨⟨g0, g1, g2, g3⟩, -⟩ := cells4 HG3.out
 obtain ⟨⟨r0, r1, r2, r3⟩, rf0, rf1, rf2, rf3⟩ := cells4 HR3.out
 obtain ⟨⟨x0, x1, x2, x3⟩, xf0, xf1, xf2, xf3⟩ := cells4 H93.out
 obtain ⟨⟨y0, y1, y2, y3⟩, yf0, yf1, yf2, yf3⟩ := cells4 H103.out
 obtain ⟨⟨z0, z1, z2, z3⟩, zf0, zf1, zf2, zf3⟩ := cells4 H113.out
 have n1 : w.heap.size + 1 ≠ p9 := by omega
 have n2 : w.heap.size + 1 ≠ p10 + 1 := by omega
 go_wp2
 have HBB : Hid (Blk (put4 (w3.setCell ⟨p9, 2, none⟩ (.int .i64 (pw a))) (w.heap.size + 1) (.int .i64 n) (.int .i64 (pw q)) (.int .i64 (pw a)) (.int .i64 0)) (w.heap.size + 1) 66 #[.int .i64 n, .int .i64 (pw q), .int .i64 (pw a), .int .i64 0]) := (HR3.out.far (p := ⟨p9, 2, none⟩) (by simp; omega) (.int .i64 (pw a))).put4 _ _ _ _
 have HXX : Hid (Ext w (put4 (w3.setCell ⟨p9, 2, none⟩ (.int .i64 (pw a))) (w.heap.size + 1) (.int .i64 n) (.int .i64 (pw q)) (.int .i64 (pw a)) (.int .i64 0))) := ext_put4 (g := w.heap.size + 1) (HX3.out.setCell (p := ⟨p9, 2, none⟩) (by simp; omega) (.int .i64 (pw a))) (by omega) _ _ _ _
 refine bodyPost_ret (v := .agg #[.int .i64 n, .int .i64 (pw q), .int .i64 (pw a), .int .i64 0]) ?_ rfl ?_
 rotate_left
 ·exact ⟨ER.out.symm, HXX.out⟩
 ·exact retP rfl HBB.out _ (by kernel_rfl) rfl
set_option maxRecDepth 100000 in
set_option maxHeartbeats 8000000 in
theorem spec_image_10tb (a b c n q : Int) (w : World) (hq0 : 0 ≤ q) (hq3 : q ≤ 3) (ha0 : 0 ≤ a) (ha3 : a ≤ 3) (hb0 : 0 ≤ b) (hb3 : b ≤ 3) (hs : acts ⟨10, a, b, c⟩ q = true) (hf : isFst ⟨10, a, b, c⟩ q = false) (hqa : q ≠ a) (hqb : q = b) :
  Calls Tryz.prog 71 #[.int .i64 n, .agg #[.int .i64 10, .int .i64 a, .int .i64 b, .int .i64 c], .int .i64 q, .bool true] w fun e w' => e = .returned (img n (⟨10, a, b, c⟩ : Gt) q true).val ∧ Ext w w' := by
 have sq : wrap64 (2 ^ q.toNat) = pw q := pw_wrap hq0 hq3
 have sq2 : IntKind.i64.wrap (2 ^ q.toNat) = pw q := pw_wrapK hq0 hq3
 have squ : IntKind.u64.wrap q = q := u64_of hq0 hq3
 have sa : wrap64 (2 ^ a.toNat) = pw a := pw_wrap ha0 ha3
 have sa2 : IntKind.i64.wrap (2 ^ a.toNat) = pw a := pw_wrapK ha0 ha3
 have sau : IntKind.u64.wrap a = a := u64_of ha0 ha3
 have sb : wrap64 (2 ^ b.toNat) = pw b := pw_wrap hb0 hb3
 have sb2 : IntKind.i64.wrap (2 ^ b.toNat) = pw b := pw_wrapK hb0 hb3
 have sbu : IntKind.u64.wrap b = b := u64_of hb0 hb3
 have EI : img n ⟨10, a, b, c⟩ q true = ⟨n, 0, pw q, 0⟩ := by unfold img imgZ; rw [← acts_eq (show cliff ⟨10, a, b, c⟩ = true from rfl), hs]; first | rfl | (simp [hf]; done) | (simp [hf, orI]; done)
 have ea : (q == a) = false := by simpa using hqa
 have eb : (q == b) = true := by simpa using hqb
 clear hf hqa hqb
 have ER : Hid (Ending.returned (img n (⟨10, a, b, c⟩ : Gt) q true).val = Ending.returned (.agg #[.int .i64 n, .int .i64 0, .int .i64 (pw q), .int .i64 0])) := by unfold Hid; rw [EI]
 clear EI
 have HAC : Hid (∀ w', Calls Tryz.prog 87 #[.agg #[.int .i64 10, .int .i64 a, .int .i64 b, .int .i64 c], .int .i64 q] w' fun e w'' => e = .returned (.bool true) ∧ Ext w' w'') := fun w' => by have h := spec_ActsOn_any (⟨10, a, b, c⟩ : Gt) q w'; rw [hs] at h; exact h
 clear hs
 have HC1 : Hid (∀ w', Calls Tryz.prog 43 #[.int .i64 n, .int .i64 q, .bool true] w' fun e w'' => e = .returned (.agg #[.int .i64 n, .int .i64 0, .int .i64 (pw q), .int .i64 0]) ∧ Ext w' w'') := fun w' => spec_l25Single_any n q true w' hq0 hq3
 have HC2 : Hid (∀ w', Calls Tryz.prog 43 #[.int .i64 n, .int .i64 q, .bool false] w' fun e w'' => e = .returned (.agg #[.int .i64 n, .int .i64 (pw q), .int .i64 0, .int .i64 0]) ∧ Ext w' w'') := fun w' => spec_l25Single_any n q false w' hq0 hq3
 have or1 : bits .or .i64 (pw q) 0 = pw q := pw_or0 hq0 hq3
 have or2 : bits .or .i64 0 (pw q) = pw q := pw_0or hq0 hq3
 go_enter Tryz.func71, Tryz.ntmps71
 go_wp2_with fail
 refine (HC1.out _).mono ?_
 rintro e w1 ⟨rfl, hx1⟩
 have HG1 : Hid (Blk w1 w.heap.size 52 #[.int .i64 10, .int .i64 a, .int .i64 b, .int .i64 c]) := ((Blk.new w _ _).alloc _).ext hx1
 have HR1 : Hid (Blk w1 (w.heap.size + 1) 66 #[.int .i64 0, .int .i64 0, .int .i64 0, .int .i64 0]) := (Blk.newAt (b := w.heap.size + 1) (by simp)).ext hx1
 have HX1 : Hid (Ext w w1) := Ext.trans (by exact xx) hx1
 have hl1 : w.heap.size + 2 ≤ w1.heap.size := by have := hx1.size; simpa using this
 clear hx1
 obtain ⟨p9, hp9⟩ : ∃ p9, p9 = w1.heap.size := ⟨_, rfl⟩
 rw [← hp9] at hl1
 go_wp2_with fail
 refine (HC2.out _).mono ?_
 rintro e w2 ⟨rfl, hx2⟩
 have HG2 : Hid (Blk w2 w.heap.size 52 #[.int .i64 10, .int .i64 a, .int .i64 b, .int .i64 c]) := (HG1.out.alloc _).ext hx2
 have HR2 : Hid (Blk w2 (w.heap.size + 1) 66 #[.int .i64 0, .int .i64 0, .int .i64 0, .int .i64 0]) := (HR1.out.alloc _).ext hx2
 have H92 : Hid (Blk w2 p9 66 #[.int .i64 n, .int .i64 0, .int .i64 (pw q), .int .i64 0]) := (Blk.newAt (b := p9) hp9).ext hx2
 have HX2 : Hid (Ext w w2) := (HX1.out.alloc _).trans hx2
 have hl2 : p9 + 1 ≤ w2.heap.size := by have := hx2.size; simp at this; omega
 clear hx2 HG1 HR1 HX1
 rw [← hp9]
 clear hp9
 obtain ⟨p10, hp10⟩ : ∃ p10, p10 = w2.heap.size := ⟨_, rfl⟩
 rw [← hp10] at hl2
 obtain ⟨⟨x0, x1, x2, x3⟩, -⟩ := cells4 (H92.out.alloc (.cells #[.int .i64 n, .int .i64 (pw q), .int .i64 0, .int .i64 0] 66))
 have B10 : Blk (w2.alloc (.cells #[.int .i64 n, .int .i64 (pw q), .int .i64 0, .int .i64 0] 66)) w2.heap.size 66 #[.int .i64 n, .int .i64 (pw q), .int .i64 0, .int .i64 0] := Blk.new _ _ _
 obtain ⟨⟨y0, y1, y2, y3⟩, -⟩ := cells4 B10
 obtain ⟨⟨g0, g1, g2, g3⟩, -⟩ := cells4 ((HG2.out.alloc (.cells #[.int .i64 n, .int .i64 (pw q), .int .i64 0, .int .i64 0] 66)).alloc (.cells #[.int .i64 n, .int .i64 (pw q), .int .i64 (pw q), .int .i64 0] 66))
 go_wp2_with fail
 refine (HAC.out _).mono ?_
 rintro e w3 ⟨rfl, hx3⟩
 rw [← hp10]
 have HG3 : Hid (Blk w3 w.heap.size 52 #[.int .i64 10, .int .i64 a, .int .i64 b, .int .i64 c]) := ((HG2.out.alloc _).alloc _).ext hx3
 have HR3 : Hid (Blk w3 (w.heap.size + 1) 66 #[.int .i64 0, .int .i64 0, .int .i64 0, .int .i64 0]) := ((HR2.out.alloc _).alloc _).ext hx3
 have H93 : Hid (Blk w3 p9 66 #[.int .i64 n, .int .i64 0, .int .i64 (pw q), .int .i64 0]) := ((H92.out.alloc _).alloc _).ext hx3
 have H103 : Hid (Blk w3 p10 66 #[.int .i64 n, .int .i64 (pw q), .int .i64 0, .int .i64 0]) := by rw [hp10]; exact ((B10.alloc _).ext hx3)
 have H113 : Hid (Blk w3 (p10 + 1) 66 #[.int .i64 n, .int .i64 (pw q), .int .i64 (pw q), .int .i64 0]) := by rw [hp10]; exact ((Blk.newAt (b := w2.heap.size + 1) (by simp)).ext hx3)
 have HX3 : Hid (Ext w w3) := ((HX2.out.alloc _).alloc _).trans hx3
 have hl3 : p10 + 2 ≤ w3.heap.size := by have := hx3.size; simp at this; omega
 clear hx3 HG2 HR2 HX2 H92 x0 x1 x2 x3 y0 y1 y2 y3 g0 g1 g2 g3 B10 hp10
 obtain ⟨⟨g0, g1, g2, g3⟩, -⟩ := cells4 HG3.out
 obtain ⟨⟨r0, r1, r2, r3⟩, rf0, rf1, rf2, rf3⟩ := cells4 HR3.out
 obtain ⟨⟨x0, x1, x2, x3⟩, xf0, xf1, xf2, xf3⟩ := cells4 H93.out
 obtain ⟨⟨y0, y1, y2, y3⟩, yf0, yf1, yf2, yf3⟩ := cells4 H103.out
 obtain ⟨⟨z0, z1, z2, z3⟩, zf0, zf1, zf2, zf3⟩ := cells4 H113.out
 have n1 : w.heap.size + 1 ≠ p9 := by omega
 have n2 : w.heap.size + 1 ≠ p10 + 1 := by omega
 go_wp2
 have HBB : Hid (Blk (put4 w3 (w.heap.size + 1) (.int .i64 n) (.int .i64 0) (.int .i64 (pw q)) (.int .i64 0)) (w.heap.size + 1) 66 #[.int .i64 n, .int .i64 0, .int .i64 (pw q), .int .i64 0]) := HR3.out.put4 _ _ _ _
 have HXX : Hid (Ext w (put4 w3 (w.heap.size + 1) (.int .i64 n) (.int .i64 0) (.int .i64 (pw q)) (.int .i64 0))) := ext_put4 (g := w.heap.size + 1) HX3.out (by omega) _ _ _ _
 refine bodyPost_ret (v := .agg #[.int .i64 n, .int .i64 0, .int .i64 (pw q), .int .i64 0]) ?_ rfl ?_
 rotate_left
 ·exact ⟨ER.out.symm, HXX.out⟩
 ·exact retP rfl HBB.out _ (by kernel_rfl) rfl
end Go.Proofs.YtioimnplhmgbgaaGreat
