/-
 Helper text (no claim of its own): programs are checked: statements and lists of them. Printed by gen_sme.py.
-/
import Derived.Test.YtdjckjfclhjpcaaGreatMLowLc
import Derived.Test.YtdjckjfclhjpcaaGreatSmd
/-
 Helper text (no claim of its own): statements are elaborated. Printed by gen_smj.py.
-/
namespace Go.Proofs.YtdjckjfclhjpcaaGreat
open Go.ChangeShapes Go.WideShapes Go.ChangeAt Go.RowKit Go.Deep
set_option linter.unusedVariables false
set_option linter.unusedSimpArgs false
theorem flat_le {α β : Type} {f : α → List β} {N : Nat} (hf : ∀ x, (f x).length ≤ N) : ∀ xs : List α, (xs.flatMap f).length ≤ N * xs.length
 | [] => by simp
 | x :: xs => by rw [List.flatMap_cons, List.length_append, List.length_cons, Nat.mul_add, Nat.mul_one]; have := hf x; have := flat_le hf xs; omega
theorem allR_len {α β : Type} {ok : α → Bool} {f : α → List β} {N : Nat} (hf : ∀ x, (f x).length ≤ N) (xs : List α) : (allR ok f xs).length ≤ N * xs.length := by
 unfold allR
 split
 ·exact flat_le hf xs
 ·exact Nat.zero_le _
theorem blk5 {w : World} {g t : Nat} {a b c d e : Value} (h : Blk w g t #[a, b, c, d, e]) : w.cell? ⟨g, 0, none⟩ = some a ∧ w.cell? ⟨g, 1, none⟩ = some b ∧ w.cell? ⟨g, 2, none⟩ = some c ∧ w.cell? ⟨g, 3, none⟩ = some d ∧ w.cell? ⟨g, 4, none⟩ = some e :=
 ⟨h.cell 0, h.cell 1, h.cell 2, h.cell 3, h.cell 4⟩
set_option maxRecDepth 100000 in
set_option maxHeartbeats 32000000 in
theorem l22Stmt_of {d : Nat} (hall : ElA d) (xk : Int) (wd : ByteArray) (A : Option Addr) (n c : Nat) (cnt : Int) (B : Option Addr) (m e : Nat) (An : Option Addr) (nn cn bd ge : Nat) (KS : Nat → Prop) (w : World) (hsv : Sv (d + 1) w KS ⟨xk, wd, A, n, c, cnt, B, m, e⟩) (hKS : ∀ b, KS b → b ≠ ge ∧ b < w.heap.size) (hE : En w ge An nn cn bd) (hnn : nn + (d + 1) ≤ 900) (hbd : bd + cC (d + 1) ≤ 1000000)
  (hanc : xk = 5 → ∀ w1, Ext w w1 → Calls Tryz.prog 77 #[.agg #[.int .i64 xk, .string wd, .slice A n c, .int .i64 cnt, .slice B m e], .pointer (some ⟨ge, 0, none⟩)] w1 (El w1 2002 ge An nn cn (bd + 10 * cC d))) :
  Calls Tryz.prog 60 #[.agg #[.int .i64 xk, .string wd, .slice A n c, .int .i64 cnt, .slice B m e], .pointer (some ⟨ge, 0, none⟩)] w (El w 20000 ge An nn cn (bd + cC (d + 1))) := by
 have hOld : Old w KS := fun b hb => (hKS b hb).2
 obtain ⟨⟨p1, p2, p2', p3, p4⟩, xs, hxs, hxr⟩ := hsv.parts hOld
 simp only at p1 p2 p2' p3 p4 hxr
 have hcC : cC (d + 1) = 1 + 10 * cC d := rfl
 have HBA : Hid (∀ b o, A = some ⟨b, o, none⟩ → 0 < n → b ≠ ge ∧ b < w.heap.size) := fun b o hA h0 => by
  obtain ⟨_, _, _, _, _, ⟨ys, _, h6⟩, _⟩ := hsv
  obtain ⟨b', o', e', hb', _⟩ := h6.2 h0
  simp only at e'
  rw [hA] at e'
  injection e' with e'
  injection e' with e1 _
  subst e1
  exact hKS _ hb'
 have hgl := hE.lt
 have HX : Hid (Ext w (w.alloc (.cells #[.int .i64 xk, .string wd, .slice A n c, .int .i64 cnt, .slice B m e] 69))) := (Ext.refl w).alloc _
 have HS : Hid (Blk (w.alloc (.cells #[.int .i64 xk, .string wd, .slice A n c, .int .i64 cnt, .slice B m e] 69)) w.heap.size 69 #[.int .i64 xk, .string wd, .slice A n c, .int .i64 cnt, .slice B m e]) := Blk.new _ _ _
 have HE : Hid (En (w.alloc (.cells #[.int .i64 xk, .string wd, .slice A n c, .int .i64 cnt, .slice B m e] 69)) ge An nn cn bd) := hE.ext HX.out
 have HALL : Hid (∀ w', Ext w w' → Calls Tryz.prog 37 #[.slice B m e, .pointer (some ⟨ge, 0, none⟩)] w' (El w' 2000 ge An nn cn (bd + 10 * cC d))) := fun w' hx => hall B m e An nn cn bd ge KS w' (hsv.body.ext hOld hx) (fun b hb => ⟨(hKS b hb).1, Nat.lt_of_lt_of_le (hKS b hb).2 hx.size⟩) (hE.ext hx) (by omega) (by omega)
 have HXR := Lib.hid hxr
 have HXS := Lib.hid hxs
 have HANC := Lib.hid hanc
 clear hall hsv hKS hOld hxr hxs hE hanc
 go_enter Tryz.func60, Tryz.ntmps60
 go_upto_region 1 with (fail)
 generalize (w.alloc (.cells #[.int .i64 xk, .string wd, .slice A n c, .int .i64 cnt, .slice B m e] 69)) = W at *
 obtain ⟨s0, s1, s2, s3, s4⟩ := blk5 HS.out
 change W.cell? ⟨w.heap.size, 0, none⟩ = some (.int .i64 xk) at s0
 change W.cell? ⟨w.heap.size, 1, none⟩ = some (.string wd) at s1
 change W.cell? ⟨w.heap.size, 2, none⟩ = some (.slice A n c) at s2
 change W.cell? ⟨w.heap.size, 3, none⟩ = some (.int .i64 cnt) at s3
 change W.cell? ⟨w.heap.size, 4, none⟩ = some (.slice B m e) at s4
 cases b1 : (xk == 1)
 rotate_left
 ·skip
  have b2 : (xk == 2) = false := by rw [beq_iff_eq.1 b1]; rfl
  have b3 : (xk == 3) = false := by rw [beq_iff_eq.1 b1]; rfl
  have b4 : (xk == 4) = false := by rw [beq_iff_eq.1 b1]; rfl
  have b5 : (xk == 5) = false := by rw [beq_iff_eq.1 b1]; rfl
  have b6 : (xk == 6) = false := by rw [beq_iff_eq.1 b1]; rfl
  go_upto_region 3 with (fail)
  clear s0 s1 s2 s3 s4
  have HK : Hid (∀ w', Blk w' w.heap.size 69 #[.int .i64 xk, .string wd, .slice A n c, .int .i64 cnt, .slice B m e] → w'.cell? ⟨ge, 0, none⟩ = some (.slice An nn cn) → w'.cell? ⟨w.heap.size, 0, none⟩ = some (.int .i64 xk) ∧ w'.cell? ⟨w.heap.size, 1, none⟩ = some (.string wd) ∧ w'.cell? ⟨w.heap.size, 2, none⟩ = some (.slice A n c) ∧ w'.cell? ⟨w.heap.size, 3, none⟩ = some (.int .i64 cnt) ∧ w'.cell? ⟨w.heap.size, 4, none⟩ = some (.slice B m e) ∧ w'.cell? ⟨ge, 0, none⟩ = some (.slice An nn cn)) := fun w' hs hn => ⟨hs.cell 0, hs.cell 1, hs.cell 2, hs.cell 3, hs.cell 4, hn⟩
  refine wp_region_held_drew (S := (fun w' => w'.cell? ⟨w.heap.size, 0, none⟩ = some (.int .i64 xk) ∧ w'.cell? ⟨w.heap.size, 1, none⟩ = some (.string wd) ∧ w'.cell? ⟨w.heap.size, 2, none⟩ = some (.slice A n c) ∧ w'.cell? ⟨w.heap.size, 3, none⟩ = some (.int .i64 cnt) ∧ w'.cell? ⟨w.heap.size, 4, none⟩ = some (.slice B m e) ∧ w'.cell? ⟨ge, 0, none⟩ = some (.slice An nn cn))) (by kernel_rfl) (HK.out _ (HS.out.ext ((Ext.refl W).drew)) ((HE.out.ext ((Ext.refl W).drew)).names)) (fun hHeld => ?_)
  (refine tk 0 (v := ?_) ?_ ?_; rotate_left; · (intro w hSw; (try dsimp only at hSw); go_simp; all_goals with_reducible rfl))
  (try simp only [Act.put, L1, L2, L3, L4, L5, L6])
  (refine tk 1 (v := ?_) ?_ ?_; rotate_left; · (intro w hSw; (try dsimp only at hSw); go_simp; all_goals with_reducible rfl))
  (try simp only [Act.put, L1, L2, L3, L4, L5, L6])
  (refine tk 2 (v := ?_) ?_ ?_; rotate_left; · (intro w hSw; (try dsimp only at hSw); go_simp; all_goals with_reducible rfl))
  (try simp only [Act.put, L1, L2, L3, L4, L5, L6])
  (refine tk 3 (v := ?_) ?_ ?_; rotate_left; · (intro w hSw; (try dsimp only at hSw); go_simp; all_goals with_reducible rfl))
  (try simp only [Act.put, L1, L2, L3, L4, L5, L6])
  (refine tk 4 (v := ?_) ?_ ?_; rotate_left; · (intro w hSw; (try dsimp only at hSw); go_simp; all_goals with_reducible rfl))
  (try simp only [Act.put, L1, L2, L3, L4, L5, L6])
  refine wpAnyH_ready (rs := [5]) (by kernel_rfl) (by simp) ?_
  refine AllReadyH.cons rfl (fun K hK => ?_) AllReadyH.nil
  go_simp
  refine (l22Gate_any xk wd A n c cnt B m e An nn cn _ (by have h9 := p1; unfold need at h9; first | (rw [beq_iff_eq.1 b4] at h9; simp at h9; omega) | (rw [beq_iff_eq.1 b1] at h9; simp at h9; omega) | (rw [beq_iff_eq.1 b6] at h9; simp at h9; omega) | (have g2 : xk ≠ 2 := (by simpa using b2); have g3 : xk ≠ 3 := (by simpa using b3); have g6 : xk ≠ 6 := (by simpa using b6); simp [g2, g3, g6] at h9; omega)) xs ((HXR.out.ext HX.out).ext (Ext.refl W).drew) (HE.out.ext (Ext.refl W).drew).1 (by omega)).mono ?_
  rintro e8 w8 ⟨⟨x, rfl⟩, hx8⟩
  have HX8 : Hid (Ext W w8) := Ext.trans (Ext.refl W).drew hx8
  clear hx8
  refine hK.out _ _ (HK.out _ (HS.out.ext (HX8.out)) ((HE.out.ext (HX8.out)).names)) (fun hHeld => ?_)
  clear hK K
  (try simp only [Act.put, L1, L2, L3, L4, L5, L6])
  (refine tk 6 (v := ?_) ?_ ?_; rotate_left; · (intro w hSw; (try dsimp only at hSw); go_simp; all_goals with_reducible rfl))
  (try simp only [Act.put, L1, L2, L3, L4, L5, L6])
  refine wpAnyH_ready (rs := [7]) (by kernel_rfl) (by simp) ?_
  refine AllReadyH.cons rfl (fun K hK => ?_) AllReadyH.nil
  go_simp
  have HX9 : Hid (Ext W (w8.alloc (.cells #[.int .i64 1, .int .i64 x.k, .int .i64 x.a, .int .i64 x.b, .int .i64 x.c, .int .i64 0, .int .i64 0, .int .i64 0] 40))) := HX8.out.alloc _
  have HL9 : Hid ((w8.alloc (.cells #[.int .i64 1, .int .i64 x.k, .int .i64 x.a, .int .i64 x.b, .int .i64 x.c, .int .i64 0, .int .i64 0, .int .i64 0] 40)).ownsRow w.heap.size 40 8 (.slice (some ⟨w8.heap.size, 0, none⟩) 1 1) 1 (ocells [⟨1, x, 0, 0, 0⟩])) := own_lit (HX.out.trans HX8.out) _ _ 8 1 _ _ rfl (by simp [Oq.cells]) rfl (by omega)
  refine hK.out _ _ (HK.out _ (HS.out.ext (HX9.out)) ((HE.out.ext (HX9.out)).names)) (fun hHeld => ?_)
  clear hK K
  (try simp only [Act.put, L1, L2, L3, L4, L5, L6])
  (refine tk 8 (v := ?_) ?_ ?_; rotate_left; · (intro w hSw; (try dsimp only at hSw); go_simp; all_goals with_reducible rfl))
  (try simp only [Act.put, L1, L2, L3, L4, L5, L6])
  (refine wpAnyH_done (by kernel_rfl) ?_ _)
  have HE9 := Lib.hid (HE.out.ext HX9.out)
  have HG9 : Hid (w.grownBy (w8.alloc (.cells #[.int .i64 1, .int .i64 x.k, .int .i64 x.a, .int .i64 x.b, .int .i64 x.c, .int .i64 0, .int .i64 0, .int .i64 0] 40)) (some ge)) := (HX.out.trans HX9.out).gr _
  clear hHeld HK
  go_wp2
  go_ret
  exact ⟨⟨_, _, [⟨1, x, 0, 0, 0⟩], rfl, HL9.out, by simp⟩, HE9.out.mono (by omega), HG9.out⟩
 cases b2 : (xk == 2)
 rotate_left
 ·skip
  have b3 : (xk == 3) = false := by rw [beq_iff_eq.1 b2]; rfl
  have b4 : (xk == 4) = false := by rw [beq_iff_eq.1 b2]; rfl
  have b5 : (xk == 5) = false := by rw [beq_iff_eq.1 b2]; rfl
  have b6 : (xk == 6) = false := by rw [beq_iff_eq.1 b2]; rfl
  go_upto_region 5 with (fail)
  clear s0 s1 s2 s3 s4
  have HK : Hid (∀ w', Blk w' w.heap.size 69 #[.int .i64 xk, .string wd, .slice A n c, .int .i64 cnt, .slice B m e] → True → w'.cell? ⟨w.heap.size, 4, none⟩ = some (.slice B m e) ∧ w'.cell? ⟨w.heap.size, 3, none⟩ = some (.int .i64 cnt)) := fun w' hs hn => ⟨hs.cell 4, hs.cell 3⟩
  have HX7 : Hid (Ext W W.drew) := (Ext.refl W).drew
  refine wp_region_held_drew (S := (fun w' => w'.cell? ⟨w.heap.size, 4, none⟩ = some (.slice B m e) ∧ w'.cell? ⟨w.heap.size, 3, none⟩ = some (.int .i64 cnt))) (by kernel_rfl) (HK.out _ (HS.out.ext HX7.out) trivial) (fun hHeld => ?_)
  (refine tk 0 (v := ?_) ?_ ?_; rotate_left; · (intro w hSw; (try dsimp only at hSw); go_simp; all_goals with_reducible rfl))
  (try simp only [Act.put, L1, L2, L3, L4, L5, L6])
  (refine tk 1 (v := ?_) ?_ ?_; rotate_left; · (intro w hSw; (try dsimp only at hSw); go_simp; all_goals with_reducible rfl))
  (try simp only [Act.put, L1, L2, L3, L4, L5, L6])
  (refine tk 2 (v := ?_) ?_ ?_; rotate_left; · (intro w hSw; (try dsimp only at hSw); go_simp; all_goals with_reducible rfl))
  (try simp only [Act.put, L1, L2, L3, L4, L5, L6])
  (refine tk 4 (v := ?_) ?_ ?_; rotate_left; · (intro w hSw; (try dsimp only at hSw); go_simp; all_goals with_reducible rfl))
  (try simp only [Act.put, L1, L2, L3, L4, L5, L6])
  (refine tk 5 (v := ?_) ?_ ?_; rotate_left; · (intro w hSw; (try dsimp only at hSw); go_simp; all_goals with_reducible rfl))
  (try simp only [Act.put, L1, L2, L3, L4, L5, L6])
  refine wpAnyH_ready (rs := [3]) (by kernel_rfl) (by simp) ?_
  refine AllReadyH.cons rfl (fun K hK => ?_) AllReadyH.nil
  go_simp
  refine (HALL.out _ (HX.out.trans HX7.out)).mono ?_
  rintro e8 w8 ⟨⟨A8, c8, ys, rfl, ho8, hl8⟩, he8, hg8⟩
  have HS8 : Hid (Blk w8 w.heap.size 69 #[.int .i64 xk, .string wd, .slice A n c, .int .i64 cnt, .slice B m e]) := (hg8.block _ (HS.out.ext HX7.out).lt (fun e => by injection e; omega)).trans (HS.out.ext HX7.out)
  have HG8 : Hid (w.grownBy w8 (some ge)) := gr_trans ((HX.out.trans HX7.out).gr _) hg8
  have HE8 := Lib.hid he8
  have HO8 := Lib.hid ho8
  have hsz8 := HG8.out.size
  have HB7 : Hid (w.heap.size ≤ W.drew.heap.size) := (HX.out.trans HX7.out).size
  clear ho8 he8 hg8
  refine hK.out _ _ (HK.out _ HS8.out trivial) (fun hHeld => ?_)
  clear hK K
  (try simp only [Act.put, L1, L2, L3, L4, L5, L6])
  refine wpAnyH_ready (rs := [6]) (by kernel_rfl) (by simp) ?_
  refine AllReadyH.cons rfl (fun K hK => ?_) AllReadyH.nil
  go_simp
  refine (RepeatOps_any A8 ys.length c8 ys cnt _ (Rd.own HO8.out) (by omega)).mono ?_
  rintro e9 w9 ⟨hr9, hx9⟩
  obtain ⟨A9, c9, zs, rfl, ho9, hl9⟩ := hr9
  have HX9 := Lib.hid hx9
  have HO9 := Lib.hid ho9
  clear hx9 ho9
  refine hK.out _ _ (HK.out _ (HS8.out.ext HX9.out) trivial) (fun hHeld => ?_)
  clear hK K
  (try simp only [Act.put, L1, L2, L3, L4, L5, L6])
  (refine tk 7 (v := ?_) ?_ ?_; rotate_left; · (intro w hSw; (try dsimp only at hSw); go_simp; all_goals with_reducible rfl))
  (try simp only [Act.put, L1, L2, L3, L4, L5, L6])
  (refine wpAnyH_done (by kernel_rfl) ?_ _)
  clear hHeld HK
  have HE9 := Lib.hid (HE8.out.ext HX9.out)
  have HG9 := Lib.hid (gr_ext HG8.out HX9.out)
  go_wp2
  go_ret
  exact ⟨⟨A9, c9, zs, rfl, own_base HO9.out hsz8, by omega⟩, HE9.out.mono (by omega), HG9.out⟩
 cases b3 : (xk == 3)
 rotate_left
 ·skip
  have b4 : (xk == 4) = false := by rw [beq_iff_eq.1 b3]; rfl
  have b5 : (xk == 5) = false := by rw [beq_iff_eq.1 b3]; rfl
  have b6 : (xk == 6) = false := by rw [beq_iff_eq.1 b3]; rfl
  have HX7 : Hid (Ext W W) := Ext.refl W
  go_wp2_with fail
  refine (HALL.out _ HX.out).mono ?_
  rintro e8 w8 ⟨⟨A8, c8, ys, rfl, ho8, hl8⟩, he8, hg8⟩
  have HS8 : Hid (Blk w8 w.heap.size 69 #[.int .i64 xk, .string wd, .slice A n c, .int .i64 cnt, .slice B m e]) := (hg8.block _ (HS.out.ext HX7.out).lt (fun e => by injection e; omega)).trans (HS.out.ext HX7.out)
  have HG8 : Hid (w.grownBy w8 (some ge)) := gr_trans ((HX.out.trans HX7.out).gr _) hg8
  have HE8 := Lib.hid he8
  have HO8 := Lib.hid ho8
  have hsz8 := HG8.out.size
  have HB7 : Hid (w.heap.size ≤ W.heap.size) := (HX.out.trans HX7.out).size
  clear ho8 he8 hg8
  go_wp2_with fail
  refine (spec_AdjointOps_any A8 ys.length c8 ys _ (Rd.own HO8.out) (by omega)).mono ?_
  rintro e9 w9 ⟨v9, rfl, ho9, hx9⟩
  obtain ⟨A9, c9, rfl, -⟩ := own_slice ho9
  have HX9 := Lib.hid hx9
  have HO9 : Hid (w9.ownsRow w8.heap.size 40 8 (.slice A9 (adjO ys).length c9) (adjO ys).length (ocells (adjO ys))) := by rw [adjO_len]; exact ho9
  have hal := adjO_len ys
  clear hx9 ho9
  have HE9 := Lib.hid (HE8.out.ext HX9.out)
  have HG9 := Lib.hid (gr_ext HG8.out HX9.out)
  go_wp2
  go_ret
  exact ⟨⟨A9, c9, adjO ys, by rw [hal]; rfl, own_base HO9.out hsz8, by omega⟩, HE9.out.mono (by omega), HG9.out⟩
 cases b4 : (xk == 4)
 rotate_left
 ·skip
  have b5 : (xk == 5) = false := by rw [beq_iff_eq.1 b4]; rfl
  have b6 : (xk == 6) = false := by rw [beq_iff_eq.1 b4]; rfl
  obtain ⟨b, o, y, rfl, hb, r0, hym⟩ := str_0 HXR.out (show 1 ≤ n by have h9 := p1; unfold need at h9; first | (rw [beq_iff_eq.1 b4] at h9; simp at h9; omega) | (rw [beq_iff_eq.1 b1] at h9; simp at h9; omega) | (rw [beq_iff_eq.1 b6] at h9; simp at h9; omega) | (have g2 : xk ≠ 2 := (by simpa using b2); have g3 : xk ≠ 3 := (by simpa using b3); have g6 : xk ≠ 6 := (by simpa using b6); simp [g2, g3, g6] at h9; omega))
  have HYS := Lib.hid (HXS.out y hym)
  have HBK := HBA.out b o rfl (by have h9 := p1; unfold need at h9; first | (rw [beq_iff_eq.1 b4] at h9; simp at h9; omega) | (rw [beq_iff_eq.1 b1] at h9; simp at h9; omega) | (rw [beq_iff_eq.1 b6] at h9; simp at h9; omega) | (have g2 : xk ≠ 2 := (by simpa using b2); have g3 : xk ≠ 3 := (by simpa using b3); have g6 : xk ≠ 6 := (by simpa using b6); simp [g2, g3, g6] at h9; omega))
  have HY : Hid (b < w.heap.size ∧ b ≠ ge ∧ W.cell? ⟨b, o, none⟩ = some (.string y)) := ⟨HBK.2, HBK.1, (HX.out.cell (p := ⟨b, o, none⟩) hb).trans r0⟩
  have hn0 : 0 < n := by have h9 := p1; unfold need at h9; first | (rw [beq_iff_eq.1 b4] at h9; simp at h9; omega) | (rw [beq_iff_eq.1 b1] at h9; simp at h9; omega) | (rw [beq_iff_eq.1 b6] at h9; simp at h9; omega) | (have g2 : xk ≠ 2 := (by simpa using b2); have g3 : xk ≠ 3 := (by simpa using b3); have g6 : xk ≠ 6 := (by simpa using b6); simp [g2, g3, g6] at h9; omega)
  clear r0 hym HBK
  go_upto_region 9 with (fail)
  clear s0 s1 s2 s3 s4
  have HK : Hid (∀ w', Blk w' w.heap.size 69 #[.int .i64 xk, .string wd, .slice (some ⟨b, o, none⟩) n c, .int .i64 cnt, .slice B m e] → w'.cell? ⟨ge, 0, none⟩ = some (.slice An nn cn) → w'.cell? ⟨b, o, none⟩ = some (.string y) → w'.cell? ⟨ge, 0, none⟩ = some (.slice An nn cn) ∧ w'.cell? ⟨w.heap.size, 2, none⟩ = some (.slice (some ⟨b, o, none⟩) n c) ∧ w'.cell? ⟨w.heap.size, 4, none⟩ = some (.slice B m e) ∧ w'.cell? ⟨b, o, none⟩ = some (.string y)) := fun w' hs hn hy => ⟨hn, hs.cell 2, hs.cell 4, hy⟩
  have HX7 : Hid (Ext W W.drew) := (Ext.refl W).drew
  obtain ⟨ns, -, hns⟩ := HE.out.1.rd
  have HNR := Lib.hid (hns.ext HX7.out)
  clear hns
  refine wp_region_held_drew (S := (fun w' => w'.cell? ⟨ge, 0, none⟩ = some (.slice An nn cn) ∧ w'.cell? ⟨w.heap.size, 2, none⟩ = some (.slice (some ⟨b, o, none⟩) n c) ∧ w'.cell? ⟨w.heap.size, 4, none⟩ = some (.slice B m e) ∧ w'.cell? ⟨b, o, none⟩ = some (.string y))) (by kernel_rfl) (HK.out _ (HS.out.ext (HX7.out)) ((HE.out.ext (HX7.out)).names) (((HX7.out).cell (p := ⟨b, o, none⟩) (Nat.lt_of_lt_of_le HY.out.1 HX.out.size)).trans HY.out.2.2)) (fun hHeld => ?_)
  (refine tk 0 (v := ?_) ?_ ?_; rotate_left; · (intro w hSw; (try dsimp only at hSw); go_simp; all_goals with_reducible rfl))
  (try simp only [Act.put, L1, L2, L3, L4, L5, L6])
  (refine tk 1 (v := ?_) ?_ ?_; rotate_left; · (intro w hSw; (try dsimp only at hSw); go_simp; all_goals with_reducible rfl))
  (try simp only [Act.put, L1, L2, L3, L4, L5, L6])
  (refine tk 2 (v := ?_) ?_ ?_; rotate_left; · (intro w hSw; (try dsimp only at hSw); go_simp; all_goals with_reducible rfl))
  (try simp only [Act.put, L1, L2, L3, L4, L5, L6])
  (refine tk 3 (v := ?_) ?_ ?_; rotate_left; · (intro w hSw; (try dsimp only at hSw); go_simp; all_goals with_reducible rfl))
  (try simp only [Act.put, L1, L2, L3, L4, L5, L6])
  (refine tk 4 (v := ?_) ?_ ?_; rotate_left; · (intro w hSw; (try dsimp only at hSw); go_simp; all_goals with_reducible rfl))
  (try simp only [Act.put, L1, L2, L3, L4, L5, L6])
  (refine tk 5 (v := ?_) ?_ ?_; rotate_left; · (intro w hSw; (try dsimp only at hSw); go_simp; all_goals with_reducible rfl))
  (try simp only [Act.put, L1, L2, L3, L4, L5, L6])
  (refine tk 6 (v := ?_) ?_ ?_; rotate_left; · (intro w hSw; (try dsimp only at hSw); go_simp; all_goals with_reducible rfl))
  (try simp only [Act.put, L1, L2, L3, L4, L5, L6])
  (refine tk 7 (v := ?_) ?_ ?_; rotate_left; · (intro w hSw; (try dsimp only at hSw); go_simp; all_goals with_reducible rfl))
  (try simp only [Act.put, L1, L2, L3, L4, L5, L6])
  (refine tk 9 (v := ?_) ?_ ?_; rotate_left; · (intro w hSw; (try dsimp only at hSw); go_simp; all_goals with_reducible rfl))
  (try simp only [Act.put, L1, L2, L3, L4, L5, L6])
  (refine tk 10 (v := ?_) ?_ ?_; rotate_left; · (intro w hSw; (try dsimp only at hSw); go_simp; all_goals with_reducible rfl))
  (try simp only [Act.put, L1, L2, L3, L4, L5, L6])
  (refine tk 11 (v := ?_) ?_ ?_; rotate_left; · (intro w hSw; (try dsimp only at hSw); go_simp; all_goals with_reducible rfl))
  (try simp only [Act.put, L1, L2, L3, L4, L5, L6])
  refine wpAnyH_ready (rs := [8]) (by kernel_rfl) (by simp) ?_
  refine AllReadyH.cons rfl (fun K hK => ?_) AllReadyH.nil
  go_simp
  refine (l22At_any An nn cn ns y _ HNR.out (by omega)).mono ?_
  rintro e6 w6 ⟨⟨q6, rfl, -⟩, rfl⟩
  refine hK.out _ _ (HK.out _ (HS.out.ext (HX7.out)) ((HE.out.ext (HX7.out)).names) (((HX7.out).cell (p := ⟨b, o, none⟩) (Nat.lt_of_lt_of_le HY.out.1 HX.out.size)).trans HY.out.2.2)) (fun hHeld => ?_)
  clear hK K
  (try simp only [Act.put, L1, L2, L3, L4, L5, L6])
  refine wpAnyH_ready (rs := [12]) (by kernel_rfl) (by simp) ?_
  refine AllReadyH.cons rfl (fun K hK => ?_) AllReadyH.nil
  go_simp
  refine (HALL.out _ (HX.out.trans HX7.out)).mono ?_
  rintro e8 w8 ⟨⟨A8, c8, ys, rfl, ho8, hl8⟩, he8, hg8⟩
  have HS8 : Hid (Blk w8 w.heap.size 69 #[.int .i64 xk, .string wd, .slice (some ⟨b, o, none⟩) n c, .int .i64 cnt, .slice B m e]) := (hg8.block _ (HS.out.ext HX7.out).lt (fun e => by injection e; omega)).trans (HS.out.ext HX7.out)
  have HG8 : Hid (w.grownBy w8 (some ge)) := gr_trans ((HX.out.trans HX7.out).gr _) hg8
  have HE8 := Lib.hid he8
  have HO8 := Lib.hid ho8
  have hsz8 := HG8.out.size
  have HB7 : Hid (w.heap.size ≤ W.drew.heap.size) := (HX.out.trans HX7.out).size
  clear ho8 he8 hg8
  have HY8 : Hid (w8.cell? ⟨b, o, none⟩ = some (.string y)) := (World.cell?_of_block ((HG8.out.block b HY.out.1 (fun e => HY.out.2.1 (by injection e))).trans (HX.out.block b HY.out.1).symm)).trans HY.out.2.2
  refine hK.out _ _ (HK.out _ HS8.out HE8.out.names HY8.out) (fun hHeld => ?_)
  clear hK K
  (try simp only [Act.put, L1, L2, L3, L4, L5, L6])
  refine wpAnyH_ready (rs := [13]) (by kernel_rfl) (by simp) ?_
  refine AllReadyH.cons rfl (fun K hK => ?_) AllReadyH.nil
  go_simp
  refine (spec_ControlledOps_any q6 A8 ys.length c8 ys _ (Rd.own HO8.out) (by omega)).mono ?_
  rintro e9 w9 ⟨v9, rfl, ho9, hx9⟩
  obtain ⟨zs, hzs⟩ : ∃ zs, allR (ctoOk q6) (ctoR q6) ys = zs := ⟨_, rfl⟩
  have hzl : zs.length ≤ 7 * ys.length := by rw [← hzs]; exact allR_len (fun o => ctoR_len _ o) ys
  rw [hzs] at ho9
  obtain ⟨A9, c9, rfl, -⟩ := own_slice ho9
  have HX9 := Lib.hid hx9
  have HO9 := Lib.hid ho9
  clear hx9 ho9 hzs
  refine hK.out _ _ (HK.out _ (HS8.out.ext HX9.out) (HE8.out.ext HX9.out).names ((HX9.out.cell (p := ⟨b, o, none⟩) (by show b < _; have := HY.out.1; omega)).trans HY8.out)) (fun hHeld => ?_)
  clear hK K
  (try simp only [Act.put, L1, L2, L3, L4, L5, L6])
  (refine tk 14 (v := ?_) ?_ ?_; rotate_left; · (intro w hSw; (try dsimp only at hSw); go_simp; all_goals with_reducible rfl))
  (try simp only [Act.put, L1, L2, L3, L4, L5, L6])
  (refine tk 15 (v := ?_) ?_ ?_; rotate_left; · (intro w hSw; (try dsimp only at hSw); go_simp; all_goals with_reducible rfl))
  (try simp only [Act.put, L1, L2, L3, L4, L5, L6])
  (refine tk 16 (v := ?_) ?_ ?_; rotate_left; · (intro w hSw; (try dsimp only at hSw); go_simp; all_goals with_reducible rfl))
  (try simp only [Act.put, L1, L2, L3, L4, L5, L6])
  (refine tk 17 (v := ?_) ?_ ?_; rotate_left; · (intro w hSw; (try dsimp only at hSw); go_simp; all_goals with_reducible rfl))
  (try simp only [Act.put, L1, L2, L3, L4, L5, L6])
  (refine tk 18 (v := ?_) ?_ ?_; rotate_left; · (intro w hSw; (try dsimp only at hSw); go_simp; all_goals with_reducible rfl))
  (try simp only [Act.put, L1, L2, L3, L4, L5, L6])
  (refine wpAnyH_done (by kernel_rfl) ?_ _)
  clear hHeld HK
  have HE9 := Lib.hid (HE8.out.ext HX9.out)
  have HG9 := Lib.hid (gr_ext HG8.out HX9.out)
  go_wp2
  go_ret
  exact ⟨⟨A9, c9, zs, rfl, own_base HO9.out hsz8, by omega⟩, HE9.out.mono (by omega), HG9.out⟩
 cases b5 : (xk == 5)
 rotate_left
 ·skip
  have b6 : (xk == 6) = false := by rw [beq_iff_eq.1 b5]; rfl
  go_wp2_with fail
  refine (HANC.out (beq_iff_eq.1 b5) _ HX.out).mono ?_
  rintro e8 w8 ⟨⟨A8, c8, ys, rfl, ho8, hl8⟩, he8, hg8⟩
  have HO8 := Lib.hid (own_base ho8 HX.out.size)
  have HE8 := Lib.hid he8
  have HG8 : Hid (w.grownBy w8 (some ge)) := gr_trans (HX.out.gr _) hg8
  clear ho8 he8 hg8
  go_wp2
  go_ret
  exact ⟨⟨A8, c8, ys, rfl, HO8.out, by omega⟩, HE8.out.mono (by omega), HG8.out⟩
 cases b6 : (xk == 6)
 rotate_left
 ·skip
  obtain ⟨b, o, y, rfl, hb, r0, hym⟩ := str_0 HXR.out (show 1 ≤ n by have h9 := p1; unfold need at h9; first | (rw [beq_iff_eq.1 b4] at h9; simp at h9; omega) | (rw [beq_iff_eq.1 b1] at h9; simp at h9; omega) | (rw [beq_iff_eq.1 b6] at h9; simp at h9; omega) | (have g2 : xk ≠ 2 := (by simpa using b2); have g3 : xk ≠ 3 := (by simpa using b3); have g6 : xk ≠ 6 := (by simpa using b6); simp [g2, g3, g6] at h9; omega))
  have HYS := Lib.hid (HXS.out y hym)
  have HBK := HBA.out b o rfl (by have h9 := p1; unfold need at h9; first | (rw [beq_iff_eq.1 b4] at h9; simp at h9; omega) | (rw [beq_iff_eq.1 b1] at h9; simp at h9; omega) | (rw [beq_iff_eq.1 b6] at h9; simp at h9; omega) | (have g2 : xk ≠ 2 := (by simpa using b2); have g3 : xk ≠ 3 := (by simpa using b3); have g6 : xk ≠ 6 := (by simpa using b6); simp [g2, g3, g6] at h9; omega))
  have HY : Hid (b < w.heap.size ∧ b ≠ ge ∧ W.cell? ⟨b, o, none⟩ = some (.string y)) := ⟨HBK.2, HBK.1, (HX.out.cell (p := ⟨b, o, none⟩) hb).trans r0⟩
  have hn0 : 0 < n := by have h9 := p1; unfold need at h9; first | (rw [beq_iff_eq.1 b4] at h9; simp at h9; omega) | (rw [beq_iff_eq.1 b1] at h9; simp at h9; omega) | (rw [beq_iff_eq.1 b6] at h9; simp at h9; omega) | (have g2 : xk ≠ 2 := (by simpa using b2); have g3 : xk ≠ 3 := (by simpa using b3); have g6 : xk ≠ 6 := (by simpa using b6); simp [g2, g3, g6] at h9; omega)
  clear r0 hym HBK
  have hn2 : 2 ≤ n := by have h9 := p1; unfold need at h9; first | (rw [beq_iff_eq.1 b4] at h9; simp at h9; omega) | (rw [beq_iff_eq.1 b1] at h9; simp at h9; omega) | (rw [beq_iff_eq.1 b6] at h9; simp at h9; omega) | (have g2 : xk ≠ 2 := (by simpa using b2); have g3 : xk ≠ 3 := (by simpa using b3); have g6 : xk ≠ 6 := (by simpa using b6); simp [g2, g3, g6] at h9; omega)
  have hn1 : (1 : Int) < (n : Int) := by omega
  obtain ⟨b', o', y1, hA', hb', hm1, r1⟩ := str_at HXR.out (i := 1) (by omega)
  injection hA' with hA'
  injection hA' with e1 e2
  subst e1 e2
  have HYS1 := Lib.hid (HXS.out y1 (List.mem_of_getElem? hm1))
  have HY1 : Hid (W.cell? ⟨b, o + 1, none⟩ = some (.string y1)) := (HX.out.cell (p := ⟨b, o + 1, none⟩) hb).trans r1
  clear hm1 r1 hb'
  obtain ⟨e1n, Ab, nb, cb, mo, lg, e2, e3, e4, e5⟩ := HE.out
  obtain ⟨bs, hbs, hbr⟩ := e5.rd
  have HBS := Lib.hid hbs
  have HBR := Lib.hid (hbr.ext (Ext.refl W).drew)
  have HEB := Lib.hid e2
  have HEN := Lib.hid e1n
  clear hbs hbr e5 e1n e2
  have hbW : b < W.heap.size := Nat.lt_of_lt_of_le HY.out.1 HX.out.size
  go_upto_region 14 with (fail)
  clear s0 s1 s2 s3 s4
  have HK : Hid (∀ w', Blk w' w.heap.size 69 #[.int .i64 xk, .string wd, .slice (some ⟨b, o, none⟩) n c, .int .i64 cnt, .slice B m e] → w'.cell? ⟨b, o + 1, none⟩ = some (.string y1) → w'.cell? ⟨w.heap.size, 2, none⟩ = some (.slice (some ⟨b, o, none⟩) n c) ∧ w'.cell? ⟨b, o + 1, none⟩ = some (.string y1)) := fun w' hs hy1 => ⟨hs.cell 2, hy1⟩
  refine wp_region_held_drew (S := (fun w' => w'.cell? ⟨w.heap.size, 2, none⟩ = some (.slice (some ⟨b, o, none⟩) n c) ∧ w'.cell? ⟨b, o + 1, none⟩ = some (.string y1))) (by kernel_rfl) (HK.out _ (HS.out.ext ((Ext.refl W).drew)) ((((Ext.refl W).drew).cell (p := ⟨b, o + 1, none⟩) hbW).trans HY1.out)) (fun hHeld => ?_)
  (refine tk 0 (v := ?_) ?_ ?_; rotate_left; · (intro w hSw; (try dsimp only at hSw); go_simp; all_goals with_reducible rfl))
  (try simp only [Act.put, L1, L2, L3, L4, L5, L6])
  (refine tk 1 (v := ?_) ?_ ?_; rotate_left; · (intro w hSw; (try dsimp only at hSw); go_simp; all_goals with_reducible rfl))
  (try simp only [Act.put, L1, L2, L3, L4, L5, L6])
  (refine tk 2 (v := ?_) ?_ ?_; rotate_left; · (intro w hSw; (try dsimp only at hSw); go_simp; all_goals with_reducible rfl))
  (try simp only [Act.put, L1, L2, L3, L4, L5, L6])
  (refine tk 3 (v := ?_) ?_ ?_; rotate_left; · (intro w hSw; (try dsimp only at hSw); go_simp; all_goals with_reducible rfl))
  (try simp only [Act.put, L1, L2, L3, L4, L5, L6])
  (refine tk 5 (v := ?_) ?_ ?_; rotate_left; · (intro w hSw; (try dsimp only at hSw); go_simp; all_goals with_reducible rfl))
  (try simp only [Act.put, L1, L2, L3, L4, L5, L6])
  (refine tk 6 (v := ?_) ?_ ?_; rotate_left; · (intro w hSw; (try dsimp only at hSw); go_simp; all_goals with_reducible rfl))
  (try simp only [Act.put, L1, L2, L3, L4, L5, L6])
  (refine tk 7 (v := ?_) ?_ ?_; rotate_left; · (intro w hSw; (try dsimp only at hSw); go_simp; all_goals with_reducible rfl))
  (try simp only [Act.put, L1, L2, L3, L4, L5, L6])
  (refine tk 8 (v := ?_) ?_ ?_; rotate_left; · (intro w hSw; (try dsimp only at hSw); go_simp; all_goals with_reducible rfl))
  (try simp only [Act.put, L1, L2, L3, L4, L5, L6])
  have e3a : W.drew.cell? ⟨ge, 1, none⟩ = some (.slice Ab nb cb) := (HEB.out.ext (Ext.refl W).drew).cell 1
  refine wpAnyH_ready (rs := [4]) (by kernel_rfl) (by simp) ?_
  refine AllReadyH.cons rfl (fun K hK => ?_) AllReadyH.nil
  go_simp
  refine hK.out _ _ (HK.out _ (HS.out.ext ((Ext.refl W).drew)) ((((Ext.refl W).drew).cell (p := ⟨b, o + 1, none⟩) hbW).trans HY1.out)) (fun hHeld => ?_)
  clear hK K
  (try simp only [Act.put, L1, L2, L3, L4, L5, L6])
  refine wpAnyH_ready (rs := [9]) (by kernel_rfl) (by simp) ?_
  refine AllReadyH.cons rfl (fun K hK => ?_) AllReadyH.nil
  go_simp
  refine (l20Add_any Ab nb cb bs y1 _ HBR.out (by omega)).mono ?_
  rintro e8 w8 ⟨⟨v8, rfl, ho8⟩, hx8⟩
  obtain ⟨A8, c8, rfl, -⟩ := own_slice ho8
  have HX8 : Hid (Ext W w8) := Ext.trans (Ext.refl W).drew hx8
  have HO8 := Lib.hid ho8
  clear ho8 hx8
  refine hK.out _ _ (HK.out _ (HS.out.ext (HX8.out)) (((HX8.out).cell (p := ⟨b, o + 1, none⟩) hbW).trans HY1.out)) (fun hHeld => ?_)
  clear hK K
  (try simp only [Act.put, L1, L2, L3, L4, L5, L6])
  (refine tk 10 (v := ?_) ?_ ?_; rotate_left; · (intro w hSw; (try dsimp only at hSw); go_simp; all_goals with_reducible rfl))
  (try simp only [Act.put, L1, L2, L3, L4, L5, L6])
  (refine tk 11 (v := ?_) ?_ ?_; rotate_left; · (intro w hSw; (try dsimp only at hSw); go_simp; all_goals with_reducible rfl))
  (try simp only [Act.put, L1, L2, L3, L4, L5, L6])
  have HE8 := Lib.hid (HEB.out.ext HX8.out)
  have y8 : w8.cell? ⟨ge, 1, none⟩ = some (.slice Ab nb cb) := HE8.out.cell 1
  have f8 := HE8.out.frozen 1
  refine wpAnyH_ready (rs := [12]) (by kernel_rfl) (by simp) ?_
  refine AllReadyH.cons rfl (fun K hK => ?_) AllReadyH.nil
  go_simp
  have HS9 : Hid (Blk (w8.setCell ⟨ge, 1, none⟩ (.slice A8 (nb + 1) c8)) w.heap.size 69 #[.int .i64 xk, .string wd, .slice (some ⟨b, o, none⟩) n c, .int .i64 cnt, .slice B m e]) := (HS.out.ext HX8.out).far (p := ⟨ge, 1, none⟩) (by show w.heap.size ≠ ge; omega) _
  have HYA : Hid (((w8.setCell ⟨ge, 1, none⟩ (.slice A8 (nb + 1) c8))).cell? ⟨b, o + 1, none⟩ = some (.string y1)) := (World.cell?_of_block (Below.heap_setCell w8 ⟨ge, 1, none⟩ _ b HY.out.2.1)).trans ((HX8.out.cell (p := ⟨b, o + 1, none⟩) hbW).trans HY1.out)
  have HYB : Hid (((w8.setCell ⟨ge, 1, none⟩ (.slice A8 (nb + 1) c8))).cell? ⟨b, o, none⟩ = some (.string y)) := (World.cell?_of_block (Below.heap_setCell w8 ⟨ge, 1, none⟩ _ b HY.out.2.1)).trans ((HX8.out.cell (p := ⟨b, o, none⟩) hbW).trans HY.out.2.2)
  refine hK.out _ _ (HK.out _ HS9.out HYA.out) (fun hHeld => ?_)
  clear hK K
  (try simp only [Act.put, L1, L2, L3, L4, L5, L6])
  (refine wpAnyH_done (by kernel_rfl) ?_ _)
  have hk9 : ∀ q cs, Blk w8 q 9 cs → ((w8.setCell ⟨ge, 1, none⟩ (.slice A8 (nb + 1) c8))).heap[q]? = w8.heap[q]? := fun q cs hb => Below.heap_setCell w8 ⟨ge, 1, none⟩ _ q (blk_ne hb HE8.out (by decide))
  have HB9 : Hid (Blk (w8.setCell ⟨ge, 1, none⟩ (.slice A8 (nb + 1) c8)) ge 77 #[.slice An nn cn, .slice A8 (nb + 1) c8, .int .i64 mo, .bool lg]) := HE8.out.set_ 1 _
  have HN9 : Hid (Ns (w8.setCell ⟨ge, 1, none⟩ (.slice A8 (nb + 1) c8)) An nn) := (HEN.out.keep (fun q cs hb => HX8.out.block q hb.lt)).keep hk9
  have HN8 : Hid (Ns (w8.setCell ⟨ge, 1, none⟩ (.slice A8 (nb + 1) c8)) A8 (nb + 1)) := Ns.own (own_far HO8.out HE8.out (by decide) 1 _) (fun u hu => by
   rcases List.mem_append.1 hu with hu | hu
   ·exact HBS.out u hu
   ·obtain rfl := List.mem_singleton.1 hu; exact HYS1.out)
  have HG9 : Hid (w.grownBy (w8.setCell ⟨ge, 1, none⟩ (.slice A8 (nb + 1) c8)) (some ge)) := gr_setCell ((HX.out.trans HX8.out).gr _) 1 _
  have hsz9 : w.heap.size ≤ ((w8.setCell ⟨ge, 1, none⟩ (.slice A8 (nb + 1) c8))).heap.size := HG9.out.size
  have hge9 : ge < ((w8.setCell ⟨ge, 1, none⟩ (.slice A8 (nb + 1) c8))).heap.size := HB9.out.lt
  clear hHeld HK HE8 y8 f8 e3a hk9 HYA HO8 HX8 HBR HEB HEN HS HE HX HY1
  generalize (w8.setCell ⟨ge, 1, none⟩ (.slice A8 (nb + 1) c8)) = w9 at *
  go_upto_region 15 with (fail)
  obtain ⟨ns, -, hns⟩ := HN9.out.rd
  have HNR := Lib.hid (hns.ext (Ext.refl w9).drew)
  clear hns
  have HK : Hid (∀ w', Ext w9 w' → w'.cell? ⟨ge, 0, none⟩ = some (.slice An nn cn) ∧ w'.cell? ⟨w.heap.size, 2, none⟩ = some (.slice (some ⟨b, o, none⟩) n c) ∧ w'.cell? ⟨b, o, none⟩ = some (.string y) ∧ w'.cell? ⟨ge, 1, none⟩ = some (.slice A8 (nb + 1) c8)) := fun w' hx => ⟨(HB9.out.ext hx).cell 0, (HS9.out.ext hx).cell 2, (hx.cell (p := ⟨b, o, none⟩) (by show b < _; have := HY.out.1; omega)).trans HYB.out, (HB9.out.ext hx).cell 1⟩
  refine wp_region_held_drew (S := (fun w' => w'.cell? ⟨ge, 0, none⟩ = some (.slice An nn cn) ∧ w'.cell? ⟨w.heap.size, 2, none⟩ = some (.slice (some ⟨b, o, none⟩) n c) ∧ w'.cell? ⟨b, o, none⟩ = some (.string y) ∧ w'.cell? ⟨ge, 1, none⟩ = some (.slice A8 (nb + 1) c8))) (by kernel_rfl) (HK.out _ (Ext.refl w9).drew) (fun hHeld => ?_)
  (refine tk 0 (v := ?_) ?_ ?_; rotate_left; · (intro w hSw; (try dsimp only at hSw); go_simp; all_goals with_reducible rfl))
  (try simp only [Act.put, L1, L2, L3, L4, L5, L6])
  (refine tk 1 (v := ?_) ?_ ?_; rotate_left; · (intro w hSw; (try dsimp only at hSw); go_simp; all_goals with_reducible rfl))
  (try simp only [Act.put, L1, L2, L3, L4, L5, L6])
  (refine tk 2 (v := ?_) ?_ ?_; rotate_left; · (intro w hSw; (try dsimp only at hSw); go_simp; all_goals with_reducible rfl))
  (try simp only [Act.put, L1, L2, L3, L4, L5, L6])
  (refine tk 3 (v := ?_) ?_ ?_; rotate_left; · (intro w hSw; (try dsimp only at hSw); go_simp; all_goals with_reducible rfl))
  (try simp only [Act.put, L1, L2, L3, L4, L5, L6])
  (refine tk 4 (v := ?_) ?_ ?_; rotate_left; · (intro w hSw; (try dsimp only at hSw); go_simp; all_goals with_reducible rfl))
  (try simp only [Act.put, L1, L2, L3, L4, L5, L6])
  (refine tk 5 (v := ?_) ?_ ?_; rotate_left; · (intro w hSw; (try dsimp only at hSw); go_simp; all_goals with_reducible rfl))
  (try simp only [Act.put, L1, L2, L3, L4, L5, L6])
  (refine tk 6 (v := ?_) ?_ ?_; rotate_left; · (intro w hSw; (try dsimp only at hSw); go_simp; all_goals with_reducible rfl))
  (try simp only [Act.put, L1, L2, L3, L4, L5, L6])
  (refine tk 7 (v := ?_) ?_ ?_; rotate_left; · (intro w hSw; (try dsimp only at hSw); go_simp; all_goals with_reducible rfl))
  (try simp only [Act.put, L1, L2, L3, L4, L5, L6])
  (refine tk 9 (v := ?_) ?_ ?_; rotate_left; · (intro w hSw; (try dsimp only at hSw); go_simp; all_goals with_reducible rfl))
  (try simp only [Act.put, L1, L2, L3, L4, L5, L6])
  (refine tk 10 (v := ?_) ?_ ?_; rotate_left; · (intro w hSw; (try dsimp only at hSw); go_simp; all_goals with_reducible rfl))
  (try simp only [Act.put, L1, L2, L3, L4, L5, L6])
  (refine tk 11 (v := ?_) ?_ ?_; rotate_left; · (intro w hSw; (try dsimp only at hSw); go_simp; all_goals with_reducible rfl))
  (try simp only [Act.put, L1, L2, L3, L4, L5, L6])
  (refine tk 12 (v := ?_) ?_ ?_; rotate_left; · (intro w hSw; (try dsimp only at hSw); go_simp; all_goals with_reducible rfl))
  (try simp only [Act.put, L1, L2, L3, L4, L5, L6])
  (refine tk 13 (v := ?_) ?_ ?_; rotate_left; · (intro w hSw; (try dsimp only at hSw); go_simp; all_goals with_reducible rfl))
  (try simp only [Act.put, L1, L2, L3, L4, L5, L6])
  (refine tk 14 (v := ?_) ?_ ?_; rotate_left; · (intro w hSw; (try dsimp only at hSw); go_simp; all_goals with_reducible rfl))
  (try simp only [Act.put, L1, L2, L3, L4, L5, L6])
  refine wpAnyH_ready (rs := [8]) (by kernel_rfl) (by simp) ?_
  refine AllReadyH.cons rfl (fun K hK => ?_) AllReadyH.nil
  go_simp
  refine (l22At_any An nn cn ns y _ HNR.out (by omega)).mono ?_
  rintro e6 w6 ⟨⟨q6, rfl, -⟩, rfl⟩
  refine hK.out _ _ (HK.out _ (Ext.refl w9).drew) (fun hHeld => ?_)
  clear hK K
  (try simp only [Act.put, L1, L2, L3, L4, L5, L6])
  (refine tk 15 (v := ?_) ?_ ?_; rotate_left; · (intro w hSw; (try dsimp only at hSw); go_simp; all_goals with_reducible rfl))
  (try simp only [Act.put, L1, L2, L3, L4, L5, L6])
  refine wpAnyH_ready (rs := [16]) (by kernel_rfl) (by simp) ?_
  refine AllReadyH.cons rfl (fun K hK => ?_) AllReadyH.nil
  go_simp
  have HX9 : Hid (Ext w9 (w9.drew.alloc (.cells #[.int .i64 2, .int .i64 0, .int .i64 0, .int .i64 0, .int .i64 0, .int .i64 q6, .int .i64 (IntKind.i64.wrap (nb : Int)), .int .i64 0] 40))) := (Ext.refl w9).drew.alloc _
  have HL9 : Hid ((w9.drew.alloc (.cells #[.int .i64 2, .int .i64 0, .int .i64 0, .int .i64 0, .int .i64 0, .int .i64 q6, .int .i64 (IntKind.i64.wrap (nb : Int)), .int .i64 0] 40)).ownsRow w9.drew.heap.size 40 8 (.slice (some ⟨w9.heap.size, 0, none⟩) 1 1) 1 (ocells [⟨2, ⟨0, 0, 0, 0⟩, q6, IntKind.i64.wrap (nb : Int), 0⟩])) := own_lit (Ext.refl _) _ _ 8 1 _ _ rfl (by simp [Oq.cells]) rfl (by omega)
  refine hK.out _ _ (HK.out _ HX9.out) (fun hHeld => ?_)
  clear hK K
  (try simp only [Act.put, L1, L2, L3, L4, L5, L6])
  (refine tk 17 (v := ?_) ?_ ?_; rotate_left; · (intro w hSw; (try dsimp only at hSw); go_simp; all_goals with_reducible rfl))
  (try simp only [Act.put, L1, L2, L3, L4, L5, L6])
  (refine wpAnyH_done (by kernel_rfl) ?_ _)
  have HE9 : Hid (En w9 ge An nn cn (bd + 1)) := ⟨HN9.out, A8, nb + 1, c8, mo, lg, HB9.out, by omega, e4, HN8.out⟩
  have HEZ := Lib.hid (HE9.out.ext HX9.out)
  have HGZ : Hid (w.grownBy (w9.drew.alloc (.cells #[.int .i64 2, .int .i64 0, .int .i64 0, .int .i64 0, .int .i64 0, .int .i64 q6, .int .i64 (IntKind.i64.wrap (nb : Int)), .int .i64 0] 40)) (some ge)) := gr_ext HG9.out HX9.out
  clear hHeld HK
  go_wp2
  go_ret
  exact ⟨⟨_, _, [⟨2, ⟨0, 0, 0, 0⟩, q6, IntKind.i64.wrap (nb : Int), 0⟩], rfl, own_base HL9.out hsz9, by simp⟩, HEZ.out.mono (by omega), HGZ.out⟩
 obtain ⟨b, o, y, rfl, hb, r0, hym⟩ := str_0 HXR.out (show 1 ≤ n by have h9 := p1; unfold need at h9; first | (rw [beq_iff_eq.1 b4] at h9; simp at h9; omega) | (rw [beq_iff_eq.1 b1] at h9; simp at h9; omega) | (rw [beq_iff_eq.1 b6] at h9; simp at h9; omega) | (have g2 : xk ≠ 2 := (by simpa using b2); have g3 : xk ≠ 3 := (by simpa using b3); have g6 : xk ≠ 6 := (by simpa using b6); simp [g2, g3, g6] at h9; omega))
 have HYS := Lib.hid (HXS.out y hym)
 have HBK := HBA.out b o rfl (by have h9 := p1; unfold need at h9; first | (rw [beq_iff_eq.1 b4] at h9; simp at h9; omega) | (rw [beq_iff_eq.1 b1] at h9; simp at h9; omega) | (rw [beq_iff_eq.1 b6] at h9; simp at h9; omega) | (have g2 : xk ≠ 2 := (by simpa using b2); have g3 : xk ≠ 3 := (by simpa using b3); have g6 : xk ≠ 6 := (by simpa using b6); simp [g2, g3, g6] at h9; omega))
 have HY : Hid (b < w.heap.size ∧ b ≠ ge ∧ W.cell? ⟨b, o, none⟩ = some (.string y)) := ⟨HBK.2, HBK.1, (HX.out.cell (p := ⟨b, o, none⟩) hb).trans r0⟩
 have hn0 : 0 < n := by have h9 := p1; unfold need at h9; first | (rw [beq_iff_eq.1 b4] at h9; simp at h9; omega) | (rw [beq_iff_eq.1 b1] at h9; simp at h9; omega) | (rw [beq_iff_eq.1 b6] at h9; simp at h9; omega) | (have g2 : xk ≠ 2 := (by simpa using b2); have g3 : xk ≠ 3 := (by simpa using b3); have g6 : xk ≠ 6 := (by simpa using b6); simp [g2, g3, g6] at h9; omega)
 clear r0 hym HBK
 have HX7 : Hid (Ext W W) := Ext.refl W
 go_wp2_with fail
 refine (HALL.out _ HX.out).mono ?_
 rintro e8 w8 ⟨⟨A8, c8, ys, rfl, ho8, hl8⟩, he8, hg8⟩
 have HS8 : Hid (Blk w8 w.heap.size 69 #[.int .i64 xk, .string wd, .slice (some ⟨b, o, none⟩) n c, .int .i64 cnt, .slice B m e]) := (hg8.block _ (HS.out.ext HX7.out).lt (fun e => by injection e; omega)).trans (HS.out.ext HX7.out)
 have HG8 : Hid (w.grownBy w8 (some ge)) := gr_trans ((HX.out.trans HX7.out).gr _) hg8
 have HE8 := Lib.hid he8
 have HO8 := Lib.hid ho8
 have hsz8 := HG8.out.size
 have HB7 : Hid (w.heap.size ≤ W.heap.size) := (HX.out.trans HX7.out).size
 clear ho8 he8 hg8
 clear s0 s1 s2 s3 s4
 have HY8 : Hid (w8.cell? ⟨b, o, none⟩ = some (.string y)) := (World.cell?_of_block ((HG8.out.block b HY.out.1 (fun e => HY.out.2.1 (by injection e))).trans (HX.out.block b HY.out.1).symm)).trans HY.out.2.2
 obtain ⟨e1n, Ab, nb, cb, mo, lg, e2, e3, e4, e5⟩ := HE8.out
 obtain ⟨bs, -, hbr⟩ := e5.rd
 have HBR := Lib.hid (hbr.ext (Ext.refl w8).drew)
 have HEB := Lib.hid e2
 clear hbr e5 e1n e2 e4
 go_upto_region 17 with (fail)
 have HK : Hid (∀ w', Ext w8 w' → w'.cell? ⟨ge, 1, none⟩ = some (.slice Ab nb cb) ∧ w'.cell? ⟨w.heap.size, 2, none⟩ = some (.slice (some ⟨b, o, none⟩) n c) ∧ w'.cell? ⟨b, o, none⟩ = some (.string y)) := fun w' hx => ⟨(HEB.out.ext hx).cell 1, (HS8.out.ext hx).cell 2, (hx.cell (p := ⟨b, o, none⟩) (by show b < _; have := HY.out.1; omega)).trans HY8.out⟩
 refine wp_region_held_drew (S := (fun w' => w'.cell? ⟨ge, 1, none⟩ = some (.slice Ab nb cb) ∧ w'.cell? ⟨w.heap.size, 2, none⟩ = some (.slice (some ⟨b, o, none⟩) n c) ∧ w'.cell? ⟨b, o, none⟩ = some (.string y))) (by kernel_rfl) (HK.out _ (Ext.refl w8).drew) (fun hHeld => ?_)
 (refine tk 0 (v := ?_) ?_ ?_; rotate_left; · (intro w hSw; (try dsimp only at hSw); go_simp; all_goals with_reducible rfl))
 (try simp only [Act.put, L1, L2, L3, L4, L5, L6])
 (refine tk 1 (v := ?_) ?_ ?_; rotate_left; · (intro w hSw; (try dsimp only at hSw); go_simp; all_goals with_reducible rfl))
 (try simp only [Act.put, L1, L2, L3, L4, L5, L6])
 (refine tk 2 (v := ?_) ?_ ?_; rotate_left; · (intro w hSw; (try dsimp only at hSw); go_simp; all_goals with_reducible rfl))
 (try simp only [Act.put, L1, L2, L3, L4, L5, L6])
 (refine tk 3 (v := ?_) ?_ ?_; rotate_left; · (intro w hSw; (try dsimp only at hSw); go_simp; all_goals with_reducible rfl))
 (try simp only [Act.put, L1, L2, L3, L4, L5, L6])
 (refine tk 4 (v := ?_) ?_ ?_; rotate_left; · (intro w hSw; (try dsimp only at hSw); go_simp; all_goals with_reducible rfl))
 (try simp only [Act.put, L1, L2, L3, L4, L5, L6])
 (refine tk 5 (v := ?_) ?_ ?_; rotate_left; · (intro w hSw; (try dsimp only at hSw); go_simp; all_goals with_reducible rfl))
 (try simp only [Act.put, L1, L2, L3, L4, L5, L6])
 (refine tk 6 (v := ?_) ?_ ?_; rotate_left; · (intro w hSw; (try dsimp only at hSw); go_simp; all_goals with_reducible rfl))
 (try simp only [Act.put, L1, L2, L3, L4, L5, L6])
 (refine tk 7 (v := ?_) ?_ ?_; rotate_left; · (intro w hSw; (try dsimp only at hSw); go_simp; all_goals with_reducible rfl))
 (try simp only [Act.put, L1, L2, L3, L4, L5, L6])
 (refine tk 8 (v := ?_) ?_ ?_; rotate_left; · (intro w hSw; (try dsimp only at hSw); go_simp; all_goals with_reducible rfl))
 (try simp only [Act.put, L1, L2, L3, L4, L5, L6])
 refine wpAnyH_ready (rs := [9]) (by kernel_rfl) (by simp) ?_
 refine AllReadyH.cons rfl (fun K hK => ?_) AllReadyH.nil
 go_simp
 refine (l22At_any Ab nb cb bs y _ HBR.out (by omega)).mono ?_
 rintro e6 w6 ⟨⟨q6, rfl, -⟩, rfl⟩
 refine hK.out _ _ (HK.out _ (Ext.refl w8).drew) (fun hHeld => ?_)
 clear hK K
 (try simp only [Act.put, L1, L2, L3, L4, L5, L6])
 (refine tk 10 (v := ?_) ?_ ?_; rotate_left; · (intro w hSw; (try dsimp only at hSw); go_simp; all_goals with_reducible rfl))
 (try simp only [Act.put, L1, L2, L3, L4, L5, L6])
 refine wpAnyH_ready (rs := [11]) (by kernel_rfl) (by simp) ?_
 refine AllReadyH.cons rfl (fun K hK => ?_) AllReadyH.nil
 go_simp
 refine (l22If_any A8 ys.length c8 ys _ _ ((Rd.own HO8.out).ext (Ext.refl w8).drew) (by omega)).mono ?_
 rintro e9 w9 ⟨⟨A9, c9, zs, rfl, ho9, hl9⟩, hx9⟩
 have HX9 : Hid (Ext w8 w9) := Ext.trans (Ext.refl w8).drew hx9
 have HO9 := Lib.hid ho9
 clear hx9 ho9
 refine hK.out _ _ (HK.out _ HX9.out) (fun hHeld => ?_)
 clear hK K
 (try simp only [Act.put, L1, L2, L3, L4, L5, L6])
 (refine tk 12 (v := ?_) ?_ ?_; rotate_left; · (intro w hSw; (try dsimp only at hSw); go_simp; all_goals with_reducible rfl))
 (try simp only [Act.put, L1, L2, L3, L4, L5, L6])
 (refine wpAnyH_done (by kernel_rfl) ?_ _)
 clear hHeld HK
 have HE9 := Lib.hid (HE8.out.ext HX9.out)
 have HG9 := Lib.hid (gr_ext HG8.out HX9.out)
 go_wp2
 go_ret
 exact ⟨⟨A9, c9, zs, rfl, own_base HO9.out hsz8, by omega⟩, HE9.out.mono (by omega), HG9.out⟩
end Go.Proofs.YtdjckjfclhjpcaaGreat
namespace Go.Proofs.YtdjckjfclhjpcaaGreat
open Go.ChangeShapes Go.WideShapes Go.ChangeAt Go.RowKit Go.Deep
set_option linter.unusedVariables false
set_option linter.unusedSimpArgs false
/-- The statement, the result's block, and the environment for what is inside. -/
structure XSt (w W : World) (xk : Int) (wd : ByteArray) (A : Option Addr) (n c : Nat) (cnt : Int) (B : Option Addr) (m e : Nat) (vn vh vb : Value) : Prop where
 s : Blk W w.heap.size 69 #[.int .i64 xk, .string wd, .slice A n c, .int .i64 cnt, .slice B m e]
 z : Blk W (w.heap.size + 1) 103 #[.int .i64 0, .string ⟨#[]⟩]
 i : Blk W (w.heap.size + 1 + 1) 107 #[vn, vh, .bool true, vb]
 x : Ext w W
theorem XSt.ext {w W W' : World} {xk : Int} {wd : ByteArray} {A : Option Addr} {n c : Nat} {cnt : Int} {B : Option Addr} {m e : Nat} {vn vh vb : Value} (h : XSt w W xk wd A n c cnt B m e vn vh vb) (hx : Ext W W') : XSt w W' xk wd A n c cnt B m e vn vh vb := ⟨h.s.ext hx, h.z.ext hx, h.i.ext hx, h.x.trans hx⟩
theorem blk4f {w : World} {g t : Nat} {a b c d : Value} (h : Blk w g t #[a, b, c, d]) : (w.cell? ⟨g, 0, none⟩ = some a ∧ w.cell? ⟨g, 1, none⟩ = some b ∧ w.cell? ⟨g, 2, none⟩ = some c ∧ w.cell? ⟨g, 3, none⟩ = some d) ∧ w.frozen? ⟨g, 0, none⟩ = false ∧ w.frozen? ⟨g, 1, none⟩ = false ∧ w.frozen? ⟨g, 2, none⟩ = false ∧ w.frozen? ⟨g, 3, none⟩ = false :=
 ⟨⟨h.cell 0, h.cell 1, h.cell 2, h.cell 3⟩, h.frozen 0, h.frozen 1, h.frozen 2, h.frozen 3⟩
/-- The contract of l20All inside another statement. -/
def AllIn (d : Nat) : Prop := ∀ (A : Option Addr) (n c : Nat) (An : Option Addr) (nn cn : Nat) (Ah : Option Addr) (nh ch : Nat) (Ab : Option Addr) (nb cb : Nat) (ge : Nat) (K K' : Nat → Prop) (w : World), Ss d w K A n → Old w K → Blk w ge 107 #[.slice An nn cn, .slice Ah nh ch, .bool true, .slice Ab nb cb] → Nm w K' An nn → Nm w K' Ah nh → Old w K' → nn + d ≤ 900 ∧ nh + d ≤ 900 →
 Calls Tryz.prog 55 #[.slice A n c, .pointer (some ⟨ge, 0, none⟩)] w fun e w' => RBad e ∧ Ext w w'
set_option maxRecDepth 100000 in
set_option maxHeartbeats 32000000 in
/-- What l20Stmt does, where the calls for what is inside and for measurements are known. -/
theorem l20Stmt_of {d : Nat} (hall : AllIn d) (xk : Int) (wd : ByteArray) (A : Option Addr) (n c : Nat) (cnt : Int) (B : Option Addr) (m e : Nat) (An : Option Addr) (nn cn : Nat) (Ah : Option Addr) (nh ch : Nat) (ins : Bool) (Ab : Option Addr) (nb cb : Nat) (ge : Nat) (KS KN : Nat → Prop) (w : World) (Q : Ending → World → Prop) (hsv : Sv (d + 1) w KS ⟨xk, wd, A, n, c, cnt, B, m, e⟩) (hKS : Old w KS)
  (he : Blk w ge 107 #[.slice An nn cn, .slice Ah nh ch, .bool ins, .slice Ab nb cb]) (h1 : Nm w KN An nn) (h2 : Nm w KN Ah nh) (hKN : Old w KN) (hnn : nn + (d + 1) ≤ 900 ∧ nh + (d + 1) ≤ 900)
  (hb : ins = false → nb ≤ 3 ∧ ∃ bs : List ByteArray, Rd w w.heap.size 1 Ab nb (tcells bs)) (hQ : ∀ e w', RBad e → Ext w w' → Q e w')
  (hMe : 2 ≤ n → ∀ w1, Ext w w1 → Calls Tryz.prog 89 #[.agg #[.int .i64 xk, .string wd, .slice A n c, .int .i64 cnt, .slice B m e], .pointer (some ⟨ge, 0, none⟩)] w1 fun e w' => RBad e ∧ ∀ q z0 z1, w.heap.size ≤ q → Blk w1 q 103 #[z0, z1] → Blk w' q 103 #[z0, z1] ∧ ∀ e' a b, RBad e' → Q e' (put2b w' q a b)) :
  Calls Tryz.prog 67 #[.agg #[.int .i64 xk, .string wd, .slice A n c, .int .i64 cnt, .slice B m e], .pointer (some ⟨ge, 0, none⟩)] w Q := by
 obtain ⟨⟨p1, p2, p2', p3, p4⟩, xs, hxs, hxr⟩ := hsv.parts hKS
 simp only at p1 p2 p2' p3 p4 hxr
 have hgl := he.lt
 have HALL := Lib.hid hall
 have HSV := Lib.hid hsv
 have HKS := Lib.hid hKS
 have HKN := Lib.hid hKN
 have HN : Hid (Nm w KN An nn ∧ Nm w KN Ah nh) := ⟨h1, h2⟩
 have HQ := Lib.hid hQ
 have HB := Lib.hid hb
 have HME := Lib.hid hMe
 have HXR := Lib.hid hxr
 have HXS := Lib.hid hxs
 have HM : Hid (XSt w (((w.alloc (.cells #[.int .i64 xk, .string wd, .slice A n c, .int .i64 cnt, .slice B m e] 69)).alloc (.cells #[.int .i64 0, .string ⟨#[]⟩] 103)).alloc (.cells #[.slice An nn cn, .slice Ah nh ch, .bool true, .slice Ab nb cb] 107)) xk wd A n c cnt B m e (.slice An nn cn) (.slice Ah nh ch) (.slice Ab nb cb)) := ⟨((Blk.new w _ _).alloc _).alloc _, (Blk.newAt (by simp)).alloc _, Blk.newAt (by simp), (((Ext.refl w).alloc _).alloc _).alloc _⟩
 have HE := Lib.hid (he.ext HM.out.x)
 have e0 : w.cell? ⟨ge, 0, none⟩ = some (.slice An nn cn) := he.cell 0
 have e1 : w.cell? ⟨ge, 1, none⟩ = some (.slice Ah nh ch) := he.cell 1
 have e2 : w.cell? ⟨ge, 2, none⟩ = some (.bool ins) := he.cell 2
 have e3 : w.cell? ⟨ge, 3, none⟩ = some (.slice Ab nb cb) := he.cell 3
 clear hall hsv hKS hKN h1 h2 hQ hb hMe hxr hxs he
 go_enter Tryz.func67, Tryz.ntmps67
 go_upto_region 3 with (fail)
 clear e0 e1 e2 e3
 generalize (((w.alloc (.cells #[.int .i64 xk, .string wd, .slice A n c, .int .i64 cnt, .slice B m e] 69)).alloc (.cells #[.int .i64 0, .string ⟨#[]⟩] 103)).alloc (.cells #[.slice An nn cn, .slice Ah nh ch, .bool true, .slice Ab nb cb] 107)) = W at *
 have s0 : W.cell? ⟨w.heap.size, 0, none⟩ = some (.int .i64 xk) := HM.out.s.cell 0
 by_cases k1 : xk = 1
 ·skip
  have b1 : (xk == 1) = true := by rw [k1]; rfl
  have b4 : (xk == 4) = false := by rw [k1]; rfl
  have b5 : (xk == 5) = false := by rw [k1]; rfl
  have b6 : (xk == 6) = false := by rw [k1]; rfl
  have b7 : (xk == 7) = false := by rw [k1]; rfl
  clear k1
  go_upto_region 5 with (fail)
  clear s0
  have HK5 : Hid (∀ w', Ext W w' → w'.cell? ⟨w.heap.size, 0, none⟩ = some (.int .i64 xk) ∧ w'.cell? ⟨w.heap.size, 1, none⟩ = some (.string wd) ∧ w'.cell? ⟨w.heap.size, 2, none⟩ = some (.slice A n c) ∧ w'.cell? ⟨w.heap.size, 3, none⟩ = some (.int .i64 cnt) ∧ w'.cell? ⟨w.heap.size, 4, none⟩ = some (.slice B m e) ∧ w'.cell? ⟨ge, 0, none⟩ = some (.slice An nn cn) ∧ w'.cell? ⟨ge, 1, none⟩ = some (.slice Ah nh ch) ∧ w'.cell? ⟨ge, 2, none⟩ = some (.bool ins) ∧ w'.cell? ⟨ge, 3, none⟩ = some (.slice Ab nb cb)) := fun w' hx => ⟨(HM.out.s.ext hx).cell 0, (HM.out.s.ext hx).cell 1, (HM.out.s.ext hx).cell 2, (HM.out.s.ext hx).cell 3, (HM.out.s.ext hx).cell 4, (HE.out.ext hx).cell 0, (HE.out.ext hx).cell 1, (HE.out.ext hx).cell 2, (HE.out.ext hx).cell 3⟩
  refine wp_region_held_drew (S := (fun w' => w'.cell? ⟨w.heap.size, 0, none⟩ = some (.int .i64 xk) ∧ w'.cell? ⟨w.heap.size, 1, none⟩ = some (.string wd) ∧ w'.cell? ⟨w.heap.size, 2, none⟩ = some (.slice A n c) ∧ w'.cell? ⟨w.heap.size, 3, none⟩ = some (.int .i64 cnt) ∧ w'.cell? ⟨w.heap.size, 4, none⟩ = some (.slice B m e) ∧ w'.cell? ⟨ge, 0, none⟩ = some (.slice An nn cn) ∧ w'.cell? ⟨ge, 1, none⟩ = some (.slice Ah nh ch) ∧ w'.cell? ⟨ge, 2, none⟩ = some (.bool ins) ∧ w'.cell? ⟨ge, 3, none⟩ = some (.slice Ab nb cb))) (by kernel_rfl) (HK5.out _ (Ext.refl W).drew) (fun hHeld => ?_)
  (refine tk 0 (v := ?_) ?_ ?_; rotate_left; · (intro w hSw; (try dsimp only at hSw); go_simp; all_goals with_reducible rfl))
  (try simp only [Act.put, L1, L2, L3, L4, L5, L6])
  (refine tk 1 (v := ?_) ?_ ?_; rotate_left; · (intro w hSw; (try dsimp only at hSw); go_simp; all_goals with_reducible rfl))
  (try simp only [Act.put, L1, L2, L3, L4, L5, L6])
  (refine tk 2 (v := ?_) ?_ ?_; rotate_left; · (intro w hSw; (try dsimp only at hSw); go_simp; all_goals with_reducible rfl))
  (try simp only [Act.put, L1, L2, L3, L4, L5, L6])
  (refine tk 3 (v := ?_) ?_ ?_; rotate_left; · (intro w hSw; (try dsimp only at hSw); go_simp; all_goals with_reducible rfl))
  (try simp only [Act.put, L1, L2, L3, L4, L5, L6])
  refine wpAnyH_ready (rs := [4]) (by kernel_rfl) (by simp) ?_
  refine AllReadyH.cons rfl (fun K hK => ?_) AllReadyH.nil
  go_simp
  refine (l20Gate_any xk wd A n c cnt B m e An nn cn Ah nh ch ins (.slice Ab nb cb) KN _ p2 p2' xs ((HXR.out.ext HM.out.x).ext (Ext.refl W).drew) ((HN.out.1.ext HKN.out HM.out.x).ext (HKN.out.ext HM.out.x) (Ext.refl W).drew) ((HN.out.2.ext HKN.out HM.out.x).ext (HKN.out.ext HM.out.x) (Ext.refl W).drew) ((HKN.out.ext HM.out.x).ext (Ext.refl W).drew) (by omega)).mono ?_
  rintro e8 w8 ⟨⟨c8, s8, rfl⟩, hx8⟩
  have HX8 : Hid (Ext W w8) := Ext.trans (Ext.refl W).drew hx8
  clear hx8
  refine hK.out _ _ (HK5.out _ HX8.out) (fun hHeld => ?_)
  clear hK K
  (try simp only [Act.put, L1, L2, L3, L4, L5, L6])
  have HM8 := Lib.hid (HM.out.ext HX8.out)
  have HE8 := Lib.hid (HE.out.ext HX8.out)
  obtain ⟨⟨q0, q1⟩, f0, f1⟩ := blk2 HM8.out.z
  have HB9 := Lib.hid (HM8.out.z.put2b (.int .i64 c8) (.string s8))
  have HX9 := Lib.hid (ext_put2b HM8.out.x (show w.heap.size ≤ w.heap.size + 1 by omega) (.int .i64 c8) (.string s8))
  have HSS : Hid (Blk (put2b w8 (w.heap.size + 1) (.int .i64 c8) (.string s8)) w.heap.size 69 #[.int .i64 xk, .string wd, .slice A n c, .int .i64 cnt, .slice B m e]) := (HM8.out.s.far (p := ⟨w.heap.size + 1, 0, none⟩) (by show w.heap.size ≠ w.heap.size + 1; omega) _).far (p := ⟨w.heap.size + 1, 1, none⟩) (by show w.heap.size ≠ w.heap.size + 1; omega) _
  have HEE : Hid (Blk (put2b w8 (w.heap.size + 1) (.int .i64 c8) (.string s8)) ge 107 #[.slice An nn cn, .slice Ah nh ch, .bool ins, .slice Ab nb cb]) := (HE8.out.far (p := ⟨w.heap.size + 1, 0, none⟩) (by show ge ≠ w.heap.size + 1; omega) _).far (p := ⟨w.heap.size + 1, 1, none⟩) (by show ge ≠ w.heap.size + 1; omega) _
  refine wpAnyH_ready (rs := [5]) (by kernel_rfl) (by simp) ?_
  refine AllReadyH.cons rfl (fun K hK => ?_) AllReadyH.nil
  go_simp
  refine hK.out _ _ (⟨HSS.out.cell 0, HSS.out.cell 1, HSS.out.cell 2, HSS.out.cell 3, HSS.out.cell 4, HEE.out.cell 0, HEE.out.cell 1, HEE.out.cell 2, HEE.out.cell 3⟩) (fun hHeld => ?_)
  clear hK K
  (try simp only [Act.put, L1, L2, L3, L4, L5, L6])
  (refine wpAnyH_done (by kernel_rfl) ?_ _)
  clear q0 q1 f0 f1 hHeld
  go_wp2
  exact endBad rfl HB9.out _ rfl rfl fun e he => HQ.out e _ he HX9.out
 by_cases k4 : xk = 4
 ·skip
  have b1 : (xk == 1) = false := by rw [k4]; rfl
  have b4 : (xk == 4) = true := by rw [k4]; rfl
  have b5 : (xk == 5) = false := by rw [k4]; rfl
  have b6 : (xk == 6) = false := by rw [k4]; rfl
  have b7 : (xk == 7) = false := by rw [k4]; rfl
  clear k4
  obtain ⟨b, o, y, rfl, hb, r0, hym⟩ := str_0 HXR.out (show 1 ≤ n by have h9 := p1; unfold need at h9; first | (rw [beq_iff_eq.1 b4] at h9; simp at h9; omega) | (rw [beq_iff_eq.1 b5] at h9; simp at h9; omega) | (rw [beq_iff_eq.1 b6] at h9; simp at h9; omega) | (rw [beq_iff_eq.1 b7] at h9; simp at h9; omega))
  have HYS := Lib.hid (HXS.out y hym)
  have HY : Hid (b < W.heap.size ∧ W.cell? ⟨b, o, none⟩ = some (.string y)) := ⟨Nat.lt_of_lt_of_le hb HM.out.x.size, (HM.out.x.cell (p := ⟨b, o, none⟩) hb).trans r0⟩
  have hn0 : 0 < n := by have h9 := p1; unfold need at h9; first | (rw [beq_iff_eq.1 b4] at h9; simp at h9; omega) | (rw [beq_iff_eq.1 b5] at h9; simp at h9; omega) | (rw [beq_iff_eq.1 b6] at h9; simp at h9; omega) | (rw [beq_iff_eq.1 b7] at h9; simp at h9; omega)
  clear r0 hym
  go_upto_region 7 with (fail)
  clear s0
  have HK7 : Hid (∀ w', Ext W w' → w'.cell? ⟨ge, 0, none⟩ = some (.slice An nn cn) ∧ w'.cell? ⟨ge, 1, none⟩ = some (.slice Ah nh ch) ∧ w'.cell? ⟨ge, 2, none⟩ = some (.bool ins) ∧ w'.cell? ⟨ge, 3, none⟩ = some (.slice Ab nb cb) ∧ w'.cell? ⟨w.heap.size, 2, none⟩ = some (.slice (some ⟨b, o, none⟩) n c) ∧ w'.cell? ⟨b, o, none⟩ = some (.string y)) := fun w' hx => ⟨(HE.out.ext hx).cell 0, (HE.out.ext hx).cell 1, (HE.out.ext hx).cell 2, (HE.out.ext hx).cell 3, (HM.out.s.ext hx).cell 2, (hx.cell (p := ⟨b, o, none⟩) HY.out.1).trans HY.out.2⟩
  refine wp_region_held_drew (S := (fun w' => w'.cell? ⟨ge, 0, none⟩ = some (.slice An nn cn) ∧ w'.cell? ⟨ge, 1, none⟩ = some (.slice Ah nh ch) ∧ w'.cell? ⟨ge, 2, none⟩ = some (.bool ins) ∧ w'.cell? ⟨ge, 3, none⟩ = some (.slice Ab nb cb) ∧ w'.cell? ⟨w.heap.size, 2, none⟩ = some (.slice (some ⟨b, o, none⟩) n c) ∧ w'.cell? ⟨b, o, none⟩ = some (.string y))) (by kernel_rfl) (HK7.out _ (Ext.refl W).drew) (fun hHeld => ?_)
  (refine tk 0 (v := ?_) ?_ ?_; rotate_left; · (intro w hSw; (try dsimp only at hSw); go_simp; all_goals with_reducible rfl))
  (try simp only [Act.put, L1, L2, L3, L4, L5, L6])
  (refine tk 1 (v := ?_) ?_ ?_; rotate_left; · (intro w hSw; (try dsimp only at hSw); go_simp; all_goals with_reducible rfl))
  (try simp only [Act.put, L1, L2, L3, L4, L5, L6])
  (refine tk 2 (v := ?_) ?_ ?_; rotate_left; · (intro w hSw; (try dsimp only at hSw); go_simp; all_goals with_reducible rfl))
  (try simp only [Act.put, L1, L2, L3, L4, L5, L6])
  (refine tk 3 (v := ?_) ?_ ?_; rotate_left; · (intro w hSw; (try dsimp only at hSw); go_simp; all_goals with_reducible rfl))
  (try simp only [Act.put, L1, L2, L3, L4, L5, L6])
  (refine tk 4 (v := ?_) ?_ ?_; rotate_left; · (intro w hSw; (try dsimp only at hSw); go_simp; all_goals with_reducible rfl))
  (try simp only [Act.put, L1, L2, L3, L4, L5, L6])
  (refine tk 5 (v := ?_) ?_ ?_; rotate_left; · (intro w hSw; (try dsimp only at hSw); go_simp; all_goals with_reducible rfl))
  (try simp only [Act.put, L1, L2, L3, L4, L5, L6])
  (refine tk 6 (v := ?_) ?_ ?_; rotate_left; · (intro w hSw; (try dsimp only at hSw); go_simp; all_goals with_reducible rfl))
  (try simp only [Act.put, L1, L2, L3, L4, L5, L6])
  refine wpAnyH_ready (rs := [7, 8]) (by kernel_rfl) (by simp) ?_
  refine AllReadyH.cons rfl (fun K hK => ?_) (AllReadyH.cons rfl (fun K hK => ?_) AllReadyH.nil)
  ·skip
   go_simp
   refine (l20Arg_any An nn cn Ah nh ch ins (.slice Ab nb cb) y KN _ ((HN.out.1.ext HKN.out HM.out.x).ext (HKN.out.ext HM.out.x) ((Ext.refl W).drew)) ((HN.out.2.ext HKN.out HM.out.x).ext (HKN.out.ext HM.out.x) ((Ext.refl W).drew)) ((HKN.out.ext HM.out.x).ext ((Ext.refl W).drew)) (by omega)).mono ?_
   rintro e1 w5 ⟨⟨c1, s1, rfl⟩, hy5⟩
   have HY5 : Hid (Ext W w5) := Ext.trans (Ext.refl W).drew hy5
   refine hK.out _ _ (HK7.out _ HY5.out) (fun hHeld => ?_)
   clear hK K
   (try simp only [Act.put, L1, L2, L3, L4, L5, L6])
   refine wpAnyH_ready (rs := [8]) (by kernel_rfl) (by simp) ?_
   refine AllReadyH.cons rfl (fun K hK => ?_) AllReadyH.nil
   go_simp
   have HX6 : Hid (Ext W (w5.alloc (.cells #[.int .i64 0, .string ⟨#[]⟩] 103))) := HY5.out.alloc _
   have HB6 : Hid (Blk (w5.alloc (.cells #[.int .i64 0, .string ⟨#[]⟩] 103)) w5.heap.size 103 #[.int .i64 0, .string ⟨#[]⟩]) := Blk.new _ _ _
   have HS6 : W.heap.size ≤ w5.heap.size := HY5.out.size
   refine hK.out _ _ (HK7.out _ HX6.out) (fun hHeld => ?_)
   clear hK K
   (try simp only [Act.put, L1, L2, L3, L4, L5, L6])
   clear hy5
   generalize w5.alloc (.cells #[.int .i64 0, .string ⟨#[]⟩] 103) = w6 at *
   generalize hse : w5.heap.size = s at *
   clear hse HY5
   refine wpAnyH_ready (rs := [9]) (by kernel_rfl) (by simp) ?_
   refine AllReadyH.cons rfl (fun K hK => ?_) AllReadyH.nil
   obtain ⟨⟨q0, q1⟩, f0, f1⟩ := blk2 HB6.out
   go_simp
   have HX7 : Hid (Ext W ((w6.setCell ⟨s, 0, none⟩ (.int .i64 c1)).setCell ⟨s, 1, none⟩ (.string s1))) := ext_put2b (g := s) HX6.out HS6 _ _
   have HB7 : Hid (Blk ((w6.setCell ⟨s, 0, none⟩ (.int .i64 c1)).setCell ⟨s, 1, none⟩ (.string s1)) s 103 #[.int .i64 c1, .string s1]) := HB6.out.put2b _ _
   refine hK.out _ _ (HK7.out _ HX7.out) (fun hHeld => ?_)
   clear hK K
   (try simp only [Act.put, L1, L2, L3, L4, L5, L6])
   (refine wpAnyH_done (by kernel_rfl) ?_ _)
   clear q0 q1 f0 f1 hHeld
   clear HK7
   replace HM := Lib.hid (HM.out.ext HX7.out)
   replace HE := Lib.hid (HE.out.ext HX7.out)
   replace HY : Hid (b < ((w6.setCell ⟨s, 0, none⟩ (.int .i64 c1)).setCell ⟨s, 1, none⟩ (.string s1)).heap.size ∧ ((w6.setCell ⟨s, 0, none⟩ (.int .i64 c1)).setCell ⟨s, 1, none⟩ (.string s1)).cell? ⟨b, o, none⟩ = some (.string y)) := ⟨Nat.lt_of_lt_of_le HY.out.1 HX7.out.size, (HX7.out.cell (p := ⟨b, o, none⟩) HY.out.1).trans HY.out.2⟩
   clear HX7
   generalize (w6.setCell ⟨s, 0, none⟩ (.int .i64 c1)).setCell ⟨s, 1, none⟩ (.string s1) = w7 at *
   obtain ⟨⟨q0, q1⟩, f0, f1⟩ := blk2 HB7.out
   obtain ⟨⟨z0, z1⟩, g0, g1⟩ := blk2 HM.out.z
   cases hc1 : (c1 == 0)
   ·skip
    have q0' := q0
    have q1' := q1
    clear z0 z1 g0 g1
    have HB9 := Lib.hid (HM.out.z.put2b (.int .i64 c1) (.string s1))
    have HX9 := Lib.hid (ext_put2b HM.out.x (show w.heap.size ≤ w.heap.size + 1 by omega) (.int .i64 c1) (.string s1))
    obtain ⟨⟨z0, z1⟩, g0, g1⟩ := blk2 HM.out.z
    go_wp2
    exact endBad rfl HB9.out _ rfl rfl fun e he => HQ.out e _ he HX9.out
   ·skip
    go_upto_region 10 with (fail)
    clear hc1 q0 q1 f0 f1 z0 z1 g0 g1 HB7
    obtain ⟨zs, hzs, hz⟩ := HN.out.2
    have HZ := Lib.hid hzs
    have HRZ := Lib.hid (((hz.rd HKN.out).ext HM.out.x).ext (Ext.refl w7).drew)
    clear hzs hz
    have HKA : Hid (∀ w', Ext w7 w' → w'.cell? ⟨ge, 1, none⟩ = some (.slice Ah nh ch) ∧ w'.cell? ⟨w.heap.size, 2, none⟩ = some (.slice (some ⟨b, o, none⟩) n c) ∧ w'.cell? ⟨b, o, none⟩ = some (.string y)) := fun w' hx => ⟨(HE.out.ext hx).cell 1, (HM.out.s.ext hx).cell 2, (hx.cell (p := ⟨b, o, none⟩) HY.out.1).trans HY.out.2⟩
    refine wp_region_held_drew (S := (fun w' => w'.cell? ⟨ge, 1, none⟩ = some (.slice Ah nh ch) ∧ w'.cell? ⟨w.heap.size, 2, none⟩ = some (.slice (some ⟨b, o, none⟩) n c) ∧ w'.cell? ⟨b, o, none⟩ = some (.string y))) (by kernel_rfl) (HKA.out _ (Ext.refl w7).drew) (fun hHeld => ?_)
    (refine tk 0 (v := ?_) ?_ ?_; rotate_left; · (intro w hSw; (try dsimp only at hSw); go_simp; all_goals with_reducible rfl))
    (try simp only [Act.put, L1, L2, L3, L4, L5, L6])
    (refine tk 1 (v := ?_) ?_ ?_; rotate_left; · (intro w hSw; (try dsimp only at hSw); go_simp; all_goals with_reducible rfl))
    (try simp only [Act.put, L1, L2, L3, L4, L5, L6])
    (refine tk 2 (v := ?_) ?_ ?_; rotate_left; · (intro w hSw; (try dsimp only at hSw); go_simp; all_goals with_reducible rfl))
    (try simp only [Act.put, L1, L2, L3, L4, L5, L6])
    (refine tk 3 (v := ?_) ?_ ?_; rotate_left; · (intro w hSw; (try dsimp only at hSw); go_simp; all_goals with_reducible rfl))
    (try simp only [Act.put, L1, L2, L3, L4, L5, L6])
    (refine tk 4 (v := ?_) ?_ ?_; rotate_left; · (intro w hSw; (try dsimp only at hSw); go_simp; all_goals with_reducible rfl))
    (try simp only [Act.put, L1, L2, L3, L4, L5, L6])
    (refine tk 5 (v := ?_) ?_ ?_; rotate_left; · (intro w hSw; (try dsimp only at hSw); go_simp; all_goals with_reducible rfl))
    (try simp only [Act.put, L1, L2, L3, L4, L5, L6])
    (refine tk 6 (v := ?_) ?_ ?_; rotate_left; · (intro w hSw; (try dsimp only at hSw); go_simp; all_goals with_reducible rfl))
    (try simp only [Act.put, L1, L2, L3, L4, L5, L6])
    (refine tk 7 (v := ?_) ?_ ?_; rotate_left; · (intro w hSw; (try dsimp only at hSw); go_simp; all_goals with_reducible rfl))
    (try simp only [Act.put, L1, L2, L3, L4, L5, L6])
    refine wpAnyH_ready (rs := [8]) (by kernel_rfl) (by simp) ?_
    refine AllReadyH.cons rfl (fun K hK => ?_) AllReadyH.nil
    go_simp
    refine (l20Add_any Ah nh ch zs y _ HRZ.out (by omega)).mono ?_
    rintro e8 w8 ⟨⟨v8, rfl, ho8⟩, hx8⟩
    obtain ⟨A8, c8, rfl, -⟩ := own_slice ho8
    have HX8 : Hid (Ext w7 w8) := Ext.trans (Ext.refl w7).drew hx8
    have HO8 := Lib.hid ho8
    clear ho8 hx8
    refine hK.out _ _ (HKA.out _ HX8.out) (fun hHeld => ?_)
    clear hK K
    (try simp only [Act.put, L1, L2, L3, L4, L5, L6])
    (refine tk 9 (v := ?_) ?_ ?_; rotate_left; · (intro w hSw; (try dsimp only at hSw); go_simp; all_goals with_reducible rfl))
    (try simp only [Act.put, L1, L2, L3, L4, L5, L6])
    have HI8 := Lib.hid (HM.out.i.ext HX8.out)
    refine wpAnyH_ready (rs := [10]) (by kernel_rfl) (by simp) ?_
    refine AllReadyH.cons rfl (fun K hK => ?_) AllReadyH.nil
    obtain ⟨⟨i0, i1, i2, i3⟩, j0, j1, j2, j3⟩ := blk4f HI8.out
    go_simp
    have HM2 : Hid (XSt w (w8.setCell ⟨w.heap.size + 1 + 1, 1, none⟩ (.slice A8 (nh + 1) c8)) xk wd (some ⟨b, o, none⟩) n c cnt B m e (.slice An nn cn) (.slice A8 (nh + 1) c8) (.slice Ab nb cb)) := ⟨(HM.out.s.ext HX8.out).far (p := ⟨w.heap.size + 1 + 1, 1, none⟩) (by show w.heap.size ≠ w.heap.size + 1 + 1; omega) _, (HM.out.z.ext HX8.out).far (p := ⟨w.heap.size + 1 + 1, 1, none⟩) (by show w.heap.size + 1 ≠ w.heap.size + 1 + 1; omega) _, HI8.out.set_ 1 _, (HM.out.x.trans HX8.out).setCell (p := ⟨w.heap.size + 1 + 1, 1, none⟩) (by show w.heap.size ≤ w.heap.size + 1 + 1; omega) _⟩
    have HE2 : Hid (Blk (w8.setCell ⟨w.heap.size + 1 + 1, 1, none⟩ (.slice A8 (nh + 1) c8)) ge 107 #[.slice An nn cn, .slice Ah nh ch, .bool ins, .slice Ab nb cb]) := (HE.out.ext HX8.out).far (p := ⟨w.heap.size + 1 + 1, 1, none⟩) (by show ge ≠ w.heap.size + 1 + 1; omega) _
    have HY2 : Hid (((w8.setCell ⟨w.heap.size + 1 + 1, 1, none⟩ (.slice A8 (nh + 1) c8))).cell? ⟨b, o, none⟩ = some (.string y)) := (World.cell?_of_block (Below.heap_setCell w8 ⟨w.heap.size + 1 + 1, 1, none⟩ _ b (by show b ≠ w.heap.size + 1 + 1; omega))).trans ((HX8.out.cell (p := ⟨b, o, none⟩) HY.out.1).trans HY.out.2)
    have HS9 : Hid ((w8.setCell ⟨w.heap.size + 1 + 1, 1, none⟩ (.slice A8 (nh + 1) c8)).cell? ⟨ge, 1, none⟩ = some (.slice Ah nh ch) ∧ (w8.setCell ⟨w.heap.size + 1 + 1, 1, none⟩ (.slice A8 (nh + 1) c8)).cell? ⟨w.heap.size, 2, none⟩ = some (.slice (some ⟨b, o, none⟩) n c) ∧ (w8.setCell ⟨w.heap.size + 1 + 1, 1, none⟩ (.slice A8 (nh + 1) c8)).cell? ⟨b, o, none⟩ = some (.string y)) := ⟨HE2.out.cell 1, HM2.out.s.cell 2, HY2.out⟩
    refine hK.out _ _ (HS9.out) (fun hHeld => ?_)
    clear hK K
    (try simp only [Act.put, L1, L2, L3, L4, L5, L6])
    (refine wpAnyH_done (by kernel_rfl) ?_ _)
    have HNW : Hid (Nm (w8.setCell ⟨w.heap.size + 1 + 1, 1, none⟩ (.slice A8 (nh + 1) c8)) (fun q => q < ((w8.setCell ⟨w.heap.size + 1 + 1, 1, none⟩ (.slice A8 (nh + 1) c8))).heap.size) A8 (nh + 1)) := by
     refine ⟨zs ++ [y], fun u hu => ?_, RdK.of (Rd.own (own_far HO8.out HI8.out (by decide) 1 _)) fun q hq _ => hq⟩
     rcases List.mem_append.1 hu with hu | hu
     ·exact HZ.out u hu
     ·obtain rfl := List.mem_singleton.1 hu; exact HYS.out
    clear hHeld HKA HRZ HZ HS9 HY2 HO8 HI8 HX8 i0 i1 i2 i3 j0 j1 j2 j3 HE HE2 HM HY
    replace HM := HM2
    clear HM2
    generalize (w8.setCell ⟨w.heap.size + 1 + 1, 1, none⟩ (.slice A8 (nh + 1) c8)) = w9 at *
    have s4 : w9.cell? ⟨w.heap.size, 4, none⟩ = some (.slice B m e) := HM.out.s.cell 4
    go_wp2_with fail
    refine (HALL.out B m e An nn cn A8 (nh + 1) c8 Ab nb cb (w.heap.size + 1 + 1) KS (fun q => q < w9.heap.size) _ (HSV.out.body.ext HKS.out HM.out.x) (HKS.out.ext HM.out.x) HM.out.i (HN.out.1.keep (fun q hq => HM.out.x.block q (HKN.out q hq)) fun q hq => Nat.lt_of_lt_of_le (HKN.out q hq) HM.out.x.size) HNW.out (fun _ h => h) (by omega)).mono ?_
    rintro e9 w9 ⟨⟨c9, s9, rfl⟩, hx9⟩
    replace HM := Lib.hid (HM.out.ext hx9)
    clear hx9 s4
    have HB9 := Lib.hid (HM.out.z.put2b (.int .i64 c9) (.string s9))
    have HX9 := Lib.hid (ext_put2b HM.out.x (show w.heap.size ≤ w.heap.size + 1 by omega) (.int .i64 c9) (.string s9))
    obtain ⟨⟨q0, q1⟩, f0, f1⟩ := blk2 HM.out.z
    go_wp2
    exact endBad rfl HB9.out _ rfl rfl fun e he => HQ.out e _ he HX9.out
  ·skip
   go_simp
   refine hK.out _ _ (HK7.out _ (((Ext.refl W).alloc _).drew)) (fun hHeld => ?_)
   clear hK K
   (try simp only [Act.put, L1, L2, L3, L4, L5, L6])
   refine wpAnyH_ready (rs := [7]) (by kernel_rfl) (by simp) ?_
   refine AllReadyH.cons rfl (fun K hK => ?_) AllReadyH.nil
   go_simp
   refine (l20Arg_any An nn cn Ah nh ch ins (.slice Ab nb cb) y KN _ ((HN.out.1.ext HKN.out HM.out.x).ext (HKN.out.ext HM.out.x) (((Ext.refl W).alloc (.cells #[.int .i64 0, .string ⟨#[]⟩] 103)).drew)) ((HN.out.2.ext HKN.out HM.out.x).ext (HKN.out.ext HM.out.x) (((Ext.refl W).alloc (.cells #[.int .i64 0, .string ⟨#[]⟩] 103)).drew)) ((HKN.out.ext HM.out.x).ext (((Ext.refl W).alloc (.cells #[.int .i64 0, .string ⟨#[]⟩] 103)).drew)) (by omega)).mono ?_
   rintro e1 w5 ⟨⟨c1, s1, rfl⟩, hy5⟩
   have HX6 : Hid (Ext W w5) := Ext.trans ((Ext.refl W).alloc (.cells #[.int .i64 0, .string ⟨#[]⟩] 103)).drew hy5
   have HB6 : Hid (Blk w5 W.heap.size 103 #[.int .i64 0, .string ⟨#[]⟩]) := ((Blk.new W 103 #[.int .i64 0, .string ⟨#[]⟩]).ext (Ext.refl _).drew).ext hy5
   have HS6 : W.heap.size ≤ W.heap.size := Nat.le_refl _
   refine hK.out _ _ (HK7.out _ HX6.out) (fun hHeld => ?_)
   clear hK K
   (try simp only [Act.put, L1, L2, L3, L4, L5, L6])
   clear hy5
   have hsw : ∃ s, s = W.heap.size := ⟨_, rfl⟩
   obtain ⟨s, hs⟩ := hsw
   rw [← hs] at HB6 HS6 ⊢
   replace HS6 : W.heap.size ≤ s := by omega
   clear hs
   have hww : ∃ w6, w6 = w5 := ⟨_, rfl⟩
   obtain ⟨w6, rfl⟩ := hww
   refine wpAnyH_ready (rs := [9]) (by kernel_rfl) (by simp) ?_
   refine AllReadyH.cons rfl (fun K hK => ?_) AllReadyH.nil
   obtain ⟨⟨q0, q1⟩, f0, f1⟩ := blk2 HB6.out
   go_simp
   have HX7 : Hid (Ext W ((w6.setCell ⟨s, 0, none⟩ (.int .i64 c1)).setCell ⟨s, 1, none⟩ (.string s1))) := ext_put2b (g := s) HX6.out HS6 _ _
   have HB7 : Hid (Blk ((w6.setCell ⟨s, 0, none⟩ (.int .i64 c1)).setCell ⟨s, 1, none⟩ (.string s1)) s 103 #[.int .i64 c1, .string s1]) := HB6.out.put2b _ _
   refine hK.out _ _ (HK7.out _ HX7.out) (fun hHeld => ?_)
   clear hK K
   (try simp only [Act.put, L1, L2, L3, L4, L5, L6])
   (refine wpAnyH_done (by kernel_rfl) ?_ _)
   clear q0 q1 f0 f1 hHeld
   clear HK7
   replace HM := Lib.hid (HM.out.ext HX7.out)
   replace HE := Lib.hid (HE.out.ext HX7.out)
   replace HY : Hid (b < ((w6.setCell ⟨s, 0, none⟩ (.int .i64 c1)).setCell ⟨s, 1, none⟩ (.string s1)).heap.size ∧ ((w6.setCell ⟨s, 0, none⟩ (.int .i64 c1)).setCell ⟨s, 1, none⟩ (.string s1)).cell? ⟨b, o, none⟩ = some (.string y)) := ⟨Nat.lt_of_lt_of_le HY.out.1 HX7.out.size, (HX7.out.cell (p := ⟨b, o, none⟩) HY.out.1).trans HY.out.2⟩
   clear HX7
   generalize (w6.setCell ⟨s, 0, none⟩ (.int .i64 c1)).setCell ⟨s, 1, none⟩ (.string s1) = w7 at *
   obtain ⟨⟨q0, q1⟩, f0, f1⟩ := blk2 HB7.out
   obtain ⟨⟨z0, z1⟩, g0, g1⟩ := blk2 HM.out.z
   cases hc1 : (c1 == 0)
   ·skip
    have q0' := q0
    have q1' := q1
    clear z0 z1 g0 g1
    have HB9 := Lib.hid (HM.out.z.put2b (.int .i64 c1) (.string s1))
    have HX9 := Lib.hid (ext_put2b HM.out.x (show w.heap.size ≤ w.heap.size + 1 by omega) (.int .i64 c1) (.string s1))
    obtain ⟨⟨z0, z1⟩, g0, g1⟩ := blk2 HM.out.z
    go_wp2
    exact endBad rfl HB9.out _ rfl rfl fun e he => HQ.out e _ he HX9.out
   ·skip
    go_upto_region 10 with (fail)
    clear hc1 q0 q1 f0 f1 z0 z1 g0 g1 HB7
    obtain ⟨zs, hzs, hz⟩ := HN.out.2
    have HZ := Lib.hid hzs
    have HRZ := Lib.hid (((hz.rd HKN.out).ext HM.out.x).ext (Ext.refl w7).drew)
    clear hzs hz
    have HKA : Hid (∀ w', Ext w7 w' → w'.cell? ⟨ge, 1, none⟩ = some (.slice Ah nh ch) ∧ w'.cell? ⟨w.heap.size, 2, none⟩ = some (.slice (some ⟨b, o, none⟩) n c) ∧ w'.cell? ⟨b, o, none⟩ = some (.string y)) := fun w' hx => ⟨(HE.out.ext hx).cell 1, (HM.out.s.ext hx).cell 2, (hx.cell (p := ⟨b, o, none⟩) HY.out.1).trans HY.out.2⟩
    refine wp_region_held_drew (S := (fun w' => w'.cell? ⟨ge, 1, none⟩ = some (.slice Ah nh ch) ∧ w'.cell? ⟨w.heap.size, 2, none⟩ = some (.slice (some ⟨b, o, none⟩) n c) ∧ w'.cell? ⟨b, o, none⟩ = some (.string y))) (by kernel_rfl) (HKA.out _ (Ext.refl w7).drew) (fun hHeld => ?_)
    (refine tk 0 (v := ?_) ?_ ?_; rotate_left; · (intro w hSw; (try dsimp only at hSw); go_simp; all_goals with_reducible rfl))
    (try simp only [Act.put, L1, L2, L3, L4, L5, L6])
    (refine tk 1 (v := ?_) ?_ ?_; rotate_left; · (intro w hSw; (try dsimp only at hSw); go_simp; all_goals with_reducible rfl))
    (try simp only [Act.put, L1, L2, L3, L4, L5, L6])
    (refine tk 2 (v := ?_) ?_ ?_; rotate_left; · (intro w hSw; (try dsimp only at hSw); go_simp; all_goals with_reducible rfl))
    (try simp only [Act.put, L1, L2, L3, L4, L5, L6])
    (refine tk 3 (v := ?_) ?_ ?_; rotate_left; · (intro w hSw; (try dsimp only at hSw); go_simp; all_goals with_reducible rfl))
    (try simp only [Act.put, L1, L2, L3, L4, L5, L6])
    (refine tk 4 (v := ?_) ?_ ?_; rotate_left; · (intro w hSw; (try dsimp only at hSw); go_simp; all_goals with_reducible rfl))
    (try simp only [Act.put, L1, L2, L3, L4, L5, L6])
    (refine tk 5 (v := ?_) ?_ ?_; rotate_left; · (intro w hSw; (try dsimp only at hSw); go_simp; all_goals with_reducible rfl))
    (try simp only [Act.put, L1, L2, L3, L4, L5, L6])
    (refine tk 6 (v := ?_) ?_ ?_; rotate_left; · (intro w hSw; (try dsimp only at hSw); go_simp; all_goals with_reducible rfl))
    (try simp only [Act.put, L1, L2, L3, L4, L5, L6])
    (refine tk 7 (v := ?_) ?_ ?_; rotate_left; · (intro w hSw; (try dsimp only at hSw); go_simp; all_goals with_reducible rfl))
    (try simp only [Act.put, L1, L2, L3, L4, L5, L6])
    refine wpAnyH_ready (rs := [8]) (by kernel_rfl) (by simp) ?_
    refine AllReadyH.cons rfl (fun K hK => ?_) AllReadyH.nil
    go_simp
    refine (l20Add_any Ah nh ch zs y _ HRZ.out (by omega)).mono ?_
    rintro e8 w8 ⟨⟨v8, rfl, ho8⟩, hx8⟩
    obtain ⟨A8, c8, rfl, -⟩ := own_slice ho8
    have HX8 : Hid (Ext w7 w8) := Ext.trans (Ext.refl w7).drew hx8
    have HO8 := Lib.hid ho8
    clear ho8 hx8
    refine hK.out _ _ (HKA.out _ HX8.out) (fun hHeld => ?_)
    clear hK K
    (try simp only [Act.put, L1, L2, L3, L4, L5, L6])
    (refine tk 9 (v := ?_) ?_ ?_; rotate_left; · (intro w hSw; (try dsimp only at hSw); go_simp; all_goals with_reducible rfl))
    (try simp only [Act.put, L1, L2, L3, L4, L5, L6])
    have HI8 := Lib.hid (HM.out.i.ext HX8.out)
    refine wpAnyH_ready (rs := [10]) (by kernel_rfl) (by simp) ?_
    refine AllReadyH.cons rfl (fun K hK => ?_) AllReadyH.nil
    obtain ⟨⟨i0, i1, i2, i3⟩, j0, j1, j2, j3⟩ := blk4f HI8.out
    go_simp
    have HM2 : Hid (XSt w (w8.setCell ⟨w.heap.size + 1 + 1, 1, none⟩ (.slice A8 (nh + 1) c8)) xk wd (some ⟨b, o, none⟩) n c cnt B m e (.slice An nn cn) (.slice A8 (nh + 1) c8) (.slice Ab nb cb)) := ⟨(HM.out.s.ext HX8.out).far (p := ⟨w.heap.size + 1 + 1, 1, none⟩) (by show w.heap.size ≠ w.heap.size + 1 + 1; omega) _, (HM.out.z.ext HX8.out).far (p := ⟨w.heap.size + 1 + 1, 1, none⟩) (by show w.heap.size + 1 ≠ w.heap.size + 1 + 1; omega) _, HI8.out.set_ 1 _, (HM.out.x.trans HX8.out).setCell (p := ⟨w.heap.size + 1 + 1, 1, none⟩) (by show w.heap.size ≤ w.heap.size + 1 + 1; omega) _⟩
    have HE2 : Hid (Blk (w8.setCell ⟨w.heap.size + 1 + 1, 1, none⟩ (.slice A8 (nh + 1) c8)) ge 107 #[.slice An nn cn, .slice Ah nh ch, .bool ins, .slice Ab nb cb]) := (HE.out.ext HX8.out).far (p := ⟨w.heap.size + 1 + 1, 1, none⟩) (by show ge ≠ w.heap.size + 1 + 1; omega) _
    have HY2 : Hid (((w8.setCell ⟨w.heap.size + 1 + 1, 1, none⟩ (.slice A8 (nh + 1) c8))).cell? ⟨b, o, none⟩ = some (.string y)) := (World.cell?_of_block (Below.heap_setCell w8 ⟨w.heap.size + 1 + 1, 1, none⟩ _ b (by show b ≠ w.heap.size + 1 + 1; omega))).trans ((HX8.out.cell (p := ⟨b, o, none⟩) HY.out.1).trans HY.out.2)
    have HS9 : Hid ((w8.setCell ⟨w.heap.size + 1 + 1, 1, none⟩ (.slice A8 (nh + 1) c8)).cell? ⟨ge, 1, none⟩ = some (.slice Ah nh ch) ∧ (w8.setCell ⟨w.heap.size + 1 + 1, 1, none⟩ (.slice A8 (nh + 1) c8)).cell? ⟨w.heap.size, 2, none⟩ = some (.slice (some ⟨b, o, none⟩) n c) ∧ (w8.setCell ⟨w.heap.size + 1 + 1, 1, none⟩ (.slice A8 (nh + 1) c8)).cell? ⟨b, o, none⟩ = some (.string y)) := ⟨HE2.out.cell 1, HM2.out.s.cell 2, HY2.out⟩
    refine hK.out _ _ (HS9.out) (fun hHeld => ?_)
    clear hK K
    (try simp only [Act.put, L1, L2, L3, L4, L5, L6])
    (refine wpAnyH_done (by kernel_rfl) ?_ _)
    have HNW : Hid (Nm (w8.setCell ⟨w.heap.size + 1 + 1, 1, none⟩ (.slice A8 (nh + 1) c8)) (fun q => q < ((w8.setCell ⟨w.heap.size + 1 + 1, 1, none⟩ (.slice A8 (nh + 1) c8))).heap.size) A8 (nh + 1)) := by
     refine ⟨zs ++ [y], fun u hu => ?_, RdK.of (Rd.own (own_far HO8.out HI8.out (by decide) 1 _)) fun q hq _ => hq⟩
     rcases List.mem_append.1 hu with hu | hu
     ·exact HZ.out u hu
     ·obtain rfl := List.mem_singleton.1 hu; exact HYS.out
    clear hHeld HKA HRZ HZ HS9 HY2 HO8 HI8 HX8 i0 i1 i2 i3 j0 j1 j2 j3 HE HE2 HM HY
    replace HM := HM2
    clear HM2
    generalize (w8.setCell ⟨w.heap.size + 1 + 1, 1, none⟩ (.slice A8 (nh + 1) c8)) = w9 at *
    have s4 : w9.cell? ⟨w.heap.size, 4, none⟩ = some (.slice B m e) := HM.out.s.cell 4
    go_wp2_with fail
    refine (HALL.out B m e An nn cn A8 (nh + 1) c8 Ab nb cb (w.heap.size + 1 + 1) KS (fun q => q < w9.heap.size) _ (HSV.out.body.ext HKS.out HM.out.x) (HKS.out.ext HM.out.x) HM.out.i (HN.out.1.keep (fun q hq => HM.out.x.block q (HKN.out q hq)) fun q hq => Nat.lt_of_lt_of_le (HKN.out q hq) HM.out.x.size) HNW.out (fun _ h => h) (by omega)).mono ?_
    rintro e9 w9 ⟨⟨c9, s9, rfl⟩, hx9⟩
    replace HM := Lib.hid (HM.out.ext hx9)
    clear hx9 s4
    have HB9 := Lib.hid (HM.out.z.put2b (.int .i64 c9) (.string s9))
    have HX9 := Lib.hid (ext_put2b HM.out.x (show w.heap.size ≤ w.heap.size + 1 by omega) (.int .i64 c9) (.string s9))
    obtain ⟨⟨q0, q1⟩, f0, f1⟩ := blk2 HM.out.z
    go_wp2
    exact endBad rfl HB9.out _ rfl rfl fun e he => HQ.out e _ he HX9.out
 by_cases k5 : xk = 5
 ·skip
  have b1 : (xk == 1) = false := by rw [k5]; rfl
  have b4 : (xk == 4) = false := by rw [k5]; rfl
  have b5 : (xk == 5) = true := by rw [k5]; rfl
  have b6 : (xk == 6) = false := by rw [k5]; rfl
  have b7 : (xk == 7) = false := by rw [k5]; rfl
  clear k5
  obtain ⟨b, o, y, rfl, hb, r0, hym⟩ := str_0 HXR.out (show 1 ≤ n by have h9 := p1; unfold need at h9; first | (rw [beq_iff_eq.1 b4] at h9; simp at h9; omega) | (rw [beq_iff_eq.1 b5] at h9; simp at h9; omega) | (rw [beq_iff_eq.1 b6] at h9; simp at h9; omega) | (rw [beq_iff_eq.1 b7] at h9; simp at h9; omega))
  have HYS := Lib.hid (HXS.out y hym)
  have HY : Hid (b < W.heap.size ∧ W.cell? ⟨b, o, none⟩ = some (.string y)) := ⟨Nat.lt_of_lt_of_le hb HM.out.x.size, (HM.out.x.cell (p := ⟨b, o, none⟩) hb).trans r0⟩
  have hn0 : 0 < n := by have h9 := p1; unfold need at h9; first | (rw [beq_iff_eq.1 b4] at h9; simp at h9; omega) | (rw [beq_iff_eq.1 b5] at h9; simp at h9; omega) | (rw [beq_iff_eq.1 b6] at h9; simp at h9; omega) | (rw [beq_iff_eq.1 b7] at h9; simp at h9; omega)
  clear r0 hym
  obtain ⟨zs, -, hz⟩ := HN.out.1
  go_upto_region 12 with (fail)
  clear s0
  have HK8 : Hid (∀ w', Ext W w' → w'.cell? ⟨ge, 0, none⟩ = some (.slice An nn cn) ∧ w'.cell? ⟨w.heap.size, 2, none⟩ = some (.slice (some ⟨b, o, none⟩) n c) ∧ w'.cell? ⟨b, o, none⟩ = some (.string y)) := fun w' hx => ⟨(HE.out.ext hx).cell 0, (HM.out.s.ext hx).cell 2, (hx.cell (p := ⟨b, o, none⟩) HY.out.1).trans HY.out.2⟩
  have HRZ : Hid (Rd W.drew W.drew.heap.size 1 An nn (tcells zs)) := ((hz.rd HKN.out).ext HM.out.x).ext (Ext.refl W).drew
  clear hz
  refine wp_region_held_drew (S := (fun w' => w'.cell? ⟨ge, 0, none⟩ = some (.slice An nn cn) ∧ w'.cell? ⟨w.heap.size, 2, none⟩ = some (.slice (some ⟨b, o, none⟩) n c) ∧ w'.cell? ⟨b, o, none⟩ = some (.string y))) (by kernel_rfl) (HK8.out _ (Ext.refl W).drew) (fun hHeld => ?_)
  (refine tk 0 (v := ?_) ?_ ?_; rotate_left; · (intro w hSw; (try dsimp only at hSw); go_simp; all_goals with_reducible rfl))
  (try simp only [Act.put, L1, L2, L3, L4, L5, L6])
  (refine tk 1 (v := ?_) ?_ ?_; rotate_left; · (intro w hSw; (try dsimp only at hSw); go_simp; all_goals with_reducible rfl))
  (try simp only [Act.put, L1, L2, L3, L4, L5, L6])
  (refine tk 2 (v := ?_) ?_ ?_; rotate_left; · (intro w hSw; (try dsimp only at hSw); go_simp; all_goals with_reducible rfl))
  (try simp only [Act.put, L1, L2, L3, L4, L5, L6])
  (refine tk 3 (v := ?_) ?_ ?_; rotate_left; · (intro w hSw; (try dsimp only at hSw); go_simp; all_goals with_reducible rfl))
  (try simp only [Act.put, L1, L2, L3, L4, L5, L6])
  (refine tk 4 (v := ?_) ?_ ?_; rotate_left; · (intro w hSw; (try dsimp only at hSw); go_simp; all_goals with_reducible rfl))
  (try simp only [Act.put, L1, L2, L3, L4, L5, L6])
  (refine tk 5 (v := ?_) ?_ ?_; rotate_left; · (intro w hSw; (try dsimp only at hSw); go_simp; all_goals with_reducible rfl))
  (try simp only [Act.put, L1, L2, L3, L4, L5, L6])
  (refine tk 6 (v := ?_) ?_ ?_; rotate_left; · (intro w hSw; (try dsimp only at hSw); go_simp; all_goals with_reducible rfl))
  (try simp only [Act.put, L1, L2, L3, L4, L5, L6])
  (refine tk 7 (v := ?_) ?_ ?_; rotate_left; · (intro w hSw; (try dsimp only at hSw); go_simp; all_goals with_reducible rfl))
  (try simp only [Act.put, L1, L2, L3, L4, L5, L6])
  refine wpAnyH_ready (rs := [8]) (by kernel_rfl) (by simp) ?_
  refine AllReadyH.cons rfl (fun K hK => ?_) AllReadyH.nil
  go_simp
  refine (l1Has_any An nn cn zs y _ HRZ.out (by omega)).mono ?_
  rintro e8 w8 ⟨⟨b8, rfl⟩, rfl⟩
  refine hK.out _ _ (HK8.out _ (Ext.refl W).drew) (fun hHeld => ?_)
  clear hK K
  (try simp only [Act.put, L1, L2, L3, L4, L5, L6])
  (refine wpAnyH_done (by kernel_rfl) ?_ _)
  have HX8 : Hid (Ext W W.drew) := (Ext.refl W).drew
  replace HM := Lib.hid (HM.out.ext HX8.out)
  replace HE := Lib.hid (HE.out.ext HX8.out)
  replace HY : Hid (b < W.drew.heap.size ∧ W.drew.cell? ⟨b, o, none⟩ = some (.string y)) := ⟨Nat.lt_of_lt_of_le HY.out.1 HX8.out.size, (HX8.out.cell (p := ⟨b, o, none⟩) HY.out.1).trans HY.out.2⟩
  clear hHeld HX8 HK8 HRZ
  generalize W.drew = w7 at *
  have s2 : w7.cell? ⟨w.heap.size, 2, none⟩ = some (.slice (some ⟨b, o, none⟩) n c) := HM.out.s.cell 2
  have e0 : w7.cell? ⟨ge, 0, none⟩ = some (.slice An nn cn) := HE.out.cell 0
  have hy := HY.out.2
  cases b8
  ·skip
   cases h4 : ((nn : Int) == 4)
   ·skip
    go_upto_region 16 with (fail)
    clear s2 e0 hy h4
    obtain ⟨zs, hzs, hz⟩ := HN.out.1
    have HZ := Lib.hid hzs
    have HRZ := Lib.hid (((hz.rd HKN.out).ext HM.out.x).ext (Ext.refl w7).drew)
    clear hzs hz
    have HKA : Hid (∀ w', Ext w7 w' → w'.cell? ⟨ge, 0, none⟩ = some (.slice An nn cn) ∧ w'.cell? ⟨w.heap.size, 2, none⟩ = some (.slice (some ⟨b, o, none⟩) n c) ∧ w'.cell? ⟨b, o, none⟩ = some (.string y)) := fun w' hx => ⟨(HE.out.ext hx).cell 0, (HM.out.s.ext hx).cell 2, (hx.cell (p := ⟨b, o, none⟩) HY.out.1).trans HY.out.2⟩
    refine wp_region_held_drew (S := (fun w' => w'.cell? ⟨ge, 0, none⟩ = some (.slice An nn cn) ∧ w'.cell? ⟨w.heap.size, 2, none⟩ = some (.slice (some ⟨b, o, none⟩) n c) ∧ w'.cell? ⟨b, o, none⟩ = some (.string y))) (by kernel_rfl) (HKA.out _ (Ext.refl w7).drew) (fun hHeld => ?_)
    (refine tk 0 (v := ?_) ?_ ?_; rotate_left; · (intro w hSw; (try dsimp only at hSw); go_simp; all_goals with_reducible rfl))
    (try simp only [Act.put, L1, L2, L3, L4, L5, L6])
    (refine tk 1 (v := ?_) ?_ ?_; rotate_left; · (intro w hSw; (try dsimp only at hSw); go_simp; all_goals with_reducible rfl))
    (try simp only [Act.put, L1, L2, L3, L4, L5, L6])
    (refine tk 2 (v := ?_) ?_ ?_; rotate_left; · (intro w hSw; (try dsimp only at hSw); go_simp; all_goals with_reducible rfl))
    (try simp only [Act.put, L1, L2, L3, L4, L5, L6])
    (refine tk 3 (v := ?_) ?_ ?_; rotate_left; · (intro w hSw; (try dsimp only at hSw); go_simp; all_goals with_reducible rfl))
    (try simp only [Act.put, L1, L2, L3, L4, L5, L6])
    (refine tk 4 (v := ?_) ?_ ?_; rotate_left; · (intro w hSw; (try dsimp only at hSw); go_simp; all_goals with_reducible rfl))
    (try simp only [Act.put, L1, L2, L3, L4, L5, L6])
    (refine tk 5 (v := ?_) ?_ ?_; rotate_left; · (intro w hSw; (try dsimp only at hSw); go_simp; all_goals with_reducible rfl))
    (try simp only [Act.put, L1, L2, L3, L4, L5, L6])
    (refine tk 6 (v := ?_) ?_ ?_; rotate_left; · (intro w hSw; (try dsimp only at hSw); go_simp; all_goals with_reducible rfl))
    (try simp only [Act.put, L1, L2, L3, L4, L5, L6])
    (refine tk 7 (v := ?_) ?_ ?_; rotate_left; · (intro w hSw; (try dsimp only at hSw); go_simp; all_goals with_reducible rfl))
    (try simp only [Act.put, L1, L2, L3, L4, L5, L6])
    refine wpAnyH_ready (rs := [8]) (by kernel_rfl) (by simp) ?_
    refine AllReadyH.cons rfl (fun K hK => ?_) AllReadyH.nil
    go_simp
    refine (l20Add_any An nn cn zs y _ HRZ.out (by omega)).mono ?_
    rintro e8 w8 ⟨⟨v8, rfl, ho8⟩, hx8⟩
    obtain ⟨A8, c8, rfl, -⟩ := own_slice ho8
    have HX8 : Hid (Ext w7 w8) := Ext.trans (Ext.refl w7).drew hx8
    have HO8 := Lib.hid ho8
    clear ho8 hx8
    refine hK.out _ _ (HKA.out _ HX8.out) (fun hHeld => ?_)
    clear hK K
    (try simp only [Act.put, L1, L2, L3, L4, L5, L6])
    (refine tk 9 (v := ?_) ?_ ?_; rotate_left; · (intro w hSw; (try dsimp only at hSw); go_simp; all_goals with_reducible rfl))
    (try simp only [Act.put, L1, L2, L3, L4, L5, L6])
    have HI8 := Lib.hid (HM.out.i.ext HX8.out)
    refine wpAnyH_ready (rs := [10]) (by kernel_rfl) (by simp) ?_
    refine AllReadyH.cons rfl (fun K hK => ?_) AllReadyH.nil
    obtain ⟨⟨i0, i1, i2, i3⟩, j0, j1, j2, j3⟩ := blk4f HI8.out
    go_simp
    have HM2 : Hid (XSt w (w8.setCell ⟨w.heap.size + 1 + 1, 0, none⟩ (.slice A8 (nn + 1) c8)) xk wd (some ⟨b, o, none⟩) n c cnt B m e (.slice A8 (nn + 1) c8) (.slice Ah nh ch) (.slice Ab nb cb)) := ⟨(HM.out.s.ext HX8.out).far (p := ⟨w.heap.size + 1 + 1, 0, none⟩) (by show w.heap.size ≠ w.heap.size + 1 + 1; omega) _, (HM.out.z.ext HX8.out).far (p := ⟨w.heap.size + 1 + 1, 0, none⟩) (by show w.heap.size + 1 ≠ w.heap.size + 1 + 1; omega) _, HI8.out.set_ 0 _, (HM.out.x.trans HX8.out).setCell (p := ⟨w.heap.size + 1 + 1, 0, none⟩) (by show w.heap.size ≤ w.heap.size + 1 + 1; omega) _⟩
    have HE2 : Hid (Blk (w8.setCell ⟨w.heap.size + 1 + 1, 0, none⟩ (.slice A8 (nn + 1) c8)) ge 107 #[.slice An nn cn, .slice Ah nh ch, .bool ins, .slice Ab nb cb]) := (HE.out.ext HX8.out).far (p := ⟨w.heap.size + 1 + 1, 0, none⟩) (by show ge ≠ w.heap.size + 1 + 1; omega) _
    have HY2 : Hid (((w8.setCell ⟨w.heap.size + 1 + 1, 0, none⟩ (.slice A8 (nn + 1) c8))).cell? ⟨b, o, none⟩ = some (.string y)) := (World.cell?_of_block (Below.heap_setCell w8 ⟨w.heap.size + 1 + 1, 0, none⟩ _ b (by show b ≠ w.heap.size + 1 + 1; omega))).trans ((HX8.out.cell (p := ⟨b, o, none⟩) HY.out.1).trans HY.out.2)
    have HS9 : Hid ((w8.setCell ⟨w.heap.size + 1 + 1, 0, none⟩ (.slice A8 (nn + 1) c8)).cell? ⟨ge, 0, none⟩ = some (.slice An nn cn) ∧ (w8.setCell ⟨w.heap.size + 1 + 1, 0, none⟩ (.slice A8 (nn + 1) c8)).cell? ⟨w.heap.size, 2, none⟩ = some (.slice (some ⟨b, o, none⟩) n c) ∧ (w8.setCell ⟨w.heap.size + 1 + 1, 0, none⟩ (.slice A8 (nn + 1) c8)).cell? ⟨b, o, none⟩ = some (.string y)) := ⟨HE2.out.cell 0, HM2.out.s.cell 2, HY2.out⟩
    refine hK.out _ _ (HS9.out) (fun hHeld => ?_)
    clear hK K
    (try simp only [Act.put, L1, L2, L3, L4, L5, L6])
    (refine wpAnyH_done (by kernel_rfl) ?_ _)
    have HNW : Hid (Nm (w8.setCell ⟨w.heap.size + 1 + 1, 0, none⟩ (.slice A8 (nn + 1) c8)) (fun q => q < ((w8.setCell ⟨w.heap.size + 1 + 1, 0, none⟩ (.slice A8 (nn + 1) c8))).heap.size) A8 (nn + 1)) := by
     refine ⟨zs ++ [y], fun u hu => ?_, RdK.of (Rd.own (own_far HO8.out HI8.out (by decide) 0 _)) fun q hq _ => hq⟩
     rcases List.mem_append.1 hu with hu | hu
     ·exact HZ.out u hu
     ·obtain rfl := List.mem_singleton.1 hu; exact HYS.out
    clear hHeld HKA HRZ HZ HS9 HY2 HO8 HI8 HX8 i0 i1 i2 i3 j0 j1 j2 j3 HE HE2 HM HY
    replace HM := HM2
    clear HM2
    generalize (w8.setCell ⟨w.heap.size + 1 + 1, 0, none⟩ (.slice A8 (nn + 1) c8)) = w9 at *
    have s4 : w9.cell? ⟨w.heap.size, 4, none⟩ = some (.slice B m e) := HM.out.s.cell 4
    go_wp2_with fail
    refine (HALL.out B m e A8 (nn + 1) c8 Ah nh ch Ab nb cb (w.heap.size + 1 + 1) KS (fun q => q < w9.heap.size) _ (HSV.out.body.ext HKS.out HM.out.x) (HKS.out.ext HM.out.x) HM.out.i HNW.out (HN.out.2.keep (fun q hq => HM.out.x.block q (HKN.out q hq)) fun q hq => Nat.lt_of_lt_of_le (HKN.out q hq) HM.out.x.size) (fun _ h => h) (by omega)).mono ?_
    rintro e9 w9 ⟨⟨c9, s9, rfl⟩, hx9⟩
    replace HM := Lib.hid (HM.out.ext hx9)
    clear hx9 s4
    have HB9 := Lib.hid (HM.out.z.put2b (.int .i64 c9) (.string s9))
    have HX9 := Lib.hid (ext_put2b HM.out.x (show w.heap.size ≤ w.heap.size + 1 by omega) (.int .i64 c9) (.string s9))
    obtain ⟨⟨q0, q1⟩, f0, f1⟩ := blk2 HM.out.z
    go_wp2
    exact endBad rfl HB9.out _ rfl rfl fun e he => HQ.out e _ he HX9.out
   ·skip
    have HB9 := Lib.hid (HM.out.z.put2b (.int .i64 5) (.string y))
    have HX9 := Lib.hid (ext_put2b HM.out.x (show w.heap.size ≤ w.heap.size + 1 by omega) (.int .i64 5) (.string y))
    obtain ⟨⟨q0, q1⟩, f0, f1⟩ := blk2 HM.out.z
    go_wp2
    exact endBad rfl HB9.out _ rfl rfl fun e he => HQ.out e _ he HX9.out
  ·skip
   have HB9 := Lib.hid (HM.out.z.put2b (.int .i64 1) (.string y))
   have HX9 := Lib.hid (ext_put2b HM.out.x (show w.heap.size ≤ w.heap.size + 1 by omega) (.int .i64 1) (.string y))
   obtain ⟨⟨q0, q1⟩, f0, f1⟩ := blk2 HM.out.z
   go_wp2
   exact endBad rfl HB9.out _ rfl rfl fun e he => HQ.out e _ he HX9.out
 by_cases k6 : xk = 6
 ·skip
  have b1 : (xk == 1) = false := by rw [k6]; rfl
  have b4 : (xk == 4) = false := by rw [k6]; rfl
  have b5 : (xk == 5) = false := by rw [k6]; rfl
  have b6 : (xk == 6) = true := by rw [k6]; rfl
  have b7 : (xk == 7) = false := by rw [k6]; rfl
  clear k6
  have s1 := HM.out.s.cell 1
  have s2 := HM.out.s.cell 2
  have s3 := HM.out.s.cell 3
  have s4 := HM.out.s.cell 4
  change W.cell? ⟨w.heap.size, 1, none⟩ = some (.string wd) at s1
  change W.cell? ⟨w.heap.size, 2, none⟩ = some (.slice A n c) at s2
  change W.cell? ⟨w.heap.size, 3, none⟩ = some (.int .i64 cnt) at s3
  change W.cell? ⟨w.heap.size, 4, none⟩ = some (.slice B m e) at s4
  go_wp2_with fail
  refine (HME.out (by have h9 := p1; unfold need at h9; first | (rw [beq_iff_eq.1 b4] at h9; simp at h9; omega) | (rw [beq_iff_eq.1 b5] at h9; simp at h9; omega) | (rw [beq_iff_eq.1 b6] at h9; simp at h9; omega) | (rw [beq_iff_eq.1 b7] at h9; simp at h9; omega)) _ HM.out.x).mono ?_
  rintro e8 w8 ⟨⟨c8, s8, rfl⟩, hz⟩
  obtain ⟨hz1, hz2⟩ := hz (w.heap.size + 1) _ _ (by omega) HM.out.z
  have HZ2 := Lib.hid hz2
  have HB9 := Lib.hid (hz1.put2b (.int .i64 c8) (.string s8))
  obtain ⟨⟨q0, q1⟩, f0, f1⟩ := blk2 hz1
  clear hz hz1 hz2 HM HE
  go_wp2
  exact endBad rfl HB9.out _ rfl rfl fun e he => HZ2.out e _ _ he
 by_cases k7 : xk = 7
 ·skip
  have b1 : (xk == 1) = false := by rw [k7]; rfl
  have b4 : (xk == 4) = false := by rw [k7]; rfl
  have b5 : (xk == 5) = false := by rw [k7]; rfl
  have b6 : (xk == 6) = false := by rw [k7]; rfl
  have b7 : (xk == 7) = true := by rw [k7]; rfl
  clear k7
  obtain ⟨b, o, y, rfl, hb, r0, hym⟩ := str_0 HXR.out (show 1 ≤ n by have h9 := p1; unfold need at h9; first | (rw [beq_iff_eq.1 b4] at h9; simp at h9; omega) | (rw [beq_iff_eq.1 b5] at h9; simp at h9; omega) | (rw [beq_iff_eq.1 b6] at h9; simp at h9; omega) | (rw [beq_iff_eq.1 b7] at h9; simp at h9; omega))
  have HYS := Lib.hid (HXS.out y hym)
  have HY : Hid (b < W.heap.size ∧ W.cell? ⟨b, o, none⟩ = some (.string y)) := ⟨Nat.lt_of_lt_of_le hb HM.out.x.size, (HM.out.x.cell (p := ⟨b, o, none⟩) hb).trans r0⟩
  have hn0 : 0 < n := by have h9 := p1; unfold need at h9; first | (rw [beq_iff_eq.1 b4] at h9; simp at h9; omega) | (rw [beq_iff_eq.1 b5] at h9; simp at h9; omega) | (rw [beq_iff_eq.1 b6] at h9; simp at h9; omega) | (rw [beq_iff_eq.1 b7] at h9; simp at h9; omega)
  clear r0 hym
  have e2 : W.cell? ⟨ge, 2, none⟩ = some (.bool ins) := HE.out.cell 2
  cases ins
  ·skip
   obtain ⟨hnb, zs, hz⟩ := HB.out rfl
   go_upto_region 22 with (fail)
   clear s0 e2
   have HK8 : Hid (∀ w', Ext W w' → w'.cell? ⟨ge, 3, none⟩ = some (.slice Ab nb cb) ∧ w'.cell? ⟨w.heap.size, 2, none⟩ = some (.slice (some ⟨b, o, none⟩) n c) ∧ w'.cell? ⟨b, o, none⟩ = some (.string y)) := fun w' hx => ⟨(HE.out.ext hx).cell 3, (HM.out.s.ext hx).cell 2, (hx.cell (p := ⟨b, o, none⟩) HY.out.1).trans HY.out.2⟩
   have HRZ : Hid (Rd W.drew W.drew.heap.size 1 Ab nb (tcells zs)) := (hz.ext HM.out.x).ext (Ext.refl W).drew
   clear hz
   refine wp_region_held_drew (S := (fun w' => w'.cell? ⟨ge, 3, none⟩ = some (.slice Ab nb cb) ∧ w'.cell? ⟨w.heap.size, 2, none⟩ = some (.slice (some ⟨b, o, none⟩) n c) ∧ w'.cell? ⟨b, o, none⟩ = some (.string y))) (by kernel_rfl) (HK8.out _ (Ext.refl W).drew) (fun hHeld => ?_)
   (refine tk 0 (v := ?_) ?_ ?_; rotate_left; · (intro w hSw; (try dsimp only at hSw); go_simp; all_goals with_reducible rfl))
   (try simp only [Act.put, L1, L2, L3, L4, L5, L6])
   (refine tk 1 (v := ?_) ?_ ?_; rotate_left; · (intro w hSw; (try dsimp only at hSw); go_simp; all_goals with_reducible rfl))
   (try simp only [Act.put, L1, L2, L3, L4, L5, L6])
   (refine tk 2 (v := ?_) ?_ ?_; rotate_left; · (intro w hSw; (try dsimp only at hSw); go_simp; all_goals with_reducible rfl))
   (try simp only [Act.put, L1, L2, L3, L4, L5, L6])
   (refine tk 3 (v := ?_) ?_ ?_; rotate_left; · (intro w hSw; (try dsimp only at hSw); go_simp; all_goals with_reducible rfl))
   (try simp only [Act.put, L1, L2, L3, L4, L5, L6])
   (refine tk 4 (v := ?_) ?_ ?_; rotate_left; · (intro w hSw; (try dsimp only at hSw); go_simp; all_goals with_reducible rfl))
   (try simp only [Act.put, L1, L2, L3, L4, L5, L6])
   (refine tk 5 (v := ?_) ?_ ?_; rotate_left; · (intro w hSw; (try dsimp only at hSw); go_simp; all_goals with_reducible rfl))
   (try simp only [Act.put, L1, L2, L3, L4, L5, L6])
   (refine tk 6 (v := ?_) ?_ ?_; rotate_left; · (intro w hSw; (try dsimp only at hSw); go_simp; all_goals with_reducible rfl))
   (try simp only [Act.put, L1, L2, L3, L4, L5, L6])
   (refine tk 7 (v := ?_) ?_ ?_; rotate_left; · (intro w hSw; (try dsimp only at hSw); go_simp; all_goals with_reducible rfl))
   (try simp only [Act.put, L1, L2, L3, L4, L5, L6])
   refine wpAnyH_ready (rs := [8]) (by kernel_rfl) (by simp) ?_
   refine AllReadyH.cons rfl (fun K hK => ?_) AllReadyH.nil
   go_simp
   refine (l1Has_any Ab nb cb zs y _ HRZ.out (by omega)).mono ?_
   rintro e8 w8 ⟨⟨b8, rfl⟩, rfl⟩
   refine hK.out _ _ (HK8.out _ (Ext.refl W).drew) (fun hHeld => ?_)
   clear hK K
   (try simp only [Act.put, L1, L2, L3, L4, L5, L6])
   (refine tk 9 (v := ?_) ?_ ?_; rotate_left; · (intro w hSw; (try dsimp only at hSw); go_simp; all_goals with_reducible rfl))
   (try simp only [Act.put, L1, L2, L3, L4, L5, L6])
   (refine wpAnyH_done (by kernel_rfl) ?_ _)
   have HX8 : Hid (Ext W W.drew) := (Ext.refl W).drew
   replace HM := Lib.hid (HM.out.ext HX8.out)
   replace HE := Lib.hid (HE.out.ext HX8.out)
   replace HY : Hid (b < W.drew.heap.size ∧ W.drew.cell? ⟨b, o, none⟩ = some (.string y)) := ⟨Nat.lt_of_lt_of_le HY.out.1 HX8.out.size, (HX8.out.cell (p := ⟨b, o, none⟩) HY.out.1).trans HY.out.2⟩
   clear hHeld HX8 HK8 HRZ
   generalize W.drew = w7 at *
   have s2 : w7.cell? ⟨w.heap.size, 2, none⟩ = some (.slice (some ⟨b, o, none⟩) n c) := HM.out.s.cell 2
   have hy := HY.out.2
   cases b8
   ·skip
    have HB9 := Lib.hid (HM.out.z.put2b (.int .i64 7) (.string y))
    have HX9 := Lib.hid (ext_put2b HM.out.x (show w.heap.size ≤ w.heap.size + 1 by omega) (.int .i64 7) (.string y))
    obtain ⟨⟨q0, q1⟩, f0, f1⟩ := blk2 HM.out.z
    go_wp2
    exact endBad rfl HB9.out _ rfl rfl fun e he => HQ.out e _ he HX9.out
   ·skip
    clear s2 hy
    have s4 : w7.cell? ⟨w.heap.size, 4, none⟩ = some (.slice B m e) := HM.out.s.cell 4
    go_wp2_with fail
    refine (HALL.out B m e An nn cn Ah nh ch Ab nb cb (w.heap.size + 1 + 1) KS (fun q => q < w7.heap.size) _ (HSV.out.body.ext HKS.out HM.out.x) (HKS.out.ext HM.out.x) HM.out.i (HN.out.1.keep (fun q hq => HM.out.x.block q (HKN.out q hq)) fun q hq => Nat.lt_of_lt_of_le (HKN.out q hq) HM.out.x.size) (HN.out.2.keep (fun q hq => HM.out.x.block q (HKN.out q hq)) fun q hq => Nat.lt_of_lt_of_le (HKN.out q hq) HM.out.x.size) (fun _ h => h) (by omega)).mono ?_
    rintro e9 w9 ⟨⟨c9, s9, rfl⟩, hx9⟩
    replace HM := Lib.hid (HM.out.ext hx9)
    clear hx9 s4
    have HB9 := Lib.hid (HM.out.z.put2b (.int .i64 c9) (.string s9))
    have HX9 := Lib.hid (ext_put2b HM.out.x (show w.heap.size ≤ w.heap.size + 1 by omega) (.int .i64 c9) (.string s9))
    obtain ⟨⟨q0, q1⟩, f0, f1⟩ := blk2 HM.out.z
    go_wp2
    exact endBad rfl HB9.out _ rfl rfl fun e he => HQ.out e _ he HX9.out
  ·skip
   have s2 : W.cell? ⟨w.heap.size, 2, none⟩ = some (.slice (some ⟨b, o, none⟩) n c) := HM.out.s.cell 2
   have hy := HY.out.2
   have HB9 := Lib.hid (HM.out.z.put2b (.int .i64 6) (.string y))
   have HX9 := Lib.hid (ext_put2b HM.out.x (show w.heap.size ≤ w.heap.size + 1 by omega) (.int .i64 6) (.string y))
   obtain ⟨⟨q0, q1⟩, f0, f1⟩ := blk2 HM.out.z
   go_wp2
   exact endBad rfl HB9.out _ rfl rfl fun e he => HQ.out e _ he HX9.out
 have b1 : (xk == 1) = false := by simp [k1]
 have b4 : (xk == 4) = false := by simp [k4]
 have b5 : (xk == 5) = false := by simp [k5]
 have b6 : (xk == 6) = false := by simp [k6]
 have b7 : (xk == 7) = false := by simp [k7]
 clear k1 k4 k5 k6 k7
 have s4 : W.cell? ⟨w.heap.size, 4, none⟩ = some (.slice B m e) := HM.out.s.cell 4
 go_wp2_with fail
 refine (HALL.out B m e An nn cn Ah nh ch Ab nb cb (w.heap.size + 1 + 1) KS (fun q => q < W.heap.size) _ (HSV.out.body.ext HKS.out HM.out.x) (HKS.out.ext HM.out.x) HM.out.i (HN.out.1.keep (fun q hq => HM.out.x.block q (HKN.out q hq)) fun q hq => Nat.lt_of_lt_of_le (HKN.out q hq) HM.out.x.size) (HN.out.2.keep (fun q hq => HM.out.x.block q (HKN.out q hq)) fun q hq => Nat.lt_of_lt_of_le (HKN.out q hq) HM.out.x.size) (fun _ h => h) (by omega)).mono ?_
 rintro e9 w9 ⟨⟨c9, s9, rfl⟩, hx9⟩
 replace HM := Lib.hid (HM.out.ext hx9)
 clear hx9 s4
 have HB9 := Lib.hid (HM.out.z.put2b (.int .i64 c9) (.string s9))
 have HX9 := Lib.hid (ext_put2b HM.out.x (show w.heap.size ≤ w.heap.size + 1 by omega) (.int .i64 c9) (.string s9))
 obtain ⟨⟨q0, q1⟩, f0, f1⟩ := blk2 HM.out.z
 go_wp2
 exact endBad rfl HB9.out _ rfl rfl fun e he => HQ.out e _ he HX9.out
end Go.Proofs.YtdjckjfclhjpcaaGreat
