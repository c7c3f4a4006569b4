/-
 Helper text (no claim of its own): programs are checked: measurements. Printed by gen_smd.py.
-/
import Derived.Test.YtdjckjfclhjpcaaGreatSmc
namespace Go.Proofs.YtdjckjfclhjpcaaGreat
open Go.ChangeShapes Go.WideShapes Go.ChangeAt Go.RowKit Go.Deep
set_option linter.unusedVariables false
set_option linter.unusedSimpArgs false
theorem stepStrS {w0 w : World} {ops : Array Oper} {o : Oper} {a : Act} {K : Act → World → Prop} {Q : Exit → Act → World → Prop} {E : Prop} (hgd : o.guard = none) (s x : Operand)
  (ho : o.op = .call { callee := .builtin .append, args := #[s, x], argTypes := #[50, 50] }) (v : Value) (n : Nat) (xs : List ByteArray) (hs : a.eval s = v)
  (hown : w.ownsRow w0.heap.size 9 1 v n (tcells xs)) (hx0 : Ext w0 w) (A : Option Addr) (m c : Nat) (ys : List ByteArray) (hx : a.eval x = .slice A m c) (hr : Rd w w.heap.size 1 A m (tcells ys)) (hn : n + m ≤ 2000000000000)
  (h : ∀ v' w', w'.ownsRow w0.heap.size 9 1 v' (n + m) (tcells (xs ++ ys)) → Ext w0 w' → w.grownBy w' v.ownBlock → (v'.ownBlock = v.ownBlock ∨ v'.ownBlock = some w.heap.size) → K (a.put o.dst v') w') :
  if Region.wanted o (yielded ops a.tmps) = true then Oper.wp Tryz.prog o a w K Q else E := by
 obtain ⟨i0, hi, hz0, hz1, hz2⟩ := info_parts Tryz.infoStr
 exact step_app hgd s x _ ho 9 i0 _ 1 16 Tryz.underlying50 hi hz0 hz1 hz2 rfl (by decide) (by decide) v n _ hs hown hx0 A m c _ hx hr (str_one ys) hn (fun v' w' h1 => h v' w' (by unfold tcells; rw [List.flatMap_append]; exact h1))
/-- The statement and the result's block. -/
structure MSt (w W : World) (xk : Int) (wd : ByteArray) (A : Option Addr) (n c : Nat) (cnt : Int) (B : Option Addr) (m e : Nat) : Prop where
 s : Blk W w.heap.size 69 #[.int .i64 xk, .string wd, .slice A n c, .int .i64 cnt, .slice B m e]
 z : Blk W (w.heap.size + 1) 103 #[.int .i64 0, .string ⟨#[]⟩]
 x : Ext w W
theorem MSt.ext {w W W' : World} {xk : Int} {wd : ByteArray} {A : Option Addr} {n c : Nat} {cnt : Int} {B : Option Addr} {m e : Nat} (h : MSt w W xk wd A n c cnt B m e) (hx : Ext W W') : MSt w W' xk wd A n c cnt B m e := ⟨h.s.ext hx, h.z.ext hx, h.x.trans hx⟩
/-- The first of some names. -/
theorem str_0 {w : World} {B n : Nat} {A : Option Addr} {xs : List ByteArray} (h : Rd w B 1 A n (tcells xs)) (hn : 1 ≤ n) : ∃ b o y, A = some ⟨b, o, none⟩ ∧ b < B ∧ w.cell? ⟨b, o, none⟩ = some (.string y) ∧ y ∈ xs := by
 obtain ⟨b, o, y, e, hb, hy, hc⟩ := str_at h (i := 0) hn
 exact ⟨b, o, y, e, hb, hc, List.mem_of_getElem? hy⟩
set_option maxRecDepth 100000 in
set_option maxHeartbeats 4000000 in
theorem l20Measure_in (xk : Int) (wd : ByteArray) (A : Option Addr) (n c : Nat) (cnt : Int) (B : Option Addr) (m e : Nat) (An : Option Addr) (nn cn : Nat) (Ah : Option Addr) (nh ch : Nat) (vb : Value) (ge : Nat) (w : World) (hn : 1 ≤ n) (xs : List ByteArray) (hr : Rd w w.heap.size 1 A n (tcells xs)) (he : Blk w ge 107 #[.slice An nn cn, .slice Ah nh ch, .bool true, vb]) :
  Calls Tryz.prog 89 #[.agg #[.int .i64 xk, .string wd, .slice A n c, .int .i64 cnt, .slice B m e], .pointer (some ⟨ge, 0, none⟩)] w fun e w' => RBad e ∧ Ext w w' := by
 obtain ⟨b, o, y, rfl, hb, r0, -⟩ := str_0 hr hn
 have HM : Hid (MSt w ((w.alloc (.cells #[.int .i64 xk, .string wd, .slice (some ⟨b, o, none⟩) n c, .int .i64 cnt, .slice B m e] 69)).alloc (.cells #[.int .i64 0, .string ⟨#[]⟩] 103)) xk wd (some ⟨b, o, none⟩) n c cnt B m e) := ⟨(Blk.new w _ _).alloc _, Blk.newAt (by simp), by unfold Ext; exact xx⟩
 have HE := Lib.hid (he.ext HM.out.x)
 have HY : Hid (((w.alloc (.cells #[.int .i64 xk, .string wd, .slice (some ⟨b, o, none⟩) n c, .int .i64 cnt, .slice B m e] 69)).alloc (.cells #[.int .i64 0, .string ⟨#[]⟩] 103)).cell? ⟨b, o, none⟩ = some (.string y)) := (HM.out.x.cell (p := ⟨b, o, none⟩) hb).trans r0
 clear he r0 hr
 go_enter Tryz.func89, Tryz.ntmps89
 go_upto_region 1 with (fail)
 generalize (w.alloc (.cells #[.int .i64 xk, .string wd, .slice (some ⟨b, o, none⟩) n c, .int .i64 cnt, .slice B m e] 69)).alloc (.cells #[.int .i64 0, .string ⟨#[]⟩] 103) = W at *
 have y2 := HE.out.cell 2
 change W.cell? ⟨ge, 2, none⟩ = some (.bool true) at y2
 have s2 := HM.out.s.cell 2
 change W.cell? ⟨w.heap.size, 2, none⟩ = some (.slice (some ⟨b, o, none⟩) n c) at s2
 have hy := HY.out
 have HB9 := Lib.hid (HM.out.z.put2b (.int .i64 6) (.string y))
 have HX9 := Lib.hid (ext_put2b HM.out.x (show w.heap.size ≤ w.heap.size + 1 by omega) (.int .i64 6) (.string y))
 obtain ⟨⟨q0, q1⟩, f0, f1⟩ := blk2 HM.out.z
 go_wp2
 exact endBad rfl HB9.out _ rfl rfl fun e he => ⟨he, HX9.out⟩
/-- The bits known so far: a slice of the call's own, at most three names. -/
def Bt (w : World) (ge : Nat) (Ab : Option Addr) (nb cb : Nat) : Prop := nb ≤ 3 ∧ ∃ bs : List ByteArray, w.ownsRow (ge + 1) 9 1 (.slice Ab nb cb) nb (tcells bs)
theorem Bt.ext {w w' : World} {ge nb cb : Nat} {Ab : Option Addr} (h : Bt w ge Ab nb cb) (hx : Ext w w') : Bt w' ge Ab nb cb := by
 obtain ⟨h1, bs, h2⟩ := h
 exact ⟨h1, bs, own_ext h2 hx⟩
/-- What a check at the top may change: its environment, and the row of the bits. -/
structure Tp (w w' : World) (ge : Nat) (v v' : Value) : Prop where
 os : w'.os = w.os
 tape : w'.tape = w.tape
 output : w'.output = w.output
 size : w.heap.size ≤ w'.heap.size
 keep : ∀ b, b < w.heap.size → b ≠ ge → v.ownBlock ≠ some b → w'.heap[b]? = w.heap[b]?
 own : v'.ownBlock = v.ownBlock ∨ ∃ q, v'.ownBlock = some q ∧ w.heap.size ≤ q
theorem Tp.ext {w w' : World} (h : Ext w w') (ge : Nat) (v : Value) : Tp w w' ge v v := ⟨h.os, h.tape, h.output, h.size, fun b hb _ _ => h.block b hb, .inl rfl⟩
theorem Tp.trans {a b c : World} {ge : Nat} {u v x : Value} (h : Tp a b ge u v) (k : Tp b c ge v x) : Tp a c ge u x := by
 refine ⟨k.os.trans h.os, k.tape.trans h.tape, k.output.trans h.output, Nat.le_trans h.size k.size, fun q hq h1 h2 => ?_, ?_⟩
 ·refine (k.keep q (Nat.lt_of_lt_of_le hq h.size) h1 fun e => ?_).trans (h.keep q hq h1 h2)
  rcases h.own with h3 | ⟨p, h3, h4⟩
  ·exact h2 (h3 ▸ e)
  ·rw [h3] at e; injection e with e; omega
 ·rcases k.own with h3 | ⟨p, h3, h4⟩
  ·rw [h3]; exact h.own
  ·exact .inr ⟨p, h3, Nat.le_trans h.size h4⟩
/-- The environment at the top. -/
def TopE (w : World) (ge : Nat) (An : Option Addr) (nn cn : Nat) (Ah : Option Addr) (nh ch : Nat) (v : Value) : Prop :=
 ∃ (Ab : Option Addr) (nb cb : Nat), v = .slice Ab nb cb ∧ Blk w ge 107 #[.slice An nn cn, .slice Ah nh ch, .bool false, .slice Ab nb cb] ∧ Bt w ge Ab nb cb
theorem TopE.ext {w w' : World} {ge : Nat} {An Ah : Option Addr} {nn cn nh ch : Nat} {v : Value} (h : TopE w ge An nn cn Ah nh ch v) (hx : Ext w w') : TopE w' ge An nn cn Ah nh ch v := by
 obtain ⟨Ab, nb, cb, h1, h2, h3⟩ := h
 exact ⟨Ab, nb, cb, h1, h2.ext hx, h3.ext hx⟩
theorem own_ne {w : World} {B e s n g t : Nat} {v : Value} {xs : List Value} {cs : Array Value} (h : w.ownsRow B e s v n xs) (h' : Blk w g t cs) (he : e ≠ t) : v.ownBlock ≠ some g := by
 intro hv
 rcases h.2 with ⟨rfl, h0⟩ | ⟨g', cap, cur, rfl, _, hc, _⟩
 ·simp [Value.ownBlock] at hv
 ·simp [Value.ownBlock] at hv
  subst hv
  unfold Blk at h'
  rw [hc] at h'
  injection h' with h'
  injection h' with _ h'
  exact he h'
theorem own_far {w : World} {B e s n g t : Nat} {v : Value} {xs : List Value} {cs : Array Value} (h : w.ownsRow B e s v n xs) (h' : Blk w g t cs) (he : e ≠ t) (i : Nat) (u : Value) : (w.setCell ⟨g, i, none⟩ u).ownsRow B e s v n xs := by
 refine h.kept (row := some g) ⟨rfl, rfl, rfl, by simp [World.setCell], fun k _ hk => Below.heap_setCell w ⟨g, i, none⟩ u k (fun e => hk (by simp [e]))⟩ ?_
 cases hv : v.ownBlock with
 | none => exact .inl rfl
 | some q =>
  right
  intro e1
  injection e1 with e1
  subst e1
  rcases h.2 with ⟨rfl, h0⟩ | ⟨g', cap, cur, rfl, _, hc, _⟩
  ·simp [Value.ownBlock] at hv
  ·simp [Value.ownBlock] at hv
   subst hv
   unfold Blk at h'
   rw [hc] at h'
   injection h' with h'
   injection h' with _ h'
   exact he h'
theorem own_put2b {w : World} {B e s n g t : Nat} {v : Value} {xs : List Value} {z0 z1 : Value} (h : w.ownsRow B e s v n xs) (h' : Blk w g t #[z0, z1]) (he : e ≠ t) (a b : Value) : (put2b w g a b).ownsRow B e s v n xs :=
 own_far (own_far h h' he 0 a) (h'.set_ 0 a) he 1 b
set_option maxRecDepth 100000 in
set_option maxHeartbeats 16000000 in
theorem l20Measure_top (xk : Int) (wd : ByteArray) (A : Option Addr) (n c : Nat) (cnt : Int) (B : Option Addr) (m e : Nat) (An : Option Addr) (nn cn : Nat) (Ah : Option Addr) (nh ch : Nat) (v : Value) (ge : Nat) (KB : Nat → Prop) (w : World) (hn : 2 ≤ n) (xs : List ByteArray) (hr : Rd w ge 1 A n (tcells xs)) (hev : TopE w ge An nn cn Ah nh ch v)
  (h1 : Nm w KB An nn) (h2 : Nm w KB Ah nh) (hK : Old w KB) (hnn : nn ≤ 1000 ∧ nh ≤ 1000) (hKg : ∀ b, KB b → b < ge) :
  Calls Tryz.prog 89 #[.agg #[.int .i64 xk, .string wd, .slice A n c, .int .i64 cnt, .slice B m e], .pointer (some ⟨ge, 0, none⟩)] w fun e w' => RBad e ∧ ∃ v', TopE w' ge An nn cn Ah nh ch v' ∧ Tp w w' ge v v' := by
 obtain ⟨Ab, nb, cb, rfl, he, hbt⟩ := hev
 have hgl := he.lt
 have hn0 : 0 < n := by omega
 have hn1 : (1 : Int) < (n : Int) := by omega
 have HN : Hid (Nm w KB An nn ∧ Nm w KB Ah nh) := ⟨h1, h2⟩
 have HK0 := Lib.hid hK
 obtain ⟨ns, -, hns⟩ := h1
 have HNS := Lib.hid (hns.rd hK)
 obtain ⟨b, o, y, hA, hb, hy0, r0⟩ := str_at hr (i := 0) (by omega)
 obtain ⟨b', o', y1, hA', hb', hy1, r1⟩ := str_at hr (i := 1) (by omega)
 subst hA
 injection hA' with hA'
 injection hA' with e1 e2
 subst e1 e2
 have HM : Hid (MSt w ((w.alloc (.cells #[.int .i64 xk, .string wd, .slice (some ⟨b, o, none⟩) n c, .int .i64 cnt, .slice B m e] 69)).alloc (.cells #[.int .i64 0, .string ⟨#[]⟩] 103)) xk wd (some ⟨b, o, none⟩) n c cnt B m e) := ⟨(Blk.new w _ _).alloc _, Blk.newAt (by simp), by unfold Ext; exact xx⟩
 have HE := Lib.hid (he.ext HM.out.x)
 have HBT := Lib.hid (hbt.ext HM.out.x)
 have HY : Hid (b < ((w.alloc (.cells #[.int .i64 xk, .string wd, .slice (some ⟨b, o, none⟩) n c, .int .i64 cnt, .slice B m e] 69)).alloc (.cells #[.int .i64 0, .string ⟨#[]⟩] 103)).heap.size ∧ ((w.alloc (.cells #[.int .i64 xk, .string wd, .slice (some ⟨b, o, none⟩) n c, .int .i64 cnt, .slice B m e] 69)).alloc (.cells #[.int .i64 0, .string ⟨#[]⟩] 103)).cell? ⟨b, o, none⟩ = some (.string y) ∧ ((w.alloc (.cells #[.int .i64 xk, .string wd, .slice (some ⟨b, o, none⟩) n c, .int .i64 cnt, .slice B m e] 69)).alloc (.cells #[.int .i64 0, .string ⟨#[]⟩] 103)).cell? ⟨b, o + 1, none⟩ = some (.string y1)) := ⟨Nat.lt_of_lt_of_le (Nat.lt_trans hb hgl) HM.out.x.size, (HM.out.x.cell (p := ⟨b, o, none⟩) (Nat.lt_trans hb hgl)).trans r0, (HM.out.x.cell (p := ⟨b, o + 1, none⟩) (Nat.lt_trans hb hgl)).trans r1⟩
 clear he r0 r1 hr hbt h2 hns hy0 hy1 hK hb'
 go_enter Tryz.func89, Tryz.ntmps89
 go_upto_region 1 with (fail)
 generalize (w.alloc (.cells #[.int .i64 xk, .string wd, .slice (some ⟨b, o, none⟩) n c, .int .i64 cnt, .slice B m e] 69)).alloc (.cells #[.int .i64 0, .string ⟨#[]⟩] 103) = W at *
 have y2 : W.cell? ⟨ge, 2, none⟩ = some (.bool false) := HE.out.cell 2
 go_upto_region 3 with (fail)
 clear y2
 have HK3 : Hid (∀ w', Ext W w' → w'.cell? ⟨ge, 0, none⟩ = some (.slice An nn cn) ∧ w'.cell? ⟨ge, 1, none⟩ = some (.slice Ah nh ch) ∧ w'.cell? ⟨ge, 2, none⟩ = some (.bool false) ∧ w'.cell? ⟨ge, 3, none⟩ = some (.slice Ab nb cb) ∧ w'.cell? ⟨w.heap.size, 2, none⟩ = some (.slice (some ⟨b, o, none⟩) n c) ∧ w'.cell? ⟨b, o, none⟩ = some (.string y) ∧ w'.cell? ⟨b, o + 1, none⟩ = some (.string y1)) := fun w' hx => ⟨(HE.out.ext hx).cell 0, (HE.out.ext hx).cell 1, (HE.out.ext hx).cell 2, (HE.out.ext hx).cell 3, (HM.out.s.ext hx).cell 2, (hx.cell (p := ⟨b, o, none⟩) HY.out.1).trans HY.out.2.1, (hx.cell (p := ⟨b, o + 1, none⟩) HY.out.1).trans HY.out.2.2⟩
 refine wp_region_held_drew (S := (fun w' => w'.cell? ⟨ge, 0, none⟩ = some (.slice An nn cn) ∧ w'.cell? ⟨ge, 1, none⟩ = some (.slice Ah nh ch) ∧ w'.cell? ⟨ge, 2, none⟩ = some (.bool false) ∧ w'.cell? ⟨ge, 3, none⟩ = some (.slice Ab nb cb) ∧ w'.cell? ⟨w.heap.size, 2, none⟩ = some (.slice (some ⟨b, o, none⟩) n c) ∧ w'.cell? ⟨b, o, none⟩ = some (.string y) ∧ w'.cell? ⟨b, o + 1, none⟩ = some (.string y1))) (by kernel_rfl) (HK3.out _ (Ext.refl W).drew) (fun hHeld => ?_)
 (refine tk 0 (v := ?_) ?_ ?_; rotate_left; · (intro w hSw; (try dsimp only at hSw); go_simp; all_goals with_reducible rfl))
 (try simp only [Act.put, L1, L2, L3, L4, L5, L6])
 (refine tk 1 (v := ?_) ?_ ?_; rotate_left; · (intro w hSw; (try dsimp only at hSw); go_simp; all_goals with_reducible rfl))
 (try simp only [Act.put, L1, L2, L3, L4, L5, L6])
 (refine tk 2 (v := ?_) ?_ ?_; rotate_left; · (intro w hSw; (try dsimp only at hSw); go_simp; all_goals with_reducible rfl))
 (try simp only [Act.put, L1, L2, L3, L4, L5, L6])
 (refine tk 3 (v := ?_) ?_ ?_; rotate_left; · (intro w hSw; (try dsimp only at hSw); go_simp; all_goals with_reducible rfl))
 (try simp only [Act.put, L1, L2, L3, L4, L5, L6])
 (refine tk 4 (v := ?_) ?_ ?_; rotate_left; · (intro w hSw; (try dsimp only at hSw); go_simp; all_goals with_reducible rfl))
 (try simp only [Act.put, L1, L2, L3, L4, L5, L6])
 (refine tk 5 (v := ?_) ?_ ?_; rotate_left; · (intro w hSw; (try dsimp only at hSw); go_simp; all_goals with_reducible rfl))
 (try simp only [Act.put, L1, L2, L3, L4, L5, L6])
 (refine tk 6 (v := ?_) ?_ ?_; rotate_left; · (intro w hSw; (try dsimp only at hSw); go_simp; all_goals with_reducible rfl))
 (try simp only [Act.put, L1, L2, L3, L4, L5, L6])
 refine wpAnyH_ready (rs := [7, 8]) (by kernel_rfl) (by simp) ?_
 refine AllReadyH.cons rfl (fun K hK => ?_) (AllReadyH.cons rfl (fun K hK => ?_) AllReadyH.nil)
 ·skip
  go_simp
  refine (l20Arg_any An nn cn Ah nh ch false (.slice Ab nb cb) y KB _ ((HN.out.1.ext HK0.out HM.out.x).ext (HK0.out.ext HM.out.x) ((Ext.refl W).drew)) ((HN.out.2.ext HK0.out HM.out.x).ext (HK0.out.ext HM.out.x) ((Ext.refl W).drew)) ((HK0.out.ext HM.out.x).ext ((Ext.refl W).drew)) hnn).mono ?_
  rintro e1 w5 ⟨⟨c1, s1, rfl⟩, hy5⟩
  have HY5 : Hid (Ext W w5) := Ext.trans (Ext.refl W).drew hy5
  refine hK.out _ _ (HK3.out _ HY5.out) (fun hHeld => ?_)
  clear hK K
  (try simp only [Act.put, L1, L2, L3, L4, L5, L6])
  refine wpAnyH_ready (rs := [8]) (by kernel_rfl) (by simp) ?_
  refine AllReadyH.cons rfl (fun K hK => ?_) AllReadyH.nil
  go_simp
  have HX6 : Hid (Ext W (w5.alloc (.cells #[.int .i64 0, .string ⟨#[]⟩] 103))) := HY5.out.alloc _
  have HB6 : Hid (Blk (w5.alloc (.cells #[.int .i64 0, .string ⟨#[]⟩] 103)) w5.heap.size 103 #[.int .i64 0, .string ⟨#[]⟩]) := Blk.new _ _ _
  have HS6 : W.heap.size ≤ w5.heap.size := HY5.out.size
  refine hK.out _ _ (HK3.out _ HX6.out) (fun hHeld => ?_)
  clear hK K
  (try simp only [Act.put, L1, L2, L3, L4, L5, L6])
  clear hy5
  generalize w5.alloc (.cells #[.int .i64 0, .string ⟨#[]⟩] 103) = w6 at *
  generalize hse : w5.heap.size = s at *
  clear hse HY5
  refine wpAnyH_ready (rs := [9]) (by kernel_rfl) (by simp) ?_
  refine AllReadyH.cons rfl (fun K hK => ?_) AllReadyH.nil
  obtain ⟨⟨q0, q1⟩, f0, f1⟩ := blk2 HB6.out
  go_simp
  have HX7 : Hid (Ext W ((w6.setCell ⟨s, 0, none⟩ (.int .i64 c1)).setCell ⟨s, 1, none⟩ (.string s1))) := ext_put2b (g := s) HX6.out HS6 _ _
  have HB7 : Hid (Blk ((w6.setCell ⟨s, 0, none⟩ (.int .i64 c1)).setCell ⟨s, 1, none⟩ (.string s1)) s 103 #[.int .i64 c1, .string s1]) := HB6.out.put2b _ _
  refine hK.out _ _ (HK3.out _ HX7.out) (fun hHeld => ?_)
  clear hK K
  (try simp only [Act.put, L1, L2, L3, L4, L5, L6])
  (refine wpAnyH_done (by kernel_rfl) ?_ _)
  clear q0 q1 f0 f1 hHeld
  clear HK3
  replace HM := Lib.hid (HM.out.ext HX7.out)
  replace HE := Lib.hid (HE.out.ext HX7.out)
  replace HBT := Lib.hid (HBT.out.ext HX7.out)
  replace HY : Hid (b < ((w6.setCell ⟨s, 0, none⟩ (.int .i64 c1)).setCell ⟨s, 1, none⟩ (.string s1)).heap.size ∧ ((w6.setCell ⟨s, 0, none⟩ (.int .i64 c1)).setCell ⟨s, 1, none⟩ (.string s1)).cell? ⟨b, o, none⟩ = some (.string y) ∧ ((w6.setCell ⟨s, 0, none⟩ (.int .i64 c1)).setCell ⟨s, 1, none⟩ (.string s1)).cell? ⟨b, o + 1, none⟩ = some (.string y1)) := ⟨Nat.lt_of_lt_of_le HY.out.1 HX7.out.size, (HX7.out.cell (p := ⟨b, o, none⟩) HY.out.1).trans HY.out.2.1, (HX7.out.cell (p := ⟨b, o + 1, none⟩) HY.out.1).trans HY.out.2.2⟩
  clear HX7
  generalize (w6.setCell ⟨s, 0, none⟩ (.int .i64 c1)).setCell ⟨s, 1, none⟩ (.string s1) = w7 at *
  obtain ⟨⟨q0, q1⟩, f0, f1⟩ := blk2 HB7.out
  obtain ⟨⟨z0, z1⟩, g0, g1⟩ := blk2 HM.out.z
  cases hc1 : (c1 == 0)
  ·skip
   clear z0 z1 g0 g1
   have q0' := q0
   have q1' := q1
   have HB9 := Lib.hid (HM.out.z.put2b (.int .i64 c1) (.string s1))
   have HX9 := Lib.hid (ext_put2b HM.out.x (show w.heap.size ≤ w.heap.size + 1 by omega) (.int .i64 c1) (.string s1))
   have HE9 : Hid (Blk (put2b w7 (w.heap.size + 1) (.int .i64 c1) (.string s1)) ge 107 #[.slice An nn cn, .slice Ah nh ch, .bool false, .slice Ab nb cb]) := (HE.out.far (p := ⟨w.heap.size + 1, 0, none⟩) (by show ge ≠ w.heap.size + 1; omega) _).far (p := ⟨w.heap.size + 1, 1, none⟩) (by show ge ≠ w.heap.size + 1; omega) _
   have HT9 : Hid (Bt (put2b w7 (w.heap.size + 1) (.int .i64 c1) (.string s1)) ge Ab nb cb) := by
    obtain ⟨k1, bs, k2⟩ := HBT.out
    refine ⟨k1, bs, ?_⟩
    exact own_put2b k2 HM.out.z (by decide) _ _
   obtain ⟨⟨z0, z1⟩, g0, g1⟩ := blk2 HM.out.z
   go_wp2
   exact endBad rfl HB9.out _ rfl rfl fun e he => ⟨he, .slice Ab nb cb, ⟨Ab, nb, cb, rfl, HE9.out, HT9.out⟩, Tp.ext HX9.out ge _⟩
  ·skip
   go_upto_region 6 with (fail)
   clear hc1 q0 q1 f0 f1 z0 z1 g0 g1 HB7
   have HK6 : Hid (∀ w', Ext w7 w' → w'.cell? ⟨ge, 0, none⟩ = some (.slice An nn cn) ∧ w'.cell? ⟨ge, 1, none⟩ = some (.slice Ah nh ch) ∧ w'.cell? ⟨ge, 2, none⟩ = some (.bool false) ∧ w'.cell? ⟨ge, 3, none⟩ = some (.slice Ab nb cb) ∧ w'.cell? ⟨w.heap.size, 2, none⟩ = some (.slice (some ⟨b, o, none⟩) n c) ∧ w'.cell? ⟨b, o, none⟩ = some (.string y) ∧ w'.cell? ⟨b, o + 1, none⟩ = some (.string y1)) := fun w' hx => ⟨(HE.out.ext hx).cell 0, (HE.out.ext hx).cell 1, (HE.out.ext hx).cell 2, (HE.out.ext hx).cell 3, (HM.out.s.ext hx).cell 2, (hx.cell (p := ⟨b, o, none⟩) HY.out.1).trans HY.out.2.1, (hx.cell (p := ⟨b, o + 1, none⟩) HY.out.1).trans HY.out.2.2⟩
   have HRN := Lib.hid ((HNS.out.ext HM.out.x).ext (Ext.refl w7).drew)
   have HRB : Hid (∃ bs, Rd w7.drew w7.drew.heap.size 1 Ab nb (tcells bs)) := by
    obtain ⟨k1, bs, k2⟩ := HBT.out
    exact ⟨bs, (Rd.own k2).ext (Ext.refl w7).drew⟩
   refine wp_region_held_drew (S := (fun w' => w'.cell? ⟨ge, 0, none⟩ = some (.slice An nn cn) ∧ w'.cell? ⟨ge, 1, none⟩ = some (.slice Ah nh ch) ∧ w'.cell? ⟨ge, 2, none⟩ = some (.bool false) ∧ w'.cell? ⟨ge, 3, none⟩ = some (.slice Ab nb cb) ∧ w'.cell? ⟨w.heap.size, 2, none⟩ = some (.slice (some ⟨b, o, none⟩) n c) ∧ w'.cell? ⟨b, o, none⟩ = some (.string y) ∧ w'.cell? ⟨b, o + 1, none⟩ = some (.string y1))) (by kernel_rfl) (HK6.out _ (Ext.refl w7).drew) (fun hHeld => ?_)
   (refine tk 0 (v := ?_) ?_ ?_; rotate_left; · (intro w hSw; (try dsimp only at hSw); go_simp; all_goals with_reducible rfl))
   (try simp only [Act.put, L1, L2, L3, L4, L5, L6])
   (refine tk 1 (v := ?_) ?_ ?_; rotate_left; · (intro w hSw; (try dsimp only at hSw); go_simp; all_goals with_reducible rfl))
   (try simp only [Act.put, L1, L2, L3, L4, L5, L6])
   (refine tk 2 (v := ?_) ?_ ?_; rotate_left; · (intro w hSw; (try dsimp only at hSw); go_simp; all_goals with_reducible rfl))
   (try simp only [Act.put, L1, L2, L3, L4, L5, L6])
   (refine tk 3 (v := ?_) ?_ ?_; rotate_left; · (intro w hSw; (try dsimp only at hSw); go_simp; all_goals with_reducible rfl))
   (try simp only [Act.put, L1, L2, L3, L4, L5, L6])
   (refine tk 4 (v := ?_) ?_ ?_; rotate_left; · (intro w hSw; (try dsimp only at hSw); go_simp; all_goals with_reducible rfl))
   (try simp only [Act.put, L1, L2, L3, L4, L5, L6])
   (refine tk 5 (v := ?_) ?_ ?_; rotate_left; · (intro w hSw; (try dsimp only at hSw); go_simp; all_goals with_reducible rfl))
   (try simp only [Act.put, L1, L2, L3, L4, L5, L6])
   (refine tk 6 (v := ?_) ?_ ?_; rotate_left; · (intro w hSw; (try dsimp only at hSw); go_simp; all_goals with_reducible rfl))
   (try simp only [Act.put, L1, L2, L3, L4, L5, L6])
   (refine tk 7 (v := ?_) ?_ ?_; rotate_left; · (intro w hSw; (try dsimp only at hSw); go_simp; all_goals with_reducible rfl))
   (try simp only [Act.put, L1, L2, L3, L4, L5, L6])
   refine wpAnyH_ready (rs := [8]) (by kernel_rfl) (by simp) ?_
   refine AllReadyH.cons rfl (fun K hK => ?_) AllReadyH.nil
   go_simp
   refine (l1Has_any An nn cn ns y1 _ HRN.out (by omega)).mono ?_
   rintro e8 w8 ⟨⟨b8, rfl⟩, rfl⟩
   refine hK.out _ _ (HK6.out _ (Ext.refl w7).drew) (fun hHeld => ?_)
   clear hK K
   (try simp only [Act.put, L1, L2, L3, L4, L5, L6])
   (refine tk 9 (v := ?_) ?_ ?_; rotate_left; · (intro w hSw; (try dsimp only at hSw); go_simp; all_goals with_reducible rfl))
   (try simp only [Act.put, L1, L2, L3, L4, L5, L6])
   cases b8
   ·skip
    (refine tk 10 (v := ?_) ?_ ?_; rotate_left; · (intro w hSw; (try dsimp only at hSw); go_simp; all_goals with_reducible rfl))
    (try simp only [Act.put, L1, L2, L3, L4, L5, L6])
    (refine tk 11 (v := ?_) ?_ ?_; rotate_left; · (intro w hSw; (try dsimp only at hSw); go_simp; all_goals with_reducible rfl))
    (try simp only [Act.put, L1, L2, L3, L4, L5, L6])
    (refine tk 12 (v := ?_) ?_ ?_; rotate_left; · (intro w hSw; (try dsimp only at hSw); go_simp; all_goals with_reducible rfl))
    (try simp only [Act.put, L1, L2, L3, L4, L5, L6])
    (refine tk 13 (v := ?_) ?_ ?_; rotate_left; · (intro w hSw; (try dsimp only at hSw); go_simp; all_goals with_reducible rfl))
    (try simp only [Act.put, L1, L2, L3, L4, L5, L6])
    (refine tk 14 (v := ?_) ?_ ?_; rotate_left; · (intro w hSw; (try dsimp only at hSw); go_simp; all_goals with_reducible rfl))
    (try simp only [Act.put, L1, L2, L3, L4, L5, L6])
    (refine tk 15 (v := ?_) ?_ ?_; rotate_left; · (intro w hSw; (try dsimp only at hSw); go_simp; all_goals with_reducible rfl))
    (try simp only [Act.put, L1, L2, L3, L4, L5, L6])
    (refine tk 16 (v := ?_) ?_ ?_; rotate_left; · (intro w hSw; (try dsimp only at hSw); go_simp; all_goals with_reducible rfl))
    (try simp only [Act.put, L1, L2, L3, L4, L5, L6])
    (refine tk 17 (v := ?_) ?_ ?_; rotate_left; · (intro w hSw; (try dsimp only at hSw); go_simp; all_goals with_reducible rfl))
    (try simp only [Act.put, L1, L2, L3, L4, L5, L6])
    obtain ⟨bs, hbs⟩ := HRB.out
    refine wpAnyH_ready (rs := [18]) (by kernel_rfl) (by simp) ?_
    refine AllReadyH.cons rfl (fun K hK => ?_) AllReadyH.nil
    go_simp
    refine (l1Has_any Ab nb cb bs y1 _ hbs (by have := HBT.out.1; omega)).mono ?_
    rintro e8 w8 ⟨⟨b8, rfl⟩, rfl⟩
    refine hK.out _ _ (HK6.out _ (Ext.refl w7).drew) (fun hHeld => ?_)
    clear hK K
    (try simp only [Act.put, L1, L2, L3, L4, L5, L6])
    (refine tk 19 (v := ?_) ?_ ?_; rotate_left; · (intro w hSw; (try dsimp only at hSw); go_simp; all_goals with_reducible rfl))
    (try simp only [Act.put, L1, L2, L3, L4, L5, L6])
    (refine wpAnyH_done (by kernel_rfl) ?_ _)
    clear hHeld hbs
    have HX8 : Hid (Ext w7 w7.drew) := (Ext.refl w7).drew
    replace HM := Lib.hid (HM.out.ext HX8.out)
    replace HE := Lib.hid (HE.out.ext HX8.out)
    replace HBT := Lib.hid (HBT.out.ext HX8.out)
    replace HY : Hid (b < w7.drew.heap.size ∧ w7.drew.cell? ⟨b, o, none⟩ = some (.string y) ∧ w7.drew.cell? ⟨b, o + 1, none⟩ = some (.string y1)) := ⟨Nat.lt_of_lt_of_le HY.out.1 HX8.out.size, (HX8.out.cell (p := ⟨b, o, none⟩) HY.out.1).trans HY.out.2.1, (HX8.out.cell (p := ⟨b, o + 1, none⟩) HY.out.1).trans HY.out.2.2⟩
    clear HX8 HK6 HRN HRB
    generalize w7.drew = w8 at *
    have s2 : w8.cell? ⟨w.heap.size, 2, none⟩ = some (.slice (some ⟨b, o, none⟩) n c) := HM.out.s.cell 2
    have e3 : w8.cell? ⟨ge, 3, none⟩ = some (.slice Ab nb cb) := HE.out.cell 3
    have hy1 := HY.out.2.2
    cases b8
    ·skip
     by_cases h3 : nb = 3
     ·skip
      subst h3
      have HB9 := Lib.hid (HM.out.z.put2b (.int .i64 8) (.string y1))
      have HX9 := Lib.hid (ext_put2b HM.out.x (show w.heap.size ≤ w.heap.size + 1 by omega) (.int .i64 8) (.string y1))
      have HE9 : Hid (Blk (put2b w8 (w.heap.size + 1) (.int .i64 8) (.string y1)) ge 107 #[.slice An nn cn, .slice Ah nh ch, .bool false, .slice Ab 3 cb]) := (HE.out.far (p := ⟨w.heap.size + 1, 0, none⟩) (by show ge ≠ w.heap.size + 1; omega) _).far (p := ⟨w.heap.size + 1, 1, none⟩) (by show ge ≠ w.heap.size + 1; omega) _
      have HT9 : Hid (Bt (put2b w8 (w.heap.size + 1) (.int .i64 8) (.string y1)) ge Ab 3 cb) := by
       obtain ⟨k1, bs, k2⟩ := HBT.out
       refine ⟨k1, bs, ?_⟩
       exact own_put2b k2 HM.out.z (by decide) _ _
      obtain ⟨⟨q0, q1⟩, f0, f1⟩ := blk2 HM.out.z
      go_wp2
      exact endBad rfl HB9.out _ rfl rfl fun e he => ⟨he, .slice Ab 3 cb, ⟨Ab, 3, cb, rfl, HE9.out, HT9.out⟩, Tp.ext HX9.out ge _⟩
     ·skip
      have h3' : ((nb : Int) == 3) = false := by simp; omega
      go_upto_region 10 with (fail)
      clear s2 e3 hy1 h3'
      have HKA : Hid (∀ w', Ext w8 w' → w'.cell? ⟨ge, 0, none⟩ = some (.slice An nn cn) ∧ w'.cell? ⟨ge, 1, none⟩ = some (.slice Ah nh ch) ∧ w'.cell? ⟨ge, 2, none⟩ = some (.bool false) ∧ w'.cell? ⟨w.heap.size, 2, none⟩ = some (.slice (some ⟨b, o, none⟩) n c) ∧ w'.cell? ⟨b, o, none⟩ = some (.string y) ∧ w'.cell? ⟨b, o + 1, none⟩ = some (.string y1)) := fun w' hx => ⟨(HE.out.ext hx).cell 0, (HE.out.ext hx).cell 1, (HE.out.ext hx).cell 2, (HM.out.s.ext hx).cell 2, (hx.cell (p := ⟨b, o, none⟩) HY.out.1).trans HY.out.2.1, (hx.cell (p := ⟨b, o + 1, none⟩) HY.out.1).trans HY.out.2.2⟩
      refine wp_region_held_drew (S := (fun w' => w'.cell? ⟨ge, 0, none⟩ = some (.slice An nn cn) ∧ w'.cell? ⟨ge, 1, none⟩ = some (.slice Ah nh ch) ∧ w'.cell? ⟨ge, 2, none⟩ = some (.bool false) ∧ w'.cell? ⟨w.heap.size, 2, none⟩ = some (.slice (some ⟨b, o, none⟩) n c) ∧ w'.cell? ⟨b, o, none⟩ = some (.string y) ∧ w'.cell? ⟨b, o + 1, none⟩ = some (.string y1))) (by kernel_rfl) (HKA.out _ (Ext.refl w8).drew) (fun hHeld => ?_)
      (refine tk 0 (v := ?_) ?_ ?_; rotate_left; · (intro w hSw; (try dsimp only at hSw); go_simp; all_goals with_reducible rfl))
      (try simp only [Act.put, L1, L2, L3, L4, L5, L6])
      (refine tk 1 (v := ?_) ?_ ?_; rotate_left; · (intro w hSw; (try dsimp only at hSw); go_simp; all_goals with_reducible rfl))
      (try simp only [Act.put, L1, L2, L3, L4, L5, L6])
      (refine tk 2 (v := ?_) ?_ ?_; rotate_left; · (intro w hSw; (try dsimp only at hSw); go_simp; all_goals with_reducible rfl))
      (try simp only [Act.put, L1, L2, L3, L4, L5, L6])
      (refine tk 3 (v := ?_) ?_ ?_; rotate_left; · (intro w hSw; (try dsimp only at hSw); go_simp; all_goals with_reducible rfl))
      (try simp only [Act.put, L1, L2, L3, L4, L5, L6])
      (refine tk 5 (v := ?_) ?_ ?_; rotate_left; · (intro w hSw; (try dsimp only at hSw); go_simp; all_goals with_reducible rfl))
      (try simp only [Act.put, L1, L2, L3, L4, L5, L6])
      (refine tk 6 (v := ?_) ?_ ?_; rotate_left; · (intro w hSw; (try dsimp only at hSw); go_simp; all_goals with_reducible rfl))
      (try simp only [Act.put, L1, L2, L3, L4, L5, L6])
      (refine tk 7 (v := ?_) ?_ ?_; rotate_left; · (intro w hSw; (try dsimp only at hSw); go_simp; all_goals with_reducible rfl))
      (try simp only [Act.put, L1, L2, L3, L4, L5, L6])
      (refine tk 8 (v := ?_) ?_ ?_; rotate_left; · (intro w hSw; (try dsimp only at hSw); go_simp; all_goals with_reducible rfl))
      (try simp only [Act.put, L1, L2, L3, L4, L5, L6])
      have e3a : w8.drew.cell? ⟨ge, 3, none⟩ = some (.slice Ab nb cb) := (HE.out.ext (Ext.refl w8).drew).cell 3
      refine wpAnyH_ready (rs := [4, 9]) (by kernel_rfl) (by simp) ?_
      refine AllReadyH.cons rfl (fun K hK => ?_) (AllReadyH.cons rfl (fun K hK => ?_) AllReadyH.nil)
      ·skip
       go_simp
       refine hK.out _ _ (HKA.out _ (Ext.refl w8).drew) (fun hHeld => ?_)
       clear hK K
       (try simp only [Act.put, L1, L2, L3, L4, L5, L6])
       refine wpAnyH_ready (rs := [9]) (by kernel_rfl) (by simp) ?_
       refine AllReadyH.cons rfl (fun K hK => ?_) AllReadyH.nil
       go_simp
       refine hK.out _ _ (HKA.out _ ((Ext.refl w8).drew.alloc _)) (fun hHeld => ?_)
       clear hK K
       (try simp only [Act.put, L1, L2, L3, L4, L5, L6])
       obtain ⟨k1, bs, k2⟩ := HBT.out
       have HXA : Hid (Ext w8 (w8.drew.alloc (.cells #[.string y1] 9))) := (Ext.refl w8).drew.alloc _
       have k3 : Rd (w8.drew.alloc (.cells #[.string y1] 9)) (w8.drew.alloc (.cells #[.string y1] 9)).heap.size 1 (some ⟨w8.heap.size, 0, none⟩) 1 (tcells [y1]) := rd_new w8.drew #[.string y1] _ 1 _ (by simp [tcell]) (by simp [tcell])
       have hcw : (cutW (w8.drew.alloc (.cells #[.string y1] 9)) (ge + 1)).heap.size = ge + 1 := cutW_size (by have := HXA.out.size; have := HM.out.x.size; omega)
       refine wpAnyH_ready (rs := [10]) (by kernel_rfl) (by simp) ?_
       refine AllReadyH.cons rfl (fun K hK => ?_) AllReadyH.nil
       refine stepStrS (w := (w8.drew.alloc (.cells #[.string y1] 9))) (w0 := cutW (w8.drew.alloc (.cells #[.string y1] 9)) (ge + 1)) rfl _ _ rfl (.slice Ab nb cb) nb bs rfl (by rw [hcw]; exact own_ext k2 HXA.out) (cutW_ext (by have := HXA.out.size; have := HM.out.x.size; omega)) (some ⟨w8.heap.size, 0, none⟩) 1 1 [y1] rfl k3 (by omega) ?_
       intro v9 w9 g1 g2 g3 g4
       rw [hcw] at g1
       obtain ⟨A9, c9, rfl, -⟩ := own_slice g1
       have HGB : Hid (∀ q, q < w8.heap.size → (Value.slice Ab nb cb).ownBlock ≠ some q → w9.heap[q]? = w8.heap[q]?) := fun q hq hne => (g3.block q (by have := HXA.out.size; omega) (fun e => hne e.symm)).trans (HXA.out.block q hq)
       have HGS : Hid (w9.os = w8.os ∧ w9.tape = w8.tape ∧ w9.output = w8.output ∧ w8.heap.size ≤ w9.heap.size) := ⟨g3.os.trans HXA.out.os, g3.tape.trans HXA.out.tape, g3.output.trans HXA.out.output, Nat.le_trans HXA.out.size g3.size⟩
       have HOW : Hid ((Value.slice A9 (nb + 1) c9).ownBlock = (Value.slice Ab nb cb).ownBlock ∨ ∃ q, (Value.slice A9 (nb + 1) c9).ownBlock = some q ∧ w8.heap.size ≤ q) := by
        rcases g4 with g4 | g4
        ·exact .inl g4
        ·exact .inr ⟨_, g4, HXA.out.size⟩
       have HZ9 : Hid (Blk w9 (w.heap.size + 1) 103 #[.int .i64 0, .string ⟨#[]⟩]) := (HGB.out _ HM.out.z.lt (own_ne k2 HM.out.z (by decide))).trans HM.out.z
       have HE9 : Hid (Blk w9 ge 107 #[.slice An nn cn, .slice Ah nh ch, .bool false, .slice Ab nb cb]) := (HGB.out _ HE.out.lt (own_ne k2 HE.out (by decide))).trans HE.out
       have HS9 : Hid (Blk w9 w.heap.size 69 #[.int .i64 xk, .string wd, .slice (some ⟨b, o, none⟩) n c, .int .i64 cnt, .slice B m e]) := (HGB.out _ HM.out.s.lt (own_ne k2 HM.out.s (by decide))).trans HM.out.s
       have HT9 : Hid (Tp w w9 ge (.slice Ab nb cb) (.slice A9 (nb + 1) c9)) := ⟨HGS.out.1.trans HM.out.x.os, HGS.out.2.1.trans HM.out.x.tape, HGS.out.2.2.1.trans HM.out.x.output, Nat.le_trans HM.out.x.size HGS.out.2.2.2, fun q hq _ hne => (HGB.out q (Nat.lt_of_lt_of_le hq HM.out.x.size) hne).trans (HM.out.x.block q hq), by
        rcases HOW.out with h9 | ⟨q, h9, h8⟩
        ·exact .inl h9
        ·exact .inr ⟨q, h9, Nat.le_trans HM.out.x.size h8⟩⟩
       have HR9 : Hid (w9.ownsRow (ge + 1) 9 1 (.slice A9 (nb + 1) c9) (nb + 1) (tcells (bs ++ [y1]))) := g1
       clear g1 g2 g3 g4 k3 hcw
       have hbne : (Value.slice Ab nb cb).ownBlock ≠ some b := fun e => by
        have := (k2.lt b e).1
        omega
       have HS5 : Hid (w9.cell? ⟨ge, 0, none⟩ = some (.slice An nn cn) ∧ w9.cell? ⟨ge, 1, none⟩ = some (.slice Ah nh ch) ∧ w9.cell? ⟨ge, 2, none⟩ = some (.bool false) ∧ w9.cell? ⟨w.heap.size, 2, none⟩ = some (.slice (some ⟨b, o, none⟩) n c) ∧ w9.cell? ⟨b, o, none⟩ = some (.string y) ∧ w9.cell? ⟨b, o + 1, none⟩ = some (.string y1)) := ⟨HE9.out.cell 0, HE9.out.cell 1, HE9.out.cell 2, HS9.out.cell 2, (World.cell?_of_block (HGB.out b HY.out.1 hbne)).trans HY.out.2.1, (World.cell?_of_block (HGB.out b HY.out.1 hbne)).trans HY.out.2.2⟩
       clear k2
       refine hK.out _ _ (HS5.out) (fun hHeld => ?_)
       clear hK K
       (try simp only [Act.put, L1, L2, L3, L4, L5, L6])
       (refine tk 11 (v := ?_) ?_ ?_; rotate_left; · (intro w hSw; (try dsimp only at hSw); go_simp; all_goals with_reducible rfl))
       (try simp only [Act.put, L1, L2, L3, L4, L5, L6])
       (refine tk 12 (v := ?_) ?_ ?_; rotate_left; · (intro w hSw; (try dsimp only at hSw); go_simp; all_goals with_reducible rfl))
       (try simp only [Act.put, L1, L2, L3, L4, L5, L6])
       refine wpAnyH_ready (rs := [13]) (by kernel_rfl) (by simp) ?_
       refine AllReadyH.cons rfl (fun K hK => ?_) AllReadyH.nil
       have e3 := HE9.out.cell 3
       have f3 := HE9.out.frozen 3
       change w9.cell? ⟨ge, 3, none⟩ = some (.slice Ab nb cb) at e3
       go_simp
       have HS6 : Hid ((w9.setCell ⟨ge, 3, none⟩ (.slice A9 (nb + 1) c9)).cell? ⟨ge, 0, none⟩ = some (.slice An nn cn) ∧ (w9.setCell ⟨ge, 3, none⟩ (.slice A9 (nb + 1) c9)).cell? ⟨ge, 1, none⟩ = some (.slice Ah nh ch) ∧ (w9.setCell ⟨ge, 3, none⟩ (.slice A9 (nb + 1) c9)).cell? ⟨ge, 2, none⟩ = some (.bool false) ∧ (w9.setCell ⟨ge, 3, none⟩ (.slice A9 (nb + 1) c9)).cell? ⟨w.heap.size, 2, none⟩ = some (.slice (some ⟨b, o, none⟩) n c) ∧ (w9.setCell ⟨ge, 3, none⟩ (.slice A9 (nb + 1) c9)).cell? ⟨b, o, none⟩ = some (.string y) ∧ (w9.setCell ⟨ge, 3, none⟩ (.slice A9 (nb + 1) c9)).cell? ⟨b, o + 1, none⟩ = some (.string y1)) := ⟨(HE9.out.set_ 3 _).cell 0, (HE9.out.set_ 3 _).cell 1, (HE9.out.set_ 3 _).cell 2, (HS9.out.far (p := ⟨ge, 3, none⟩) (by show w.heap.size ≠ ge; omega) _).cell 2, (World.cell?_of_block (Below.heap_setCell w9 ⟨ge, 3, none⟩ _ b (by show b ≠ ge; omega))).trans HS5.out.2.2.2.2.1, (World.cell?_of_block (Below.heap_setCell w9 ⟨ge, 3, none⟩ _ b (by show b ≠ ge; omega))).trans HS5.out.2.2.2.2.2⟩
       refine hK.out _ _ (HS6.out) (fun hHeld => ?_)
       clear hK K
       (try simp only [Act.put, L1, L2, L3, L4, L5, L6])
       (refine wpAnyH_done (by kernel_rfl) ?_ _)
       have HE10 : Hid (Blk (w9.setCell ⟨ge, 3, none⟩ (.slice A9 (nb + 1) c9)) ge 107 #[.slice An nn cn, .slice Ah nh ch, .bool false, .slice A9 (nb + 1) c9]) := HE9.out.set_ 3 _
       have HZ10 : Hid (Blk (w9.setCell ⟨ge, 3, none⟩ (.slice A9 (nb + 1) c9)) (w.heap.size + 1) 103 #[.int .i64 0, .string ⟨#[]⟩]) := HZ9.out.far (p := ⟨ge, 3, none⟩) (by show w.heap.size + 1 ≠ ge; omega) _
       have HR10 : Hid ((w9.setCell ⟨ge, 3, none⟩ (.slice A9 (nb + 1) c9)).ownsRow (ge + 1) 9 1 (.slice A9 (nb + 1) c9) (nb + 1) (tcells (bs ++ [y1]))) := own_far HR9.out HE9.out (by decide) 3 _
       have HT10 : Hid (Tp w (w9.setCell ⟨ge, 3, none⟩ (.slice A9 (nb + 1) c9)) ge (.slice Ab nb cb) (.slice A9 (nb + 1) c9)) := ⟨HT9.out.os, HT9.out.tape, HT9.out.output, by have h9 := HT9.out.size; simpa [World.setCell] using h9, fun q hq h1 h2 => (Below.heap_setCell w9 ⟨ge, 3, none⟩ _ q h1).trans (HT9.out.keep q hq h1 h2), HT9.out.own⟩
       clear hHeld e3 f3 HS5 HS6 HE9 HZ9 HR9 HT9 HS9 HGB HGS HOW
       generalize w9.setCell ⟨ge, 3, none⟩ (.slice A9 (nb + 1) c9) = wt at *
       have HB9 := Lib.hid (HZ10.out.put2b (.int .i64 0) (.string ⟨#[]⟩))
       have HE9 : Hid (Blk (put2b wt (w.heap.size + 1) (.int .i64 0) (.string ⟨#[]⟩)) ge 107 #[.slice An nn cn, .slice Ah nh ch, .bool false, .slice A9 (nb + 1) c9]) := (HE10.out.far (p := ⟨w.heap.size + 1, 0, none⟩) (by show ge ≠ w.heap.size + 1; omega) _).far (p := ⟨w.heap.size + 1, 1, none⟩) (by show ge ≠ w.heap.size + 1; omega) _
       have HR9 := Lib.hid (own_put2b HR10.out HZ10.out (by decide) (.int .i64 0) (.string ⟨#[]⟩))
       have HT9 : Hid (Tp w (put2b wt (w.heap.size + 1) (.int .i64 0) (.string ⟨#[]⟩)) ge (.slice Ab nb cb) (.slice A9 (nb + 1) c9)) := ⟨HT10.out.os, HT10.out.tape, HT10.out.output, by have h9 := HT10.out.size; simpa [put2b, World.setCell] using h9, fun q hq h1 h2 => ((Below.heap_setCell (wt.setCell ⟨w.heap.size + 1, 0, none⟩ (.int .i64 0)) ⟨w.heap.size + 1, 1, none⟩ _ q (by show q ≠ w.heap.size + 1; omega)).trans (Below.heap_setCell wt ⟨w.heap.size + 1, 0, none⟩ _ q (by show q ≠ w.heap.size + 1; omega))).trans (HT10.out.keep q hq h1 h2), HT10.out.own⟩
       obtain ⟨⟨q0, q1⟩, f0, f1⟩ := blk2 HZ10.out
       go_wp2
       exact endBad rfl HB9.out _ rfl rfl fun e he => ⟨he, .slice A9 (nb + 1) c9, ⟨A9, nb + 1, c9, rfl, HE9.out, by omega, bs ++ [y1], HR9.out⟩, HT9.out⟩
      ·skip
       go_simp
       refine hK.out _ _ (HKA.out _ ((Ext.refl w8).alloc _).drew) (fun hHeld => ?_)
       clear hK K
       (try simp only [Act.put, L1, L2, L3, L4, L5, L6])
       have e3b : (w8.alloc (.cells #[.string y1] 9)).cell? ⟨ge, 3, none⟩ = some (.slice Ab nb cb) := (HE.out.ext ((Ext.refl w8).alloc _)).cell 3
       refine wpAnyH_ready (rs := [4]) (by kernel_rfl) (by simp) ?_
       refine AllReadyH.cons rfl (fun K hK => ?_) AllReadyH.nil
       go_simp
       refine hK.out _ _ (HKA.out _ ((Ext.refl w8).drew.alloc _)) (fun hHeld => ?_)
       clear hK K
       (try simp only [Act.put, L1, L2, L3, L4, L5, L6])
       obtain ⟨k1, bs, k2⟩ := HBT.out
       have HXA : Hid (Ext w8 (w8.drew.alloc (.cells #[.string y1] 9))) := (Ext.refl w8).drew.alloc _
       have k3 : Rd (w8.drew.alloc (.cells #[.string y1] 9)) (w8.drew.alloc (.cells #[.string y1] 9)).heap.size 1 (some ⟨w8.heap.size, 0, none⟩) 1 (tcells [y1]) := rd_new w8.drew #[.string y1] _ 1 _ (by simp [tcell]) (by simp [tcell])
       have hcw : (cutW (w8.drew.alloc (.cells #[.string y1] 9)) (ge + 1)).heap.size = ge + 1 := cutW_size (by have := HXA.out.size; have := HM.out.x.size; omega)
       refine wpAnyH_ready (rs := [10]) (by kernel_rfl) (by simp) ?_
       refine AllReadyH.cons rfl (fun K hK => ?_) AllReadyH.nil
       refine stepStrS (w := (w8.drew.alloc (.cells #[.string y1] 9))) (w0 := cutW (w8.drew.alloc (.cells #[.string y1] 9)) (ge + 1)) rfl _ _ rfl (.slice Ab nb cb) nb bs rfl (by rw [hcw]; exact own_ext k2 HXA.out) (cutW_ext (by have := HXA.out.size; have := HM.out.x.size; omega)) (some ⟨w8.heap.size, 0, none⟩) 1 1 [y1] rfl k3 (by omega) ?_
       intro v9 w9 g1 g2 g3 g4
       rw [hcw] at g1
       obtain ⟨A9, c9, rfl, -⟩ := own_slice g1
       have HGB : Hid (∀ q, q < w8.heap.size → (Value.slice Ab nb cb).ownBlock ≠ some q → w9.heap[q]? = w8.heap[q]?) := fun q hq hne => (g3.block q (by have := HXA.out.size; omega) (fun e => hne e.symm)).trans (HXA.out.block q hq)
       have HGS : Hid (w9.os = w8.os ∧ w9.tape = w8.tape ∧ w9.output = w8.output ∧ w8.heap.size ≤ w9.heap.size) := ⟨g3.os.trans HXA.out.os, g3.tape.trans HXA.out.tape, g3.output.trans HXA.out.output, Nat.le_trans HXA.out.size g3.size⟩
       have HOW : Hid ((Value.slice A9 (nb + 1) c9).ownBlock = (Value.slice Ab nb cb).ownBlock ∨ ∃ q, (Value.slice A9 (nb + 1) c9).ownBlock = some q ∧ w8.heap.size ≤ q) := by
        rcases g4 with g4 | g4
        ·exact .inl g4
        ·exact .inr ⟨_, g4, HXA.out.size⟩
       have HZ9 : Hid (Blk w9 (w.heap.size + 1) 103 #[.int .i64 0, .string ⟨#[]⟩]) := (HGB.out _ HM.out.z.lt (own_ne k2 HM.out.z (by decide))).trans HM.out.z
       have HE9 : Hid (Blk w9 ge 107 #[.slice An nn cn, .slice Ah nh ch, .bool false, .slice Ab nb cb]) := (HGB.out _ HE.out.lt (own_ne k2 HE.out (by decide))).trans HE.out
       have HS9 : Hid (Blk w9 w.heap.size 69 #[.int .i64 xk, .string wd, .slice (some ⟨b, o, none⟩) n c, .int .i64 cnt, .slice B m e]) := (HGB.out _ HM.out.s.lt (own_ne k2 HM.out.s (by decide))).trans HM.out.s
       have HT9 : Hid (Tp w w9 ge (.slice Ab nb cb) (.slice A9 (nb + 1) c9)) := ⟨HGS.out.1.trans HM.out.x.os, HGS.out.2.1.trans HM.out.x.tape, HGS.out.2.2.1.trans HM.out.x.output, Nat.le_trans HM.out.x.size HGS.out.2.2.2, fun q hq _ hne => (HGB.out q (Nat.lt_of_lt_of_le hq HM.out.x.size) hne).trans (HM.out.x.block q hq), by
        rcases HOW.out with h9 | ⟨q, h9, h8⟩
        ·exact .inl h9
        ·exact .inr ⟨q, h9, Nat.le_trans HM.out.x.size h8⟩⟩
       have HR9 : Hid (w9.ownsRow (ge + 1) 9 1 (.slice A9 (nb + 1) c9) (nb + 1) (tcells (bs ++ [y1]))) := g1
       clear g1 g2 g3 g4 k3 hcw
       have hbne : (Value.slice Ab nb cb).ownBlock ≠ some b := fun e => by
        have := (k2.lt b e).1
        omega
       have HS5 : Hid (w9.cell? ⟨ge, 0, none⟩ = some (.slice An nn cn) ∧ w9.cell? ⟨ge, 1, none⟩ = some (.slice Ah nh ch) ∧ w9.cell? ⟨ge, 2, none⟩ = some (.bool false) ∧ w9.cell? ⟨w.heap.size, 2, none⟩ = some (.slice (some ⟨b, o, none⟩) n c) ∧ w9.cell? ⟨b, o, none⟩ = some (.string y) ∧ w9.cell? ⟨b, o + 1, none⟩ = some (.string y1)) := ⟨HE9.out.cell 0, HE9.out.cell 1, HE9.out.cell 2, HS9.out.cell 2, (World.cell?_of_block (HGB.out b HY.out.1 hbne)).trans HY.out.2.1, (World.cell?_of_block (HGB.out b HY.out.1 hbne)).trans HY.out.2.2⟩
       clear k2
       refine hK.out _ _ (HS5.out) (fun hHeld => ?_)
       clear hK K
       (try simp only [Act.put, L1, L2, L3, L4, L5, L6])
       (refine tk 11 (v := ?_) ?_ ?_; rotate_left; · (intro w hSw; (try dsimp only at hSw); go_simp; all_goals with_reducible rfl))
       (try simp only [Act.put, L1, L2, L3, L4, L5, L6])
       (refine tk 12 (v := ?_) ?_ ?_; rotate_left; · (intro w hSw; (try dsimp only at hSw); go_simp; all_goals with_reducible rfl))
       (try simp only [Act.put, L1, L2, L3, L4, L5, L6])
       refine wpAnyH_ready (rs := [13]) (by kernel_rfl) (by simp) ?_
       refine AllReadyH.cons rfl (fun K hK => ?_) AllReadyH.nil
       have e3 := HE9.out.cell 3
       have f3 := HE9.out.frozen 3
       change w9.cell? ⟨ge, 3, none⟩ = some (.slice Ab nb cb) at e3
       go_simp
       have HS6 : Hid ((w9.setCell ⟨ge, 3, none⟩ (.slice A9 (nb + 1) c9)).cell? ⟨ge, 0, none⟩ = some (.slice An nn cn) ∧ (w9.setCell ⟨ge, 3, none⟩ (.slice A9 (nb + 1) c9)).cell? ⟨ge, 1, none⟩ = some (.slice Ah nh ch) ∧ (w9.setCell ⟨ge, 3, none⟩ (.slice A9 (nb + 1) c9)).cell? ⟨ge, 2, none⟩ = some (.bool false) ∧ (w9.setCell ⟨ge, 3, none⟩ (.slice A9 (nb + 1) c9)).cell? ⟨w.heap.size, 2, none⟩ = some (.slice (some ⟨b, o, none⟩) n c) ∧ (w9.setCell ⟨ge, 3, none⟩ (.slice A9 (nb + 1) c9)).cell? ⟨b, o, none⟩ = some (.string y) ∧ (w9.setCell ⟨ge, 3, none⟩ (.slice A9 (nb + 1) c9)).cell? ⟨b, o + 1, none⟩ = some (.string y1)) := ⟨(HE9.out.set_ 3 _).cell 0, (HE9.out.set_ 3 _).cell 1, (HE9.out.set_ 3 _).cell 2, (HS9.out.far (p := ⟨ge, 3, none⟩) (by show w.heap.size ≠ ge; omega) _).cell 2, (World.cell?_of_block (Below.heap_setCell w9 ⟨ge, 3, none⟩ _ b (by show b ≠ ge; omega))).trans HS5.out.2.2.2.2.1, (World.cell?_of_block (Below.heap_setCell w9 ⟨ge, 3, none⟩ _ b (by show b ≠ ge; omega))).trans HS5.out.2.2.2.2.2⟩
       refine hK.out _ _ (HS6.out) (fun hHeld => ?_)
       clear hK K
       (try simp only [Act.put, L1, L2, L3, L4, L5, L6])
       (refine wpAnyH_done (by kernel_rfl) ?_ _)
       have HE10 : Hid (Blk (w9.setCell ⟨ge, 3, none⟩ (.slice A9 (nb + 1) c9)) ge 107 #[.slice An nn cn, .slice Ah nh ch, .bool false, .slice A9 (nb + 1) c9]) := HE9.out.set_ 3 _
       have HZ10 : Hid (Blk (w9.setCell ⟨ge, 3, none⟩ (.slice A9 (nb + 1) c9)) (w.heap.size + 1) 103 #[.int .i64 0, .string ⟨#[]⟩]) := HZ9.out.far (p := ⟨ge, 3, none⟩) (by show w.heap.size + 1 ≠ ge; omega) _
       have HR10 : Hid ((w9.setCell ⟨ge, 3, none⟩ (.slice A9 (nb + 1) c9)).ownsRow (ge + 1) 9 1 (.slice A9 (nb + 1) c9) (nb + 1) (tcells (bs ++ [y1]))) := own_far HR9.out HE9.out (by decide) 3 _
       have HT10 : Hid (Tp w (w9.setCell ⟨ge, 3, none⟩ (.slice A9 (nb + 1) c9)) ge (.slice Ab nb cb) (.slice A9 (nb + 1) c9)) := ⟨HT9.out.os, HT9.out.tape, HT9.out.output, by have h9 := HT9.out.size; simpa [World.setCell] using h9, fun q hq h1 h2 => (Below.heap_setCell w9 ⟨ge, 3, none⟩ _ q h1).trans (HT9.out.keep q hq h1 h2), HT9.out.own⟩
       clear hHeld e3 f3 HS5 HS6 HE9 HZ9 HR9 HT9 HS9 HGB HGS HOW
       generalize w9.setCell ⟨ge, 3, none⟩ (.slice A9 (nb + 1) c9) = wt at *
       have HB9 := Lib.hid (HZ10.out.put2b (.int .i64 0) (.string ⟨#[]⟩))
       have HE9 : Hid (Blk (put2b wt (w.heap.size + 1) (.int .i64 0) (.string ⟨#[]⟩)) ge 107 #[.slice An nn cn, .slice Ah nh ch, .bool false, .slice A9 (nb + 1) c9]) := (HE10.out.far (p := ⟨w.heap.size + 1, 0, none⟩) (by show ge ≠ w.heap.size + 1; omega) _).far (p := ⟨w.heap.size + 1, 1, none⟩) (by show ge ≠ w.heap.size + 1; omega) _
       have HR9 := Lib.hid (own_put2b HR10.out HZ10.out (by decide) (.int .i64 0) (.string ⟨#[]⟩))
       have HT9 : Hid (Tp w (put2b wt (w.heap.size + 1) (.int .i64 0) (.string ⟨#[]⟩)) ge (.slice Ab nb cb) (.slice A9 (nb + 1) c9)) := ⟨HT10.out.os, HT10.out.tape, HT10.out.output, by have h9 := HT10.out.size; simpa [put2b, World.setCell] using h9, fun q hq h1 h2 => ((Below.heap_setCell (wt.setCell ⟨w.heap.size + 1, 0, none⟩ (.int .i64 0)) ⟨w.heap.size + 1, 1, none⟩ _ q (by show q ≠ w.heap.size + 1; omega)).trans (Below.heap_setCell wt ⟨w.heap.size + 1, 0, none⟩ _ q (by show q ≠ w.heap.size + 1; omega))).trans (HT10.out.keep q hq h1 h2), HT10.out.own⟩
       obtain ⟨⟨q0, q1⟩, f0, f1⟩ := blk2 HZ10.out
       go_wp2
       exact endBad rfl HB9.out _ rfl rfl fun e he => ⟨he, .slice A9 (nb + 1) c9, ⟨A9, nb + 1, c9, rfl, HE9.out, by omega, bs ++ [y1], HR9.out⟩, HT9.out⟩
    ·skip
     have HB9 := Lib.hid (HM.out.z.put2b (.int .i64 1) (.string y1))
     have HX9 := Lib.hid (ext_put2b HM.out.x (show w.heap.size ≤ w.heap.size + 1 by omega) (.int .i64 1) (.string y1))
     have HE9 : Hid (Blk (put2b w8 (w.heap.size + 1) (.int .i64 1) (.string y1)) ge 107 #[.slice An nn cn, .slice Ah nh ch, .bool false, .slice Ab nb cb]) := (HE.out.far (p := ⟨w.heap.size + 1, 0, none⟩) (by show ge ≠ w.heap.size + 1; omega) _).far (p := ⟨w.heap.size + 1, 1, none⟩) (by show ge ≠ w.heap.size + 1; omega) _
     have HT9 : Hid (Bt (put2b w8 (w.heap.size + 1) (.int .i64 1) (.string y1)) ge Ab nb cb) := by
      obtain ⟨k1, bs, k2⟩ := HBT.out
      refine ⟨k1, bs, ?_⟩
      exact own_put2b k2 HM.out.z (by decide) _ _
     obtain ⟨⟨q0, q1⟩, f0, f1⟩ := blk2 HM.out.z
     go_wp2
     exact endBad rfl HB9.out _ rfl rfl fun e he => ⟨he, .slice Ab nb cb, ⟨Ab, nb, cb, rfl, HE9.out, HT9.out⟩, Tp.ext HX9.out ge _⟩
   ·skip
    (refine wpAnyH_take (i := 10) rfl (by kernel_rfl) (by kernel_rfl) (by kernel_rfl) (fun _ _ _ h => h) (Or.inr ⟨by first | kernel_rfl | rfl, rfl⟩) (by assumption) ?_; (try simp only [Act.put, L1, L2, L3, L4, L5, L6]))
    (refine wpAnyH_take (i := 11) rfl (by kernel_rfl) (by kernel_rfl) (by kernel_rfl) (fun _ _ _ h => h) (Or.inr ⟨by first | kernel_rfl | rfl, rfl⟩) (by assumption) ?_; (try simp only [Act.put, L1, L2, L3, L4, L5, L6]))
    (refine wpAnyH_take (i := 12) rfl (by kernel_rfl) (by kernel_rfl) (by kernel_rfl) (fun _ _ _ h => h) (Or.inr ⟨by first | kernel_rfl | rfl, rfl⟩) (by assumption) ?_; (try simp only [Act.put, L1, L2, L3, L4, L5, L6]))
    (refine wpAnyH_take (i := 13) rfl (by kernel_rfl) (by kernel_rfl) (by kernel_rfl) (fun _ _ _ h => h) (Or.inr ⟨by first | kernel_rfl | rfl, rfl⟩) (by assumption) ?_; (try simp only [Act.put, L1, L2, L3, L4, L5, L6]))
    (refine wpAnyH_take (i := 14) rfl (by kernel_rfl) (by kernel_rfl) (by kernel_rfl) (fun _ _ _ h => h) (Or.inr ⟨by first | kernel_rfl | rfl, rfl⟩) (by assumption) ?_; (try simp only [Act.put, L1, L2, L3, L4, L5, L6]))
    (refine wpAnyH_take (i := 15) rfl (by kernel_rfl) (by kernel_rfl) (by kernel_rfl) (fun _ _ _ h => h) (Or.inr ⟨by first | kernel_rfl | rfl, rfl⟩) (by assumption) ?_; (try simp only [Act.put, L1, L2, L3, L4, L5, L6]))
    (refine wpAnyH_take (i := 16) rfl (by kernel_rfl) (by kernel_rfl) (by kernel_rfl) (fun _ _ _ h => h) (Or.inr ⟨by first | kernel_rfl | rfl, rfl⟩) (by assumption) ?_; (try simp only [Act.put, L1, L2, L3, L4, L5, L6]))
    (refine wpAnyH_take (i := 17) rfl (by kernel_rfl) (by kernel_rfl) (by kernel_rfl) (fun _ _ _ h => h) (Or.inr ⟨by first | kernel_rfl | rfl, rfl⟩) (by assumption) ?_; (try simp only [Act.put, L1, L2, L3, L4, L5, L6]))
    (refine wpAnyH_take (i := 18) rfl (by kernel_rfl) (by kernel_rfl) (by kernel_rfl) (fun _ _ _ h => h) (Or.inr ⟨by first | kernel_rfl | rfl, rfl⟩) (by assumption) ?_; (try simp only [Act.put, L1, L2, L3, L4, L5, L6]))
    (refine tk 19 (v := ?_) ?_ ?_; rotate_left; · (intro w hSw; (try dsimp only at hSw); go_simp; all_goals with_reducible rfl))
    (try simp only [Act.put, L1, L2, L3, L4, L5, L6])
    (refine wpAnyH_done (by kernel_rfl) ?_ _)
    clear hHeld
    have HX8 : Hid (Ext w7 w7.drew) := (Ext.refl w7).drew
    replace HM := Lib.hid (HM.out.ext HX8.out)
    replace HE := Lib.hid (HE.out.ext HX8.out)
    replace HBT := Lib.hid (HBT.out.ext HX8.out)
    replace HY : Hid (b < w7.drew.heap.size ∧ w7.drew.cell? ⟨b, o, none⟩ = some (.string y) ∧ w7.drew.cell? ⟨b, o + 1, none⟩ = some (.string y1)) := ⟨Nat.lt_of_lt_of_le HY.out.1 HX8.out.size, (HX8.out.cell (p := ⟨b, o, none⟩) HY.out.1).trans HY.out.2.1, (HX8.out.cell (p := ⟨b, o + 1, none⟩) HY.out.1).trans HY.out.2.2⟩
    clear HX8 HK6 HRN HRB
    generalize w7.drew = w8 at *
    have s2 : w8.cell? ⟨w.heap.size, 2, none⟩ = some (.slice (some ⟨b, o, none⟩) n c) := HM.out.s.cell 2
    have hy1 := HY.out.2.2
    have HB9 := Lib.hid (HM.out.z.put2b (.int .i64 1) (.string y1))
    have HX9 := Lib.hid (ext_put2b HM.out.x (show w.heap.size ≤ w.heap.size + 1 by omega) (.int .i64 1) (.string y1))
    have HE9 : Hid (Blk (put2b w8 (w.heap.size + 1) (.int .i64 1) (.string y1)) ge 107 #[.slice An nn cn, .slice Ah nh ch, .bool false, .slice Ab nb cb]) := (HE.out.far (p := ⟨w.heap.size + 1, 0, none⟩) (by show ge ≠ w.heap.size + 1; omega) _).far (p := ⟨w.heap.size + 1, 1, none⟩) (by show ge ≠ w.heap.size + 1; omega) _
    have HT9 : Hid (Bt (put2b w8 (w.heap.size + 1) (.int .i64 1) (.string y1)) ge Ab nb cb) := by
     obtain ⟨k1, bs, k2⟩ := HBT.out
     refine ⟨k1, bs, ?_⟩
     exact own_put2b k2 HM.out.z (by decide) _ _
    obtain ⟨⟨q0, q1⟩, f0, f1⟩ := blk2 HM.out.z
    go_wp2
    exact endBad rfl HB9.out _ rfl rfl fun e he => ⟨he, .slice Ab nb cb, ⟨Ab, nb, cb, rfl, HE9.out, HT9.out⟩, Tp.ext HX9.out ge _⟩
 ·skip
  go_simp
  refine hK.out _ _ (HK3.out _ (((Ext.refl W).alloc _).drew)) (fun hHeld => ?_)
  clear hK K
  (try simp only [Act.put, L1, L2, L3, L4, L5, L6])
  refine wpAnyH_ready (rs := [7]) (by kernel_rfl) (by simp) ?_
  refine AllReadyH.cons rfl (fun K hK => ?_) AllReadyH.nil
  go_simp
  refine (l20Arg_any An nn cn Ah nh ch false (.slice Ab nb cb) y KB _ ((HN.out.1.ext HK0.out HM.out.x).ext (HK0.out.ext HM.out.x) (((Ext.refl W).alloc (.cells #[.int .i64 0, .string ⟨#[]⟩] 103)).drew)) ((HN.out.2.ext HK0.out HM.out.x).ext (HK0.out.ext HM.out.x) (((Ext.refl W).alloc (.cells #[.int .i64 0, .string ⟨#[]⟩] 103)).drew)) ((HK0.out.ext HM.out.x).ext (((Ext.refl W).alloc (.cells #[.int .i64 0, .string ⟨#[]⟩] 103)).drew)) hnn).mono ?_
  rintro e1 w5 ⟨⟨c1, s1, rfl⟩, hy5⟩
  have HX6 : Hid (Ext W w5) := Ext.trans ((Ext.refl W).alloc (.cells #[.int .i64 0, .string ⟨#[]⟩] 103)).drew hy5
  have HB6 : Hid (Blk w5 W.heap.size 103 #[.int .i64 0, .string ⟨#[]⟩]) := ((Blk.new W 103 #[.int .i64 0, .string ⟨#[]⟩]).ext (Ext.refl _).drew).ext hy5
  have HS6 : W.heap.size ≤ W.heap.size := Nat.le_refl _
  refine hK.out _ _ (HK3.out _ HX6.out) (fun hHeld => ?_)
  clear hK K
  (try simp only [Act.put, L1, L2, L3, L4, L5, L6])
  clear hy5
  have hsw : ∃ s, s = W.heap.size := ⟨_, rfl⟩
  obtain ⟨s, hs⟩ := hsw
  rw [← hs] at HB6 HS6 ⊢
  replace HS6 : W.heap.size ≤ s := by omega
  clear hs
  have hww : ∃ w6, w6 = w5 := ⟨_, rfl⟩
  obtain ⟨w6, rfl⟩ := hww
  refine wpAnyH_ready (rs := [9]) (by kernel_rfl) (by simp) ?_
  refine AllReadyH.cons rfl (fun K hK => ?_) AllReadyH.nil
  obtain ⟨⟨q0, q1⟩, f0, f1⟩ := blk2 HB6.out
  go_simp
  have HX7 : Hid (Ext W ((w6.setCell ⟨s, 0, none⟩ (.int .i64 c1)).setCell ⟨s, 1, none⟩ (.string s1))) := ext_put2b (g := s) HX6.out HS6 _ _
  have HB7 : Hid (Blk ((w6.setCell ⟨s, 0, none⟩ (.int .i64 c1)).setCell ⟨s, 1, none⟩ (.string s1)) s 103 #[.int .i64 c1, .string s1]) := HB6.out.put2b _ _
  refine hK.out _ _ (HK3.out _ HX7.out) (fun hHeld => ?_)
  clear hK K
  (try simp only [Act.put, L1, L2, L3, L4, L5, L6])
  (refine wpAnyH_done (by kernel_rfl) ?_ _)
  clear q0 q1 f0 f1 hHeld
  clear HK3
  replace HM := Lib.hid (HM.out.ext HX7.out)
  replace HE := Lib.hid (HE.out.ext HX7.out)
  replace HBT := Lib.hid (HBT.out.ext HX7.out)
  replace HY : Hid (b < ((w6.setCell ⟨s, 0, none⟩ (.int .i64 c1)).setCell ⟨s, 1, none⟩ (.string s1)).heap.size ∧ ((w6.setCell ⟨s, 0, none⟩ (.int .i64 c1)).setCell ⟨s, 1, none⟩ (.string s1)).cell? ⟨b, o, none⟩ = some (.string y) ∧ ((w6.setCell ⟨s, 0, none⟩ (.int .i64 c1)).setCell ⟨s, 1, none⟩ (.string s1)).cell? ⟨b, o + 1, none⟩ = some (.string y1)) := ⟨Nat.lt_of_lt_of_le HY.out.1 HX7.out.size, (HX7.out.cell (p := ⟨b, o, none⟩) HY.out.1).trans HY.out.2.1, (HX7.out.cell (p := ⟨b, o + 1, none⟩) HY.out.1).trans HY.out.2.2⟩
  clear HX7
  generalize (w6.setCell ⟨s, 0, none⟩ (.int .i64 c1)).setCell ⟨s, 1, none⟩ (.string s1) = w7 at *
  obtain ⟨⟨q0, q1⟩, f0, f1⟩ := blk2 HB7.out
  obtain ⟨⟨z0, z1⟩, g0, g1⟩ := blk2 HM.out.z
  cases hc1 : (c1 == 0)
  ·skip
   clear z0 z1 g0 g1
   have q0' := q0
   have q1' := q1
   have HB9 := Lib.hid (HM.out.z.put2b (.int .i64 c1) (.string s1))
   have HX9 := Lib.hid (ext_put2b HM.out.x (show w.heap.size ≤ w.heap.size + 1 by omega) (.int .i64 c1) (.string s1))
   have HE9 : Hid (Blk (put2b w7 (w.heap.size + 1) (.int .i64 c1) (.string s1)) ge 107 #[.slice An nn cn, .slice Ah nh ch, .bool false, .slice Ab nb cb]) := (HE.out.far (p := ⟨w.heap.size + 1, 0, none⟩) (by show ge ≠ w.heap.size + 1; omega) _).far (p := ⟨w.heap.size + 1, 1, none⟩) (by show ge ≠ w.heap.size + 1; omega) _
   have HT9 : Hid (Bt (put2b w7 (w.heap.size + 1) (.int .i64 c1) (.string s1)) ge Ab nb cb) := by
    obtain ⟨k1, bs, k2⟩ := HBT.out
    refine ⟨k1, bs, ?_⟩
    exact own_put2b k2 HM.out.z (by decide) _ _
   obtain ⟨⟨z0, z1⟩, g0, g1⟩ := blk2 HM.out.z
   go_wp2
   exact endBad rfl HB9.out _ rfl rfl fun e he => ⟨he, .slice Ab nb cb, ⟨Ab, nb, cb, rfl, HE9.out, HT9.out⟩, Tp.ext HX9.out ge _⟩
  ·skip
   go_upto_region 6 with (fail)
   clear hc1 q0 q1 f0 f1 z0 z1 g0 g1 HB7
   have HK6 : Hid (∀ w', Ext w7 w' → w'.cell? ⟨ge, 0, none⟩ = some (.slice An nn cn) ∧ w'.cell? ⟨ge, 1, none⟩ = some (.slice Ah nh ch) ∧ w'.cell? ⟨ge, 2, none⟩ = some (.bool false) ∧ w'.cell? ⟨ge, 3, none⟩ = some (.slice Ab nb cb) ∧ w'.cell? ⟨w.heap.size, 2, none⟩ = some (.slice (some ⟨b, o, none⟩) n c) ∧ w'.cell? ⟨b, o, none⟩ = some (.string y) ∧ w'.cell? ⟨b, o + 1, none⟩ = some (.string y1)) := fun w' hx => ⟨(HE.out.ext hx).cell 0, (HE.out.ext hx).cell 1, (HE.out.ext hx).cell 2, (HE.out.ext hx).cell 3, (HM.out.s.ext hx).cell 2, (hx.cell (p := ⟨b, o, none⟩) HY.out.1).trans HY.out.2.1, (hx.cell (p := ⟨b, o + 1, none⟩) HY.out.1).trans HY.out.2.2⟩
   have HRN := Lib.hid ((HNS.out.ext HM.out.x).ext (Ext.refl w7).drew)
   have HRB : Hid (∃ bs, Rd w7.drew w7.drew.heap.size 1 Ab nb (tcells bs)) := by
    obtain ⟨k1, bs, k2⟩ := HBT.out
    exact ⟨bs, (Rd.own k2).ext (Ext.refl w7).drew⟩
   refine wp_region_held_drew (S := (fun w' => w'.cell? ⟨ge, 0, none⟩ = some (.slice An nn cn) ∧ w'.cell? ⟨ge, 1, none⟩ = some (.slice Ah nh ch) ∧ w'.cell? ⟨ge, 2, none⟩ = some (.bool false) ∧ w'.cell? ⟨ge, 3, none⟩ = some (.slice Ab nb cb) ∧ w'.cell? ⟨w.heap.size, 2, none⟩ = some (.slice (some ⟨b, o, none⟩) n c) ∧ w'.cell? ⟨b, o, none⟩ = some (.string y) ∧ w'.cell? ⟨b, o + 1, none⟩ = some (.string y1))) (by kernel_rfl) (HK6.out _ (Ext.refl w7).drew) (fun hHeld => ?_)
   (refine tk 0 (v := ?_) ?_ ?_; rotate_left; · (intro w hSw; (try dsimp only at hSw); go_simp; all_goals with_reducible rfl))
   (try simp only [Act.put, L1, L2, L3, L4, L5, L6])
   (refine tk 1 (v := ?_) ?_ ?_; rotate_left; · (intro w hSw; (try dsimp only at hSw); go_simp; all_goals with_reducible rfl))
   (try simp only [Act.put, L1, L2, L3, L4, L5, L6])
   (refine tk 2 (v := ?_) ?_ ?_; rotate_left; · (intro w hSw; (try dsimp only at hSw); go_simp; all_goals with_reducible rfl))
   (try simp only [Act.put, L1, L2, L3, L4, L5, L6])
   (refine tk 3 (v := ?_) ?_ ?_; rotate_left; · (intro w hSw; (try dsimp only at hSw); go_simp; all_goals with_reducible rfl))
   (try simp only [Act.put, L1, L2, L3, L4, L5, L6])
   (refine tk 4 (v := ?_) ?_ ?_; rotate_left; · (intro w hSw; (try dsimp only at hSw); go_simp; all_goals with_reducible rfl))
   (try simp only [Act.put, L1, L2, L3, L4, L5, L6])
   (refine tk 5 (v := ?_) ?_ ?_; rotate_left; · (intro w hSw; (try dsimp only at hSw); go_simp; all_goals with_reducible rfl))
   (try simp only [Act.put, L1, L2, L3, L4, L5, L6])
   (refine tk 6 (v := ?_) ?_ ?_; rotate_left; · (intro w hSw; (try dsimp only at hSw); go_simp; all_goals with_reducible rfl))
   (try simp only [Act.put, L1, L2, L3, L4, L5, L6])
   (refine tk 7 (v := ?_) ?_ ?_; rotate_left; · (intro w hSw; (try dsimp only at hSw); go_simp; all_goals with_reducible rfl))
   (try simp only [Act.put, L1, L2, L3, L4, L5, L6])
   refine wpAnyH_ready (rs := [8]) (by kernel_rfl) (by simp) ?_
   refine AllReadyH.cons rfl (fun K hK => ?_) AllReadyH.nil
   go_simp
   refine (l1Has_any An nn cn ns y1 _ HRN.out (by omega)).mono ?_
   rintro e8 w8 ⟨⟨b8, rfl⟩, rfl⟩
   refine hK.out _ _ (HK6.out _ (Ext.refl w7).drew) (fun hHeld => ?_)
   clear hK K
   (try simp only [Act.put, L1, L2, L3, L4, L5, L6])
   (refine tk 9 (v := ?_) ?_ ?_; rotate_left; · (intro w hSw; (try dsimp only at hSw); go_simp; all_goals with_reducible rfl))
   (try simp only [Act.put, L1, L2, L3, L4, L5, L6])
   cases b8
   ·skip
    (refine tk 10 (v := ?_) ?_ ?_; rotate_left; · (intro w hSw; (try dsimp only at hSw); go_simp; all_goals with_reducible rfl))
    (try simp only [Act.put, L1, L2, L3, L4, L5, L6])
    (refine tk 11 (v := ?_) ?_ ?_; rotate_left; · (intro w hSw; (try dsimp only at hSw); go_simp; all_goals with_reducible rfl))
    (try simp only [Act.put, L1, L2, L3, L4, L5, L6])
    (refine tk 12 (v := ?_) ?_ ?_; rotate_left; · (intro w hSw; (try dsimp only at hSw); go_simp; all_goals with_reducible rfl))
    (try simp only [Act.put, L1, L2, L3, L4, L5, L6])
    (refine tk 13 (v := ?_) ?_ ?_; rotate_left; · (intro w hSw; (try dsimp only at hSw); go_simp; all_goals with_reducible rfl))
    (try simp only [Act.put, L1, L2, L3, L4, L5, L6])
    (refine tk 14 (v := ?_) ?_ ?_; rotate_left; · (intro w hSw; (try dsimp only at hSw); go_simp; all_goals with_reducible rfl))
    (try simp only [Act.put, L1, L2, L3, L4, L5, L6])
    (refine tk 15 (v := ?_) ?_ ?_; rotate_left; · (intro w hSw; (try dsimp only at hSw); go_simp; all_goals with_reducible rfl))
    (try simp only [Act.put, L1, L2, L3, L4, L5, L6])
    (refine tk 16 (v := ?_) ?_ ?_; rotate_left; · (intro w hSw; (try dsimp only at hSw); go_simp; all_goals with_reducible rfl))
    (try simp only [Act.put, L1, L2, L3, L4, L5, L6])
    (refine tk 17 (v := ?_) ?_ ?_; rotate_left; · (intro w hSw; (try dsimp only at hSw); go_simp; all_goals with_reducible rfl))
    (try simp only [Act.put, L1, L2, L3, L4, L5, L6])
    obtain ⟨bs, hbs⟩ := HRB.out
    refine wpAnyH_ready (rs := [18]) (by kernel_rfl) (by simp) ?_
    refine AllReadyH.cons rfl (fun K hK => ?_) AllReadyH.nil
    go_simp
    refine (l1Has_any Ab nb cb bs y1 _ hbs (by have := HBT.out.1; omega)).mono ?_
    rintro e8 w8 ⟨⟨b8, rfl⟩, rfl⟩
    refine hK.out _ _ (HK6.out _ (Ext.refl w7).drew) (fun hHeld => ?_)
    clear hK K
    (try simp only [Act.put, L1, L2, L3, L4, L5, L6])
    (refine tk 19 (v := ?_) ?_ ?_; rotate_left; · (intro w hSw; (try dsimp only at hSw); go_simp; all_goals with_reducible rfl))
    (try simp only [Act.put, L1, L2, L3, L4, L5, L6])
    (refine wpAnyH_done (by kernel_rfl) ?_ _)
    clear hHeld hbs
    have HX8 : Hid (Ext w7 w7.drew) := (Ext.refl w7).drew
    replace HM := Lib.hid (HM.out.ext HX8.out)
    replace HE := Lib.hid (HE.out.ext HX8.out)
    replace HBT := Lib.hid (HBT.out.ext HX8.out)
    replace HY : Hid (b < w7.drew.heap.size ∧ w7.drew.cell? ⟨b, o, none⟩ = some (.string y) ∧ w7.drew.cell? ⟨b, o + 1, none⟩ = some (.string y1)) := ⟨Nat.lt_of_lt_of_le HY.out.1 HX8.out.size, (HX8.out.cell (p := ⟨b, o, none⟩) HY.out.1).trans HY.out.2.1, (HX8.out.cell (p := ⟨b, o + 1, none⟩) HY.out.1).trans HY.out.2.2⟩
    clear HX8 HK6 HRN HRB
    generalize w7.drew = w8 at *
    have s2 : w8.cell? ⟨w.heap.size, 2, none⟩ = some (.slice (some ⟨b, o, none⟩) n c) := HM.out.s.cell 2
    have e3 : w8.cell? ⟨ge, 3, none⟩ = some (.slice Ab nb cb) := HE.out.cell 3
    have hy1 := HY.out.2.2
    cases b8
    ·skip
     by_cases h3 : nb = 3
     ·skip
      subst h3
      have HB9 := Lib.hid (HM.out.z.put2b (.int .i64 8) (.string y1))
      have HX9 := Lib.hid (ext_put2b HM.out.x (show w.heap.size ≤ w.heap.size + 1 by omega) (.int .i64 8) (.string y1))
      have HE9 : Hid (Blk (put2b w8 (w.heap.size + 1) (.int .i64 8) (.string y1)) ge 107 #[.slice An nn cn, .slice Ah nh ch, .bool false, .slice Ab 3 cb]) := (HE.out.far (p := ⟨w.heap.size + 1, 0, none⟩) (by show ge ≠ w.heap.size + 1; omega) _).far (p := ⟨w.heap.size + 1, 1, none⟩) (by show ge ≠ w.heap.size + 1; omega) _
      have HT9 : Hid (Bt (put2b w8 (w.heap.size + 1) (.int .i64 8) (.string y1)) ge Ab 3 cb) := by
       obtain ⟨k1, bs, k2⟩ := HBT.out
       refine ⟨k1, bs, ?_⟩
       exact own_put2b k2 HM.out.z (by decide) _ _
      obtain ⟨⟨q0, q1⟩, f0, f1⟩ := blk2 HM.out.z
      go_wp2
      exact endBad rfl HB9.out _ rfl rfl fun e he => ⟨he, .slice Ab 3 cb, ⟨Ab, 3, cb, rfl, HE9.out, HT9.out⟩, Tp.ext HX9.out ge _⟩
     ·skip
      have h3' : ((nb : Int) == 3) = false := by simp; omega
      go_upto_region 10 with (fail)
      clear s2 e3 hy1 h3'
      have HKA : Hid (∀ w', Ext w8 w' → w'.cell? ⟨ge, 0, none⟩ = some (.slice An nn cn) ∧ w'.cell? ⟨ge, 1, none⟩ = some (.slice Ah nh ch) ∧ w'.cell? ⟨ge, 2, none⟩ = some (.bool false) ∧ w'.cell? ⟨w.heap.size, 2, none⟩ = some (.slice (some ⟨b, o, none⟩) n c) ∧ w'.cell? ⟨b, o, none⟩ = some (.string y) ∧ w'.cell? ⟨b, o + 1, none⟩ = some (.string y1)) := fun w' hx => ⟨(HE.out.ext hx).cell 0, (HE.out.ext hx).cell 1, (HE.out.ext hx).cell 2, (HM.out.s.ext hx).cell 2, (hx.cell (p := ⟨b, o, none⟩) HY.out.1).trans HY.out.2.1, (hx.cell (p := ⟨b, o + 1, none⟩) HY.out.1).trans HY.out.2.2⟩
      refine wp_region_held_drew (S := (fun w' => w'.cell? ⟨ge, 0, none⟩ = some (.slice An nn cn) ∧ w'.cell? ⟨ge, 1, none⟩ = some (.slice Ah nh ch) ∧ w'.cell? ⟨ge, 2, none⟩ = some (.bool false) ∧ w'.cell? ⟨w.heap.size, 2, none⟩ = some (.slice (some ⟨b, o, none⟩) n c) ∧ w'.cell? ⟨b, o, none⟩ = some (.string y) ∧ w'.cell? ⟨b, o + 1, none⟩ = some (.string y1))) (by kernel_rfl) (HKA.out _ (Ext.refl w8).drew) (fun hHeld => ?_)
      (refine tk 0 (v := ?_) ?_ ?_; rotate_left; · (intro w hSw; (try dsimp only at hSw); go_simp; all_goals with_reducible rfl))
      (try simp only [Act.put, L1, L2, L3, L4, L5, L6])
      (refine tk 1 (v := ?_) ?_ ?_; rotate_left; · (intro w hSw; (try dsimp only at hSw); go_simp; all_goals with_reducible rfl))
      (try simp only [Act.put, L1, L2, L3, L4, L5, L6])
      (refine tk 2 (v := ?_) ?_ ?_; rotate_left; · (intro w hSw; (try dsimp only at hSw); go_simp; all_goals with_reducible rfl))
      (try simp only [Act.put, L1, L2, L3, L4, L5, L6])
      (refine tk 3 (v := ?_) ?_ ?_; rotate_left; · (intro w hSw; (try dsimp only at hSw); go_simp; all_goals with_reducible rfl))
      (try simp only [Act.put, L1, L2, L3, L4, L5, L6])
      (refine tk 5 (v := ?_) ?_ ?_; rotate_left; · (intro w hSw; (try dsimp only at hSw); go_simp; all_goals with_reducible rfl))
      (try simp only [Act.put, L1, L2, L3, L4, L5, L6])
      (refine tk 6 (v := ?_) ?_ ?_; rotate_left; · (intro w hSw; (try dsimp only at hSw); go_simp; all_goals with_reducible rfl))
      (try simp only [Act.put, L1, L2, L3, L4, L5, L6])
      (refine tk 7 (v := ?_) ?_ ?_; rotate_left; · (intro w hSw; (try dsimp only at hSw); go_simp; all_goals with_reducible rfl))
      (try simp only [Act.put, L1, L2, L3, L4, L5, L6])
      (refine tk 8 (v := ?_) ?_ ?_; rotate_left; · (intro w hSw; (try dsimp only at hSw); go_simp; all_goals with_reducible rfl))
      (try simp only [Act.put, L1, L2, L3, L4, L5, L6])
      have e3a : w8.drew.cell? ⟨ge, 3, none⟩ = some (.slice Ab nb cb) := (HE.out.ext (Ext.refl w8).drew).cell 3
      refine wpAnyH_ready (rs := [4, 9]) (by kernel_rfl) (by simp) ?_
      refine AllReadyH.cons rfl (fun K hK => ?_) (AllReadyH.cons rfl (fun K hK => ?_) AllReadyH.nil)
      ·skip
       go_simp
       refine hK.out _ _ (HKA.out _ (Ext.refl w8).drew) (fun hHeld => ?_)
       clear hK K
       (try simp only [Act.put, L1, L2, L3, L4, L5, L6])
       refine wpAnyH_ready (rs := [9]) (by kernel_rfl) (by simp) ?_
       refine AllReadyH.cons rfl (fun K hK => ?_) AllReadyH.nil
       go_simp
       refine hK.out _ _ (HKA.out _ ((Ext.refl w8).drew.alloc _)) (fun hHeld => ?_)
       clear hK K
       (try simp only [Act.put, L1, L2, L3, L4, L5, L6])
       obtain ⟨k1, bs, k2⟩ := HBT.out
       have HXA : Hid (Ext w8 (w8.drew.alloc (.cells #[.string y1] 9))) := (Ext.refl w8).drew.alloc _
       have k3 : Rd (w8.drew.alloc (.cells #[.string y1] 9)) (w8.drew.alloc (.cells #[.string y1] 9)).heap.size 1 (some ⟨w8.heap.size, 0, none⟩) 1 (tcells [y1]) := rd_new w8.drew #[.string y1] _ 1 _ (by simp [tcell]) (by simp [tcell])
       have hcw : (cutW (w8.drew.alloc (.cells #[.string y1] 9)) (ge + 1)).heap.size = ge + 1 := cutW_size (by have := HXA.out.size; have := HM.out.x.size; omega)
       refine wpAnyH_ready (rs := [10]) (by kernel_rfl) (by simp) ?_
       refine AllReadyH.cons rfl (fun K hK => ?_) AllReadyH.nil
       refine stepStrS (w := (w8.drew.alloc (.cells #[.string y1] 9))) (w0 := cutW (w8.drew.alloc (.cells #[.string y1] 9)) (ge + 1)) rfl _ _ rfl (.slice Ab nb cb) nb bs rfl (by rw [hcw]; exact own_ext k2 HXA.out) (cutW_ext (by have := HXA.out.size; have := HM.out.x.size; omega)) (some ⟨w8.heap.size, 0, none⟩) 1 1 [y1] rfl k3 (by omega) ?_
       intro v9 w9 g1 g2 g3 g4
       rw [hcw] at g1
       obtain ⟨A9, c9, rfl, -⟩ := own_slice g1
       have HGB : Hid (∀ q, q < w8.heap.size → (Value.slice Ab nb cb).ownBlock ≠ some q → w9.heap[q]? = w8.heap[q]?) := fun q hq hne => (g3.block q (by have := HXA.out.size; omega) (fun e => hne e.symm)).trans (HXA.out.block q hq)
       have HGS : Hid (w9.os = w8.os ∧ w9.tape = w8.tape ∧ w9.output = w8.output ∧ w8.heap.size ≤ w9.heap.size) := ⟨g3.os.trans HXA.out.os, g3.tape.trans HXA.out.tape, g3.output.trans HXA.out.output, Nat.le_trans HXA.out.size g3.size⟩
       have HOW : Hid ((Value.slice A9 (nb + 1) c9).ownBlock = (Value.slice Ab nb cb).ownBlock ∨ ∃ q, (Value.slice A9 (nb + 1) c9).ownBlock = some q ∧ w8.heap.size ≤ q) := by
        rcases g4 with g4 | g4
        ·exact .inl g4
        ·exact .inr ⟨_, g4, HXA.out.size⟩
       have HZ9 : Hid (Blk w9 (w.heap.size + 1) 103 #[.int .i64 0, .string ⟨#[]⟩]) := (HGB.out _ HM.out.z.lt (own_ne k2 HM.out.z (by decide))).trans HM.out.z
       have HE9 : Hid (Blk w9 ge 107 #[.slice An nn cn, .slice Ah nh ch, .bool false, .slice Ab nb cb]) := (HGB.out _ HE.out.lt (own_ne k2 HE.out (by decide))).trans HE.out
       have HS9 : Hid (Blk w9 w.heap.size 69 #[.int .i64 xk, .string wd, .slice (some ⟨b, o, none⟩) n c, .int .i64 cnt, .slice B m e]) := (HGB.out _ HM.out.s.lt (own_ne k2 HM.out.s (by decide))).trans HM.out.s
       have HT9 : Hid (Tp w w9 ge (.slice Ab nb cb) (.slice A9 (nb + 1) c9)) := ⟨HGS.out.1.trans HM.out.x.os, HGS.out.2.1.trans HM.out.x.tape, HGS.out.2.2.1.trans HM.out.x.output, Nat.le_trans HM.out.x.size HGS.out.2.2.2, fun q hq _ hne => (HGB.out q (Nat.lt_of_lt_of_le hq HM.out.x.size) hne).trans (HM.out.x.block q hq), by
        rcases HOW.out with h9 | ⟨q, h9, h8⟩
        ·exact .inl h9
        ·exact .inr ⟨q, h9, Nat.le_trans HM.out.x.size h8⟩⟩
       have HR9 : Hid (w9.ownsRow (ge + 1) 9 1 (.slice A9 (nb + 1) c9) (nb + 1) (tcells (bs ++ [y1]))) := g1
       clear g1 g2 g3 g4 k3 hcw
       have hbne : (Value.slice Ab nb cb).ownBlock ≠ some b := fun e => by
        have := (k2.lt b e).1
        omega
       have HS5 : Hid (w9.cell? ⟨ge, 0, none⟩ = some (.slice An nn cn) ∧ w9.cell? ⟨ge, 1, none⟩ = some (.slice Ah nh ch) ∧ w9.cell? ⟨ge, 2, none⟩ = some (.bool false) ∧ w9.cell? ⟨w.heap.size, 2, none⟩ = some (.slice (some ⟨b, o, none⟩) n c) ∧ w9.cell? ⟨b, o, none⟩ = some (.string y) ∧ w9.cell? ⟨b, o + 1, none⟩ = some (.string y1)) := ⟨HE9.out.cell 0, HE9.out.cell 1, HE9.out.cell 2, HS9.out.cell 2, (World.cell?_of_block (HGB.out b HY.out.1 hbne)).trans HY.out.2.1, (World.cell?_of_block (HGB.out b HY.out.1 hbne)).trans HY.out.2.2⟩
       clear k2
       refine hK.out _ _ (HS5.out) (fun hHeld => ?_)
       clear hK K
       (try simp only [Act.put, L1, L2, L3, L4, L5, L6])
       (refine tk 11 (v := ?_) ?_ ?_; rotate_left; · (intro w hSw; (try dsimp only at hSw); go_simp; all_goals with_reducible rfl))
       (try simp only [Act.put, L1, L2, L3, L4, L5, L6])
       (refine tk 12 (v := ?_) ?_ ?_; rotate_left; · (intro w hSw; (try dsimp only at hSw); go_simp; all_goals with_reducible rfl))
       (try simp only [Act.put, L1, L2, L3, L4, L5, L6])
       refine wpAnyH_ready (rs := [13]) (by kernel_rfl) (by simp) ?_
       refine AllReadyH.cons rfl (fun K hK => ?_) AllReadyH.nil
       have e3 := HE9.out.cell 3
       have f3 := HE9.out.frozen 3
       change w9.cell? ⟨ge, 3, none⟩ = some (.slice Ab nb cb) at e3
       go_simp
       have HS6 : Hid ((w9.setCell ⟨ge, 3, none⟩ (.slice A9 (nb + 1) c9)).cell? ⟨ge, 0, none⟩ = some (.slice An nn cn) ∧ (w9.setCell ⟨ge, 3, none⟩ (.slice A9 (nb + 1) c9)).cell? ⟨ge, 1, none⟩ = some (.slice Ah nh ch) ∧ (w9.setCell ⟨ge, 3, none⟩ (.slice A9 (nb + 1) c9)).cell? ⟨ge, 2, none⟩ = some (.bool false) ∧ (w9.setCell ⟨ge, 3, none⟩ (.slice A9 (nb + 1) c9)).cell? ⟨w.heap.size, 2, none⟩ = some (.slice (some ⟨b, o, none⟩) n c) ∧ (w9.setCell ⟨ge, 3, none⟩ (.slice A9 (nb + 1) c9)).cell? ⟨b, o, none⟩ = some (.string y) ∧ (w9.setCell ⟨ge, 3, none⟩ (.slice A9 (nb + 1) c9)).cell? ⟨b, o + 1, none⟩ = some (.string y1)) := ⟨(HE9.out.set_ 3 _).cell 0, (HE9.out.set_ 3 _).cell 1, (HE9.out.set_ 3 _).cell 2, (HS9.out.far (p := ⟨ge, 3, none⟩) (by show w.heap.size ≠ ge; omega) _).cell 2, (World.cell?_of_block (Below.heap_setCell w9 ⟨ge, 3, none⟩ _ b (by show b ≠ ge; omega))).trans HS5.out.2.2.2.2.1, (World.cell?_of_block (Below.heap_setCell w9 ⟨ge, 3, none⟩ _ b (by show b ≠ ge; omega))).trans HS5.out.2.2.2.2.2⟩
       refine hK.out _ _ (HS6.out) (fun hHeld => ?_)
       clear hK K
       (try simp only [Act.put, L1, L2, L3, L4, L5, L6])
       (refine wpAnyH_done (by kernel_rfl) ?_ _)
       have HE10 : Hid (Blk (w9.setCell ⟨ge, 3, none⟩ (.slice A9 (nb + 1) c9)) ge 107 #[.slice An nn cn, .slice Ah nh ch, .bool false, .slice A9 (nb + 1) c9]) := HE9.out.set_ 3 _
       have HZ10 : Hid (Blk (w9.setCell ⟨ge, 3, none⟩ (.slice A9 (nb + 1) c9)) (w.heap.size + 1) 103 #[.int .i64 0, .string ⟨#[]⟩]) := HZ9.out.far (p := ⟨ge, 3, none⟩) (by show w.heap.size + 1 ≠ ge; omega) _
       have HR10 : Hid ((w9.setCell ⟨ge, 3, none⟩ (.slice A9 (nb + 1) c9)).ownsRow (ge + 1) 9 1 (.slice A9 (nb + 1) c9) (nb + 1) (tcells (bs ++ [y1]))) := own_far HR9.out HE9.out (by decide) 3 _
       have HT10 : Hid (Tp w (w9.setCell ⟨ge, 3, none⟩ (.slice A9 (nb + 1) c9)) ge (.slice Ab nb cb) (.slice A9 (nb + 1) c9)) := ⟨HT9.out.os, HT9.out.tape, HT9.out.output, by have h9 := HT9.out.size; simpa [World.setCell] using h9, fun q hq h1 h2 => (Below.heap_setCell w9 ⟨ge, 3, none⟩ _ q h1).trans (HT9.out.keep q hq h1 h2), HT9.out.own⟩
       clear hHeld e3 f3 HS5 HS6 HE9 HZ9 HR9 HT9 HS9 HGB HGS HOW
       generalize w9.setCell ⟨ge, 3, none⟩ (.slice A9 (nb + 1) c9) = wt at *
       have HB9 := Lib.hid (HZ10.out.put2b (.int .i64 0) (.string ⟨#[]⟩))
       have HE9 : Hid (Blk (put2b wt (w.heap.size + 1) (.int .i64 0) (.string ⟨#[]⟩)) ge 107 #[.slice An nn cn, .slice Ah nh ch, .bool false, .slice A9 (nb + 1) c9]) := (HE10.out.far (p := ⟨w.heap.size + 1, 0, none⟩) (by show ge ≠ w.heap.size + 1; omega) _).far (p := ⟨w.heap.size + 1, 1, none⟩) (by show ge ≠ w.heap.size + 1; omega) _
       have HR9 := Lib.hid (own_put2b HR10.out HZ10.out (by decide) (.int .i64 0) (.string ⟨#[]⟩))
       have HT9 : Hid (Tp w (put2b wt (w.heap.size + 1) (.int .i64 0) (.string ⟨#[]⟩)) ge (.slice Ab nb cb) (.slice A9 (nb + 1) c9)) := ⟨HT10.out.os, HT10.out.tape, HT10.out.output, by have h9 := HT10.out.size; simpa [put2b, World.setCell] using h9, fun q hq h1 h2 => ((Below.heap_setCell (wt.setCell ⟨w.heap.size + 1, 0, none⟩ (.int .i64 0)) ⟨w.heap.size + 1, 1, none⟩ _ q (by show q ≠ w.heap.size + 1; omega)).trans (Below.heap_setCell wt ⟨w.heap.size + 1, 0, none⟩ _ q (by show q ≠ w.heap.size + 1; omega))).trans (HT10.out.keep q hq h1 h2), HT10.out.own⟩
       obtain ⟨⟨q0, q1⟩, f0, f1⟩ := blk2 HZ10.out
       go_wp2
       exact endBad rfl HB9.out _ rfl rfl fun e he => ⟨he, .slice A9 (nb + 1) c9, ⟨A9, nb + 1, c9, rfl, HE9.out, by omega, bs ++ [y1], HR9.out⟩, HT9.out⟩
      ·skip
       go_simp
       refine hK.out _ _ (HKA.out _ ((Ext.refl w8).alloc _).drew) (fun hHeld => ?_)
       clear hK K
       (try simp only [Act.put, L1, L2, L3, L4, L5, L6])
       have e3b : (w8.alloc (.cells #[.string y1] 9)).cell? ⟨ge, 3, none⟩ = some (.slice Ab nb cb) := (HE.out.ext ((Ext.refl w8).alloc _)).cell 3
       refine wpAnyH_ready (rs := [4]) (by kernel_rfl) (by simp) ?_
       refine AllReadyH.cons rfl (fun K hK => ?_) AllReadyH.nil
       go_simp
       refine hK.out _ _ (HKA.out _ ((Ext.refl w8).drew.alloc _)) (fun hHeld => ?_)
       clear hK K
       (try simp only [Act.put, L1, L2, L3, L4, L5, L6])
       obtain ⟨k1, bs, k2⟩ := HBT.out
       have HXA : Hid (Ext w8 (w8.drew.alloc (.cells #[.string y1] 9))) := (Ext.refl w8).drew.alloc _
       have k3 : Rd (w8.drew.alloc (.cells #[.string y1] 9)) (w8.drew.alloc (.cells #[.string y1] 9)).heap.size 1 (some ⟨w8.heap.size, 0, none⟩) 1 (tcells [y1]) := rd_new w8.drew #[.string y1] _ 1 _ (by simp [tcell]) (by simp [tcell])
       have hcw : (cutW (w8.drew.alloc (.cells #[.string y1] 9)) (ge + 1)).heap.size = ge + 1 := cutW_size (by have := HXA.out.size; have := HM.out.x.size; omega)
       refine wpAnyH_ready (rs := [10]) (by kernel_rfl) (by simp) ?_
       refine AllReadyH.cons rfl (fun K hK => ?_) AllReadyH.nil
       refine stepStrS (w := (w8.drew.alloc (.cells #[.string y1] 9))) (w0 := cutW (w8.drew.alloc (.cells #[.string y1] 9)) (ge + 1)) rfl _ _ rfl (.slice Ab nb cb) nb bs rfl (by rw [hcw]; exact own_ext k2 HXA.out) (cutW_ext (by have := HXA.out.size; have := HM.out.x.size; omega)) (some ⟨w8.heap.size, 0, none⟩) 1 1 [y1] rfl k3 (by omega) ?_
       intro v9 w9 g1 g2 g3 g4
       rw [hcw] at g1
       obtain ⟨A9, c9, rfl, -⟩ := own_slice g1
       have HGB : Hid (∀ q, q < w8.heap.size → (Value.slice Ab nb cb).ownBlock ≠ some q → w9.heap[q]? = w8.heap[q]?) := fun q hq hne => (g3.block q (by have := HXA.out.size; omega) (fun e => hne e.symm)).trans (HXA.out.block q hq)
       have HGS : Hid (w9.os = w8.os ∧ w9.tape = w8.tape ∧ w9.output = w8.output ∧ w8.heap.size ≤ w9.heap.size) := ⟨g3.os.trans HXA.out.os, g3.tape.trans HXA.out.tape, g3.output.trans HXA.out.output, Nat.le_trans HXA.out.size g3.size⟩
       have HOW : Hid ((Value.slice A9 (nb + 1) c9).ownBlock = (Value.slice Ab nb cb).ownBlock ∨ ∃ q, (Value.slice A9 (nb + 1) c9).ownBlock = some q ∧ w8.heap.size ≤ q) := by
        rcases g4 with g4 | g4
        ·exact .inl g4
        ·exact .inr ⟨_, g4, HXA.out.size⟩
       have HZ9 : Hid (Blk w9 (w.heap.size + 1) 103 #[.int .i64 0, .string ⟨#[]⟩]) := (HGB.out _ HM.out.z.lt (own_ne k2 HM.out.z (by decide))).trans HM.out.z
       have HE9 : Hid (Blk w9 ge 107 #[.slice An nn cn, .slice Ah nh ch, .bool false, .slice Ab nb cb]) := (HGB.out _ HE.out.lt (own_ne k2 HE.out (by decide))).trans HE.out
       have HS9 : Hid (Blk w9 w.heap.size 69 #[.int .i64 xk, .string wd, .slice (some ⟨b, o, none⟩) n c, .int .i64 cnt, .slice B m e]) := (HGB.out _ HM.out.s.lt (own_ne k2 HM.out.s (by decide))).trans HM.out.s
       have HT9 : Hid (Tp w w9 ge (.slice Ab nb cb) (.slice A9 (nb + 1) c9)) := ⟨HGS.out.1.trans HM.out.x.os, HGS.out.2.1.trans HM.out.x.tape, HGS.out.2.2.1.trans HM.out.x.output, Nat.le_trans HM.out.x.size HGS.out.2.2.2, fun q hq _ hne => (HGB.out q (Nat.lt_of_lt_of_le hq HM.out.x.size) hne).trans (HM.out.x.block q hq), by
        rcases HOW.out with h9 | ⟨q, h9, h8⟩
        ·exact .inl h9
        ·exact .inr ⟨q, h9, Nat.le_trans HM.out.x.size h8⟩⟩
       have HR9 : Hid (w9.ownsRow (ge + 1) 9 1 (.slice A9 (nb + 1) c9) (nb + 1) (tcells (bs ++ [y1]))) := g1
       clear g1 g2 g3 g4 k3 hcw
       have hbne : (Value.slice Ab nb cb).ownBlock ≠ some b := fun e => by
        have := (k2.lt b e).1
        omega
       have HS5 : Hid (w9.cell? ⟨ge, 0, none⟩ = some (.slice An nn cn) ∧ w9.cell? ⟨ge, 1, none⟩ = some (.slice Ah nh ch) ∧ w9.cell? ⟨ge, 2, none⟩ = some (.bool false) ∧ w9.cell? ⟨w.heap.size, 2, none⟩ = some (.slice (some ⟨b, o, none⟩) n c) ∧ w9.cell? ⟨b, o, none⟩ = some (.string y) ∧ w9.cell? ⟨b, o + 1, none⟩ = some (.string y1)) := ⟨HE9.out.cell 0, HE9.out.cell 1, HE9.out.cell 2, HS9.out.cell 2, (World.cell?_of_block (HGB.out b HY.out.1 hbne)).trans HY.out.2.1, (World.cell?_of_block (HGB.out b HY.out.1 hbne)).trans HY.out.2.2⟩
       clear k2
       refine hK.out _ _ (HS5.out) (fun hHeld => ?_)
       clear hK K
       (try simp only [Act.put, L1, L2, L3, L4, L5, L6])
       (refine tk 11 (v := ?_) ?_ ?_; rotate_left; · (intro w hSw; (try dsimp only at hSw); go_simp; all_goals with_reducible rfl))
       (try simp only [Act.put, L1, L2, L3, L4, L5, L6])
       (refine tk 12 (v := ?_) ?_ ?_; rotate_left; · (intro w hSw; (try dsimp only at hSw); go_simp; all_goals with_reducible rfl))
       (try simp only [Act.put, L1, L2, L3, L4, L5, L6])
       refine wpAnyH_ready (rs := [13]) (by kernel_rfl) (by simp) ?_
       refine AllReadyH.cons rfl (fun K hK => ?_) AllReadyH.nil
       have e3 := HE9.out.cell 3
       have f3 := HE9.out.frozen 3
       change w9.cell? ⟨ge, 3, none⟩ = some (.slice Ab nb cb) at e3
       go_simp
       have HS6 : Hid ((w9.setCell ⟨ge, 3, none⟩ (.slice A9 (nb + 1) c9)).cell? ⟨ge, 0, none⟩ = some (.slice An nn cn) ∧ (w9.setCell ⟨ge, 3, none⟩ (.slice A9 (nb + 1) c9)).cell? ⟨ge, 1, none⟩ = some (.slice Ah nh ch) ∧ (w9.setCell ⟨ge, 3, none⟩ (.slice A9 (nb + 1) c9)).cell? ⟨ge, 2, none⟩ = some (.bool false) ∧ (w9.setCell ⟨ge, 3, none⟩ (.slice A9 (nb + 1) c9)).cell? ⟨w.heap.size, 2, none⟩ = some (.slice (some ⟨b, o, none⟩) n c) ∧ (w9.setCell ⟨ge, 3, none⟩ (.slice A9 (nb + 1) c9)).cell? ⟨b, o, none⟩ = some (.string y) ∧ (w9.setCell ⟨ge, 3, none⟩ (.slice A9 (nb + 1) c9)).cell? ⟨b, o + 1, none⟩ = some (.string y1)) := ⟨(HE9.out.set_ 3 _).cell 0, (HE9.out.set_ 3 _).cell 1, (HE9.out.set_ 3 _).cell 2, (HS9.out.far (p := ⟨ge, 3, none⟩) (by show w.heap.size ≠ ge; omega) _).cell 2, (World.cell?_of_block (Below.heap_setCell w9 ⟨ge, 3, none⟩ _ b (by show b ≠ ge; omega))).trans HS5.out.2.2.2.2.1, (World.cell?_of_block (Below.heap_setCell w9 ⟨ge, 3, none⟩ _ b (by show b ≠ ge; omega))).trans HS5.out.2.2.2.2.2⟩
       refine hK.out _ _ (HS6.out) (fun hHeld => ?_)
       clear hK K
       (try simp only [Act.put, L1, L2, L3, L4, L5, L6])
       (refine wpAnyH_done (by kernel_rfl) ?_ _)
       have HE10 : Hid (Blk (w9.setCell ⟨ge, 3, none⟩ (.slice A9 (nb + 1) c9)) ge 107 #[.slice An nn cn, .slice Ah nh ch, .bool false, .slice A9 (nb + 1) c9]) := HE9.out.set_ 3 _
       have HZ10 : Hid (Blk (w9.setCell ⟨ge, 3, none⟩ (.slice A9 (nb + 1) c9)) (w.heap.size + 1) 103 #[.int .i64 0, .string ⟨#[]⟩]) := HZ9.out.far (p := ⟨ge, 3, none⟩) (by show w.heap.size + 1 ≠ ge; omega) _
       have HR10 : Hid ((w9.setCell ⟨ge, 3, none⟩ (.slice A9 (nb + 1) c9)).ownsRow (ge + 1) 9 1 (.slice A9 (nb + 1) c9) (nb + 1) (tcells (bs ++ [y1]))) := own_far HR9.out HE9.out (by decide) 3 _
       have HT10 : Hid (Tp w (w9.setCell ⟨ge, 3, none⟩ (.slice A9 (nb + 1) c9)) ge (.slice Ab nb cb) (.slice A9 (nb + 1) c9)) := ⟨HT9.out.os, HT9.out.tape, HT9.out.output, by have h9 := HT9.out.size; simpa [World.setCell] using h9, fun q hq h1 h2 => (Below.heap_setCell w9 ⟨ge, 3, none⟩ _ q h1).trans (HT9.out.keep q hq h1 h2), HT9.out.own⟩
       clear hHeld e3 f3 HS5 HS6 HE9 HZ9 HR9 HT9 HS9 HGB HGS HOW
       generalize w9.setCell ⟨ge, 3, none⟩ (.slice A9 (nb + 1) c9) = wt at *
       have HB9 := Lib.hid (HZ10.out.put2b (.int .i64 0) (.string ⟨#[]⟩))
       have HE9 : Hid (Blk (put2b wt (w.heap.size + 1) (.int .i64 0) (.string ⟨#[]⟩)) ge 107 #[.slice An nn cn, .slice Ah nh ch, .bool false, .slice A9 (nb + 1) c9]) := (HE10.out.far (p := ⟨w.heap.size + 1, 0, none⟩) (by show ge ≠ w.heap.size + 1; omega) _).far (p := ⟨w.heap.size + 1, 1, none⟩) (by show ge ≠ w.heap.size + 1; omega) _
       have HR9 := Lib.hid (own_put2b HR10.out HZ10.out (by decide) (.int .i64 0) (.string ⟨#[]⟩))
       have HT9 : Hid (Tp w (put2b wt (w.heap.size + 1) (.int .i64 0) (.string ⟨#[]⟩)) ge (.slice Ab nb cb) (.slice A9 (nb + 1) c9)) := ⟨HT10.out.os, HT10.out.tape, HT10.out.output, by have h9 := HT10.out.size; simpa [put2b, World.setCell] using h9, fun q hq h1 h2 => ((Below.heap_setCell (wt.setCell ⟨w.heap.size + 1, 0, none⟩ (.int .i64 0)) ⟨w.heap.size + 1, 1, none⟩ _ q (by show q ≠ w.heap.size + 1; omega)).trans (Below.heap_setCell wt ⟨w.heap.size + 1, 0, none⟩ _ q (by show q ≠ w.heap.size + 1; omega))).trans (HT10.out.keep q hq h1 h2), HT10.out.own⟩
       obtain ⟨⟨q0, q1⟩, f0, f1⟩ := blk2 HZ10.out
       go_wp2
       exact endBad rfl HB9.out _ rfl rfl fun e he => ⟨he, .slice A9 (nb + 1) c9, ⟨A9, nb + 1, c9, rfl, HE9.out, by omega, bs ++ [y1], HR9.out⟩, HT9.out⟩
    ·skip
     have HB9 := Lib.hid (HM.out.z.put2b (.int .i64 1) (.string y1))
     have HX9 := Lib.hid (ext_put2b HM.out.x (show w.heap.size ≤ w.heap.size + 1 by omega) (.int .i64 1) (.string y1))
     have HE9 : Hid (Blk (put2b w8 (w.heap.size + 1) (.int .i64 1) (.string y1)) ge 107 #[.slice An nn cn, .slice Ah nh ch, .bool false, .slice Ab nb cb]) := (HE.out.far (p := ⟨w.heap.size + 1, 0, none⟩) (by show ge ≠ w.heap.size + 1; omega) _).far (p := ⟨w.heap.size + 1, 1, none⟩) (by show ge ≠ w.heap.size + 1; omega) _
     have HT9 : Hid (Bt (put2b w8 (w.heap.size + 1) (.int .i64 1) (.string y1)) ge Ab nb cb) := by
      obtain ⟨k1, bs, k2⟩ := HBT.out
      refine ⟨k1, bs, ?_⟩
      exact own_put2b k2 HM.out.z (by decide) _ _
     obtain ⟨⟨q0, q1⟩, f0, f1⟩ := blk2 HM.out.z
     go_wp2
     exact endBad rfl HB9.out _ rfl rfl fun e he => ⟨he, .slice Ab nb cb, ⟨Ab, nb, cb, rfl, HE9.out, HT9.out⟩, Tp.ext HX9.out ge _⟩
   ·skip
    (refine wpAnyH_take (i := 10) rfl (by kernel_rfl) (by kernel_rfl) (by kernel_rfl) (fun _ _ _ h => h) (Or.inr ⟨by first | kernel_rfl | rfl, rfl⟩) (by assumption) ?_; (try simp only [Act.put, L1, L2, L3, L4, L5, L6]))
    (refine wpAnyH_take (i := 11) rfl (by kernel_rfl) (by kernel_rfl) (by kernel_rfl) (fun _ _ _ h => h) (Or.inr ⟨by first | kernel_rfl | rfl, rfl⟩) (by assumption) ?_; (try simp only [Act.put, L1, L2, L3, L4, L5, L6]))
    (refine wpAnyH_take (i := 12) rfl (by kernel_rfl) (by kernel_rfl) (by kernel_rfl) (fun _ _ _ h => h) (Or.inr ⟨by first | kernel_rfl | rfl, rfl⟩) (by assumption) ?_; (try simp only [Act.put, L1, L2, L3, L4, L5, L6]))
    (refine wpAnyH_take (i := 13) rfl (by kernel_rfl) (by kernel_rfl) (by kernel_rfl) (fun _ _ _ h => h) (Or.inr ⟨by first | kernel_rfl | rfl, rfl⟩) (by assumption) ?_; (try simp only [Act.put, L1, L2, L3, L4, L5, L6]))
    (refine wpAnyH_take (i := 14) rfl (by kernel_rfl) (by kernel_rfl) (by kernel_rfl) (fun _ _ _ h => h) (Or.inr ⟨by first | kernel_rfl | rfl, rfl⟩) (by assumption) ?_; (try simp only [Act.put, L1, L2, L3, L4, L5, L6]))
    (refine wpAnyH_take (i := 15) rfl (by kernel_rfl) (by kernel_rfl) (by kernel_rfl) (fun _ _ _ h => h) (Or.inr ⟨by first | kernel_rfl | rfl, rfl⟩) (by assumption) ?_; (try simp only [Act.put, L1, L2, L3, L4, L5, L6]))
    (refine wpAnyH_take (i := 16) rfl (by kernel_rfl) (by kernel_rfl) (by kernel_rfl) (fun _ _ _ h => h) (Or.inr ⟨by first | kernel_rfl | rfl, rfl⟩) (by assumption) ?_; (try simp only [Act.put, L1, L2, L3, L4, L5, L6]))
    (refine wpAnyH_take (i := 17) rfl (by kernel_rfl) (by kernel_rfl) (by kernel_rfl) (fun _ _ _ h => h) (Or.inr ⟨by first | kernel_rfl | rfl, rfl⟩) (by assumption) ?_; (try simp only [Act.put, L1, L2, L3, L4, L5, L6]))
    (refine wpAnyH_take (i := 18) rfl (by kernel_rfl) (by kernel_rfl) (by kernel_rfl) (fun _ _ _ h => h) (Or.inr ⟨by first | kernel_rfl | rfl, rfl⟩) (by assumption) ?_; (try simp only [Act.put, L1, L2, L3, L4, L5, L6]))
    (refine tk 19 (v := ?_) ?_ ?_; rotate_left; · (intro w hSw; (try dsimp only at hSw); go_simp; all_goals with_reducible rfl))
    (try simp only [Act.put, L1, L2, L3, L4, L5, L6])
    (refine wpAnyH_done (by kernel_rfl) ?_ _)
    clear hHeld
    have HX8 : Hid (Ext w7 w7.drew) := (Ext.refl w7).drew
    replace HM := Lib.hid (HM.out.ext HX8.out)
    replace HE := Lib.hid (HE.out.ext HX8.out)
    replace HBT := Lib.hid (HBT.out.ext HX8.out)
    replace HY : Hid (b < w7.drew.heap.size ∧ w7.drew.cell? ⟨b, o, none⟩ = some (.string y) ∧ w7.drew.cell? ⟨b, o + 1, none⟩ = some (.string y1)) := ⟨Nat.lt_of_lt_of_le HY.out.1 HX8.out.size, (HX8.out.cell (p := ⟨b, o, none⟩) HY.out.1).trans HY.out.2.1, (HX8.out.cell (p := ⟨b, o + 1, none⟩) HY.out.1).trans HY.out.2.2⟩
    clear HX8 HK6 HRN HRB
    generalize w7.drew = w8 at *
    have s2 : w8.cell? ⟨w.heap.size, 2, none⟩ = some (.slice (some ⟨b, o, none⟩) n c) := HM.out.s.cell 2
    have hy1 := HY.out.2.2
    have HB9 := Lib.hid (HM.out.z.put2b (.int .i64 1) (.string y1))
    have HX9 := Lib.hid (ext_put2b HM.out.x (show w.heap.size ≤ w.heap.size + 1 by omega) (.int .i64 1) (.string y1))
    have HE9 : Hid (Blk (put2b w8 (w.heap.size + 1) (.int .i64 1) (.string y1)) ge 107 #[.slice An nn cn, .slice Ah nh ch, .bool false, .slice Ab nb cb]) := (HE.out.far (p := ⟨w.heap.size + 1, 0, none⟩) (by show ge ≠ w.heap.size + 1; omega) _).far (p := ⟨w.heap.size + 1, 1, none⟩) (by show ge ≠ w.heap.size + 1; omega) _
    have HT9 : Hid (Bt (put2b w8 (w.heap.size + 1) (.int .i64 1) (.string y1)) ge Ab nb cb) := by
     obtain ⟨k1, bs, k2⟩ := HBT.out
     refine ⟨k1, bs, ?_⟩
     exact own_put2b k2 HM.out.z (by decide) _ _
    obtain ⟨⟨q0, q1⟩, f0, f1⟩ := blk2 HM.out.z
    go_wp2
    exact endBad rfl HB9.out _ rfl rfl fun e he => ⟨he, .slice Ab nb cb, ⟨Ab, nb, cb, rfl, HE9.out, HT9.out⟩, Tp.ext HX9.out ge _⟩
end Go.Proofs.YtdjckjfclhjpcaaGreat
