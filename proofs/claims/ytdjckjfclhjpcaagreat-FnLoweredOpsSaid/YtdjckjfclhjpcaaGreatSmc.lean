/-
 Helper text (no claim of its own): programs are checked: what the reference's checker of statements does to memory. Printed by gen_smc.py.
-/
import Derived.Test.YtdjckjfclhjpcaaGreatSmv
import Derived.Test.YtdjckjfclhjpcaaGreatRet
namespace Go.Proofs.YtdjckjfclhjpcaaGreat
open Go.ChangeShapes Go.WideShapes Go.ChangeAt Go.RowKit Go.Deep
set_option linter.unusedVariables false
set_option linter.unusedSimpArgs false
def RBad (e : Ending) : Prop := ∃ (c : Int) (s : ByteArray), e = .returned (.agg #[.int .i64 c, .string s])
theorem Tryz.sizeBad : (Tryz.prog.info? 103).map (·.size) = some 2 := by kernel_rfl
theorem blk2 {w : World} {g t : Nat} {a b : Value} (h : Blk w g t #[a, b]) : (w.cell? ⟨g, 0, none⟩ = some a ∧ w.cell? ⟨g, 1, none⟩ = some b) ∧ w.frozen? ⟨g, 0, none⟩ = false ∧ w.frozen? ⟨g, 1, none⟩ = false := ⟨⟨h.cell 0, h.cell 1⟩, h.frozen 0, h.frozen 1⟩
def put2b (w : World) (g : Nat) (a b : Value) : World := (w.setCell ⟨g, 0, none⟩ a).setCell ⟨g, 1, none⟩ b
theorem Blk.put2b {w : World} {g t : Nat} {z0 z1 : Value} (h : Blk w g t #[z0, z1]) (a b : Value) : Blk (put2b w g a b) g t #[a, b] := (h.set_ 0 a).set_ 1 b
theorem ext_put2b {w0 w : World} (h : Ext w0 w) {g : Nat} (hg : w0.heap.size ≤ g) (a b : Value) : Ext w0 (put2b w g a b) := (h.setCell (p := ⟨g, 0, none⟩) hg a).setCell (p := ⟨g, 1, none⟩) hg b
theorem retBad {fn : Func} {p : Tmp} (hf : fn.results = #[.cell p 103]) {W : World} {q : Nat} {a b : Value} (hB : Blk W q 103 #[a, b]) (tmps : Array Value) (hp : tmps.getD p undef = .pointer (some ⟨q, 0, none⟩)) :
  (results fn tmps).run Tryz.prog W = .ok (.agg #[a, b]) W :=
 results_cell_row hf tmps _ q 103 _ (0, 0) _ hp hB Tryz.underlying103 rfl Tryz.sizeBad
/-- The end of a call that returns such a value out of block q. -/
theorem endBad {fn : Func} {p : Tmp} {W : World} {q : Nat} {c : Int} {s : ByteArray} {P : Ending → World → Prop} (hf : fn.results = #[.cell p 103]) (hB : Blk W q 103 #[.int .i64 c, .string s]) (a : Act) (hp : a.tmps.getD p undef = .pointer (some ⟨q, 0, none⟩)) (hd : a.defers = [])
  (h : ∀ e, RBad e → P e W) : bodyPost Tryz.prog fn P .ret a W :=
 bodyPost_ret (v := .agg #[.int .i64 c, .string s]) (retBad hf hB a.tmps hp) hd (h _ ⟨c, s, rfl⟩)
set_option maxRecDepth 100000 in
set_option maxHeartbeats 4000000 in
theorem l20Arg_any (An : Option Addr) (nn cn : Nat) (Ah : Option Addr) (nh ch : Nat) (ins : Bool) (vb : Value) (s : ByteArray) (K : Nat → Prop) (w : World) (h1 : Nm w K An nn) (h2 : Nm w K Ah nh) (hK : Old w K) (hn : nn ≤ 1000 ∧ nh ≤ 1000) :
  Calls Tryz.prog 88 #[.agg #[.slice An nn cn, .slice Ah nh ch, .bool ins, vb], .string s] w fun e w' => RBad e ∧ Ext w w' := by
 obtain ⟨ns, a1, a2⟩ := h1
 obtain ⟨hs, b1, b2⟩ := h2
 have HB : Hid (Blk ((w.alloc (.cells #[.slice An nn cn, .slice Ah nh ch, .bool ins, vb] 107)).alloc (.cells #[.int .i64 0, .string ⟨#[]⟩] 103)) (w.heap.size + 1) 103 #[.int .i64 0, .string ⟨#[]⟩]) := Blk.newAt (by simp)
 have HE : Hid (Blk ((w.alloc (.cells #[.slice An nn cn, .slice Ah nh ch, .bool ins, vb] 107)).alloc (.cells #[.int .i64 0, .string ⟨#[]⟩] 103)) w.heap.size 107 #[.slice An nn cn, .slice Ah nh ch, .bool ins, vb]) := (Blk.new w _ _).alloc _
 have HX : Hid (Ext w ((w.alloc (.cells #[.slice An nn cn, .slice Ah nh ch, .bool ins, vb] 107)).alloc (.cells #[.int .i64 0, .string ⟨#[]⟩] 103))) := ((Ext.refl w).alloc _).alloc _
 go_enter Tryz.func88, Tryz.ntmps88
 go_upto_region 1 with (fail)
 have HR1 := Lib.hid ((a2.rd hK).ext HX.out)
 have HR2 := Lib.hid ((b2.rd hK).ext HX.out)
 clear a2 b2
 generalize (w.alloc (.cells #[.slice An nn cn, .slice Ah nh ch, .bool ins, vb] 107)).alloc (.cells #[.int .i64 0, .string ⟨#[]⟩] 103) = W at *
 generalize hg : w.heap.size = g at *
 have HG := Lib.hid hg
 clear hg
 have e0 := HE.out.cell 0
 have e1 := HE.out.cell 1
 change W.cell? ⟨g, 0, none⟩ = some (.slice An nn cn) at e0
 change W.cell? ⟨g, 1, none⟩ = some (.slice Ah nh ch) at e1
 have hge : w.heap.size ≤ g + 1 := by have := HG.out; omega
 obtain ⟨⟨q0, q1⟩, f0, f1⟩ := blk2 HB.out
 go_wp2_with fail
 refine (l1Has_any An nn cn ns s _ HR1.out (by omega)).mono ?_
 rintro e w1 ⟨⟨b, rfl⟩, rfl⟩
 cases b
 ·have HB9 := Lib.hid (HB.out.put2b (.int .i64 2) (.string s))
  have HX9 := Lib.hid (ext_put2b HX.out hge (.int .i64 2) (.string s))
  go_wp2
  exact endBad rfl HB9.out _ rfl rfl fun e he => ⟨he, HX9.out⟩
 ·go_wp2_with fail
  refine (l1Has_any Ah nh ch hs s _ HR2.out (by omega)).mono ?_
  rintro e w1 ⟨⟨b, rfl⟩, rfl⟩
  cases b
  ·have HB9 := Lib.hid (HB.out.put2b (.int .i64 0) (.string ⟨#[]⟩))
   have HX9 := Lib.hid (ext_put2b HX.out hge (.int .i64 0) (.string ⟨#[]⟩))
   go_wp2
   exact endBad rfl HB9.out _ rfl rfl fun e he => ⟨he, HX9.out⟩
  ·have HB9 := Lib.hid (HB.out.put2b (.int .i64 4) (.string s))
   have HX9 := Lib.hid (ext_put2b HX.out hge (.int .i64 4) (.string s))
   go_wp2
   exact endBad rfl HB9.out _ rfl rfl fun e he => ⟨he, HX9.out⟩
/-- What stands in memory while a gate is checked: the statement, the environment, the result's block. -/
structure GSt (w W : World) (xk : Int) (wd : ByteArray) (A : Option Addr) (n c : Nat) (cnt : Int) (B : Option Addr) (m e : Nat) (An : Option Addr) (nn cn : Nat) (Ah : Option Addr) (nh ch : Nat) (ins : Bool) (vb : Value) : Prop where
 s : Blk W w.heap.size 69 #[.int .i64 xk, .string wd, .slice A n c, .int .i64 cnt, .slice B m e]
 e : Blk W (w.heap.size + 1) 107 #[.slice An nn cn, .slice Ah nh ch, .bool ins, vb]
 z : Blk W (w.heap.size + 1 + 1) 103 #[.int .i64 0, .string ⟨#[]⟩]
 x : Ext w W
section
variable {w W W' : World} {xk : Int} {wd : ByteArray} {A : Option Addr} {n c : Nat} {cnt : Int} {B : Option Addr} {m e : Nat} {An : Option Addr} {nn cn : Nat} {Ah : Option Addr} {nh ch : Nat} {ins : Bool} {vb : Value}
theorem GSt.ext (h : GSt w W xk wd A n c cnt B m e An nn cn Ah nh ch ins vb) (hx : Ext W W') : GSt w W' xk wd A n c cnt B m e An nn cn Ah nh ch ins vb := ⟨h.s.ext hx, h.e.ext hx, h.z.ext hx, h.x.trans hx⟩
end
set_option maxRecDepth 100000 in
set_option maxHeartbeats 8000000 in
theorem l20Gate_any (xk : Int) (wd : ByteArray) (A : Option Addr) (n c : Nat) (cnt : Int) (B : Option Addr) (m e : Nat) (An : Option Addr) (nn cn : Nat) (Ah : Option Addr) (nh ch : Nat) (ins : Bool) (vb : Value) (KB : Nat → Prop) (w : World)
  (hn4 : n ≤ 4) (hnc : n ≤ c) (xs : List ByteArray) (hr : Rd w w.heap.size 1 A n (tcells xs)) (h1 : Nm w KB An nn) (h2 : Nm w KB Ah nh) (hK : Old w KB) (hnn : nn ≤ 1000 ∧ nh ≤ 1000) :
  Calls Tryz.prog 87 #[.agg #[.int .i64 xk, .string wd, .slice A n c, .int .i64 cnt, .slice B m e], .agg #[.slice An nn cn, .slice Ah nh ch, .bool ins, vb]] w fun e w' => RBad e ∧ Ext w w' := by
 have HRX := Lib.hid hr
 have HN : Hid (Nm w KB An nn ∧ Nm w KB Ah nh) := ⟨h1, h2⟩
 have HK0 := Lib.hid hK
 have HG0 : Hid (GSt w (((w.alloc (.cells #[.int .i64 xk, .string wd, .slice A n c, .int .i64 cnt, .slice B m e] 69)).alloc (.cells #[.slice An nn cn, .slice Ah nh ch, .bool ins, vb] 107)).alloc (.cells #[.int .i64 0, .string ⟨#[]⟩] 103)) xk wd A n c cnt B m e An nn cn Ah nh ch ins vb) := ⟨((Blk.new w _ _).alloc _).alloc _, (Blk.newAt (by simp)).alloc _, Blk.newAt (by simp), by unfold Ext; exact xx⟩
 clear hr h1 h2 hK
 go_enter Tryz.func87, Tryz.ntmps87
 go_upto_region 1 with (fail)
 generalize ((w.alloc (.cells #[.int .i64 xk, .string wd, .slice A n c, .int .i64 cnt, .slice B m e] 69)).alloc (.cells #[.slice An nn cn, .slice Ah nh ch, .bool ins, vb] 107)).alloc (.cells #[.int .i64 0, .string ⟨#[]⟩] 103) = W1 at *
 go_wp2
 go_loopw [5] (fun i wr => ∃ k : Nat, k ≤ n ∧ i = .int .i64 k ∧ Hid (GSt w wr xk wd A n c cnt B m e An nn cn Ah nh ch ins vb)) (fun i _ => n - (intOf i).toNat)
 case atStart => exact ⟨0, Nat.zero_le _, rfl, HG0⟩
 case round =>
  clear HG0
  obtain ⟨k, hk, rfl, HG⟩ := hrel
  have s0 := HG.out.s.cell 0
  have s1 := HG.out.s.cell 1
  have s2 := HG.out.s.cell 2
  change wr.cell? ⟨w.heap.size, 0, none⟩ = some (.int .i64 xk) at s0
  change wr.cell? ⟨w.heap.size, 1, none⟩ = some (.string wd) at s1
  change wr.cell? ⟨w.heap.size, 2, none⟩ = some (.slice A n c) at s2
  by_cases hlt : k < n
  ·obtain ⟨b, o, y, rfl, hb, hy, r0⟩ := str_at (HRX.out.ext HG.out.x) hlt
   clear hy
   go_upto_region 4 with (fail)
   clear s0 s1 s2
   have HK4 : Hid (∀ w', Ext wr w' → w'.cell? ⟨w.heap.size + 1, 0, none⟩ = some (.slice An nn cn) ∧ w'.cell? ⟨w.heap.size + 1, 1, none⟩ = some (.slice Ah nh ch) ∧ w'.cell? ⟨w.heap.size + 1, 2, none⟩ = some (.bool ins) ∧ w'.cell? ⟨w.heap.size + 1, 3, none⟩ = some vb ∧ w'.cell? ⟨w.heap.size, 2, none⟩ = some (.slice (some ⟨b, o, none⟩) n c) ∧ w'.cell? ⟨b, o + k, none⟩ = some (.string y)) := fun w' hx => ⟨(HG.out.e.ext hx).cell 0, (HG.out.e.ext hx).cell 1, (HG.out.e.ext hx).cell 2, (HG.out.e.ext hx).cell 3, (HG.out.s.ext hx).cell 2, (hx.cell (p := ⟨b, o + k, none⟩) hb).trans r0⟩
   refine wp_region_held_drew (S := (fun w' => w'.cell? ⟨w.heap.size + 1, 0, none⟩ = some (.slice An nn cn) ∧ w'.cell? ⟨w.heap.size + 1, 1, none⟩ = some (.slice Ah nh ch) ∧ w'.cell? ⟨w.heap.size + 1, 2, none⟩ = some (.bool ins) ∧ w'.cell? ⟨w.heap.size + 1, 3, none⟩ = some vb ∧ w'.cell? ⟨w.heap.size, 2, none⟩ = some (.slice (some ⟨b, o, none⟩) n c) ∧ w'.cell? ⟨b, o + k, none⟩ = some (.string y))) (by kernel_rfl) (HK4.out _ (Ext.refl wr).drew) (fun hHeld => ?_)
   (refine tk 0 (v := ?_) ?_ ?_; rotate_left; · (intro w hSw; (try dsimp only at hSw); go_simp; all_goals with_reducible rfl))
   (try simp only [Act.put, L1, L2, L3, L4, L5, L6])
   (refine tk 1 (v := ?_) ?_ ?_; rotate_left; · (intro w hSw; (try dsimp only at hSw); go_simp; all_goals with_reducible rfl))
   (try simp only [Act.put, L1, L2, L3, L4, L5, L6])
   (refine tk 2 (v := ?_) ?_ ?_; rotate_left; · (intro w hSw; (try dsimp only at hSw); go_simp; all_goals with_reducible rfl))
   (try simp only [Act.put, L1, L2, L3, L4, L5, L6])
   (refine tk 3 (v := ?_) ?_ ?_; rotate_left; · (intro w hSw; (try dsimp only at hSw); go_simp; all_goals with_reducible rfl))
   (try simp only [Act.put, L1, L2, L3, L4, L5, L6])
   (refine tk 4 (v := ?_) ?_ ?_; rotate_left; · (intro w hSw; (try dsimp only at hSw); go_simp; all_goals with_reducible rfl))
   (try simp only [Act.put, L1, L2, L3, L4, L5, L6])
   (refine tk 5 (v := ?_) ?_ ?_; rotate_left; · (intro w hSw; (try dsimp only at hSw); go_simp; all_goals with_reducible rfl))
   (try simp only [Act.put, L1, L2, L3, L4, L5, L6])
   refine wpAnyH_ready (rs := [6, 7]) (by kernel_rfl) (by simp) ?_
   refine AllReadyH.cons rfl (fun K hK => ?_) (AllReadyH.cons rfl (fun K hK => ?_) AllReadyH.nil)
   ·skip
    go_simp
    refine (l20Arg_any An nn cn Ah nh ch ins vb y KB _ ((HN.out.1.ext HK0.out HG.out.x).ext (HK0.out.ext HG.out.x) ((Ext.refl wr).drew)) ((HN.out.2.ext HK0.out HG.out.x).ext (HK0.out.ext HG.out.x) ((Ext.refl wr).drew)) ((HK0.out.ext HG.out.x).ext ((Ext.refl wr).drew)) hnn).mono ?_
    rintro e1 w5 ⟨⟨c1, s1, rfl⟩, hy5⟩
    have HY5 : Hid (Ext wr w5) := Ext.trans (Ext.refl wr).drew hy5
    refine hK.out _ _ (HK4.out _ HY5.out) (fun hHeld => ?_)
    clear hK K
    (try simp only [Act.put, L1, L2, L3, L4, L5, L6])
    refine wpAnyH_ready (rs := [7]) (by kernel_rfl) (by simp) ?_
    refine AllReadyH.cons rfl (fun K hK => ?_) AllReadyH.nil
    go_simp
    have HX6 : Hid (Ext wr (w5.alloc (.cells #[.int .i64 0, .string ⟨#[]⟩] 103))) := HY5.out.alloc _
    have HB6 : Hid (Blk (w5.alloc (.cells #[.int .i64 0, .string ⟨#[]⟩] 103)) w5.heap.size 103 #[.int .i64 0, .string ⟨#[]⟩]) := Blk.new _ _ _
    have HS6 : wr.heap.size ≤ w5.heap.size := HY5.out.size
    refine hK.out _ _ (HK4.out _ HX6.out) (fun hHeld => ?_)
    clear hK K
    (try simp only [Act.put, L1, L2, L3, L4, L5, L6])
    clear hy5
    generalize w5.alloc (.cells #[.int .i64 0, .string ⟨#[]⟩] 103) = w6 at *
    generalize hse : w5.heap.size = s at *
    clear hse HY5
    refine wpAnyH_ready (rs := [8]) (by kernel_rfl) (by simp) ?_
    refine AllReadyH.cons rfl (fun K hK => ?_) AllReadyH.nil
    obtain ⟨⟨q0, q1⟩, f0, f1⟩ := blk2 HB6.out
    go_simp
    have HX7 : Hid (Ext wr ((w6.setCell ⟨s, 0, none⟩ (.int .i64 c1)).setCell ⟨s, 1, none⟩ (.string s1))) := ext_put2b (g := s) HX6.out HS6 _ _
    have HB7 : Hid (Blk ((w6.setCell ⟨s, 0, none⟩ (.int .i64 c1)).setCell ⟨s, 1, none⟩ (.string s1)) s 103 #[.int .i64 c1, .string s1]) := HB6.out.put2b _ _
    refine hK.out _ _ (HK4.out _ HX7.out) (fun hHeld => ?_)
    clear hK K
    (try simp only [Act.put, L1, L2, L3, L4, L5, L6])
    (refine wpAnyH_done (by kernel_rfl) ?_ _)
    clear q0 q1 f0 f1 hHeld
    have HG7 := Lib.hid (HG.out.ext HX7.out)
    clear HG HK4
    generalize (w6.setCell ⟨s, 0, none⟩ (.int .i64 c1)).setCell ⟨s, 1, none⟩ (.string s1) = w7 at *
    obtain ⟨⟨q0, q1⟩, f0, f1⟩ := blk2 HB7.out
    obtain ⟨⟨z0, z1⟩, g0, g1⟩ := blk2 HG7.out.z
    cases hc1 : (c1 == 0)
    ·skip
     have HB9 := Lib.hid (HG7.out.z.put2b (.int .i64 c1) (.string s1))
     have HX9 := Lib.hid (ext_put2b HG7.out.x (show w.heap.size ≤ w.heap.size + 1 + 1 by omega) (.int .i64 c1) (.string s1))
     go_wp2
     exact endBad rfl HB9.out _ rfl rfl fun e he => ⟨he, HX9.out⟩
    ·skip
     go_upto_region 7 with (fail)
     clear hc1 q0 q1 f0 f1 z0 z1 g0 g1 HB7
     have HY7 : Hid (w7.cell? ⟨b, o + k, none⟩ = some (.string y)) := (HX7.out.cell (p := ⟨b, o + k, none⟩) hb).trans r0
     have HK7 : Hid (∀ w', Ext w7 w' → w'.cell? ⟨w.heap.size + 1, 0, none⟩ = some (.slice An nn cn) ∧ w'.cell? ⟨w.heap.size + 1, 1, none⟩ = some (.slice Ah nh ch) ∧ w'.cell? ⟨w.heap.size + 1, 2, none⟩ = some (.bool ins) ∧ w'.cell? ⟨w.heap.size + 1, 3, none⟩ = some vb ∧ w'.cell? ⟨w.heap.size, 2, none⟩ = some (.slice (some ⟨b, o, none⟩) n c) ∧ w'.cell? ⟨b, o + k, none⟩ = some (.string y)) := fun w' hx => ⟨(HG7.out.e.ext hx).cell 0, (HG7.out.e.ext hx).cell 1, (HG7.out.e.ext hx).cell 2, (HG7.out.e.ext hx).cell 3, (HG7.out.s.ext hx).cell 2, (hx.cell (p := ⟨b, o + k, none⟩) (Nat.lt_of_lt_of_le hb HX7.out.size)).trans HY7.out⟩
     have HRN : Hid (Rd w7.drew w7.drew.heap.size 1 (some ⟨b, o, none⟩) k (tcells (xs.take k))) := by
      have h9 := (HRX.out.ext HG7.out.x).ext (Ext.refl w7).drew
      refine ⟨?_, fun h0 => ?_⟩
      ·rw [flat_len tcell_len, List.length_take, h9.len tcell_len (by omega)]; omega
      ·obtain ⟨b', o', e', hb', hc'⟩ := h9.2 (by omega)
       refine ⟨b', o', e', hb', fun j u hu => hc' j u ?_⟩
       have hj : j < (xs.take k).length := by have h8 := (List.getElem?_eq_some_iff.1 hu).1; rw [flat_len tcell_len] at h8; omega
       have e9 : tcells xs = tcells (xs.take k) ++ tcells (xs.drop k) := by unfold tcells; rw [← List.flatMap_append, List.take_append_drop]
       rw [e9, List.getElem?_append_left (by rw [flat_len tcell_len]; omega)]
       exact hu
     have hkc : k ≤ c := by omega
     clear r0
     refine wp_region_held_drew (S := (fun w' => w'.cell? ⟨w.heap.size + 1, 0, none⟩ = some (.slice An nn cn) ∧ w'.cell? ⟨w.heap.size + 1, 1, none⟩ = some (.slice Ah nh ch) ∧ w'.cell? ⟨w.heap.size + 1, 2, none⟩ = some (.bool ins) ∧ w'.cell? ⟨w.heap.size + 1, 3, none⟩ = some vb ∧ w'.cell? ⟨w.heap.size, 2, none⟩ = some (.slice (some ⟨b, o, none⟩) n c) ∧ w'.cell? ⟨b, o + k, none⟩ = some (.string y))) (by kernel_rfl) (HK7.out _ (Ext.refl w7).drew) (fun hHeld => ?_)
     (refine tk 0 (v := ?_) ?_ ?_; rotate_left; · (intro w hSw; (try dsimp only at hSw); go_simp; all_goals with_reducible rfl))
     (try simp only [Act.put, L1, L2, L3, L4, L5, L6])
     (refine tk 1 (v := ?_) ?_ ?_; rotate_left; · (intro w hSw; (try dsimp only at hSw); go_simp; all_goals with_reducible rfl))
     (try simp only [Act.put, L1, L2, L3, L4, L5, L6])
     (refine tk 2 (v := ?_) ?_ ?_; rotate_left; · (intro w hSw; (try dsimp only at hSw); go_simp; all_goals with_reducible rfl))
     (try simp only [Act.put, L1, L2, L3, L4, L5, L6])
     (refine tk 3 (v := ?_) ?_ ?_; rotate_left; · (intro w hSw; (try dsimp only at hSw); go_simp; all_goals with_reducible rfl))
     (try simp only [Act.put, L1, L2, L3, L4, L5, L6])
     (refine tk 4 (v := ?_) ?_ ?_; rotate_left; · (intro w hSw; (try dsimp only at hSw); go_simp; all_goals with_reducible rfl))
     (try simp only [Act.put, L1, L2, L3, L4, L5, L6])
     (refine tk 5 (v := ?_) ?_ ?_; rotate_left; · (intro w hSw; (try dsimp only at hSw); go_simp; all_goals with_reducible rfl))
     (try simp only [Act.put, L1, L2, L3, L4, L5, L6])
     (refine tk 6 (v := ?_) ?_ ?_; rotate_left; · (intro w hSw; (try dsimp only at hSw); go_simp; all_goals with_reducible rfl))
     (try simp only [Act.put, L1, L2, L3, L4, L5, L6])
     (refine tk 7 (v := ?_) ?_ ?_; rotate_left; · (intro w hSw; (try dsimp only at hSw); go_simp; all_goals with_reducible rfl))
     (try simp only [Act.put, L1, L2, L3, L4, L5, L6])
     (refine tk 8 (v := ?_) ?_ ?_; rotate_left; · (intro w hSw; (try dsimp only at hSw); go_simp; all_goals with_reducible rfl))
     (try simp only [Act.put, L1, L2, L3, L4, L5, L6])
     refine wpAnyH_ready (rs := [9]) (by kernel_rfl) (by simp) ?_
     refine AllReadyH.cons rfl (fun K hK => ?_) AllReadyH.nil
     go_simp
     refine (l1Has_any (some ⟨b, o, none⟩) k c (xs.take k) y _ HRN.out (by omega)).mono ?_
     rintro e8 w8 ⟨⟨b8, rfl⟩, rfl⟩
     refine hK.out _ _ (HK7.out _ (Ext.refl w7).drew) (fun hHeld => ?_)
     clear hK K
     (try simp only [Act.put, L1, L2, L3, L4, L5, L6])
     (refine wpAnyH_done (by kernel_rfl) ?_ _)
     clear hHeld
     have HG8 := Lib.hid (HG7.out.ext (Ext.refl w7).drew)
     have HY8 := HK7.out _ (Ext.refl w7).drew
     clear HG7 HK7 HY7 HRN
     generalize w7.drew = w8 at *
     obtain ⟨y0, y1, y2, y3, y4, y5⟩ := HY8
     obtain ⟨⟨z0, z1⟩, g0, g1⟩ := blk2 HG8.out.z
     cases b8
     ·go_wp2
      go_roundw
      case rel => exact ⟨k + 1, by omega, by go_num, HG8⟩
      case measure => simp [intOf]; omega
     ·skip
      have HB9 := Lib.hid (HG8.out.z.put2b (.int .i64 3) (.string y))
      have HX9 := Lib.hid (ext_put2b HG8.out.x (show w.heap.size ≤ w.heap.size + 1 + 1 by omega) (.int .i64 3) (.string y))
      go_wp2
      exact endBad rfl HB9.out _ rfl rfl fun e he => ⟨he, HX9.out⟩
   ·skip
    go_simp
    refine hK.out _ _ (HK4.out _ (((Ext.refl wr).alloc _).drew)) (fun hHeld => ?_)
    clear hK K
    (try simp only [Act.put, L1, L2, L3, L4, L5, L6])
    refine wpAnyH_ready (rs := [6]) (by kernel_rfl) (by simp) ?_
    refine AllReadyH.cons rfl (fun K hK => ?_) AllReadyH.nil
    go_simp
    refine (l20Arg_any An nn cn Ah nh ch ins vb y KB _ ((HN.out.1.ext HK0.out HG.out.x).ext (HK0.out.ext HG.out.x) (((Ext.refl wr).alloc (.cells #[.int .i64 0, .string ⟨#[]⟩] 103)).drew)) ((HN.out.2.ext HK0.out HG.out.x).ext (HK0.out.ext HG.out.x) (((Ext.refl wr).alloc (.cells #[.int .i64 0, .string ⟨#[]⟩] 103)).drew)) ((HK0.out.ext HG.out.x).ext (((Ext.refl wr).alloc (.cells #[.int .i64 0, .string ⟨#[]⟩] 103)).drew)) hnn).mono ?_
    rintro e1 w5 ⟨⟨c1, s1, rfl⟩, hy5⟩
    have HX6 : Hid (Ext wr w5) := Ext.trans ((Ext.refl wr).alloc (.cells #[.int .i64 0, .string ⟨#[]⟩] 103)).drew hy5
    have HB6 : Hid (Blk w5 wr.heap.size 103 #[.int .i64 0, .string ⟨#[]⟩]) := ((Blk.new wr 103 #[.int .i64 0, .string ⟨#[]⟩]).ext (Ext.refl _).drew).ext hy5
    have HS6 : wr.heap.size ≤ wr.heap.size := Nat.le_refl _
    refine hK.out _ _ (HK4.out _ HX6.out) (fun hHeld => ?_)
    clear hK K
    (try simp only [Act.put, L1, L2, L3, L4, L5, L6])
    clear hy5
    have hsw : ∃ s, s = wr.heap.size := ⟨_, rfl⟩
    obtain ⟨s, hs⟩ := hsw
    rw [← hs] at HB6 HS6 ⊢
    replace HS6 : wr.heap.size ≤ s := by omega
    clear hs
    have hww : ∃ w6, w6 = w5 := ⟨_, rfl⟩
    obtain ⟨w6, rfl⟩ := hww
    refine wpAnyH_ready (rs := [8]) (by kernel_rfl) (by simp) ?_
    refine AllReadyH.cons rfl (fun K hK => ?_) AllReadyH.nil
    obtain ⟨⟨q0, q1⟩, f0, f1⟩ := blk2 HB6.out
    go_simp
    have HX7 : Hid (Ext wr ((w6.setCell ⟨s, 0, none⟩ (.int .i64 c1)).setCell ⟨s, 1, none⟩ (.string s1))) := ext_put2b (g := s) HX6.out HS6 _ _
    have HB7 : Hid (Blk ((w6.setCell ⟨s, 0, none⟩ (.int .i64 c1)).setCell ⟨s, 1, none⟩ (.string s1)) s 103 #[.int .i64 c1, .string s1]) := HB6.out.put2b _ _
    refine hK.out _ _ (HK4.out _ HX7.out) (fun hHeld => ?_)
    clear hK K
    (try simp only [Act.put, L1, L2, L3, L4, L5, L6])
    (refine wpAnyH_done (by kernel_rfl) ?_ _)
    clear q0 q1 f0 f1 hHeld
    have HG7 := Lib.hid (HG.out.ext HX7.out)
    clear HG HK4
    generalize (w6.setCell ⟨s, 0, none⟩ (.int .i64 c1)).setCell ⟨s, 1, none⟩ (.string s1) = w7 at *
    obtain ⟨⟨q0, q1⟩, f0, f1⟩ := blk2 HB7.out
    obtain ⟨⟨z0, z1⟩, g0, g1⟩ := blk2 HG7.out.z
    cases hc1 : (c1 == 0)
    ·skip
     have HB9 := Lib.hid (HG7.out.z.put2b (.int .i64 c1) (.string s1))
     have HX9 := Lib.hid (ext_put2b HG7.out.x (show w.heap.size ≤ w.heap.size + 1 + 1 by omega) (.int .i64 c1) (.string s1))
     go_wp2
     exact endBad rfl HB9.out _ rfl rfl fun e he => ⟨he, HX9.out⟩
    ·skip
     go_upto_region 7 with (fail)
     clear hc1 q0 q1 f0 f1 z0 z1 g0 g1 HB7
     have HY7 : Hid (w7.cell? ⟨b, o + k, none⟩ = some (.string y)) := (HX7.out.cell (p := ⟨b, o + k, none⟩) hb).trans r0
     have HK7 : Hid (∀ w', Ext w7 w' → w'.cell? ⟨w.heap.size + 1, 0, none⟩ = some (.slice An nn cn) ∧ w'.cell? ⟨w.heap.size + 1, 1, none⟩ = some (.slice Ah nh ch) ∧ w'.cell? ⟨w.heap.size + 1, 2, none⟩ = some (.bool ins) ∧ w'.cell? ⟨w.heap.size + 1, 3, none⟩ = some vb ∧ w'.cell? ⟨w.heap.size, 2, none⟩ = some (.slice (some ⟨b, o, none⟩) n c) ∧ w'.cell? ⟨b, o + k, none⟩ = some (.string y)) := fun w' hx => ⟨(HG7.out.e.ext hx).cell 0, (HG7.out.e.ext hx).cell 1, (HG7.out.e.ext hx).cell 2, (HG7.out.e.ext hx).cell 3, (HG7.out.s.ext hx).cell 2, (hx.cell (p := ⟨b, o + k, none⟩) (Nat.lt_of_lt_of_le hb HX7.out.size)).trans HY7.out⟩
     have HRN : Hid (Rd w7.drew w7.drew.heap.size 1 (some ⟨b, o, none⟩) k (tcells (xs.take k))) := by
      have h9 := (HRX.out.ext HG7.out.x).ext (Ext.refl w7).drew
      refine ⟨?_, fun h0 => ?_⟩
      ·rw [flat_len tcell_len, List.length_take, h9.len tcell_len (by omega)]; omega
      ·obtain ⟨b', o', e', hb', hc'⟩ := h9.2 (by omega)
       refine ⟨b', o', e', hb', fun j u hu => hc' j u ?_⟩
       have hj : j < (xs.take k).length := by have h8 := (List.getElem?_eq_some_iff.1 hu).1; rw [flat_len tcell_len] at h8; omega
       have e9 : tcells xs = tcells (xs.take k) ++ tcells (xs.drop k) := by unfold tcells; rw [← List.flatMap_append, List.take_append_drop]
       rw [e9, List.getElem?_append_left (by rw [flat_len tcell_len]; omega)]
       exact hu
     have hkc : k ≤ c := by omega
     clear r0
     refine wp_region_held_drew (S := (fun w' => w'.cell? ⟨w.heap.size + 1, 0, none⟩ = some (.slice An nn cn) ∧ w'.cell? ⟨w.heap.size + 1, 1, none⟩ = some (.slice Ah nh ch) ∧ w'.cell? ⟨w.heap.size + 1, 2, none⟩ = some (.bool ins) ∧ w'.cell? ⟨w.heap.size + 1, 3, none⟩ = some vb ∧ w'.cell? ⟨w.heap.size, 2, none⟩ = some (.slice (some ⟨b, o, none⟩) n c) ∧ w'.cell? ⟨b, o + k, none⟩ = some (.string y))) (by kernel_rfl) (HK7.out _ (Ext.refl w7).drew) (fun hHeld => ?_)
     (refine tk 0 (v := ?_) ?_ ?_; rotate_left; · (intro w hSw; (try dsimp only at hSw); go_simp; all_goals with_reducible rfl))
     (try simp only [Act.put, L1, L2, L3, L4, L5, L6])
     (refine tk 1 (v := ?_) ?_ ?_; rotate_left; · (intro w hSw; (try dsimp only at hSw); go_simp; all_goals with_reducible rfl))
     (try simp only [Act.put, L1, L2, L3, L4, L5, L6])
     (refine tk 2 (v := ?_) ?_ ?_; rotate_left; · (intro w hSw; (try dsimp only at hSw); go_simp; all_goals with_reducible rfl))
     (try simp only [Act.put, L1, L2, L3, L4, L5, L6])
     (refine tk 3 (v := ?_) ?_ ?_; rotate_left; · (intro w hSw; (try dsimp only at hSw); go_simp; all_goals with_reducible rfl))
     (try simp only [Act.put, L1, L2, L3, L4, L5, L6])
     (refine tk 4 (v := ?_) ?_ ?_; rotate_left; · (intro w hSw; (try dsimp only at hSw); go_simp; all_goals with_reducible rfl))
     (try simp only [Act.put, L1, L2, L3, L4, L5, L6])
     (refine tk 5 (v := ?_) ?_ ?_; rotate_left; · (intro w hSw; (try dsimp only at hSw); go_simp; all_goals with_reducible rfl))
     (try simp only [Act.put, L1, L2, L3, L4, L5, L6])
     (refine tk 6 (v := ?_) ?_ ?_; rotate_left; · (intro w hSw; (try dsimp only at hSw); go_simp; all_goals with_reducible rfl))
     (try simp only [Act.put, L1, L2, L3, L4, L5, L6])
     (refine tk 7 (v := ?_) ?_ ?_; rotate_left; · (intro w hSw; (try dsimp only at hSw); go_simp; all_goals with_reducible rfl))
     (try simp only [Act.put, L1, L2, L3, L4, L5, L6])
     (refine tk 8 (v := ?_) ?_ ?_; rotate_left; · (intro w hSw; (try dsimp only at hSw); go_simp; all_goals with_reducible rfl))
     (try simp only [Act.put, L1, L2, L3, L4, L5, L6])
     refine wpAnyH_ready (rs := [9]) (by kernel_rfl) (by simp) ?_
     refine AllReadyH.cons rfl (fun K hK => ?_) AllReadyH.nil
     go_simp
     refine (l1Has_any (some ⟨b, o, none⟩) k c (xs.take k) y _ HRN.out (by omega)).mono ?_
     rintro e8 w8 ⟨⟨b8, rfl⟩, rfl⟩
     refine hK.out _ _ (HK7.out _ (Ext.refl w7).drew) (fun hHeld => ?_)
     clear hK K
     (try simp only [Act.put, L1, L2, L3, L4, L5, L6])
     (refine wpAnyH_done (by kernel_rfl) ?_ _)
     clear hHeld
     have HG8 := Lib.hid (HG7.out.ext (Ext.refl w7).drew)
     have HY8 := HK7.out _ (Ext.refl w7).drew
     clear HG7 HK7 HY7 HRN
     generalize w7.drew = w8 at *
     obtain ⟨y0, y1, y2, y3, y4, y5⟩ := HY8
     obtain ⟨⟨z0, z1⟩, g0, g1⟩ := blk2 HG8.out.z
     cases b8
     ·go_wp2
      go_roundw
      case rel => exact ⟨k + 1, by omega, by go_num, HG8⟩
      case measure => simp [intOf]; omega
     ·skip
      have HB9 := Lib.hid (HG8.out.z.put2b (.int .i64 3) (.string y))
      have HX9 := Lib.hid (ext_put2b HG8.out.x (show w.heap.size ≤ w.heap.size + 1 + 1 by omega) (.int .i64 3) (.string y))
      go_wp2
      exact endBad rfl HB9.out _ rfl rfl fun e he => ⟨he, HX9.out⟩
  ·go_upto_region 9 with (fail)
   have HK9 : Hid (∀ w', Ext wr w' → w'.cell? ⟨w.heap.size + 1, 1, none⟩ = some (.slice Ah nh ch) ∧ w'.cell? ⟨w.heap.size, 1, none⟩ = some (.string wd)) := fun w' hx => ⟨(HG.out.e.ext hx).cell 1, (HG.out.s.ext hx).cell 1⟩
   clear s0 s1 s2
   refine wp_region_held_drew (S := (fun w' => w'.cell? ⟨w.heap.size + 1, 1, none⟩ = some (.slice Ah nh ch) ∧ w'.cell? ⟨w.heap.size, 1, none⟩ = some (.string wd))) (by kernel_rfl) (HK9.out _ (Ext.refl wr).drew) (fun hHeld => ?_)
   (refine tk 0 (v := ?_) ?_ ?_; rotate_left; · (intro w hSw; (try dsimp only at hSw); go_simp; all_goals with_reducible rfl))
   (try simp only [Act.put, L1, L2, L3, L4, L5, L6])
   (refine tk 1 (v := ?_) ?_ ?_; rotate_left; · (intro w hSw; (try dsimp only at hSw); go_simp; all_goals with_reducible rfl))
   (try simp only [Act.put, L1, L2, L3, L4, L5, L6])
   (refine tk 3 (v := ?_) ?_ ?_; rotate_left; · (intro w hSw; (try dsimp only at hSw); go_simp; all_goals with_reducible rfl))
   (try simp only [Act.put, L1, L2, L3, L4, L5, L6])
   (refine tk 4 (v := ?_) ?_ ?_; rotate_left; · (intro w hSw; (try dsimp only at hSw); go_simp; all_goals with_reducible rfl))
   (try simp only [Act.put, L1, L2, L3, L4, L5, L6])
   (refine tk 5 (v := ?_) ?_ ?_; rotate_left; · (intro w hSw; (try dsimp only at hSw); go_simp; all_goals with_reducible rfl))
   (try simp only [Act.put, L1, L2, L3, L4, L5, L6])
   refine wpAnyH_ready (rs := [2]) (by kernel_rfl) (by simp) ?_
   refine AllReadyH.cons rfl (fun K hK => ?_) AllReadyH.nil
   go_simp
   refine (spec_GateKind_any _ _).mono ?_
   rintro e7 w7 ⟨⟨k7, rfl, _⟩, hx7⟩
   have HX7 : Hid (Ext wr w7) := Ext.trans (Ext.refl wr).drew hx7
   clear hx7
   refine hK.out _ _ (HK9.out _ HX7.out) (fun hHeld => ?_)
   clear hK K
   (try simp only [Act.put, L1, L2, L3, L4, L5, L6])
   refine wpAnyH_ready (rs := [6]) (by kernel_rfl) (by simp) ?_
   refine AllReadyH.cons rfl (fun K hK => ?_) AllReadyH.nil
   go_simp
   refine (l20Control_any _ _ _).mono ?_
   rintro e8 w8 ⟨⟨b8, rfl⟩, rfl⟩
   refine hK.out _ _ (HK9.out _ HX7.out) (fun hHeld => ?_)
   clear hK K
   (try simp only [Act.put, L1, L2, L3, L4, L5, L6])
   (refine tk 7 (v := ?_) ?_ ?_; rotate_left; · (intro w hSw; (try dsimp only at hSw); go_simp; all_goals with_reducible rfl))
   (try simp only [Act.put, L1, L2, L3, L4, L5, L6])
   (refine wpAnyH_done (by kernel_rfl) ?_ _)
   clear hHeld
   have HG8 := Lib.hid (HG.out.ext HX7.out)
   obtain ⟨y0, y1⟩ := HK9.out _ HX7.out
   clear HG HK9 HX7
   obtain ⟨⟨z0, z1⟩, g0, g1⟩ := blk2 HG8.out.z
   cases b8
   ·skip
    have HB9 := Lib.hid (HG8.out.z.put2b (.int .i64 9) (.string wd))
    have HX9 := Lib.hid (ext_put2b HG8.out.x (show w.heap.size ≤ w.heap.size + 1 + 1 by omega) (.int .i64 9) (.string wd))
    go_wp2
    exact endBad rfl HB9.out _ rfl rfl fun e he => ⟨he, HX9.out⟩
   ·skip
    have HB9 := Lib.hid (HG8.out.z.put2b (.int .i64 0) (.string ⟨#[]⟩))
    have HX9 := Lib.hid (ext_put2b HG8.out.x (show w.heap.size ≤ w.heap.size + 1 + 1 by omega) (.int .i64 0) (.string ⟨#[]⟩))
    go_wp2
    exact endBad rfl HB9.out _ rfl rfl fun e he => ⟨he, HX9.out⟩
end Go.Proofs.YtdjckjfclhjpcaaGreat
