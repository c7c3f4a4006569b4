/-
 Helper text (no claim of its own): drawn programs. Printed by gen_drt.py.
-/
import Derived.Test.YtdjckjfclhjpcaaGreatMLowLf
/-
 Helper text (no claim of its own): drawn programs: what stands in memory, and one region. Printed by gen_drt.py.
-/
namespace Go.Proofs.YtdjckjfclhjpcaaGreat
open Go.ChangeShapes Go.WideShapes Go.ChangeAt Go.RowKit Go.Deep
set_option linter.unusedVariables false
set_option linter.unusedSimpArgs false
/-- What l17Right returns. -/
def Pr (w : World) (g : Nat) (e : Ending) (w' : World) : Prop := ∃ (Aq : Option Addr) (nq cq : Nat) (Bp : Option Addr) (mp ep : Nat), e = .returned (.agg #[.slice Aq nq cq, .slice Bp mp ep]) ∧ Nm w' (fun b => w.heap.size ≤ b ∧ b < w'.heap.size) Aq nq ∧ Ss 5 w' (fun b => w.heap.size ≤ b ∧ b < w'.heap.size) Bp mp ∧ (nq ≤ 4 ∧ nq ≤ cq) ∧ Cur w' g ∧ w.grownBy w' (some g)
theorem rd_head {w : World} {B b o n m : Nat} {xs : List ByteArray} (h : Rd w B 1 (some ⟨b, o, none⟩) n (tcells xs)) (hm : m ≤ n) : Rd w B 1 (some ⟨b, o, none⟩) m (tcells (xs.take m)) := by
 have hl := h.1
 rw [flat_len tcell_len] at hl
 refine ⟨by rw [flat_len tcell_len, List.length_take]; omega, fun h0 => ?_⟩
 obtain ⟨b', o', e, hb, hc⟩ := h.2 (by omega)
 refine ⟨b', o', e, hb, fun j u hu => hc j u ?_⟩
 have e1 : tcells xs = tcells (xs.take m) ++ tcells (xs.drop m) := by unfold tcells; rw [← List.flatMap_append, List.take_append_drop]
 rw [e1]
 have hj := (List.getElem?_eq_some_iff.1 hu).1
 rw [List.getElem?_append_left hj]
 exact hu
theorem rd_blkS {w : World} {b t : Nat} {cs : Array Value} {xs : List ByteArray} (h : Blk w b t cs) (hc : cs.toList = tcells xs) : Rd w w.heap.size 1 (some ⟨b, 0, none⟩) xs.length (tcells xs) :=
 ⟨by rw [flat_len tcell_len], fun _ => ⟨b, 0, rfl, h.lt, fun j u hu => by rw [Nat.zero_add, h.cell j, ← hu, ← hc]; simp⟩⟩
/-- The blocks of drawn statements: from s6 on, but for the row v. -/
def K6 (s6 : Nat) (W : World) (v : Value) : Nat → Prop := fun b => s6 ≤ b ∧ b < W.heap.size ∧ v.ownBlock ≠ some b
/-- A program being drawn: the result's block rb, the variable's block pb. -/
structure Pg (w : World) (s6 : Nat) (W : World) (g rb pb : Nat) (An : Option Addr) (nn cn : Nat) (A : Option Addr) (c : Nat) (ys : List Sc) : Prop where
 cur : Cur W g
 gr : w.grownBy W (some g)
 ns : Ns W An nn
 nb : ∀ b o, An = some ⟨b, o, none⟩ → w.heap.size ≤ b
 r : Blk W rb 53 #[.slice none 0 0, .slice none 0 0]
 p : Blk W pb 53 #[.slice An nn cn, .slice A ys.length c]
 hr : w.heap.size ≤ rb ∧ rb < pb
 hp : w.heap.size ≤ pb ∧ pb < s6 ∧ s6 ≤ W.heap.size ∧ g < pb ∧ g < rb
 row : W.ownsRow s6 69 5 (.slice A ys.length c) ys.length (mcells ys)
 sv : ∀ y ∈ ys, Sv 5 W (K6 s6 W (.slice A ys.length c)) y
section
variable {w W W' : World} {s6 g rb pb : Nat} {An : Option Addr} {nn cn : Nat} {A : Option Addr} {c : Nat} {ys : List Sc}
theorem Pg.draw (h : Pg w s6 W g rb pb An nn cn A c ys) (hc : Cur W' g) (hg : W.grownBy W' (some g)) : Pg w s6 W' g rb pb An nn cn A c ys :=
 ⟨hc, gr_trans h.gr hg, h.ns.cur h.cur hg, h.nb, h.r.grown hg (fun q hq => by injection hq; have := h.hp; omega), h.p.grown hg (fun q hq => by injection hq; have := h.hp; omega), h.hr, ⟨h.hp.1, h.hp.2.1, Nat.le_trans h.hp.2.2.1 hg.size, h.hp.2.2.2⟩, own_kept h.row hg (fun q hq => by injection hq; have := h.hp; omega),
  fun y hy => Sv.keep (fun b hb => hg.block b hb.2.1 (fun e => by injection e with e; have := hb.1; have := h.hp; omega)) (fun b hb => ⟨hb.1, Nat.lt_of_lt_of_le hb.2.1 hg.size, hb.2.2⟩) (h.sv y hy)⟩
theorem Pg.ext (h : Pg w s6 W g rb pb An nn cn A c ys) (hx : Ext W W') : Pg w s6 W' g rb pb An nn cn A c ys :=
 ⟨h.cur.ext hx, gr_ext h.gr hx, h.ns.ext hx, h.nb, h.r.ext hx, h.p.ext hx, h.hr, ⟨h.hp.1, h.hp.2.1, Nat.le_trans h.hp.2.2.1 hx.size, h.hp.2.2.2⟩, own_ext h.row hx,
  fun y hy => Sv.keep (fun b hb => hx.block b hb.2.1) (fun b hb => ⟨hb.1, Nat.lt_of_lt_of_le hb.2.1 hx.size, hb.2.2⟩) (h.sv y hy)⟩
/-- Statements more, and the variable's slice set. -/
theorem Pg.app {w2 : World} {A2 : Option Addr} {c2 m : Nat} {xs : List Sc} (h : Pg w s6 W g rb pb An nn cn A c ys) (hx : ∀ x ∈ xs, Sv 5 W (K6 s6 W (.slice A ys.length c)) x) (hm : m = xs.length)
  (g1 : w2.ownsRow s6 69 5 (.slice A2 (ys.length + m) c2) (ys.length + m) (mcells (ys ++ xs))) (g2 : W.grownBy w2 (Value.slice A ys.length c).ownBlock) (g3 : (Value.slice A2 (ys.length + m) c2).ownBlock = (Value.slice A ys.length c).ownBlock ∨ (Value.slice A2 (ys.length + m) c2).ownBlock = some W.heap.size) :
  Blk w2 pb 53 #[.slice An nn cn, .slice A ys.length c] ∧ Pg w s6 (w2.setCell ⟨pb, 1, none⟩ (.slice A2 (ys.length + m) c2)) g rb pb An nn cn A2 c2 (ys ++ xs) := by
 subst hm
 have hl : (ys ++ xs).length = ys.length + xs.length := List.length_append
 have hlt := h.row.lt
 have hp := h.hp
 have hb2 : Blk w2 pb 53 #[.slice An nn cn, .slice A ys.length c] := h.p.grown g2 fun q hq => by have := (hlt q hq).1; omega
 have hr2 : Blk w2 rb 53 #[.slice none 0 0, .slice none 0 0] := h.r.grown g2 fun q hq e => own_ne h.row h.r (by decide) (by rw [hq, e])
 have hk : ∀ y, Sv 5 W (K6 s6 W (.slice A ys.length c)) y → Sv 5 (w2.setCell ⟨pb, 1, none⟩ (.slice A2 (ys.length + xs.length) c2)) (K6 s6 (w2.setCell ⟨pb, 1, none⟩ (.slice A2 (ys.length + xs.length) c2)) (.slice A2 (ys ++ xs).length c2)) y := fun y hy => Sv.keep (fun b hb => by
   have h1 : b ≠ pb := by have := hb.1; omega
   exact (Below.heap_setCell w2 ⟨pb, 1, none⟩ _ b h1).trans (g2.block b hb.2.1 (fun e => hb.2.2 e.symm))) (fun b hb => ⟨hb.1, by have := g2.size; have := hb.2.1; simp [World.setCell]; omega, fun e => by
  rw [hl] at e
  rcases g3 with g3 | g3
  ·rw [g3] at e; exact hb.2.2 e
  ·rw [g3] at e; injection e with e; have := hb.2.1; omega⟩) hy
 have hc2 : Cur w2 g := h.cur.grown g2 (fun q hq => by have := (hlt q hq).1; omega)
 refine ⟨hb2, hc2.set_ (p := ⟨pb, 1, none⟩) hp.2.2.2.1 _, gr_set (gr_new h.gr g2 (fun q hq => Nat.le_trans hp.1 (Nat.le_trans (Nat.le_of_lt hp.2.1) (hlt q hq).1))) (p := ⟨pb, 1, none⟩) hp.1 _, ?_, h.nb, hr2.far (p := ⟨pb, 1, none⟩) (Nat.ne_of_lt h.hr.2) _, ?_, h.hr, ⟨hp.1, hp.2.1, ?_, hp.2.2.2⟩, ?_, fun y hy => ?_⟩
 ·exact (h.ns.keep fun b ds hd => g2.block b hd.lt (fun e => own_ne h.row hd (by decide) e.symm)).keep fun b ds hd => Below.heap_setCell w2 ⟨pb, 1, none⟩ _ b (blk_ne hd hb2 (by decide))
 ·rw [hl]; exact hb2.set_ 1 _
 ·have := g2.size; simp [World.setCell]; omega
 ·rw [hl]; exact own_set g1 (p := ⟨pb, 1, none⟩) hp.2.1 _
 ·rcases List.mem_append.1 hy with hy | hy
  ·exact hk y (h.sv y hy)
  ·exact hk y (hx y hy)
/-- The end of it. -/
theorem Pg.out (h : Pg w s6 W g rb pb An nn cn A c ys) (hl : ys.length ≤ 10) : Nm W (fun b => w.heap.size ≤ b ∧ b < W.heap.size ∧ b ≠ rb) An nn ∧ Ss 5 W (fun b => w.heap.size ≤ b ∧ b < W.heap.size ∧ b ≠ rb) A ys.length := by
 have hp := h.hp
 have hr := h.hr
 refine ⟨?_, hl, ys, ⟨h.row.1, fun h0 => ?_⟩, fun y hy => Sv.keep (fun b hb => rfl) (fun b hb => ⟨by have := hb.1; omega, hb.2.1, by have := hb.1; omega⟩) (h.sv y hy)⟩
 ·obtain ⟨xs, h1, h2, h3⟩ := h.ns
  refine ⟨xs, h1, by rw [flat_len tcell_len, h2], fun h0 => ?_⟩
  obtain ⟨b, cs, e, hb, hc⟩ := h3 h0
  refine ⟨b, 0, e, ⟨h.nb b 0 e, hb.lt, blk_ne hb h.r (by decide)⟩, fun j u hu => ?_⟩
  rw [Nat.zero_add, hb.cell j]
  exact hc j u hu
 ·obtain ⟨b, o, e, hb, hc⟩ := (Rd.own h.row).2 h0
  exact ⟨b, o, e, ⟨by have := (h.row.lt b (by rw [e]; rfl)).1; omega, hb, by have := (h.row.lt b (by rw [e]; rfl)).1; omega⟩, hc⟩
theorem Tryz.sizeProgram : (Tryz.prog.info? 53).map (·.size) = some 2 := by kernel_rfl
theorem Pg.ret (h : Pg w s6 W g rb pb An nn cn A c ys) (hl : ys.length ≤ 10) (hn : nn ≤ 4 ∧ nn ≤ cn) {fn : Func} {p : Tmp} {a : Act} (hf : fn.results = #[.cell p 53]) (hp : a.tmps.getD p undef = .pointer (some ⟨rb, 0, none⟩)) (hd : a.defers = []) :
  bodyPost Tryz.prog fn (Pr w g) Exit.ret a ((W.setCell ⟨rb, 0, none⟩ (.slice An nn cn)).setCell ⟨rb, 1, none⟩ (.slice A ys.length c)) := by
 obtain ⟨h1, h2⟩ := h.out hl
 have hB1 := h.r.set_ 0 (.slice An nn cn)
 have hk : ∀ b, (w.heap.size ≤ b ∧ b < W.heap.size ∧ b ≠ rb) → ((W.setCell ⟨rb, 0, none⟩ (.slice An nn cn)).setCell ⟨rb, 1, none⟩ (.slice A ys.length c)).heap[b]? = W.heap[b]? := fun b hb => (Below.heap_setCell _ ⟨rb, 1, none⟩ _ b hb.2.2).trans (Below.heap_setCell _ ⟨rb, 0, none⟩ _ b hb.2.2)
 have hK : ∀ b, (w.heap.size ≤ b ∧ b < W.heap.size ∧ b ≠ rb) → w.heap.size ≤ b ∧ b < ((W.setCell ⟨rb, 0, none⟩ (.slice An nn cn)).setCell ⟨rb, 1, none⟩ (.slice A ys.length c)).heap.size := fun b hb => ⟨hb.1, by have := hb.2.1; simp [World.setCell]; exact this⟩
 have hg := h.hp.2.2.2.2
 exact bodyPost_ret (v := .agg #[.slice An nn cn, .slice A ys.length c]) (results_cell_row hf a.tmps _ rb 53 _ (0, 0) _ hp (hB1.set_ 1 (.slice A ys.length c)) Tryz.underlying53 rfl Tryz.sizeProgram) hd
  ⟨An, nn, cn, A, ys.length, c, rfl, h1.keep hk hK, h2.keep hk hK, hn, (h.cur.set_ (p := ⟨rb, 0, none⟩) hg _).set_ (p := ⟨rb, 1, none⟩) hg _, gr_set (gr_set h.gr (p := ⟨rb, 0, none⟩) h.hr.1 _) (p := ⟨rb, 1, none⟩) h.hr.1 _⟩
theorem Pg.cells (h : Pg w s6 W g rb pb An nn cn A c ys) {L : Nat} (hL : ys.length = L) : W.cell? ⟨pb, 0, none⟩ = some (.slice An nn cn) ∧ W.cell? ⟨pb, 1, none⟩ = some (.slice A L c) := by subst hL; exact ⟨h.p.cell 0, h.p.cell 1⟩
theorem Pg.row' (h : Pg w s6 W g rb pb An nn cn A c ys) {L : Nat} (hL : ys.length = L) : W.ownsRow s6 69 5 (.slice A L c) L (mcells ys) := by subst hL; exact h.row
theorem Pg.app' {w2 : World} {A2 : Option Addr} {c2 m L : Nat} {xs : List Sc} (h : Pg w s6 W g rb pb An nn cn A c ys) (hL : ys.length = L) (hx : ∀ x ∈ xs, Sv 5 W (K6 s6 W (.slice A L c)) x) (hm : m = xs.length)
  (g1 : w2.ownsRow s6 69 5 (.slice A2 (L + m) c2) (L + m) (mcells (ys ++ xs))) (g2 : W.grownBy w2 (Value.slice A L c).ownBlock) (g3 : (Value.slice A2 (L + m) c2).ownBlock = (Value.slice A L c).ownBlock ∨ (Value.slice A2 (L + m) c2).ownBlock = some W.heap.size) :
  Blk w2 pb 53 #[.slice An nn cn, .slice A L c] ∧ Pg w s6 (w2.setCell ⟨pb, 1, none⟩ (.slice A2 (L + m) c2)) g rb pb An nn cn A2 c2 (ys ++ xs) := by subst hL; exact h.app hx hm g1 g2 g3
theorem Pg.ret' (h : Pg w s6 W g rb pb An nn cn A c ys) {L : Nat} (hL : ys.length = L) (hl : L ≤ 10) (hn : nn ≤ 4 ∧ nn ≤ cn) {fn : Func} {p : Tmp} {a : Act} (hf : fn.results = #[.cell p 53]) (hp : a.tmps.getD p undef = .pointer (some ⟨rb, 0, none⟩)) (hd : a.defers = []) :
  bodyPost Tryz.prog fn (Pr w g) Exit.ret a ((W.setCell ⟨rb, 0, none⟩ (.slice An nn cn)).setCell ⟨rb, 1, none⟩ (.slice A L c)) := by subst hL; exact h.ret hl hn hf hp hd
theorem blk2p {w : World} {g t : Nat} {a b : Value} (h : Blk w g t #[a, b]) : (w.cell? ⟨g, 0, none⟩ = some a ∧ w.cell? ⟨g, 1, none⟩ = some b) ∧ w.frozen? ⟨g, 0, none⟩ = false ∧ w.frozen? ⟨g, 1, none⟩ = false := ⟨⟨h.cell 0, h.cell 1⟩, h.frozen 0, h.frozen 1⟩
end
theorem svE {w w' : World} {s6 d : Nat} {x : Sc} (h : Sv d w (K6 s6 w (.slice none 0 0)) x) (hx : Ext w w') : Sv d w' (K6 s6 w' (.slice none 0 0)) x := Sv.keep (fun b hb => hx.block b hb.2.1) (fun b hb => ⟨hb.1, Nat.lt_of_lt_of_le hb.2.1 hx.size, hb.2.2⟩) h
theorem svD {w w' : World} {s6 d g : Nat} {x : Sc} (h : Sv d w (K6 s6 w (.slice none 0 0)) x) (hg : w.grownBy w' (some g)) (hs : g < s6) : Sv d w' (K6 s6 w' (.slice none 0 0)) x := Sv.keep (fun b hb => hg.block b hb.2.1 (fun e => by injection e with e; have := hb.1; omega)) (fun b hb => ⟨hb.1, Nat.lt_of_lt_of_le hb.2.1 hg.size, hb.2.2⟩) h
theorem sv_three {w : World} {K : Nat → Prop} {a b c : Sc} (h1 : Sv 5 w K a) (h2 : Sv 5 w K b) (h3 : Sv 5 w K c) : ∀ x ∈ [a, b, c], Sv 5 w K x := fun x hx => by
 simp at hx
 rcases hx with rfl | rfl | rfl
 ·exact h1
 ·exact h2
 ·exact h3
theorem tz12abk {P : Prop} (h : P := by
 refine hlR (rs := [19]) (by kernel_rfl) (by simp) ?_
 refine AllHL.one rfl rfl (fun K hK => ?_) AllHL.nil
 go_simp
 have hx : Ext wz (wz.alloc (.cells #[.int .i64 1, .string wd1, .slice A1 n1 c1, .int .i64 0, .slice none 0 0, .int .i64 6, .string ⟨#[]⟩, .slice (some ⟨la, 0, none⟩) 2 2, .int .i64 0, .slice none 0 0, .int .i64 7, .string ⟨#[]⟩, .slice (some ⟨lb, 0, none⟩) 1 1, .int .i64 0, .slice (some ⟨lc, 0, none⟩) 1 1] 69)) := (Ext.refl _).alloc _
 obtain ⟨ld, hld⟩ : ∃ ld, wz.heap.size = ld := ⟨_, rfl⟩
 have HR : Hid (Rd (wz.alloc (.cells #[.int .i64 1, .string wd1, .slice A1 n1 c1, .int .i64 0, .slice none 0 0, .int .i64 6, .string ⟨#[]⟩, .slice (some ⟨la, 0, none⟩) 2 2, .int .i64 0, .slice none 0 0, .int .i64 7, .string ⟨#[]⟩, .slice (some ⟨lb, 0, none⟩) 1 1, .int .i64 0, .slice (some ⟨lc, 0, none⟩) 1 1] 69)) (wz.alloc (.cells #[.int .i64 1, .string wd1, .slice A1 n1 c1, .int .i64 0, .slice none 0 0, .int .i64 6, .string ⟨#[]⟩, .slice (some ⟨la, 0, none⟩) 2 2, .int .i64 0, .slice none 0 0, .int .i64 7, .string ⟨#[]⟩, .slice (some ⟨lb, 0, none⟩) 1 1, .int .i64 0, .slice (some ⟨lc, 0, none⟩) 1 1] 69)).heap.size 5 (some ⟨ld, 0, none⟩) 3 (mcells [⟨1, wd1, A1, n1, c1, 0, none, 0, 0⟩, ⟨6, ⟨#[]⟩, some ⟨la, 0, none⟩, 2, 2, 0, none, 0, 0⟩, ⟨7, ⟨#[]⟩, some ⟨lb, 0, none⟩, 1, 1, 0, some ⟨lc, 0, none⟩, 1, 1⟩])) := rd_newN wz _ _ _ 3 5 _ hld.symm (by simp [Sc.cells]) (by simp [Sc.cells])
 try rw [hld]
 replace HP := Lib.hid (HP.out.ext hx)
 replace HN := Lib.hid (HN.out.ext hx)
 replace HA := Lib.hid (HA.out.ext hx)
 replace HB := Lib.hid (HB.out.ext hx)
 replace HK := Lib.hid (HK.out.ext hx)
 replace HV1 : Hid (Sv 5 (wz.alloc (.cells #[.int .i64 1, .string wd1, .slice A1 n1 c1, .int .i64 0, .slice none 0 0, .int .i64 6, .string ⟨#[]⟩, .slice (some ⟨la, 0, none⟩) 2 2, .int .i64 0, .slice none 0 0, .int .i64 7, .string ⟨#[]⟩, .slice (some ⟨lb, 0, none⟩) 1 1, .int .i64 0, .slice (some ⟨lc, 0, none⟩) 1 1] 69)) (K6 s6 (wz.alloc (.cells #[.int .i64 1, .string wd1, .slice A1 n1 c1, .int .i64 0, .slice none 0 0, .int .i64 6, .string ⟨#[]⟩, .slice (some ⟨la, 0, none⟩) 2 2, .int .i64 0, .slice none 0 0, .int .i64 7, .string ⟨#[]⟩, .slice (some ⟨lb, 0, none⟩) 1 1, .int .i64 0, .slice (some ⟨lc, 0, none⟩) 1 1] 69)) (.slice none 0 0)) ⟨1, wd1, A1, n1, c1, 0, none, 0, 0⟩) := svE HV1.out hx
 replace HV2 : Hid (Sv 4 (wz.alloc (.cells #[.int .i64 1, .string wd1, .slice A1 n1 c1, .int .i64 0, .slice none 0 0, .int .i64 6, .string ⟨#[]⟩, .slice (some ⟨la, 0, none⟩) 2 2, .int .i64 0, .slice none 0 0, .int .i64 7, .string ⟨#[]⟩, .slice (some ⟨lb, 0, none⟩) 1 1, .int .i64 0, .slice (some ⟨lc, 0, none⟩) 1 1] 69)) (K6 s6 (wz.alloc (.cells #[.int .i64 1, .string wd1, .slice A1 n1 c1, .int .i64 0, .slice none 0 0, .int .i64 6, .string ⟨#[]⟩, .slice (some ⟨la, 0, none⟩) 2 2, .int .i64 0, .slice none 0 0, .int .i64 7, .string ⟨#[]⟩, .slice (some ⟨lb, 0, none⟩) 1 1, .int .i64 0, .slice (some ⟨lc, 0, none⟩) 1 1] 69)) (.slice none 0 0)) ⟨1, wd2, A2, n2, c2, 0, none, 0, 0⟩) := svE HV2.out hx
 refine hK.out _ _ (⟨HP.out.cells HNIL.out, HFC.out _ HN.out 0 HN0.out⟩) (fun hHeld => ?_)
 clear hK K
 (try simp only [Act.put, L1, L2, L3, L4, L5, L6])
 clear hx hld
 generalize (wz.alloc (.cells #[.int .i64 1, .string wd1, .slice A1 n1 c1, .int .i64 0, .slice none 0 0, .int .i64 6, .string ⟨#[]⟩, .slice (some ⟨la, 0, none⟩) 2 2, .int .i64 0, .slice none 0 0, .int .i64 7, .string ⟨#[]⟩, .slice (some ⟨lb, 0, none⟩) 1 1, .int .i64 0, .slice (some ⟨lc, 0, none⟩) 1 1] 69)) = wd at *
 have HVS : Hid (∀ x ∈ ([⟨1, wd1, A1, n1, c1, 0, none, 0, 0⟩, ⟨6, ⟨#[]⟩, some ⟨la, 0, none⟩, 2, 2, 0, none, 0, 0⟩, ⟨7, ⟨#[]⟩, some ⟨lb, 0, none⟩, 1, 1, 0, some ⟨lc, 0, none⟩, 1, 1⟩] : List Sc), Sv 5 wd (K6 s6 wd (.slice none 0 0)) x) := sv_three HV1.out (Sv.leaf (by decide) (by decide) (by decide) (by decide) (nm_blk (xs := [f 0, ⟨#[114]⟩]) HA.out (by simp [tcell]) (by intro u hu; simp at hu; rcases hu with rfl | rfl; exact HF0.out; decide) ⟨HLA.out, HA.out.lt, fun e => by cases e⟩)) (Sv.mk (by decide) (by decide) (by decide) (by decide) (nm_blk (xs := [⟨#[114]⟩]) HB.out (by simp [tcell]) (by intro u hu; simp at hu; subst hu; decide) ⟨HLB.out, HB.out.lt, fun e => by cases e⟩) (ss_blk (ys := [⟨1, wd2, A2, n2, c2, 0, none, 0, 0⟩]) HK.out (by simp [Sc.cells]) (by simp) (by intro u hu; simp at hu; subst hu; exact HV2.out) ⟨HLC.out, HK.out.lt, fun e => by cases e⟩))
 clear HV1 HV2 HA HB HK HLA HLB HLC
 refine hlR (rs := [20]) (by kernel_rfl) (by simp) ?_
 refine AllHL.one rfl rfl (fun K hK => ?_) AllHL.nil
 refine stepStmS (w := wd) (B := s6) rfl _ _ rfl (.slice none 0 0) 0 [] rfl (HP.out.row' HNIL.out) HP.out.hp.2.2.1 (some ⟨ld, 0, none⟩) 3 3 [⟨1, wd1, A1, n1, c1, 0, none, 0, 0⟩, ⟨6, ⟨#[]⟩, some ⟨la, 0, none⟩, 2, 2, 0, none, 0, 0⟩, ⟨7, ⟨#[]⟩, some ⟨lb, 0, none⟩, 1, 1, 0, some ⟨lc, 0, none⟩, 1, 1⟩] rfl HR.out (by decide) ?_
 intro v9 w9 g1 g2 g3
 obtain ⟨A9, c9, rfl, -⟩ := own_slice g1
 obtain ⟨hp9, hpg⟩ := HP.out.app' HNIL.out HVS.out rfl g1 g2 g3
 rw [Nat.zero_add] at hpg
 have HP9 := Lib.hid hpg
 have HN9 : Hid (Blk w9 nb 9 ncs) := HN.out.grown g2 (fun q hq => by cases hq)
 clear hpg g1 g2 g3
 refine hK.out _ _ (⟨(blk2p hp9).1, HFC.out _ HN9.out 0 HN0.out⟩) (fun hHeld => ?_)
 clear hK K
 (try simp only [Act.put, L1, L2, L3, L4, L5, L6])
 (refine hlT 21 (v := ?_) ?_ ?_; rotate_left; · (intro w hSw; (try dsimp only at hSw); go_simp; all_goals with_reducible rfl))
 (try simp only [Act.put, L1, L2, L3, L4, L5, L6])
 obtain ⟨⟨q0, q1⟩, f0, f1⟩ := blk2p hp9
 refine hlR (rs := [22]) (by kernel_rfl) (by simp) ?_
 refine AllHL.last rfl (fun K hK => ?_) AllHL.nil
 go_simp
 refine hK.out _ _ ?_
 clear hK K
 (try simp only [Act.put, L1, L2, L3, L4, L5, L6])
 refine hlD (by kernel_rfl) ?_ _
 exact HQ.out _ _ _ _ _ _ _ _ _ _ _ _ _ _ _ _ _ _ _ _ _ _ A9 c9 _ _ rfl HP9.out) : P := h
theorem tz12ab {P : Prop} (h : P := by
 refine hlR (rs := [17]) (by kernel_rfl) (by simp) ?_
 refine AllHL.one rfl rfl (fun K hK => ?_) AllHL.nil
 go_simp
 have hx : Ext wz (wz.alloc (.cells #[.int .i64 1, .string wd2, .slice A2 n2 c2, .int .i64 0, .slice none 0 0] 69)) := (Ext.refl _).alloc _
 obtain ⟨lc, hlc⟩ : ∃ lc, wz.heap.size = lc := ⟨_, rfl⟩
 have HNW : Hid (Blk (wz.alloc (.cells #[.int .i64 1, .string wd2, .slice A2 n2 c2, .int .i64 0, .slice none 0 0] 69)) lc 69 #[.int .i64 1, .string wd2, .slice A2 n2 c2, .int .i64 0, .slice none 0 0]) := by rw [← hlc]; exact Blk.new _ _ _
 have HLC : Hid (s6 ≤ lc) := by rw [← hlc]; exact HP.out.hp.2.2.1
 try rw [hlc]
 replace HP := Lib.hid (HP.out.ext hx)
 replace HN := Lib.hid (HN.out.ext hx)
 replace HA := Lib.hid (HA.out.ext hx)
 replace HB := Lib.hid (HB.out.ext hx)
 replace HV1 : Hid (Sv 5 (wz.alloc (.cells #[.int .i64 1, .string wd2, .slice A2 n2 c2, .int .i64 0, .slice none 0 0] 69)) (K6 s6 (wz.alloc (.cells #[.int .i64 1, .string wd2, .slice A2 n2 c2, .int .i64 0, .slice none 0 0] 69)) (.slice none 0 0)) ⟨1, wd1, A1, n1, c1, 0, none, 0, 0⟩) := svE HV1.out hx
 replace HV2 : Hid (Sv 4 (wz.alloc (.cells #[.int .i64 1, .string wd2, .slice A2 n2 c2, .int .i64 0, .slice none 0 0] 69)) (K6 s6 (wz.alloc (.cells #[.int .i64 1, .string wd2, .slice A2 n2 c2, .int .i64 0, .slice none 0 0] 69)) (.slice none 0 0)) ⟨1, wd2, A2, n2, c2, 0, none, 0, 0⟩) := svE HV2.out hx
 have HK := HNW
 refine hK.out _ _ (⟨HP.out.cells HNIL.out, HFC.out _ HN.out 0 HN0.out⟩) (fun hHeld => ?_)
 clear hK K
 (try simp only [Act.put, L1, L2, L3, L4, L5, L6])
 clear HNW hx hlc
 generalize (wz.alloc (.cells #[.int .i64 1, .string wd2, .slice A2 n2 c2, .int .i64 0, .slice none 0 0] 69)) = wz at *
 (refine hlT 18 (v := ?_) ?_ ?_; rotate_left; · (intro w hSw; (try dsimp only at hSw); go_simp; all_goals with_reducible rfl))
 (try simp only [Act.put, L1, L2, L3, L4, L5, L6])
 exact tz12abk) : P := h
theorem tz1ab {P : Prop} (h : P := by
 refine hlR (rs := [16]) (by kernel_rfl) (by simp) ?_
 refine AllHL.one rfl rfl (fun K hK => ?_) AllHL.nil
 go_simp
 refine (l17Gate_any g _ n c5 _ HP.out.cur HP.out.ns hnn).mono ?_
 rintro e wz ⟨wd2, A2, n2, c2, xs2, rfl, ⟨hp1, hp2, hp3⟩, hwd, hown, hsz, hCa, hGa⟩
 have HVN : Hid (Sv 4 wz (K6 s6 wz (.slice none 0 0)) ⟨1, wd2, A2, n2, c2, 0, none, 0, 0⟩) := Sv.leaf hp1 (by omega) hp3 hwd (nm_own hown hsz fun b h1 h2 => ⟨Nat.le_trans HP.out.hp.2.2.1 h1, h2, fun e => by cases e⟩)
 replace HA := Lib.hid (HA.out.grown hGa (fun q hq => by injection hq; have := HP.out.hp; have := HLA.out; omega))
 replace HB := Lib.hid (HB.out.grown hGa (fun q hq => by injection hq; have := HP.out.hp; have := HLB.out; omega))
 replace HV1 : Hid (Sv 5 wz (K6 s6 wz (.slice none 0 0)) ⟨1, wd1, A1, n1, c1, 0, none, 0, 0⟩) := svD HV1.out hGa (by have := HP.out.hp; omega)
 replace HN := Lib.hid (HN.out.grown hGa (fun q hq => by injection hq with hq; have := HNG.out; omega))
 replace HP := Lib.hid (HP.out.draw hCa hGa)
 have HV2 := HVN
 clear HVN hp1 hp2 hp3 hwd hown hsz hCa hGa
 refine hK.out _ _ (⟨HP.out.cells HNIL.out, HFC.out _ HN.out 0 HN0.out⟩) (fun hHeld => ?_)
 clear hK K
 (try simp only [Act.put, L1, L2, L3, L4, L5, L6])
 exact tz12ab) : P := h
theorem tz12ak {P : Prop} (h : P := by
 refine hlR (rs := [12]) (by kernel_rfl) (by simp) ?_
 refine AllHL.one rfl rfl (fun K hK => ?_) AllHL.nil
 go_simp
 have hx : Ext wz (wz.alloc (.cells #[.string ⟨#[114]⟩] 9)) := (Ext.refl _).alloc _
 obtain ⟨lb, hlb⟩ : ∃ lb, wz.heap.size = lb := ⟨_, rfl⟩
 have HNW : Hid (Blk (wz.alloc (.cells #[.string ⟨#[114]⟩] 9)) lb 9 #[.string ⟨#[114]⟩]) := by rw [← hlb]; exact Blk.new _ _ _
 have HLB : Hid (s6 ≤ lb) := by rw [← hlb]; exact HP.out.hp.2.2.1
 try rw [hlb]
 replace HP := Lib.hid (HP.out.ext hx)
 replace HN := Lib.hid (HN.out.ext hx)
 replace HA := Lib.hid (HA.out.ext hx)
 replace HK := Lib.hid (HK.out.ext hx)
 replace HV1 : Hid (Sv 5 (wz.alloc (.cells #[.string ⟨#[114]⟩] 9)) (K6 s6 (wz.alloc (.cells #[.string ⟨#[114]⟩] 9)) (.slice none 0 0)) ⟨1, wd1, A1, n1, c1, 0, none, 0, 0⟩) := svE HV1.out hx
 replace HV2 : Hid (Sv 4 (wz.alloc (.cells #[.string ⟨#[114]⟩] 9)) (K6 s6 (wz.alloc (.cells #[.string ⟨#[114]⟩] 9)) (.slice none 0 0)) ⟨1, wd2, A2, n2, c2, 0, none, 0, 0⟩) := svE HV2.out hx
 have HB := HNW
 refine hK.out _ _ (⟨HP.out.cells HNIL.out, HFC.out _ HN.out 0 HN0.out⟩) (fun hHeld => ?_)
 clear hK K
 (try simp only [Act.put, L1, L2, L3, L4, L5, L6])
 clear HNW hx hlb
 generalize (wz.alloc (.cells #[.string ⟨#[114]⟩] 9)) = wz at *
 (refine hlT 18 (v := ?_) ?_ ?_; rotate_left; · (intro w hSw; (try dsimp only at hSw); go_simp; all_goals with_reducible rfl))
 (try simp only [Act.put, L1, L2, L3, L4, L5, L6])
 exact tz12abk) : P := h
theorem tz12a {P : Prop} (h : P := by
 refine hlR (rs := [12, 17]) (by kernel_rfl) (by simp) ?_
 refine AllHL.one rfl rfl (fun K hK => ?_) (AllHL.one rfl rfl (fun K hK => ?_) AllHL.nil)
 ·skip
  go_simp
  have hx : Ext wz (wz.alloc (.cells #[.string ⟨#[114]⟩] 9)) := (Ext.refl _).alloc _
  obtain ⟨lb, hlb⟩ : ∃ lb, wz.heap.size = lb := ⟨_, rfl⟩
  have HNW : Hid (Blk (wz.alloc (.cells #[.string ⟨#[114]⟩] 9)) lb 9 #[.string ⟨#[114]⟩]) := by rw [← hlb]; exact Blk.new _ _ _
  have HLB : Hid (s6 ≤ lb) := by rw [← hlb]; exact HP.out.hp.2.2.1
  try rw [hlb]
  replace HP := Lib.hid (HP.out.ext hx)
  replace HN := Lib.hid (HN.out.ext hx)
  replace HA := Lib.hid (HA.out.ext hx)
  replace HV1 : Hid (Sv 5 (wz.alloc (.cells #[.string ⟨#[114]⟩] 9)) (K6 s6 (wz.alloc (.cells #[.string ⟨#[114]⟩] 9)) (.slice none 0 0)) ⟨1, wd1, A1, n1, c1, 0, none, 0, 0⟩) := svE HV1.out hx
  replace HV2 : Hid (Sv 4 (wz.alloc (.cells #[.string ⟨#[114]⟩] 9)) (K6 s6 (wz.alloc (.cells #[.string ⟨#[114]⟩] 9)) (.slice none 0 0)) ⟨1, wd2, A2, n2, c2, 0, none, 0, 0⟩) := svE HV2.out hx
  have HB := HNW
  refine hK.out _ _ (⟨HP.out.cells HNIL.out, HFC.out _ HN.out 0 HN0.out⟩) (fun hHeld => ?_)
  clear hK K
  (try simp only [Act.put, L1, L2, L3, L4, L5, L6])
  clear HNW hx hlb
  generalize (wz.alloc (.cells #[.string ⟨#[114]⟩] 9)) = wz at *
  exact tz12ab
 ·skip
  go_simp
  have hx : Ext wz (wz.alloc (.cells #[.int .i64 1, .string wd2, .slice A2 n2 c2, .int .i64 0, .slice none 0 0] 69)) := (Ext.refl _).alloc _
  obtain ⟨lc, hlc⟩ : ∃ lc, wz.heap.size = lc := ⟨_, rfl⟩
  have HNW : Hid (Blk (wz.alloc (.cells #[.int .i64 1, .string wd2, .slice A2 n2 c2, .int .i64 0, .slice none 0 0] 69)) lc 69 #[.int .i64 1, .string wd2, .slice A2 n2 c2, .int .i64 0, .slice none 0 0]) := by rw [← hlc]; exact Blk.new _ _ _
  have HLC : Hid (s6 ≤ lc) := by rw [← hlc]; exact HP.out.hp.2.2.1
  try rw [hlc]
  replace HP := Lib.hid (HP.out.ext hx)
  replace HN := Lib.hid (HN.out.ext hx)
  replace HA := Lib.hid (HA.out.ext hx)
  replace HV1 : Hid (Sv 5 (wz.alloc (.cells #[.int .i64 1, .string wd2, .slice A2 n2 c2, .int .i64 0, .slice none 0 0] 69)) (K6 s6 (wz.alloc (.cells #[.int .i64 1, .string wd2, .slice A2 n2 c2, .int .i64 0, .slice none 0 0] 69)) (.slice none 0 0)) ⟨1, wd1, A1, n1, c1, 0, none, 0, 0⟩) := svE HV1.out hx
  replace HV2 : Hid (Sv 4 (wz.alloc (.cells #[.int .i64 1, .string wd2, .slice A2 n2 c2, .int .i64 0, .slice none 0 0] 69)) (K6 s6 (wz.alloc (.cells #[.int .i64 1, .string wd2, .slice A2 n2 c2, .int .i64 0, .slice none 0 0] 69)) (.slice none 0 0)) ⟨1, wd2, A2, n2, c2, 0, none, 0, 0⟩) := svE HV2.out hx
  have HK := HNW
  refine hK.out _ _ (⟨HP.out.cells HNIL.out, HFC.out _ HN.out 0 HN0.out⟩) (fun hHeld => ?_)
  clear hK K
  (try simp only [Act.put, L1, L2, L3, L4, L5, L6])
  clear HNW hx hlc
  generalize (wz.alloc (.cells #[.int .i64 1, .string wd2, .slice A2 n2 c2, .int .i64 0, .slice none 0 0] 69)) = wz at *
  exact tz12ak) : P := h
theorem tz1a {P : Prop} (h : P := by
 refine hlR (rs := [12, 16]) (by kernel_rfl) (by simp) ?_
 refine AllHL.one rfl rfl (fun K hK => ?_) (AllHL.one rfl rfl (fun K hK => ?_) AllHL.nil)
 ·skip
  go_simp
  have hx : Ext wz (wz.alloc (.cells #[.string ⟨#[114]⟩] 9)) := (Ext.refl _).alloc _
  obtain ⟨lb, hlb⟩ : ∃ lb, wz.heap.size = lb := ⟨_, rfl⟩
  have HNW : Hid (Blk (wz.alloc (.cells #[.string ⟨#[114]⟩] 9)) lb 9 #[.string ⟨#[114]⟩]) := by rw [← hlb]; exact Blk.new _ _ _
  have HLB : Hid (s6 ≤ lb) := by rw [← hlb]; exact HP.out.hp.2.2.1
  try rw [hlb]
  replace HP := Lib.hid (HP.out.ext hx)
  replace HN := Lib.hid (HN.out.ext hx)
  replace HA := Lib.hid (HA.out.ext hx)
  replace HV1 : Hid (Sv 5 (wz.alloc (.cells #[.string ⟨#[114]⟩] 9)) (K6 s6 (wz.alloc (.cells #[.string ⟨#[114]⟩] 9)) (.slice none 0 0)) ⟨1, wd1, A1, n1, c1, 0, none, 0, 0⟩) := svE HV1.out hx
  have HB := HNW
  refine hK.out _ _ (⟨HP.out.cells HNIL.out, HFC.out _ HN.out 0 HN0.out⟩) (fun hHeld => ?_)
  clear hK K
  (try simp only [Act.put, L1, L2, L3, L4, L5, L6])
  clear HNW hx hlb
  generalize (wz.alloc (.cells #[.string ⟨#[114]⟩] 9)) = wz at *
  exact tz1ab
 ·skip
  go_simp
  refine (l17Gate_any g _ n c5 _ HP.out.cur HP.out.ns hnn).mono ?_
  rintro e wz ⟨wd2, A2, n2, c2, xs2, rfl, ⟨hp1, hp2, hp3⟩, hwd, hown, hsz, hCa, hGa⟩
  have HVN : Hid (Sv 4 wz (K6 s6 wz (.slice none 0 0)) ⟨1, wd2, A2, n2, c2, 0, none, 0, 0⟩) := Sv.leaf hp1 (by omega) hp3 hwd (nm_own hown hsz fun b h1 h2 => ⟨Nat.le_trans HP.out.hp.2.2.1 h1, h2, fun e => by cases e⟩)
  replace HA := Lib.hid (HA.out.grown hGa (fun q hq => by injection hq; have := HP.out.hp; have := HLA.out; omega))
  replace HV1 : Hid (Sv 5 wz (K6 s6 wz (.slice none 0 0)) ⟨1, wd1, A1, n1, c1, 0, none, 0, 0⟩) := svD HV1.out hGa (by have := HP.out.hp; omega)
  replace HN := Lib.hid (HN.out.grown hGa (fun q hq => by injection hq with hq; have := HNG.out; omega))
  replace HP := Lib.hid (HP.out.draw hCa hGa)
  have HV2 := HVN
  clear HVN hp1 hp2 hp3 hwd hown hsz hCa hGa
  refine hK.out _ _ (⟨HP.out.cells HNIL.out, HFC.out _ HN.out 0 HN0.out⟩) (fun hHeld => ?_)
  clear hK K
  (try simp only [Act.put, L1, L2, L3, L4, L5, L6])
  exact tz12a) : P := h
theorem tz12bk {P : Prop} (h : P := by
 refine hlR (rs := [10]) (by kernel_rfl) (by simp) ?_
 refine AllHL.one rfl rfl (fun K hK => ?_) AllHL.nil
 go_simp
 have hx : Ext wz (wz.alloc (.cells #[.string (f 0), .string ⟨#[114]⟩] 9)) := (Ext.refl _).alloc _
 obtain ⟨la, hla⟩ : ∃ la, wz.heap.size = la := ⟨_, rfl⟩
 have HNW : Hid (Blk (wz.alloc (.cells #[.string (f 0), .string ⟨#[114]⟩] 9)) la 9 #[.string (f 0), .string ⟨#[114]⟩]) := by rw [← hla]; exact Blk.new _ _ _
 have HLA : Hid (s6 ≤ la) := by rw [← hla]; exact HP.out.hp.2.2.1
 try rw [hla]
 replace HP := Lib.hid (HP.out.ext hx)
 replace HN := Lib.hid (HN.out.ext hx)
 replace HB := Lib.hid (HB.out.ext hx)
 replace HK := Lib.hid (HK.out.ext hx)
 replace HV1 : Hid (Sv 5 (wz.alloc (.cells #[.string (f 0), .string ⟨#[114]⟩] 9)) (K6 s6 (wz.alloc (.cells #[.string (f 0), .string ⟨#[114]⟩] 9)) (.slice none 0 0)) ⟨1, wd1, A1, n1, c1, 0, none, 0, 0⟩) := svE HV1.out hx
 replace HV2 : Hid (Sv 4 (wz.alloc (.cells #[.string (f 0), .string ⟨#[114]⟩] 9)) (K6 s6 (wz.alloc (.cells #[.string (f 0), .string ⟨#[114]⟩] 9)) (.slice none 0 0)) ⟨1, wd2, A2, n2, c2, 0, none, 0, 0⟩) := svE HV2.out hx
 have HA := HNW
 refine hK.out _ _ (⟨HP.out.cells HNIL.out, HFC.out _ HN.out 0 HN0.out⟩) (fun hHeld => ?_)
 clear hK K
 (try simp only [Act.put, L1, L2, L3, L4, L5, L6])
 clear HNW hx hla
 generalize (wz.alloc (.cells #[.string (f 0), .string ⟨#[114]⟩] 9)) = wz at *
 (refine hlT 11 (v := ?_) ?_ ?_; rotate_left; · (intro w hSw; (try dsimp only at hSw); go_simp; all_goals with_reducible rfl))
 (try simp only [Act.put, L1, L2, L3, L4, L5, L6])
 exact tz12abk) : P := h
theorem tz12b {P : Prop} (h : P := by
 refine hlR (rs := [10, 17]) (by kernel_rfl) (by simp) ?_
 refine AllHL.one rfl rfl (fun K hK => ?_) (AllHL.one rfl rfl (fun K hK => ?_) AllHL.nil)
 ·skip
  go_simp
  have hx : Ext wz (wz.alloc (.cells #[.string (f 0), .string ⟨#[114]⟩] 9)) := (Ext.refl _).alloc _
  obtain ⟨la, hla⟩ : ∃ la, wz.heap.size = la := ⟨_, rfl⟩
  have HNW : Hid (Blk (wz.alloc (.cells #[.string (f 0), .string ⟨#[114]⟩] 9)) la 9 #[.string (f 0), .string ⟨#[114]⟩]) := by rw [← hla]; exact Blk.new _ _ _
  have HLA : Hid (s6 ≤ la) := by rw [← hla]; exact HP.out.hp.2.2.1
  try rw [hla]
  replace HP := Lib.hid (HP.out.ext hx)
  replace HN := Lib.hid (HN.out.ext hx)
  replace HB := Lib.hid (HB.out.ext hx)
  replace HV1 : Hid (Sv 5 (wz.alloc (.cells #[.string (f 0), .string ⟨#[114]⟩] 9)) (K6 s6 (wz.alloc (.cells #[.string (f 0), .string ⟨#[114]⟩] 9)) (.slice none 0 0)) ⟨1, wd1, A1, n1, c1, 0, none, 0, 0⟩) := svE HV1.out hx
  replace HV2 : Hid (Sv 4 (wz.alloc (.cells #[.string (f 0), .string ⟨#[114]⟩] 9)) (K6 s6 (wz.alloc (.cells #[.string (f 0), .string ⟨#[114]⟩] 9)) (.slice none 0 0)) ⟨1, wd2, A2, n2, c2, 0, none, 0, 0⟩) := svE HV2.out hx
  have HA := HNW
  refine hK.out _ _ (⟨HP.out.cells HNIL.out, HFC.out _ HN.out 0 HN0.out⟩) (fun hHeld => ?_)
  clear hK K
  (try simp only [Act.put, L1, L2, L3, L4, L5, L6])
  clear HNW hx hla
  generalize (wz.alloc (.cells #[.string (f 0), .string ⟨#[114]⟩] 9)) = wz at *
  (refine hlT 11 (v := ?_) ?_ ?_; rotate_left; · (intro w hSw; (try dsimp only at hSw); go_simp; all_goals with_reducible rfl))
  (try simp only [Act.put, L1, L2, L3, L4, L5, L6])
  exact tz12ab
 ·skip
  go_simp
  have hx : Ext wz (wz.alloc (.cells #[.int .i64 1, .string wd2, .slice A2 n2 c2, .int .i64 0, .slice none 0 0] 69)) := (Ext.refl _).alloc _
  obtain ⟨lc, hlc⟩ : ∃ lc, wz.heap.size = lc := ⟨_, rfl⟩
  have HNW : Hid (Blk (wz.alloc (.cells #[.int .i64 1, .string wd2, .slice A2 n2 c2, .int .i64 0, .slice none 0 0] 69)) lc 69 #[.int .i64 1, .string wd2, .slice A2 n2 c2, .int .i64 0, .slice none 0 0]) := by rw [← hlc]; exact Blk.new _ _ _
  have HLC : Hid (s6 ≤ lc) := by rw [← hlc]; exact HP.out.hp.2.2.1
  try rw [hlc]
  replace HP := Lib.hid (HP.out.ext hx)
  replace HN := Lib.hid (HN.out.ext hx)
  replace HB := Lib.hid (HB.out.ext hx)
  replace HV1 : Hid (Sv 5 (wz.alloc (.cells #[.int .i64 1, .string wd2, .slice A2 n2 c2, .int .i64 0, .slice none 0 0] 69)) (K6 s6 (wz.alloc (.cells #[.int .i64 1, .string wd2, .slice A2 n2 c2, .int .i64 0, .slice none 0 0] 69)) (.slice none 0 0)) ⟨1, wd1, A1, n1, c1, 0, none, 0, 0⟩) := svE HV1.out hx
  replace HV2 : Hid (Sv 4 (wz.alloc (.cells #[.int .i64 1, .string wd2, .slice A2 n2 c2, .int .i64 0, .slice none 0 0] 69)) (K6 s6 (wz.alloc (.cells #[.int .i64 1, .string wd2, .slice A2 n2 c2, .int .i64 0, .slice none 0 0] 69)) (.slice none 0 0)) ⟨1, wd2, A2, n2, c2, 0, none, 0, 0⟩) := svE HV2.out hx
  have HK := HNW
  refine hK.out _ _ (⟨HP.out.cells HNIL.out, HFC.out _ HN.out 0 HN0.out⟩) (fun hHeld => ?_)
  clear hK K
  (try simp only [Act.put, L1, L2, L3, L4, L5, L6])
  clear HNW hx hlc
  generalize (wz.alloc (.cells #[.int .i64 1, .string wd2, .slice A2 n2 c2, .int .i64 0, .slice none 0 0] 69)) = wz at *
  (refine hlT 18 (v := ?_) ?_ ?_; rotate_left; · (intro w hSw; (try dsimp only at hSw); go_simp; all_goals with_reducible rfl))
  (try simp only [Act.put, L1, L2, L3, L4, L5, L6])
  exact tz12bk) : P := h
theorem tz1b {P : Prop} (h : P := by
 refine hlR (rs := [10, 16]) (by kernel_rfl) (by simp) ?_
 refine AllHL.one rfl rfl (fun K hK => ?_) (AllHL.one rfl rfl (fun K hK => ?_) AllHL.nil)
 ·skip
  go_simp
  have hx : Ext wz (wz.alloc (.cells #[.string (f 0), .string ⟨#[114]⟩] 9)) := (Ext.refl _).alloc _
  obtain ⟨la, hla⟩ : ∃ la, wz.heap.size = la := ⟨_, rfl⟩
  have HNW : Hid (Blk (wz.alloc (.cells #[.string (f 0), .string ⟨#[114]⟩] 9)) la 9 #[.string (f 0), .string ⟨#[114]⟩]) := by rw [← hla]; exact Blk.new _ _ _
  have HLA : Hid (s6 ≤ la) := by rw [← hla]; exact HP.out.hp.2.2.1
  try rw [hla]
  replace HP := Lib.hid (HP.out.ext hx)
  replace HN := Lib.hid (HN.out.ext hx)
  replace HB := Lib.hid (HB.out.ext hx)
  replace HV1 : Hid (Sv 5 (wz.alloc (.cells #[.string (f 0), .string ⟨#[114]⟩] 9)) (K6 s6 (wz.alloc (.cells #[.string (f 0), .string ⟨#[114]⟩] 9)) (.slice none 0 0)) ⟨1, wd1, A1, n1, c1, 0, none, 0, 0⟩) := svE HV1.out hx
  have HA := HNW
  refine hK.out _ _ (⟨HP.out.cells HNIL.out, HFC.out _ HN.out 0 HN0.out⟩) (fun hHeld => ?_)
  clear hK K
  (try simp only [Act.put, L1, L2, L3, L4, L5, L6])
  clear HNW hx hla
  generalize (wz.alloc (.cells #[.string (f 0), .string ⟨#[114]⟩] 9)) = wz at *
  (refine hlT 11 (v := ?_) ?_ ?_; rotate_left; · (intro w hSw; (try dsimp only at hSw); go_simp; all_goals with_reducible rfl))
  (try simp only [Act.put, L1, L2, L3, L4, L5, L6])
  exact tz1ab
 ·skip
  go_simp
  refine (l17Gate_any g _ n c5 _ HP.out.cur HP.out.ns hnn).mono ?_
  rintro e wz ⟨wd2, A2, n2, c2, xs2, rfl, ⟨hp1, hp2, hp3⟩, hwd, hown, hsz, hCa, hGa⟩
  have HVN : Hid (Sv 4 wz (K6 s6 wz (.slice none 0 0)) ⟨1, wd2, A2, n2, c2, 0, none, 0, 0⟩) := Sv.leaf hp1 (by omega) hp3 hwd (nm_own hown hsz fun b h1 h2 => ⟨Nat.le_trans HP.out.hp.2.2.1 h1, h2, fun e => by cases e⟩)
  replace HB := Lib.hid (HB.out.grown hGa (fun q hq => by injection hq; have := HP.out.hp; have := HLB.out; omega))
  replace HV1 : Hid (Sv 5 wz (K6 s6 wz (.slice none 0 0)) ⟨1, wd1, A1, n1, c1, 0, none, 0, 0⟩) := svD HV1.out hGa (by have := HP.out.hp; omega)
  replace HN := Lib.hid (HN.out.grown hGa (fun q hq => by injection hq with hq; have := HNG.out; omega))
  replace HP := Lib.hid (HP.out.draw hCa hGa)
  have HV2 := HVN
  clear HVN hp1 hp2 hp3 hwd hown hsz hCa hGa
  refine hK.out _ _ (⟨HP.out.cells HNIL.out, HFC.out _ HN.out 0 HN0.out⟩) (fun hHeld => ?_)
  clear hK K
  (try simp only [Act.put, L1, L2, L3, L4, L5, L6])
  exact tz12b) : P := h
theorem tz12k {P : Prop} (h : P := by
 refine hlR (rs := [10, 12]) (by kernel_rfl) (by simp) ?_
 refine AllHL.one rfl rfl (fun K hK => ?_) (AllHL.one rfl rfl (fun K hK => ?_) AllHL.nil)
 ·skip
  go_simp
  have hx : Ext wz (wz.alloc (.cells #[.string (f 0), .string ⟨#[114]⟩] 9)) := (Ext.refl _).alloc _
  obtain ⟨la, hla⟩ : ∃ la, wz.heap.size = la := ⟨_, rfl⟩
  have HNW : Hid (Blk (wz.alloc (.cells #[.string (f 0), .string ⟨#[114]⟩] 9)) la 9 #[.string (f 0), .string ⟨#[114]⟩]) := by rw [← hla]; exact Blk.new _ _ _
  have HLA : Hid (s6 ≤ la) := by rw [← hla]; exact HP.out.hp.2.2.1
  try rw [hla]
  replace HP := Lib.hid (HP.out.ext hx)
  replace HN := Lib.hid (HN.out.ext hx)
  replace HK := Lib.hid (HK.out.ext hx)
  replace HV1 : Hid (Sv 5 (wz.alloc (.cells #[.string (f 0), .string ⟨#[114]⟩] 9)) (K6 s6 (wz.alloc (.cells #[.string (f 0), .string ⟨#[114]⟩] 9)) (.slice none 0 0)) ⟨1, wd1, A1, n1, c1, 0, none, 0, 0⟩) := svE HV1.out hx
  replace HV2 : Hid (Sv 4 (wz.alloc (.cells #[.string (f 0), .string ⟨#[114]⟩] 9)) (K6 s6 (wz.alloc (.cells #[.string (f 0), .string ⟨#[114]⟩] 9)) (.slice none 0 0)) ⟨1, wd2, A2, n2, c2, 0, none, 0, 0⟩) := svE HV2.out hx
  have HA := HNW
  refine hK.out _ _ (⟨HP.out.cells HNIL.out, HFC.out _ HN.out 0 HN0.out⟩) (fun hHeld => ?_)
  clear hK K
  (try simp only [Act.put, L1, L2, L3, L4, L5, L6])
  clear HNW hx hla
  generalize (wz.alloc (.cells #[.string (f 0), .string ⟨#[114]⟩] 9)) = wz at *
  (refine hlT 11 (v := ?_) ?_ ?_; rotate_left; · (intro w hSw; (try dsimp only at hSw); go_simp; all_goals with_reducible rfl))
  (try simp only [Act.put, L1, L2, L3, L4, L5, L6])
  exact tz12ak
 ·skip
  go_simp
  have hx : Ext wz (wz.alloc (.cells #[.string ⟨#[114]⟩] 9)) := (Ext.refl _).alloc _
  obtain ⟨lb, hlb⟩ : ∃ lb, wz.heap.size = lb := ⟨_, rfl⟩
  have HNW : Hid (Blk (wz.alloc (.cells #[.string ⟨#[114]⟩] 9)) lb 9 #[.string ⟨#[114]⟩]) := by rw [← hlb]; exact Blk.new _ _ _
  have HLB : Hid (s6 ≤ lb) := by rw [← hlb]; exact HP.out.hp.2.2.1
  try rw [hlb]
  replace HP := Lib.hid (HP.out.ext hx)
  replace HN := Lib.hid (HN.out.ext hx)
  replace HK := Lib.hid (HK.out.ext hx)
  replace HV1 : Hid (Sv 5 (wz.alloc (.cells #[.string ⟨#[114]⟩] 9)) (K6 s6 (wz.alloc (.cells #[.string ⟨#[114]⟩] 9)) (.slice none 0 0)) ⟨1, wd1, A1, n1, c1, 0, none, 0, 0⟩) := svE HV1.out hx
  replace HV2 : Hid (Sv 4 (wz.alloc (.cells #[.string ⟨#[114]⟩] 9)) (K6 s6 (wz.alloc (.cells #[.string ⟨#[114]⟩] 9)) (.slice none 0 0)) ⟨1, wd2, A2, n2, c2, 0, none, 0, 0⟩) := svE HV2.out hx
  have HB := HNW
  refine hK.out _ _ (⟨HP.out.cells HNIL.out, HFC.out _ HN.out 0 HN0.out⟩) (fun hHeld => ?_)
  clear hK K
  (try simp only [Act.put, L1, L2, L3, L4, L5, L6])
  clear HNW hx hlb
  generalize (wz.alloc (.cells #[.string ⟨#[114]⟩] 9)) = wz at *
  (refine hlT 18 (v := ?_) ?_ ?_; rotate_left; · (intro w hSw; (try dsimp only at hSw); go_simp; all_goals with_reducible rfl))
  (try simp only [Act.put, L1, L2, L3, L4, L5, L6])
  exact tz12bk) : P := h
theorem tz12 {P : Prop} (h : P := by
 refine hlR (rs := [10, 12, 17]) (by kernel_rfl) (by simp) ?_
 refine AllHL.one rfl rfl (fun K hK => ?_) (AllHL.one rfl rfl (fun K hK => ?_) (AllHL.one rfl rfl (fun K hK => ?_) AllHL.nil))
 ·skip
  go_simp
  have hx : Ext wz (wz.alloc (.cells #[.string (f 0), .string ⟨#[114]⟩] 9)) := (Ext.refl _).alloc _
  obtain ⟨la, hla⟩ : ∃ la, wz.heap.size = la := ⟨_, rfl⟩
  have HNW : Hid (Blk (wz.alloc (.cells #[.string (f 0), .string ⟨#[114]⟩] 9)) la 9 #[.string (f 0), .string ⟨#[114]⟩]) := by rw [← hla]; exact Blk.new _ _ _
  have HLA : Hid (s6 ≤ la) := by rw [← hla]; exact HP.out.hp.2.2.1
  try rw [hla]
  replace HP := Lib.hid (HP.out.ext hx)
  replace HN := Lib.hid (HN.out.ext hx)
  replace HV1 : Hid (Sv 5 (wz.alloc (.cells #[.string (f 0), .string ⟨#[114]⟩] 9)) (K6 s6 (wz.alloc (.cells #[.string (f 0), .string ⟨#[114]⟩] 9)) (.slice none 0 0)) ⟨1, wd1, A1, n1, c1, 0, none, 0, 0⟩) := svE HV1.out hx
  replace HV2 : Hid (Sv 4 (wz.alloc (.cells #[.string (f 0), .string ⟨#[114]⟩] 9)) (K6 s6 (wz.alloc (.cells #[.string (f 0), .string ⟨#[114]⟩] 9)) (.slice none 0 0)) ⟨1, wd2, A2, n2, c2, 0, none, 0, 0⟩) := svE HV2.out hx
  have HA := HNW
  refine hK.out _ _ (⟨HP.out.cells HNIL.out, HFC.out _ HN.out 0 HN0.out⟩) (fun hHeld => ?_)
  clear hK K
  (try simp only [Act.put, L1, L2, L3, L4, L5, L6])
  clear HNW hx hla
  generalize (wz.alloc (.cells #[.string (f 0), .string ⟨#[114]⟩] 9)) = wz at *
  (refine hlT 11 (v := ?_) ?_ ?_; rotate_left; · (intro w hSw; (try dsimp only at hSw); go_simp; all_goals with_reducible rfl))
  (try simp only [Act.put, L1, L2, L3, L4, L5, L6])
  exact tz12a
 ·skip
  go_simp
  have hx : Ext wz (wz.alloc (.cells #[.string ⟨#[114]⟩] 9)) := (Ext.refl _).alloc _
  obtain ⟨lb, hlb⟩ : ∃ lb, wz.heap.size = lb := ⟨_, rfl⟩
  have HNW : Hid (Blk (wz.alloc (.cells #[.string ⟨#[114]⟩] 9)) lb 9 #[.string ⟨#[114]⟩]) := by rw [← hlb]; exact Blk.new _ _ _
  have HLB : Hid (s6 ≤ lb) := by rw [← hlb]; exact HP.out.hp.2.2.1
  try rw [hlb]
  replace HP := Lib.hid (HP.out.ext hx)
  replace HN := Lib.hid (HN.out.ext hx)
  replace HV1 : Hid (Sv 5 (wz.alloc (.cells #[.string ⟨#[114]⟩] 9)) (K6 s6 (wz.alloc (.cells #[.string ⟨#[114]⟩] 9)) (.slice none 0 0)) ⟨1, wd1, A1, n1, c1, 0, none, 0, 0⟩) := svE HV1.out hx
  replace HV2 : Hid (Sv 4 (wz.alloc (.cells #[.string ⟨#[114]⟩] 9)) (K6 s6 (wz.alloc (.cells #[.string ⟨#[114]⟩] 9)) (.slice none 0 0)) ⟨1, wd2, A2, n2, c2, 0, none, 0, 0⟩) := svE HV2.out hx
  have HB := HNW
  refine hK.out _ _ (⟨HP.out.cells HNIL.out, HFC.out _ HN.out 0 HN0.out⟩) (fun hHeld => ?_)
  clear hK K
  (try simp only [Act.put, L1, L2, L3, L4, L5, L6])
  clear HNW hx hlb
  generalize (wz.alloc (.cells #[.string ⟨#[114]⟩] 9)) = wz at *
  exact tz12b
 ·skip
  go_simp
  have hx : Ext wz (wz.alloc (.cells #[.int .i64 1, .string wd2, .slice A2 n2 c2, .int .i64 0, .slice none 0 0] 69)) := (Ext.refl _).alloc _
  obtain ⟨lc, hlc⟩ : ∃ lc, wz.heap.size = lc := ⟨_, rfl⟩
  have HNW : Hid (Blk (wz.alloc (.cells #[.int .i64 1, .string wd2, .slice A2 n2 c2, .int .i64 0, .slice none 0 0] 69)) lc 69 #[.int .i64 1, .string wd2, .slice A2 n2 c2, .int .i64 0, .slice none 0 0]) := by rw [← hlc]; exact Blk.new _ _ _
  have HLC : Hid (s6 ≤ lc) := by rw [← hlc]; exact HP.out.hp.2.2.1
  try rw [hlc]
  replace HP := Lib.hid (HP.out.ext hx)
  replace HN := Lib.hid (HN.out.ext hx)
  replace HV1 : Hid (Sv 5 (wz.alloc (.cells #[.int .i64 1, .string wd2, .slice A2 n2 c2, .int .i64 0, .slice none 0 0] 69)) (K6 s6 (wz.alloc (.cells #[.int .i64 1, .string wd2, .slice A2 n2 c2, .int .i64 0, .slice none 0 0] 69)) (.slice none 0 0)) ⟨1, wd1, A1, n1, c1, 0, none, 0, 0⟩) := svE HV1.out hx
  replace HV2 : Hid (Sv 4 (wz.alloc (.cells #[.int .i64 1, .string wd2, .slice A2 n2 c2, .int .i64 0, .slice none 0 0] 69)) (K6 s6 (wz.alloc (.cells #[.int .i64 1, .string wd2, .slice A2 n2 c2, .int .i64 0, .slice none 0 0] 69)) (.slice none 0 0)) ⟨1, wd2, A2, n2, c2, 0, none, 0, 0⟩) := svE HV2.out hx
  have HK := HNW
  refine hK.out _ _ (⟨HP.out.cells HNIL.out, HFC.out _ HN.out 0 HN0.out⟩) (fun hHeld => ?_)
  clear hK K
  (try simp only [Act.put, L1, L2, L3, L4, L5, L6])
  clear HNW hx hlc
  generalize (wz.alloc (.cells #[.int .i64 1, .string wd2, .slice A2 n2 c2, .int .i64 0, .slice none 0 0] 69)) = wz at *
  exact tz12k) : P := h
theorem tz1 {P : Prop} (h : P := by
 refine hlR (rs := [10, 12, 16]) (by kernel_rfl) (by simp) ?_
 refine AllHL.one rfl rfl (fun K hK => ?_) (AllHL.one rfl rfl (fun K hK => ?_) (AllHL.one rfl rfl (fun K hK => ?_) AllHL.nil))
 ·skip
  go_simp
  have hx : Ext wz (wz.alloc (.cells #[.string (f 0), .string ⟨#[114]⟩] 9)) := (Ext.refl _).alloc _
  obtain ⟨la, hla⟩ : ∃ la, wz.heap.size = la := ⟨_, rfl⟩
  have HNW : Hid (Blk (wz.alloc (.cells #[.string (f 0), .string ⟨#[114]⟩] 9)) la 9 #[.string (f 0), .string ⟨#[114]⟩]) := by rw [← hla]; exact Blk.new _ _ _
  have HLA : Hid (s6 ≤ la) := by rw [← hla]; exact HP.out.hp.2.2.1
  try rw [hla]
  replace HP := Lib.hid (HP.out.ext hx)
  replace HN := Lib.hid (HN.out.ext hx)
  replace HV1 : Hid (Sv 5 (wz.alloc (.cells #[.string (f 0), .string ⟨#[114]⟩] 9)) (K6 s6 (wz.alloc (.cells #[.string (f 0), .string ⟨#[114]⟩] 9)) (.slice none 0 0)) ⟨1, wd1, A1, n1, c1, 0, none, 0, 0⟩) := svE HV1.out hx
  have HA := HNW
  refine hK.out _ _ (⟨HP.out.cells HNIL.out, HFC.out _ HN.out 0 HN0.out⟩) (fun hHeld => ?_)
  clear hK K
  (try simp only [Act.put, L1, L2, L3, L4, L5, L6])
  clear HNW hx hla
  generalize (wz.alloc (.cells #[.string (f 0), .string ⟨#[114]⟩] 9)) = wz at *
  (refine hlT 11 (v := ?_) ?_ ?_; rotate_left; · (intro w hSw; (try dsimp only at hSw); go_simp; all_goals with_reducible rfl))
  (try simp only [Act.put, L1, L2, L3, L4, L5, L6])
  exact tz1a
 ·skip
  go_simp
  have hx : Ext wz (wz.alloc (.cells #[.string ⟨#[114]⟩] 9)) := (Ext.refl _).alloc _
  obtain ⟨lb, hlb⟩ : ∃ lb, wz.heap.size = lb := ⟨_, rfl⟩
  have HNW : Hid (Blk (wz.alloc (.cells #[.string ⟨#[114]⟩] 9)) lb 9 #[.string ⟨#[114]⟩]) := by rw [← hlb]; exact Blk.new _ _ _
  have HLB : Hid (s6 ≤ lb) := by rw [← hlb]; exact HP.out.hp.2.2.1
  try rw [hlb]
  replace HP := Lib.hid (HP.out.ext hx)
  replace HN := Lib.hid (HN.out.ext hx)
  replace HV1 : Hid (Sv 5 (wz.alloc (.cells #[.string ⟨#[114]⟩] 9)) (K6 s6 (wz.alloc (.cells #[.string ⟨#[114]⟩] 9)) (.slice none 0 0)) ⟨1, wd1, A1, n1, c1, 0, none, 0, 0⟩) := svE HV1.out hx
  have HB := HNW
  refine hK.out _ _ (⟨HP.out.cells HNIL.out, HFC.out _ HN.out 0 HN0.out⟩) (fun hHeld => ?_)
  clear hK K
  (try simp only [Act.put, L1, L2, L3, L4, L5, L6])
  clear HNW hx hlb
  generalize (wz.alloc (.cells #[.string ⟨#[114]⟩] 9)) = wz at *
  exact tz1b
 ·skip
  go_simp
  refine (l17Gate_any g _ n c5 _ HP.out.cur HP.out.ns hnn).mono ?_
  rintro e wz ⟨wd2, A2, n2, c2, xs2, rfl, ⟨hp1, hp2, hp3⟩, hwd, hown, hsz, hCa, hGa⟩
  have HVN : Hid (Sv 4 wz (K6 s6 wz (.slice none 0 0)) ⟨1, wd2, A2, n2, c2, 0, none, 0, 0⟩) := Sv.leaf hp1 (by omega) hp3 hwd (nm_own hown hsz fun b h1 h2 => ⟨Nat.le_trans HP.out.hp.2.2.1 h1, h2, fun e => by cases e⟩)
  replace HV1 : Hid (Sv 5 wz (K6 s6 wz (.slice none 0 0)) ⟨1, wd1, A1, n1, c1, 0, none, 0, 0⟩) := svD HV1.out hGa (by have := HP.out.hp; omega)
  replace HN := Lib.hid (HN.out.grown hGa (fun q hq => by injection hq with hq; have := HNG.out; omega))
  replace HP := Lib.hid (HP.out.draw hCa hGa)
  have HV2 := HVN
  clear HVN hp1 hp2 hp3 hwd hown hsz hCa hGa
  refine hK.out _ _ (⟨HP.out.cells HNIL.out, HFC.out _ HN.out 0 HN0.out⟩) (fun hHeld => ?_)
  clear hK K
  (try simp only [Act.put, L1, L2, L3, L4, L5, L6])
  exact tz12) : P := h
theorem tzab {P : Prop} (h : P := by
 refine hlR (rs := [5]) (by kernel_rfl) (by simp) ?_
 refine AllHL.one rfl rfl (fun K hK => ?_) AllHL.nil
 go_simp
 refine (l17Gate_any g _ n c5 _ HP.out.cur HP.out.ns hnn).mono ?_
 rintro e wz ⟨wd1, A1, n1, c1, xs1, rfl, ⟨hp1, hp2, hp3⟩, hwd, hown, hsz, hCa, hGa⟩
 have HVN : Hid (Sv 5 wz (K6 s6 wz (.slice none 0 0)) ⟨1, wd1, A1, n1, c1, 0, none, 0, 0⟩) := Sv.leaf hp1 (by omega) hp3 hwd (nm_own hown hsz fun b h1 h2 => ⟨Nat.le_trans HP.out.hp.2.2.1 h1, h2, fun e => by cases e⟩)
 replace HA := Lib.hid (HA.out.grown hGa (fun q hq => by injection hq; have := HP.out.hp; have := HLA.out; omega))
 replace HB := Lib.hid (HB.out.grown hGa (fun q hq => by injection hq; have := HP.out.hp; have := HLB.out; omega))
 replace HN := Lib.hid (HN.out.grown hGa (fun q hq => by injection hq with hq; have := HNG.out; omega))
 replace HP := Lib.hid (HP.out.draw hCa hGa)
 have HV1 := HVN
 clear HVN hp1 hp2 hp3 hwd hown hsz hCa hGa
 refine hK.out _ _ (⟨HP.out.cells HNIL.out, HFC.out _ HN.out 0 HN0.out⟩) (fun hHeld => ?_)
 clear hK K
 (try simp only [Act.put, L1, L2, L3, L4, L5, L6])
 exact tz1ab) : P := h
theorem tza {P : Prop} (h : P := by
 refine hlR (rs := [5, 12]) (by kernel_rfl) (by simp) ?_
 refine AllHL.one rfl rfl (fun K hK => ?_) (AllHL.one rfl rfl (fun K hK => ?_) AllHL.nil)
 ·skip
  go_simp
  refine (l17Gate_any g _ n c5 _ HP.out.cur HP.out.ns hnn).mono ?_
  rintro e wz ⟨wd1, A1, n1, c1, xs1, rfl, ⟨hp1, hp2, hp3⟩, hwd, hown, hsz, hCa, hGa⟩
  have HVN : Hid (Sv 5 wz (K6 s6 wz (.slice none 0 0)) ⟨1, wd1, A1, n1, c1, 0, none, 0, 0⟩) := Sv.leaf hp1 (by omega) hp3 hwd (nm_own hown hsz fun b h1 h2 => ⟨Nat.le_trans HP.out.hp.2.2.1 h1, h2, fun e => by cases e⟩)
  replace HA := Lib.hid (HA.out.grown hGa (fun q hq => by injection hq; have := HP.out.hp; have := HLA.out; omega))
  replace HN := Lib.hid (HN.out.grown hGa (fun q hq => by injection hq with hq; have := HNG.out; omega))
  replace HP := Lib.hid (HP.out.draw hCa hGa)
  have HV1 := HVN
  clear HVN hp1 hp2 hp3 hwd hown hsz hCa hGa
  refine hK.out _ _ (⟨HP.out.cells HNIL.out, HFC.out _ HN.out 0 HN0.out⟩) (fun hHeld => ?_)
  clear hK K
  (try simp only [Act.put, L1, L2, L3, L4, L5, L6])
  exact tz1a
 ·skip
  go_simp
  have hx : Ext wz (wz.alloc (.cells #[.string ⟨#[114]⟩] 9)) := (Ext.refl _).alloc _
  obtain ⟨lb, hlb⟩ : ∃ lb, wz.heap.size = lb := ⟨_, rfl⟩
  have HNW : Hid (Blk (wz.alloc (.cells #[.string ⟨#[114]⟩] 9)) lb 9 #[.string ⟨#[114]⟩]) := by rw [← hlb]; exact Blk.new _ _ _
  have HLB : Hid (s6 ≤ lb) := by rw [← hlb]; exact HP.out.hp.2.2.1
  try rw [hlb]
  replace HP := Lib.hid (HP.out.ext hx)
  replace HN := Lib.hid (HN.out.ext hx)
  replace HA := Lib.hid (HA.out.ext hx)
  have HB := HNW
  refine hK.out _ _ (⟨HP.out.cells HNIL.out, HFC.out _ HN.out 0 HN0.out⟩) (fun hHeld => ?_)
  clear hK K
  (try simp only [Act.put, L1, L2, L3, L4, L5, L6])
  clear HNW hx hlb
  generalize (wz.alloc (.cells #[.string ⟨#[114]⟩] 9)) = wz at *
  exact tzab) : P := h
theorem tzb {P : Prop} (h : P := by
 refine hlR (rs := [5, 10]) (by kernel_rfl) (by simp) ?_
 refine AllHL.one rfl rfl (fun K hK => ?_) (AllHL.one rfl rfl (fun K hK => ?_) AllHL.nil)
 ·skip
  go_simp
  refine (l17Gate_any g _ n c5 _ HP.out.cur HP.out.ns hnn).mono ?_
  rintro e wz ⟨wd1, A1, n1, c1, xs1, rfl, ⟨hp1, hp2, hp3⟩, hwd, hown, hsz, hCa, hGa⟩
  have HVN : Hid (Sv 5 wz (K6 s6 wz (.slice none 0 0)) ⟨1, wd1, A1, n1, c1, 0, none, 0, 0⟩) := Sv.leaf hp1 (by omega) hp3 hwd (nm_own hown hsz fun b h1 h2 => ⟨Nat.le_trans HP.out.hp.2.2.1 h1, h2, fun e => by cases e⟩)
  replace HB := Lib.hid (HB.out.grown hGa (fun q hq => by injection hq; have := HP.out.hp; have := HLB.out; omega))
  replace HN := Lib.hid (HN.out.grown hGa (fun q hq => by injection hq with hq; have := HNG.out; omega))
  replace HP := Lib.hid (HP.out.draw hCa hGa)
  have HV1 := HVN
  clear HVN hp1 hp2 hp3 hwd hown hsz hCa hGa
  refine hK.out _ _ (⟨HP.out.cells HNIL.out, HFC.out _ HN.out 0 HN0.out⟩) (fun hHeld => ?_)
  clear hK K
  (try simp only [Act.put, L1, L2, L3, L4, L5, L6])
  exact tz1b
 ·skip
  go_simp
  have hx : Ext wz (wz.alloc (.cells #[.string (f 0), .string ⟨#[114]⟩] 9)) := (Ext.refl _).alloc _
  obtain ⟨la, hla⟩ : ∃ la, wz.heap.size = la := ⟨_, rfl⟩
  have HNW : Hid (Blk (wz.alloc (.cells #[.string (f 0), .string ⟨#[114]⟩] 9)) la 9 #[.string (f 0), .string ⟨#[114]⟩]) := by rw [← hla]; exact Blk.new _ _ _
  have HLA : Hid (s6 ≤ la) := by rw [← hla]; exact HP.out.hp.2.2.1
  try rw [hla]
  replace HP := Lib.hid (HP.out.ext hx)
  replace HN := Lib.hid (HN.out.ext hx)
  replace HB := Lib.hid (HB.out.ext hx)
  have HA := HNW
  refine hK.out _ _ (⟨HP.out.cells HNIL.out, HFC.out _ HN.out 0 HN0.out⟩) (fun hHeld => ?_)
  clear hK K
  (try simp only [Act.put, L1, L2, L3, L4, L5, L6])
  clear HNW hx hla
  generalize (wz.alloc (.cells #[.string (f 0), .string ⟨#[114]⟩] 9)) = wz at *
  (refine hlT 11 (v := ?_) ?_ ?_; rotate_left; · (intro w hSw; (try dsimp only at hSw); go_simp; all_goals with_reducible rfl))
  (try simp only [Act.put, L1, L2, L3, L4, L5, L6])
  exact tzab) : P := h
theorem tzo {P : Prop} (h : P := by
 refine hlR (rs := [5, 10, 12]) (by kernel_rfl) (by simp) ?_
 refine AllHL.one rfl rfl (fun K hK => ?_) (AllHL.one rfl rfl (fun K hK => ?_) (AllHL.one rfl rfl (fun K hK => ?_) AllHL.nil))
 ·skip
  go_simp
  refine (l17Gate_any g _ n c5 _ HP.out.cur HP.out.ns hnn).mono ?_
  rintro e wz ⟨wd1, A1, n1, c1, xs1, rfl, ⟨hp1, hp2, hp3⟩, hwd, hown, hsz, hCa, hGa⟩
  have HVN : Hid (Sv 5 wz (K6 s6 wz (.slice none 0 0)) ⟨1, wd1, A1, n1, c1, 0, none, 0, 0⟩) := Sv.leaf hp1 (by omega) hp3 hwd (nm_own hown hsz fun b h1 h2 => ⟨Nat.le_trans HP.out.hp.2.2.1 h1, h2, fun e => by cases e⟩)
  replace HN := Lib.hid (HN.out.grown hGa (fun q hq => by injection hq with hq; have := HNG.out; omega))
  replace HP := Lib.hid (HP.out.draw hCa hGa)
  have HV1 := HVN
  clear HVN hp1 hp2 hp3 hwd hown hsz hCa hGa
  refine hK.out _ _ (⟨HP.out.cells HNIL.out, HFC.out _ HN.out 0 HN0.out⟩) (fun hHeld => ?_)
  clear hK K
  (try simp only [Act.put, L1, L2, L3, L4, L5, L6])
  exact tz1
 ·skip
  go_simp
  have hx : Ext wz (wz.alloc (.cells #[.string (f 0), .string ⟨#[114]⟩] 9)) := (Ext.refl _).alloc _
  obtain ⟨la, hla⟩ : ∃ la, wz.heap.size = la := ⟨_, rfl⟩
  have HNW : Hid (Blk (wz.alloc (.cells #[.string (f 0), .string ⟨#[114]⟩] 9)) la 9 #[.string (f 0), .string ⟨#[114]⟩]) := by rw [← hla]; exact Blk.new _ _ _
  have HLA : Hid (s6 ≤ la) := by rw [← hla]; exact HP.out.hp.2.2.1
  try rw [hla]
  replace HP := Lib.hid (HP.out.ext hx)
  replace HN := Lib.hid (HN.out.ext hx)
  have HA := HNW
  refine hK.out _ _ (⟨HP.out.cells HNIL.out, HFC.out _ HN.out 0 HN0.out⟩) (fun hHeld => ?_)
  clear hK K
  (try simp only [Act.put, L1, L2, L3, L4, L5, L6])
  clear HNW hx hla
  generalize (wz.alloc (.cells #[.string (f 0), .string ⟨#[114]⟩] 9)) = wz at *
  (refine hlT 11 (v := ?_) ?_ ?_; rotate_left; · (intro w hSw; (try dsimp only at hSw); go_simp; all_goals with_reducible rfl))
  (try simp only [Act.put, L1, L2, L3, L4, L5, L6])
  exact tza
 ·skip
  go_simp
  have hx : Ext wz (wz.alloc (.cells #[.string ⟨#[114]⟩] 9)) := (Ext.refl _).alloc _
  obtain ⟨lb, hlb⟩ : ∃ lb, wz.heap.size = lb := ⟨_, rfl⟩
  have HNW : Hid (Blk (wz.alloc (.cells #[.string ⟨#[114]⟩] 9)) lb 9 #[.string ⟨#[114]⟩]) := by rw [← hlb]; exact Blk.new _ _ _
  have HLB : Hid (s6 ≤ lb) := by rw [← hlb]; exact HP.out.hp.2.2.1
  try rw [hlb]
  replace HP := Lib.hid (HP.out.ext hx)
  replace HN := Lib.hid (HN.out.ext hx)
  have HB := HNW
  refine hK.out _ _ (⟨HP.out.cells HNIL.out, HFC.out _ HN.out 0 HN0.out⟩) (fun hHeld => ?_)
  clear hK K
  (try simp only [Act.put, L1, L2, L3, L4, L5, L6])
  clear HNW hx hlb
  generalize (wz.alloc (.cells #[.string ⟨#[114]⟩] 9)) = wz at *
  exact tzb) : P := h
set_option maxRecDepth 100000 in
set_option maxHeartbeats 32000000 in
theorem prg_reg {Q : Exit → Act → World → Prop} {w w8 : World} {s6 g rb pb n c5 : Nat} {A5 : Option Addr} {x1 x2 x4 x5 x6 x7 x8 x9 x10 x11 x12 x13 x14 x15 x16 x17 x18 x19 x20 x21 x22 x23 x24 x25 x26 x27 x28 x29 x30 x31 x32 x33 x34 x35 x36 x37 x38 x39 x40 x41 x42 x43 x44 x45 x46 x47 x48 x49 x50 x51 : Value} (hpq : PQ Q) (hnn : 1 ≤ n ∧ n ≤ 4) (hP : Pg w s6 w8 g rb pb A5 n c5 none 0 [])
  (hQ : ∀ (y20 y21 y22 y23 y24 y25 y26 y27 y28 y29 y30 y31 y32 y33 y34 y35 y36 y37 y38 y39 y40 y41 : Value) (A9 : Option Addr) (c9 : Nat) (ys : List Sc) (wx : World), ys.length = 3 → Pg w s6 wx g rb pb A5 n c5 A9 c9 ys → Q .normal ⟨List.toArray ((.pointer (some ⟨g, 0, none⟩)) :: x1 :: x2 :: (.pointer (some ⟨pb, 0, none⟩)) :: x4 :: x5 :: x6 :: x7 :: x8 :: x9 :: x10 :: x11 :: x12 :: x13 :: x14 :: x15 :: x16 :: x17 :: x18 :: x19 :: y20 :: y21 :: y22 :: y23 :: y24 :: y25 :: y26 :: y27 :: y28 :: y29 :: y30 :: y31 :: y32 :: y33 :: y34 :: y35 :: y36 :: y37 :: y38 :: y39 :: y40 :: y41 :: x42 :: x43 :: x44 :: x45 :: x46 :: x47 :: x48 :: x49 :: x50 :: x51 :: []), []⟩ wx) :
  (Code.region 4 (regOf Tryz.f20 4) true).wp Tryz.prog Q ⟨List.toArray ((.pointer (some ⟨g, 0, none⟩)) :: x1 :: x2 :: (.pointer (some ⟨pb, 0, none⟩)) :: x4 :: x5 :: x6 :: x7 :: x8 :: x9 :: x10 :: x11 :: x12 :: x13 :: x14 :: x15 :: x16 :: x17 :: x18 :: x19 :: x20 :: x21 :: x22 :: x23 :: x24 :: x25 :: x26 :: x27 :: x28 :: x29 :: x30 :: x31 :: x32 :: x33 :: x34 :: x35 :: x36 :: x37 :: x38 :: x39 :: x40 :: x41 :: x42 :: x43 :: x44 :: x45 :: x46 :: x47 :: x48 :: x49 :: x50 :: x51 :: []), []⟩ w8 := by
 have HNIL : Hid (([] : List Sc).length = 0) := rfl
 obtain ⟨nb, ncs, f, hAn, hnb, hfs, hfc⟩ := ns_all hP.ns (by omega)
 subst hAn
 have HNG : Hid (nb ≠ g) := by
  obtain ⟨_, _, _, _, _, _, hcB, _⟩ := hP.cur
  exact blk_ne hnb hcB (by decide)
 have HN0 : Hid (0 < n) := by unfold Hid; omega
 have HF0 : Hid ((f 0).size ≤ 1000) := hfs 0 (by omega)
 have HFC := Lib.hid hfc
 have HQ := Lib.hid hQ
 have HP : Hid (Pg w s6 w8.drew g rb pb (some ⟨nb, 0, none⟩) n c5 none 0 []) := hP.ext (Ext.refl w8).drew
 have HN : Hid (Blk w8.drew nb 9 ncs) := hnb.ext (Ext.refl w8).drew
 have hn0i : (0 : Int) < (n : Int) := by omega
 have hn0 : 0 < n := by omega
 clear hP hnb hfs hfc hQ
 simp +decide only [regOf, regIn, Tryz.f20, if_true, if_false]
 refine hlB 22 (T := (fun w' => (w'.cell? ⟨pb, 0, none⟩ = some (.slice (some ⟨nb, 0, none⟩) n c5) ∧ w'.cell? ⟨pb, 1, none⟩ = some (.slice none 0 0)) ∧ w'.cell? ⟨nb, 0, none⟩ = some (.string (f 0)))) (by kernel_rfl) (⟨HP.out.cells HNIL.out, HFC.out _ HN.out 0 HN0.out⟩) (fun hHeld => ?_)
 (refine hlT 0 (v := ?_) ?_ ?_; rotate_left; · (intro w hSw; (try dsimp only at hSw); go_simp; all_goals with_reducible rfl))
 (try simp only [Act.put, L1, L2, L3, L4, L5, L6])
 (refine hlT 1 (v := ?_) ?_ ?_; rotate_left; · (intro w hSw; (try dsimp only at hSw); go_simp; all_goals with_reducible rfl))
 (try simp only [Act.put, L1, L2, L3, L4, L5, L6])
 (refine hlT 2 (v := ?_) ?_ ?_; rotate_left; · (intro w hSw; (try dsimp only at hSw); go_simp; all_goals with_reducible rfl))
 (try simp only [Act.put, L1, L2, L3, L4, L5, L6])
 (refine hlT 3 (v := ?_) ?_ ?_; rotate_left; · (intro w hSw; (try dsimp only at hSw); go_simp; all_goals with_reducible rfl))
 (try simp only [Act.put, L1, L2, L3, L4, L5, L6])
 (refine hlT 4 (v := ?_) ?_ ?_; rotate_left; · (intro w hSw; (try dsimp only at hSw); go_simp; all_goals with_reducible rfl))
 (try simp only [Act.put, L1, L2, L3, L4, L5, L6])
 (refine hlT 6 (v := ?_) ?_ ?_; rotate_left; · (intro w hSw; (try dsimp only at hSw); go_simp; all_goals with_reducible rfl))
 (try simp only [Act.put, L1, L2, L3, L4, L5, L6])
 (refine hlT 7 (v := ?_) ?_ ?_; rotate_left; · (intro w hSw; (try dsimp only at hSw); go_simp; all_goals with_reducible rfl))
 (try simp only [Act.put, L1, L2, L3, L4, L5, L6])
 (refine hlT 8 (v := ?_) ?_ ?_; rotate_left; · (intro w hSw; (try dsimp only at hSw); go_simp; all_goals with_reducible rfl))
 (try simp only [Act.put, L1, L2, L3, L4, L5, L6])
 (refine hlT 9 (v := ?_) ?_ ?_; rotate_left; · (intro w hSw; (try dsimp only at hSw); go_simp; all_goals with_reducible rfl))
 (try simp only [Act.put, L1, L2, L3, L4, L5, L6])
 (refine hlT 13 (v := ?_) ?_ ?_; rotate_left; · (intro w hSw; (try dsimp only at hSw); go_simp; all_goals with_reducible rfl))
 (try simp only [Act.put, L1, L2, L3, L4, L5, L6])
 (refine hlT 14 (v := ?_) ?_ ?_; rotate_left; · (intro w hSw; (try dsimp only at hSw); go_simp; all_goals with_reducible rfl))
 (try simp only [Act.put, L1, L2, L3, L4, L5, L6])
 (refine hlT 15 (v := ?_) ?_ ?_; rotate_left; · (intro w hSw; (try dsimp only at hSw); go_simp; all_goals with_reducible rfl))
 (try simp only [Act.put, L1, L2, L3, L4, L5, L6])
 obtain ⟨wz, hwd⟩ : ∃ wz, w8.drew = wz := ⟨_, rfl⟩
 rw [hwd] at HP HN ⊢
 clear hwd
 exact tzo
end Go.Proofs.YtdjckjfclhjpcaaGreat
namespace Go.Proofs.YtdjckjfclhjpcaaGreat
open Go.ChangeShapes Go.WideShapes Go.ChangeAt Go.RowKit Go.Deep
set_option linter.unusedVariables false
set_option linter.unusedSimpArgs false
set_option maxRecDepth 100000 in
set_option maxHeartbeats 16000000 in
theorem l17Right_any (g : Nat) (w : World) (h : Cur w g) : Calls Tryz.prog 20 #[.pointer (some ⟨g, 0, none⟩)] w (Pr w g) := by
 have hgl := h.lt
 have HC0 := Lib.hid h
 have HGL := Lib.hid hgl
 clear h hgl
 go_enter Tryz.func20, Tryz.ntmps20
 go_upto_region 1 with (fail)
 have HX1 : Hid (Ext w (w.alloc (.cells #[.slice none 0 0, .slice none 0 0] 53))) := (Ext.refl _).alloc _
 have HR1 : Hid (Blk (w.alloc (.cells #[.slice none 0 0, .slice none 0 0] 53)) w.heap.size 53 #[.slice none 0 0, .slice none 0 0]) := Blk.new _ _ _
 have hs1 : (w.alloc (.cells #[.slice none 0 0, .slice none 0 0] 53)).heap.size = w.heap.size + 1 := by simp
 have HS1 := Lib.hid hs1
 generalize (w.alloc (.cells #[.slice none 0 0, .slice none 0 0] 53)) = w1 at *
 obtain ⟨rb, hrb⟩ : ∃ rb, w.heap.size = rb := ⟨_, rfl⟩
 have HRB : Hid (w.heap.size = rb) := hrb
 rw [hrb] at HR1 ⊢
 clear hrb hs1
 have HX3 : Hid (Ext w1 ((w1.alloc (.cells #[] 9)).alloc (.cells #[.string ⟨#[97]⟩, .string ⟨#[98]⟩, .string ⟨#[99]⟩] 9))) := ((Ext.refl _).alloc _).alloc _
 have HE3 : Hid (((w1.alloc (.cells #[] 9)).alloc (.cells #[.string ⟨#[97]⟩, .string ⟨#[98]⟩, .string ⟨#[99]⟩] 9)).ownsRow w1.heap.size 9 1 (.slice (some ⟨w1.heap.size, 0, none⟩) 0 0) 0 (tcells [])) := own_ext (own_empty w1 w1 _ 1 (Ext.refl _)) ((Ext.refl _).alloc _)
 have HL3 : Hid (Blk ((w1.alloc (.cells #[] 9)).alloc (.cells #[.string ⟨#[97]⟩, .string ⟨#[98]⟩, .string ⟨#[99]⟩] 9)) (w1.heap.size + 1) 9 #[.string ⟨#[97]⟩, .string ⟨#[98]⟩, .string ⟨#[99]⟩]) := Blk.newAt (by simp)
 go_wp2_with fail
 have HG1 : Hid (g < w1.heap.size) := by have := HGL.out; have := HS1.out; unfold Hid; omega
 have HCB : Hid (Cur ((w1.alloc (.cells #[] 9)).alloc (.cells #[.string ⟨#[97]⟩, .string ⟨#[98]⟩, .string ⟨#[99]⟩] 9)) g) := (HC0.out.ext HX1.out).ext HX3.out
 clear HC0
 generalize ((w1.alloc (.cells #[] 9)).alloc (.cells #[.string ⟨#[97]⟩, .string ⟨#[98]⟩, .string ⟨#[99]⟩] 9)) = w3 at *
 refine (l1Below_any g 3 _ HCB.out (by omega)).mono ?_
 rintro e w4 ⟨x, rfl, ⟨hx0, hx1, _⟩, hC4, hG4⟩
 have hx2 := hx1 (by omega)
 obtain ⟨n, hn⟩ := Int.eq_ofNat_of_zero_le (show 0 ≤ 1 + x by omega)
 have hn13 : 1 ≤ n ∧ n ≤ 3 := by omega
 have hw1 : IntKind.i64.wrap (1 + x) = (n : Int) := by rw [hn]; exact IntWalk.i64_in _ (by omega)
 have hw2 : wrap64 (1 + x) = (n : Int) := by rw [hn]; unfold wrap64; omega
 have hni : (0 : Int) ≤ (n : Int) := by omega
 have hn3 : (n : Int) ≤ 3 := by omega
 have HN13 := Lib.hid hn13
 have HE4 : Hid (w4.ownsRow w1.heap.size 9 1 (.slice (some ⟨w1.heap.size, 0, none⟩) 0 0) 0 (tcells [])) := own_kept HE3.out hG4 (fun q hq => by injection hq; have := HG1.out; omega)
 have HL4 : Hid (Rd w4 w4.heap.size 1 (some ⟨w1.heap.size + 1, 0, none⟩) n (tcells ([⟨#[97]⟩, ⟨#[98]⟩, ⟨#[99]⟩].take n))) := rd_head (n := 3) (rd_blkS (xs := [⟨#[97]⟩, ⟨#[98]⟩, ⟨#[99]⟩]) (HL3.out.grown hG4 (fun q hq => by injection hq; have := HG1.out; omega)) (by simp [tcell])) hn13.2
 have HG4 : Hid (w1.grownBy w4 (some g)) := gr_trans (HX3.out.gr _) hG4
 have HC4 : Hid (Cur w4 g) := hC4
 have hsz4 : w1.heap.size ≤ w4.heap.size := HG4.out.size
 have hcw : (cutW w4 w1.heap.size).heap.size = w1.heap.size := cutW_size hsz4
 have HR4 : Hid (Blk w4 rb 53 #[.slice none 0 0, .slice none 0 0]) := (HR1.out.ext HX3.out).grown hG4 (fun q hq => by injection hq; have := HRB.out; have := HGL.out; omega)
 have HSZ := Lib.hid hsz4
 have HCW := Lib.hid hcw
 clear hx0 hx1 hx2 hC4 hG4 HE3 HL3 HX3 HR1 HCB hcw hsz4 hn
 go_upto_region 2 with (at_builtin; refine appStrS (w := w4) (w0 := cutW w4 w1.heap.size) rfl _ _ rfl (.slice (some ⟨w1.heap.size, 0, none⟩) 0 0) 0 [] rfl (by rw [HCW.out]; exact HE4.out) (cutW_ext HSZ.out) _ n _ ([⟨#[97]⟩, ⟨#[98]⟩, ⟨#[99]⟩].take n) rfl HL4.out (by have := HN13.out; omega) ?_; intro v5 w5 g1 g2 g3 g4; rw [HCW.out] at g1; simp only [Nat.zero_add, List.nil_append] at g1; obtain ⟨A5, c5, rfl, -⟩ := own_slice g1; have HO5 := Lib.hid g1; have HG5 := Lib.hid g3; clear g1 g2 g3 g4)
 have HZ5 : Hid (∀ y ∈ ([⟨#[97]⟩, ⟨#[98]⟩, ⟨#[99]⟩] : List ByteArray).take n, y.size ≤ 1000) := fun y hy => by
  have h9 := List.mem_of_mem_take hy
  simp at h9
  rcases h9 with rfl | rfl | rfl <;> decide
 have HC5 : Hid (Cur w5 g) := HC4.out.grown HG5.out (fun q hq => by have := (HE4.out.lt q hq).1; have := HG1.out; omega)
 have HGW : Hid (w.grownBy w5 (some g)) := gr_new (gr_trans (HX1.out.gr _) HG4.out) HG5.out (fun q hq => by have := (HE4.out.lt q hq).1; have := HS1.out; omega)
 have HS5 : Hid (w1.heap.size ≤ w5.heap.size) := Nat.le_trans HSZ.out HG5.out.size
 have HPG : Hid (Pg w (w5.heap.size + 1) (w5.alloc (.cells #[.slice A5 n c5, .slice none 0 0] 53)) g rb w5.heap.size A5 n c5 none 0 []) := by
  have e1 := HS1.out
  have e2 := HS5.out
  have e3 := HRB.out
  have e4 := HGL.out
  have hR5 : Blk w5 rb 53 #[.slice none 0 0, .slice none 0 0] := HR4.out.grown HG5.out (fun q hq => by have := (HE4.out.lt q hq).1; omega)
  exact ⟨HC5.out.alloc _, gr_alloc HGW.out _, (Ns.own HO5.out HZ5.out).ext ((Ext.refl _).alloc _), fun b o e => by have := (HO5.out.lt b (by rw [e]; rfl)).1; omega, hR5.alloc _, Blk.new _ _ _, ⟨by omega, by omega⟩, ⟨by omega, by omega, by simp, by omega, by omega⟩, ⟨by simp, .inl ⟨rfl, rfl⟩⟩, fun y hy => by cases hy⟩
 have HCP : Hid (n ≤ c5) := own_capN HO5.out
 have HNIL : Hid (([] : List Sc).length = 0) := rfl
 clear HZ5 HC5 HGW HS5 HC4 HG4 HG5 HE4 HL4 HR4 HSZ HCW HO5 HX1 HS1 HRB hn13 hn3 hni hw1 hw2 HG1
 generalize (w5.alloc (.cells #[.slice A5 n c5, .slice none 0 0] 53)) = w6 at *
 generalize w5.heap.size + 1 = s6 at *
 generalize w5.heap.size = pb at *
 go_wp2_with fail
 refine (l1Once_any g 2 _ HPG.out.cur (by omega)).mono ?_
 rintro e w7 ⟨wild, rfl, hC7, hG7⟩
 have HP7 := Lib.hid (HPG.out.draw hC7 hG7)
 clear HPG hC7 hG7
 cases wild with
 | false =>
  go_upto_region 5 with (fail)
  have hnn : 1 ≤ n ∧ n ≤ 4 := ⟨HN13.out.1, by have := HN13.out; omega⟩
  have HPD := Lib.hid (HP7.out.ext (Ext.refl w7).drew)
  refine hlB 9 (T := (fun w' => w'.cell? ⟨pb, 0, none⟩ = some (.slice A5 n c5) ∧ w'.cell? ⟨pb, 1, none⟩ = some (.slice none 0 0))) (by kernel_rfl) (HPD.out.cells HNIL.out) (fun hHeld => ?_)
  (refine hlT 0 (v := ?_) ?_ ?_; rotate_left; · (intro w hSw; (try dsimp only at hSw); go_simp; all_goals with_reducible rfl))
  (try simp only [Act.put, L1, L2, L3, L4, L5, L6])
  (refine hlT 1 (v := ?_) ?_ ?_; rotate_left; · (intro w hSw; (try dsimp only at hSw); go_simp; all_goals with_reducible rfl))
  (try simp only [Act.put, L1, L2, L3, L4, L5, L6])
  (refine hlT 2 (v := ?_) ?_ ?_; rotate_left; · (intro w hSw; (try dsimp only at hSw); go_simp; all_goals with_reducible rfl))
  (try simp only [Act.put, L1, L2, L3, L4, L5, L6])
  (refine hlT 3 (v := ?_) ?_ ?_; rotate_left; · (intro w hSw; (try dsimp only at hSw); go_simp; all_goals with_reducible rfl))
  (try simp only [Act.put, L1, L2, L3, L4, L5, L6])
  (refine hlT 4 (v := ?_) ?_ ?_; rotate_left; · (intro w hSw; (try dsimp only at hSw); go_simp; all_goals with_reducible rfl))
  (try simp only [Act.put, L1, L2, L3, L4, L5, L6])
  (refine hlT 5 (v := ?_) ?_ ?_; rotate_left; · (intro w hSw; (try dsimp only at hSw); go_simp; all_goals with_reducible rfl))
  (try simp only [Act.put, L1, L2, L3, L4, L5, L6])
  refine hlR (rs := [6]) (by kernel_rfl) (by simp) ?_
  refine AllHL.one rfl rfl (fun K hK => ?_) AllHL.nil
  go_simp
  refine (l17Body_any 3 (by omega) 3 false g A5 n c5 _ (by decide) HPD.out.cur HPD.out.ns hnn).mono ?_
  rintro e wb ⟨Ab, nb, cb, rfl, hb1, hb2, ⟨hss0, zs, hzr, hzv⟩, hCb, hGb⟩
  have HPB := Lib.hid (HPD.out.draw hCb hGb)
  have hzr2 : Rd wb wb.heap.size 5 Ab nb (mcells zs) := hzr.rd (fun b hb => hb.2)
  have HZL : Hid (nb = zs.length) := by
   have h9 := hzr.1
   rw [flat_len Sc.cells_len] at h9
   unfold Hid
   omega
  have hzv2 : ∀ x ∈ zs, Sv 5 wb (K6 s6 wb (.slice none 0 0)) x := fun x hx => Sv.keep (fun b hb => rfl) (fun b hb => ⟨Nat.le_trans HPD.out.hp.2.2.1 hb.1, hb.2, fun e => by have := ((HPD.out.row' HNIL.out).lt b e).2; have := hb.1; omega⟩) (hzv x hx)
  refine hK.out _ _ (HPB.out.cells HNIL.out) (fun hHeld => ?_)
  clear hK K
  (try simp only [Act.put, L1, L2, L3, L4, L5, L6])
  refine hlR (rs := [7]) (by kernel_rfl) (by simp) ?_
  refine AllHL.one rfl rfl (fun K hK => ?_) AllHL.nil
  refine stepStmS (w := wb) (B := s6) rfl _ _ rfl (.slice none 0 0) 0 ([] : List Sc) rfl (HPB.out.row' HNIL.out) HPB.out.hp.2.2.1 Ab nb cb zs rfl hzr2 (by omega) ?_
  intro v9 w9 g1 g2 g3
  obtain ⟨A9, c9, rfl, -⟩ := own_slice g1
  obtain ⟨hp9, hpg⟩ := HPB.out.app' HNIL.out hzv2 HZL.out g1 g2 g3
  have HP9 := Lib.hid hpg
  clear hpg g1 g2 g3
  refine hK.out _ _ ((blk2p hp9).1) (fun hHeld => ?_)
  clear hK K
  (try simp only [Act.put, L1, L2, L3, L4, L5, L6])
  (refine hlT 8 (v := ?_) ?_ ?_; rotate_left; · (intro w hSw; (try dsimp only at hSw); go_simp; all_goals with_reducible rfl))
  (try simp only [Act.put, L1, L2, L3, L4, L5, L6])
  obtain ⟨⟨q0, q1⟩, f0, f1⟩ := blk2p hp9
  refine hlR (rs := [9]) (by kernel_rfl) (by simp) ?_
  refine AllHL.last rfl (fun K hK => ?_) AllHL.nil
  go_simp
  refine hK.out _ _ ?_
  clear hK K
  (try simp only [Act.put, L1, L2, L3, L4, L5, L6])
  refine hlD (by kernel_rfl) ?_ _
  rw [Nat.zero_add] at HP9
  have HL9 : Hid ((([] : List Sc) ++ zs).length = nb) := by unfold Hid; rw [List.length_append, ← HZL.out, HNIL.out]; exact Nat.zero_add _
  clear q0 q1 f0 f1 hp9 hHeld HPB HPD hzr hzr2 hzv hzv2
  generalize (w9.setCell ⟨pb, 1, none⟩ (.slice A9 (nb) c9)) = wE at *
  obtain ⟨q0, q1⟩ := HP9.out.cells HL9.out
  obtain ⟨⟨t0, t1⟩, e0, e1⟩ := blk2p HP9.out.r
  go_wp2
  exact HP9.out.ret' HL9.out (by omega) ⟨hnn.2, HCP.out⟩ rfl rfl rfl
 | true =>
  go_wp2_with fail
  refine (l1Once_any g 2 _ HP7.out.cur (by omega)).mono ?_
  rintro e w8 ⟨b2, rfl, hC8, hG8⟩
  have HP8 := Lib.hid (HP7.out.draw hC8 hG8)
  clear HP7 hC8 hG8
  cases b2 with
  | false =>
   go_upto_region 5 with (fail)
   have hnn : 1 ≤ n ∧ n ≤ 4 := ⟨HN13.out.1, by have := HN13.out; omega⟩
   have HPD := Lib.hid (HP8.out.ext (Ext.refl w8).drew)
   refine hlB 9 (T := (fun w' => w'.cell? ⟨pb, 0, none⟩ = some (.slice A5 n c5) ∧ w'.cell? ⟨pb, 1, none⟩ = some (.slice none 0 0))) (by kernel_rfl) (HPD.out.cells HNIL.out) (fun hHeld => ?_)
   (refine hlT 0 (v := ?_) ?_ ?_; rotate_left; · (intro w hSw; (try dsimp only at hSw); go_simp; all_goals with_reducible rfl))
   (try simp only [Act.put, L1, L2, L3, L4, L5, L6])
   (refine hlT 1 (v := ?_) ?_ ?_; rotate_left; · (intro w hSw; (try dsimp only at hSw); go_simp; all_goals with_reducible rfl))
   (try simp only [Act.put, L1, L2, L3, L4, L5, L6])
   (refine hlT 2 (v := ?_) ?_ ?_; rotate_left; · (intro w hSw; (try dsimp only at hSw); go_simp; all_goals with_reducible rfl))
   (try simp only [Act.put, L1, L2, L3, L4, L5, L6])
   (refine hlT 3 (v := ?_) ?_ ?_; rotate_left; · (intro w hSw; (try dsimp only at hSw); go_simp; all_goals with_reducible rfl))
   (try simp only [Act.put, L1, L2, L3, L4, L5, L6])
   (refine hlT 4 (v := ?_) ?_ ?_; rotate_left; · (intro w hSw; (try dsimp only at hSw); go_simp; all_goals with_reducible rfl))
   (try simp only [Act.put, L1, L2, L3, L4, L5, L6])
   (refine hlT 5 (v := ?_) ?_ ?_; rotate_left; · (intro w hSw; (try dsimp only at hSw); go_simp; all_goals with_reducible rfl))
   (try simp only [Act.put, L1, L2, L3, L4, L5, L6])
   refine hlR (rs := [6]) (by kernel_rfl) (by simp) ?_
   refine AllHL.one rfl rfl (fun K hK => ?_) AllHL.nil
   go_simp
   refine (l17Body_any 3 (by omega) 3 true g A5 n c5 _ (by decide) HPD.out.cur HPD.out.ns hnn).mono ?_
   rintro e wb ⟨Ab, nb, cb, rfl, hb1, hb2, ⟨hss0, zs, hzr, hzv⟩, hCb, hGb⟩
   have HPB := Lib.hid (HPD.out.draw hCb hGb)
   have hzr2 : Rd wb wb.heap.size 5 Ab nb (mcells zs) := hzr.rd (fun b hb => hb.2)
   have HZL : Hid (nb = zs.length) := by
    have h9 := hzr.1
    rw [flat_len Sc.cells_len] at h9
    unfold Hid
    omega
   have hzv2 : ∀ x ∈ zs, Sv 5 wb (K6 s6 wb (.slice none 0 0)) x := fun x hx => Sv.keep (fun b hb => rfl) (fun b hb => ⟨Nat.le_trans HPD.out.hp.2.2.1 hb.1, hb.2, fun e => by have := ((HPD.out.row' HNIL.out).lt b e).2; have := hb.1; omega⟩) (hzv x hx)
   refine hK.out _ _ (HPB.out.cells HNIL.out) (fun hHeld => ?_)
   clear hK K
   (try simp only [Act.put, L1, L2, L3, L4, L5, L6])
   refine hlR (rs := [7]) (by kernel_rfl) (by simp) ?_
   refine AllHL.one rfl rfl (fun K hK => ?_) AllHL.nil
   refine stepStmS (w := wb) (B := s6) rfl _ _ rfl (.slice none 0 0) 0 ([] : List Sc) rfl (HPB.out.row' HNIL.out) HPB.out.hp.2.2.1 Ab nb cb zs rfl hzr2 (by omega) ?_
   intro v9 w9 g1 g2 g3
   obtain ⟨A9, c9, rfl, -⟩ := own_slice g1
   obtain ⟨hp9, hpg⟩ := HPB.out.app' HNIL.out hzv2 HZL.out g1 g2 g3
   have HP9 := Lib.hid hpg
   clear hpg g1 g2 g3
   refine hK.out _ _ ((blk2p hp9).1) (fun hHeld => ?_)
   clear hK K
   (try simp only [Act.put, L1, L2, L3, L4, L5, L6])
   (refine hlT 8 (v := ?_) ?_ ?_; rotate_left; · (intro w hSw; (try dsimp only at hSw); go_simp; all_goals with_reducible rfl))
   (try simp only [Act.put, L1, L2, L3, L4, L5, L6])
   obtain ⟨⟨q0, q1⟩, f0, f1⟩ := blk2p hp9
   refine hlR (rs := [9]) (by kernel_rfl) (by simp) ?_
   refine AllHL.last rfl (fun K hK => ?_) AllHL.nil
   go_simp
   refine hK.out _ _ ?_
   clear hK K
   (try simp only [Act.put, L1, L2, L3, L4, L5, L6])
   refine hlD (by kernel_rfl) ?_ _
   rw [Nat.zero_add] at HP9
   have HL9 : Hid ((([] : List Sc) ++ zs).length = nb) := by unfold Hid; rw [List.length_append, ← HZL.out, HNIL.out]; exact Nat.zero_add _
   clear q0 q1 f0 f1 hp9 hHeld HPB HPD hzr hzr2 hzv hzv2
   generalize (w9.setCell ⟨pb, 1, none⟩ (.slice A9 (nb) c9)) = wE at *
   obtain ⟨q0, q1⟩ := HP9.out.cells HL9.out
   obtain ⟨⟨t0, t1⟩, e0, e1⟩ := blk2p HP9.out.r
   go_wp2
   exact HP9.out.ret' HL9.out (by omega) ⟨hnn.2, HCP.out⟩ rfl rfl rfl
  | true =>
   go_upto_region 4 with (fail)
   refine prg_reg (by constructor; intro _ _ _ _ _ h; exact h) ⟨HN13.out.1, by have := HN13.out; omega⟩ HP8.out ?_
   intro y20 y21 y22 y23 y24 y25 y26 y27 y28 y29 y30 y31 y32 y33 y34 y35 y36 y37 y38 y39 y40 y41 A3 c3 ys3 wr hy3 hp3
   have HP3 := Lib.hid hp3
   have HY3 := Lib.hid hy3
   clear hp3 hy3 HP8
   go_upto_region 5 with (fail)
   have hnn : 1 ≤ n ∧ n ≤ 4 := ⟨HN13.out.1, by have := HN13.out; omega⟩
   have HPD := Lib.hid (HP3.out.ext (Ext.refl wr).drew)
   refine hlB 9 (T := (fun w' => w'.cell? ⟨pb, 0, none⟩ = some (.slice A5 n c5) ∧ w'.cell? ⟨pb, 1, none⟩ = some (.slice A3 3 c3))) (by kernel_rfl) (HPD.out.cells HY3.out) (fun hHeld => ?_)
   (refine hlT 0 (v := ?_) ?_ ?_; rotate_left; · (intro w hSw; (try dsimp only at hSw); go_simp; all_goals with_reducible rfl))
   (try simp only [Act.put, L1, L2, L3, L4, L5, L6])
   (refine hlT 1 (v := ?_) ?_ ?_; rotate_left; · (intro w hSw; (try dsimp only at hSw); go_simp; all_goals with_reducible rfl))
   (try simp only [Act.put, L1, L2, L3, L4, L5, L6])
   (refine hlT 2 (v := ?_) ?_ ?_; rotate_left; · (intro w hSw; (try dsimp only at hSw); go_simp; all_goals with_reducible rfl))
   (try simp only [Act.put, L1, L2, L3, L4, L5, L6])
   (refine hlT 3 (v := ?_) ?_ ?_; rotate_left; · (intro w hSw; (try dsimp only at hSw); go_simp; all_goals with_reducible rfl))
   (try simp only [Act.put, L1, L2, L3, L4, L5, L6])
   (refine hlT 4 (v := ?_) ?_ ?_; rotate_left; · (intro w hSw; (try dsimp only at hSw); go_simp; all_goals with_reducible rfl))
   (try simp only [Act.put, L1, L2, L3, L4, L5, L6])
   (refine hlT 5 (v := ?_) ?_ ?_; rotate_left; · (intro w hSw; (try dsimp only at hSw); go_simp; all_goals with_reducible rfl))
   (try simp only [Act.put, L1, L2, L3, L4, L5, L6])
   refine hlR (rs := [6]) (by kernel_rfl) (by simp) ?_
   refine AllHL.one rfl rfl (fun K hK => ?_) AllHL.nil
   go_simp
   refine (l17Body_any 3 (by omega) 3 true g A5 n c5 _ (by decide) HPD.out.cur HPD.out.ns hnn).mono ?_
   rintro e wb ⟨Ab, nb, cb, rfl, hb1, hb2, ⟨hss0, zs, hzr, hzv⟩, hCb, hGb⟩
   have HPB := Lib.hid (HPD.out.draw hCb hGb)
   have hzr2 : Rd wb wb.heap.size 5 Ab nb (mcells zs) := hzr.rd (fun b hb => hb.2)
   have HZL : Hid (nb = zs.length) := by
    have h9 := hzr.1
    rw [flat_len Sc.cells_len] at h9
    unfold Hid
    omega
   have hzv2 : ∀ x ∈ zs, Sv 5 wb (K6 s6 wb (.slice A3 3 c3)) x := fun x hx => Sv.keep (fun b hb => rfl) (fun b hb => ⟨Nat.le_trans HPD.out.hp.2.2.1 hb.1, hb.2, fun e => by have := ((HPD.out.row' HY3.out).lt b e).2; have := hb.1; omega⟩) (hzv x hx)
   refine hK.out _ _ (HPB.out.cells HY3.out) (fun hHeld => ?_)
   clear hK K
   (try simp only [Act.put, L1, L2, L3, L4, L5, L6])
   refine hlR (rs := [7]) (by kernel_rfl) (by simp) ?_
   refine AllHL.one rfl rfl (fun K hK => ?_) AllHL.nil
   refine stepStmS (w := wb) (B := s6) rfl _ _ rfl (.slice A3 3 c3) 3 ys3 rfl (HPB.out.row' HY3.out) HPB.out.hp.2.2.1 Ab nb cb zs rfl hzr2 (by omega) ?_
   intro v9 w9 g1 g2 g3
   obtain ⟨A9, c9, rfl, -⟩ := own_slice g1
   obtain ⟨hp9, hpg⟩ := HPB.out.app' HY3.out hzv2 HZL.out g1 g2 g3
   have HP9 := Lib.hid hpg
   clear hpg g1 g2 g3
   refine hK.out _ _ ((blk2p hp9).1) (fun hHeld => ?_)
   clear hK K
   (try simp only [Act.put, L1, L2, L3, L4, L5, L6])
   (refine hlT 8 (v := ?_) ?_ ?_; rotate_left; · (intro w hSw; (try dsimp only at hSw); go_simp; all_goals with_reducible rfl))
   (try simp only [Act.put, L1, L2, L3, L4, L5, L6])
   obtain ⟨⟨q0, q1⟩, f0, f1⟩ := blk2p hp9
   refine hlR (rs := [9]) (by kernel_rfl) (by simp) ?_
   refine AllHL.last rfl (fun K hK => ?_) AllHL.nil
   go_simp
   refine hK.out _ _ ?_
   clear hK K
   (try simp only [Act.put, L1, L2, L3, L4, L5, L6])
   refine hlD (by kernel_rfl) ?_ _
   have HL9 : Hid ((ys3 ++ zs).length = 3 + nb) := by unfold Hid; rw [List.length_append, ← HZL.out, HY3.out]
   clear q0 q1 f0 f1 hp9 hHeld HPB HPD hzr hzr2 hzv hzv2
   generalize (w9.setCell ⟨pb, 1, none⟩ (.slice A9 (3 + nb) c9)) = wE at *
   obtain ⟨q0, q1⟩ := HP9.out.cells HL9.out
   obtain ⟨⟨t0, t1⟩, e0, e1⟩ := blk2p HP9.out.r
   go_wp2
   exact HP9.out.ret' HL9.out (by omega) ⟨hnn.2, HCP.out⟩ rfl rfl rfl
end Go.Proofs.YtdjckjfclhjpcaaGreat
