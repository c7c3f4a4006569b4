/-
 Helper text (no claim of its own): validity of a tableau, by the program. Printed by gen_tb.py.
-/
import Derived.Test.YtioimnplhmgbgaaGreatMTabLd
import Derived.Test.YtioimnplhmgbgaaGreatMTabLc
import Derived.Test.YtioimnplhmgbgaaGreatMTabLe
import Derived.Test.YtioimnplhmgbgaaGreatTbe
import Derived.Test.YtioimnplhmgbgaaGreatTbp
import Derived.Test.YtioimnplhmgbgaaGreatMu
/-
 Helper text (no claim of its own): equal matrices, by the reference. Printed by gen_am.py or gen_an.py.
-/
namespace Go.Proofs.YtioimnplhmgbgaaGreat
open Go.ChangeShapes Go.WideShapes Go.ChangeAt Go.RowKit Go.Deep
set_option linter.unusedVariables false
set_option linter.unusedSimpArgs false
/-- Rows of amplitudes, each in a block of its own. -/
def MV (w : World) (k l : Nat) (r : Nat → List Dw) (vals : List Value) : Prop := vals.length = k ∧ ∀ j, j < k → ∃ b c, vals[j]? = some (.slice (some ⟨b, 0, none⟩) l c) ∧ TT w b l (r j)
def MX (w : World) (X : Option Addr) (k l : Nat) (r : Nat → List Dw) : Prop := ∃ vals, Rd w w.heap.size 1 X k vals ∧ MV w k l r vals
theorem MV.ext {w w' : World} {k l : Nat} {r : Nat → List Dw} {vals : List Value} (h : MV w k l r vals) (hx : Ext w w') : MV w' k l r vals :=
 ⟨h.1, fun j hj => by
  obtain ⟨b, c, h1, h2⟩ := h.2 j hj
  exact ⟨b, c, h1, h2.ext hx⟩⟩
theorem MX.ext {w w' : World} {X : Option Addr} {k l : Nat} {r : Nat → List Dw} (h : MX w X k l r) (hx : Ext w w') : MX w' X k l r := by
 obtain ⟨vals, h1, h2⟩ := h
 exact ⟨vals, h1.ext hx, h2.ext hx⟩
theorem MX.at_ {w : World} {X : Option Addr} {k l j : Nat} {r : Nat → List Dw} (h : MX w X k l r) (hj : j < k) : ∃ bx ox b c, X = some ⟨bx, ox, none⟩ ∧ w.cell? ⟨bx, ox + j, none⟩ = some (.slice (some ⟨b, 0, none⟩) l c) ∧ TT w b l (r j) := by
 obtain ⟨vals, h1, h2⟩ := h
 obtain ⟨bx, ox, rfl, -, hc⟩ := h1.2 (by omega)
 obtain ⟨b, c, h3, h4⟩ := h2.2 j hj
 exact ⟨bx, ox, b, c, rfl, hc j _ h3, h4⟩
set_option maxRecDepth 100000 in
set_option maxHeartbeats 8000000 in
theorem IsValidMatrix_yes {n : Nat} (h1 : 1 ≤ n) (h4 : n ≤ 4) (X : Option Addr) (c : Nat) (r : Nat → List Dw) (w : World) (h : MX w X (2 ^ n) (2 ^ n) r) (hl : ∀ j, j < 2 ^ n → (r j).length = 2 ^ n ∧ ∀ x ∈ r j, dok x = true) :
  Calls Tryz.prog 25 #[.slice X (2 ^ n) c] w fun e w' => e = .returned (.bool true) ∧ Ext w w' := by
 have HV : Hid (∀ (j : Nat) (A : Option Addr) (c : Nat) (w' : World), j < 2 ^ n → Rd w' w'.heap.size 5 A (2 ^ n) (scells (r j)) → Calls Tryz.prog 49 #[.slice A (2 ^ n) c] w' fun e w'' => e = .returned (.bool true) ∧ Ext w' w'') := fun j A c w' hj hr => by
  rw [← (hl j hj).1] at hr ⊢
  exact IsValidState_yes h1 h4 A c (r j) w' hr (hl j hj).1 (hl j hj).2
 have hl16 : 0 < 2 ^ n ∧ 2 ^ n ≤ 16 := by rcases (show n = 1 ∨ n = 2 ∨ n = 3 ∨ n = 4 by omega) with rfl | rfl | rfl | rfl <;> decide
 clear hl
 generalize 2 ^ n = l at *
 have hl0 : 0 < l := hl16.1
 have HM := Lib.hid h
 clear h
 go_enter Tryz.func25, Tryz.ntmps25
 go_wp2
 go_loopw [3] (fun iv wr => ∃ k : Nat, iv = .int .i64 k ∧ k ≤ l ∧ Hid (Ext w wr)) (fun i _ => l - (intOf i).toNat)
 case atStart => exact ⟨0, rfl, Nat.zero_le _, Ext.refl _⟩
 case round =>
  obtain ⟨k, rfl, hk, HE⟩ := hrel
  by_cases hlt : k < l
  ·have hk1 : IntKind.i64.wrap ((k : Int) + 1) = ((k + 1 : Nat) : Int) := by rw [IntWalk.i64_in _ (by omega)]; rfl
   have hk2 : wrap64 ((k : Int) + 1) = ((k + 1 : Nat) : Int) := by unfold wrap64; omega
   have HLT : Hid (k < l ∧ l ≤ 16) := ⟨hlt, hl16.2⟩
   obtain ⟨bx, ox, b, cc, rfl, x0, ht⟩ := (HM.out.ext HE.out).at_ hlt
   have HT := Lib.hid ht
   clear ht
   go_wp2_with fail
   refine (HV.out k _ cc _ HLT.out.1 HT.out.2).mono ?_
   rintro e w5 ⟨rfl, hx5⟩
   have HE5 : Hid (Ext w w5) := HE.out.trans hx5
   clear hx5 x0
   go_wp2
   go_roundw
   case rel => exact ⟨k + 1, by first | rfl | rw [hk1] | rw [hk2], by have := HLT.out; omega, HE5⟩
   case measure => simp [intOf, hk2]; have := HLT.out; omega
  ·go_wp2
   go_ret
   exact ⟨rfl, HE.out⟩
end Go.Proofs.YtioimnplhmgbgaaGreat
/-
 Helper text (no claim of its own): whether two rows of gates do the same, by the reference. Printed by gen_am.py or gen_an.py.
-/
namespace Go.Proofs.YtioimnplhmgbgaaGreat
open Go.ChangeShapes Go.WideShapes Go.ChangeAt Go.RowKit Go.Deep
set_option linter.unusedVariables false
set_option linter.unusedSimpArgs false
theorem Tryz.infoRowD : (Tryz.prog.info? 56).map (fun i => (i.zero, i.size, i.bytes)) = some (some (.slice none 0 0), 1, 24) := by kernel_rfl
theorem own_block {w : World} {base e size m : Nat} {v : Value} {xs : List Value} (h : w.ownsRow base e size v m xs) {g : Nat} (hg : v.ownBlock = some g) : ∃ cur, Blk w g e cur := by
 rcases h.2 with ⟨h0, hn⟩ | ⟨g', cap, cur, rfl, hB, hc, -⟩
 ·subst h0; cases hg
 ·have e1 : (Value.slice (some ⟨g', 0, none⟩) m cap).ownBlock = some g' := rfl
  rw [e1] at hg
  injection hg with hg
  subst hg
  exact ⟨cur, hc⟩
/-- Amplitudes are kept where a row of rows grows. -/
theorem TT.grown {w w' : World} {b l base m : Nat} {vs : List Dw} {v : Value} {xs : List Value} (h : TT w b l vs) (ho : w.ownsRow base 56 1 v m xs) (hg : w.grownBy w' v.ownBlock) : TT w' b l vs := by
 obtain ⟨⟨cs, h1⟩, h2⟩ := h
 have hne : v.ownBlock ≠ some b := by
  intro e
  obtain ⟨cur, hc⟩ := own_block ho e
  unfold Blk at h1 hc
  rw [h1] at hc
  injection hc with hc
  injection hc with _ h3
  exact absurd h3 (by decide)
 have hb := hg.block b h1.lt (fun e => hne e.symm)
 refine ⟨⟨cs, hb.trans h1⟩, h2.1, fun hl => ?_⟩
 obtain ⟨b', o, e, hb', hc⟩ := h2.2 hl
 injection e with e
 injection e with e1 e2
 subst e1 e2
 exact ⟨_, _, rfl, by have := hg.size; omega, fun j u hu => (World.cell?_of_block (a := ⟨b, 0 + j, none⟩) hb).trans (hc j u hu)⟩
theorem MV.grown {w w' : World} {k l base m : Nat} {r : Nat → List Dw} {vals : List Value} {v : Value} {xs : List Value} (h : MV w k l r vals) (ho : w.ownsRow base 56 1 v m xs) (hg : w.grownBy w' v.ownBlock) : MV w' k l r vals :=
 ⟨h.1, fun j hj => by
  obtain ⟨b, c, h1, h2⟩ := h.2 j hj
  exact ⟨b, c, h1, h2.grown ho hg⟩⟩
theorem MV.snoc {w : World} {k l b c : Nat} {r : Nat → List Dw} {vals : List Value} (h : MV w k l r vals) (ht : TT w b l (r k)) : MV w (k + 1) l r (vals ++ [.slice (some ⟨b, 0, none⟩) l c]) := by
 refine ⟨by rw [List.length_append, h.1]; rfl, fun j hj => ?_⟩
 by_cases hjk : j < k
 ·obtain ⟨b', c', h1, h2⟩ := h.2 j hjk
  exact ⟨b', c', by rw [List.getElem?_append_left (by rw [h.1]; exact hjk)]; exact h1, h2⟩
 ·have : j = k := by omega
  subst this
  exact ⟨b, c, by rw [← h.1, List.getElem?_concat_length], ht⟩
/-- Two rows of rows, apart from each other. -/
structure PX (w1 w : World) (X : Option Addr) (kx cx : Nat) (vx : List Value) (Y : Option Addr) (ky cy : Nat) (vy : List Value) (l : Nat) (r : Nat → List Dw) : Prop where
 ox : w.ownsRow w1.heap.size 56 1 (.slice X kx cx) kx vx
 oy : w.ownsRow w1.heap.size 56 1 (.slice Y ky cy) ky vy
 ne : ∀ g, (Value.slice X kx cx).ownBlock = some g → (Value.slice Y ky cy).ownBlock ≠ some g
 mx : MV w kx l r vx
 my : MV w ky l r vy
 x : Ext w1 w
theorem PX.ext {w1 w w' : World} {X Y : Option Addr} {kx cx ky cy l : Nat} {vx vy : List Value} {r : Nat → List Dw} (h : PX w1 w X kx cx vx Y ky cy vy l r) (hx : Ext w w') : PX w1 w' X kx cx vx Y ky cy vy l r :=
 ⟨own_ext h.ox hx, own_ext h.oy hx, h.ne, h.mx.ext hx, h.my.ext hx, h.x.trans hx⟩
/-- append of a row. -/
theorem appRow {w0 w : World} {ops : Array Oper} {rest : List Oper} {o : Oper} {a : Act} {Q : Exit → Act → World → Prop} (hgd : o.guard = none) (s x : Operand)
  (ho : o.op = .call { callee := .builtin .append, args := #[s, x], argTypes := #[34, 34] }) (v : Value) (n : Nat) (xs : List Value) (hs : a.eval s = v)
  (hown : w.ownsRow w0.heap.size 56 1 v n xs) (hx0 : Ext w0 w) (u : Value) (hu : u.oneCell' = true) (b : Nat) (hx : a.eval x = .slice (some ⟨b, 0, none⟩) 1 1) (hr : Rd w w.heap.size 1 (some ⟨b, 0, none⟩) 1 [u]) (hn : n + 1 ≤ 100000000)
  (h : ∀ v' w', w'.ownsRow w0.heap.size 56 1 v' (n + 1) (xs ++ [u]) → Ext w0 w' → w.grownBy w' v.ownBlock → (v'.ownBlock = v.ownBlock ∨ v'.ownBlock = some w.heap.size) → wpList Tryz.prog ops Q rest (a.put o.dst v') w') : wpList Tryz.prog ops Q (o :: rest) a w := by
 obtain ⟨i0, hi, hz0, hz1, hz2⟩ := info_parts Tryz.infoRowD
 exact wpList_app hgd s x _ ho 56 i0 _ 1 24 Tryz.underlying34 hi hz0 hz1 hz2 rfl (by decide) (by decide) v n _ hs hown hx0 _ 1 1 _ hx hr (by intro u' hu'; rw [List.mem_singleton] at hu'; subst hu'; exact hu) hn h
theorem pow_shift {n : Nat} (h1 : 1 ≤ n) (h4 : n ≤ 4) : wrap64 ((2 : Int) ^ n) = ((2 ^ n : Nat) : Int) := by
 rcases (show n = 1 ∨ n = 2 ∨ n = 3 ∨ n = 4 by omega) with rfl | rfl | rfl | rfl <;> first | decide | (unfold wrap64; decide) | kernel_rfl
end Go.Proofs.YtioimnplhmgbgaaGreat
/-
 Helper text (no claim of its own): states: comparison, times a power of the eighth root, by the reference. Printed by gen_am.py or gen_an.py.
-/
namespace Go.Proofs.YtioimnplhmgbgaaGreat
open Go.ChangeShapes Go.WideShapes Go.ChangeAt Go.RowKit Go.Deep
set_option linter.unusedVariables false
set_option linter.unusedSimpArgs false
theorem eqD_iff {x y : Dw} : eqD x y = true ↔ x = y := by
 constructor
 ·intro h
  unfold eqD at h
  simp only [Bool.and_eq_true, beq_iff_eq] at h
  exact Dw.eq (Zw.eq h.1.1.1.1 h.1.1.1.2 h.1.1.2 h.1.2) h.2
 ·rintro rfl
  exact eqD_self x
theorem take_eq {us vs : List Dw} {k : Nat} {x : Dw} (h : us.take k = vs.take k) (hu : us[k]? = some x) (hv : vs[k]? = some x) : us.take (k + 1) = vs.take (k + 1) := by
 rw [List.take_add_one, List.take_add_one, hu, hv, h]
set_option maxRecDepth 100000 in
set_option maxHeartbeats 8000000 in
theorem EqualState_any (A B : Option Addr) (c d l : Nat) (us vs : List Dw) (w : World) (h : Rd w w.heap.size 5 A l (scells us)) (h' : Rd w w.heap.size 5 B l (scells vs)) (hu : us.length = l) (hv : vs.length = l) (hl : l ≤ 1048576) :
  Calls Tryz.prog 28 #[.slice A l c, .slice B l d] w fun e w' => (∃ b, e = .returned (.bool b) ∧ (b = true ↔ us = vs)) ∧ Ext w w' := by
 have HU := Lib.hid hu
 have HV := Lib.hid hv
 clear hu hv
 go_enter Tryz.func28, Tryz.ntmps28
 go_wp2
 go_loopw [5] (fun i wr => ∃ k : Nat, k ≤ l ∧ i = .int .i64 k ∧ Hid (us.take k = vs.take k) ∧ ∃ q, wr = w.drewN q) (fun i _ => l - (intOf i).toNat)
 case atStart => exact ⟨0, Nat.zero_le _, rfl, rfl, 0, rfl⟩
 case round =>
  obtain ⟨k, hk, rfl, HT, q, rfl⟩ := hrel
  by_cases hlt : k < l
  ·obtain ⟨b, o, g, rfl, hb, hg, x0, x1, x2, x3, x4⟩ := dw_at h hlt
   obtain ⟨b', o', g', rfl, hb', hg', y0, y1, y2, y3, y4⟩ := dw_at h' hlt
   have HG := Lib.hid hg
   have HG' := Lib.hid hg'
   clear hg hg'
   obtain ⟨f, hf⟩ : ∃ f, f = eqD g g' := ⟨_, rfl⟩
   have HN := (show ∀ w, (Op.equalIn 10000 62 g.val g'.val).run Tryz.prog w = .ok f w from fun w => by rw [eqIn_dw, hf])
   have HF := Lib.hid hf
   clear hf
   have HE := Tryz.eqgDOmega
   cases f
   ·go_wp2
    go_quiet (fail)
    go_wp2
    go_ret
    refine ⟨⟨false, rfl, by simp, fun e => ?_⟩, xx⟩
    rw [e, HG'.out] at HG
    have e2 := HF.out
    rw [Option.some.inj HG.out, eqD_self] at e2
    exact e2
   ·have HT2 : Hid (us.take (k + 1) = vs.take (k + 1)) := by
     have e2 := eqD_iff.1 HF.out.symm
     subst e2
     exact take_eq HT.out HG.out HG'.out
    go_wp2
    go_quiet (fail)
    go_wp2
    go_roundw
    case rel => exact ⟨k + 1, by omega, by go_num, HT2, _, rfl⟩
    case measure => simp [intOf]; omega
  ·go_wp2
   go_ret
   refine ⟨⟨true, rfl, fun _ => ?_, fun _ => rfl⟩, xx⟩
   have e2 := HT.out
   rw [List.take_of_length_le (by rw [HU.out]; omega), List.take_of_length_le (by rw [HV.out]; omega)] at e2
   exact e2
set_option maxRecDepth 100000 in
set_option maxHeartbeats 8000000 in
theorem ScaleState_of {n : Nat} (h1 : 1 ≤ n) (h4 : n ≤ 4) (pa pb pc pd : Int) (f : Dw → Dw) (A : Option Addr) (c : Nat) (vs : List Dw) (w : World) (h : Rd w w.heap.size 5 A vs.length (scells vs)) (hl : vs.length = 2 ^ n) (hd : ∀ x ∈ vs, dok x = true)
  (hC : ∀ y ∈ vs, ∀ w', Calls Tryz.prog 50 #[y.val, .agg #[.int .i64 pa, .int .i64 pb, .int .i64 pc, .int .i64 pd, .int .i64 0]] w' fun e w'' => e = .returned (.tuple #[(f y).val, .bool true]) ∧ Ext w' w'') :
  Calls Tryz.prog 26 #[.slice A vs.length c, .agg #[.int .i64 pa, .int .i64 pb, .int .i64 pc, .int .i64 pd, .int .i64 0]] w fun e w' => (∃ v, e = .returned (.tuple #[v, .bool true]) ∧ SOut (vs.map f) v w') ∧ Ext w w' := by
 have HV : Hid (∀ w', Ext w w' → Calls Tryz.prog 49 #[.slice A vs.length c] w' fun e w'' => e = .returned (.bool true) ∧ Ext w' w'') := fun w' hx => IsValidState_yes h1 h4 A c vs w' (h.ext hx) hl hd
 have hl16 : vs.length ≤ 16 := by rw [hl]; rcases (show n = 1 ∨ n = 2 ∨ n = 3 ∨ n = 4 by omega) with rfl | rfl | rfl | rfl <;> decide
 have HD := Lib.hid hC
 obtain ⟨l, hgl⟩ : ∃ l, vs.length = l := ⟨_, rfl⟩
 rw [hgl] at h HV hl16
 rw [hgl]
 have HL := Lib.hid hgl
 clear hl hd hgl h1 h4 hC
 go_enter Tryz.func26, Tryz.ntmps26
 go_upto_region 2 with (fail)
 have HB : Hid (Blk (w.alloc (.cells #[.int .i64 pa, .int .i64 pb, .int .i64 pc, .int .i64 pd, .int .i64 0] 62)) w.heap.size 62 #[.int .i64 pa, .int .i64 pb, .int .i64 pc, .int .i64 pd, .int .i64 0]) := Blk.new w _ _
 have HE : Hid (Ext w (w.alloc (.cells #[.int .i64 pa, .int .i64 pb, .int .i64 pc, .int .i64 pd, .int .i64 0] 62))) := xx
 have ho0 : ((w.alloc (.cells #[.int .i64 pa, .int .i64 pb, .int .i64 pc, .int .i64 pd, .int .i64 0] 62)).alloc (.cells #[] 62)).ownsRow (w.alloc (.cells #[.int .i64 pa, .int .i64 pb, .int .i64 pc, .int .i64 pd, .int .i64 0] 62)).heap.size 62 5 (.slice (some ⟨(w.alloc (.cells #[.int .i64 pa, .int .i64 pb, .int .i64 pc, .int .i64 pd, .int .i64 0] 62)).heap.size, 0, none⟩) 0 0) 0 (scells []) := own_lit (Ext.refl _) _ _ 5 0 #[] _ rfl rfl rfl (by omega)
 have hsz : (w.alloc (.cells #[.int .i64 pa, .int .i64 pb, .int .i64 pc, .int .i64 pd, .int .i64 0] 62)).heap.size = w.heap.size + 1 := by simp
 generalize w.alloc (.cells #[.int .i64 pa, .int .i64 pb, .int .i64 pc, .int .i64 pd, .int .i64 0] 62) = w1 at *
 rw [hsz] at ho0
 have HD0 : Hid (DS w1 (w1.alloc (.cells #[] 62)) (some ⟨w.heap.size + 1, 0, none⟩) 0 0 []) := ⟨by rw [hsz]; exact ho0, (Ext.refl _).alloc _⟩
 clear ho0
 generalize w1.alloc (.cells #[] 62) = w2 at *
 go_wp2
 go_loopw [6, 7] (fun rv iv wr => ∃ (k : Nat) (A' : Option Addr) (cap : Nat), rv = .slice A' k cap ∧ iv = .int .i64 k ∧ k ≤ l ∧ Hid (DS w1 wr A' k cap ((vs.take k).map f))) (fun _ i _ => l - (intOf i).toNat)
 case atStart => exact ⟨0, _, 0, rfl, rfl, Nat.zero_le _, HD0⟩
 case round =>
  obtain ⟨k, A', cap, rfl, rfl, hk, HDk⟩ := hrel
  clear HD0
  by_cases hlt : k < l
  ·obtain ⟨b, o, y, rfl, hb, hg, -⟩ := dw_at h hlt
   have HG := Lib.hid hg
   have HK : Hid (∀ w', Ext wr w' → (w'.cell? ⟨w.heap.size, 0, none⟩ = some (.int .i64 pa) ∧ w'.cell? ⟨w.heap.size, 1, none⟩ = some (.int .i64 pb) ∧ w'.cell? ⟨w.heap.size, 2, none⟩ = some (.int .i64 pc) ∧ w'.cell? ⟨w.heap.size, 3, none⟩ = some (.int .i64 pd) ∧ w'.cell? ⟨w.heap.size, 4, none⟩ = some (.int .i64 0)) ∧ (w'.cell? ⟨b, o + k * 5, none⟩ = some (.int .i64 y.n.a) ∧ w'.cell? ⟨b, o + k * 5 + 1, none⟩ = some (.int .i64 y.n.b) ∧ w'.cell? ⟨b, o + k * 5 + 2, none⟩ = some (.int .i64 y.n.c) ∧ w'.cell? ⟨b, o + k * 5 + 3, none⟩ = some (.int .i64 y.n.d) ∧ w'.cell? ⟨b, o + k * 5 + 4, none⟩ = some (.int .i64 y.e))) := fun w' hx => ⟨(cells5 (HB.out.ext (HDk.out.x.trans hx))).1, state_at (h.up (HE.out.trans (HDk.out.x.trans hx)) (Nat.le_refl _)) hlt HG.out⟩
   obtain ⟨z, hz⟩ : ∃ z, z = f y := ⟨_, rfl⟩
   have HC : Hid (∀ w', Calls Tryz.prog 50 #[y.val, .agg #[.int .i64 pa, .int .i64 pb, .int .i64 pc, .int .i64 pd, .int .i64 0]] w' fun e w'' => e = .returned (.tuple #[z.val, .bool true]) ∧ Ext w' w'') := fun w' => by
    rw [hz]
    exact HD.out y (List.mem_of_getElem? HG.out) w'
   have HTK : Hid ((vs.take (k + 1)).map f = (vs.take k).map f ++ [z]) := by
    unfold Hid
    rw [List.take_add_one, HG.out, List.map_append, hz]
    rfl
   have hk1 : IntKind.i64.wrap ((k : Int) + 1) = ((k + 1 : Nat) : Int) := by rw [IntWalk.i64_in _ (by omega)]; rfl
   have hk2 : wrap64 ((k : Int) + 1) = ((k + 1 : Nat) : Int) := by unfold wrap64; omega
   have HLT : Hid (k < l ∧ l ≤ 16) := ⟨hlt, hl16⟩
   clear hg hb hz
   obtain ⟨p0, ⟨x0, x1, x2, x3, x4⟩⟩ := HK.out wr (Ext.refl _)
   go_upto_region 5 with (fail)
   refine wp_region_held_drew (S := fun w' => (w'.cell? ⟨w.heap.size, 0, none⟩ = some (.int .i64 pa) ∧ w'.cell? ⟨w.heap.size, 1, none⟩ = some (.int .i64 pb) ∧ w'.cell? ⟨w.heap.size, 2, none⟩ = some (.int .i64 pc) ∧ w'.cell? ⟨w.heap.size, 3, none⟩ = some (.int .i64 pd) ∧ w'.cell? ⟨w.heap.size, 4, none⟩ = some (.int .i64 0)) ∧ (w'.cell? ⟨b, o + k * 5, none⟩ = some (.int .i64 y.n.a) ∧ w'.cell? ⟨b, o + k * 5 + 1, none⟩ = some (.int .i64 y.n.b) ∧ w'.cell? ⟨b, o + k * 5 + 2, none⟩ = some (.int .i64 y.n.c) ∧ w'.cell? ⟨b, o + k * 5 + 3, none⟩ = some (.int .i64 y.n.d) ∧ w'.cell? ⟨b, o + k * 5 + 4, none⟩ = some (.int .i64 y.e))) (by kernel_rfl) (HK.out _ (Ext.refl wr).drew) (fun hHeld => ?_)
   clear p0 x0 x1 x2 x3 x4
   (refine tk 0 (v := ?_) ?_ ?_; rotate_left; · (intro w hSw; (try dsimp only at hSw); go_simp; all_goals with_reducible rfl))
   (try simp only [Act.put, L1, L2, L3, L4, L5, L6])
   (refine tk 1 (v := ?_) ?_ ?_; rotate_left; · (intro w hSw; (try dsimp only at hSw); go_simp; all_goals with_reducible rfl))
   (try simp only [Act.put, L1, L2, L3, L4, L5, L6])
   (refine tk 2 (v := ?_) ?_ ?_; rotate_left; · (intro w hSw; (try dsimp only at hSw); go_simp; all_goals with_reducible rfl))
   (try simp only [Act.put, L1, L2, L3, L4, L5, L6])
   (refine tk 3 (v := ?_) ?_ ?_; rotate_left; · (intro w hSw; (try dsimp only at hSw); go_simp; all_goals with_reducible rfl))
   (try simp only [Act.put, L1, L2, L3, L4, L5, L6])
   (refine tk 4 (v := ?_) ?_ ?_; rotate_left; · (intro w hSw; (try dsimp only at hSw); go_simp; all_goals with_reducible rfl))
   (try simp only [Act.put, L1, L2, L3, L4, L5, L6])
   refine wpAnyH_ready (rs := [5, 9]) (by kernel_rfl) (by simp) ?_
   refine AllReadyH.cons rfl (fun K hK => ?_) (AllReadyH.cons rfl (fun K hK => ?_) AllReadyH.nil)
   ·go_simp
    refine (HC.out _).mono ?_
    rintro e v5 ⟨rfl, hy5⟩
    have HY5 : Hid (Ext wr v5) := Ext.trans (Ext.refl wr).drew hy5
    clear hy5
    refine hK.out _ _ (HK.out _ (HY5.out)) (fun hHeld => ?_)
    clear hK K
    (try simp only [Act.put, L1, L2, L3, L4, L5, L6])
    (refine tk 6 (v := ?_) ?_ ?_; rotate_left; · (intro w hSw; (try dsimp only at hSw); go_simp; all_goals with_reducible rfl))
    (try simp only [Act.put, L1, L2, L3, L4, L5, L6])
    (refine tk 7 (v := ?_) ?_ ?_; rotate_left; · (intro w hSw; (try dsimp only at hSw); go_simp; all_goals with_reducible rfl))
    (try simp only [Act.put, L1, L2, L3, L4, L5, L6])
    (refine tk 8 (v := ?_) ?_ ?_; rotate_left; · (intro w hSw; (try dsimp only at hSw); go_simp; all_goals with_reducible rfl))
    (try simp only [Act.put, L1, L2, L3, L4, L5, L6])
    refine wpAnyH_ready (rs := [9]) (by kernel_rfl) (by simp) ?_
    refine AllReadyH.cons rfl (fun K hK => ?_) AllReadyH.nil
    go_simp
    have HX6 : Hid (Ext wr (v5.alloc (.cells #[.int .i64 0, .int .i64 0, .int .i64 0, .int .i64 0, .int .i64 0] 62))) := HY5.out.alloc _
    have HB6 : Hid (Blk (v5.alloc (.cells #[.int .i64 0, .int .i64 0, .int .i64 0, .int .i64 0, .int .i64 0] 62)) v5.heap.size 62 #[.int .i64 0, .int .i64 0, .int .i64 0, .int .i64 0, .int .i64 0]) := Blk.new _ _ _
    have hs6 : wr.heap.size ≤ v5.heap.size := HY5.out.size
    refine hK.out _ _ (HK.out _ (HX6.out)) (fun hHeld => ?_)
    clear hK K
    (try simp only [Act.put, L1, L2, L3, L4, L5, L6])
    generalize v5.alloc (.cells #[.int .i64 0, .int .i64 0, .int .i64 0, .int .i64 0, .int .i64 0] 62) = w6 at *
    generalize v5.heap.size = s at *
    clear HY5
    refine wpAnyH_ready (rs := [10]) (by kernel_rfl) (by simp) ?_
    refine AllReadyH.cons rfl (fun K hK => ?_) AllReadyH.nil
    obtain ⟨⟨q0, q1, q2, q3, q4⟩, f0, f1, f2, f3, f4⟩ := cells5 HB6.out
    go_simp
    have HX7 : Hid (Ext wr (((((w6.setCell ⟨s, 0, none⟩ (.int .i64 z.n.a)).setCell ⟨s, 1, none⟩ (.int .i64 z.n.b)).setCell ⟨s, 2, none⟩ (.int .i64 z.n.c)).setCell ⟨s, 3, none⟩ (.int .i64 z.n.d)).setCell ⟨s, 4, none⟩ (.int .i64 z.e))) := ext_put5 (g := s) HX6.out hs6 _ _ _ _ _
    have HB7 : Hid (Blk (((((w6.setCell ⟨s, 0, none⟩ (.int .i64 z.n.a)).setCell ⟨s, 1, none⟩ (.int .i64 z.n.b)).setCell ⟨s, 2, none⟩ (.int .i64 z.n.c)).setCell ⟨s, 3, none⟩ (.int .i64 z.n.d)).setCell ⟨s, 4, none⟩ (.int .i64 z.e)) s 62 #[.int .i64 z.n.a, .int .i64 z.n.b, .int .i64 z.n.c, .int .i64 z.n.d, .int .i64 z.e]) := HB6.out.put5 _ _ _ _ _
    refine hK.out _ _ (HK.out _ (HX7.out)) (fun hHeld => ?_)
    clear hK K
    (try simp only [Act.put, L1, L2, L3, L4, L5, L6])
    (refine tk 11 (v := ?_) ?_ ?_; rotate_left; · (intro w hSw; (try dsimp only at hSw); go_simp; all_goals with_reducible rfl))
    (try simp only [Act.put, L1, L2, L3, L4, L5, L6])
    (refine wpAnyH_done (by kernel_rfl) ?_ _)
    clear q0 q1 q2 q3 q4 f0 f1 f2 f3 f4 hHeld
    generalize (((((w6.setCell ⟨s, 0, none⟩ (.int .i64 z.n.a)).setCell ⟨s, 1, none⟩ (.int .i64 z.n.b)).setCell ⟨s, 2, none⟩ (.int .i64 z.n.c)).setCell ⟨s, 3, none⟩ (.int .i64 z.n.d)).setCell ⟨s, 4, none⟩ (.int .i64 z.e)) = w7 at *
    clear HX6 HB6 HK hs6
    have HD7 := Lib.hid (HDk.out.ext HX7.out)
    clear HDk HC
    obtain ⟨⟨q0, q1, q2, q3, q4⟩, -⟩ := cells5 HB7.out
    go_wp2_with fail
    refine (HV.out _ (HE.out.trans HD7.out.x)).mono ?_
    rintro e w8 ⟨rfl, hx8⟩
    have HD8 := Lib.hid (HD7.out.ext hx8)
    have HB8 := Lib.hid (HB7.out.ext hx8)
    clear HD7 HB7 hx8 q0 q1 q2 q3 q4
    obtain ⟨⟨q0, q1, q2, q3, q4⟩, -⟩ := cells5 HB8.out
    go_wp2_with (at_builtin; refine appDOmegaS (w0 := w1) rfl _ _ rfl _ k ((vs.take k).map f) rfl (own_ext HD8.out.o ((Ext.refl _).alloc _)) (HD8.out.x.alloc _) _ 1 1 [z] rfl (rd_new _ _ _ 5 _ (by simp [Dw.cells]) (by simp [Dw.cells])) (by have := HLT.out; omega) ?_; intro v' w9 g1 g2 g3 g4)
    obtain ⟨A9, c9, rfl, _⟩ := own_slice g1
    have HD9 : Hid (DS w1 w9 A9 (k + 1) c9 ((vs.take (k + 1)).map f)) := ⟨by rw [HTK.out]; exact g1, g2⟩
    clear g1 g2 g3 g4
    go_roundw
    case rel => exact ⟨k + 1, A9, c9, rfl, by first | rfl | rw [hk1] | rw [hk2], by have := HLT.out; omega, HD9⟩
    case measure => simp [intOf, hk2]; have := HLT.out; omega
   ·go_simp
    refine hK.out _ _ (HK.out _ (((Ext.refl wr).alloc _).drew)) (fun hHeld => ?_)
    clear hK K
    (try simp only [Act.put, L1, L2, L3, L4, L5, L6])
    refine wpAnyH_ready (rs := [5]) (by kernel_rfl) (by simp) ?_
    refine AllReadyH.cons rfl (fun K hK => ?_) AllReadyH.nil
    go_simp
    refine (HC.out _).mono ?_
    rintro e w6 ⟨rfl, hy5⟩
    have HX6 : Hid (Ext wr w6) := Ext.trans ((Ext.refl wr).alloc (.cells #[.int .i64 0, .int .i64 0, .int .i64 0, .int .i64 0, .int .i64 0] 62)).drew hy5
    have HB6 : Hid (Blk w6 wr.heap.size 62 #[.int .i64 0, .int .i64 0, .int .i64 0, .int .i64 0, .int .i64 0]) := ((Blk.new wr 62 #[.int .i64 0, .int .i64 0, .int .i64 0, .int .i64 0, .int .i64 0]).ext ((Ext.refl _).drew)).ext hy5
    have hs6 : wr.heap.size ≤ wr.heap.size := Nat.le_refl _
    clear hy5
    refine hK.out _ _ (HK.out _ (HX6.out)) (fun hHeld => ?_)
    clear hK K
    (try simp only [Act.put, L1, L2, L3, L4, L5, L6])
    (refine tk 6 (v := ?_) ?_ ?_; rotate_left; · (intro w hSw; (try dsimp only at hSw); go_simp; all_goals with_reducible rfl))
    (try simp only [Act.put, L1, L2, L3, L4, L5, L6])
    (refine tk 7 (v := ?_) ?_ ?_; rotate_left; · (intro w hSw; (try dsimp only at hSw); go_simp; all_goals with_reducible rfl))
    (try simp only [Act.put, L1, L2, L3, L4, L5, L6])
    (refine tk 8 (v := ?_) ?_ ?_; rotate_left; · (intro w hSw; (try dsimp only at hSw); go_simp; all_goals with_reducible rfl))
    (try simp only [Act.put, L1, L2, L3, L4, L5, L6])
    obtain ⟨s, hs⟩ : ∃ s, s = wr.heap.size := ⟨_, rfl⟩
    rw [← hs] at HB6 ⊢
    replace hs6 : wr.heap.size ≤ s := by rw [hs]; exact Nat.le_refl _
    clear hs
    refine wpAnyH_ready (rs := [10]) (by kernel_rfl) (by simp) ?_
    refine AllReadyH.cons rfl (fun K hK => ?_) AllReadyH.nil
    obtain ⟨⟨q0, q1, q2, q3, q4⟩, f0, f1, f2, f3, f4⟩ := cells5 HB6.out
    go_simp
    have HX7 : Hid (Ext wr (((((w6.setCell ⟨s, 0, none⟩ (.int .i64 z.n.a)).setCell ⟨s, 1, none⟩ (.int .i64 z.n.b)).setCell ⟨s, 2, none⟩ (.int .i64 z.n.c)).setCell ⟨s, 3, none⟩ (.int .i64 z.n.d)).setCell ⟨s, 4, none⟩ (.int .i64 z.e))) := ext_put5 (g := s) HX6.out hs6 _ _ _ _ _
    have HB7 : Hid (Blk (((((w6.setCell ⟨s, 0, none⟩ (.int .i64 z.n.a)).setCell ⟨s, 1, none⟩ (.int .i64 z.n.b)).setCell ⟨s, 2, none⟩ (.int .i64 z.n.c)).setCell ⟨s, 3, none⟩ (.int .i64 z.n.d)).setCell ⟨s, 4, none⟩ (.int .i64 z.e)) s 62 #[.int .i64 z.n.a, .int .i64 z.n.b, .int .i64 z.n.c, .int .i64 z.n.d, .int .i64 z.e]) := HB6.out.put5 _ _ _ _ _
    refine hK.out _ _ (HK.out _ (HX7.out)) (fun hHeld => ?_)
    clear hK K
    (try simp only [Act.put, L1, L2, L3, L4, L5, L6])
    (refine tk 11 (v := ?_) ?_ ?_; rotate_left; · (intro w hSw; (try dsimp only at hSw); go_simp; all_goals with_reducible rfl))
    (try simp only [Act.put, L1, L2, L3, L4, L5, L6])
    (refine wpAnyH_done (by kernel_rfl) ?_ _)
    clear q0 q1 q2 q3 q4 f0 f1 f2 f3 f4 hHeld
    generalize (((((w6.setCell ⟨s, 0, none⟩ (.int .i64 z.n.a)).setCell ⟨s, 1, none⟩ (.int .i64 z.n.b)).setCell ⟨s, 2, none⟩ (.int .i64 z.n.c)).setCell ⟨s, 3, none⟩ (.int .i64 z.n.d)).setCell ⟨s, 4, none⟩ (.int .i64 z.e)) = w7 at *
    clear HX6 HB6 HK hs6
    have HD7 := Lib.hid (HDk.out.ext HX7.out)
    clear HDk HC
    obtain ⟨⟨q0, q1, q2, q3, q4⟩, -⟩ := cells5 HB7.out
    go_wp2_with fail
    refine (HV.out _ (HE.out.trans HD7.out.x)).mono ?_
    rintro e w8 ⟨rfl, hx8⟩
    have HD8 := Lib.hid (HD7.out.ext hx8)
    have HB8 := Lib.hid (HB7.out.ext hx8)
    clear HD7 HB7 hx8 q0 q1 q2 q3 q4
    obtain ⟨⟨q0, q1, q2, q3, q4⟩, -⟩ := cells5 HB8.out
    go_wp2_with (at_builtin; refine appDOmegaS (w0 := w1) rfl _ _ rfl _ k ((vs.take k).map f) rfl (own_ext HD8.out.o ((Ext.refl _).alloc _)) (HD8.out.x.alloc _) _ 1 1 [z] rfl (rd_new _ _ _ 5 _ (by simp [Dw.cells]) (by simp [Dw.cells])) (by have := HLT.out; omega) ?_; intro v' w9 g1 g2 g3 g4)
    obtain ⟨A9, c9, rfl, _⟩ := own_slice g1
    have HD9 : Hid (DS w1 w9 A9 (k + 1) c9 ((vs.take (k + 1)).map f)) := ⟨by rw [HTK.out]; exact g1, g2⟩
    clear g1 g2 g3 g4
    go_roundw
    case rel => exact ⟨k + 1, A9, c9, rfl, by first | rfl | rw [hk1] | rw [hk2], by have := HLT.out; omega, HD9⟩
    case measure => simp [intOf, hk2]; have := HLT.out; omega
  ·have hkl : k = l := by omega
   subst hkl
   go_wp2_with fail
   refine (HV.out _ (HE.out.trans HDk.out.x)).mono ?_
   rintro e w8 ⟨rfl, hx8⟩
   have HD8 := HDk.out.ext hx8
   rw [List.take_of_length_le (by rw [HL.out]; exact Nat.le_refl _)] at HD8
   go_wp2
   go_ret2
   exact ⟨⟨_, rfl, HD8.out⟩, HE.out.trans HD8.x⟩
/-- An amplitude times a power of the eighth root. -/
def rotD (j : Nat) (x : Dw) : Dw := ⟨rot j x.n, x.e⟩
theorem rotD_ok {j : Nat} {x : Dw} (hj : j < 8) (h : dok x = true) : dok (rotD j x) = true := (mulD_ph hj h).2
theorem ScaleState_ph {n : Nat} (h1 : 1 ≤ n) (h4 : n ≤ 4) {j : Nat} (hj : j < 8) (A : Option Addr) (c : Nat) (vs : List Dw) (w : World) (h : Rd w w.heap.size 5 A vs.length (scells vs)) (hl : vs.length = 2 ^ n) (hd : ∀ x ∈ vs, dok x = true) :
  Calls Tryz.prog 26 #[.slice A vs.length c, (ph j).val] w fun e w' => (∃ v, e = .returned (.tuple #[v, .bool true]) ∧ SOut (vs.map (rotD j)) v w') ∧ Ext w w' :=
 ScaleState_of h1 h4 (zw j).a (zw j).b (zw j).c (zw j).d (rotD j) A c vs w h hl hd fun y hy w' => by
  have hk := hd y hy
  have h1 := (mulD_ph hj hk).1
  have h2 := MulDOmega_yes y (ph j) w' hk (ph_ok j) (zok_near.2 (rot_near hj (zok_near.1 (dok_iff.1 hk).1))) (by have := (dok_iff.1 hk).2.2.1; show y.e + 0 ≤ 60; omega)
  rw [h1] at h2
  exact h2
end Go.Proofs.YtioimnplhmgbgaaGreat
/-
 Helper text (no claim of its own): the matrix of a circuit, by the reference.
-/
namespace Go.Proofs.YtioimnplhmgbgaaGreat
open Go.ChangeShapes Go.WideShapes Go.ChangeAt Go.RowKit Go.Deep
set_option linter.unusedVariables false
set_option linter.unusedSimpArgs false
/-- A column of a matrix. -/
def colM (l : Nat) (r : Nat → List Dw) (k : Nat) : List Dw := (List.range l).map fun i => (r i).getD k d0
theorem colM_len (l : Nat) (r : Nat → List Dw) (k : Nat) : (colM l r k).length = l := by unfold colM; rw [List.length_map, List.length_range]
theorem own_t {w : World} {B l : Nat} {v : Value} {vs : List Dw} (h : w.ownsRow B 62 5 v l (scells vs)) (hl : 0 < l) : TOut l vs v w := by
 have hr := own_slice h
 obtain ⟨A', c', rfl, hrd⟩ := hr
 obtain ⟨hlen, h0 | ⟨g, cap, cur, hv, hB, hc, -⟩⟩ := h
 ·omega
 ·injection hv with e1 _ e3
  subst e1 e3
  exact ⟨g, _, rfl, ⟨cur, hc⟩, hrd⟩
set_option maxRecDepth 100000 in
set_option maxHeartbeats 8000000 in
theorem l7Column_any {l k : Nat} (hl : 0 < l ∧ l ≤ 16) (hk : k < l) (X : Option Addr) (c : Nat) (r : Nat → List Dw) (w : World) (hx : MX w X l l r) (hr : ∀ j, j < l → (r j).length = l) :
  Calls Tryz.prog 75 #[.slice X l c, .int .i64 k] w fun e w' => (∃ v, e = .returned v ∧ TOut l (colM l r k) v w') ∧ Ext w w' := by
 have HX := Lib.hid hx
 have HR := Lib.hid hr
 have HK : Hid (k < l ∧ 0 < l ∧ l ≤ 16) := ⟨hk, hl⟩
 have hk0 : (0 : Int) ≤ (k : Int) := by omega
 have hkl : (k : Int) < (l : Int) := by omega
 clear hx hr
 go_enter Tryz.func75, Tryz.ntmps75
 go_upto_region 2 with (fail)
 have HO0 : Hid ((w.alloc (.cells #[] 62)).ownsRow w.heap.size 62 5 (.slice (some ⟨w.heap.size, 0, none⟩) 0 0) 0 (scells ((List.range 0).map fun i => (r i).getD k d0)) ∧ Ext w (w.alloc (.cells #[] 62))) := ⟨own_lit (Ext.refl _) _ _ 5 0 #[] _ rfl rfl rfl (by omega), (Ext.refl _).alloc _⟩
 generalize w.alloc (.cells #[] 62) = w2 at *
 go_wp2
 go_loopw [5, 6] (fun rv iv wr => ∃ (i : Nat) (A' : Option Addr) (cap : Nat), rv = .slice A' i cap ∧ iv = .int .i64 i ∧ i ≤ l ∧ Hid (wr.ownsRow w.heap.size 62 5 (.slice A' i cap) i (scells ((List.range i).map fun i => (r i).getD k d0)) ∧ Ext w wr)) (fun _ i _ => l - (intOf i).toNat)
 case atStart => exact ⟨0, _, 0, rfl, rfl, Nat.zero_le _, HO0⟩
 case round =>
  obtain ⟨i, A', cap, rfl, rfl, hi, HO⟩ := hrel
  clear HO0
  by_cases hlt : i < l
  ·have hk1 : IntKind.i64.wrap ((i : Int) + 1) = ((i + 1 : Nat) : Int) := by rw [IntWalk.i64_in _ (by have := HK.out; omega)]; rfl
   have hk2 : wrap64 ((i : Int) + 1) = ((i + 1 : Nat) : Int) := by have := HK.out; unfold wrap64; omega
   have HLT : Hid (i < l) := hlt
   obtain ⟨bx, ox, b, cc, rfl, x0, ht⟩ := (HX.out.ext HO.out.2).at_ hlt
   have hgx : (r i)[k]? = some ((r i).getD k d0) := by
    have h1 : k < (r i).length := by rw [HR.out i hlt]; exact HK.out.1
    rw [List.getD_eq_getElem?_getD, List.getElem?_eq_getElem h1]
    rfl
   obtain ⟨y0, y1, y2, y3, y4⟩ := state_at ht.2 HK.out.1 hgx
   obtain ⟨y, hy⟩ : ∃ y, y = (r i).getD k d0 := ⟨_, rfl⟩
   rw [← hy] at y0 y1 y2 y3 y4
   have HTK : Hid ((List.range (i + 1)).map (fun i => (r i).getD k d0) = (List.range i).map (fun i => (r i).getD k d0) ++ [y]) := by
    unfold Hid
    rw [List.range_succ, List.map_append, hy]
    rfl
   clear hgx hy ht
   rw [Nat.zero_add] at y0 y1 y2 y3 y4
   go_wp2_with (at_builtin; refine appDOmegaS (w0 := w) rfl _ _ rfl _ i ((List.range i).map fun i => (r i).getD k d0) rfl (own_ext HO.out.1 ((Ext.refl _).alloc _)) (HO.out.2.alloc _) _ 1 1 [y] rfl (rd_new _ _ _ 5 _ (by simp [Dw.cells]) (by simp [Dw.cells])) (by have := HLT.out; have := HK.out; omega) ?_; intro v' w9 g1 g2 g3 g4)
   obtain ⟨A9, c9, rfl, _⟩ := own_slice g1
   have HO9 : Hid (w9.ownsRow w.heap.size 62 5 (.slice A9 (i + 1) c9) (i + 1) (scells ((List.range (i + 1)).map fun i => (r i).getD k d0)) ∧ Ext w w9) := ⟨by rw [HTK.out]; exact g1, g2⟩
   clear g1 g2 g3 g4
   go_roundw
   case rel => exact ⟨i + 1, A9, c9, rfl, by first | rfl | rw [hk1] | rw [hk2], by have := HLT.out; omega, HO9⟩
   case measure => simp [intOf, hk2]; have := HLT.out; omega
  ·have hil : i = l := by omega
   subst hil
   go_wp2
   go_ret
   exact ⟨⟨_, rfl, own_t HO.out.1 HK.out.2.1⟩, HO.out.2⟩
/-- One row of rows, with what it is made of. -/
structure PO (w1 w : World) (X : Option Addr) (kx cx : Nat) (vx : List Value) (l : Nat) (r : Nat → List Dw) : Prop where
 ox : w.ownsRow w1.heap.size 56 1 (.slice X kx cx) kx vx
 mx : MV w kx l r vx
 x : Ext w1 w
theorem PO.ext {w1 w w' : World} {X : Option Addr} {kx cx l : Nat} {vx : List Value} {r : Nat → List Dw} (h : PO w1 w X kx cx vx l r) (hx : Ext w w') : PO w1 w' X kx cx vx l r := ⟨own_ext h.ox hx, h.mx.ext hx, h.x.trans hx⟩
theorem PO.app {w1 w w' : World} {X X' : Option Addr} {kx cx cx' l b c : Nat} {vx : List Value} {r : Nat → List Dw} (h : PO w1 w X kx cx vx l r) (ht : TT w b l (r kx))
  (g1 : w'.ownsRow w1.heap.size 56 1 (.slice X' (kx + 1) cx') (kx + 1) (vx ++ [.slice (some ⟨b, 0, none⟩) l c])) (g2 : Ext w1 w') (g3 : w.grownBy w' (Value.slice X kx cx).ownBlock) :
  PO w1 w' X' (kx + 1) cx' (vx ++ [.slice (some ⟨b, 0, none⟩) l c]) l r := ⟨g1, (h.mx.grown h.ox g3).snoc (ht.grown h.ox g3), g2⟩
set_option maxRecDepth 100000 in
set_option maxHeartbeats 8000000 in
theorem l7Columns_any {l : Nat} (hl : 0 < l ∧ l ≤ 16) (X : Option Addr) (c : Nat) (r : Nat → List Dw) (w : World) (hx : MX w X l l r) (hr : ∀ j, j < l → (r j).length = l) :
  Calls Tryz.prog 48 #[.slice X l c] w fun e w' => (∃ Y d, e = .returned (.slice Y l d) ∧ MX w' Y l l (colM l r)) ∧ Ext w w' := by
 have HX := Lib.hid hx
 have HL := Lib.hid hl
 have HC : Hid (∀ (k : Nat), k < l → ∀ w', Ext w w' → Calls Tryz.prog 75 #[.slice X l c, .int .i64 k] w' fun e w'' => (∃ v, e = .returned v ∧ TOut l (colM l r k) v w'') ∧ Ext w' w'') := fun k hk w' hx' => l7Column_any hl hk X c r w' (hx.ext hx') hr
 clear hx hr
 go_enter Tryz.func48, Tryz.ntmps48
 go_upto_region 2 with (fail)
 have HP0 : Hid (PO w (w.alloc (.cells #[] 56)) (some ⟨w.heap.size, 0, none⟩) 0 0 [] l (colM l r)) := ⟨own_lit (Ext.refl _) _ _ 1 0 #[] _ (by simp) rfl rfl (by omega), ⟨rfl, fun j hj => by omega⟩, (Ext.refl _).alloc _⟩
 generalize w.alloc (.cells #[] 56) = w2 at *
 go_wp2
 go_loopw [3, 4] (fun rv iv wr => ∃ (i : Nat) (Y : Option Addr) (cy : Nat) (vy : List Value), rv = .slice Y i cy ∧ iv = .int .i64 i ∧ i ≤ l ∧ Hid (PO w wr Y i cy vy l (colM l r))) (fun _ i _ => l - (intOf i).toNat)
 case atStart => exact ⟨0, _, 0, [], rfl, rfl, Nat.zero_le _, HP0⟩
 case round =>
  obtain ⟨i, Y, cy, vy, rfl, rfl, hi, HP⟩ := hrel
  clear HP0
  by_cases hlt : i < l
  ·have hk1 : IntKind.i64.wrap ((i : Int) + 1) = ((i + 1 : Nat) : Int) := by rw [IntWalk.i64_in _ (by have := HL.out; omega)]; rfl
   have hk2 : wrap64 ((i : Int) + 1) = ((i + 1 : Nat) : Int) := by have := HL.out; unfold wrap64; omega
   have HLT : Hid (i < l) := hlt
   go_wp2_with fail
   refine (HC.out i HLT.out _ HP.out.x).mono ?_
   rintro e w4 ⟨⟨v, rfl, b4, c4, rfl, ht4⟩, hx4⟩
   have HP6 := Lib.hid (HP.out.ext hx4)
   have HT6 := Lib.hid ht4
   clear ht4 hx4 HP
   go_wp2_with (at_builtin; refine appRow (w0 := w) rfl _ _ rfl _ i vy rfl (own_ext HP6.out.ox ((Ext.refl _).alloc _)) (HP6.out.x.alloc _) _ rfl _ rfl (rd_new _ _ _ 1 _ rfl rfl) (by have := HLT.out; have := HL.out; omega) ?_; intro v' w9 g1 g2 g3 g4)
   obtain ⟨A9, c9, rfl, _⟩ := own_slice g1
   have HP9 := Lib.hid ((HP6.out.ext ((Ext.refl _).alloc _)).app (HT6.out.ext ((Ext.refl _).alloc _)) g1 g2 g3)
   clear g1 g2 g3 g4 HP6 HT6
   go_roundw
   case rel => exact ⟨i + 1, A9, c9, _, rfl, by first | rfl | rw [hk1] | rw [hk2], by have := HLT.out; omega, HP9⟩
   case measure => simp [intOf, hk2]; have := HLT.out; omega
  ·have hil : i = l := by omega
   subst hil
   go_wp2
   go_ret
   exact ⟨⟨_, _, rfl, _, Rd.own HP.out.ox, HP.out.mx⟩, HP.out.x⟩
set_option maxRecDepth 100000 in
set_option maxHeartbeats 8000000 in
theorem l11Mat_any {n : Nat} (h1 : 1 ≤ n) (h4 : n ≤ 4) (A : Option Addr) (ca : Nat) (ga : List Gt) (r : Nat → List Dw) (w : World) (hA : Rd w w.heap.size 4 A ga.length (gcells ga))
  (ha : ∀ i, i < 2 ^ n → ActsL (2 ^ n) A ca ga (basis n i) (r i)) (hl : ∀ j, j < 2 ^ n → (r j).length = 2 ^ n) :
  Calls Tryz.prog 24 #[.slice A ga.length ca, .int .i64 n] w fun e w' => (∃ Y d, e = .returned (.tuple #[.slice Y (2 ^ n) d, .bool true]) ∧ MX w' Y (2 ^ n) (2 ^ n) (colM (2 ^ n) r)) ∧ Ext w w' := by
 have hl16 : 0 < 2 ^ n ∧ 2 ^ n ≤ 16 := by rcases (show n = 1 ∨ n = 2 ∨ n = 3 ∨ n = 4 by omega) with rfl | rfl | rfl | rfl <;> decide
 have HBS : Hid (∀ (i : Nat) (w' : World), i < 2 ^ n → Calls Tryz.prog 47 #[.int .i64 n, .int .i64 i] w' fun e w'' => (∃ X c, e = .returned (.slice X (2 ^ n) c) ∧ Rd w'' w''.heap.size 5 X (2 ^ n) (scells (basis n i))) ∧ Ext w' w'') := fun i w' hi => by
  refine (BasisState_any h1 h4 i hi w').mono ?_
  rintro e w'' ⟨⟨v, rfl, X, c, rfl, h⟩, hx⟩
  have e1 : (basis n i).length = 2 ^ n := by simp [basis]
  rw [e1] at h ⊢
  exact ⟨⟨X, c, rfl, h⟩, hx⟩
 have HA : Hid (∀ (i : Nat) (X : Option Addr) (c : Nat) (w' : World), i < 2 ^ n → Ext w w' → Rd w' w'.heap.size 5 X (2 ^ n) (scells (basis n i)) → Calls Tryz.prog 46 #[.slice A ga.length ca, .slice X (2 ^ n) c] w' fun e w'' => (∃ v, e = .returned (.tuple #[v, .bool true]) ∧ TOut (2 ^ n) (r i) v w'') ∧ Ext w' w'') := fun i X c w' hi hx hr => ha i hi X c w' (hA.ext hx) hr
 have HCS : Hid (∀ (X : Option Addr) (c : Nat) (w' : World), MX w' X (2 ^ n) (2 ^ n) r → Calls Tryz.prog 48 #[.slice X (2 ^ n) c] w' fun e w'' => (∃ Y d, e = .returned (.slice Y (2 ^ n) d) ∧ MX w'' Y (2 ^ n) (2 ^ n) (colM (2 ^ n) r)) ∧ Ext w' w'') := fun X c w' hx => l7Columns_any hl16 X c r w' hx hl
 have hsh := pow_shift h1 h4
 have hn64 : IntKind.u64.wrap (n : Int) = (n : Int) := by rcases (show n = 1 ∨ n = 2 ∨ n = 3 ∨ n = 4 by omega) with rfl | rfl | rfl | rfl <;> rfl
 have hn4 : n ≤ 4 := h4
 clear hl ha hA h1
 generalize 2 ^ n = l at *
 generalize ga.length = na at *
 go_enter Tryz.func24, Tryz.ntmps24
 go_upto_region 2 with (fail)
 have HP0 : Hid (PO w (w.alloc (.cells #[] 56)) (some ⟨w.heap.size, 0, none⟩) 0 0 [] l r) := ⟨own_lit (Ext.refl _) _ _ 1 0 #[] _ (by simp) rfl rfl (by omega), ⟨rfl, fun j hj => by omega⟩, (Ext.refl _).alloc _⟩
 generalize w.alloc (.cells #[] 56) = w2 at *
 go_wp2
 go_loopw [6, 7] (fun rv iv wr => ∃ (i : Nat) (Y : Option Addr) (cy : Nat) (vy : List Value), rv = .slice Y i cy ∧ iv = .int .i64 i ∧ i ≤ l ∧ Hid (PO w wr Y i cy vy l r)) (fun _ i _ => l - (intOf i).toNat)
 case atStart => exact ⟨0, _, 0, [], rfl, rfl, Nat.zero_le _, HP0⟩
 case round =>
  obtain ⟨i, Y, cy, vy, rfl, rfl, hi, HP⟩ := hrel
  clear HP0
  by_cases hlt : i < l
  ·have hk1 : IntKind.i64.wrap ((i : Int) + 1) = ((i + 1 : Nat) : Int) := by rw [IntWalk.i64_in _ (by omega)]; rfl
   have hk2 : wrap64 ((i : Int) + 1) = ((i + 1 : Nat) : Int) := by unfold wrap64; omega
   have HLT : Hid (i < l ∧ l ≤ 16) := ⟨hlt, hl16.2⟩
   go_wp2_with fail
   refine (HBS.out i _ HLT.out.1).mono ?_
   rintro e w3 ⟨⟨X3, c3, rfl, hr3⟩, hx3⟩
   have HP3 := Lib.hid (HP.out.ext hx3)
   have HR3 := Lib.hid hr3
   clear hr3 hx3 HP
   go_wp2_with fail
   refine (HA.out i X3 c3 _ HLT.out.1 HP3.out.x HR3.out).mono ?_
   rintro e w4 ⟨⟨v, rfl, b4, c4, rfl, ht4⟩, hx4⟩
   have HP6 := Lib.hid (HP3.out.ext hx4)
   have HT6 := Lib.hid ht4
   clear ht4 hx4 HP3 HR3
   go_wp2_with (at_builtin; refine appRow (w0 := w) rfl _ _ rfl _ i vy rfl (own_ext HP6.out.ox ((Ext.refl _).alloc _)) (HP6.out.x.alloc _) _ rfl _ rfl (rd_new _ _ _ 1 _ rfl rfl) (by have := HLT.out; omega) ?_; intro v' w9 g1 g2 g3 g4)
   obtain ⟨A9, c9, rfl, _⟩ := own_slice g1
   have HP9 := Lib.hid ((HP6.out.ext ((Ext.refl _).alloc _)).app (HT6.out.ext ((Ext.refl _).alloc _)) g1 g2 g3)
   clear g1 g2 g3 g4 HP6 HT6
   go_roundw
   case rel => exact ⟨i + 1, A9, c9, _, rfl, by first | rfl | rw [hk1] | rw [hk2], by have := HLT.out; omega, HP9⟩
   case measure => simp [intOf, hk2]; have := HLT.out; omega
  ·have hil : i = l := by omega
   subst hil
   go_wp2_with fail
   refine (HCS.out _ _ _ ⟨_, Rd.own HP.out.ox, HP.out.mx⟩).mono ?_
   rintro e w3 ⟨⟨Z, d, rfl, hz⟩, hx3⟩
   have HZ := Lib.hid hz
   clear hz
   go_wp2
   go_ret2
   exact ⟨⟨_, _, rfl, HZ.out⟩, HP.out.x.trans hx3⟩
set_option maxRecDepth 100000 in
set_option maxHeartbeats 8000000 in
theorem CircuitMatrix_any {n : Nat} (A : Option Addr) (c : Nat) (gs : List Gt) (r : Nat → List Dw) (w : World) (h : Rd w w.heap.size 4 A gs.length (gcells gs)) (hv : vCi n gs = true)
  (ha : ∀ i, i < 2 ^ n → ActsL (2 ^ n) A c gs (basis n i) (r i)) (hl : ∀ j, j < 2 ^ n → (r j).length = 2 ^ n) :
  Calls Tryz.prog 8 #[.agg #[.int .i64 n, .slice A gs.length c]] w fun e w' => (∃ Y d, e = .returned (.tuple #[.slice Y (2 ^ n) d, .bool true]) ∧ MX w' Y (2 ^ n) (2 ^ n) (colM (2 ^ n) r)) ∧ Ext w w' := by
 have hb : 1 ≤ n ∧ n ≤ 4 ∧ gs.length ≤ 60 := by
  unfold vCi at hv
  simp only [Bool.and_eq_true, decide_eq_true_eq] at hv
  omega
 have HV : Hid (∀ w', Ext w w' → Calls Tryz.prog 21 #[.agg #[.int .i64 n, .slice A gs.length c]] w' fun e w'' => e = .returned (.bool true) ∧ Ext w' w'') := fun w' hx => by
  have := spec_IsValidCircuit_any A c n gs w' (h.ext hx) (by omega)
  rw [hv] at this
  exact this
 have HM : Hid (∀ w', Ext w w' → Calls Tryz.prog 24 #[.slice A gs.length c, .int .i64 n] w' fun e w'' => (∃ Y d, e = .returned (.tuple #[.slice Y (2 ^ n) d, .bool true]) ∧ MX w'' Y (2 ^ n) (2 ^ n) (colM (2 ^ n) r)) ∧ Ext w' w'') := fun w' hx => l11Mat_any hb.1 hb.2.1 A c gs r w' (h.ext hx) ha hl
 clear h hv ha hl hb
 generalize gs.length = m at *
 have hB2 : Hid (Blk (w.alloc (.cells #[.int .i64 n, .slice A m c] 26)) w.heap.size 26 #[.int .i64 n, .slice A m c]) := Blk.new w _ _
 have hX : Hid (Ext w (w.alloc (.cells #[.int .i64 n, .slice A m c] 26))) := (Ext.refl w).alloc _
 go_enter Tryz.func8, Tryz.ntmps8
 go_upto_region 1 with (fail)
 generalize w.alloc (.cells #[.int .i64 n, .slice A m c] 26) = w1 at *
 obtain ⟨⟨b0, b1⟩, -⟩ := blkT2 hB2.out
 go_wp2_with fail
 refine (HV.out _ hX.out).mono ?_
 rintro e w2 ⟨rfl, hx2⟩
 have HX2 : Hid (Ext w w2) := hX.out.trans hx2
 have HB2 := Lib.hid (hB2.out.ext hx2)
 clear hB2 hX hx2 b0 b1
 obtain ⟨⟨b0, b1⟩, -⟩ := blkT2 HB2.out
 go_wp2_with fail
 refine (HM.out _ HX2.out).mono ?_
 rintro e w3 ⟨⟨Y, d, rfl, hy⟩, hx3⟩
 have HY := Lib.hid hy
 clear hy b0 b1
 go_wp2
 go_ret2
 exact ⟨⟨_, _, rfl, HY.out⟩, HX2.out.trans hx3⟩
end Go.Proofs.YtioimnplhmgbgaaGreat
/-
 Helper text (no claim of its own): equality of matrices up to a phase, by the reference. Printed by gen_am.py or gen_an.py.
-/
namespace Go.Proofs.YtioimnplhmgbgaaGreat
open Go.ChangeShapes Go.WideShapes Go.ChangeAt Go.RowKit Go.Deep
set_option linter.unusedVariables false
set_option linter.unusedSimpArgs false
/-- A measure while a bool is true. -/
def boolM (v : Value) (a : Nat) : Nat := match v with | .bool true => a | _ => 0
/-- The second matrix, times the i-th power of the eighth root, is the first. -/
def PhEq (l : Nat) (r s : Nat → List Dw) (i : Nat) : Prop := ∀ t, t < l → (s t).map (rotD i) = r t
/-- What GlobalPhase tells. -/
def GpOut (l : Nat) (r s : Nat → List Dw) (e : Ending) : Prop := (∃ i, i < 8 ∧ PhEq l r s i ∧ (∀ j, j < i → ¬ PhEq l r s j) ∧ e = .returned (.tuple #[.int .i64 i, .bool true])) ∨ ((∀ j, j < 8 → ¬ PhEq l r s j) ∧ e = .returned (.tuple #[.int .i64 0, .bool false]))
set_option maxRecDepth 100000 in
set_option maxHeartbeats 8000000 in
theorem GlobalPhase_any {n : Nat} (h1 : 1 ≤ n) (h4 : n ≤ 4) (X Y : Option Addr) (c d : Nat) (r s : Nat → List Dw) (w : World) (hx : MX w X (2 ^ n) (2 ^ n) r) (hy : MX w Y (2 ^ n) (2 ^ n) s) (hl : ∀ j, j < 2 ^ n → (r j).length = 2 ^ n ∧ ∀ x ∈ r j, dok x = true) (hm : ∀ j, j < 2 ^ n → (s j).length = 2 ^ n ∧ ∀ x ∈ s j, dok x = true) :
  Calls Tryz.prog 9 #[.slice X (2 ^ n) c, .slice Y (2 ^ n) d] w fun e w' => GpOut (2 ^ n) r s e ∧ Ext w w' := by
 have HV : Hid (∀ (X : Option Addr) (c : Nat) (w' : World), MX w' X (2 ^ n) (2 ^ n) r → Calls Tryz.prog 25 #[.slice X (2 ^ n) c] w' fun e w'' => e = .returned (.bool true) ∧ Ext w' w'') := fun X c w' hr => IsValidMatrix_yes h1 h4 X c r w' hr hl
 have HW : Hid (∀ (X : Option Addr) (c : Nat) (w' : World), MX w' X (2 ^ n) (2 ^ n) s → Calls Tryz.prog 25 #[.slice X (2 ^ n) c] w' fun e w'' => e = .returned (.bool true) ∧ Ext w' w'') := fun X c w' hr => IsValidMatrix_yes h1 h4 X c s w' hr hm
 have HSC : Hid (∀ (i : Nat), i < 8 → ∀ (j : Nat) (A : Option Addr) (c : Nat) (w' : World), j < 2 ^ n → Rd w' w'.heap.size 5 A (2 ^ n) (scells (s j)) → Calls Tryz.prog 26 #[.slice A (2 ^ n) c, (ph i).val] w' fun e w'' => (∃ A' c', e = .returned (.tuple #[.slice A' (2 ^ n) c', .bool true]) ∧ Rd w'' w''.heap.size 5 A' (2 ^ n) (scells ((s j).map (rotD i)))) ∧ Ext w' w'') := fun i hi j A c w' hj hr => by
  have e := (hm j hj).1
  rw [← e] at hr ⊢
  refine (ScaleState_ph h1 h4 hi A c (s j) w' hr (hm j hj).1 (hm j hj).2).mono ?_
  rintro e w'' ⟨⟨v, rfl, A', c', rfl, h⟩, hx⟩
  rw [List.length_map] at h ⊢
  exact ⟨⟨A', c', rfl, h⟩, hx⟩
 have HEQ : Hid (∀ (i j : Nat) (A B : Option Addr) (c d : Nat) (w' : World), j < 2 ^ n → Rd w' w'.heap.size 5 A (2 ^ n) (scells ((s j).map (rotD i))) → Rd w' w'.heap.size 5 B (2 ^ n) (scells (r j)) → Calls Tryz.prog 28 #[.slice A (2 ^ n) c, .slice B (2 ^ n) d] w' fun e w'' => (∃ b, e = .returned (.bool b) ∧ (b = true ↔ (s j).map (rotD i) = r j)) ∧ Ext w' w'') := fun i j A B c d w' hj hr hs =>
  EqualState_any A B c d (2 ^ n) ((s j).map (rotD i)) (r j) w' hr hs (by rw [List.length_map]; exact (hm j hj).1) (hl j hj).1 (by rcases (show n = 1 ∨ n = 2 ∨ n = 3 ∨ n = 4 by omega) with rfl | rfl | rfl | rfl <;> decide)
 have hl16 : 0 < 2 ^ n ∧ 2 ^ n ≤ 16 := by rcases (show n = 1 ∨ n = 2 ∨ n = 3 ∨ n = 4 by omega) with rfl | rfl | rfl | rfl <;> decide
 clear hl hm
 generalize 2 ^ n = l at *
 have HX := Lib.hid hx
 have HY := Lib.hid hy
 clear hx hy h1 h4
 go_enter Tryz.func9, Tryz.ntmps9
 go_wp2_with fail
 refine (HV.out X c _ HX.out).mono ?_
 rintro e w1 ⟨rfl, hx1⟩
 go_wp2_with fail
 refine (HW.out Y d _ (HY.out.ext hx1)).mono ?_
 rintro e w2 ⟨rfl, hx2⟩
 have HE : Hid (Ext w w2) := hx1.trans hx2
 clear hx1 hx2 HV HW
 go_wp2
 go_loopw [6] (fun iv wr => ∃ i : Nat, i ≤ 8 ∧ iv = .int .i64 i ∧ Hid ((∀ j, j < i → ¬ PhEq l r s j) ∧ Ext w wr)) (fun i _ => 8 - (intOf i).toNat)
 case atStart => exact ⟨0, Nat.zero_le _, rfl, fun j hj => absurd hj (by omega), HE.out⟩
 case round =>
  obtain ⟨i, hi8, rfl, HI⟩ := hrel
  clear HE
  by_cases hilt : i < 8
  case pos =>
   have hi1 : IntKind.i64.wrap ((i : Int) + 1) = ((i + 1 : Nat) : Int) := by rw [IntWalk.i64_in _ (by omega)]; rfl
   have hi2 : wrap64 ((i : Int) + 1) = ((i + 1 : Nat) : Int) := by unfold wrap64; omega
   have HIL : Hid (i < 8) := hilt
   have hil' : (i : Int) < 8 := by omega
   have HE1 : Hid (Ext w wr) := HI.out.2
   have HPF : Hid (∀ w', Calls Tryz.prog 27 #[.int .i64 i] w' fun e w'' => e = .returned (ph i).val ∧ Ext w' w'') := fun w' => PhaseFactor_any HIL.out w'
   go_wp2
   go_loopw [7, 8] (fun sv kv wr => ∃ (b : Bool) (k : Nat), sv = .bool b ∧ kv = .int .i64 k ∧ k ≤ l ∧ Hid ((b = true → ∀ t, t < k → (s t).map (rotD i) = r t) ∧ (b = false → ¬ PhEq l r s i) ∧ Ext w wr)) (fun sv k _ => boolM sv (l + 1 - (intOf k).toNat))
   case atStart => exact ⟨true, 0, rfl, rfl, Nat.zero_le _, fun _ t ht => absurd ht (by omega), (fun h => by cases h), HE1.out⟩
   case round =>
    obtain ⟨b, k, rfl, rfl, hk, HE2⟩ := hrel
    clear HE1
    cases b
    case false =>
     have HI2 : Hid ((∀ j, j < i + 1 → ¬ PhEq l r s j) ∧ Ext w wr) := ⟨fun j hj => by
      by_cases e : j = i
      ·subst e; exact HE2.out.2.1 (by trivial)
      ·exact HI.out.1 j (by omega), HE2.out.2.2⟩
     by_cases hlt : k < l
     ·go_wp2
      go_roundw
      case rel => exact ⟨i + 1, by have := HIL.out; omega, by first | rfl | rw [hi1] | rw [hi2], HI2⟩
      case measure => simp [intOf, hi2]; have := HIL.out; omega
     ·go_wp2
      go_roundw
      case rel => exact ⟨i + 1, by have := HIL.out; omega, by first | rfl | rw [hi1] | rw [hi2], HI2⟩
      case measure => simp [intOf, hi2]; have := HIL.out; omega
    case true =>
     by_cases hlt : k < l
     ·have hk1 : IntKind.i64.wrap ((k : Int) + 1) = ((k + 1 : Nat) : Int) := by rw [IntWalk.i64_in _ (by omega)]; rfl
      have hk2 : wrap64 ((k : Int) + 1) = ((k + 1 : Nat) : Int) := by unfold wrap64; omega
      have HLT : Hid (k < l ∧ l ≤ 16) := ⟨hlt, hl16.2⟩
      obtain ⟨by_, oy, b, cc, rfl, x0, ht⟩ := (HY.out.ext HE2.out.2.2).at_ hlt
      have HT := Lib.hid ht
      have HK : Hid (∀ w', Ext wr w' → w'.cell? ⟨by_, oy + k, none⟩ = some (.slice (some ⟨b, 0, none⟩) l cc)) := fun w' hx => (World.cell?_of_block (a := ⟨by_, oy + k, none⟩) (hx.block by_ (by
       rcases Nat.lt_or_ge by_ wr.heap.size with h | h
       ·exact h
       ·exfalso
        have := World.cell?_of_block (w := wr) (w' := { wr with heap := #[] }) (a := ⟨by_, oy + k, none⟩) (by simp [Array.getElem?_eq_none h])
        rw [x0] at this
        cases this))).trans x0
      clear ht
      go_upto_region 10 with (fail)
      refine wp_region_held_drew (S := fun w' => w'.cell? ⟨by_, oy + k, none⟩ = some (.slice (some ⟨b, 0, none⟩) l cc)) (by kernel_rfl) (HK.out _ (Ext.refl wr).drew) (fun hHeld => ?_)
      clear x0
      (refine tk 0 (v := ?_) ?_ ?_; rotate_left; · (intro w hSw; (try dsimp only at hSw); go_simp; all_goals with_reducible rfl))
      (try simp only [Act.put, L1, L2, L3, L4, L5, L6])
      (refine tk 1 (v := ?_) ?_ ?_; rotate_left; · (intro w hSw; (try dsimp only at hSw); go_simp; all_goals with_reducible rfl))
      (try simp only [Act.put, L1, L2, L3, L4, L5, L6])
      (refine tk 2 (v := ?_) ?_ ?_; rotate_left; · (intro w hSw; (try dsimp only at hSw); go_simp; all_goals with_reducible rfl))
      (try simp only [Act.put, L1, L2, L3, L4, L5, L6])
      (refine tk 3 (v := ?_) ?_ ?_; rotate_left; · (intro w hSw; (try dsimp only at hSw); go_simp; all_goals with_reducible rfl))
      (try simp only [Act.put, L1, L2, L3, L4, L5, L6])
      (refine tk 4 (v := ?_) ?_ ?_; rotate_left; · (intro w hSw; (try dsimp only at hSw); go_simp; all_goals with_reducible rfl))
      (try simp only [Act.put, L1, L2, L3, L4, L5, L6])
      refine wpAnyH_ready (rs := [5]) (by kernel_rfl) (by simp) ?_
      refine AllReadyH.cons rfl (fun K hK => ?_) AllReadyH.nil
      go_simp
      refine (HPF.out _).mono ?_
      rintro e v5 ⟨rfl, hy5⟩
      have HY5 : Hid (Ext wr v5) := Ext.trans (Ext.refl wr).drew hy5
      clear hy5
      refine hK.out _ _ (HK.out _ HY5.out) (fun hHeld => ?_)
      clear hK K
      (try simp only [Act.put, L1, L2, L3, L4, L5, L6])
      refine wpAnyH_ready (rs := [6]) (by kernel_rfl) (by simp) ?_
      refine AllReadyH.cons rfl (fun K hK => ?_) AllReadyH.nil
      go_simp
      refine (HSC.out i HIL.out k _ cc _ HLT.out.1 (HT.out.2.ext HY5.out)).mono ?_
      rintro e v6 ⟨⟨A6, c6, rfl, hr6⟩, hy6⟩
      have HY6 : Hid (Ext wr v6) := HY5.out.trans hy6
      have HR6 : Hid (Rd v6 v6.heap.size 5 A6 l (scells ((s k).map (rotD i)))) := hr6
      clear hy6 hr6
      refine hK.out _ _ (HK.out _ HY6.out) (fun hHeld => ?_)
      clear hK K
      (try simp only [Act.put, L1, L2, L3, L4, L5, L6])
      (refine tk 7 (v := ?_) ?_ ?_; rotate_left; · (intro w hSw; (try dsimp only at hSw); go_simp; all_goals with_reducible rfl))
      (try simp only [Act.put, L1, L2, L3, L4, L5, L6])
      (refine tk 8 (v := ?_) ?_ ?_; rotate_left; · (intro w hSw; (try dsimp only at hSw); go_simp; all_goals with_reducible rfl))
      (try simp only [Act.put, L1, L2, L3, L4, L5, L6])
      (refine tk 9 (v := ?_) ?_ ?_; rotate_left; · (intro w hSw; (try dsimp only at hSw); go_simp; all_goals with_reducible rfl))
      (try simp only [Act.put, L1, L2, L3, L4, L5, L6])
      (refine tk 10 (v := ?_) ?_ ?_; rotate_left; · (intro w hSw; (try dsimp only at hSw); go_simp; all_goals with_reducible rfl))
      (try simp only [Act.put, L1, L2, L3, L4, L5, L6])
      (refine tk 11 (v := ?_) ?_ ?_; rotate_left; · (intro w hSw; (try dsimp only at hSw); go_simp; all_goals with_reducible rfl))
      (try simp only [Act.put, L1, L2, L3, L4, L5, L6])
      (refine wpAnyH_done (by kernel_rfl) ?_ _)
      clear hHeld HK HT HY5
      obtain ⟨bx, ox, b2, c2, rfl, x0, ht⟩ := (HX.out.ext (HE2.out.2.2.trans HY6.out)).at_ HLT.out.1
      have HT2 := Lib.hid ht
      clear ht
      go_wp2_with fail
      refine (HEQ.out i k _ _ _ _ _ HLT.out.1 HR6.out HT2.out.2).mono ?_
      rintro e w7 ⟨⟨f, rfl, hf⟩, hx7⟩
      have HE7 : Hid ((f = true → ∀ t, t < k + 1 → (s t).map (rotD i) = r t) ∧ (f = false → ¬ PhEq l r s i) ∧ Ext w w7) := by
       refine ⟨fun e t ht => ?_, fun e h2 => ?_, (HE2.out.2.2.trans HY6.out).trans hx7⟩
       ·by_cases h2 : t = k
        ·subst h2; exact hf.1 e
        ·exact HE2.out.1 (by trivial) t (by omega)
       ·have := hf.2 (h2 k HLT.out.1)
        rw [e] at this
        cases this
      clear hx7 x0 hf
      go_wp2
      go_roundw
      case rel => exact ⟨f, k + 1, rfl, by first | rfl | rw [hk1] | rw [hk2], by have := HLT.out; omega, HE7⟩
      case measure =>
       have := HLT.out
       cases f <;> simp [intOf, hk2, boolM] <;> omega
     ·have HP : Hid (PhEq l r s i) := fun t ht => HE2.out.1 (by trivial) t (by omega)
      go_wp2
      go_ret2
      exact ⟨.inl ⟨i, HIL.out, HP.out, HI.out.1, rfl⟩, HE2.out.2.2⟩
  case neg =>
   have hi : i = 8 := by omega
   subst hi
   go_wp2
   go_ret2
   exact ⟨.inr ⟨HI.out.1, rfl⟩, HI.out.2⟩
end Go.Proofs.YtioimnplhmgbgaaGreat
/-
 Helper text (no claim of its own): matrices of circuits that are equal up to a phase, and circuits that differ by a power of the eighth root (plain Lean).
-/
namespace Go.Proofs.YtioimnplhmgbgaaGreat
open Go.ChangeShapes Go.WideShapes Go.ChangeAt Go.RowKit Go.Deep
set_option linter.unusedVariables false
set_option linter.unusedSimpArgs false
theorem st_get {n K : Nat} {M : Int} {vs : List Dw} (h : St n K M vs) {j : Nat} (hj : j < 2 ^ n) : dok (vs.getD j d0) = true ∧ (vs.getD j d0).e.toNat ≤ K := by
 obtain ⟨x, h1, h2, h3, -⟩ := h.get hj
 have e : vs.getD j d0 = x := by rw [List.getD_eq_getElem?_getD, h1]; rfl
 rw [e]
 exact ⟨h2, h3⟩
/-- The chains of a circuit from the basis states. -/
def Cols (n : Nat) (gs : List Gt) (r : Nat → List Dw) : Prop := ∀ i, i < 2 ^ n → Chain (2 ^ n) gs (basis n i) (r i) ∧ St n (hcs gs) 1073741824 (r i) ∧ ∀ j, j < 2 ^ n → Lf (hcs gs) (r i) j = apG gs (eB i) j
theorem cols_of {n : Nat} {gs : List Gt} (hg : ∀ g ∈ gs, vg g n = true) (hK : hcs gs ≤ 60) : ∃ r, Cols n gs r := by
 have hx : ∀ i : Nat, ∃ us : List Dw, i < 2 ^ n → Chain (2 ^ n) gs (basis n i) us ∧ St n (hcs gs) 1073741824 us ∧ ∀ j, j < 2 ^ n → Lf (hcs gs) us j = apG gs (eB i) j := fun i => by
  by_cases hi : i < 2 ^ n
  ·obtain ⟨us, h⟩ := chain_basis hi gs hg hK
   exact ⟨us, fun _ => h⟩
  ·exact ⟨[], fun h => absurd h hi⟩
 obtain ⟨r, hr⟩ := Classical.axiomOfChoice hx
 exact ⟨r, fun i hi => hr i hi⟩
theorem amp_iff {n k : Nat} (hk : k < 8) {Ka Kb : Nat} {x y : Dw} (hx : dok x = true) (hy : dok y = true) (ex : x.e.toNat ≤ Ka) (ey : y.e.toNat ≤ Kb) : rotD k y = x ↔ up Kb (lift Ka x) = up Ka (rot k (lift Kb y)) := by
 rw [← lift_more ex, ← rot_up hk, ← lift_more ey, ← lift_ph hk, Nat.add_comm Kb Ka]
 constructor
 ·intro h
  rw [← h]
  rfl
 ·intro h
  have ey2 : (rotD k y).e.toNat ≤ Ka + Kb := by show y.e.toNat ≤ Ka + Kb; omega
  exact (lift_inj hx (rotD_ok hk hy) (by omega) ey2 h).symm
theorem phEq_apart {n k : Nat} (hk : k < 8) {ga gb : List Gt} {r s : Nat → List Dw} (hr : Cols n ga r) (hs : Cols n gb s) : PhEq (2 ^ n) (colM (2 ^ n) r) (colM (2 ^ n) s) k ↔ Apart n ga gb k := by
 have key : ∀ i j, i < 2 ^ n → j < 2 ^ n → (rotD k ((s i).getD j d0) = (r i).getD j d0 ↔ up (hcs gb) (apG ga (eB i) j) = up (hcs ga) (rot k (apG gb (eB i) j))) := fun i j hi hj => by
  obtain ⟨-, r1, r2⟩ := hr i hi
  obtain ⟨-, s1, s2⟩ := hs i hi
  rw [← r2 j hj, ← s2 j hj]
  exact amp_iff (n := n) hk (st_get r1 hj).1 (st_get s1 hj).1 (st_get r1 hj).2 (st_get s1 hj).2
 constructor
 ·intro h i hi j hj
  have e := congrArg (fun l => l[i]?) (h j hj)
  unfold colM at e
  simp only [List.getElem?_map, List.getElem?_range hi, Option.map_some, Option.some.injEq] at e
  exact (key i j hi hj).1 e
 ·intro h j hj
  unfold colM
  rw [List.map_map]
  exact List.map_congr_left fun i hi => (key i j (List.mem_range.1 hi) hj).2 (h i (List.mem_range.1 hi) j hj)
theorem colM_ok {n : Nat} {gs : List Gt} {r : Nat → List Dw} (hr : Cols n gs r) : ∀ j, j < 2 ^ n → (colM (2 ^ n) r j).length = 2 ^ n ∧ ∀ x ∈ colM (2 ^ n) r j, dok x = true := fun j hj => by
 refine ⟨colM_len _ _ _, fun x hx => ?_⟩
 unfold colM at hx
 obtain ⟨i, hi, rfl⟩ := List.mem_map.1 hx
 exact (st_get (hr i (List.mem_range.1 hi)).2.1 hj).1
theorem eqL_true {α : Type} (f : α → α → Bool) (hf : ∀ a b, f a b = true → a = b) : ∀ xs ys : List α, eqL f xs ys = true → xs = ys
 | [], [], _ => rfl
 | [], _ :: _, h => by simp [eqL] at h
 | _ :: _, [], h => by simp [eqL] at h
 | x :: xs, y :: ys, h => by
  rw [eqL, Bool.and_eq_true] at h
  rw [hf x y h.1, eqL_true f hf xs ys h.2]
theorem eqP_is (a b : Pa) (h : eqP a b = true) : a = b := by
 obtain ⟨a1, a2, a3, a4⟩ := a
 obtain ⟨b1, b2, b3, b4⟩ := b
 simp [eqP] at h
 obtain ⟨⟨⟨rfl, rfl⟩, rfl⟩, rfl⟩ := h
 rfl
/-- GlobalPhase of the matrices of two Clifford circuits tells whether the tableaux are equal. -/
theorem gp_tab {n : Nat} (h1 : 1 ≤ n) (h4 : n ≤ 4) {ga gb : List Gt} {ra rb : List Pa} {r s : Nat → List Dw} (ta : tabN n ga = some ra) (tb : tabN n gb = some rb) (hr : Cols n ga r) (hs : Cols n gb s) {e : Ending}
  (h : GpOut (2 ^ n) (colM (2 ^ n) r) (colM (2 ^ n) s) e) : ∃ i : Int, e = .returned (.tuple #[.int .i64 i, .bool (eqL eqP ra rb)]) := by
 rcases h with ⟨i, hi, hp, -, rfl⟩ | ⟨hno, rfl⟩
 ·have e := (tab_apart ta tb h1 h4).2 ⟨i, hi, (phEq_apart hi hr hs).1 hp⟩
  rw [e, eqL_self eqP eqP_self]
  exact ⟨i, rfl⟩
 ·refine ⟨0, ?_⟩
  cases he : eqL eqP ra rb
  ·rfl
  ·exfalso
   obtain ⟨k, hk, ha⟩ := (tab_apart ta tb h1 h4).1 (eqL_true eqP eqP_is _ _ he)
   exact hno k hk ((phEq_apart hk hr hs).2 ha)
end Go.Proofs.YtioimnplhmgbgaaGreat
/-
 Helper text (no claim of its own): matrices of different sizes are not equal up to a phase, by the reference.
-/
namespace Go.Proofs.YtioimnplhmgbgaaGreat
open Go.ChangeShapes Go.WideShapes Go.ChangeAt Go.RowKit Go.Deep
set_option linter.unusedVariables false
theorem pow_ne {n m : Nat} (h : n ≠ m) : 2 ^ n ≠ 2 ^ m := fun e => by
 rcases Nat.lt_or_gt_of_ne h with h | h
 ·have := Nat.pow_lt_pow_right (a := 2) (by decide) h; omega
 ·have := Nat.pow_lt_pow_right (a := 2) (by decide) h; omega
set_option maxRecDepth 100000 in
set_option maxHeartbeats 8000000 in
theorem GlobalPhase_ne {n m : Nat} (hne : n ≠ m) (h1 : 1 ≤ n) (h4 : n ≤ 4) (k1 : 1 ≤ m) (k4 : m ≤ 4) (X Y : Option Addr) (c d : Nat) (r s : Nat → List Dw) (w : World) (hx : MX w X (2 ^ n) (2 ^ n) r) (hy : MX w Y (2 ^ m) (2 ^ m) s) (hl : ∀ j, j < 2 ^ n → (r j).length = 2 ^ n ∧ ∀ x ∈ r j, dok x = true) (hm : ∀ j, j < 2 ^ m → (s j).length = 2 ^ m ∧ ∀ x ∈ s j, dok x = true) :
  Calls Tryz.prog 9 #[.slice X (2 ^ n) c, .slice Y (2 ^ m) d] w fun e w' => e = .returned (.tuple #[.int .i64 0, .bool false]) ∧ Ext w w' := by
 have HV : Hid (∀ (X : Option Addr) (c : Nat) (w' : World), MX w' X (2 ^ n) (2 ^ n) r → Calls Tryz.prog 25 #[.slice X (2 ^ n) c] w' fun e w'' => e = .returned (.bool true) ∧ Ext w' w'') := fun X c w' hr => IsValidMatrix_yes h1 h4 X c r w' hr hl
 have HW : Hid (∀ (X : Option Addr) (c : Nat) (w' : World), MX w' X (2 ^ m) (2 ^ m) s → Calls Tryz.prog 25 #[.slice X (2 ^ m) c] w' fun e w'' => e = .returned (.bool true) ∧ Ext w' w'') := fun X c w' hr => IsValidMatrix_yes k1 k4 X c s w' hr hm
 have hp := pow_ne hne
 clear hl hm h1 h4 k1 k4 hne
 generalize 2 ^ n = l at *
 generalize 2 ^ m = l' at *
 have hll : ((l : Int) == (l' : Int)) = false := by simp; omega
 have hln : ((l : Int) != (l' : Int)) = true := by rw [bne, hll]; rfl
 have HX := Lib.hid hx
 have HY := Lib.hid hy
 clear hx hy hp
 go_enter Tryz.func9, Tryz.ntmps9
 go_wp2_with fail
 refine (HV.out X c _ HX.out).mono ?_
 rintro e w1 ⟨rfl, hx1⟩
 go_wp2_with fail
 refine (HW.out Y d _ (HY.out.ext hx1)).mono ?_
 rintro e w2 ⟨rfl, hx2⟩
 go_wp2
 go_ret2
 exact ⟨rfl, hx1.trans hx2⟩
end Go.Proofs.YtioimnplhmgbgaaGreat
namespace Go.Proofs.YtioimnplhmgbgaaGreat
open Go.ChangeShapes Go.WideShapes Go.ChangeAt Go.RowKit Go.Deep
set_option linter.unusedVariables false
set_option maxRecDepth 100000 in
set_option maxHeartbeats 8000000 in
theorem impl_IsValidTableau_any (A : Option Addr) (c : Nat) (n : Int) (rs : List Pa) (w : World) (h : Rd w w.heap.size 4 A rs.length (pcells rs)) (hl : rs.length ≤ 100000000) (hcap : rs.length ≤ c) :
  Calls Tryz.prog 39 #[.agg #[.int .i64 n, .slice A rs.length c]] w fun e w' => e = .returned (.bool (vTab n rs)) ∧ Ext w w' := by
 obtain ⟨l, hgl⟩ : ∃ l, rs.length = l := ⟨_, rfl⟩
 rw [hgl] at h hl hcap
 rw [hgl]
 have HL := Lib.hid hgl
 clear hgl
 by_cases hn : n < 1 ∨ 4 < n
 ·have HN := Lib.hid hn
  have HF := Lib.hid (vTab_n (rs := rs) hn)
  clear hn
  go_enter Tryz.func39, Tryz.ntmps39
  go_wp2_with fail
  refine (in_no _ _ _ _ HN.out).mono ?_
  rintro e w5 ⟨rfl, rfl⟩
  go_wp2
  go_ret
  exact ⟨ret_bool HF.out.symm, xx⟩
 have hn1 : 1 ≤ n := by omega
 have hn4 : n ≤ 4 := by omega
 have hw2 : IntKind.i64.wrap (2 * n) = 2 * n := IntWalk.i64_in _ (by omega)
 clear hn
 cases hll : ((l : Int) == 2 * n)
 ·have HF := Lib.hid (vTab_l (rs := rs) (n := n) (by rw [HL.out]; exact hll))
  have hnb : ((l : Int) != 2 * n) = true := by rw [bne, hll]; rfl
  clear hll
  go_enter Tryz.func39, Tryz.ntmps39
  go_wp2_with fail
  refine (in_yes _ _ _ _ hn1 hn4).mono ?_
  rintro e w5 ⟨rfl, rfl⟩
  go_wp2
  go_ret
  exact ⟨ret_bool HF.out.symm, xx⟩
 have hnb : ((l : Int) != 2 * n) = false := by rw [bne, hll]; rfl
 have HLL : Hid ((l : Int) = 2 * n) := by unfold Hid; simpa using hll
 have HG : Hid ((∀ k, k < l → rowOk n rs k = true) → vTab n rs = true) := fun h => vTab_good hn1 hn4 (by rw [HL.out]; exact hll) (by rw [HL.out]; exact h)
 have HBAD : Hid (∀ k, k < l → rowOk n rs k = false → vTab n rs = false) := fun k hk h => vTab_bad (by rw [HL.out]; exact hk) h
 clear hll
 obtain ⟨b, o, rfl, -, -⟩ := h.2 (by have := HLL.out; omega)
 have HROW : Hid (∀ i, i < l → ∃ x, rs[i]? = some x) := fun i hi => ⟨_, List.getElem?_eq_getElem (by rw [HL.out]; exact hi)⟩
 go_enter Tryz.func39, Tryz.ntmps39
 go_wp2_with fail
 refine (in_yes _ _ _ _ hn1 hn4).mono ?_
 rintro e w5 ⟨rfl, rfl⟩
 go_wp2
 have HX : Hid (Ext w (w.alloc (.cells #[.int .i64 n, .slice (some ⟨b, o, none⟩) l c] 31))) := xx
 have HB : Hid (Blk (w.alloc (.cells #[.int .i64 n, .slice (some ⟨b, o, none⟩) l c] 31)) w.heap.size 31 #[.int .i64 n, .slice (some ⟨b, o, none⟩) l c]) := Blk.new w _ _
 generalize (w.alloc (.cells #[.int .i64 n, .slice (some ⟨b, o, none⟩) l c] 31)) = w1 at *
 clear hnb hw2
 go_loopw [23] (fun i wr => ∃ k : Nat, k ≤ l ∧ i = .int .i64 k ∧ Hid (∀ j, j < k → rowOk n rs j = true) ∧ Hid (Blk wr w.heap.size 31 #[.int .i64 n, .slice (some ⟨b, o, none⟩) l c] ∧ Ext w wr)) (fun i _ => l - (intOf i).toNat)
 case atStart => exact ⟨0, Nat.zero_le _, rfl, fun j hj => absurd hj (by omega), ⟨HB.out, HX.out⟩⟩
 case round =>
  obtain ⟨k, hk, rfl, HQ, HW⟩ := hrel
  clear HB HX
  by_cases hlt : k < l
  ·have HLT := Lib.hid hlt
   obtain ⟨p, hp⟩ := HROW.out k hlt
   have HP := Lib.hid hp
   clear hp
   obtain ⟨x0, x1, x2, x3⟩ := row_at (h.up HW.out.2 (Nat.le_refl _)) HLT.out HP.out
   go_upto_region 6 with (fail)
   have HW2 : Hid (Blk (wr.alloc (.cells #[.int .i64 p.n, .int .i64 p.x, .int .i64 p.z, .int .i64 p.p] 66)) w.heap.size 31 #[.int .i64 n, .slice (some ⟨b, o, none⟩) l c] ∧ Ext w (wr.alloc (.cells #[.int .i64 p.n, .int .i64 p.x, .int .i64 p.z, .int .i64 p.p] 66))) := ⟨HW.out.1.alloc _, HW.out.2.alloc _⟩
   have HP2 : Hid (Blk (wr.alloc (.cells #[.int .i64 p.n, .int .i64 p.x, .int .i64 p.z, .int .i64 p.p] 66)) wr.heap.size 66 #[.int .i64 p.n, .int .i64 p.x, .int .i64 p.z, .int .i64 p.p]) := Blk.new _ _ _
   generalize wr.alloc (.cells #[.int .i64 p.n, .int .i64 p.x, .int .i64 p.z, .int .i64 p.p] 66) = w2 at *
   generalize wr.heap.size = q at *
   clear x0 x1 x2 x3 HW
   obtain ⟨⟨b0, b1⟩, -⟩ := blkT2 HW2.out.1
   obtain ⟨⟨x0, x1, x2, x3⟩, -⟩ := cells4 HP2.out
   cases hn : (p.n == n)
   ·have HF := Lib.hid (HBAD.out k HLT.out (rowOk_n HP.out hn))
    have hnb : (p.n != n) = true := by rw [bne, hn]; rfl
    clear hn
    go_wp2
    go_ret
    exact ⟨ret_bool HF.out.symm, HW2.out.2⟩
   have hnb : (p.n != n) = false := by rw [bne, hn]; rfl
   cases hh : herm p
   ·have HF := Lib.hid (HBAD.out k HLT.out (rowOk_h HP.out hh))
    have HCH : Hid (∀ w', Calls Tryz.prog 58 #[.agg #[.int .i64 p.n, .int .i64 p.x, .int .i64 p.z, .int .i64 p.p]] w' fun e w'' => e = .returned (.bool false) ∧ Ext w' w'') := fun w' => by rw [← hh]; exact impl_IsHermitianPauli_any p w'
    clear hh hn
    go_wp2_with fail
    refine (HCH.out _).mono ?_
    rintro e w5 ⟨rfl, hy5⟩
    go_wp2
    go_ret
    exact ⟨ret_bool HF.out.symm, HW2.out.2.trans hy5⟩
   have HCH : Hid (∀ w', Calls Tryz.prog 58 #[.agg #[.int .i64 p.n, .int .i64 p.x, .int .i64 p.z, .int .i64 p.p]] w' fun e w'' => e = .returned (.bool true) ∧ Ext w' w'') := fun w' => by rw [← hh]; exact impl_IsHermitianPauli_any p w'
   have HGD : Hid ((∀ (i : Nat) (x : Pa), i < k → rs[i]? = some x → comm x p = !((k : Int) == (i : Int) + n)) → rowOk n rs k = true) := fun h => rowOk_good HP.out hn hh h
   have HVP := Lib.hid (herm_v hh)
   clear hh hn
   go_wp2_with fail
   refine (HCH.out _).mono ?_
   rintro e w5 ⟨rfl, hy5⟩
   have HW5 : Hid ((Blk w5 w.heap.size 31 #[.int .i64 n, .slice (some ⟨b, o, none⟩) l c] ∧ Ext w w5) ∧ Blk w5 q 66 #[.int .i64 p.n, .int .i64 p.x, .int .i64 p.z, .int .i64 p.p]) := ⟨⟨HW2.out.1.ext hy5, HW2.out.2.trans hy5⟩, HP2.out.ext hy5⟩
   clear hy5 HW2 HP2 b0 b1 x0 x1 x2 x3 hnb
   obtain ⟨⟨b0, b1⟩, -⟩ := blkT2 HW5.out.1.1
   have hkc : (k : Int) ≤ (c : Int) := by omega
   have hk0 : (0 : Int) ≤ (k : Int) := by omega
   have hkc' : k ≤ c := by omega
   go_wp2
   clear b0 b1
   go_loopw [43] (fun iv ws => ∃ i : Nat, i ≤ k ∧ iv = .int .i64 i ∧ Hid (∀ (j : Nat) (y : Pa), j < i → rs[j]? = some y → comm y p = !((k : Int) == (j : Int) + n)) ∧ Hid ((Blk ws w.heap.size 31 #[.int .i64 n, .slice (some ⟨b, o, none⟩) l c] ∧ Ext w ws) ∧ Blk ws q 66 #[.int .i64 p.n, .int .i64 p.x, .int .i64 p.z, .int .i64 p.p])) (fun i _ => k - (intOf i).toNat)
   case atStart => exact ⟨0, Nat.zero_le _, rfl, fun j y hj => absurd hj (by omega), HW5⟩
   case round =>
    obtain ⟨i, hi, rfl, HI, HWI⟩ := hrel
    clear HW5
    by_cases hik : i < k
    ·have HIK := Lib.hid hik
     have hil : i < l := by omega
     obtain ⟨x, hx⟩ := HROW.out i hil
     have HXI := Lib.hid hx
     clear hx
     have HVX := Lib.hid (rowOk_v HXI.out (HQ.out i HIK.out))
     have hwi : IntKind.i64.wrap ((i : Int) + n) = (i : Int) + n := IntWalk.i64_in _ (by omega)
     obtain ⟨x0, x1, x2, x3⟩ := row_at (h.up HWI.out.1.2 (Nat.le_refl _)) hil HXI.out
     go_upto_region 11 with (fail)
     have HW3 : Hid ((Blk (wr.alloc (.cells #[.int .i64 x.n, .int .i64 x.x, .int .i64 x.z, .int .i64 x.p] 66)) w.heap.size 31 #[.int .i64 n, .slice (some ⟨b, o, none⟩) l c] ∧ Ext w (wr.alloc (.cells #[.int .i64 x.n, .int .i64 x.x, .int .i64 x.z, .int .i64 x.p] 66))) ∧ Blk (wr.alloc (.cells #[.int .i64 x.n, .int .i64 x.x, .int .i64 x.z, .int .i64 x.p] 66)) q 66 #[.int .i64 p.n, .int .i64 p.x, .int .i64 p.z, .int .i64 p.p]) := ⟨⟨HWI.out.1.1.alloc _, HWI.out.1.2.alloc _⟩, HWI.out.2.alloc _⟩
     have HX3 : Hid (Blk (wr.alloc (.cells #[.int .i64 x.n, .int .i64 x.x, .int .i64 x.z, .int .i64 x.p] 66)) wr.heap.size 66 #[.int .i64 x.n, .int .i64 x.x, .int .i64 x.z, .int .i64 x.p]) := Blk.new _ _ _
     generalize wr.alloc (.cells #[.int .i64 x.n, .int .i64 x.x, .int .i64 x.z, .int .i64 x.p] 66) = w3 at *
     generalize wr.heap.size = s at *
     clear x0 x1 x2 x3 HWI
     have HK2 : Hid (∀ w', Ext w3 w' → (w'.cell? ⟨w.heap.size, 0, none⟩ = some (.int .i64 n) ∧ w'.cell? ⟨w.heap.size, 1, none⟩ = some (.slice (some ⟨b, o, none⟩) l c)) ∧ (w'.cell? ⟨s, 0, none⟩ = some (.int .i64 x.n) ∧ w'.cell? ⟨s, 1, none⟩ = some (.int .i64 x.x) ∧ w'.cell? ⟨s, 2, none⟩ = some (.int .i64 x.z) ∧ w'.cell? ⟨s, 3, none⟩ = some (.int .i64 x.p)) ∧ (w'.cell? ⟨q, 0, none⟩ = some (.int .i64 p.n) ∧ w'.cell? ⟨q, 1, none⟩ = some (.int .i64 p.x) ∧ w'.cell? ⟨q, 2, none⟩ = some (.int .i64 p.z) ∧ w'.cell? ⟨q, 3, none⟩ = some (.int .i64 p.p))) := fun w' hx => ⟨(blkT2 (HW3.out.1.1.ext hx)).1, (cells4 (HX3.out.ext hx)).1, (cells4 (HW3.out.2.ext hx)).1⟩
     have HWIE : Hid (∀ w', Ext w3 w' → Hid ((Blk w' w.heap.size 31 #[.int .i64 n, .slice (some ⟨b, o, none⟩) l c] ∧ Ext w w') ∧ Blk w' q 66 #[.int .i64 p.n, .int .i64 p.x, .int .i64 p.z, .int .i64 p.p])) := fun w' hx => ⟨⟨HW3.out.1.1.ext hx, HW3.out.1.2.trans hx⟩, HW3.out.2.ext hx⟩
     obtain ⟨⟨b0, b1⟩, ⟨x0, x1, x2, x3⟩, y0, y1, y2, y3⟩ := HK2.out w3 (Ext.refl _)
     cases hc : comm x p <;> cases he : ((k : Int) == (i : Int) + n)
     ·have HCC : Hid (∀ w', Calls Tryz.prog 59 #[.agg #[.int .i64 x.n, .int .i64 x.x, .int .i64 x.z, .int .i64 x.p], .agg #[.int .i64 p.n, .int .i64 p.x, .int .i64 p.z, .int .i64 p.p]] w' fun e w'' => e = .returned (.bool false) ∧ Ext w' w'') := fun w' => by rw [← hc]; exact impl_PaulisCommute_any x p w' HVX.out HVP.out
      have HF := Lib.hid (HBAD.out k HLT.out (rowOk_pair HP.out HIK.out HXI.out (by rw [hc, he])))
      clear hc
      go_region_held3 (fun w' => (w'.cell? ⟨w.heap.size, 0, none⟩ = some (.int .i64 n) ∧ w'.cell? ⟨w.heap.size, 1, none⟩ = some (.slice (some ⟨b, o, none⟩) l c)) ∧ (w'.cell? ⟨s, 0, none⟩ = some (.int .i64 x.n) ∧ w'.cell? ⟨s, 1, none⟩ = some (.int .i64 x.x) ∧ w'.cell? ⟨s, 2, none⟩ = some (.int .i64 x.z) ∧ w'.cell? ⟨s, 3, none⟩ = some (.int .i64 x.p)) ∧ (w'.cell? ⟨q, 0, none⟩ = some (.int .i64 p.n) ∧ w'.cell? ⟨q, 1, none⟩ = some (.int .i64 p.x) ∧ w'.cell? ⟨q, 2, none⟩ = some (.int .i64 p.z) ∧ w'.cell? ⟨q, 3, none⟩ = some (.int .i64 p.p)))
       (first | (go_keep; done) | (refine HK2.out _ ?_; first | assumption | exact (Ext.refl _).drew))
       (first | (go_at_call 59; (with_reducible refine (HCC.out _).mono ?_); rintro e w6 ⟨rfl, hy6⟩; replace hy6 : Ext w3 w6 := Ext.trans (Ext.refl w3).drew hy6))
      all_goals
       go_wp2
       go_ret
       exact ⟨ret_bool HF.out.symm, HW3.out.1.2.trans hy6⟩
     ·have HCC : Hid (∀ w', Calls Tryz.prog 59 #[.agg #[.int .i64 x.n, .int .i64 x.x, .int .i64 x.z, .int .i64 x.p], .agg #[.int .i64 p.n, .int .i64 p.x, .int .i64 p.z, .int .i64 p.p]] w' fun e w'' => e = .returned (.bool false) ∧ Ext w' w'') := fun w' => by rw [← hc]; exact impl_PaulisCommute_any x p w' HVX.out HVP.out
      have HN2 : Hid (∀ (j : Nat) (y : Pa), j < i + 1 → rs[j]? = some y → comm y p = !((k : Int) == (j : Int) + n)) := fun j y hj hy => by
       by_cases e : j = i
       ·subst e
        rw [HXI.out] at hy
        obtain rfl := Option.some.inj hy
        rw [hc, he]; rfl
       ·exact HI.out j y (by omega) hy
      clear hc
      go_region_held3 (fun w' => (w'.cell? ⟨w.heap.size, 0, none⟩ = some (.int .i64 n) ∧ w'.cell? ⟨w.heap.size, 1, none⟩ = some (.slice (some ⟨b, o, none⟩) l c)) ∧ (w'.cell? ⟨s, 0, none⟩ = some (.int .i64 x.n) ∧ w'.cell? ⟨s, 1, none⟩ = some (.int .i64 x.x) ∧ w'.cell? ⟨s, 2, none⟩ = some (.int .i64 x.z) ∧ w'.cell? ⟨s, 3, none⟩ = some (.int .i64 x.p)) ∧ (w'.cell? ⟨q, 0, none⟩ = some (.int .i64 p.n) ∧ w'.cell? ⟨q, 1, none⟩ = some (.int .i64 p.x) ∧ w'.cell? ⟨q, 2, none⟩ = some (.int .i64 p.z) ∧ w'.cell? ⟨q, 3, none⟩ = some (.int .i64 p.p)))
       (first | (go_keep; done) | (refine HK2.out _ ?_; first | assumption | exact (Ext.refl _).drew))
       (first | (go_at_call 59; (with_reducible refine (HCC.out _).mono ?_); rintro e w6 ⟨rfl, hy6⟩; replace hy6 : Ext w3 w6 := Ext.trans (Ext.refl w3).drew hy6))
      all_goals
       go_wp2
       go_roundw
       case rel => exact ⟨i + 1, by have := HIK.out; omega, by go_num, HN2, HWIE.out _ hy6⟩
       case measure => simp [intOf]; have := HIK.out; omega
     ·have HCC : Hid (∀ w', Calls Tryz.prog 59 #[.agg #[.int .i64 x.n, .int .i64 x.x, .int .i64 x.z, .int .i64 x.p], .agg #[.int .i64 p.n, .int .i64 p.x, .int .i64 p.z, .int .i64 p.p]] w' fun e w'' => e = .returned (.bool true) ∧ Ext w' w'') := fun w' => by rw [← hc]; exact impl_PaulisCommute_any x p w' HVX.out HVP.out
      have HN2 : Hid (∀ (j : Nat) (y : Pa), j < i + 1 → rs[j]? = some y → comm y p = !((k : Int) == (j : Int) + n)) := fun j y hj hy => by
       by_cases e : j = i
       ·subst e
        rw [HXI.out] at hy
        obtain rfl := Option.some.inj hy
        rw [hc, he]; rfl
       ·exact HI.out j y (by omega) hy
      clear hc
      go_region_held3 (fun w' => (w'.cell? ⟨w.heap.size, 0, none⟩ = some (.int .i64 n) ∧ w'.cell? ⟨w.heap.size, 1, none⟩ = some (.slice (some ⟨b, o, none⟩) l c)) ∧ (w'.cell? ⟨s, 0, none⟩ = some (.int .i64 x.n) ∧ w'.cell? ⟨s, 1, none⟩ = some (.int .i64 x.x) ∧ w'.cell? ⟨s, 2, none⟩ = some (.int .i64 x.z) ∧ w'.cell? ⟨s, 3, none⟩ = some (.int .i64 x.p)) ∧ (w'.cell? ⟨q, 0, none⟩ = some (.int .i64 p.n) ∧ w'.cell? ⟨q, 1, none⟩ = some (.int .i64 p.x) ∧ w'.cell? ⟨q, 2, none⟩ = some (.int .i64 p.z) ∧ w'.cell? ⟨q, 3, none⟩ = some (.int .i64 p.p)))
       (first | (go_keep; done) | (refine HK2.out _ ?_; first | assumption | exact (Ext.refl _).drew))
       (first | (go_at_call 59; (with_reducible refine (HCC.out _).mono ?_); rintro e w6 ⟨rfl, hy6⟩; replace hy6 : Ext w3 w6 := Ext.trans (Ext.refl w3).drew hy6))
      all_goals
       go_wp2
       go_roundw
       case rel => exact ⟨i + 1, by have := HIK.out; omega, by go_num, HN2, HWIE.out _ hy6⟩
       case measure => simp [intOf]; have := HIK.out; omega
     ·have HCC : Hid (∀ w', Calls Tryz.prog 59 #[.agg #[.int .i64 x.n, .int .i64 x.x, .int .i64 x.z, .int .i64 x.p], .agg #[.int .i64 p.n, .int .i64 p.x, .int .i64 p.z, .int .i64 p.p]] w' fun e w'' => e = .returned (.bool true) ∧ Ext w' w'') := fun w' => by rw [← hc]; exact impl_PaulisCommute_any x p w' HVX.out HVP.out
      have HF := Lib.hid (HBAD.out k HLT.out (rowOk_pair HP.out HIK.out HXI.out (by rw [hc, he])))
      clear hc
      go_region_held3 (fun w' => (w'.cell? ⟨w.heap.size, 0, none⟩ = some (.int .i64 n) ∧ w'.cell? ⟨w.heap.size, 1, none⟩ = some (.slice (some ⟨b, o, none⟩) l c)) ∧ (w'.cell? ⟨s, 0, none⟩ = some (.int .i64 x.n) ∧ w'.cell? ⟨s, 1, none⟩ = some (.int .i64 x.x) ∧ w'.cell? ⟨s, 2, none⟩ = some (.int .i64 x.z) ∧ w'.cell? ⟨s, 3, none⟩ = some (.int .i64 x.p)) ∧ (w'.cell? ⟨q, 0, none⟩ = some (.int .i64 p.n) ∧ w'.cell? ⟨q, 1, none⟩ = some (.int .i64 p.x) ∧ w'.cell? ⟨q, 2, none⟩ = some (.int .i64 p.z) ∧ w'.cell? ⟨q, 3, none⟩ = some (.int .i64 p.p)))
       (first | (go_keep; done) | (refine HK2.out _ ?_; first | assumption | exact (Ext.refl _).drew))
       (first | (go_at_call 59; (with_reducible refine (HCC.out _).mono ?_); rintro e w6 ⟨rfl, hy6⟩; replace hy6 : Ext w3 w6 := Ext.trans (Ext.refl w3).drew hy6))
      all_goals
       go_wp2
       go_ret
       exact ⟨ret_bool HF.out.symm, HW3.out.1.2.trans hy6⟩
    ·have hik2 : i = k := by omega
     subst hik2
     have HOK := Lib.hid (HGD.out HI.out)
     have HA : Hid (∀ j, j < i + 1 → rowOk n rs j = true) := fun j hj => by
      by_cases e : j = i
      ·rw [e]; exact HOK.out
      ·exact HQ.out j (by omega)
     go_wp2
     go_roundw
     case rel => exact ⟨i + 1, by omega, by go_num, HA, Lib.hid HWI.out.1⟩
     case measure => simp [intOf]; have := HLT.out; omega
  ·have hkl : k = l := by omega
   subst hkl
   have HT := Lib.hid (HG.out HQ.out)
   go_wp2
   go_ret
   exact ⟨ret_bool HT.out.symm, HW.out.2⟩
end Go.Proofs.YtioimnplhmgbgaaGreat
