/-
  Helper text (no claim of its own): whether two rows of gates do the same, by the reference. Printed by gen_am.py or gen_an.py.
-/
import Derived.Test.YtofbmkpfliofeabAgp
namespace Go.Proofs.Ytofbmkpfliofeab
open Go.ChangeShapes Go.WideShapes Go.ChangeAt Go.RowKit Go.Deep
set_option linter.unusedVariables false
set_option linter.unusedSimpArgs false
theorem Try.infoRowD : (Try.prog.info? 55).map (fun i => (i.zero, i.size, i.bytes)) = some (some (.slice none 0 0), 1, 24) := by kernel_rfl
theorem own_block {w : World} {base e size m : Nat} {v : Value} {xs : List Value} (h : w.ownsRow base e size v m xs) {g : Nat} (hg : v.ownBlock = some g) : ∃ cur, Blk w g e cur := by
  rcases h.2 with ⟨h0, hn⟩ | ⟨g', cap, cur, rfl, hB, hc, -⟩
  · subst h0; cases hg
  · have e1 : (Value.slice (some ⟨g', 0, none⟩) m cap).ownBlock = some g' := rfl
    rw [e1] at hg
    injection hg with hg
    subst hg
    exact ⟨cur, hc⟩
/-- Amplitudes are kept where a row of rows grows. -/
theorem TT.grown {w w' : World} {b l base m : Nat} {vs : List Dw} {v : Value} {xs : List Value} (h : TT w b l vs) (ho : w.ownsRow base 55 1 v m xs) (hg : w.grownBy w' v.ownBlock) : TT w' b l vs := by
  obtain ⟨⟨cs, h1⟩, h2⟩ := h
  have hne : v.ownBlock ≠ some b := by
    intro e
    obtain ⟨cur, hc⟩ := own_block ho e
    unfold Blk at h1 hc
    rw [h1] at hc
    injection hc with hc
    injection hc with _ h3
    exact absurd h3 (by decide)
  have hb := hg.block b h1.lt (fun e => hne e.symm)
  refine ⟨⟨cs, hb.trans h1⟩, h2.1, fun hl => ?_⟩
  obtain ⟨b', o, e, hb', hc⟩ := h2.2 hl
  injection e with e
  injection e with e1 e2
  subst e1 e2
  exact ⟨_, _, rfl, by have := hg.size; omega, fun j u hu => (World.cell?_of_block (a := ⟨b, 0 + j, none⟩) hb).trans (hc j u hu)⟩
theorem MV.grown {w w' : World} {k l base m : Nat} {r : Nat → List Dw} {vals : List Value} {v : Value} {xs : List Value} (h : MV w k l r vals) (ho : w.ownsRow base 55 1 v m xs) (hg : w.grownBy w' v.ownBlock) : MV w' k l r vals :=
  ⟨h.1, fun j hj => by
    obtain ⟨b, c, h1, h2⟩ := h.2 j hj
    exact ⟨b, c, h1, h2.grown ho hg⟩⟩
theorem MV.snoc {w : World} {k l b c : Nat} {r : Nat → List Dw} {vals : List Value} (h : MV w k l r vals) (ht : TT w b l (r k)) : MV w (k + 1) l r (vals ++ [.slice (some ⟨b, 0, none⟩) l c]) := by
  refine ⟨by rw [List.length_append, h.1]; rfl, fun j hj => ?_⟩
  by_cases hjk : j < k
  · obtain ⟨b', c', h1, h2⟩ := h.2 j hjk
    exact ⟨b', c', by rw [List.getElem?_append_left (by rw [h.1]; exact hjk)]; exact h1, h2⟩
  · have : j = k := by omega
    subst this
    exact ⟨b, c, by rw [← h.1, List.getElem?_concat_length], ht⟩
/-- Two rows of rows, apart from each other. -/
structure PX (w1 w : World) (X : Option Addr) (kx cx : Nat) (vx : List Value) (Y : Option Addr) (ky cy : Nat) (vy : List Value) (l : Nat) (r : Nat → List Dw) : Prop where
  ox : w.ownsRow w1.heap.size 55 1 (.slice X kx cx) kx vx
  oy : w.ownsRow w1.heap.size 55 1 (.slice Y ky cy) ky vy
  ne : ∀ g, (Value.slice X kx cx).ownBlock = some g → (Value.slice Y ky cy).ownBlock ≠ some g
  mx : MV w kx l r vx
  my : MV w ky l r vy
  x : Ext w1 w
theorem PX.ext {w1 w w' : World} {X Y : Option Addr} {kx cx ky cy l : Nat} {vx vy : List Value} {r : Nat → List Dw} (h : PX w1 w X kx cx vx Y ky cy vy l r) (hx : Ext w w') : PX w1 w' X kx cx vx Y ky cy vy l r :=
  ⟨own_ext h.ox hx, own_ext h.oy hx, h.ne, h.mx.ext hx, h.my.ext hx, h.x.trans hx⟩
theorem PX.appX {w1 w w' : World} {X Y X' : Option Addr} {kx cx cx' ky cy l b c : Nat} {vx vy : List Value} {r : Nat → List Dw} (h : PX w1 w X kx cx vx Y ky cy vy l r) (ht : TT w b l (r kx))
    (g1 : w'.ownsRow w1.heap.size 55 1 (.slice X' (kx + 1) cx') (kx + 1) (vx ++ [.slice (some ⟨b, 0, none⟩) l c])) (g2 : Ext w1 w') (g3 : w.grownBy w' (Value.slice X kx cx).ownBlock) (g4 : (Value.slice X' (kx + 1) cx').ownBlock = (Value.slice X kx cx).ownBlock ∨ (Value.slice X' (kx + 1) cx').ownBlock = some w.heap.size) :
    PX w1 w' X' (kx + 1) cx' (vx ++ [.slice (some ⟨b, 0, none⟩) l c]) Y ky cy vy l r := by
  refine ⟨g1, h.oy.kept g3 ?_, fun g hg => ?_, (h.mx.grown h.ox g3).snoc (ht.grown h.ox g3), h.my.grown h.ox g3, g2⟩
  · cases hv : (Value.slice Y ky cy).ownBlock with
    | none => exact .inl rfl
    | some k =>
      right
      intro e1
      exact h.ne k e1.symm hv
  · rcases g4 with g4 | g4
    · rw [g4] at hg; exact h.ne g hg
    · rw [g4] at hg
      injection hg with hg
      subst hg
      intro e1
      have := (h.oy.lt _ e1).2
      omega
theorem PX.flip {w1 w : World} {X Y : Option Addr} {kx cx ky cy l : Nat} {vx vy : List Value} {r : Nat → List Dw} (h : PX w1 w X kx cx vx Y ky cy vy l r) : PX w1 w Y ky cy vy X kx cx vx l r :=
  ⟨h.oy, h.ox, fun g hg e => h.ne g e hg, h.my, h.mx, h.x⟩
/-- append of a row. -/
theorem appRow {w0 w : World} {ops : Array Oper} {rest : List Oper} {o : Oper} {a : Act} {Q : Exit → Act → World → Prop} (hgd : o.guard = none) (s x : Operand)
    (ho : o.op = .call { callee := .builtin .append, args := #[s, x], argTypes := #[53, 53] }) (v : Value) (n : Nat) (xs : List Value) (hs : a.eval s = v)
    (hown : w.ownsRow w0.heap.size 55 1 v n xs) (hx0 : Ext w0 w) (u : Value) (hu : u.oneCell' = true) (b : Nat) (hx : a.eval x = .slice (some ⟨b, 0, none⟩) 1 1) (hr : Rd w w.heap.size 1 (some ⟨b, 0, none⟩) 1 [u]) (hn : n + 1 ≤ 100000000)
    (h : ∀ v' w', w'.ownsRow w0.heap.size 55 1 v' (n + 1) (xs ++ [u]) → Ext w0 w' → w.grownBy w' v.ownBlock → (v'.ownBlock = v.ownBlock ∨ v'.ownBlock = some w.heap.size) → wpList Try.prog ops Q rest (a.put o.dst v') w') : wpList Try.prog ops Q (o :: rest) a w := by
  obtain ⟨i0, hi, hz0, hz1, hz2⟩ := info_parts Try.infoRowD
  exact wpList_app hgd s x _ ho 55 i0 _ 1 24 Try.underlying53 hi hz0 hz1 hz2 rfl (by decide) (by decide) v n _ hs hown hx0 _ 1 1 _ hx hr (by intro u' hu'; rw [List.mem_singleton] at hu'; subst hu'; exact hu) hn h
theorem pow_shift {n : Nat} (h1 : 1 ≤ n) (h4 : n ≤ 4) : wrap64 ((2 : Int) ^ n) = ((2 ^ n : Nat) : Int) := by
  rcases (show n = 1 ∨ n = 2 ∨ n = 3 ∨ n = 4 by omega) with rfl | rfl | rfl | rfl <;> first | decide | (unfold wrap64; decide) | kernel_rfl
set_option maxRecDepth 100000 in
set_option maxHeartbeats 8000000 in
theorem apart_same {n : Nat} (h1 : 1 ≤ n) (h4 : n ≤ 4) (A B : Option Addr) (ca cb : Nat) (ga gb : List Gt) (r : Nat → List Dw) (w : World) (hA : Rd w w.heap.size 4 A ga.length (gcells ga)) (hB : Rd w w.heap.size 4 B gb.length (gcells gb))
    (ha : ∀ i, i < 2 ^ n → ActsL (2 ^ n) A ca ga (basis n i) (r i)) (hb : ∀ i, i < 2 ^ n → ActsL (2 ^ n) B cb gb (basis n i) (r i)) (hl : ∀ j, j < 2 ^ n → (r j).length = 2 ^ n ∧ ∀ x ∈ r j, dok x = true) :
    Calls Try.prog 10 #[.slice A ga.length ca, .slice B gb.length cb, .int .i64 n] w fun e w' => e = .returned (.tuple #[.int .i64 0, .bool true]) ∧ Ext w w' := by
  have hl16 : 0 < 2 ^ n ∧ 2 ^ n ≤ 16 := by rcases (show n = 1 ∨ n = 2 ∨ n = 3 ∨ n = 4 by omega) with rfl | rfl | rfl | rfl <;> decide
  have HBS : Hid (∀ (i : Nat) (w' : World), i < 2 ^ n → Calls Try.prog 29 #[.int .i64 n, .int .i64 i] w' fun e w'' => (∃ X c, e = .returned (.slice X (2 ^ n) c) ∧ Rd w'' w''.heap.size 5 X (2 ^ n) (scells (basis n i))) ∧ Ext w' w'') := fun i w' hi => by
    refine (BasisState_any h1 h4 i hi w').mono ?_
    rintro e w'' ⟨⟨v, rfl, X, c, rfl, h⟩, hx⟩
    have e1 : (basis n i).length = 2 ^ n := by simp [basis]
    rw [e1] at h ⊢
    exact ⟨⟨X, c, rfl, h⟩, hx⟩
  have HA : Hid (∀ (i : Nat) (X : Option Addr) (c : Nat) (w' : World), i < 2 ^ n → Ext w w' → Rd w' w'.heap.size 5 X (2 ^ n) (scells (basis n i)) → Calls Try.prog 28 #[.slice A ga.length ca, .slice X (2 ^ n) c] w' fun e w'' => (∃ v, e = .returned (.tuple #[v, .bool true]) ∧ TOut (2 ^ n) (r i) v w'') ∧ Ext w' w'') := fun i X c w' hi hx hr => ha i hi X c w' (hA.ext hx) hr
  have HB : Hid (∀ (i : Nat) (X : Option Addr) (c : Nat) (w' : World), i < 2 ^ n → Ext w w' → Rd w' w'.heap.size 5 X (2 ^ n) (scells (basis n i)) → Calls Try.prog 28 #[.slice B gb.length cb, .slice X (2 ^ n) c] w' fun e w'' => (∃ v, e = .returned (.tuple #[v, .bool true]) ∧ TOut (2 ^ n) (r i) v w'') ∧ Ext w' w'') := fun i X c w' hi hx hr => hb i hi X c w' (hB.ext hx) hr
  have HGP : Hid (∀ (X Y : Option Addr) (c d : Nat) (w' : World), MX w' X (2 ^ n) (2 ^ n) r → MX w' Y (2 ^ n) (2 ^ n) r → Calls Try.prog 30 #[.slice X (2 ^ n) c, .slice Y (2 ^ n) d] w' fun e w'' => e = .returned (.tuple #[.int .i64 0, .bool true]) ∧ Ext w' w'') := fun X Y c d w' hx hy => GlobalPhase_same h1 h4 X Y c d r w' hx hy hl
  have hsh := pow_shift h1 h4
  have hn64 : IntKind.u64.wrap (n : Int) = (n : Int) := by rcases (show n = 1 ∨ n = 2 ∨ n = 3 ∨ n = 4 by omega) with rfl | rfl | rfl | rfl <;> rfl
  have hn4 : n ≤ 4 := h4
  clear hl ha hb hA hB h1
  generalize 2 ^ n = l at *
  generalize ga.length = na at *
  generalize gb.length = nb at *
  go_enter Try.func10, Try.ntmps10
  go_upto_region 3 with (fail)
  have HP0 : Hid (PX w ((w.alloc (.cells #[] 55)).alloc (.cells #[] 55)) (some ⟨w.heap.size, 0, none⟩) 0 0 [] (some ⟨w.heap.size + 1, 0, none⟩) 0 0 [] l r) :=
    ⟨own_ext (own_lit (Ext.refl _) _ _ 1 0 #[] _ rfl rfl rfl (by omega)) ((Ext.refl _).alloc _), own_lit ((Ext.refl _).alloc _) _ _ 1 0 #[] _ (by simp) rfl rfl (by omega), fun g hg => by
      have e1 : (Value.slice (some ⟨w.heap.size, 0, none⟩) 0 0).ownBlock = some w.heap.size := rfl
      have e2 : (Value.slice (some ⟨w.heap.size + 1, 0, none⟩) 0 0).ownBlock = some (w.heap.size + 1) := rfl
      rw [e1] at hg
      rw [e2]
      injection hg with hg
      intro h; injection h with h; omega, ⟨rfl, fun j hj => by omega⟩, ⟨rfl, fun j hj => by omega⟩, (by repeat (first | exact Ext.refl _ | assumption | refine Ext.alloc ?_ _ | refine Ext.drewN ?_ _ | refine Ext.drew ?_))⟩
  generalize ((w.alloc (.cells #[] 55)).alloc (.cells #[] 55)) = w2 at *
  go_wp2
  go_loopw [8, 9, 10] (fun xv yv iv wr => ∃ (k : Nat) (X : Option Addr) (cx : Nat) (vx : List Value) (Y : Option Addr) (cy : Nat) (vy : List Value), xv = .slice X k cx ∧ yv = .slice Y k cy ∧ iv = .int .i64 k ∧ k ≤ l ∧ Hid (PX w wr X k cx vx Y k cy vy l r)) (fun _ _ i _ => l - (intOf i).toNat)
  case atStart => exact ⟨0, _, 0, [], _, 0, [], rfl, rfl, rfl, Nat.zero_le _, HP0⟩
  case round =>
    obtain ⟨k, X, cx, vx, Y, cy, vy, rfl, rfl, rfl, hk, HP⟩ := hrel
    clear HP0
    by_cases hlt : k < l
    · have hk1 : IntKind.i64.wrap ((k : Int) + 1) = ((k + 1 : Nat) : Int) := by rw [IntWalk.i64_in _ (by omega)]; rfl
      have hk2 : wrap64 ((k : Int) + 1) = ((k + 1 : Nat) : Int) := by unfold wrap64; omega
      have HLT : Hid (k < l ∧ l ≤ 16) := ⟨hlt, hl16.2⟩
      go_wp2_with fail
      refine (HBS.out k _ HLT.out.1).mono ?_
      rintro e w3 ⟨⟨X3, c3, rfl, hr3⟩, hx3⟩
      have HP3 := Lib.hid (HP.out.ext hx3)
      have HR3 := Lib.hid hr3
      clear hr3 hx3 HP
      go_wp2_with fail
      refine (HA.out k X3 c3 _ HLT.out.1 HP3.out.x HR3.out).mono ?_
      rintro e w4 ⟨⟨v, rfl, b4, c4, rfl, ht4⟩, hx4⟩
      have HP4 := Lib.hid (HP3.out.ext hx4)
      have HT4 := Lib.hid ht4
      clear ht4 hx4 HP3 HR3
      go_wp2_with fail
      refine (HBS.out k _ HLT.out.1).mono ?_
      rintro e w5 ⟨⟨X5, c5, rfl, hr5⟩, hx5⟩
      have HP5 := Lib.hid (HP4.out.ext hx5)
      have HT5 := Lib.hid (HT4.out.ext hx5)
      have HR5 := Lib.hid hr5
      clear hr5 hx5 HP4 HT4
      go_wp2_with fail
      refine (HB.out k X5 c5 _ HLT.out.1 HP5.out.x HR5.out).mono ?_
      rintro e w6 ⟨⟨v, rfl, b6, c6, rfl, ht6⟩, hx6⟩
      have HP6 := Lib.hid (HP5.out.ext hx6)
      have HT6 := Lib.hid (HT5.out.ext hx6)
      have HU6 := Lib.hid ht6
      clear ht6 hx6 HP5 HT5 HR5
      go_upto_region 11 with (at_builtin; refine appRow (w0 := w) rfl _ _ rfl _ k vx rfl (own_ext HP6.out.ox ((Ext.refl _).alloc _)) (HP6.out.x.alloc _) _ rfl _ rfl (rd_new _ _ _ 1 _ rfl rfl) (by have := HLT.out; omega) ?_; intro v' w9 g1 g2 g3 g4)
      obtain ⟨A9, c9, rfl, _⟩ := own_slice g1
      have HP9 := Lib.hid (((HP6.out.ext ((Ext.refl _).alloc _)).appX (HT6.out.ext ((Ext.refl _).alloc _)) g1 g2 g3 g4).flip)
      have HU9 : Hid (TT w9 b6 l (r k)) := (HU6.out.ext ((Ext.refl _).alloc _)).grown (own_ext HP6.out.ox ((Ext.refl _).alloc _)) g3
      clear g1 g2 g3 g4 HP6 HT6 HU6
      go_wp2_with (at_builtin; refine appRow (w0 := w) rfl _ _ rfl _ k vy rfl (own_ext HP9.out.ox ((Ext.refl _).alloc _)) (HP9.out.x.alloc _) _ rfl _ rfl (rd_new _ _ _ 1 _ rfl rfl) (by have := HLT.out; omega) ?_; intro v' w10 g1 g2 g3 g4)
      obtain ⟨A10, c10, rfl, _⟩ := own_slice g1
      have HP10 := Lib.hid (((HP9.out.ext ((Ext.refl _).alloc _)).appX (HU9.out.ext ((Ext.refl _).alloc _)) g1 g2 g3 g4).flip)
      clear g1 g2 g3 g4 HP9 HU9
      go_roundw
      case rel => exact ⟨k + 1, A9, c9, _, A10, c10, _, rfl, rfl, by first | rfl | rw [hk1] | rw [hk2], by have := HLT.out; omega, HP10⟩
      case measure => simp [intOf, hk2]; have := HLT.out; omega
    · have hkl : k = l := by omega
      subst hkl
      go_wp2_with fail
      refine (HGP.out _ _ _ _ _ ⟨_, Rd.own HP.out.ox, HP.out.mx⟩ ⟨_, Rd.own HP.out.oy, HP.out.my⟩).mono ?_
      rintro e w3 ⟨rfl, hx3⟩
      go_wp2
      go_ret2
      exact ⟨rfl, HP.out.x.trans hx3⟩
end Go.Proofs.Ytofbmkpfliofeab
