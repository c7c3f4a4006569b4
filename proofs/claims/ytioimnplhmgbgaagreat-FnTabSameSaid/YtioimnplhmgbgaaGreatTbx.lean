/-
 Helper text (no claim of its own): a gate on a tableau, by the reference, and the block of the new rows. Printed by gen_l28.py.
-/
import Derived.Test.YtioimnplhmgbgaaGreatTbj
import Derived.Test.YtioimnplhmgbgaaGreatTbv
import Derived.Test.YtioimnplhmgbgaaGreatCjs
namespace Go.Proofs.YtioimnplhmgbgaaGreat
open Go.ChangeShapes Go.WideShapes Go.ChangeAt Go.RowKit Go.Deep
set_option linter.unusedVariables false
set_option linter.unusedSimpArgs false
/-- The block of a row of Paulis. -/
def PB (w : World) (A : Option Addr) : Prop := ∀ b o, A = some ⟨b, o, none⟩ → ∃ cs, Blk w b 66 cs
theorem PB.ext {w w' : World} {A : Option Addr} (h : PB w A) (hx : Ext w w') : PB w' A := fun b o e => by
 obtain ⟨cs, hb⟩ := h b o e
 exact ⟨cs, hb.ext hx⟩
theorem PB.own {w : World} {B len cap : Nat} {A : Option Addr} {xs : List Value} (h : w.ownsRow B 66 4 (.slice A len cap) len xs) : PB w A := fun b o e => by
 subst e
 rcases h.2 with ⟨h0, hn⟩ | ⟨g, cap', cur, hv, hB, hc, -⟩
 ·cases h0
 ·injection hv with e1
  injection e1 with e1
  injection e1 with e1
  subst e1
  exact ⟨cur, hc⟩
def TabOutP (n : Int) (rs : List Pa) (v : Value) (w : World) : Prop := ∃ (A : Option Addr) (c : Nat), v = .agg #[.int .i64 n, .slice A rs.length c] ∧ Rd w w.heap.size 4 A rs.length (pcells rs) ∧ rs.length ≤ c ∧ PB w A
theorem TabOutP.put {n : Int} {rs : List Pa} {N : Int} {A : Option Addr} {len cap : Nat} {xs : List Pa} {W1 w : World} {g r : Nat} (h : DT W1 w g N A len cap xs) (hr : r < g) (a b : Value) : TabOutP N xs (.agg #[.int .i64 N, .slice A len cap]) (put2 w r a b) := by
 have hl := h.len_
 have ho := own_set (own_set h.o (p := ⟨r, 0, none⟩) (by show r < g + 1; omega) a) (p := ⟨r, 1, none⟩) (by show r < g + 1; omega) b
 have hrd := Rd.own ho
 have hp := PB.own ho
 have hc := h.cap_
 subst hl
 exact ⟨A, cap, rfl, hrd, hc, hp⟩
def TabResP (n : Int) (t : Option (List Pa)) (e : Ending) (w : World) : Prop :=
 match t with
 | none => e = .returned (.tuple #[.agg #[.int .i64 0, .slice none 0 0], .bool false])
 | some rs => ∃ v, e = .returned (.tuple #[v, .bool true]) ∧ TabOutP n rs v w
theorem tabResP_none {n : Int} {t : Option (List Pa)} {e : Ending} {w : World} (h : t = none) (he : e = .returned (.tuple #[.agg #[.int .i64 0, .slice none 0 0], .bool false])) : TabResP n t e w := by subst h; exact he
theorem tabResP_some {n : Int} {t : Option (List Pa)} {rs : List Pa} {e : Ending} {w : World} {v : Value} (h : t = some rs) (he : e = .returned (.tuple #[v, .bool true])) (ho : TabOutP n rs v w) : TabResP n t e w := by subst h; exact ⟨v, he, ho⟩
set_option maxRecDepth 100000 in
set_option maxHeartbeats 8000000 in
theorem spec_TableauApplyGate_P (A : Option Addr) (c : Nat) (n : Int) (rs : List Pa) (g : Gt) (w : World) (h : Rd w w.heap.size 4 A rs.length (pcells rs)) (hl : rs.length ≤ 100000000) (hcap : rs.length ≤ c) :
  Calls Tryz.prog 23 #[.agg #[.int .i64 n, .slice A rs.length c], g.val] w fun e w' => TabResP n (tabG n rs g) e w' ∧ Ext w w' := by
 go_enter Tryz.func23, Tryz.ntmps23
 go_wp2_with fail
 refine (spec_IsValidTableau_any A c n rs _ (h.ext (by exact xx)) hl hcap).mono ?_
 rintro e w1 ⟨rfl, hx1⟩
 obtain ⟨l, hgl⟩ : ∃ l, rs.length = l := ⟨_, rfl⟩
 rw [hgl] at h hl hcap hx1 ⊢
 have HL := Lib.hid hgl
 clear hgl
 have HA1 : Hid (∀ q, w.heap.size + 3 ≤ q → AG w w1 A l c n g q) := fun q hq => ⟨(((Blk.new w _ _).alloc _).alloc _).ext hx1, ((Blk.newAt (b := w.heap.size + 1) (by simp)).alloc _).ext hx1, (Blk.newAt (b := w.heap.size + 2) (by simp)).ext hx1, hq⟩
 have HX1 : Hid (Ext w w1) := Ext.trans (by exact xx) hx1
 have hl1 : w.heap.size + 3 ≤ w1.heap.size := by have := hx1.size; simpa using this
 clear hx1
 cases hv : vTab n rs
 ·have HNO : Hid (tabG n rs g = none) := tabG_no hv
  clear hv
  have HR := HA1.out _ (Nat.le_refl _)
  have HR' := HR.2.2.1
  clear HR
  obtain ⟨⟨c0, c1⟩, z0, z1⟩ := blkT2 HR'
  go_wp2
  have HBB : Hid (Blk (put2 _ (w.heap.size + 2) (.int .i64 0) (.slice none 0 0)) (w.heap.size + 2) 31 #[.int .i64 0, .slice none 0 0]) := HR'.put2 _ _
  refine bodyPost_ret (v := .tuple #[.agg #[.int .i64 0, .slice none 0 0], .bool false]) ?_ rfl ?_
  rotate_left
  ·exact ⟨tabResP_none HNO.out rfl, ext_put2 (g := w.heap.size + 2) (HX1.out) (by omega) _ _⟩
  ·exact ret_pair rfl _ _ _ _ _ _ _ rfl rfl HBB.out Tryz.underlying31 rfl Tryz.sizeTableauR
 have HV := Lib.hid hv
 have HVL := Lib.hid (vTab_len hv)
 clear hv
 obtain ⟨b, o, rfl, -, -⟩ := h.2 (by have := HVL.out; have := HL.out; omega)
 have HROW : Hid (∀ i, i < l → ∃ x, rs[i]? = some x) := fun i hi => ⟨_, List.getElem?_eq_getElem (by rw [HL.out]; exact hi)⟩
 have hl8 : l ≤ 8 := by have := HVL.out; have := HL.out; omega
 clear hl hcap
 obtain ⟨⟨t0, t1⟩, -⟩ := blkT2 (HA1.out _ (Nat.le_refl _)).1
 go_upto_region 4 with (fail)
 obtain ⟨q, hq⟩ : ∃ q, q = w1.heap.size := ⟨_, rfl⟩
 rw [← hq]
 have HAG : Hid (AG w (w1.alloc (.cells #[.int .i64 n, .slice none 0 0] 31)) (some ⟨b, o, none⟩) l c n g q) := (HA1.out q (by omega)).ext ((Ext.refl _).alloc _)
 have HD : Hid (DT w (w1.alloc (.cells #[.int .i64 n, .slice none 0 0] 31)) q n none 0 0 []) := ⟨Blk.newAt hq, ⟨rfl, Or.inl ⟨rfl, rfl⟩⟩, HX1.out.alloc _, by omega⟩
 clear t0 t1
 generalize w1.alloc (.cells #[.int .i64 n, .slice none 0 0] 31) = w2 at *
 clear hq hl1 HA1 HX1
 obtain ⟨⟨t0, t1⟩, -⟩ := blkT2 HAG.out.1
 go_wp2
 clear t0 t1
 go_loopw [7] (fun iv wr => ∃ (k : Nat) (A' : Option Addr) (cap : Nat), iv = .int .i64 k ∧ k ≤ l ∧ Hid (DT w wr q n A' k cap ((rs.take k).map fun p => cj p g)) ∧ Hid (AG w wr (some ⟨b, o, none⟩) l c n g q) ∧ Hid ((rs.take k).all (fun p => cjOk p g) = true)) (fun i _ => l - (intOf i).toNat)
 case atStart => exact ⟨0, none, 0, rfl, Nat.zero_le _, by simpa using HD, HAG, by simp [Hid]⟩
 case round =>
  obtain ⟨k, A', cap, rfl, hk, HD0, HA0, HQ⟩ := hrel
  clear HD HAG
  by_cases hlt : k < l
  ·have HLT := Lib.hid hlt
   obtain ⟨p, hp⟩ := HROW.out k hlt
   have HP := Lib.hid hp
   clear hp
   obtain ⟨y, hy⟩ : ∃ y, cj p g = y := ⟨_, rfl⟩
   have HY : Hid ((rs.take (k + 1)).map (fun p => cj p g) = ((rs.take k).map fun p => cj p g) ++ [y]) := by unfold Hid; rw [map_snoc _ HP.out, hy]
   have hk1 : IntKind.i64.wrap ((k : Int) + 1) = ((k + 1 : Nat) : Int) := by rw [IntWalk.i64_in _ (by omega)]; rfl
   have hk2 : wrap64 ((k : Int) + 1) = ((k + 1 : Nat) : Int) := by unfold wrap64; omega
   have HK : Hid (∀ w', Ext wr w' → (w'.cell? ⟨w.heap.size, 0, none⟩ = some (.int .i64 n) ∧ w'.cell? ⟨w.heap.size, 1, none⟩ = some (.slice (some ⟨b, o, none⟩) l c)) ∧ (w'.cell? ⟨b, o + k * 4, none⟩ = some (.int .i64 p.n) ∧ w'.cell? ⟨b, o + k * 4 + 1, none⟩ = some (.int .i64 p.x) ∧ w'.cell? ⟨b, o + k * 4 + 2, none⟩ = some (.int .i64 p.z) ∧ w'.cell? ⟨b, o + k * 4 + 3, none⟩ = some (.int .i64 p.p)) ∧ (w'.cell? ⟨w.heap.size + 1, 0, none⟩ = some (.int .i64 g.k) ∧ w'.cell? ⟨w.heap.size + 1, 1, none⟩ = some (.int .i64 g.a) ∧ w'.cell? ⟨w.heap.size + 1, 2, none⟩ = some (.int .i64 g.b) ∧ w'.cell? ⟨w.heap.size + 1, 3, none⟩ = some (.int .i64 g.c))) := fun w' hx => ⟨(blkT2 (HA0.out.1.ext hx)).1, row_at (h.up (HD0.out.x.trans hx) (Nat.le_refl _)) HLT.out HP.out, (cells4 (HA0.out.2.1.ext hx)).1⟩
   obtain ⟨⟨b0, b1⟩, -⟩ := HK.out wr (Ext.refl _)
   cases hok : cjOk p g
   ·have HC : Hid (∀ w', Calls Tryz.prog 45 #[.agg #[.int .i64 p.n, .int .i64 p.x, .int .i64 p.z, .int .i64 p.p], .agg #[.int .i64 g.k, .int .i64 g.a, .int .i64 g.b, .int .i64 g.c]] w' fun e w'' => e = .returned (.tuple #[.agg #[.int .i64 y.n, .int .i64 y.x, .int .i64 y.z, .int .i64 y.p], .bool false]) ∧ Ext w' w'') := fun w' => by
     refine (spec_ConjugatePauli_any p g w').mono ?_
     rintro e w'' ⟨he, hx⟩
     exact ⟨by rw [← hy, ← hok]; exact he, hx⟩
    have HNO : Hid (tabG n rs g = none) := tabG_bad HP.out hok
    clear hok hy
    go_upto_region 7 with (fail)
    refine wp_region_held_drew (S := fun w' => (w'.cell? ⟨w.heap.size, 0, none⟩ = some (.int .i64 n) ∧ w'.cell? ⟨w.heap.size, 1, none⟩ = some (.slice (some ⟨b, o, none⟩) l c)) ∧ (w'.cell? ⟨b, o + k * 4, none⟩ = some (.int .i64 p.n) ∧ w'.cell? ⟨b, o + k * 4 + 1, none⟩ = some (.int .i64 p.x) ∧ w'.cell? ⟨b, o + k * 4 + 2, none⟩ = some (.int .i64 p.z) ∧ w'.cell? ⟨b, o + k * 4 + 3, none⟩ = some (.int .i64 p.p)) ∧ (w'.cell? ⟨w.heap.size + 1, 0, none⟩ = some (.int .i64 g.k) ∧ w'.cell? ⟨w.heap.size + 1, 1, none⟩ = some (.int .i64 g.a) ∧ w'.cell? ⟨w.heap.size + 1, 2, none⟩ = some (.int .i64 g.b) ∧ w'.cell? ⟨w.heap.size + 1, 3, none⟩ = some (.int .i64 g.c))) (by kernel_rfl) (HK.out _ (Ext.refl wr).drew) (fun hHeld => ?_)
    (refine tk 0 (v := ?_) ?_ ?_; rotate_left; · (intro w hSw; (try dsimp only at hSw); go_simp; all_goals with_reducible rfl))
    (try simp only [Act.put, L1, L2, L3, L4, L5, L6])
    (refine tk 1 (v := ?_) ?_ ?_; rotate_left; · (intro w hSw; (try dsimp only at hSw); go_simp; all_goals with_reducible rfl))
    (try simp only [Act.put, L1, L2, L3, L4, L5, L6])
    (refine tk 2 (v := ?_) ?_ ?_; rotate_left; · (intro w hSw; (try dsimp only at hSw); go_simp; all_goals with_reducible rfl))
    (try simp only [Act.put, L1, L2, L3, L4, L5, L6])
    (refine tk 3 (v := ?_) ?_ ?_; rotate_left; · (intro w hSw; (try dsimp only at hSw); go_simp; all_goals with_reducible rfl))
    (try simp only [Act.put, L1, L2, L3, L4, L5, L6])
    (refine tk 4 (v := ?_) ?_ ?_; rotate_left; · (intro w hSw; (try dsimp only at hSw); go_simp; all_goals with_reducible rfl))
    (try simp only [Act.put, L1, L2, L3, L4, L5, L6])
    (refine tk 5 (v := ?_) ?_ ?_; rotate_left; · (intro w hSw; (try dsimp only at hSw); go_simp; all_goals with_reducible rfl))
    (try simp only [Act.put, L1, L2, L3, L4, L5, L6])
    refine wpAnyH_ready (rs := [6, 10]) (by kernel_rfl) (by simp) ?_
    refine AllReadyH.cons rfl (fun K hK => ?_) (AllReadyH.cons rfl (fun K hK => ?_) AllReadyH.nil)
    ·go_simp
     refine (HC.out _).mono ?_
     rintro e v5 ⟨rfl, hy5⟩
     have HY5 : Hid (Ext wr v5) := Ext.trans (Ext.refl wr).drew hy5
     clear hy5
     refine hK.out _ _ (HK.out _ (HY5.out)) (fun hHeld => ?_)
     clear hK K
     (try simp only [Act.put, L1, L2, L3, L4, L5, L6])
     (refine tk 7 (v := ?_) ?_ ?_; rotate_left; · (intro w hSw; (try dsimp only at hSw); go_simp; all_goals with_reducible rfl))
     (try simp only [Act.put, L1, L2, L3, L4, L5, L6])
     (refine tk 8 (v := ?_) ?_ ?_; rotate_left; · (intro w hSw; (try dsimp only at hSw); go_simp; all_goals with_reducible rfl))
     (try simp only [Act.put, L1, L2, L3, L4, L5, L6])
     (refine tk 9 (v := ?_) ?_ ?_; rotate_left; · (intro w hSw; (try dsimp only at hSw); go_simp; all_goals with_reducible rfl))
     (try simp only [Act.put, L1, L2, L3, L4, L5, L6])
     refine wpAnyH_ready (rs := [10]) (by kernel_rfl) (by simp) ?_
     refine AllReadyH.cons rfl (fun K hK => ?_) AllReadyH.nil
     go_simp
     have HX6 : Hid (Ext wr (v5.alloc (.cells #[.int .i64 0, .int .i64 0, .int .i64 0, .int .i64 0] 66))) := HY5.out.alloc _
     have HB6 : Hid (Blk (v5.alloc (.cells #[.int .i64 0, .int .i64 0, .int .i64 0, .int .i64 0] 66)) v5.heap.size 66 #[.int .i64 0, .int .i64 0, .int .i64 0, .int .i64 0]) := Blk.new _ _ _
     have hs6 : wr.heap.size ≤ v5.heap.size := HY5.out.size
     refine hK.out _ _ (HK.out _ (HX6.out)) (fun hHeld => ?_)
     clear hK K
     (try simp only [Act.put, L1, L2, L3, L4, L5, L6])
     generalize v5.alloc (.cells #[.int .i64 0, .int .i64 0, .int .i64 0, .int .i64 0] 66) = w6 at *
     generalize v5.heap.size = s at *
     clear HY5
     refine wpAnyH_ready (rs := [11]) (by kernel_rfl) (by simp) ?_
     refine AllReadyH.cons rfl (fun K hK => ?_) AllReadyH.nil
     obtain ⟨⟨q0, q1, q2, q3⟩, f0, f1, f2, f3⟩ := cells4 HB6.out
     go_simp
     have HX7 : Hid (Ext wr ((((w6.setCell ⟨s, 0, none⟩ (.int .i64 y.n)).setCell ⟨s, 1, none⟩ (.int .i64 y.x)).setCell ⟨s, 2, none⟩ (.int .i64 y.z)).setCell ⟨s, 3, none⟩ (.int .i64 y.p))) := ext_put4 (g := s) HX6.out hs6 _ _ _ _
     have HB7 : Hid (Blk ((((w6.setCell ⟨s, 0, none⟩ (.int .i64 y.n)).setCell ⟨s, 1, none⟩ (.int .i64 y.x)).setCell ⟨s, 2, none⟩ (.int .i64 y.z)).setCell ⟨s, 3, none⟩ (.int .i64 y.p)) s 66 #[.int .i64 y.n, .int .i64 y.x, .int .i64 y.z, .int .i64 y.p]) := HB6.out.put4 _ _ _ _
     refine hK.out _ _ (HK.out _ (HX7.out)) (fun hHeld => ?_)
     clear hK K
     (try simp only [Act.put, L1, L2, L3, L4, L5, L6])
     (refine tk 12 (v := ?_) ?_ ?_; rotate_left; · (intro w hSw; (try dsimp only at hSw); go_simp; all_goals with_reducible rfl))
     (try simp only [Act.put, L1, L2, L3, L4, L5, L6])
     (refine wpAnyH_done (by kernel_rfl) ?_ _)
     clear q0 q1 q2 q3 f0 f1 f2 f3 hHeld
     generalize ((((w6.setCell ⟨s, 0, none⟩ (.int .i64 y.n)).setCell ⟨s, 1, none⟩ (.int .i64 y.x)).setCell ⟨s, 2, none⟩ (.int .i64 y.z)).setCell ⟨s, 3, none⟩ (.int .i64 y.p)) = w7 at *
     have HD7 := Lib.hid (HD0.out.ext HX7.out)
     have HA7 := Lib.hid (HA0.out.ext HX7.out)
     clear HX6 HB6 HX7 HC HK hs6 HD0 HA0
     obtain ⟨⟨c0, c1⟩, z0, z1⟩ := blkT2 HA7.out.2.2.1
     go_wp2
     have HBB : Hid (Blk (put2 _ (w.heap.size + 2) (.int .i64 0) (.slice none 0 0)) (w.heap.size + 2) 31 #[.int .i64 0, .slice none 0 0]) := (HA7.out.2.2.1).put2 _ _
     refine bodyPost_ret (v := .tuple #[.agg #[.int .i64 0, .slice none 0 0], .bool false]) ?_ rfl ?_
     rotate_left
     ·exact ⟨tabResP_none HNO.out rfl, ext_put2 (g := w.heap.size + 2) (HD7.out.x) (by omega) _ _⟩
     ·exact ret_pair rfl _ _ _ _ _ _ _ rfl rfl HBB.out Tryz.underlying31 rfl Tryz.sizeTableauR
    ·go_simp
     refine hK.out _ _ (HK.out _ (((Ext.refl wr).alloc _).drew)) (fun hHeld => ?_)
     clear hK K
     (try simp only [Act.put, L1, L2, L3, L4, L5, L6])
     refine wpAnyH_ready (rs := [6]) (by kernel_rfl) (by simp) ?_
     refine AllReadyH.cons rfl (fun K hK => ?_) AllReadyH.nil
     go_simp
     refine (HC.out _).mono ?_
     rintro e w6 ⟨rfl, hy5⟩
     have HX6 : Hid (Ext wr w6) := Ext.trans ((Ext.refl wr).alloc (.cells #[.int .i64 0, .int .i64 0, .int .i64 0, .int .i64 0] 66)).drew hy5
     have HB6 : Hid (Blk w6 wr.heap.size 66 #[.int .i64 0, .int .i64 0, .int .i64 0, .int .i64 0]) := ((Blk.new wr 66 #[.int .i64 0, .int .i64 0, .int .i64 0, .int .i64 0]).ext ((Ext.refl _).drew)).ext hy5
     have hs6 : wr.heap.size ≤ wr.heap.size := Nat.le_refl _
     clear hy5
     refine hK.out _ _ (HK.out _ (HX6.out)) (fun hHeld => ?_)
     clear hK K
     (try simp only [Act.put, L1, L2, L3, L4, L5, L6])
     (refine tk 7 (v := ?_) ?_ ?_; rotate_left; · (intro w hSw; (try dsimp only at hSw); go_simp; all_goals with_reducible rfl))
     (try simp only [Act.put, L1, L2, L3, L4, L5, L6])
     (refine tk 8 (v := ?_) ?_ ?_; rotate_left; · (intro w hSw; (try dsimp only at hSw); go_simp; all_goals with_reducible rfl))
     (try simp only [Act.put, L1, L2, L3, L4, L5, L6])
     (refine tk 9 (v := ?_) ?_ ?_; rotate_left; · (intro w hSw; (try dsimp only at hSw); go_simp; all_goals with_reducible rfl))
     (try simp only [Act.put, L1, L2, L3, L4, L5, L6])
     obtain ⟨s, hs⟩ : ∃ s, s = wr.heap.size := ⟨_, rfl⟩
     rw [← hs] at HB6 ⊢
     replace hs6 : wr.heap.size ≤ s := by rw [hs]; exact Nat.le_refl _
     clear hs
     refine wpAnyH_ready (rs := [11]) (by kernel_rfl) (by simp) ?_
     refine AllReadyH.cons rfl (fun K hK => ?_) AllReadyH.nil
     obtain ⟨⟨q0, q1, q2, q3⟩, f0, f1, f2, f3⟩ := cells4 HB6.out
     go_simp
     have HX7 : Hid (Ext wr ((((w6.setCell ⟨s, 0, none⟩ (.int .i64 y.n)).setCell ⟨s, 1, none⟩ (.int .i64 y.x)).setCell ⟨s, 2, none⟩ (.int .i64 y.z)).setCell ⟨s, 3, none⟩ (.int .i64 y.p))) := ext_put4 (g := s) HX6.out hs6 _ _ _ _
     have HB7 : Hid (Blk ((((w6.setCell ⟨s, 0, none⟩ (.int .i64 y.n)).setCell ⟨s, 1, none⟩ (.int .i64 y.x)).setCell ⟨s, 2, none⟩ (.int .i64 y.z)).setCell ⟨s, 3, none⟩ (.int .i64 y.p)) s 66 #[.int .i64 y.n, .int .i64 y.x, .int .i64 y.z, .int .i64 y.p]) := HB6.out.put4 _ _ _ _
     refine hK.out _ _ (HK.out _ (HX7.out)) (fun hHeld => ?_)
     clear hK K
     (try simp only [Act.put, L1, L2, L3, L4, L5, L6])
     (refine tk 12 (v := ?_) ?_ ?_; rotate_left; · (intro w hSw; (try dsimp only at hSw); go_simp; all_goals with_reducible rfl))
     (try simp only [Act.put, L1, L2, L3, L4, L5, L6])
     (refine wpAnyH_done (by kernel_rfl) ?_ _)
     clear q0 q1 q2 q3 f0 f1 f2 f3 hHeld
     generalize ((((w6.setCell ⟨s, 0, none⟩ (.int .i64 y.n)).setCell ⟨s, 1, none⟩ (.int .i64 y.x)).setCell ⟨s, 2, none⟩ (.int .i64 y.z)).setCell ⟨s, 3, none⟩ (.int .i64 y.p)) = w7 at *
     have HD7 := Lib.hid (HD0.out.ext HX7.out)
     have HA7 := Lib.hid (HA0.out.ext HX7.out)
     clear HX6 HB6 HX7 HC HK hs6 HD0 HA0
     obtain ⟨⟨c0, c1⟩, z0, z1⟩ := blkT2 HA7.out.2.2.1
     go_wp2
     have HBB : Hid (Blk (put2 _ (w.heap.size + 2) (.int .i64 0) (.slice none 0 0)) (w.heap.size + 2) 31 #[.int .i64 0, .slice none 0 0]) := (HA7.out.2.2.1).put2 _ _
     refine bodyPost_ret (v := .tuple #[.agg #[.int .i64 0, .slice none 0 0], .bool false]) ?_ rfl ?_
     rotate_left
     ·exact ⟨tabResP_none HNO.out rfl, ext_put2 (g := w.heap.size + 2) (HD7.out.x) (by omega) _ _⟩
     ·exact ret_pair rfl _ _ _ _ _ _ _ rfl rfl HBB.out Tryz.underlying31 rfl Tryz.sizeTableauR
   ·have HC : Hid (∀ w', Calls Tryz.prog 45 #[.agg #[.int .i64 p.n, .int .i64 p.x, .int .i64 p.z, .int .i64 p.p], .agg #[.int .i64 g.k, .int .i64 g.a, .int .i64 g.b, .int .i64 g.c]] w' fun e w'' => e = .returned (.tuple #[.agg #[.int .i64 y.n, .int .i64 y.x, .int .i64 y.z, .int .i64 y.p], .bool true]) ∧ Ext w' w'') := fun w' => by
     refine (spec_ConjugatePauli_any p g w').mono ?_
     rintro e w'' ⟨he, hx⟩
     exact ⟨by rw [← hy, ← hok]; exact he, hx⟩
    have HQ2 : Hid ((rs.take (k + 1)).all (fun p => cjOk p g) = true) := allT_snoc (fun p => cjOk p g) HP.out HQ.out hok
    clear hok hy
    go_upto_region 7 with (fail)
    refine wp_region_held_drew (S := fun w' => (w'.cell? ⟨w.heap.size, 0, none⟩ = some (.int .i64 n) ∧ w'.cell? ⟨w.heap.size, 1, none⟩ = some (.slice (some ⟨b, o, none⟩) l c)) ∧ (w'.cell? ⟨b, o + k * 4, none⟩ = some (.int .i64 p.n) ∧ w'.cell? ⟨b, o + k * 4 + 1, none⟩ = some (.int .i64 p.x) ∧ w'.cell? ⟨b, o + k * 4 + 2, none⟩ = some (.int .i64 p.z) ∧ w'.cell? ⟨b, o + k * 4 + 3, none⟩ = some (.int .i64 p.p)) ∧ (w'.cell? ⟨w.heap.size + 1, 0, none⟩ = some (.int .i64 g.k) ∧ w'.cell? ⟨w.heap.size + 1, 1, none⟩ = some (.int .i64 g.a) ∧ w'.cell? ⟨w.heap.size + 1, 2, none⟩ = some (.int .i64 g.b) ∧ w'.cell? ⟨w.heap.size + 1, 3, none⟩ = some (.int .i64 g.c))) (by kernel_rfl) (HK.out _ (Ext.refl wr).drew) (fun hHeld => ?_)
    (refine tk 0 (v := ?_) ?_ ?_; rotate_left; · (intro w hSw; (try dsimp only at hSw); go_simp; all_goals with_reducible rfl))
    (try simp only [Act.put, L1, L2, L3, L4, L5, L6])
    (refine tk 1 (v := ?_) ?_ ?_; rotate_left; · (intro w hSw; (try dsimp only at hSw); go_simp; all_goals with_reducible rfl))
    (try simp only [Act.put, L1, L2, L3, L4, L5, L6])
    (refine tk 2 (v := ?_) ?_ ?_; rotate_left; · (intro w hSw; (try dsimp only at hSw); go_simp; all_goals with_reducible rfl))
    (try simp only [Act.put, L1, L2, L3, L4, L5, L6])
    (refine tk 3 (v := ?_) ?_ ?_; rotate_left; · (intro w hSw; (try dsimp only at hSw); go_simp; all_goals with_reducible rfl))
    (try simp only [Act.put, L1, L2, L3, L4, L5, L6])
    (refine tk 4 (v := ?_) ?_ ?_; rotate_left; · (intro w hSw; (try dsimp only at hSw); go_simp; all_goals with_reducible rfl))
    (try simp only [Act.put, L1, L2, L3, L4, L5, L6])
    (refine tk 5 (v := ?_) ?_ ?_; rotate_left; · (intro w hSw; (try dsimp only at hSw); go_simp; all_goals with_reducible rfl))
    (try simp only [Act.put, L1, L2, L3, L4, L5, L6])
    refine wpAnyH_ready (rs := [6, 10]) (by kernel_rfl) (by simp) ?_
    refine AllReadyH.cons rfl (fun K hK => ?_) (AllReadyH.cons rfl (fun K hK => ?_) AllReadyH.nil)
    ·go_simp
     refine (HC.out _).mono ?_
     rintro e v5 ⟨rfl, hy5⟩
     have HY5 : Hid (Ext wr v5) := Ext.trans (Ext.refl wr).drew hy5
     clear hy5
     refine hK.out _ _ (HK.out _ (HY5.out)) (fun hHeld => ?_)
     clear hK K
     (try simp only [Act.put, L1, L2, L3, L4, L5, L6])
     (refine tk 7 (v := ?_) ?_ ?_; rotate_left; · (intro w hSw; (try dsimp only at hSw); go_simp; all_goals with_reducible rfl))
     (try simp only [Act.put, L1, L2, L3, L4, L5, L6])
     (refine tk 8 (v := ?_) ?_ ?_; rotate_left; · (intro w hSw; (try dsimp only at hSw); go_simp; all_goals with_reducible rfl))
     (try simp only [Act.put, L1, L2, L3, L4, L5, L6])
     (refine tk 9 (v := ?_) ?_ ?_; rotate_left; · (intro w hSw; (try dsimp only at hSw); go_simp; all_goals with_reducible rfl))
     (try simp only [Act.put, L1, L2, L3, L4, L5, L6])
     refine wpAnyH_ready (rs := [10]) (by kernel_rfl) (by simp) ?_
     refine AllReadyH.cons rfl (fun K hK => ?_) AllReadyH.nil
     go_simp
     have HX6 : Hid (Ext wr (v5.alloc (.cells #[.int .i64 0, .int .i64 0, .int .i64 0, .int .i64 0] 66))) := HY5.out.alloc _
     have HB6 : Hid (Blk (v5.alloc (.cells #[.int .i64 0, .int .i64 0, .int .i64 0, .int .i64 0] 66)) v5.heap.size 66 #[.int .i64 0, .int .i64 0, .int .i64 0, .int .i64 0]) := Blk.new _ _ _
     have hs6 : wr.heap.size ≤ v5.heap.size := HY5.out.size
     refine hK.out _ _ (HK.out _ (HX6.out)) (fun hHeld => ?_)
     clear hK K
     (try simp only [Act.put, L1, L2, L3, L4, L5, L6])
     generalize v5.alloc (.cells #[.int .i64 0, .int .i64 0, .int .i64 0, .int .i64 0] 66) = w6 at *
     generalize v5.heap.size = s at *
     clear HY5
     refine wpAnyH_ready (rs := [11]) (by kernel_rfl) (by simp) ?_
     refine AllReadyH.cons rfl (fun K hK => ?_) AllReadyH.nil
     obtain ⟨⟨q0, q1, q2, q3⟩, f0, f1, f2, f3⟩ := cells4 HB6.out
     go_simp
     have HX7 : Hid (Ext wr ((((w6.setCell ⟨s, 0, none⟩ (.int .i64 y.n)).setCell ⟨s, 1, none⟩ (.int .i64 y.x)).setCell ⟨s, 2, none⟩ (.int .i64 y.z)).setCell ⟨s, 3, none⟩ (.int .i64 y.p))) := ext_put4 (g := s) HX6.out hs6 _ _ _ _
     have HB7 : Hid (Blk ((((w6.setCell ⟨s, 0, none⟩ (.int .i64 y.n)).setCell ⟨s, 1, none⟩ (.int .i64 y.x)).setCell ⟨s, 2, none⟩ (.int .i64 y.z)).setCell ⟨s, 3, none⟩ (.int .i64 y.p)) s 66 #[.int .i64 y.n, .int .i64 y.x, .int .i64 y.z, .int .i64 y.p]) := HB6.out.put4 _ _ _ _
     refine hK.out _ _ (HK.out _ (HX7.out)) (fun hHeld => ?_)
     clear hK K
     (try simp only [Act.put, L1, L2, L3, L4, L5, L6])
     (refine tk 12 (v := ?_) ?_ ?_; rotate_left; · (intro w hSw; (try dsimp only at hSw); go_simp; all_goals with_reducible rfl))
     (try simp only [Act.put, L1, L2, L3, L4, L5, L6])
     (refine wpAnyH_done (by kernel_rfl) ?_ _)
     clear q0 q1 q2 q3 f0 f1 f2 f3 hHeld
     generalize ((((w6.setCell ⟨s, 0, none⟩ (.int .i64 y.n)).setCell ⟨s, 1, none⟩ (.int .i64 y.x)).setCell ⟨s, 2, none⟩ (.int .i64 y.z)).setCell ⟨s, 3, none⟩ (.int .i64 y.p)) = w7 at *
     have HD7 := Lib.hid (HD0.out.ext HX7.out)
     have HA7 := Lib.hid (HA0.out.ext HX7.out)
     clear HX6 HB6 HX7 HC HK hs6 HD0 HA0
     obtain ⟨⟨c0, c1⟩, -⟩ := blkT2 HD7.out.b
     obtain ⟨⟨y0, y1, y2, y3⟩, -⟩ := cells4 HB7.out
     go_wp2_with (at_builtin; refine DT.app (HD7.out.ext ((Ext.refl _).alloc (.cells #[.int .i64 y.n, .int .i64 y.x, .int .i64 y.z, .int .i64 y.p] 66))) rfl _ _ rfl rfl y _ rfl (rd_new _ _ _ 4 _ (by simp [Pa.cells]) (by simp [Pa.cells])) (by omega) ?_; intro A7 c7 w8 ⟨hb7, hD7, hbk⟩; have k6 : w8.cell? ⟨q, 1, none⟩ = some (.slice A' k cap) := hb7.cell 1; have f6 : w8.frozen? ⟨q, 1, none⟩ = false := hb7.frozen 1)
     have HD8 := Lib.hid hD7
     have HA8 := Lib.hid ((HA7.out.ext ((Ext.refl _).alloc (.cells #[.int .i64 y.n, .int .i64 y.x, .int .i64 y.z, .int .i64 y.p] 66))).left hbk)
     clear hb7 hD7 hbk
     go_roundw
     case rel => exact ⟨k + 1, A7, c7, by first | rfl | rw [hk1] | rw [hk2], by have := HLT.out; omega, by rw [HY.out]; exact HD8, HA8, HQ2⟩
     case measure => simp [intOf, hk2]; have := HLT.out; omega
    ·go_simp
     refine hK.out _ _ (HK.out _ (((Ext.refl wr).alloc _).drew)) (fun hHeld => ?_)
     clear hK K
     (try simp only [Act.put, L1, L2, L3, L4, L5, L6])
     refine wpAnyH_ready (rs := [6]) (by kernel_rfl) (by simp) ?_
     refine AllReadyH.cons rfl (fun K hK => ?_) AllReadyH.nil
     go_simp
     refine (HC.out _).mono ?_
     rintro e w6 ⟨rfl, hy5⟩
     have HX6 : Hid (Ext wr w6) := Ext.trans ((Ext.refl wr).alloc (.cells #[.int .i64 0, .int .i64 0, .int .i64 0, .int .i64 0] 66)).drew hy5
     have HB6 : Hid (Blk w6 wr.heap.size 66 #[.int .i64 0, .int .i64 0, .int .i64 0, .int .i64 0]) := ((Blk.new wr 66 #[.int .i64 0, .int .i64 0, .int .i64 0, .int .i64 0]).ext ((Ext.refl _).drew)).ext hy5
     have hs6 : wr.heap.size ≤ wr.heap.size := Nat.le_refl _
     clear hy5
     refine hK.out _ _ (HK.out _ (HX6.out)) (fun hHeld => ?_)
     clear hK K
     (try simp only [Act.put, L1, L2, L3, L4, L5, L6])
     (refine tk 7 (v := ?_) ?_ ?_; rotate_left; · (intro w hSw; (try dsimp only at hSw); go_simp; all_goals with_reducible rfl))
     (try simp only [Act.put, L1, L2, L3, L4, L5, L6])
     (refine tk 8 (v := ?_) ?_ ?_; rotate_left; · (intro w hSw; (try dsimp only at hSw); go_simp; all_goals with_reducible rfl))
     (try simp only [Act.put, L1, L2, L3, L4, L5, L6])
     (refine tk 9 (v := ?_) ?_ ?_; rotate_left; · (intro w hSw; (try dsimp only at hSw); go_simp; all_goals with_reducible rfl))
     (try simp only [Act.put, L1, L2, L3, L4, L5, L6])
     obtain ⟨s, hs⟩ : ∃ s, s = wr.heap.size := ⟨_, rfl⟩
     rw [← hs] at HB6 ⊢
     replace hs6 : wr.heap.size ≤ s := by rw [hs]; exact Nat.le_refl _
     clear hs
     refine wpAnyH_ready (rs := [11]) (by kernel_rfl) (by simp) ?_
     refine AllReadyH.cons rfl (fun K hK => ?_) AllReadyH.nil
     obtain ⟨⟨q0, q1, q2, q3⟩, f0, f1, f2, f3⟩ := cells4 HB6.out
     go_simp
     have HX7 : Hid (Ext wr ((((w6.setCell ⟨s, 0, none⟩ (.int .i64 y.n)).setCell ⟨s, 1, none⟩ (.int .i64 y.x)).setCell ⟨s, 2, none⟩ (.int .i64 y.z)).setCell ⟨s, 3, none⟩ (.int .i64 y.p))) := ext_put4 (g := s) HX6.out hs6 _ _ _ _
     have HB7 : Hid (Blk ((((w6.setCell ⟨s, 0, none⟩ (.int .i64 y.n)).setCell ⟨s, 1, none⟩ (.int .i64 y.x)).setCell ⟨s, 2, none⟩ (.int .i64 y.z)).setCell ⟨s, 3, none⟩ (.int .i64 y.p)) s 66 #[.int .i64 y.n, .int .i64 y.x, .int .i64 y.z, .int .i64 y.p]) := HB6.out.put4 _ _ _ _
     refine hK.out _ _ (HK.out _ (HX7.out)) (fun hHeld => ?_)
     clear hK K
     (try simp only [Act.put, L1, L2, L3, L4, L5, L6])
     (refine tk 12 (v := ?_) ?_ ?_; rotate_left; · (intro w hSw; (try dsimp only at hSw); go_simp; all_goals with_reducible rfl))
     (try simp only [Act.put, L1, L2, L3, L4, L5, L6])
     (refine wpAnyH_done (by kernel_rfl) ?_ _)
     clear q0 q1 q2 q3 f0 f1 f2 f3 hHeld
     generalize ((((w6.setCell ⟨s, 0, none⟩ (.int .i64 y.n)).setCell ⟨s, 1, none⟩ (.int .i64 y.x)).setCell ⟨s, 2, none⟩ (.int .i64 y.z)).setCell ⟨s, 3, none⟩ (.int .i64 y.p)) = w7 at *
     have HD7 := Lib.hid (HD0.out.ext HX7.out)
     have HA7 := Lib.hid (HA0.out.ext HX7.out)
     clear HX6 HB6 HX7 HC HK hs6 HD0 HA0
     obtain ⟨⟨c0, c1⟩, -⟩ := blkT2 HD7.out.b
     obtain ⟨⟨y0, y1, y2, y3⟩, -⟩ := cells4 HB7.out
     go_wp2_with (at_builtin; refine DT.app (HD7.out.ext ((Ext.refl _).alloc (.cells #[.int .i64 y.n, .int .i64 y.x, .int .i64 y.z, .int .i64 y.p] 66))) rfl _ _ rfl rfl y _ rfl (rd_new _ _ _ 4 _ (by simp [Pa.cells]) (by simp [Pa.cells])) (by omega) ?_; intro A7 c7 w8 ⟨hb7, hD7, hbk⟩; have k6 : w8.cell? ⟨q, 1, none⟩ = some (.slice A' k cap) := hb7.cell 1; have f6 : w8.frozen? ⟨q, 1, none⟩ = false := hb7.frozen 1)
     have HD8 := Lib.hid hD7
     have HA8 := Lib.hid ((HA7.out.ext ((Ext.refl _).alloc (.cells #[.int .i64 y.n, .int .i64 y.x, .int .i64 y.z, .int .i64 y.p] 66))).left hbk)
     clear hb7 hD7 hbk
     go_roundw
     case rel => exact ⟨k + 1, A7, c7, by first | rfl | rw [hk1] | rw [hk2], by have := HLT.out; omega, by rw [HY.out]; exact HD8, HA8, HQ2⟩
     case measure => simp [intOf, hk2]; have := HLT.out; omega
  ·have hkl : k = l := by omega
   have HYES : Hid (tabG n rs g = some ((rs.take k).map fun p => cj p g)) := tabG_good HV.out (by rw [HL.out, hkl]) HQ.out
   clear hkl
   obtain ⟨⟨c0, c1⟩, -⟩ := blkT2 HD0.out.b
   obtain ⟨⟨d0, d1⟩, f0, f1⟩ := blkT2 HA0.out.2.2.1
   obtain ⟨⟨t0, t1⟩, -⟩ := blkT2 HA0.out.1
   go_wp2
   have HBB : Hid (Blk (put2 wr (w.heap.size + 2) (.int .i64 n) (.slice A' k cap)) (w.heap.size + 2) 31 #[.int .i64 n, .slice A' k cap]) := HA0.out.2.2.1.put2 _ _
   refine bodyPost_ret (v := .tuple #[.agg #[.int .i64 n, .slice A' k cap], .bool true]) ?_ rfl ?_
   rotate_left
   ·exact ⟨tabResP_some HYES.out rfl (TabOutP.put (rs := []) (n := 0) HD0.out (by have := HA0.out.2.2.2; omega) _ _), ext_put2 (g := w.heap.size + 2) HD0.out.x (by omega) _ _⟩
   ·exact ret_pair rfl _ _ _ _ _ _ _ rfl rfl HBB.out Tryz.underlying31 rfl Tryz.sizeTableauR
end Go.Proofs.YtioimnplhmgbgaaGreat
