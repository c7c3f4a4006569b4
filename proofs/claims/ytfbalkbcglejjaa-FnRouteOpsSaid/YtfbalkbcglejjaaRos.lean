/-
  Helper text (no claim of its own): the routing of ops, by the program and by the reference. Printed by gen_ros.py.
-/
import Derived.Test.YtfbalkbcglejjaaRosp
namespace Go.Proofs.Ytfbalkbcglejjaa
open Go.ChangeShapes Go.WideShapes Go.ChangeAt Go.RowKit Go.Deep
set_option linter.unusedVariables false
theorem opg_ne : (43 : Nat) ≠ 45 := by decide
theorem opi_ne : (3 : Nat) ≠ 45 := by decide
theorem blk_op {w : World} {g t : Nat} {a0 a1 a2 a3 a4 a5 a6 a7 : Value} (h : Blk w g t #[a0, a1, a2, a3, a4, a5, a6, a7]) : w.cell? ⟨g, 0, none⟩ = some a0 ∧ w.cell? ⟨g, 1, none⟩ = some a1 ∧ w.cell? ⟨g, 2, none⟩ = some a2 ∧ w.cell? ⟨g, 3, none⟩ = some a3 ∧ w.cell? ⟨g, 4, none⟩ = some a4 ∧ w.cell? ⟨g, 5, none⟩ = some a5 ∧ w.cell? ⟨g, 6, none⟩ = some a6 ∧ w.cell? ⟨g, 7, none⟩ = some a7 ∧ w.frozen? ⟨g, 5, none⟩ = false :=
  ⟨h.cell 0, h.cell 1, h.cell 2, h.cell 3, h.cell 4, h.cell 5, h.cell 6, h.cell 7, h.frozen 5⟩
theorem own_setNe {w : World} {B e size n s i : Nat} {v : Value} {xs : List Value} (h : w.ownsRow B e size v n xs) (hne : ∀ g, v.ownBlock = some g → g ≠ s) (u : Value) : (w.setCell ⟨s, i, none⟩ u).ownsRow B e size v n xs := by
  refine h.kept (row := some s) ⟨rfl, rfl, rfl, by simp [World.setCell], fun k hk hne' => Below.heap_setCell w ⟨s, i, none⟩ u k (fun e => hne' (by rw [e]))⟩ ?_
  cases hv : v.ownBlock with
  | none => exact .inl rfl
  | some g => exact .inr fun e => hne g hv (by injection e)
theorem perm_loc {p : List Int} {i : Int} {n : Nat} (h : p.length = n) (h0 : 0 ≤ i) (h1 : i ≤ (n : Int) - 1) : ∃ j y, i = ((j : Nat) : Int) ∧ j < n ∧ p[j]? = some y ∧ loc p i = y := by
  obtain ⟨j, rfl⟩ := Int.eq_ofNat_of_zero_le h0
  have hj : j < p.length := by omega
  refine ⟨j, p[j], rfl, by omega, List.getElem?_eq_getElem hj, ?_⟩
  unfold loc
  exact getD_of (by simp)
theorem RosE.none1 {w W : World} {r : Option (List Oq × List Int)} {v1 : Value} (hr : r = none) (ho : W.ownsRow w.heap.size 45 8 v1 0 (ocells [])) (hx : Ext w W) : RosE w r (.returned (.tuple #[v1, .slice (some ⟨W.heap.size, 0, none⟩) 0 0, .bool false])) (W.alloc (.cells #[] 3)) :=
  RosE.no (b1 := W.heap.size) hr (ho.alloc _) (fun g hg => (ho.lt g hg).2) ⟨hx.size, by simp⟩ (own_lit (Ext.refl _) _ _ 1 0 #[] _ rfl rfl rfl (by omega)) (hx.alloc _)
theorem RosE.none2 {w W : World} {r : Option (List Oq × List Int)} (hr : r = none) (hx : Ext w W) : RosE w r (.returned (.tuple #[.slice (some ⟨W.heap.size, 0, none⟩) 0 0, .slice (some ⟨W.heap.size + 1, 0, none⟩) 0 0, .bool false])) ((W.alloc (.cells #[] 45)).alloc (.cells #[] 3)) := by
  have h := RosE.none1 (W := W.alloc (.cells #[] 45)) (v1 := .slice (some ⟨W.heap.size, 0, none⟩) 0 0) hr (own_lit hx _ _ 8 0 #[] _ rfl rfl rfl (by omega)) (hx.alloc _)
  simpa using h
/-- What holds while the gates in place of one gate are put out. -/
def RosI (w Wb : World) (s : Nat) (cs : Array Value) (Ao : Option Addr) (m co : Nat) (out : List Oq) (Ag : Option Addr) (ml cg : Nat) (gs : List Gt) (Al : Option Addr) (np cl : Nat) (q : List Int) : Prop :=
  Blk w s 45 cs ∧ w.ownsRow Wb.heap.size 45 8 (.slice Ao m co) m (ocells out) ∧ (∀ g, (Value.slice Ao m co).ownBlock = some g → g ≠ s) ∧ w.ownsRow Wb.heap.size 43 4 (.slice Ag ml cg) ml (gcells gs) ∧ w.ownsRow Wb.heap.size 3 1 (.slice Al np cl) np (icells q) ∧ Ext Wb w
section
variable {w w' Wb : World} {s : Nat} {cs : Array Value} {Ao : Option Addr} {m co : Nat} {out : List Oq} {Ag : Option Addr} {ml cg : Nat} {gs : List Gt} {Al : Option Addr} {np cl : Nat} {q : List Int}
theorem RosI.ext (h : RosI w Wb s cs Ao m co out Ag ml cg gs Al np cl q) (hx : Ext w w') : RosI w' Wb s cs Ao m co out Ag ml cg gs Al np cl q :=
  ⟨h.1.ext hx, own_ext h.2.1 hx, h.2.2.1, own_ext h.2.2.2.1 hx, own_ext h.2.2.2.2.1 hx, h.2.2.2.2.2.trans hx⟩
theorem RosI.app (h : RosI w Wb s cs Ao m co out Ag ml cg gs Al np cl q) {v' : Value} {m' : Nat} {out' : List Oq} {W : Nat} (ho : w'.ownsRow Wb.heap.size 45 8 v' m' (ocells out')) (hg : w.grownBy w' (Value.slice Ao m co).ownBlock) (hb : v'.ownBlock = (Value.slice Ao m co).ownBlock ∨ v'.ownBlock = some W) (hW : s < W) :
    ∃ A' c', v' = .slice A' m' c' ∧ RosI w' Wb s cs A' m' c' out' Ag ml cg gs Al np cl q := by
  obtain ⟨A', c', rfl, _⟩ := own_slice ho
  refine ⟨A', c', rfl, h.1.grown hg (fun k hk e => h.2.2.1 k hk e.symm), ho, fun g hg' => ?_, own_other h.2.2.2.1 h.2.1 opg_ne hg, own_other h.2.2.2.2.1 h.2.1 opi_ne hg, h.2.2.2.2.2.grown hg (fun k hk => (h.2.1.lt k hk).1)⟩
  rcases hb with hb | hb
  · exact h.2.2.1 g (hb ▸ hg')
  · rw [hb] at hg'
    injection hg' with hg'
    omega
end

set_option maxRecDepth 100000 in
set_option maxHeartbeats 16000000 in
theorem impl_RouteOps_any (A : Option Addr) (n c : Nat) (xs : List Oq) (v : Value) (x : Gr) (Ap : Option Addr) (np cp : Nat) (p : List Int) (mode : Int) (w : World) (h : Rd w w.heap.size 8 A n (ocells xs)) (hn : n ≤ 1048576) (hv : GrAt w w.heap.size v x) (hl : x.es.length ≤ 100000000) (hok : ∀ e ∈ x.es, e.ok) (hp : Rd w w.heap.size 1 Ap np (icells p)) (hnp : np ≤ 100000000) (hcp : np ≤ cp) :
    Calls Try.prog 13 #[.slice A n c, v, .slice Ap np cp, .int .i64 mode] w (RosE w (rosR x xs p mode)) := by
  have hlen := Lib.hid (h.len Oq.cells_len (by omega))
  have hlp := Lib.hid (hp.len icell_len (by omega))
  obtain ⟨A1, c1, rfl, h1⟩ := hv
  have HG : Hid (∀ w', Ext w w' → GrAt w' w'.heap.size (.agg #[.int .i64 x.n, .slice A1 x.es.length c1]) x) := fun w' hx => ⟨A1, c1, rfl, h1.ext hx⟩
  have HOK := Lib.hid hok
  clear hok
  clear h1
  have hB0 : Blk (w.alloc (.cells #[.int .i64 x.n, .slice A1 x.es.length c1] 27)) w.heap.size 27 #[.int .i64 x.n, .slice A1 x.es.length c1] := Blk.new _ _ _
  have hX0 : Ext w (w.alloc (.cells #[.int .i64 x.n, .slice A1 x.es.length c1] 27)) := by repeat (first | exact Ext.refl _ | assumption | refine Ext.alloc ?_ _ | refine Ext.drewN ?_ _ | refine Ext.drew ?_)
  have HB0 := Lib.hid hB0
  have HX0 := Lib.hid hX0
  clear hB0 hX0
  go_enter Try.func13, Try.ntmps13
  go_upto_region 1 with (fail)
  have hB0 := HB0.out
  have hX0 := HX0.out
  clear HB0 HX0
  generalize (w.alloc (.cells #[.int .i64 x.n, .slice A1 x.es.length c1] 27)) = Wb at *
  have hE : Ext Wb Wb := Ext.refl _
  have d0 : Wb.cell? ⟨w.heap.size, 0, none⟩ = some (.int .i64 x.n) := hB0.cell 0
  have d1 : Wb.cell? ⟨w.heap.size, 1, none⟩ = some (.slice A1 x.es.length c1) := hB0.cell 1
  go_wp2_with fail
  refine (impl_isLayout_any _ x Ap np cp p _ (HG.out _ hX0) hl HOK.out (hp.ext hX0) hnp).mono ?_
  rintro e w1 ⟨rfl, hx1⟩
  clear d0 d1 hE
  cases hlay : lay x p
  · have HR := Lib.hid (rosR_no (x := x) (xs := xs) (p := p) (mode := mode) (by rw [hlay]; rfl))
    clear hlay
    go_wp2
    go_ret3
    exact RosE.no (b1 := w.heap.size) HR.out (World.ownsRow_nil _ _ _ _) (fun g hg => by cases hg) ⟨Nat.le_refl _, (hX0.trans hx1).size⟩ (World.ownsRow_nil _ _ _ _) (hX0.trans hx1)
  obtain ⟨hxn, hn4, hpp⟩ := lay_n hlay
  have HLAY := Lib.hid hlay
  have HPP := Lib.hid hpp
  have HXN := Lib.hid (hxn.trans (by rw [hlp.out]))
  have hp4 : np ≤ 4 := by have := hlp.out; omega
  have hp1 : 1 ≤ np := by have := (perm_le hpp).1; have := hlp.out; omega
  clear hlay hpp hxn hn4
  cases hmd : (mode == 0 || mode == 1)
  · have HR := Lib.hid (rosR_no (x := x) (xs := xs) (p := p) (mode := mode) (by rw [hmd]; simp))
    have hm0 : (mode != 0) = true := by cases hq : (mode == 0) with | false => simp [bne, hq] | true => (rw [hq] at hmd; cases hmd)
    have hm1 : (mode != 1) = true := by cases hq : (mode == 1) with | false => simp [bne, hq] | true => (rw [hq, Bool.or_true] at hmd; cases hmd)
    clear hmd
    go_wp2
    go_ret3
    exact RosE.no (b1 := w.heap.size) HR.out (World.ownsRow_nil _ _ _ _) (fun g hg => by cases hg) ⟨Nat.le_refl _, (hX0.trans hx1).size⟩ (World.ownsRow_nil _ _ _ _) (hX0.trans hx1)
  have HR := Lib.hid (rosR_yes (xs := xs) HLAY.out hmd)
  have HMD := Lib.hid hmd
  clear hmd
  cases hm0 : (mode == 0)
  case' false => (have hm0' : (mode != 0) = true := by simp [bne, hm0]); (have hm1' : (mode != 1) = false := by (have hmd := HMD.out; rw [hm0, Bool.false_or] at hmd; simp [bne, hmd]))
  case' true => (have hm0' : (mode != 0) = false := by simp [bne, hm0])
  all_goals
    go_wp2_with (at_builtin; refine appIntS (w0 := Wb) rfl _ _ rfl _ 0 [] rfl (own_lit hx1 _ _ 1 0 #[] _ (by simp) rfl rfl (by omega)) (hx1.alloc _) Ap np cp p rfl ((hp.ext (hX0.trans hx1)).ext ((Ext.refl _).alloc _)) (by omega) ?_; intro v2 w2 ho2 hx2 hg2 hb2)
    simp only [Nat.zero_add, List.nil_append] at ho2
    obtain ⟨A2, c2, rfl, _⟩ := own_slice ho2
    have HO2 := Lib.hid (ho2.alloc (.cells #[] 45))
    have HX2 := Lib.hid (hx2.alloc (.cells #[] 45))
    have HOO : Hid ((w2.alloc (.cells #[] 45)).ownsRow Wb.heap.size 45 8 (.slice (some ⟨w2.heap.size, 0, none⟩) 0 0) 0 (ocells [])) := own_lit hx2 _ _ 8 0 #[] _ rfl rfl rfl (by omega)
    clear ho2 hx2 hg2 hb2
    have HMZ := Lib.hid hm0'
    clear hm0 hm0'
    go_loopw [11, 12, 39] (fun vl vo i wr => ∃ (k : Nat) (now : List Int) (out : List Oq) (Al : Option Addr) (cl : Nat) (Ao : Option Addr) (m co : Nat), k ≤ n ∧ i = .int .i64 k ∧ vl = .slice Al np cl ∧ vo = .slice Ao m co ∧ Hid (out.length = m) ∧ m ≤ 10 * k ∧ Hid (perm now = true ∧ now.length = np) ∧ Hid (ropS x mode xs p = ropK x mode xs k out now) ∧ wr.ownsRow Wb.heap.size 45 8 (.slice Ao m co) m (ocells out) ∧ wr.ownsRow Wb.heap.size 3 1 (.slice Al np cl) np (icells now) ∧ Ext Wb wr) (fun vl vo i _ => n - (intOf i).toNat)
    case atStart => exact ⟨0, p, [], _, _, _, 0, _, Nat.zero_le _, rfl, rfl, rfl, rfl, Nat.zero_le _, ⟨HPP.out, hlp.out⟩, (ropK_0 x mode xs p).symm, HOO.out, HO2.out, HX2.out⟩
    case round =>
      clear HOO HO2 HX2
      obtain ⟨k, now, out, Al, cl, Ao, m, co, hk, rfl, rfl, rfl, HM, hmk, HP, HQ, ho, hlay, hx⟩ := hrel
      by_cases hlt : k < n
      · obtain ⟨b, o, y, rfl, hb, hy, r0, r1, r2, r3, r4, r5, r6, r7⟩ := op_at (h.ext (hX0.trans hx)) hlt
        have HY := Lib.hid hy
        clear hy
        go_upto_region 8 with (fail)
        have hs1 : Blk (wr.alloc (.cells #[.int .i64 y.k, .int .i64 y.g.k, .int .i64 y.g.a, .int .i64 y.g.b, .int .i64 y.g.c, .int .i64 y.q, .int .i64 y.bit, .int .i64 y.cond] 45)) wr.heap.size 45 #[.int .i64 y.k, .int .i64 y.g.k, .int .i64 y.g.a, .int .i64 y.g.b, .int .i64 y.g.c, .int .i64 y.q, .int .i64 y.bit, .int .i64 y.cond] := Blk.new _ _ _
        have ho1 := ho.alloc (.cells #[.int .i64 y.k, .int .i64 y.g.k, .int .i64 y.g.a, .int .i64 y.g.b, .int .i64 y.g.c, .int .i64 y.q, .int .i64 y.bit, .int .i64 y.cond] 45)
        have hlay1 := hlay.alloc (.cells #[.int .i64 y.k, .int .i64 y.g.k, .int .i64 y.g.a, .int .i64 y.g.b, .int .i64 y.g.c, .int .i64 y.q, .int .i64 y.bit, .int .i64 y.cond] 45)
        have hx1 : Ext Wb (wr.alloc (.cells #[.int .i64 y.k, .int .i64 y.g.k, .int .i64 y.g.a, .int .i64 y.g.b, .int .i64 y.g.c, .int .i64 y.q, .int .i64 y.bit, .int .i64 y.cond] 45)) := hx.alloc _
        have hne1 : ∀ g, (Value.slice Ao m co).ownBlock = some g → g ≠ wr.heap.size := fun g hg => by have := (ho.lt g hg).2; omega
        have hne2 : ∀ g, (Value.slice Al np cl).ownBlock = some g → g ≠ wr.heap.size := fun g hg => by have := (hlay.lt g hg).2; omega
        have hsB : Wb.heap.size ≤ wr.heap.size := hx.size
        clear r0 r1 r2 r3 r4 r5 r6 r7 ho hlay hx
        generalize (wr.alloc (.cells #[.int .i64 y.k, .int .i64 y.g.k, .int .i64 y.g.a, .int .i64 y.g.b, .int .i64 y.g.c, .int .i64 y.q, .int .i64 y.bit, .int .i64 y.cond] 45)) = W1 at *
        generalize wr.heap.size = s at *
        have HNE1 := Lib.hid hne1
        have HNE2 := Lib.hid hne2
        clear hne1 hne2
        obtain ⟨k0, k1, k2, k3, k4, k5, k6, k7, f5⟩ := blk_op hs1
        cases h1 : (y.k == 1)
        case true =>
          have d0 : W1.cell? ⟨w.heap.size, 0, none⟩ = some (.int .i64 x.n) := (hB0.ext hx1).cell 0
          have d1 : W1.cell? ⟨w.heap.size, 1, none⟩ = some (.slice A1 x.es.length c1) := (hB0.ext hx1).cell 1
          go_wp2_with fail
          refine (impl_rop_any y.g _ x Al np cl now mode _ (HG.out _ (hX0.trans hx1)) hl HOK.out (Rd.own hlay1) (by omega) (own_le hlay1)).mono ?_
          rintro e w2 ⟨v2, vq, rfl, hy2, hyes⟩
          have HYES := Lib.hid hyes
          clear hyes d0 d1 k0 k1 k2 k3 k4 k5 k6 k7 f5
          cases hm : may y.g x now
          · have HN := Lib.hid (HR.out.trans (HQ.out.trans (ropK_gate_no HY.out h1 hm)))
            clear hm
            go_wp2
            go_ret3
            exact RosE.no (b1 := w.heap.size) HN.out (World.ownsRow_nil _ _ _ _) (fun g hg => by cases hg) ⟨Nat.le_refl _, ((hX0.trans hx1).trans hy2).size⟩ (World.ownsRow_nil _ _ _ _) ((hX0.trans hx1).trans hy2)
          obtain ⟨A2, n2, c2, rfl, hn2, hc2, ho2, hq2⟩ := HYES.out hm
          have hw := rop_way (x := x) (mode := mode) (g := y.g) HP.out.1
          obtain rfl : n2 = np := by rw [hn2, hw.2]; exact HP.out.2
          have HK := Lib.hid (ropK_gate (mode := mode) (out := out) HY.out h1 hm)
          have hrl := rop_len x mode y.g now
          have hlay2 : w2.ownsRow Wb.heap.size 3 1 (.slice A2 n2 c2) n2 (icells (rop x mode y.g now).2) := by
            rcases hq2 with hq2 | ⟨e1, e2⟩
            · exact own_base hq2 hx1.size
            · rw [e1, e2]; exact own_ext hlay1 hy2
          have HW : Hid (perm (rop x mode y.g now).2 = true ∧ (rop x mode y.g now).2.length = n2) := ⟨hw.1, hw.2.trans HP.out.2⟩
          replace ho2 := own_base ho2 hx1.size
          clear hm hw hq2 hn2 HYES
          generalize (rop x mode y.g now).1 = gs at *
          generalize (rop x mode y.g now).2 = q at *
          obtain ⟨ml, hml⟩ : ∃ ml, ml = gs.length := ⟨_, rfl⟩
          have HML := Lib.hid hml
          rw [← hml] at ho2 hrl
          clear hml
          obtain ⟨Ag, cg, rfl, _⟩ := own_slice ho2
          have HI : Hid (RosI w2 Wb s #[.int .i64 y.k, .int .i64 y.g.k, .int .i64 y.g.a, .int .i64 y.g.b, .int .i64 y.g.c, .int .i64 y.q, .int .i64 y.bit, .int .i64 y.cond] Ao m co out Ag ml cg gs A2 n2 c2 q) := ⟨hs1.ext hy2, own_ext ho1 hy2, HNE1.out, ho2, hlay2, hx1.trans hy2⟩
          clear ho1 ho2 hlay1 hlay2 hs1 hx1 hy2
          go_wp2
          go_loopw [12, 62] (fun vo i wr => ∃ (r : Nat) (out' : List Oq) (Ao' : Option Addr) (co' : Nat), r ≤ ml ∧ i = .int .i64 r ∧ vo = .slice Ao' (m + r) co' ∧ Hid (out' = out ++ (gs.take r).map (opW y.cond)) ∧ RosI wr Wb s #[.int .i64 y.k, .int .i64 y.g.k, .int .i64 y.g.a, .int .i64 y.g.b, .int .i64 y.g.c, .int .i64 y.q, .int .i64 y.bit, .int .i64 y.cond] Ao' (m + r) co' out' Ag ml cg gs A2 n2 c2 q) (fun vo i _ => ml - (intOf i).toNat)
          case atStart => exact ⟨0, out, Ao, co, Nat.zero_le _, rfl, rfl, by simp [Hid], HI.out⟩
          case round =>
            clear HI
            obtain ⟨r, out', Ao', co', hr, rfl, rfl, HO, hI⟩ := hrel
            by_cases hltr : r < ml
            · obtain ⟨bg, og, g, rfl, hbg, hg, r0, r1, r2, r3⟩ := gate_at (Rd.own hI.2.2.2.1) hltr
              have HGS := Lib.hid (map_snoc (opW y.cond) hg)
              clear hg
              obtain ⟨k0, k1, k2, k3, k4, k5, k6, k7, f5⟩ := blk_op hI.1
              have hsl := hI.1.lt
              cases h11 : (g.k == 11)
              case false =>
                have HOP := Lib.hid (opW_n (c := y.cond) h11)
                have hI2 : RosI ((wr.alloc (.cells #[.int .i64 g.k, .int .i64 g.a, .int .i64 g.b, .int .i64 g.c] 43)).alloc (.cells #[.int .i64 g.k, .int .i64 g.a, .int .i64 g.b, .int .i64 g.c] 43)) Wb s #[.int .i64 y.k, .int .i64 y.g.k, .int .i64 y.g.a, .int .i64 y.g.b, .int .i64 y.g.c, .int .i64 y.q, .int .i64 y.bit, .int .i64 y.cond] Ao' (m + r) co' out' (some ⟨bg, og, none⟩) ml cg gs A2 n2 c2 q := hI.ext (by repeat (first | exact Ext.refl _ | assumption | refine Ext.alloc ?_ _ | refine Ext.drewN ?_ _ | refine Ext.drew ?_))
                have hrow := rd_newN (wr.alloc (.cells #[.int .i64 g.k, .int .i64 g.a, .int .i64 g.b, .int .i64 g.c] 43)) #[.int .i64 g.k, .int .i64 g.a, .int .i64 g.b, .int .i64 g.c] (wr.heap.size + 1) 43 1 4 (gcells [g]) (by simp) rfl rfl
                go_wp2_with fail
                refine (impl_GateOps_any _ 1 1 [g] y.cond _ hrow (by omega)).mono ?_
                rintro e w4 ⟨v4, rfl, ho4, hy4⟩
                have hI4 := hI2.ext hy4
                have ho4' : w4.ownsRow ((wr.alloc (.cells #[.int .i64 g.k, .int .i64 g.a, .int .i64 g.b, .int .i64 g.c] 43)).alloc (.cells #[.int .i64 g.k, .int .i64 g.a, .int .i64 g.b, .int .i64 g.c] 43)).heap.size 45 8 v4 1 (ocells [opW y.cond g]) := by rw [HOP.out]; exact ho4
                obtain ⟨A4, c4, rfl, hr4⟩ := own_slice ho4'
                have hz4 := hI4.1.lt
                clear ho4 ho4' hI2 hrow k0 k1 k2 k3 k4 k5 k6 k7 f5 r0 r1 r2 r3 hsl
                go_wp2_with (at_builtin; refine appOpS (w0 := Wb) rfl _ _ rfl (.slice Ao' (m + r) co') (m + r) out' rfl hI4.2.1 hI4.2.2.2.2.2 A4 1 c4 [opW y.cond g] rfl hr4 (by omega) ?_; intro v5 w5 ho5 hx5 hg5 hb5)
                obtain ⟨A5, c5, rfl, hI5⟩ := hI4.app ho5 hg5 hb5 hz4
                go_roundw
                case rel => exact ⟨r + 1, out' ++ [opW y.cond g], A5, c5, by omega, by go_num, rfl, by unfold Hid; rw [HGS.out, HO.out, List.append_assoc], hI5⟩
                case measure => simp [intOf]; omega
              case true =>
                have HOP := Lib.hid (opW_s (c := y.cond) h11)
                have hI2 : RosI ((wr.alloc (.cells #[.int .i64 g.k, .int .i64 g.a, .int .i64 g.b, .int .i64 g.c] 43)).alloc (.cells #[.int .i64 g.k, .int .i64 g.a, .int .i64 g.b, .int .i64 g.c] 43)) Wb s #[.int .i64 y.k, .int .i64 y.g.k, .int .i64 y.g.a, .int .i64 y.g.b, .int .i64 y.g.c, .int .i64 y.q, .int .i64 y.bit, .int .i64 y.cond] Ao' (m + r) co' out' (some ⟨bg, og, none⟩) ml cg gs A2 n2 c2 q := hI.ext (by repeat (first | exact Ext.refl _ | assumption | refine Ext.alloc ?_ _ | refine Ext.drewN ?_ _ | refine Ext.drew ?_))
                have hrow := rd_newN (wr.alloc (.cells #[.int .i64 g.k, .int .i64 g.a, .int .i64 g.b, .int .i64 g.c] 43)) #[.int .i64 g.k, .int .i64 g.a, .int .i64 g.b, .int .i64 g.c] (wr.heap.size + 1) 43 1 4 (gcells [g]) (by simp) rfl rfl
                go_wp2_with fail
                refine (impl_GateOps_any _ 1 1 [g] 0 _ hrow (by omega)).mono ?_
                rintro e w4 ⟨v4, rfl, ho4, hy4⟩
                have hI4 := hI2.ext hy4
                have ho4' : w4.ownsRow ((wr.alloc (.cells #[.int .i64 g.k, .int .i64 g.a, .int .i64 g.b, .int .i64 g.c] 43)).alloc (.cells #[.int .i64 g.k, .int .i64 g.a, .int .i64 g.b, .int .i64 g.c] 43)).heap.size 45 8 v4 1 (ocells [opW y.cond g]) := by rw [HOP.out]; exact ho4
                obtain ⟨A4, c4, rfl, hr4⟩ := own_slice ho4'
                have hz4 := hI4.1.lt
                clear ho4 ho4' hI2 hrow k0 k1 k2 k3 k4 k5 k6 k7 f5 r0 r1 r2 r3 hsl
                go_wp2_with (at_builtin; refine appOpS (w0 := Wb) rfl _ _ rfl (.slice Ao' (m + r) co') (m + r) out' rfl hI4.2.1 hI4.2.2.2.2.2 A4 1 c4 [opW y.cond g] rfl hr4 (by omega) ?_; intro v5 w5 ho5 hx5 hg5 hb5)
                obtain ⟨A5, c5, rfl, hI5⟩ := hI4.app ho5 hg5 hb5 hz4
                go_roundw
                case rel => exact ⟨r + 1, out' ++ [opW y.cond g], A5, c5, by omega, by go_num, rfl, by unfold Hid; rw [HGS.out, HO.out, List.append_assoc], hI5⟩
                case measure => simp [intOf]; omega
            · obtain rfl : r = ml := by omega
              have HO2 : Hid (out' = out ++ gs.map (opW y.cond)) := by rw [HO.out, List.take_of_length_le (by rw [← HML.out]; omega)]; exact rfl
              go_wp2
              go_roundw
              case rel => exact ⟨k + 1, q, out', A2, c2, Ao', m + r, co', by omega, by go_num, rfl, rfl, by unfold Hid; rw [HO2.out, List.length_append, List.length_map, HM.out, ← HML.out], by omega, HW.out, by unfold Hid; rw [HQ.out, HK.out, HO2.out], hI.2.1, hI.2.2.2.2.1, hI.2.2.2.2.2⟩
              case measure => simp [intOf]; omega
        cases h2 : (y.k == 2)
        case false =>
          have HK := Lib.hid (ropK_other (mode := mode) (x := x) (out := out) (now := now) HY.out h1 h2)
          go_wp2
          go_roundw
          case rel => exact ⟨k + 1, now, out, Al, cl, Ao, m, co, by omega, by go_num, rfl, rfl, HM.out, by omega, HP.out, by unfold Hid; rw [HQ.out, HK.out], ho1, hlay1, hx1⟩
          case measure => simp [intOf]; omega
        have d0 : W1.cell? ⟨w.heap.size, 0, none⟩ = some (.int .i64 (np : Int)) := by rw [← HXN.out]; exact (hB0.ext hx1).cell 0
        by_cases hq : 0 ≤ y.q ∧ y.q ≤ (np : Int) - 1
        case neg =>
          have HN := Lib.hid (HR.out.trans (HQ.out.trans (ropK_meas_no (mode := mode) (x := x) (out := out) (now := now) HY.out h1 h2 (by rw [HXN.out]; exact hq))))
          have HB : Hid (y.q < 0 ∨ (np : Int) - 1 < y.q) := by unfold Hid; omega
          clear hq
          go_wp2_with fail
          refine (in_no _ _ _ _ HB.out).mono ?_
          rintro e w2 ⟨rfl, rfl⟩
          go_wp2
          go_ret3
          exact RosE.no (b1 := w.heap.size) HN.out (World.ownsRow_nil _ _ _ _) (fun g hg => by cases hg) ⟨Nat.le_refl _, (hX0.trans hx1).size⟩ (World.ownsRow_nil _ _ _ _) (hX0.trans hx1)
        have HK := Lib.hid (ropK_meas (mode := mode) (x := x) (out := out) (now := now) HY.out h1 h2 (by rw [HXN.out]; exact hq))
        obtain ⟨j, z, hj, hjn, hz, hlo⟩ := perm_loc HP.out.2 hq.1 hq.2
        have HMV : Hid (moved now y = ⟨y.k, y.g, z, y.bit, y.cond⟩) := by unfold Hid moved; rw [hlo]
        obtain ⟨bl, ol, z', rfl, hbl, hz', q0⟩ := int_at (Rd.own hlay1) hjn
        have hzz : z' = z := by rw [hz] at hz'; injection hz' with hz'; exact hz'.symm
        subst hzz
        rw [hj] at k5
        have hq1 : (0 : Int) ≤ (j : Int) := by omega
        have hq2 : (j : Int) ≤ (np : Int) - 1 := by omega
        have hq3 : (j : Int) < (np : Int) := by omega
        clear hz hz' hlo hq hj
        go_wp2_with fail
        refine (in_yes _ _ _ _ hq1 hq2).mono ?_
        rintro e w2 ⟨rfl, rfl⟩
        go_upto_region 26 with (fail)
        have hs2 : Blk (W1.setCell ⟨s, 5, none⟩ (.int .i64 z')) s 45 #[.int .i64 y.k, .int .i64 y.g.k, .int .i64 y.g.a, .int .i64 y.g.b, .int .i64 y.g.c, .int .i64 z', .int .i64 y.bit, .int .i64 y.cond] := hs1.set_ 5 _
        have ho2 := own_setNe (i := 5) ho1 HNE1.out (.int .i64 z')
        have hlay2 := own_setNe (i := 5) hlay1 HNE2.out (.int .i64 z')
        have hx2 : Ext Wb (W1.setCell ⟨s, 5, none⟩ (.int .i64 z')) := hx1.setCell (p := ⟨s, 5, none⟩) hsB _
        clear hs1 ho1 hlay1 hx1 k0 k1 k2 k3 k4 k5 k6 k7 f5 d0 q0
        generalize (W1.setCell ⟨s, 5, none⟩ (.int .i64 z')) = W2 at *
        obtain ⟨k0, k1, k2, k3, k4, k5, k6, k7, f5⟩ := blk_op hs2
        go_wp2_with (at_builtin; refine appOp (w0 := Wb) rfl _ _ rfl (.slice Ao m co) m out rfl ho2 hx2 ⟨y.k, y.g, z', y.bit, y.cond⟩ _ _ rfl (by simp) (by omega) ?_; intro v5 w5 ho5 hx5 hg5 hb5)
        have hl5 := own_other (hlay2.alloc _) (ho2.alloc _) opi_ne hg5
        obtain ⟨A5, c5, rfl, _⟩ := own_slice ho5
        go_roundw
        case rel => exact ⟨k + 1, now, out ++ [⟨y.k, y.g, z', y.bit, y.cond⟩], some ⟨bl, ol, none⟩, cl, A5, m + 1, c5, by omega, by go_num, rfl, rfl, by unfold Hid; rw [List.length_append, HM.out]; rfl, by omega, HP.out, by unfold Hid; rw [HQ.out, HK.out, HMV.out], ho5, hl5, hx5⟩
        case measure => simp [intOf]; omega
      · have hkn : xs.length ≤ k := by rw [hlen.out]; omega
        have HN := Lib.hid (HR.out.trans (HQ.out.trans (ropK_end (mode := mode) (x := x) (out := out) (now := now) hkn)))
        clear hkn
        have hb1 := ho.lt
        have HB1 := Lib.hid hb1
        clear hb1
        go_wp2_with (at_builtin; refine appIntS (w0 := wr) rfl _ _ rfl (.slice (some ⟨wr.heap.size, 0, none⟩) 0 0) 0 [] rfl (own_lit (Ext.refl _) _ _ 1 0 #[] _ (by simp) rfl rfl (by omega)) ((Ext.refl _).alloc _) Al np cl now rfl ((Rd.own hlay).ext ((Ext.refl _).alloc _)) (by omega) ?_; intro v6 w6 ho6 hx6 hg6 hb6)
        simp only [Nat.zero_add, List.nil_append] at ho6
        go_ret3
        exact RosE.yes (b1 := wr.heap.size) HN.out HM.out HP.out.2 (own_ext (own_base ho hX0.size) hx6) (fun g hg => (HB1.out g hg).2) ⟨(hX0.trans hx).size, hx6.size⟩ ho6 ((hX0.trans hx).trans hx6)

set_option maxRecDepth 100000 in
set_option maxHeartbeats 16000000 in
theorem spec_RouteOps_any (A : Option Addr) (n c : Nat) (xs : List Oq) (v : Value) (x : Gr) (Ap : Option Addr) (np cp : Nat) (p : List Int) (mode : Int) (w : World) (h : Rd w w.heap.size 8 A n (ocells xs)) (hn : n ≤ 1048576) (hv : GrAt w w.heap.size v x) (hl : x.es.length ≤ 100000000) (hp : Rd w w.heap.size 1 Ap np (icells p)) (hnp : np ≤ 100000000) (hcp : np ≤ cp) :
    Calls Try.prog 14 #[.slice A n c, v, .slice Ap np cp, .int .i64 mode] w (RosE w (rosR x xs p mode)) := by
  have hlen := Lib.hid (h.len Oq.cells_len (by omega))
  have hlp := Lib.hid (hp.len icell_len (by omega))
  obtain ⟨A1, c1, rfl, h1⟩ := hv
  have HG : Hid (∀ w', Ext w w' → GrAt w' w'.heap.size (.agg #[.int .i64 x.n, .slice A1 x.es.length c1]) x) := fun w' hx => ⟨A1, c1, rfl, h1.ext hx⟩
  clear h1
  have hB0 : Blk (w.alloc (.cells #[.int .i64 x.n, .slice A1 x.es.length c1] 27)) w.heap.size 27 #[.int .i64 x.n, .slice A1 x.es.length c1] := Blk.new _ _ _
  have hX0 : Ext w (w.alloc (.cells #[.int .i64 x.n, .slice A1 x.es.length c1] 27)) := by repeat (first | exact Ext.refl _ | assumption | refine Ext.alloc ?_ _ | refine Ext.drewN ?_ _ | refine Ext.drew ?_)
  have HB0 := Lib.hid hB0
  have HX0 := Lib.hid hX0
  clear hB0 hX0
  go_enter Try.func14, Try.ntmps14
  go_upto_region 1 with (fail)
  have hB0 := HB0.out
  have hX0 := HX0.out
  clear HB0 HX0
  generalize (w.alloc (.cells #[.int .i64 x.n, .slice A1 x.es.length c1] 27)) = Wb at *
  have hE : Ext Wb Wb := Ext.refl _
  go_upto_region 2 with (fail)
  have hoo : (Wb.alloc (.cells #[] 45)).ownsRow Wb.heap.size 45 8 (.slice (some ⟨Wb.heap.size, 0, none⟩) 0 0) 0 (ocells []) := own_lit (Ext.refl _) _ _ 8 0 #[] _ rfl rfl rfl (by omega)
  have hxo : Ext Wb (Wb.alloc (.cells #[] 45)) := (Ext.refl _).alloc _
  generalize (Wb.alloc (.cells #[] 45)) = Wo at *
  go_upto_region 3 with (at_builtin; refine appIntS (w0 := Wo) rfl _ _ rfl (.slice (some ⟨Wo.heap.size, 0, none⟩) 0 0) 0 [] rfl (own_lit (Ext.refl _) _ _ 1 0 #[] _ (by simp) rfl rfl (by omega)) ((Ext.refl _).alloc _) Ap np cp p rfl ((hp.ext (hX0.trans hxo)).ext ((Ext.refl _).alloc _)) (by omega) ?_; intro v2 w2 ho2 hx2 hg2 hb2)
  simp only [Nat.zero_add, List.nil_append] at ho2
  clear hg2 hb2 hE
  obtain ⟨A2, c2, rfl, _⟩ := own_slice ho2
  replace hoo := own_ext hoo hx2
  replace ho2 := own_base ho2 hxo.size
  have hxx : Ext Wb w2 := hxo.trans hx2
  clear hxo hx2
  have d0 : w2.cell? ⟨w.heap.size, 0, none⟩ = some (.int .i64 x.n) := (hB0.ext hxx).cell 0
  have d1 : w2.cell? ⟨w.heap.size, 1, none⟩ = some (.slice A1 x.es.length c1) := (hB0.ext hxx).cell 1
  go_wp2_with fail
  refine (spec_IsValidGraph_any _ x _ (HG.out _ (hX0.trans hxx)) hl).mono ?_
  rintro e w3 ⟨rfl, hx3⟩
  clear d0 d1
  cases hvg : vgraph x
  · have HR := Lib.hid (rosR_no (x := x) (xs := xs) (p := p) (mode := mode) (by rw [lay_v hvg]; rfl))
    clear hvg
    go_wp2
    go_ret3
    exact RosE.none1 HR.out (own_base (own_ext hoo hx3) hX0.size) (hX0.trans (hxx.trans hx3))
  go_wp2_with fail
  refine (spec_IsPermutation_any Ap np cp p _ (hp.ext ((hX0.trans hxx).trans hx3)) hnp hcp).mono ?_
  rintro e w4 ⟨rfl, hx4⟩
  replace hx4 := hx3.trans hx4
  clear hx3
  cases hpp : perm p
  · have HR := Lib.hid (rosR_no (x := x) (xs := xs) (p := p) (mode := mode) (by rw [lay_p hpp]; rfl))
    clear hpp
    go_wp2
    go_ret3
    exact RosE.none1 HR.out (own_base (own_ext hoo hx4) hX0.size) (hX0.trans (hxx.trans hx4))
  have HLE := Lib.hid (lay_e hvg hpp)
  have HPP := Lib.hid hpp
  clear hvg hpp
  have d0 : w4.cell? ⟨w.heap.size, 0, none⟩ = some (.int .i64 x.n) := (hB0.ext (hxx.trans hx4)).cell 0
  cases hne : ((np : Int) == x.n)
  · have hne' : ((np : Int) != x.n) = true := by simp [bne, hne]
    have HR := Lib.hid (rosR_no (x := x) (xs := xs) (p := p) (mode := mode) (by rw [HLE.out, hlp.out, hne]; rfl))
    go_wp2
    go_ret3
    exact RosE.none1 HR.out (own_base (own_ext hoo hx4) hX0.size) (hX0.trans (hxx.trans hx4))
  have hne' : ((np : Int) != x.n) = false := by simp [bne, hne]
  have HLAY : Hid (lay x p = true) := HLE.out.trans (by rw [hlp.out]; exact hne)
  obtain ⟨hxn, hn4, _⟩ := lay_n HLAY.out
  have HXN := Lib.hid (hxn.trans (by rw [hlp.out]))
  have hp4 : np ≤ 4 := by have := hlp.out; omega
  have hp1 : 1 ≤ np := by have := (perm_le HPP.out).1; have := hlp.out; omega
  clear hxn hn4
  cases hmd : (mode == 0 || mode == 1)
  · have HR := Lib.hid (rosR_no (x := x) (xs := xs) (p := p) (mode := mode) (by rw [hmd]; simp))
    have HB : Hid (mode < 0 ∨ 1 < mode) := by
      simp only [Bool.or_eq_false_iff, beq_eq_false_iff_ne] at hmd
      unfold Hid; omega
    clear hmd
    go_wp2_with fail
    refine (l1In_no _ _ _ _ HB.out).mono ?_
    rintro e w5 ⟨rfl, rfl⟩
    go_wp2
    go_ret3
    exact RosE.none1 HR.out (own_base (own_ext hoo hx4) hX0.size) (hX0.trans (hxx.trans hx4))
  have HR := Lib.hid (rosR_yes (xs := xs) HLAY.out hmd)
  have hm01 : 0 ≤ mode ∧ mode ≤ 1 := by
    simp only [Bool.or_eq_true, beq_iff_eq] at hmd
    omega
  obtain ⟨hm0, hm1⟩ := hm01
  clear hmd
  go_wp2_with fail
  refine (l1In_yes _ _ _ _ hm0 hm1).mono ?_
  rintro e w5 ⟨rfl, rfl⟩
  have HO2 := Lib.hid (own_ext ho2 hx4)
  have HX2 := Lib.hid (hxx.trans hx4)
  have HOO := Lib.hid (own_ext hoo hx4)
  clear ho2 hoo hxx hx4
  go_wp2
  clear d0 hne hne'
  go_loopw [11, 12, 13] (fun vo vl i wr => ∃ (k : Nat) (now : List Int) (out : List Oq) (Al : Option Addr) (cl : Nat) (Ao : Option Addr) (m co : Nat), k ≤ n ∧ i = .int .i64 k ∧ vl = .slice Al np cl ∧ vo = .slice Ao m co ∧ Hid (out.length = m) ∧ m ≤ 10 * k ∧ Hid (perm now = true ∧ now.length = np) ∧ Hid (ropS x mode xs p = ropK x mode xs k out now) ∧ wr.ownsRow Wb.heap.size 45 8 (.slice Ao m co) m (ocells out) ∧ wr.ownsRow Wb.heap.size 3 1 (.slice Al np cl) np (icells now) ∧ Ext Wb wr) (fun vo vl i _ => n - (intOf i).toNat)
  case atStart => exact ⟨0, p, [], _, _, _, 0, _, Nat.zero_le _, rfl, rfl, rfl, rfl, Nat.zero_le _, ⟨HPP.out, hlp.out⟩, (ropK_0 x mode xs p).symm, HOO.out, HO2.out, HX2.out⟩
  case round =>
    clear HOO HO2 HX2
    obtain ⟨k, now, out, Al, cl, Ao, m, co, hk, rfl, rfl, rfl, HM, hmk, HP, HQ, ho, hlay, hx⟩ := hrel
    by_cases hlt : k < n
    · obtain ⟨b, o, y, rfl, hb, hy, r0, r1, r2, r3, r4, r5, r6, r7⟩ := op_at (h.ext (hX0.trans hx)) hlt
      have HY := Lib.hid hy
      clear hy
      go_upto_region 9 with (fail)
      have hs1 : Blk (wr.alloc (.cells #[.int .i64 y.k, .int .i64 y.g.k, .int .i64 y.g.a, .int .i64 y.g.b, .int .i64 y.g.c, .int .i64 y.q, .int .i64 y.bit, .int .i64 y.cond] 45)) wr.heap.size 45 #[.int .i64 y.k, .int .i64 y.g.k, .int .i64 y.g.a, .int .i64 y.g.b, .int .i64 y.g.c, .int .i64 y.q, .int .i64 y.bit, .int .i64 y.cond] := Blk.new _ _ _
      have ho1 := ho.alloc (.cells #[.int .i64 y.k, .int .i64 y.g.k, .int .i64 y.g.a, .int .i64 y.g.b, .int .i64 y.g.c, .int .i64 y.q, .int .i64 y.bit, .int .i64 y.cond] 45)
      have hlay1 := hlay.alloc (.cells #[.int .i64 y.k, .int .i64 y.g.k, .int .i64 y.g.a, .int .i64 y.g.b, .int .i64 y.g.c, .int .i64 y.q, .int .i64 y.bit, .int .i64 y.cond] 45)
      have hx1 : Ext Wb (wr.alloc (.cells #[.int .i64 y.k, .int .i64 y.g.k, .int .i64 y.g.a, .int .i64 y.g.b, .int .i64 y.g.c, .int .i64 y.q, .int .i64 y.bit, .int .i64 y.cond] 45)) := hx.alloc _
      have hne1 : ∀ g, (Value.slice Ao m co).ownBlock = some g → g ≠ wr.heap.size := fun g hg => by have := (ho.lt g hg).2; omega
      have hne2 : ∀ g, (Value.slice Al np cl).ownBlock = some g → g ≠ wr.heap.size := fun g hg => by have := (hlay.lt g hg).2; omega
      have hsB : Wb.heap.size ≤ wr.heap.size := hx.size
      clear r0 r1 r2 r3 r4 r5 r6 r7 ho hlay hx
      generalize (wr.alloc (.cells #[.int .i64 y.k, .int .i64 y.g.k, .int .i64 y.g.a, .int .i64 y.g.b, .int .i64 y.g.c, .int .i64 y.q, .int .i64 y.bit, .int .i64 y.cond] 45)) = W1 at *
      generalize wr.heap.size = s at *
      have HNE1 := Lib.hid hne1
      have HNE2 := Lib.hid hne2
      clear hne1 hne2
      obtain ⟨k0, k1, k2, k3, k4, k5, k6, k7, f5⟩ := blk_op hs1
      cases h1 : (y.k == 1)
      case true =>
        have d0 : W1.cell? ⟨w.heap.size, 0, none⟩ = some (.int .i64 x.n) := (hB0.ext hx1).cell 0
        have d1 : W1.cell? ⟨w.heap.size, 1, none⟩ = some (.slice A1 x.es.length c1) := (hB0.ext hx1).cell 1
        go_wp2_with fail
        refine (spec_rop_any y.g _ x Al np cl now mode _ (HG.out _ (hX0.trans hx1)) hl (Rd.own hlay1) (by omega) (own_le hlay1)).mono ?_
        rintro e w2 ⟨v2, vq, rfl, hy2, hyes⟩
        have HYES := Lib.hid hyes
        clear hyes d0 d1 k0 k1 k2 k3 k4 k5 k6 k7 f5
        cases hm : may y.g x now
        · have HN := Lib.hid (HR.out.trans (HQ.out.trans (ropK_gate_no HY.out h1 hm)))
          clear hm
          go_wp2
          go_ret3
          exact RosE.none2 HN.out ((hX0.trans hx1).trans hy2)
        obtain ⟨A2, n2, c2, rfl, hn2, hc2, ho2, hq2⟩ := HYES.out hm
        have hw := rop_way (x := x) (mode := mode) (g := y.g) HP.out.1
        obtain rfl : n2 = np := by rw [hn2, hw.2]; exact HP.out.2
        have HK := Lib.hid (ropK_gate (mode := mode) (out := out) HY.out h1 hm)
        have hrl := rop_len x mode y.g now
        have hlay2 : w2.ownsRow Wb.heap.size 3 1 (.slice A2 n2 c2) n2 (icells (rop x mode y.g now).2) := by
          rcases hq2 with hq2 | ⟨e1, e2⟩
          · exact own_base hq2 hx1.size
          · rw [e1, e2]; exact own_ext hlay1 hy2
        have HW : Hid (perm (rop x mode y.g now).2 = true ∧ (rop x mode y.g now).2.length = n2) := ⟨hw.1, hw.2.trans HP.out.2⟩
        replace ho2 := own_base ho2 hx1.size
        clear hm hw hq2 hn2 HYES
        generalize (rop x mode y.g now).1 = gs at *
        generalize (rop x mode y.g now).2 = q at *
        obtain ⟨ml, hml⟩ : ∃ ml, ml = gs.length := ⟨_, rfl⟩
        have HML := Lib.hid hml
        rw [← hml] at ho2 hrl
        clear hml
        obtain ⟨Ag, cg, rfl, _⟩ := own_slice ho2
        have HI : Hid (RosI w2 Wb s #[.int .i64 y.k, .int .i64 y.g.k, .int .i64 y.g.a, .int .i64 y.g.b, .int .i64 y.g.c, .int .i64 y.q, .int .i64 y.bit, .int .i64 y.cond] Ao m co out Ag ml cg gs A2 n2 c2 q) := ⟨hs1.ext hy2, own_ext ho1 hy2, HNE1.out, ho2, hlay2, hx1.trans hy2⟩
        clear ho1 ho2 hlay1 hlay2 hs1 hx1 hy2
        go_wp2
        go_loopw [11, 18] (fun vo i wr => ∃ (r : Nat) (out' : List Oq) (Ao' : Option Addr) (co' : Nat), r ≤ ml ∧ i = .int .i64 r ∧ vo = .slice Ao' (m + r) co' ∧ Hid (out' = out ++ (gs.take r).map (opW y.cond)) ∧ RosI wr Wb s #[.int .i64 y.k, .int .i64 y.g.k, .int .i64 y.g.a, .int .i64 y.g.b, .int .i64 y.g.c, .int .i64 y.q, .int .i64 y.bit, .int .i64 y.cond] Ao' (m + r) co' out' Ag ml cg gs A2 n2 c2 q) (fun vo i _ => ml - (intOf i).toNat)
        case atStart => exact ⟨0, out, Ao, co, Nat.zero_le _, rfl, rfl, by simp [Hid], HI.out⟩
        case round =>
          clear HI
          obtain ⟨r, out', Ao', co', hr, rfl, rfl, HO, hI⟩ := hrel
          by_cases hltr : r < ml
          · obtain ⟨bg, og, g, rfl, hbg, hg, r0, r1, r2, r3⟩ := gate_at (Rd.own hI.2.2.2.1) hltr
            have HGS := Lib.hid (map_snoc (opW y.cond) hg)
            clear hg
            obtain ⟨k0, k1, k2, k3, k4, k5, k6, k7, f5⟩ := blk_op hI.1
            have hsl := hI.1.lt
            cases h11 : (g.k == 11)
            case false =>
              have HOP := Lib.hid (opW_n (c := y.cond) h11)
              go_wp2_with (at_builtin; refine appOp (w0 := Wb) rfl _ _ rfl (.slice Ao' (m + r) co') (m + r) out' rfl hI.2.1 hI.2.2.2.2.2 (gop y.cond g) _ _ rfl (by simp) (by omega) ?_; intro v5 w5 ho5 hx5 hg5 hb5)
              obtain ⟨A5, c5, rfl, hI5⟩ := (hI.ext ((Ext.refl wr).alloc _)).app ho5 hg5 hb5 (by omega)
              go_roundw
              case rel => exact ⟨r + 1, out' ++ [gop y.cond g], A5, c5, by omega, by go_num, rfl, by unfold Hid; rw [HGS.out, HO.out, List.append_assoc, HOP.out], hI5⟩
              case measure => simp [intOf]; omega
            case true =>
              have HOP := Lib.hid (opW_s (c := y.cond) h11)
              go_wp2_with (at_builtin; refine appOp (w0 := Wb) rfl _ _ rfl (.slice Ao' (m + r) co') (m + r) out' rfl hI.2.1 hI.2.2.2.2.2 (gop 0 g) _ _ rfl (by simp) (by omega) ?_; intro v5 w5 ho5 hx5 hg5 hb5)
              obtain ⟨A5, c5, rfl, hI5⟩ := (hI.ext ((Ext.refl wr).alloc _)).app ho5 hg5 hb5 (by omega)
              go_roundw
              case rel => exact ⟨r + 1, out' ++ [gop 0 g], A5, c5, by omega, by go_num, rfl, by unfold Hid; rw [HGS.out, HO.out, List.append_assoc, HOP.out], hI5⟩
              case measure => simp [intOf]; omega
          · obtain rfl : r = ml := by omega
            have HO2 : Hid (out' = out ++ gs.map (opW y.cond)) := by rw [HO.out, List.take_of_length_le (by rw [← HML.out]; omega)]; exact rfl
            go_wp2
            go_roundw
            case rel => exact ⟨k + 1, q, out', A2, c2, Ao', m + r, co', by omega, by go_num, rfl, rfl, by unfold Hid; rw [HO2.out, List.length_append, List.length_map, HM.out, ← HML.out], by omega, HW.out, by unfold Hid; rw [HQ.out, HK.out, HO2.out], hI.2.1, hI.2.2.2.2.1, hI.2.2.2.2.2⟩
            case measure => simp [intOf]; omega
      cases h2 : (y.k == 2)
      case false =>
        have HK := Lib.hid (ropK_other (mode := mode) (x := x) (out := out) (now := now) HY.out h1 h2)
        go_wp2
        go_roundw
        case rel => exact ⟨k + 1, now, out, Al, cl, Ao, m, co, by omega, by go_num, rfl, rfl, HM.out, by omega, HP.out, by unfold Hid; rw [HQ.out, HK.out], ho1, hlay1, hx1⟩
        case measure => simp [intOf]; omega
      have d0 : W1.cell? ⟨w.heap.size, 0, none⟩ = some (.int .i64 (np : Int)) := by rw [← HXN.out]; exact (hB0.ext hx1).cell 0
      by_cases hq : 0 ≤ y.q ∧ y.q ≤ (np : Int) - 1
      case neg =>
        have HN := Lib.hid (HR.out.trans (HQ.out.trans (ropK_meas_no (mode := mode) (x := x) (out := out) (now := now) HY.out h1 h2 (by rw [HXN.out]; exact hq))))
        have HB : Hid (y.q < 0 ∨ (np : Int) - 1 < y.q) := by unfold Hid; omega
        clear hq
        go_wp2_with fail
        refine (l1In_no _ _ _ _ HB.out).mono ?_
        rintro e w2 ⟨rfl, rfl⟩
        go_wp2
        go_ret3
        exact RosE.none2 HN.out (hX0.trans hx1)
      have HK := Lib.hid (ropK_meas (mode := mode) (x := x) (out := out) (now := now) HY.out h1 h2 (by rw [HXN.out]; exact hq))
      obtain ⟨j, z, hj, hjn, hz, hlo⟩ := perm_loc HP.out.2 hq.1 hq.2
      have HMV : Hid (moved now y = ⟨y.k, y.g, z, y.bit, y.cond⟩) := by unfold Hid moved; rw [hlo]
      obtain ⟨bl, ol, z', rfl, hbl, hz', q0⟩ := int_at (Rd.own hlay1) hjn
      have hzz : z' = z := by rw [hz] at hz'; injection hz' with hz'; exact hz'.symm
      subst hzz
      rw [hj] at k5
      have hq1 : (0 : Int) ≤ (j : Int) := by omega
      have hq2 : (j : Int) ≤ (np : Int) - 1 := by omega
      have hq3 : (j : Int) < (np : Int) := by omega
      clear hz hz' hlo hq hj
      go_wp2_with fail
      refine (l1In_yes _ _ _ _ hq1 hq2).mono ?_
      rintro e w2 ⟨rfl, rfl⟩
      go_upto_region 26 with (fail)
      have hs2 : Blk (W1.setCell ⟨s, 5, none⟩ (.int .i64 z')) s 45 #[.int .i64 y.k, .int .i64 y.g.k, .int .i64 y.g.a, .int .i64 y.g.b, .int .i64 y.g.c, .int .i64 z', .int .i64 y.bit, .int .i64 y.cond] := hs1.set_ 5 _
      have ho2 := own_setNe (i := 5) ho1 HNE1.out (.int .i64 z')
      have hlay2 := own_setNe (i := 5) hlay1 HNE2.out (.int .i64 z')
      have hx2 : Ext Wb (W1.setCell ⟨s, 5, none⟩ (.int .i64 z')) := hx1.setCell (p := ⟨s, 5, none⟩) hsB _
      clear hs1 ho1 hlay1 hx1 k0 k1 k2 k3 k4 k5 k6 k7 f5 d0 q0
      generalize (W1.setCell ⟨s, 5, none⟩ (.int .i64 z')) = W2 at *
      obtain ⟨k0, k1, k2, k3, k4, k5, k6, k7, f5⟩ := blk_op hs2
      go_wp2_with (at_builtin; refine appOp (w0 := Wb) rfl _ _ rfl (.slice Ao m co) m out rfl ho2 hx2 ⟨y.k, y.g, z', y.bit, y.cond⟩ _ _ rfl (by simp) (by omega) ?_; intro v5 w5 ho5 hx5 hg5 hb5)
      have hl5 := own_other (hlay2.alloc _) (ho2.alloc _) opi_ne hg5
      obtain ⟨A5, c5, rfl, _⟩ := own_slice ho5
      go_roundw
      case rel => exact ⟨k + 1, now, out ++ [⟨y.k, y.g, z', y.bit, y.cond⟩], some ⟨bl, ol, none⟩, cl, A5, m + 1, c5, by omega, by go_num, rfl, rfl, by unfold Hid; rw [List.length_append, HM.out]; rfl, by omega, HP.out, by unfold Hid; rw [HQ.out, HK.out, HMV.out], ho5, hl5, hx5⟩
      case measure => simp [intOf]; omega
    · have hkn : xs.length ≤ k := by rw [hlen.out]; omega
      have HN := Lib.hid (HR.out.trans (HQ.out.trans (ropK_end (mode := mode) (x := x) (out := out) (now := now) hkn)))
      clear hkn
      have hb1 := ho.lt
      have HB1 := Lib.hid hb1
      clear hb1
      go_wp2_with (at_builtin; refine appIntS (w0 := wr) rfl _ _ rfl (.slice (some ⟨wr.heap.size, 0, none⟩) 0 0) 0 [] rfl (own_lit (Ext.refl _) _ _ 1 0 #[] _ (by simp) rfl rfl (by omega)) ((Ext.refl _).alloc _) Al np cl now rfl ((Rd.own hlay).ext ((Ext.refl _).alloc _)) (by omega) ?_; intro v6 w6 ho6 hx6 hg6 hb6)
      simp only [Nat.zero_add, List.nil_append] at ho6
      go_ret3
      exact RosE.yes (b1 := wr.heap.size) HN.out HM.out HP.out.2 (own_ext (own_base ho hX0.size) hx6) (fun g hg => (HB1.out g hg).2) ⟨(hX0.trans hx).size, hx6.size⟩ ho6 ((hX0.trans hx).trans hx6)
end Go.Proofs.Ytfbalkbcglejjaa
