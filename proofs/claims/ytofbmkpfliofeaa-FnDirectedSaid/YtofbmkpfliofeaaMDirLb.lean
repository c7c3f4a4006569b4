/-
  For every code, the law FnDirected returns true: oriented gates perform the same operation exactly. No condition.
-/
import Derived.Test.YtofbmkpfliofeaaMDirLa
import Derived.Test.YtofbmkpfliofeaaDrawE
import Derived.Test.YtofbmkpfliofeaaDec
import Derived.Test.YtofbmkpfliofeaaOrs
import Derived.Test.YtofbmkpfliofeaaApc
import Derived.Test.YtofbmkpfliofeaaSor
/-
  Helper text (no claim of its own): the routing of a gate by swaps, by the program and by the reference. Printed by gen_rtg.py.
-/
namespace Go.Proofs.Ytofbmkpfliofeaa
open Go.ChangeShapes Go.WideShapes Go.ChangeAt Go.RowKit Go.Deep
set_option linter.unusedVariables false
theorem own_apart {w : World} {B B' e e' size size' n n' : Nat} {v v' : Value} {xs xs' : List Value} (h : w.ownsRow B e size v n xs) (h' : w.ownsRow B' e' size' v' n' xs') (hne : e ≠ e') {g : Nat} (hg : v.ownBlock = some g) : v'.ownBlock ≠ some g := by
  intro hg'
  rcases h.2 with ⟨rfl, _⟩ | ⟨b, cap, cur, rfl, _, hc, _⟩
  · cases hg
  · rcases h'.2 with ⟨rfl, _⟩ | ⟨b', cap', cur', rfl, _, hc', _⟩
    · cases hg'
    · injection hg with hg
      injection hg' with hg'
      subst hg hg'
      rw [hc] at hc'
      injection hc' with hc'
      injection hc' with _ hc'
      exact hne hc'
/-- A row is kept where a row of other elements is written. -/
theorem own_other {w w' : World} {B B' e e' size size' n n' : Nat} {v v' : Value} {xs xs' : List Value} (h : w.ownsRow B e size v n xs) (h' : w.ownsRow B' e' size' v' n' xs') (hne : e ≠ e') (hg : w.grownBy w' v'.ownBlock) : w'.ownsRow B e size v n xs := by
  refine h.kept hg ?_
  cases hv : v.ownBlock with
  | none => exact .inl rfl
  | some k => exact .inr fun e1 => own_apart h h' hne hv e1.symm
/-- What RouteGate hands back. -/
def RoutE (w : World) (r : List Gt × List Int) (e : Ending) (w' : World) : Prop :=
  ∃ v A len cap, e = .returned (.tuple #[v, .slice A len cap]) ∧ len = r.2.length ∧ len ≤ cap ∧ w'.ownsRow w.heap.size 37 4 v r.1.length (gcells r.1) ∧ w'.ownsRow w.heap.size 3 1 (.slice A len cap) len (icells r.2) ∧ Ext w w'
theorem own_le {w : World} {B e size n c : Nat} {A : Option Addr} {xs : List Value} (h : w.ownsRow B e size (.slice A n c) n xs) : n ≤ c := by
  rcases h.2 with ⟨h0, rfl⟩ | ⟨g, cap, cur, hv, _, _, hnc, _⟩
  · omega
  · injection hv with _ _ h3
    omega
theorem RoutE.mk {w Wb w' : World} {r : List Gt × List Int} {v : Value} {A : Option Addr} {n cap : Nat} {gs : List Gt} {q : List Int} (hr : r = (gs, q)) (hx : Ext w Wb) (hg : w'.ownsRow Wb.heap.size 37 4 v gs.length (gcells gs)) (hp : w'.ownsRow Wb.heap.size 3 1 (.slice A n cap) n (icells q)) (hw : Ext Wb w') (hq : q.length = n) : RoutE w r (.returned (.tuple #[v, .slice A n cap])) w' := by
  subst hr
  exact ⟨v, A, n, cap, rfl, hq.symm, own_le hp, own_base hg hx.size, own_base hp hx.size, hx.trans hw⟩
theorem two_at {w : World} {B n i j : Nat} {A : Option Addr} {xs : List Int} {y z : Int} (h : Rd w B 1 A n (icells xs)) (hi : i < n) (hj : j < n) (hy : xs[i]? = some y) (hz : xs[j]? = some z) :
    ∃ b o, A = some ⟨b, o, none⟩ ∧ b < B ∧ w.cell? ⟨b, o + i, none⟩ = some (.int .i64 y) ∧ w.cell? ⟨b, o + j, none⟩ = some (.int .i64 z) := by
  obtain ⟨b, o, y', rfl, hb, hy', c1⟩ := int_at h hi
  obtain ⟨b', o', z', e, _, hz', c2⟩ := int_at h hj
  injection e with e
  injection e with e1 e2
  subst e1 e2
  rw [hy] at hy'
  rw [hz] at hz'
  injection hy' with hy'
  injection hz' with hz'
  subst hy' hz'
  exact ⟨b, o, rfl, hb, c1, c2⟩
def slen : Value → Nat
  | .slice _ n _ => n
  | _ => 0
theorem gint_ne : (37 : Nat) ≠ 3 := by decide
theorem intg_ne : (3 : Nat) ≠ 37 := by decide

set_option maxRecDepth 100000 in
set_option maxHeartbeats 16000000 in
theorem spec_RouteGate_any (g : Gt) (v : Value) (x : Gr) (A : Option Addr) (n c : Nat) (p : List Int) (w : World) (h : GrAt w w.heap.size v x) (hl : x.es.length ≤ 100000000) (hp : Rd w w.heap.size 1 A n (icells p)) (hn : n ≤ 100000000) (hc : n ≤ c) :
    Calls Try.prog 52 #[g.val, v, .slice A n c] w (RoutE w (routG x g p)) := by
  have hlen := Lib.hid (hp.len icell_len (by omega))
  obtain ⟨A1, c1, rfl, h1⟩ := h
  have HG : Hid (∀ w', Ext w w' → GrAt w' w'.heap.size (.agg #[.int .i64 x.n, .slice A1 x.es.length c1]) x) := fun w' hx => ⟨A1, c1, rfl, h1.ext hx⟩
  clear h1
  have hG0 : Blk ((w.alloc (.cells #[.int .i64 g.k, .int .i64 g.a, .int .i64 g.b, .int .i64 g.c] 37)).alloc (.cells #[.int .i64 x.n, .slice A1 x.es.length c1] 27)) w.heap.size 37 #[.int .i64 g.k, .int .i64 g.a, .int .i64 g.b, .int .i64 g.c] := (Blk.new _ _ _).alloc _
  have hB0 : Blk ((w.alloc (.cells #[.int .i64 g.k, .int .i64 g.a, .int .i64 g.b, .int .i64 g.c] 37)).alloc (.cells #[.int .i64 x.n, .slice A1 x.es.length c1] 27)) (w.heap.size + 1) 27 #[.int .i64 x.n, .slice A1 x.es.length c1] := Blk.newAt (by simp)
  have hX0 : Ext w ((w.alloc (.cells #[.int .i64 g.k, .int .i64 g.a, .int .i64 g.b, .int .i64 g.c] 37)).alloc (.cells #[.int .i64 x.n, .slice A1 x.es.length c1] 27)) := by repeat (first | exact Ext.refl _ | assumption | refine Ext.alloc ?_ _ | refine Ext.drewN ?_ _ | refine Ext.drew ?_)
  have HG0 := Lib.hid hG0
  have HB0 := Lib.hid hB0
  have HX0 := Lib.hid hX0
  clear hB0 hX0 hG0
  go_enter Try.func52, Try.ntmps52
  go_upto_region 1 with (fail)
  have hG0 := HG0.out
  have hB0 := HB0.out
  have hX0 := HX0.out
  clear HB0 HX0 HG0
  generalize ((w.alloc (.cells #[.int .i64 g.k, .int .i64 g.a, .int .i64 g.b, .int .i64 g.c] 37)).alloc (.cells #[.int .i64 x.n, .slice A1 x.es.length c1] 27)) = Wb at *
  have hE : Ext Wb Wb := Ext.refl _
  go_upto_region 2 with (fail)
  have hoG : (Wb.alloc (.cells #[] 37)).ownsRow Wb.heap.size 37 4 (.slice (some ⟨Wb.heap.size, 0, none⟩) 0 0) 0 (gcells []) := own_lit (Ext.refl _) _ _ 4 0 #[] _ rfl rfl rfl (by omega)
  have hxG : Ext Wb (Wb.alloc (.cells #[] 37)) := (Ext.refl _).alloc _
  generalize (Wb.alloc (.cells #[] 37)) = Wg at *
  go_upto_region 3 with (at_builtin; refine appIntS (w0 := Wg) rfl _ _ rfl _ 0 [] rfl (own_lit (by repeat (first | exact Ext.refl _ | assumption | refine Ext.alloc ?_ _ | refine Ext.drewN ?_ _ | refine Ext.drew ?_)) _ _ 1 0 #[] _ (by simp) rfl rfl (by omega)) (by repeat (first | exact Ext.refl _ | assumption | refine Ext.alloc ?_ _ | refine Ext.drewN ?_ _ | refine Ext.drew ?_)) A n c p rfl ((hp.ext (hX0.trans hxG)).ext (by repeat (first | exact Ext.refl _ | assumption | refine Ext.alloc ?_ _ | refine Ext.drewN ?_ _ | refine Ext.drew ?_))) (by omega) ?_; intro v1 w1 ho1 hx1 hg1 hb1)
  have hoG1 := own_ext hoG hx1
  replace ho1 := own_base ho1 hxG.size
  replace hx1 := hxG.trans hx1
  simp only [Nat.zero_add, List.nil_append] at ho1
  clear hg1 hb1 hE
  have hX1 := hX0.trans hx1
  have hG1 := hG0.ext hx1
  have hB1 := hB0.ext hx1
  have b0 : w1.cell? ⟨w.heap.size, 0, none⟩ = some (.int .i64 g.k) := hG1.cell 0
  have b1 : w1.cell? ⟨w.heap.size, 1, none⟩ = some (.int .i64 g.a) := hG1.cell 1
  have b2 : w1.cell? ⟨w.heap.size, 2, none⟩ = some (.int .i64 g.b) := hG1.cell 2
  have b3 : w1.cell? ⟨w.heap.size, 3, none⟩ = some (.int .i64 g.c) := hG1.cell 3
  have d0 : w1.cell? ⟨w.heap.size + 1, 0, none⟩ = some (.int .i64 x.n) := hB1.cell 0
  have d1 : w1.cell? ⟨w.heap.size + 1, 1, none⟩ = some (.slice A1 x.es.length c1) := hB1.cell 1
  obtain ⟨Al, cl, rfl, _⟩ := own_slice ho1
  go_wp2_with fail
  refine (spec_l38Right_any g _ x A n c p _ (HG.out _ hX1) hl (hp.ext hX1) hn hc).mono ?_
  rintro e w2 ⟨rfl, hx2⟩
  have ho2 := own_ext ho1 hx2
  have hoG2 := own_ext hoG1 hx2
  replace hx1 := hx1.trans hx2
  replace hG1 := hG1.ext hx2
  replace hB1 := hB1.ext hx2
  clear b0 b1 b2 b3 d0 d1 ho1 hX1 hx2 hoG hxG hoG1
  cases hm : may g x p
  · have HR := Lib.hid (routG_no hm)
    clear hm
    go_wp2
    go_ret2
    exact RoutE.mk HR.out hX0 hoG2 ho2 hx1 hlen.out
  have b0 : w2.cell? ⟨w.heap.size, 0, none⟩ = some (.int .i64 g.k) := hG1.cell 0
  have b1 : w2.cell? ⟨w.heap.size, 1, none⟩ = some (.int .i64 g.a) := hG1.cell 1
  have b2 : w2.cell? ⟨w.heap.size, 2, none⟩ = some (.int .i64 g.b) := hG1.cell 2
  have b3 : w2.cell? ⟨w.heap.size, 3, none⟩ = some (.int .i64 g.c) := hG1.cell 3
  have d0 : w2.cell? ⟨w.heap.size + 1, 0, none⟩ = some (.int .i64 x.n) := hB1.cell 0
  have d1 : w2.cell? ⟨w.heap.size + 1, 1, none⟩ = some (.slice A1 x.es.length c1) := hB1.cell 1
  cases h1 : (ar g.k == 1)
  case true =>
    have HR := Lib.hid (routG_1 hm h1)
    obtain ⟨ia, y, hga, hia, hy, hlo, hp4, _⟩ := loc_at hm
    have HLO := Lib.hid hlo
    have HY := Lib.hid hy
    have hpn := hlen.out
    have hian : ia < n := by omega
    have h9 : (g.k != 9) = true := by cases hq : (g.k == 9) with | false => simp [bne, hq] | true => (rw [beq_iff_eq] at hq; rw [hq] at h1; cases h1)
    obtain ⟨bl, ol, y', rfl, hbl, hy', q0⟩ := int_at hp hian
    have hyy : y' = y := by rw [HY.out] at hy'; injection hy' with hy'; exact hy'.symm
    subst hyy
    rw [hga] at b1
    have HQ : Hid (∀ w', Ext Wb w' → w'.cell? ⟨w.heap.size, 0, none⟩ = some (.int .i64 g.k) ∧ w'.cell? ⟨w.heap.size, 1, none⟩ = some (.int .i64 (ia : Int)) ∧ w'.cell? ⟨bl, ol + ia, none⟩ = some (.int .i64 y')) := fun w' z => ⟨(hG0.ext z).cell 0, by rw [← hga]; exact (hG0.ext z).cell 1, ((hX0.trans z).cell (p := ⟨bl, ol + ia, none⟩) hbl).trans q0⟩
    have q0' : w2.cell? ⟨bl, ol + ia, none⟩ = some (.int .i64 y') := (HQ.out _ hx1).2.2
    have hi0 : (0 : Int) ≤ (ia : Int) := by omega
    have hin : (ia : Int) < (n : Int) := by omega
    have HLOC : Hid (loc p g.a = y') := hlo
    clear hlo hy hy' hpn hga hm HY
    go_wp2
    have hz0 := Ext.refl w2
    first | go_region_held3 (fun w' => w'.cell? ⟨w.heap.size, 0, none⟩ = some (.int .i64 g.k) ∧ w'.cell? ⟨w.heap.size, 1, none⟩ = some (.int .i64 (ia : Int)) ∧ w'.cell? ⟨bl, ol + ia, none⟩ = some (.int .i64 y'))
      (first | go_keep | (refine HQ.out _ ?_; assumption) | (refine HQ.out _ (hx1.trans ?_); repeat (first | exact Ext.refl _ | assumption | refine Ext.alloc ?_ _ | refine Ext.drewN ?_ _ | refine Ext.drew ?_); done))
      (first
        | (go_at_call 54; (with_reducible refine (spec_one_any (w0 := w2) _ _ _ (by repeat (first | exact Ext.refl _ | assumption | refine Ext.alloc ?_ _ | refine Ext.drewN ?_ _ | refine Ext.drew ?_))).mono ?_); clear hz0; rintro e w' ⟨rfl, hz0⟩)
        | (refine stepG1 (B := Wb.heap.size) (by rfl) _ _ (by rfl) _ 0 [] (by rfl) (own_ext hoG2 hz0) (Nat.le_trans hx1.size hz0.size) (g1 g.k y') _ _ (by rfl) (by rfl) (by omega) ?_; intro A4 c4 w4 ho4 hg4 hb4; have hz4 : Ext Wb w4 := (hx1.trans hz0).grown hg4 (fun k hk => ((own_ext hoG2 hz0).lt k hk).1))) | fail
    all_goals
      go_wp2
      go_ret2
      exact RoutE.mk (HR.out.trans (by rw [HLOC.out])) hX0 (gs := [g1 g.k y']) ho4 (own_other (own_ext ho2 hz0) (own_ext hoG2 hz0) intg_ne hg4) hz4 hlen.out
  obtain ⟨ia, ib, hga, hgb, _, hW0⟩ := OnWay.of hm h1
  have HR := Lib.hid (routG_2 hm h1)
  have h9 : (g.k != 9) = false := by (have hb : bas g = true := by { unfold may at hm; simp only [Bool.and_eq_true] at hm; exact hm.1.2 }); unfold bas at hb; rw [h1, Bool.false_or] at hb; simp [bne, hb]
  rw [hga, hgb] at HR
  obtain ⟨T, hT⟩ : ∃ T, T = rgL x ia ib 4 p := ⟨_, rfl⟩
  rw [← hT] at HR
  have HT0 : Hid (([] : List Gt) ++ (rgL x ia ib 4 p).1 = T.1 ∧ (rgL x ia ib 4 p).2 = T.2) := by rw [hT]; exact ⟨rfl, rfl⟩
  have hpn := hlen.out
  have hxn : x.n = (n : Int) := by have := hW0.len; omega
  have hn4 : n ≤ 4 := by have := (perm_le hW0.perm).2; omega
  have hian : ia < n := by have := hW0.ha; omega
  have hibn : ib < n := by have := hW0.hb; omega
  have hg0 := gd_range x (loc p ia) (loc p ib)
  have HXN := Lib.hid hxn
  have HQ : Hid (∀ w', Ext Wb w' → w'.cell? ⟨w.heap.size, 1, none⟩ = some (.int .i64 (ia : Int)) ∧ w'.cell? ⟨w.heap.size, 2, none⟩ = some (.int .i64 (ib : Int)) ∧ w'.cell? ⟨w.heap.size + 1, 0, none⟩ = some (.int .i64 x.n) ∧ w'.cell? ⟨w.heap.size + 1, 1, none⟩ = some (.slice A1 x.es.length c1)) := fun w' z => ⟨by rw [← hga]; exact (hG0.ext z).cell 1, by rw [← hgb]; exact (hG0.ext z).cell 2, (hB0.ext z).cell 0, (hB0.ext z).cell 1⟩
  have hi0 : (0 : Int) ≤ (ia : Int) := by omega
  have hin : (ia : Int) < (n : Int) := by omega
  have hj0 : (0 : Int) ≤ (ib : Int) := by omega
  have hjn : (ib : Int) < (n : Int) := by omega
  have h2lt : (1 : Int) < 2 := by omega
  clear hT hpn hxn hm hga hgb hG1 hB1 h2lt
  have HO2 := Lib.hid ho2
  have HOG := Lib.hid hoG2
  have HX1 := Lib.hid hx1
  clear ho2 hoG2 hx1
  go_wp2
  clear b0 b1 b2 b3 d0 d1
  go_loopw [8, 9] (fun vo vl wr => ∃ (f : Nat) (now : List Int) (out : List Gt) (A : Option Addr) (c : Nat) (Ao : Option Addr) (m co : Nat), vl = .slice A n c ∧ vo = .slice Ao m co ∧ m + f = 4 ∧ Hid (out.length = m) ∧ OnWay x ia ib now ∧ gd x (loc now ia) (loc now ib) ≤ f ∧ Hid (out ++ (rgL x ia ib f now).1 = T.1 ∧ (rgL x ia ib f now).2 = T.2) ∧ wr.ownsRow Wb.heap.size 37 4 (.slice Ao m co) m (gcells out) ∧ wr.ownsRow Wb.heap.size 3 1 (.slice A n c) n (icells now) ∧ Ext Wb wr) (fun vo vl _ => 5 - slen vo)
  case atStart => exact ⟨4, p, [], Al, cl, _, 0, _, rfl, rfl, rfl, rfl, hW0, hg0.2, HT0, HOG.out, HO2.out, HX1.out⟩
  case round =>
    clear HO2 HOG HX1 HT0 hg0 hW0
    obtain ⟨f, now, out, Al, cl, Ao, m, co, rfl, rfl, hmf, HM, hW, hgf, HT, ho, hlay, hx⟩ := hrel
    obtain ⟨y, hy, ly, y0, y1⟩ := hW.at_ hW.ha
    obtain ⟨z, hz, lz, z0, z1⟩ := hW.at_ hW.hb
    have hnl : now.length = n := by have := hW.len; have := HXN.out; omega
    have HNL := Lib.hid hnl
    obtain ⟨bl, ol, rfl, hbl, cy, cz⟩ := two_at (Rd.own hlay) hian hibn hy hz
    have HK : Hid (∀ w', Ext wr w' → w'.cell? ⟨w.heap.size, 1, none⟩ = some (.int .i64 (ia : Int)) ∧ w'.cell? ⟨w.heap.size, 2, none⟩ = some (.int .i64 (ib : Int)) ∧ w'.cell? ⟨w.heap.size + 1, 0, none⟩ = some (.int .i64 x.n) ∧ w'.cell? ⟨w.heap.size + 1, 1, none⟩ = some (.slice A1 x.es.length c1) ∧ w'.cell? ⟨bl, ol + ia, none⟩ = some (.int .i64 y) ∧ w'.cell? ⟨bl, ol + ib, none⟩ = some (.int .i64 z)) := fun w' q => ⟨(HQ.out _ (hx.trans q)).1, (HQ.out _ (hx.trans q)).2.1, (HQ.out _ (hx.trans q)).2.2.1, (HQ.out _ (hx.trans q)).2.2.2, (q.cell (p := ⟨bl, ol + ia, none⟩) hbl).trans cy, (q.cell (p := ⟨bl, ol + ib, none⟩) hbl).trans cz⟩
    have HK4 : Hid (∀ w', Ext Wb w' → w'.ownsRow Wb.heap.size 3 1 (.slice (some ⟨bl, ol, none⟩) n cl) n (icells now) → w'.cell? ⟨w.heap.size, 1, none⟩ = some (.int .i64 (ia : Int)) ∧ w'.cell? ⟨w.heap.size, 2, none⟩ = some (.int .i64 (ib : Int)) ∧ w'.cell? ⟨w.heap.size + 1, 0, none⟩ = some (.int .i64 x.n) ∧ w'.cell? ⟨w.heap.size + 1, 1, none⟩ = some (.slice A1 x.es.length c1) ∧ w'.cell? ⟨bl, ol + ia, none⟩ = some (.int .i64 y) ∧ w'.cell? ⟨bl, ol + ib, none⟩ = some (.int .i64 z)) := fun w' q r => by
      obtain ⟨b', o', e', _, c1', c2'⟩ := two_at (Rd.own r) hian hibn hy hz
      injection e' with e'
      injection e' with e1 e2
      subst e1 e2
      exact ⟨(HQ.out _ q).1, (HQ.out _ q).2.1, (HQ.out _ q).2.2.1, (HQ.out _ q).2.2.2, c1', c2'⟩
    have hg' : gd x (loc now ia) (loc now ib) = gd x y z := by rw [ly, lz]
    rw [hg'] at hgf
    obtain ⟨G, hG⟩ : ∃ G, G = gd x y z := ⟨_, rfl⟩
    have HGD := Lib.hid hG
    rw [← hG] at hgf
    have HY := Lib.hid hy
    have HZ := Lib.hid hz
    have HLY := Lib.hid ly
    have HLZ := Lib.hid lz
    have HG' := Lib.hid hg'
    have HW := Lib.hid hW
    clear hG hy hz ly lz hg' hnl cy cz hW
    obtain ⟨b1, b2, d0, d1, cy, cz⟩ := HK.out wr (Ext.refl wr)
    by_cases hg : 1 < G
    · obtain ⟨f, rfl⟩ : ∃ f', f = f' + 1 := ⟨f - 1, by omega⟩
      obtain ⟨s, t, rest, hs1, hs2, hs3, _, _, hs6⟩ := HW.out.step (by rw [HG'.out, ← HGD.out]; exact hg)
      rw [HLY.out, HLZ.out] at hs1
      rw [HG'.out, ← HGD.out] at hs3
      have hl6 : (swapL now s t).length = n := by have := hs2.len; have := HXN.out; omega
      have HS1 := Lib.hid hs1
      have HS2 := Lib.hid hs2
      have HS3 := Lib.hid hs3
      have HS6 := Lib.hid hs6
      have HL6 := Lib.hid hl6
      clear hs1 hs2 hs3 hs6 hl6
      go_wp2
      first | go_region_held3 (fun w' => w'.cell? ⟨w.heap.size, 1, none⟩ = some (.int .i64 (ia : Int)) ∧ w'.cell? ⟨w.heap.size, 2, none⟩ = some (.int .i64 (ib : Int)) ∧ w'.cell? ⟨w.heap.size + 1, 0, none⟩ = some (.int .i64 x.n) ∧ w'.cell? ⟨w.heap.size + 1, 1, none⟩ = some (.slice A1 x.es.length c1) ∧ w'.cell? ⟨bl, ol + ia, none⟩ = some (.int .i64 y) ∧ w'.cell? ⟨bl, ol + ib, none⟩ = some (.int .i64 z))
        (first | (refine HK.out _ ?_; assumption) | exact HK.out _ (Ext.refl wr).drew | go_keep)
        (first | (go_at_call 70; refine (spec_GraphDistance_any _ x y z _ (HG.out _ (hX0.trans hx.drew)) hl).mono ?_; rintro e w3 ⟨rfl, hy3⟩; replace hy3 : Ext wr w3 := Ext.trans (Ext.refl wr).drew hy3; rw [← HGD.out])) | fail
      clear b1 b2 d0 d1 cy cz
      obtain ⟨b1, b2, d0, d1, cy, cz⟩ := HK.out w3 hy3
      have hx3 := hx.trans hy3
      go_wp2
      first | go_region_held3 (fun w' => w'.cell? ⟨w.heap.size, 1, none⟩ = some (.int .i64 (ia : Int)) ∧ w'.cell? ⟨w.heap.size, 2, none⟩ = some (.int .i64 (ib : Int)) ∧ w'.cell? ⟨w.heap.size + 1, 0, none⟩ = some (.int .i64 x.n) ∧ w'.cell? ⟨w.heap.size + 1, 1, none⟩ = some (.slice A1 x.es.length c1) ∧ w'.cell? ⟨bl, ol + ia, none⟩ = some (.int .i64 y) ∧ w'.cell? ⟨bl, ol + ib, none⟩ = some (.int .i64 z))
        (first | (refine HK.out _ (hy3.trans ?_); assumption) | exact HK.out _ hy3.drew | go_keep)
        (first | (go_at_call 71; refine (spec_ShortestPath_any _ x y z _ (HG.out _ (hX0.trans hx3.drew)) hl).mono ?_; rintro e w4 ⟨Aw, lw, cw, rfl, hlw', how', hy4⟩; have HLW := Lib.hid hlw'; have how := Lib.hid how'; clear hlw' how'; replace hy4 : Ext w3 w4 := Ext.trans (Ext.refl w3).drew hy4)) | fail
      clear b1 b2 d0 d1 cy cz
      have hlw := HLW.out
      replace how := how.out
      rw [HS1.out] at hlw how
      have hlw2 : 2 ≤ lw := by rw [hlw]; simp
      clear hlw HLW
      have hx4 := hx3.trans hy4
      have hlay4 := own_ext hlay (hy3.trans hy4)
      have ho4 := own_ext ho (hy3.trans hy4)
      obtain ⟨bw, ow, rfl, _, k0, k1⟩ := two_at (Rd.own how) (show 0 < lw by omega) (show 1 < lw by omega) (y := s) (z := t) rfl rfl
      obtain ⟨Bw, hBw⟩ : ∃ B, B = w3.drew.heap.size := ⟨_, rfl⟩
      rw [← hBw] at how
      have HKW : Hid (∀ w' : World, w'.ownsRow Bw 3 1 (.slice (some ⟨bw, ow, none⟩) lw cw) lw (icells (s :: t :: rest)) → w'.cell? ⟨bw, ow, none⟩ = some (.int .i64 s) ∧ w'.cell? ⟨bw, ow + 1, none⟩ = some (.int .i64 t)) := fun w' r => by
        obtain ⟨b', o', e', _, c1', c2'⟩ := two_at (Rd.own r) (show 0 < lw by omega) (show 1 < lw by omega) (y := s) (z := t) rfl rfl
        injection e' with e'
        injection e' with e1 e2
        subst e1 e2
        exact ⟨c1', c2'⟩
      have hlw0 : (0 : Int) < (lw : Int) := by omega
      have hlw0n : 0 < lw := by omega
      have hlw1n : 1 < lw := by omega
      have hlw1 : (1 : Int) < (lw : Int) := by omega
      have HOW := Lib.hid how
      have HO4 := Lib.hid ho4
      have HLAY4 := Lib.hid hlay4
      have hd4 : Ext w4 w4.drew := (Ext.refl w4).drew
      clear how ho4 hlay4 hBw k0 k1 ho hlay
      obtain ⟨k0, k1⟩ := HKW.out w4 HOW.out
      go_wp2
      first | go_region_held3 (fun w' => w'.cell? ⟨bw, ow, none⟩ = some (.int .i64 s) ∧ w'.cell? ⟨bw, ow + 1, none⟩ = some (.int .i64 t))
        (first | (refine HKW.out _ ?_; assumption) | exact HKW.out _ (own_ext HOW.out hd4) | go_keep | (refine HKW.out _ (own_ext HOW.out ?_); repeat (first | exact Ext.refl _ | assumption | refine Ext.alloc ?_ _ | refine Ext.drewN ?_ _ | refine Ext.drew ?_); done))
        (first | (refine stepG1 (B := Wb.heap.size) (by rfl) _ _ (by rfl) _ m out (by rfl) (own_ext HO4.out hd4) (Nat.le_trans hx4.size hd4.size) ⟨11, s, t, 0⟩ _ _ (by rfl) (by rfl) (by omega) ?_; intro A5 c5 w5 ho5 hg5 hb5; have hw5 := own_other (own_ext HOW.out hd4) (own_ext HO4.out hd4) intg_ne hg5)) | fail
      have hx5 : Ext Wb w5 := (hx4.trans hd4).grown hg5 (fun k hk => ((own_ext HO4.out hd4).lt k hk).1)
      have hl5 := own_other (own_ext HLAY4.out hd4) (own_ext HO4.out hd4) intg_ne hg5
      clear k0 k1
      obtain ⟨k0, k1⟩ := HKW.out w5 hw5
      have HO5 := Lib.hid ho5
      have HW5 := Lib.hid hw5
      have HL5 := Lib.hid hl5
      have hle5 := own_le hl5
      have hd5 : Ext w5 w5.drew := (Ext.refl w5).drew
      clear ho5 hw5 hl5 hg5 hb5
      go_wp2
      first | go_region_held3 (fun w' => w'.cell? ⟨bw, ow, none⟩ = some (.int .i64 s) ∧ w'.cell? ⟨bw, ow + 1, none⟩ = some (.int .i64 t))
        (first | (refine HKW.out _ (own_ext HW5.out ?_); assumption) | exact HKW.out _ (own_ext HW5.out hd5) | go_keep | (refine HKW.out _ (own_ext HW5.out ?_); repeat (first | exact Ext.refl _ | assumption | refine Ext.alloc ?_ _ | refine Ext.drewN ?_ _ | refine Ext.drew ?_); done))
        (first | (go_at_call 72; refine (spec_SwapLayout_any _ n cl now s t _ (Rd.own (own_ext HL5.out hd5)) (by omega) hle5).mono ?_; rintro e w6 ⟨v6, rfl, ho6, hy6⟩; replace hy6 : Ext w5 w6 := Ext.trans hd5 hy6)) | fail
      rw [HL6.out] at ho6
      obtain ⟨A6, c6, rfl, _⟩ := own_slice ho6
      have hb6 : Wb.heap.size ≤ w5.drew.heap.size := Nat.le_trans hx5.size hd5.size
      have HO6 := Lib.hid (own_base ho6 hb6)
      clear ho6 k0 k1
      go_wp2
      go_roundw
      case rel => exact ⟨f, swapL now s t, out ++ [⟨11, s, t, 0⟩], A6, c6, A5, m + 1, c5, rfl, rfl, by omega, by unfold Hid; rw [List.length_append, HM.out]; rfl, HS2.out, by rw [HS3.out]; omega, by have h1 := HT.out; rw [HS6.out] at h1; unfold Hid; rw [List.append_assoc]; exact h1, own_ext HO5.out hy6, HO6.out, hx5.trans hy6⟩
      case measure => simp [slen]; omega
    · have HST := Lib.hid (rgL_stop (x := x) (a := ia) (b := ib) (now := now) f (by rw [HG'.out, ← HGD.out]; exact hg))
      go_wp2
      first | go_region_held3 (fun w' => w'.cell? ⟨w.heap.size, 1, none⟩ = some (.int .i64 (ia : Int)) ∧ w'.cell? ⟨w.heap.size, 2, none⟩ = some (.int .i64 (ib : Int)) ∧ w'.cell? ⟨w.heap.size + 1, 0, none⟩ = some (.int .i64 x.n) ∧ w'.cell? ⟨w.heap.size + 1, 1, none⟩ = some (.slice A1 x.es.length c1) ∧ w'.cell? ⟨bl, ol + ia, none⟩ = some (.int .i64 y) ∧ w'.cell? ⟨bl, ol + ib, none⟩ = some (.int .i64 z))
        (first | (refine HK.out _ ?_; assumption) | exact HK.out _ (Ext.refl wr).drew | go_keep)
        (first | (go_at_call 70; refine (spec_GraphDistance_any _ x y z _ (HG.out _ (hX0.trans hx.drew)) hl).mono ?_; rintro e w3 ⟨rfl, hy3⟩; replace hy3 : Ext wr w3 := Ext.trans (Ext.refl wr).drew hy3; rw [← HGD.out])) | fail
      clear b1 b2 d0 d1 cy cz
      obtain ⟨b1, b2, d0, d1, cy, cz⟩ := HK.out w3 hy3
      have ho3 := own_ext ho hy3
      have hlay3 := own_ext hlay hy3
      have hx3 := hx.trans hy3
      have HO3 := Lib.hid ho3
      have HLAY3 := Lib.hid hlay3
      clear ho3 hlay3 ho hlay
      go_wp2
      have hz0 := Ext.refl w3
      first | go_region_held3 (fun w' => w'.cell? ⟨w.heap.size, 1, none⟩ = some (.int .i64 (ia : Int)) ∧ w'.cell? ⟨w.heap.size, 2, none⟩ = some (.int .i64 (ib : Int)) ∧ w'.cell? ⟨w.heap.size + 1, 0, none⟩ = some (.int .i64 x.n) ∧ w'.cell? ⟨w.heap.size + 1, 1, none⟩ = some (.slice A1 x.es.length c1) ∧ w'.cell? ⟨bl, ol + ia, none⟩ = some (.int .i64 y) ∧ w'.cell? ⟨bl, ol + ib, none⟩ = some (.int .i64 z))
        (first | (refine HK.out _ (hy3.trans ?_); assumption) | exact HK.out _ hy3.drew | (refine HK4.out _ ?_ ?_ <;> assumption) | go_keep | (refine HK.out _ (hy3.trans ?_); repeat (first | exact Ext.refl _ | assumption | refine Ext.alloc ?_ _ | refine Ext.drewN ?_ _ | refine Ext.drew ?_); done))
        (first
          | (go_at_call 55; (with_reducible refine (spec_cx_any (w0 := w3) _ _ _ (by repeat (first | exact Ext.refl _ | assumption | refine Ext.alloc ?_ _ | refine Ext.drewN ?_ _ | refine Ext.drew ?_))).mono ?_); clear hz0; rintro e w' ⟨rfl, hz0⟩)
          | (refine stepG1 (B := Wb.heap.size) (by rfl) _ _ (by rfl) _ m out (by rfl) (own_ext HO3.out hz0) (Nat.le_trans hx3.size hz0.size) (gcx y z) _ _ (by rfl) (by rfl) (by omega) ?_; intro A4 c4 w4 ho4 hg4 hb4; have hx4 : Ext Wb w4 := (hx3.trans hz0).grown hg4 (fun k hk => ((own_ext HO3.out hz0).lt k hk).1); have hl4 := own_other (own_ext HLAY3.out hz0) (own_ext HO3.out hz0) intg_ne hg4)) | fail
      all_goals
        go_wp2
        go_ret2
        exact RoutE.mk (HR.out.trans (by have h1 := HT.out; rw [HST.out] at h1; rw [← h1.1, ← h1.2, HLY.out, HLZ.out, List.append_nil])) hX0 (gs := out ++ [gcx y z]) (by rw [List.length_append, HM.out]; exact ho4) hl4 hx4 HNL.out
end Go.Proofs.Ytofbmkpfliofeaa
/-
  Helper text (no claim of its own): the decomposition of lists of gates, and the routing of lists of gates, by the reference.
-/
namespace Go.Proofs.Ytofbmkpfliofeaa
open Go.ChangeShapes Go.WideShapes Go.ChangeAt Go.RowKit Go.Deep
set_option linter.unusedVariables false
def decG (gs : List Gt) : List Gt := gs.flatMap dec
theorem decG_snoc {gs : List Gt} {k : Nat} {g : Gt} (h : gs[k]? = some g) : decG (gs.take (k + 1)) = decG (gs.take k) ++ dec g := by
  unfold decG; rw [take_snoc h, List.flatMap_append]; simp
theorem decG_len (gs : List Gt) : (decG gs).length ≤ 15 * gs.length := by
  unfold decG
  induction gs with
  | nil => simp
  | cons o xs ih => have := dec_len o; rw [List.flatMap_cons, List.length_append, List.length_cons]; omega
theorem decG_take (gs : List Gt) (k : Nat) : (decG (gs.take k)).length ≤ 15 * k := by
  have h1 := decG_len (gs.take k)
  have h2 : (gs.take k).length ≤ k := List.length_take_le _ _
  omega
theorem decG_hcs (gs : List Gt) : hcs (decG gs) ≤ 2 * gs.length := by
  unfold decG
  induction gs with
  | nil => exact Nat.le_refl 0
  | cons o xs ih => have := hcs_dec o; rw [List.flatMap_cons, hcs_app, List.length_cons]; omega
theorem hcs_rgL (x : Gr) (a b : Int) : ∀ (f : Nat) (now : List Int), hcs (rgL x a b f now).1 = 0
  | 0, now => rfl
  | f + 1, now => by
    unfold rgL
    split
    · show hcs (_ :: (rgL x a b f _).1) = 0
      rw [hcs_cons, hcs_rgL x a b f _]
      rfl
    · rfl
theorem hcs_routG (x : Gr) (g : Gt) (p : List Int) : hcs (routG x g p).1 ≤ hct g := by
  cases hm : may g x p
  · rw [routG_no hm]; exact Nat.zero_le _
  · cases h1 : (ar g.k == 1)
    · rw [routG_2 hm h1]
      show hcs (_ ++ [_]) ≤ _
      rw [hcs_snoc, hcs_rgL]
      exact Nat.zero_le _
    · rw [routG_1 hm h1]
      show hcs [g1 g.k _] ≤ _
      rw [hcs_cons]
      exact Nat.le_refl _
set_option maxRecDepth 100000 in
set_option maxHeartbeats 4000000 in
theorem spec_DecomposeGates_any (A : Option Addr) (n c : Nat) (gs : List Gt) (w : World) (h : Rd w w.heap.size 4 A n (gcells gs)) (hn : n ≤ 1048576) :
    Calls Try.prog 62 #[.slice A n c] w fun e w' => ∃ v, e = .returned v ∧ w'.ownsRow w.heap.size 37 4 v (decG gs).length (gcells (decG gs)) ∧ Ext w w' := by
  have hlen := Lib.hid (h.len Gt.cells_len (by omega))
  go_enter Try.func62, Try.ntmps62
  go_wp2
  go_loopw [3, 4] (fun v i wr => ∃ k : Nat, k ≤ n ∧ i = .int .i64 k ∧ wr.ownsRow w.heap.size 37 4 v (decG (gs.take k)).length (gcells (decG (gs.take k))) ∧ Ext w wr) (fun _ i _ => n - (intOf i).toNat)
  case atStart => exact ⟨0, Nat.zero_le _, rfl, own_empty w w _ _ (Ext.refl _), (by repeat (first | exact Ext.refl _ | assumption | refine Ext.alloc ?_ _ | refine Ext.drewN ?_ _ | refine Ext.drew ?_))⟩
  case round =>
    obtain ⟨k, hk, rfl, hown, hx⟩ := hrel
    by_cases hlt : k < n
    · obtain ⟨b, o, g, rfl, hb, hg, r0, r1, r2, r3⟩ := gate_at (h.ext hx) hlt
      have HS := Lib.hid (decG_snoc hg)
      clear hg
      have hle := decG_take gs k
      have hdl := dec_len g
      go_wp2_with fail
      refine (spec_DecomposeGate_any g _).mono ?_
      rintro e w1 ⟨v1, rfl, ho1, hx1⟩
      obtain ⟨A1, c1, rfl, hr1⟩ := own_slice ho1
      clear r0 r1 r2 r3
      go_wp2_with (at_builtin; refine appGateS (w0 := w) rfl _ _ rfl _ _ (decG (gs.take k)) rfl (own_ext hown hx1) (hx.trans hx1) A1 _ c1 (dec g) rfl hr1 (by omega) ?_; intro v2 w2 ho2 hX2 hg2 hl2)
      go_roundw
      case rel => exact ⟨k + 1, by omega, by go_num, by rw [HS.out, List.length_append]; exact ho2, hX2⟩
      case measure => simp [intOf]; omega
    · rw [List.take_of_length_le (by rw [hlen.out]; omega)] at hown
      go_wp2
      go_ret
      exact ⟨_, rfl, hown, hx⟩
/-- What the routing of lists of gates hands back (only its form). -/
def RgsE (w : World) (m mh : Nat) (e : Ending) (w' : World) : Prop :=
  ∃ (v1 v2 : Value) (b : Bool) (out : List Gt), e = .returned (.tuple #[v1, v2, .bool b]) ∧ (out.length ≤ 5 * m ∧ hcs out ≤ mh) ∧ w'.ownsRow w.heap.size 37 4 v1 out.length (gcells out) ∧ Ext w w'
set_option maxRecDepth 100000 in
set_option maxHeartbeats 16000000 in
theorem spec_RouteGates_any (A : Option Addr) (n c : Nat) (gs : List Gt) (v : Value) (x : Gr) (Ap : Option Addr) (np cp : Nat) (p : List Int) (w : World) (h : Rd w w.heap.size 4 A n (gcells gs)) (hn : n ≤ 1048576) (hv : GrAt w w.heap.size v x) (hl : x.es.length ≤ 100000000) (hp : Rd w w.heap.size 1 Ap np (icells p)) (hnp : np ≤ 100000000) (hcp : np ≤ cp) :
    Calls Try.prog 26 #[.slice A n c, v, .slice Ap np cp] w (RgsE w n (hcs gs)) := by
  have hlen := Lib.hid (h.len Gt.cells_len (by omega))
  have hlp := Lib.hid (hp.len icell_len (by omega))
  obtain ⟨A1, c1, rfl, h1⟩ := hv
  have HG : Hid (∀ w', Ext w w' → GrAt w' w'.heap.size (.agg #[.int .i64 x.n, .slice A1 x.es.length c1]) x) := fun w' hx => ⟨A1, c1, rfl, h1.ext hx⟩
  clear h1
  have hB0 : Blk (w.alloc (.cells #[.int .i64 x.n, .slice A1 x.es.length c1] 27)) w.heap.size 27 #[.int .i64 x.n, .slice A1 x.es.length c1] := Blk.new _ _ _
  have hX0 : Ext w (w.alloc (.cells #[.int .i64 x.n, .slice A1 x.es.length c1] 27)) := by repeat (first | exact Ext.refl _ | assumption | refine Ext.alloc ?_ _ | refine Ext.drewN ?_ _ | refine Ext.drew ?_)
  have HB0 := Lib.hid hB0
  have HX0 := Lib.hid hX0
  clear hB0 hX0
  go_enter Try.func26, Try.ntmps26
  go_upto_region 1 with (fail)
  have hB0 := HB0.out
  have hX0 := HX0.out
  clear HB0 HX0
  generalize (w.alloc (.cells #[.int .i64 x.n, .slice A1 x.es.length c1] 27)) = Wb at *
  have hE : Ext Wb Wb := Ext.refl _
  go_upto_region 2 with (fail)
  have hoo : (Wb.alloc (.cells #[] 37)).ownsRow Wb.heap.size 37 4 (.slice (some ⟨Wb.heap.size, 0, none⟩) 0 0) 0 (gcells []) := own_lit (Ext.refl _) _ _ 4 0 #[] _ rfl rfl rfl (by omega)
  have hxo : Ext Wb (Wb.alloc (.cells #[] 37)) := (Ext.refl _).alloc _
  generalize (Wb.alloc (.cells #[] 37)) = Wo at *
  go_upto_region 3 with (at_builtin; refine appIntS (w0 := Wo) rfl _ _ rfl (.slice (some ⟨Wo.heap.size, 0, none⟩) 0 0) 0 [] rfl (own_lit (Ext.refl _) _ _ 1 0 #[] _ (by simp) rfl rfl (by omega)) ((Ext.refl _).alloc _) Ap np cp p rfl ((hp.ext (hX0.trans hxo)).ext ((Ext.refl _).alloc _)) (by omega) ?_; intro v2 w2 ho2 hx2 hg2 hb2)
  simp only [Nat.zero_add, List.nil_append] at ho2
  clear hg2 hb2 hE
  obtain ⟨A2, c2, rfl, _⟩ := own_slice ho2
  replace hoo := own_ext hoo hx2
  replace ho2 := own_base ho2 hxo.size
  have hxx : Ext Wb w2 := hxo.trans hx2
  clear hxo hx2
  have d0 : w2.cell? ⟨w.heap.size, 0, none⟩ = some (.int .i64 x.n) := (hB0.ext hxx).cell 0
  have d1 : w2.cell? ⟨w.heap.size, 1, none⟩ = some (.slice A1 x.es.length c1) := (hB0.ext hxx).cell 1
  go_wp2_with fail
  refine (spec_IsValidGraph_any _ x _ (HG.out _ (hX0.trans hxx)) hl).mono ?_
  rintro e w3 ⟨rfl, hx3⟩
  clear d0 d1
  cases hvg : vgraph x
  · clear hvg
    go_wp2
    go_ret3
    exact ⟨_, _, _, [], rfl, ⟨Nat.zero_le _, Nat.zero_le _⟩, own_base (own_ext hoo (hx3.alloc _)) hX0.size, hX0.trans (hxx.trans (hx3.alloc _))⟩
  go_wp2_with fail
  refine (spec_IsPermutation_any Ap np cp p _ (hp.ext ((hX0.trans hxx).trans hx3)) hnp hcp).mono ?_
  rintro e w4 ⟨rfl, hx4⟩
  replace hx4 := hx3.trans hx4
  clear hx3
  cases hpp : perm p
  · clear hpp
    go_wp2
    go_ret3
    exact ⟨_, _, _, [], rfl, ⟨Nat.zero_le _, Nat.zero_le _⟩, own_base (own_ext hoo (hx4.alloc _)) hX0.size, hX0.trans (hxx.trans (hx4.alloc _))⟩
  have HPP := Lib.hid hpp
  clear hvg hpp
  have d0 : w4.cell? ⟨w.heap.size, 0, none⟩ = some (.int .i64 x.n) := (hB0.ext (hxx.trans hx4)).cell 0
  cases hne : ((np : Int) == x.n)
  · have hne' : ((np : Int) != x.n) = true := by simp [bne, hne]
    go_wp2
    go_ret3
    exact ⟨_, _, _, [], rfl, ⟨Nat.zero_le _, Nat.zero_le _⟩, own_base (own_ext hoo (hx4.alloc _)) hX0.size, hX0.trans (hxx.trans (hx4.alloc _))⟩
  have hne' : ((np : Int) != x.n) = false := by simp [bne, hne]
  have HO2 := Lib.hid (own_ext ho2 hx4)
  have HX2 := Lib.hid (hxx.trans hx4)
  have HOO := Lib.hid (own_ext hoo hx4)
  clear ho2 hoo hxx hx4
  go_wp2
  clear d0 hne hne'
  go_loopw [9, 10, 11] (fun vo vl i wr => ∃ (k : Nat) (now : List Int) (out : List Gt) (Al : Option Addr) (cl : Nat) (Ao : Option Addr) (m co : Nat), k ≤ n ∧ i = .int .i64 k ∧ vl = .slice Al np cl ∧ vo = .slice Ao m co ∧ Hid (out.length = m ∧ hcs out ≤ hcs (gs.take k)) ∧ m ≤ 5 * k ∧ Hid (perm now = true ∧ now.length = np) ∧ wr.ownsRow Wb.heap.size 37 4 (.slice Ao m co) m (gcells out) ∧ wr.ownsRow Wb.heap.size 3 1 (.slice Al np cl) np (icells now) ∧ Ext Wb wr) (fun vo vl i _ => n - (intOf i).toNat)
  case atStart => exact ⟨0, p, [], _, _, _, 0, _, Nat.zero_le _, rfl, rfl, rfl, ⟨rfl, Nat.zero_le _⟩, Nat.zero_le _, ⟨HPP.out, hlp.out⟩, HOO.out, HO2.out, HX2.out⟩
  case round =>
    clear HOO HO2 HX2
    obtain ⟨k, now, out, Al, cl, Ao, m, co, hk, rfl, rfl, rfl, HM, hmk, HP, ho, hlay, hx⟩ := hrel
    have hxr := hX0.trans hx
    by_cases hlt : k < n
    · obtain ⟨b, o, g, rfl, hb, hg, r0, r1, r2, r3⟩ := gate_at (h.ext hxr) hlt
      have HSN : Hid (hcs (gs.take (k + 1)) = hcs (gs.take k) + hct g) := by unfold Hid; rw [take_snoc hg, hcs_snoc]
      clear hg
      have hB := hB0.ext hx
      have hlb := hB.lt
      have d0 : wr.cell? ⟨w.heap.size, 0, none⟩ = some (.int .i64 x.n) := hB.cell 0
      have d1 : wr.cell? ⟨w.heap.size, 1, none⟩ = some (.slice A1 x.es.length c1) := hB.cell 1
      have hk0 : (0 : Int) ≤ (k : Int) := by omega
      have hkn : (k : Int) < (n : Int) := by omega
      have HK : Hid (∀ w', Ext wr w' → w'.cell? ⟨b, o + k * 4, none⟩ = some (.int .i64 g.k) ∧ w'.cell? ⟨b, o + k * 4 + 1, none⟩ = some (.int .i64 g.a) ∧ w'.cell? ⟨b, o + k * 4 + 2, none⟩ = some (.int .i64 g.b) ∧ w'.cell? ⟨b, o + k * 4 + 3, none⟩ = some (.int .i64 g.c) ∧ w'.cell? ⟨w.heap.size, 0, none⟩ = some (.int .i64 x.n) ∧ w'.cell? ⟨w.heap.size, 1, none⟩ = some (.slice A1 x.es.length c1)) := fun w' q => ⟨(q.cell (p := ⟨b, o + k * 4, none⟩) hb).trans r0, (q.cell (p := ⟨b, o + k * 4 + 1, none⟩) hb).trans r1, (q.cell (p := ⟨b, o + k * 4 + 2, none⟩) hb).trans r2, (q.cell (p := ⟨b, o + k * 4 + 3, none⟩) hb).trans r3, (hB.ext q).cell 0, (hB.ext q).cell 1⟩
      go_wp2
      go_region_held3 (fun w' => w'.cell? ⟨b, o + k * 4, none⟩ = some (.int .i64 g.k) ∧ w'.cell? ⟨b, o + k * 4 + 1, none⟩ = some (.int .i64 g.a) ∧ w'.cell? ⟨b, o + k * 4 + 2, none⟩ = some (.int .i64 g.b) ∧ w'.cell? ⟨b, o + k * 4 + 3, none⟩ = some (.int .i64 g.c) ∧ w'.cell? ⟨w.heap.size, 0, none⟩ = some (.int .i64 x.n) ∧ w'.cell? ⟨w.heap.size, 1, none⟩ = some (.slice A1 x.es.length c1))
        (first | go_keep | exact HK.out _ (by assumption))
        (first
          | (go_at_call 51; refine (spec_l38Right_any g _ x Al np cl now _ (HG.out _ (hxr.drew)) hl ((Rd.own hlay).ext (Ext.refl wr).drew) (by omega) (own_le hlay)).mono ?_; rintro e w1 ⟨rfl, hy1⟩; replace hy1 : Ext wr w1 := Ext.trans (Ext.refl wr).drew hy1))
      have hX1 := hx.trans hy1
      have ho1 := own_ext ho hy1
      have hlay1 := own_ext hlay hy1
      obtain ⟨r0, r1, r2, r3, d0, d1⟩ := HK.out w1 hy1
      cases hm : may g x now
      · go_wp2
        go_ret3
        exact ⟨_, _, _, [], rfl, ⟨Nat.zero_le _, Nat.zero_le _⟩, own_base (own_ext (own_lit hX1 _ _ 4 0 #[] _ rfl rfl rfl (by omega)) ((Ext.refl _).alloc _)) hX0.size, hX0.trans ((hX1.alloc _).alloc _)⟩
      · have hxr1 := hX0.trans hX1
        have HK1 : Hid (∀ w', Ext w1 w' → w'.cell? ⟨b, o + k * 4, none⟩ = some (.int .i64 g.k) ∧ w'.cell? ⟨b, o + k * 4 + 1, none⟩ = some (.int .i64 g.a) ∧ w'.cell? ⟨b, o + k * 4 + 2, none⟩ = some (.int .i64 g.b) ∧ w'.cell? ⟨b, o + k * 4 + 3, none⟩ = some (.int .i64 g.c) ∧ w'.cell? ⟨w.heap.size, 0, none⟩ = some (.int .i64 x.n) ∧ w'.cell? ⟨w.heap.size, 1, none⟩ = some (.slice A1 x.es.length c1)) := fun w' q => HK.out w' (hy1.trans q)
        have HW := Lib.hid (routG_way (x := x) (g := g) HP.out.1)
        have hrl := routG_len x g now
        clear HK hm
        go_wp2
        go_region_held3 (fun w' => w'.cell? ⟨b, o + k * 4, none⟩ = some (.int .i64 g.k) ∧ w'.cell? ⟨b, o + k * 4 + 1, none⟩ = some (.int .i64 g.a) ∧ w'.cell? ⟨b, o + k * 4 + 2, none⟩ = some (.int .i64 g.b) ∧ w'.cell? ⟨b, o + k * 4 + 3, none⟩ = some (.int .i64 g.c) ∧ w'.cell? ⟨w.heap.size, 0, none⟩ = some (.int .i64 x.n) ∧ w'.cell? ⟨w.heap.size, 1, none⟩ = some (.slice A1 x.es.length c1))
          (first | go_keep | exact HK1.out _ (by assumption))
          (first
            | (go_at_call 52; refine (spec_RouteGate_any g _ x Al np cl now _ (HG.out _ (hxr1.drew)) hl ((Rd.own hlay1).ext (Ext.refl w1).drew) (by omega) (own_le hlay1)).mono ?_; rintro e w3 ⟨v3, A3, l3, c3, rfl, hl3, hc3, hg3, hp3, hy3⟩; replace hy3 : Ext w1 w3 := Ext.trans (Ext.refl w1).drew hy3; have HL3 := Lib.hid hl3; clear hl3))
        obtain ⟨A4, c4, rfl, hr4⟩ := own_slice hg3
        have HL : Hid (l3 = np) := by unfold Hid; rw [HL3.out, HW.out.2, HP.out.2]
        clear HL3
        obtain rfl := HL.out
        clear HL r0 r1 r2 r3 d0 d1 HK1
        obtain ⟨q2, hq2⟩ : ∃ q2, q2 = (routG x g now).2 := ⟨_, rfl⟩
        rw [← hq2] at hp3
        have HQ2 : Hid (perm q2 = true ∧ q2.length = l3) := by unfold Hid; rw [hq2, ← HP.out.2]; exact HW.out
        clear hq2 HW
        have hX3 := hX1.trans hy3
        have hp3' := own_base hp3 (show Wb.heap.size ≤ w1.drew.heap.size from hX1.size)
        go_wp2_with (at_builtin; refine appGateS (w0 := Wb) rfl _ _ rfl _ m out rfl (own_ext ho1 hy3) hX3 A4 _ c4 (routG x g now).1 rfl hr4 (by omega) ?_; intro v5 w5 ho5 hX5 hg5 hl5)
        obtain ⟨A5, c5, rfl, _⟩ := own_slice ho5
        have hp5 := own_other hp3' (own_ext ho1 hy3) intg_ne hg5
        go_roundw
        case rel => exact ⟨k + 1, q2, out ++ (routG x g now).1, _, _, _, m + (routG x g now).1.length, _, by omega, by go_num, rfl, rfl, by unfold Hid; rw [List.length_append, HM.out.1, hcs_app, HSN.out]; have e1 := HM.out.2; have e2 := hcs_routG x g now; exact ⟨rfl, by omega⟩, by omega, HQ2, ho5, hp5, hX5⟩
        case measure => simp [intOf]; omega
    · go_wp2
      go_ret3
      have hkn : k = n := by omega
      subst hkn
      have hT := HM.out.2
      rw [List.take_of_length_le (by rw [hlen.out]; exact Nat.le_refl _)] at hT
      exact ⟨_, _, _, out, rfl, ⟨by rw [HM.out.1]; omega, hT⟩, by rw [HM.out.1]; exact own_base ho hX0.size, hxr⟩
end Go.Proofs.Ytofbmkpfliofeaa
/-
  Helper text (no claim of its own): drawn gates beside a drawn graph. Printed by gen_draww.py.
-/
namespace Go.Proofs.Ytofbmkpfliofeaa
open Go.ChangeShapes Go.WideShapes Go.ChangeAt Go.RowKit Go.Deep
set_option linter.unusedVariables false
theorem graphgate_ne : (27 : Nat) ≠ 37 := by decide
theorem edgegate_ne : (63 : Nat) ≠ 37 := by decide
theorem blk_apart {w : World} {s T : Nat} {cs : Array Value} {B e size n : Nat} {v : Value} {xs : List Value} (h : Blk w s T cs) (ho : w.ownsRow B e size v n xs) (hne : T ≠ e) : ∀ k, v.ownBlock = some k → s ≠ k := by
  intro k hk e1
  subst e1
  rcases ho.2 with ⟨rfl, _⟩ | ⟨b', cap', cur', rfl, _, hc', _⟩
  · cases hk
  · injection hk with hk
    subst hk
    unfold Blk at h
    rw [h] at hc'
    injection hc' with hc'
    injection hc' with _ hc'
    exact hne hc'
section
variable {w0 w w' : World} {g q : Nat} {N N' : Int} {A A' : Option Addr} {l c l' c' : Nat} {es es' : List Ed} {L L' : Option Addr} {len cap cap' : Nat} {gs : List Gt}
/-- The graph's header is written anew. -/
theorem DG.fresh (h : DG w0 w g q N A l c es) (hg : w.grownBy w' (some g)) (hC : Cur w' g) (hs : g < q) (hl : g < w0.heap.size) (hq : w0.heap.size < q) (ho : w'.ownsRow w.heap.size 63 2 (.slice A' l' c') l' (ecells es')) (hok : ∀ e ∈ es', e.ok) :
    DG w0 ((w'.setCell ⟨q, 0, none⟩ (.int .i64 N')).setCell ⟨q, 1, none⟩ (.slice A' l' c')) g q N' A' l' c' es' := by
  have hlt := h.2.1.lt
  have hlw := h.1.lt
  obtain ⟨h1, h2, h3, h4, h5, h6, h7⟩ := h.grown hg hC hs hl
  refine ⟨(h1.far (p := ⟨q, 0, none⟩) (by simp; omega) _).far (p := ⟨q, 1, none⟩) (by simp; omega) _, h2.set2 _ _, own_base (own_set (own_set ho (p := ⟨q, 0, none⟩) hlt _) (p := ⟨q, 1, none⟩) hlt _) hlw, ?_, h5.set2 hs _ _, gr_set2 h6 (Nat.le_of_lt hq) _ _, hok⟩
  intro k hk
  have := (ho.lt k hk).1
  omega
/-- A row of gates is written. -/
theorem DG.rowG {B n : Nat} {v : Value} {xs : List Value} (h : DG w0 w g q N A l c es) (ho : w.ownsRow B 37 4 v n xs) (hB : w0.heap.size < B) (hl : g < w0.heap.size) (hg : w.grownBy w' v.ownBlock) : DG w0 w' g q N A l c es := by
  obtain ⟨h1, h2, h3, h4, h5, h6, h7⟩ := h
  have hlo : ∀ k, v.ownBlock = some k → B ≤ k := fun k hk => (ho.lt k hk).1
  exact ⟨h1.grown hg (blk_apart h1 ho graphgate_ne), h2.grown hg (blk_apart h2 ho graphgate_ne), own_other h3 ho edgegate_ne hg, h4, h5.grown hg (fun k hk => by have := hlo k hk; omega), gr_new h6 hg (fun k hk => by have := hlo k hk; omega), h7⟩
/-- Drawn gates and a drawn graph whose header lies in block q. -/
def LG (w0 w : World) (g q : Nat) (N : Int) (A : Option Addr) (l c : Nat) (es : List Ed) (L : Option Addr) (len cap : Nat) (gs : List Gt) : Prop :=
  DG w0 w g q N A l c es ∧ w.ownsRow (w0.heap.size + 1) 37 4 (.slice L len cap) len (gcells gs)
theorem LG.cur (h : LG w0 w g q N A l c es L len cap gs) : Cur w g := h.1.2.2.2.2.1
theorem LG.grown (h : LG w0 w g q N A l c es L len cap gs) (hg : w.grownBy w' (some g)) (hC : Cur w' g) (hs : g < q) (hl : g < w0.heap.size) : LG w0 w' g q N A l c es L len cap gs :=
  ⟨h.1.grown hg hC hs hl, own_kept h.2 hg (fun k hk => by injection hk; omega)⟩
theorem LG.fresh (h : LG w0 w g q N A l c es L len cap gs) (hg : w.grownBy w' (some g)) (hC : Cur w' g) (hs : g < q) (hl : g < w0.heap.size) (hq : w0.heap.size < q) (ho : w'.ownsRow w.heap.size 63 2 (.slice A' l' c') l' (ecells es')) (hok : ∀ e ∈ es', e.ok) :
    LG w0 ((w'.setCell ⟨q, 0, none⟩ (.int .i64 N')).setCell ⟨q, 1, none⟩ (.slice A' l' c')) g q N' A' l' c' es' L len cap gs := by
  refine ⟨h.1.fresh hg hC hs hl hq ho hok, ?_⟩
  have h2 := own_kept h.2 hg (fun k hk => by injection hk; omega)
  have hb := h.1.2.1.grown hg (fun k hk => by injection hk; omega)
  have ha := blk_apart hb h2 graphgate_ne
  have k1 := h2.kept (row := some q) (gr_setCell (World.grownBy.refl w' (some q)) 0 (.int .i64 N')) (by
    cases hv : (Value.slice L len cap).ownBlock with
    | none => exact .inl rfl
    | some k => exact .inr (fun e => ha k hv (by injection e with e; exact e.symm)))
  exact k1.kept (row := some q) (gr_setCell (World.grownBy.refl _ (some q)) 1 _) (by
    cases hv : (Value.slice L len cap).ownBlock with
    | none => exact .inl rfl
    | some k => exact .inr (fun e => ha k hv (by injection e with e; exact e.symm)))
theorem LG.app {y : Gt} (h : LG w0 w g q N A l c es L len cap gs) (hl : g < w0.heap.size) (ho : w'.ownsRow (w0.heap.size + 1) 37 4 (.slice L' (len + 1) cap') (len + 1) (gcells (gs ++ [y]))) (hg : w.grownBy w' (Value.slice L len cap).ownBlock) : LG w0 w' g q N A l c es L' (len + 1) cap' (gs ++ [y]) :=
  ⟨h.1.rowG h.2 (Nat.lt_succ_self _) hl hg, ho⟩
theorem LG.drew (h : LG w0 w g q N A l c es L len cap gs) : LG w0 w.drew g q N A l c es L len cap gs := ⟨h.1.drew, own_ext h.2 (Ext.refl w).drew⟩
theorem LG.fin (h : LG w0 w g q N A l c es L len cap gs) (hl : g < w0.heap.size) :
    (((w.setCell ⟨w0.heap.size, 0, none⟩ (.int .i64 N)).setCell ⟨w0.heap.size, 1, none⟩ (.slice A l c)).cell? ⟨w0.heap.size, 0, none⟩ = some (.int .i64 N) ∧ ((w.setCell ⟨w0.heap.size, 0, none⟩ (.int .i64 N)).setCell ⟨w0.heap.size, 1, none⟩ (.slice A l c)).cell? ⟨w0.heap.size, 1, none⟩ = some (.slice A l c)) ∧
    ((w.setCell ⟨w0.heap.size, 0, none⟩ (.int .i64 N)).setCell ⟨w0.heap.size, 1, none⟩ (.slice A l c)).ownsRow w0.heap.size 37 4 (.slice L len cap) len (gcells gs) ∧
    ((w.setCell ⟨w0.heap.size, 0, none⟩ (.int .i64 N)).setCell ⟨w0.heap.size, 1, none⟩ (.slice A l c)).ownsRow w0.heap.size 63 2 (.slice A l c) l (ecells es) ∧ Cur ((w.setCell ⟨w0.heap.size, 0, none⟩ (.int .i64 N)).setCell ⟨w0.heap.size, 1, none⟩ (.slice A l c)) g ∧ w0.grownBy ((w.setCell ⟨w0.heap.size, 0, none⟩ (.int .i64 N)).setCell ⟨w0.heap.size, 1, none⟩ (.slice A l c)) (some g) ∧ ∀ e ∈ es, e.ok := by
  have hb := h.1.1.set2 (.int .i64 N) (.slice A l c)
  obtain ⟨d1, d2, d3, d4⟩ := h.1.done hl
  exact ⟨⟨hb.cell 0, hb.cell 1⟩, own_base (own_set (own_set h.2 (p := ⟨w0.heap.size, 0, none⟩) (by simp) _) (p := ⟨w0.heap.size, 1, none⟩) (by simp) _) (by omega), d1, d2, d3, d4⟩
theorem LG.finD (h : LG w0 w g q N A l c es L len cap gs) (hl : g < w0.heap.size) :
    (((w.setCell ⟨w0.heap.size, 0, none⟩ (.int .i64 N)).setCell ⟨w0.heap.size, 1, none⟩ (.slice A l c)).drew.cell? ⟨w0.heap.size, 0, none⟩ = some (.int .i64 N) ∧ ((w.setCell ⟨w0.heap.size, 0, none⟩ (.int .i64 N)).setCell ⟨w0.heap.size, 1, none⟩ (.slice A l c)).drew.cell? ⟨w0.heap.size, 1, none⟩ = some (.slice A l c)) ∧
    ((w.setCell ⟨w0.heap.size, 0, none⟩ (.int .i64 N)).setCell ⟨w0.heap.size, 1, none⟩ (.slice A l c)).drew.ownsRow w0.heap.size 37 4 (.slice L len cap) len (gcells gs) ∧
    ((w.setCell ⟨w0.heap.size, 0, none⟩ (.int .i64 N)).setCell ⟨w0.heap.size, 1, none⟩ (.slice A l c)).drew.ownsRow w0.heap.size 63 2 (.slice A l c) l (ecells es) ∧ Cur ((w.setCell ⟨w0.heap.size, 0, none⟩ (.int .i64 N)).setCell ⟨w0.heap.size, 1, none⟩ (.slice A l c)).drew g ∧ w0.grownBy ((w.setCell ⟨w0.heap.size, 0, none⟩ (.int .i64 N)).setCell ⟨w0.heap.size, 1, none⟩ (.slice A l c)).drew (some g) ∧ ∀ e ∈ es, e.ok := by
  obtain ⟨⟨q0, q1⟩, e1, e2, e3, e4, e5⟩ := h.fin hl
  exact ⟨⟨q0, q1⟩, own_ext e1 (Ext.refl _).drew, own_ext e2 (Ext.refl _).drew, e3.ext (Ext.refl _).drew, gr_ext e4 (Ext.refl _).drew, e5⟩
end
theorem circField (a b : Value) (w : World) : (Instr.field 101 (.agg #[a, b]) 1).run Try.prog w = .ok b w := by kernel_rfl
/-- What a draw of gates and a graph hands back. -/
def DrewLG (w : World) (g most mh : Nat) (e : Ending) (w' : World) : Prop :=
  ∃ (L : Option Addr) (len cap : Nat) (gs : List Gt) (N : Int) (A : Option Addr) (l c : Nat) (es : List Ed), e = .returned (.tuple #[.slice L len cap, .agg #[.int .i64 N, .slice A l c]]) ∧ (-1 ≤ N ∧ N ≤ 5) ∧ (len ≤ most ∧ hcs gs ≤ mh) ∧ l ≤ 8 ∧ w'.ownsRow w.heap.size 37 4 (.slice L len cap) len (gcells gs) ∧ w'.ownsRow w.heap.size 63 2 (.slice A l c) l (ecells es) ∧ Cur w' g ∧ w.grownBy w' (some g) ∧ ∀ e ∈ es, e.ok
theorem DrewLG.mk {w w' : World} {g most mh : Nat} (L : Option Addr) (len cap : Nat) (gs : List Gt) (N : Int) (A : Option Addr) (l c : Nat) (es : List Ed) (h1 : -1 ≤ N ∧ N ≤ 5) (h2 : len ≤ most ∧ hcs gs ≤ mh) (h3 : l ≤ 8) (h4 : w'.ownsRow w.heap.size 37 4 (.slice L len cap) len (gcells gs) ∧ w'.ownsRow w.heap.size 63 2 (.slice A l c) l (ecells es) ∧ Cur w' g ∧ w.grownBy w' (some g) ∧ ∀ e ∈ es, e.ok) : DrewLG w g most mh (.returned (.tuple #[.slice L len cap, .agg #[.int .i64 N, .slice A l c]])) w' :=
  ⟨L, len, cap, gs, N, A, l, c, es, rfl, h1, h2, h3, h4⟩
set_option maxRecDepth 100000 in
set_option maxHeartbeats 16000000 in
theorem l37Args_any (g most : Nat) (hm : most ≤ 200) (w : World) (h : Cur w g) :
    Calls Try.prog 46 #[.pointer (some ⟨g, 0, none⟩), .int .i64 most] w (DrewLG w g (15 * most + 1) (2 * most + 1)) := by
  have hgl := h.lt
  have hcf := circField
  go_enter Try.func46, Try.ntmps46
  go_wp2_with fail
  refine (l1Below_any g 4 _ (h.alloc _) (by omega)).mono ?_
  rintro e w2 ⟨x, rfl, ⟨hx0, hx1, _⟩, hC2, hG2⟩
  obtain ⟨n, rfl⟩ := Int.eq_ofNat_of_zero_le hx0
  have hx2 : n < 4 := by have := hx1 (by omega); omega
  clear hx1 hx0
  go_wp2_with fail
  obtain ⟨n1, e1, hb1, hb2⟩ : ∃ n1 : Nat, (1 : Int) + (n : Int) = (n1 : Int) ∧ 1 ≤ n1 ∧ n1 ≤ 4 := ⟨n + 1, by omega, by omega, by omega⟩
  rw [e1]
  clear e1
  refine (l36Right_any g n1 ⟨by omega, by omega⟩ _ hC2).mono ?_
  rintro e w3 ⟨N, A, l, c, es, rfl, rfl, hll, ho3, hC3, hG3, hok3⟩
  have hB2 := (Blk.new w 27 #[.int .i64 0, .slice none 0 0]).grown hG2 (fun k hk => by injection hk; omega)
  have hB3 := hB2.grown hG3 (fun k hk => by injection hk; omega)
  have hl2 := hB2.lt
  have hl3 := hB3.lt
  have hg3 : w.grownBy w3 (some g) := gr_trans (gr_trans (((Ext.refl w).alloc _).gr _) hG2) hG3
  have hD : DG w (w3.alloc (.cells #[.int .i64 n1, .slice A l c] 27)) g w3.heap.size n1 A l c es :=
    ⟨hB3.alloc _, Blk.new _ _ _, own_ext (own_base ho3 hl2) ((Ext.refl w3).alloc _), own_ne (own_base ho3 hl2) (Nat.le_refl _), hC3.alloc _, gr_alloc hg3 _, hok3⟩
  clear hB2 hB3 hG2 hG3 hg3 hC2 ho3
  go_wp2_with fail
  refine (l11Right_any g n1 most ⟨by omega, by omega⟩ hm _ (hC3.alloc _)).mono ?_
  rintro e w4 ⟨L, len, cap, gs, rfl, hlen, ho4, hC4, hG4⟩
  have hgs : g < w3.heap.size := by omega
  have hD4 := hD.grown hG4 hC4 hgs hgl
  have ho4' := own_base ho4 (show w.heap.size + 1 ≤ (w3.alloc (.cells #[.int .i64 n1, .slice A l c] 27)).heap.size from by simp; omega)
  have hgl4 := (Rd.own ho4).len Gt.cells_len (by omega)
  clear hD hG4 hC3 ho4 hok3
  generalize w3.heap.size = q at *
  have hws : w.heap.size < q := by omega
  go_wp2_with fail
  refine (spec_DecomposeGates_any L len cap gs _ (Rd.own ho4') (by omega)).mono ?_
  rintro e w5 ⟨v5, rfl, ho5, hx5⟩
  obtain ⟨L5, c5, rfl, _⟩ := own_slice ho5
  have hdl := decG_len gs
  have hdh := decG_hcs gs
  have HL5 := Lib.hid (show LG w w5 g q n1 A l c es L5 (decG gs).length c5 (decG gs) from ⟨hD4.grown (hx5.gr _) (hC4.ext hx5) hgs hgl, own_base ho5 (Nat.succ_le_of_lt hD4.1.lt)⟩)
  clear hD4 ho4' ho5 hx5 hC4
  rw [hgl4] at hdl hdh
  clear hgl4
  generalize decG gs = ds at *
  generalize ds.length = m5 at *
  go_wp2_with fail
  refine (l1Once_any g 12 _ HL5.out.cur (by omega)).mono ?_
  rintro e w6 ⟨f1, rfl, hC6, hG6⟩
  have HL6 := Lib.hid (HL5.out.grown hG6 hC6 hgs hgl)
  clear HL5 hG6
  cases f1
  case' false =>
    have HLa := HL6
    have hNa : -1 ≤ (n1 : Int) ∧ (n1 : Int) ≤ 5 := by omega
    have hla : l ≤ 8 := by omega
    clear HL6
  case' true =>
    go_wp2_with fail
    refine (l36Bent_any g _ hC6).mono ?_
    rintro e w7 ⟨N', A', l', c', es', rfl, hNa, hla, ho7, hC7, hG7, hok7⟩
    have HL7 := Lib.hid (HL6.out.grown hG7 hC7 hgs hgl)
    have hs7 := HL7.out.1.2.1.lt
    obtain ⟨⟨b0, b1⟩, z0, z1⟩ := blk2 HL7.out.1.2.1
    have HLa := Lib.hid (HL6.out.fresh (N' := N') hG7 hC7 hgs hgl hws ho7 hok7)
    clear HL6 HL7 ho7 hok7 hG7 hC6
  all_goals
    go_wp2_with fail
    refine (l1Once_any g 12 _ HLa.out.cur (by omega)).mono ?_
    rintro e w8 ⟨f2, rfl, hC8, hG8⟩
    have HL8 := Lib.hid (HLa.out.grown hG8 hC8 hgs hgl)
    clear HLa hG8
    (try clear b0 b1 z0 z1)
    cases f2
    case' false =>
      have HL := HL8
      have hlm : m5 ≤ 15 * most + 1 ∧ hcs ds ≤ 2 * most + 1 := by omega
      clear HL8
    case' true =>
      go_wp2_with fail
      refine (l9Bent_any g n1 ⟨by omega, by omega⟩ _ hC8).mono ?_
      rintro e w9 ⟨y, rfl, hC9, hG9⟩
      have HL9 := Lib.hid (HL8.out.grown hG9 hC9 hgs hgl)
      have hw9 := HL9.out.1.1.lt
      clear HL8 hG9 hC8
      go_upto_region 8 with (at_builtin; refine appG1 (B := w.heap.size + 1) rfl _ _ rfl _ m5 ds rfl HL9.out.2 (by omega) y _ _ rfl rfl (by omega) ?_; intro L9 cap9 w10 ho10 hg10 _; have HL := Lib.hid (HL9.out.app hgl ho10 hg10); clear ho10 hg10 HL9)
      have hlm : m5 + 1 ≤ 15 * most + 1 ∧ hcs (ds ++ [y]) ≤ 2 * most + 1 := by
        have hy1 := hct_le y
        rw [hcs_snoc]
        omega
    all_goals
      have hq8 := HL.out.1.2.1.lt
      have hw8 := HL.out.1.1.lt
      obtain ⟨⟨b0, b1⟩, z0, z1⟩ := blk2 HL.out.1.2.1
      obtain ⟨⟨a0, a1⟩, y0, y1⟩ := blk2 HL.out.1.1
      (try go_wp2)
      refine wp_region_held_drew (S := fun W => W.cell? ⟨q, 0, none⟩ = some _ ∧ W.cell? ⟨q, 1, none⟩ = some _) (by kernel_rfl) ⟨HL.out.drew.1.2.1.cell 0, HL.out.drew.1.2.1.cell 1⟩ (fun hHeld => ?_)
      (refine wpAnyH_take (i := 0) (v := ?_) rfl (by kernel_rfl) (by kernel_rfl) (by kernel_rfl) (fun _ _ _ h => h) (Or.inl ⟨by rfl, ?_⟩) (by assumption) ?_; rotate_left; · (intro w hSw; (try dsimp only at hSw); go_simp; all_goals with_reducible rfl); (try simp only [Act.put, List.getElem_toArray, List.getElem_cons_zero, List.getElem_cons_succ, List.setIfInBounds_toArray, List.set_cons_zero, List.set_cons_succ]))
      (try simp only [Act.put, List.getElem_toArray, List.getElem_cons_zero, List.getElem_cons_succ, List.setIfInBounds_toArray, List.set_cons_zero, List.set_cons_succ])
      (refine wpAnyH_take (i := 1) (v := ?_) rfl (by kernel_rfl) (by kernel_rfl) (by kernel_rfl) (fun _ _ _ h => h) (Or.inl ⟨by rfl, ?_⟩) (by assumption) ?_; rotate_left; · (intro w hSw; (try dsimp only at hSw); go_simp; all_goals with_reducible rfl); (try simp only [Act.put, List.getElem_toArray, List.getElem_cons_zero, List.getElem_cons_succ, List.setIfInBounds_toArray, List.set_cons_zero, List.set_cons_succ]))
      (try simp only [Act.put, List.getElem_toArray, List.getElem_cons_zero, List.getElem_cons_succ, List.setIfInBounds_toArray, List.set_cons_zero, List.set_cons_succ])
      (refine wpAnyH_take (i := 2) (v := ?_) rfl (by kernel_rfl) (by kernel_rfl) (by kernel_rfl) (fun _ _ _ h => h) (Or.inl ⟨by rfl, ?_⟩) (by assumption) ?_; rotate_left; · (intro w hSw; (try dsimp only at hSw); go_simp; all_goals with_reducible rfl); (try simp only [Act.put, List.getElem_toArray, List.getElem_cons_zero, List.getElem_cons_succ, List.setIfInBounds_toArray, List.set_cons_zero, List.set_cons_succ]))
      (try simp only [Act.put, List.getElem_toArray, List.getElem_cons_zero, List.getElem_cons_succ, List.setIfInBounds_toArray, List.set_cons_zero, List.set_cons_succ])
      refine wpAnyH_ready (rs := [3]) (by kernel_rfl) (by simp) ?_
      refine AllReadyH.cons rfl (fun K hK => ?_) AllReadyH.nil
      go_simp
      have hne : q ≠ w.heap.size := by omega
      refine hK.out _ _ ⟨((HL.out.drew.1.2.1.far (p := ⟨w.heap.size, 0, none⟩) hne _).far (p := ⟨w.heap.size, 1, none⟩) hne _).cell 0, ((HL.out.drew.1.2.1.far (p := ⟨w.heap.size, 0, none⟩) hne _).far (p := ⟨w.heap.size, 1, none⟩) hne _).cell 1⟩ (fun hHeld => ?_)
      clear hK K
      (try simp only [Act.put, List.getElem_toArray, List.getElem_cons_zero, List.getElem_cons_succ, List.setIfInBounds_toArray, List.set_cons_zero, List.set_cons_succ])
      (refine wpAnyH_done (by kernel_rfl) ?_ _)
      clear hHeld a0 a1 y0 y1 b0 b1 z0 z1
      obtain ⟨⟨q0, q1⟩, e1, e2, e3, e4, e5⟩ := HL.out.finD hgl
      go_wp2
      exact bodyPost_ret (v := .tuple #[.slice _ _ _, .agg #[.int .i64 _, .slice _ _ _]]) (by simp [results, Try.results46, go_sem, q0, q1]) rfl (DrewLG.mk _ _ _ _ _ _ _ _ _ hNa hlm hla ⟨e1, e2, e3, e4, e5⟩)
end Go.Proofs.Ytofbmkpfliofeaa
/-
  Helper text (no claim of its own): orientation of lists of gates by the reference.
-/
namespace Go.Proofs.Ytofbmkpfliofeaa
open Go.ChangeShapes Go.WideShapes Go.ChangeAt Go.RowKit Go.Deep
set_option maxRecDepth 100000 in
set_option maxHeartbeats 8000000 in
theorem spec_OrientGates_any (A : Option Addr) (n c : Nat) (gs : List Gt) (v : Value) (x : Gr) (w : World) (h : Rd w w.heap.size 4 A n (gcells gs)) (hv : GrAt w w.heap.size v x) (hn : n ≤ 1048576) (hm : x.es.length ≤ 100000000) :
    Calls Try.prog 7 #[.slice A n c, v] w fun e w' => ∃ v, e = .returned (.tuple #[v, .bool (oriAllOk x gs)]) ∧ w'.ownsRow w.heap.size 37 4 v (oriAll x gs).length (gcells (oriAll x gs)) ∧ Ext w w' := by
  have hlen := Lib.hid (h.len Gt.cells_len (by omega))
  obtain ⟨A1, c1, rfl, h1⟩ := hv
  have hG : GrAt w w.heap.size (.agg #[.int .i64 x.n, .slice A1 x.es.length c1]) x := ⟨A1, c1, rfl, h1⟩
  clear h1
  have hx0 : Ext w (w.alloc (.cells #[.int .i64 x.n, .slice A1 x.es.length c1] 27)) := by repeat (first | exact Ext.refl _ | assumption | refine Ext.alloc ?_ _ | refine Ext.drewN ?_ _ | refine Ext.drew ?_)
  have hb1 : Blk (w.alloc (.cells #[.int .i64 x.n, .slice A1 x.es.length c1] 27)) w.heap.size 27 #[.int .i64 x.n, .slice A1 x.es.length c1] := Blk.new _ _ _
  have ho0 : ((w.alloc (.cells #[.int .i64 x.n, .slice A1 x.es.length c1] 27)).alloc (.cells #[] 37)).ownsRow (w.alloc (.cells #[.int .i64 x.n, .slice A1 x.es.length c1] 27)).heap.size 37 4 (.slice (some ⟨w.heap.size + 1, 0, none⟩) 0 0) 0 (gcells []) := own_lit (Ext.refl _) _ _ 4 0 #[] _ (by simp) rfl rfl (by omega)
  have HO0 := Lib.hid ho0
  have HX0 := Lib.hid hx0
  have HB1 := Lib.hid hb1
  clear ho0 hx0 hb1
  go_enter Try.func7, Try.ntmps7
  go_wp2
  have ho0 := HO0.out
  have hx0 := HX0.out
  have hb1 := HB1.out
  clear HO0 HX0 HB1
  have hxs : Ext (w.alloc (.cells #[.int .i64 x.n, .slice A1 x.es.length c1] 27)) ((w.alloc (.cells #[.int .i64 x.n, .slice A1 x.es.length c1] 27)).alloc (.cells #[] 37)) := (Ext.refl _).alloc _
  generalize ((w.alloc (.cells #[.int .i64 x.n, .slice A1 x.es.length c1] 27)).alloc (.cells #[] 37)) = Ws at *
  generalize (w.alloc (.cells #[.int .i64 x.n, .slice A1 x.es.length c1] 27)) = W at *
  go_loopw [6, 7] (fun v i wr => ∃ k : Nat, k ≤ n ∧ i = .int .i64 k ∧ Hid (oriAllOk x (gs.take k) = true) ∧ wr.ownsRow W.heap.size 37 4 v ((gs.take k).flatMap (oriL x)).length (gcells ((gs.take k).flatMap (oriL x))) ∧ Ext W wr) (fun _ i _ => n - (intOf i).toNat)
  case atStart => exact ⟨0, Nat.zero_le _, rfl, Lib.hid (by simp [oriAllOk]), ho0, hxs⟩
  case round =>
    obtain ⟨k, hk, rfl, HQ, hown, hX⟩ := hrel
    have hxr := hx0.trans hX
    by_cases hlt : k < n
    · obtain ⟨b, o, g, rfl, hb, hg, r0, r1, r2, r3⟩ := gate_at (h.ext hxr) hlt
      have HG := Lib.hid hg
      clear hg
      have hB := hb1.ext hX
      have hlb := hB.lt
      have d0 : wr.cell? ⟨w.heap.size, 0, none⟩ = some (.int .i64 x.n) := hB.cell 0
      have d1 : wr.cell? ⟨w.heap.size, 1, none⟩ = some (.slice A1 x.es.length c1) := hB.cell 1
      have hf : ((gs.take k).flatMap (oriL x)).length ≤ 80000000 := by
        have z1 := oriF_len x (gs.take k)
        have z2 : (gs.take k).length ≤ k := List.length_take_le _ _
        omega
      have hol := oriL_len x g
      have hk0 : (0 : Int) ≤ (k : Int) := by omega
      have hkn : (k : Int) < (n : Int) := by omega
      have HK : Hid (∀ w', Ext wr w' → w'.cell? ⟨b, o + k * 4, none⟩ = some (.int .i64 g.k) ∧ w'.cell? ⟨b, o + k * 4 + 1, none⟩ = some (.int .i64 g.a) ∧ w'.cell? ⟨b, o + k * 4 + 2, none⟩ = some (.int .i64 g.b) ∧ w'.cell? ⟨b, o + k * 4 + 3, none⟩ = some (.int .i64 g.c) ∧ w'.cell? ⟨w.heap.size, 0, none⟩ = some (.int .i64 x.n) ∧ w'.cell? ⟨w.heap.size, 1, none⟩ = some (.slice A1 x.es.length c1)) := fun w' q => ⟨(q.cell (p := ⟨b, o + k * 4, none⟩) hb).trans r0, (q.cell (p := ⟨b, o + k * 4 + 1, none⟩) hb).trans r1, (q.cell (p := ⟨b, o + k * 4 + 2, none⟩) hb).trans r2, (q.cell (p := ⟨b, o + k * 4 + 3, none⟩) hb).trans r3, (hB.ext q).cell 0, (hB.ext q).cell 1⟩
      go_wp2
      go_region_held3 (fun w' => w'.cell? ⟨b, o + k * 4, none⟩ = some (.int .i64 g.k) ∧ w'.cell? ⟨b, o + k * 4 + 1, none⟩ = some (.int .i64 g.a) ∧ w'.cell? ⟨b, o + k * 4 + 2, none⟩ = some (.int .i64 g.b) ∧ w'.cell? ⟨b, o + k * 4 + 3, none⟩ = some (.int .i64 g.c) ∧ w'.cell? ⟨w.heap.size, 0, none⟩ = some (.int .i64 x.n) ∧ w'.cell? ⟨w.heap.size, 1, none⟩ = some (.slice A1 x.es.length c1))
        (first | go_keep | exact HK.out _ (by assumption))
        (first
          | (go_at_call 14; refine (spec_OrientGate_any _ x g _ ((hG.up hxr.drew (Nat.le_refl _)).more hxr.drew.size) hm).mono ?_; rintro e w1 ⟨v1, rfl, hl1, hy1⟩; replace hy1 : Ext wr w1 := Ext.trans (Ext.refl wr).drew hy1))
      obtain ⟨A1', c1', rfl, hr1⟩ := own_slice hl1
      have hX1 := hX.trans hy1
      have ho1 := own_ext hown hy1
      clear r0 r1 r2 r3 d0 d1 hl1
      cases hok : oriOk x g
      · have HO := Lib.hid (oriAllOk_no HG.out hok)
        have HL := Lib.hid (oriAll_no HO.out)
        go_wp2
        go_ret2
        refine ⟨_, by rw [HO.out]; rfl, ?_, (hx0.trans hX1).alloc _⟩
        rw [HL.out]
        exact own_lit (hx0.trans hX1) _ _ 4 0 #[] _ rfl rfl rfl (by omega)
      · have HQ2 := Lib.hid (oriAllOk_snoc HG.out HQ.out hok)
        have HS := Lib.hid (oriF_snoc (x := x) HG.out)
        go_wp2_with (at_builtin; refine appGateS (w0 := W) rfl _ _ rfl _ _ ((gs.take k).flatMap (oriL x)) rfl ho1 hX1 A1' _ c1' (oriL x g) rfl hr1 (by omega) ?_; intro v2 w2 ho2 hX2 hg2 hl2)
        go_roundw
        case rel => exact ⟨k + 1, by omega, by go_num, HQ2, by rw [HS.out, List.length_append]; exact ho2, hX2⟩
        case measure => simp [intOf]; omega
    · rw [List.take_of_length_le (by rw [hlen.out]; omega)] at hown HQ
      have HL := Lib.hid (oriAll_yes HQ.out)
      go_wp2
      go_ret2
      refine ⟨_, by rw [HQ.out]; rfl, ?_, hxr⟩
      rw [HL.out]
      exact own_base hown hx0.size

theorem oriAll_len (x : Gr) (gs : List Gt) : (oriAll x gs).length ≤ 75 * gs.length := by
  unfold oriAll
  split
  · exact oriF_len x gs
  · simp
end Go.Proofs.Ytofbmkpfliofeaa
/-
  Helper text (no claim of its own): drawn gates, graphs and layouts of the laws on routing. Printed by gen_drawx.py.
-/
namespace Go.Proofs.Ytofbmkpfliofeaa
open Go.ChangeShapes Go.WideShapes Go.ChangeAt Go.RowKit Go.Deep
set_option linter.unusedVariables false
set_option linter.unusedSimpArgs false
theorem graphint_ne : (27 : Nat) ≠ 3 := by decide
theorem graphedge_ne : (27 : Nat) ≠ 63 := by decide
theorem curgate_ne : (79 : Nat) ≠ 37 := by decide
theorem curedge_ne : (79 : Nat) ≠ 63 := by decide
theorem curint_ne : (79 : Nat) ≠ 3 := by decide
theorem own_setB {w : World} {r T i : Nat} {cs : Array Value} {B e size n : Nat} {v : Value} {xs : List Value} (ho : w.ownsRow B e size v n xs) (h : Blk w r T cs) (hne : T ≠ e) (u : Value) : (w.setCell ⟨r, i, none⟩ u).ownsRow B e size v n xs := by
  refine ho.kept (row := some r) (gr_setCell (World.grownBy.refl w (some r)) i u) ?_
  cases hv : v.ownBlock with
  | none => exact .inl rfl
  | some k => exact .inr (fun e1 => blk_apart h ho hne k hv (by injection e1 with e1; exact e1.symm))
theorem own_setB2 {w : World} {r T : Nat} {z0 z1 : Value} {B e size n : Nat} {v : Value} {xs : List Value} (ho : w.ownsRow B e size v n xs) (h : Blk w r T #[z0, z1]) (hne : T ≠ e) (a b : Value) : ((w.setCell ⟨r, 0, none⟩ a).setCell ⟨r, 1, none⟩ b).ownsRow B e size v n xs :=
  own_setB (own_setB ho h hne a) (h.set_ 0 a) hne b
/-- A row is kept where the cursor alone moves. -/
theorem own_cur {w w' : World} {g : Nat} {B e size n : Nat} {v : Value} {xs : List Value} (ho : w.ownsRow B e size v n xs) (hC : Cur w g) (hne : (79 : Nat) ≠ e) (hg : w.grownBy w' (some g)) : w'.ownsRow B e size v n xs := by
  obtain ⟨A, m, c, i, hh, bs, hB, _⟩ := hC
  refine ho.kept hg ?_
  cases hv : v.ownBlock with
  | none => exact .inl rfl
  | some k => exact .inr (fun e1 => blk_apart hB ho hne k hv (by injection e1 with e1; exact e1.symm))
/-- A result cell r and a graph's header q. -/
def TG (w W : World) (r q : Nat) (N : Int) (A : Option Addr) (l c : Nat) (es : List Ed) : Prop :=
  Ext w W ∧ Blk W r 27 #[.int .i64 0, .slice none 0 0] ∧ Blk W q 27 #[.int .i64 N, .slice A l c] ∧ W.ownsRow w.heap.size 63 2 (.slice A l c) l (ecells es) ∧ w.heap.size ≤ r ∧ q ≠ r
section
variable {w W W' : World} {r q g : Nat} {N : Int} {A : Option Addr} {l c : Nat} {es : List Ed}
theorem TG.ext (h : TG w W r q N A l c es) (hx : Ext W W') : TG w W' r q N A l c es := by
  obtain ⟨h1, h2, h3, h4, h5, h6⟩ := h
  exact ⟨h1.trans hx, h2.ext hx, h3.ext hx, own_ext h4 hx, h5, h6⟩
theorem TG.grown (h : TG w W r q N A l c es) (hC : Cur W g) (hg : W.grownBy W' (some g)) (hw : w.heap.size ≤ g) (hr : r ≠ g) (hq : q ≠ g) : TG w W' r q N A l c es := by
  obtain ⟨h1, h2, h3, h4, h5, h6⟩ := h
  exact ⟨h1.grown hg (fun k hk => by injection hk; omega), h2.grown hg (fun k hk => by injection hk; omega), h3.grown hg (fun k hk => by injection hk; omega), own_cur h4 hC curedge_ne hg, h5, h6⟩
theorem TG.gr (h : TG w W r q N A l c es) : GrAt W W.heap.size (.agg #[.int .i64 N, .slice A l c]) ⟨N, es⟩ ∧ es.length = l := by
  have hr := Rd.own h.2.2.2.1
  have hl := Rd.len (f := Ed.cells) (fun _ => by simp [Ed.cells]) (by omega) hr
  subst hl
  exact ⟨⟨A, c, rfl, hr⟩, rfl⟩
theorem TG.fin (h : TG w W r q N A l c es) :
    (((W.setCell ⟨r, 0, none⟩ (.int .i64 N)).setCell ⟨r, 1, none⟩ (.slice A l c)).drew.cell? ⟨r, 0, none⟩ = some (.int .i64 N) ∧ ((W.setCell ⟨r, 0, none⟩ (.int .i64 N)).setCell ⟨r, 1, none⟩ (.slice A l c)).drew.cell? ⟨r, 1, none⟩ = some (.slice A l c)) ∧
    ((W.setCell ⟨r, 0, none⟩ (.int .i64 N)).setCell ⟨r, 1, none⟩ (.slice A l c)).drew.ownsRow w.heap.size 63 2 (.slice A l c) l (ecells es) ∧ Ext w ((W.setCell ⟨r, 0, none⟩ (.int .i64 N)).setCell ⟨r, 1, none⟩ (.slice A l c)).drew := by
  obtain ⟨h1, h2, h3, h4, h5, h6⟩ := h
  have hb := h2.set2 (.int .i64 N) (.slice A l c)
  exact ⟨⟨hb.cell 0, hb.cell 1⟩, own_ext (own_setB2 h4 h2 graphedge_ne _ _) (Ext.refl _).drew, ((h1.setCell h5 _).setCell h5 _).drew⟩
/-- The graph's header behind the writing of the result cell. -/
theorem TG.keep (h : TG w W r q N A l c es) : ((W.setCell ⟨r, 0, none⟩ (.int .i64 N)).setCell ⟨r, 1, none⟩ (.slice A l c)).drew.cell? ⟨q, 0, none⟩ = some (.int .i64 N) ∧ ((W.setCell ⟨r, 0, none⟩ (.int .i64 N)).setCell ⟨r, 1, none⟩ (.slice A l c)).drew.cell? ⟨q, 1, none⟩ = some (.slice A l c) := by
  obtain ⟨h1, h2, h3, h4, h5, h6⟩ := h
  have := (h3.far (p := ⟨r, 0, none⟩) h6 (.int .i64 N)).far (p := ⟨r, 1, none⟩) h6 (.slice A l c)
  exact ⟨this.cell 0, this.cell 1⟩
theorem TG.rows (h : TG w W r q N A l c es) {B e size n : Nat} {v : Value} {xs : List Value} (ho : W.ownsRow B e size v n xs) (hne : (27 : Nat) ≠ e) : ((W.setCell ⟨r, 0, none⟩ (.int .i64 N)).setCell ⟨r, 1, none⟩ (.slice A l c)).drew.ownsRow B e size v n xs :=
  own_ext (own_setB2 ho h.2.1 hne _ _) (Ext.refl _).drew
theorem TG.fin0 (h : TG w W r q N A l c es) :
    (((W.setCell ⟨r, 0, none⟩ (.int .i64 N)).setCell ⟨r, 1, none⟩ (.slice A l c)).cell? ⟨r, 0, none⟩ = some (.int .i64 N) ∧ ((W.setCell ⟨r, 0, none⟩ (.int .i64 N)).setCell ⟨r, 1, none⟩ (.slice A l c)).cell? ⟨r, 1, none⟩ = some (.slice A l c)) ∧
    ((W.setCell ⟨r, 0, none⟩ (.int .i64 N)).setCell ⟨r, 1, none⟩ (.slice A l c)).ownsRow w.heap.size 63 2 (.slice A l c) l (ecells es) ∧ Ext w ((W.setCell ⟨r, 0, none⟩ (.int .i64 N)).setCell ⟨r, 1, none⟩ (.slice A l c)) := by
  obtain ⟨h1, h2, h3, h4, h5, h6⟩ := h
  have hb := h2.set2 (.int .i64 N) (.slice A l c)
  exact ⟨⟨hb.cell 0, hb.cell 1⟩, own_setB2 h4 h2 graphedge_ne _ _, (h1.setCell h5 _).setCell h5 _⟩
theorem TG.keep0 (h : TG w W r q N A l c es) : ((W.setCell ⟨r, 0, none⟩ (.int .i64 N)).setCell ⟨r, 1, none⟩ (.slice A l c)).cell? ⟨q, 0, none⟩ = some (.int .i64 N) ∧ ((W.setCell ⟨r, 0, none⟩ (.int .i64 N)).setCell ⟨r, 1, none⟩ (.slice A l c)).cell? ⟨q, 1, none⟩ = some (.slice A l c) := by
  obtain ⟨h1, h2, h3, h4, h5, h6⟩ := h
  have := (h3.far (p := ⟨r, 0, none⟩) h6 (.int .i64 N)).far (p := ⟨r, 1, none⟩) h6 (.slice A l c)
  exact ⟨this.cell 0, this.cell 1⟩
theorem TG.rows0 (h : TG w W r q N A l c es) {B e size n : Nat} {v : Value} {xs : List Value} (ho : W.ownsRow B e size v n xs) (hne : (27 : Nat) ≠ e) : ((W.setCell ⟨r, 0, none⟩ (.int .i64 N)).setCell ⟨r, 1, none⟩ (.slice A l c)).ownsRow B e size v n xs :=
  own_setB2 ho h.2.1 hne _ _
end
/-- What a law's draw of gates and a graph hands back. -/
def DrewTG (w : World) (most mh : Nat) (e : Ending) (w' : World) : Prop :=
  ∃ (L : Option Addr) (len cap : Nat) (gs : List Gt) (N : Int) (A : Option Addr) (l c : Nat) (es : List Ed), e = .returned (.tuple #[.slice L len cap, .agg #[.int .i64 N, .slice A l c]]) ∧ (-1 ≤ N ∧ N ≤ 5) ∧ (len ≤ most ∧ hcs gs ≤ mh) ∧ l ≤ 8 ∧ w'.ownsRow w.heap.size 37 4 (.slice L len cap) len (gcells gs) ∧ w'.ownsRow w.heap.size 63 2 (.slice A l c) l (ecells es) ∧ (∀ e ∈ es, e.ok) ∧ Ext w w'
theorem DrewTG.mk {w w' : World} {most mh : Nat} (L : Option Addr) (len cap : Nat) (gs : List Gt) (N : Int) (A : Option Addr) (l c : Nat) (es : List Ed) (h1 : -1 ≤ N ∧ N ≤ 5) (h2 : len ≤ most ∧ hcs gs ≤ mh) (h3 : l ≤ 8) (h4 : w'.ownsRow w.heap.size 37 4 (.slice L len cap) len (gcells gs)) (h5 : w'.ownsRow w.heap.size 63 2 (.slice A l c) l (ecells es)) (h6 : ∀ e ∈ es, e.ok) (h7 : Ext w w') : DrewTG w most mh (.returned (.tuple #[.slice L len cap, .agg #[.int .i64 N, .slice A l c]])) w' :=
  ⟨L, len, cap, gs, N, A, l, c, es, rfl, h1, h2, h3, h4, h5, h6, h7⟩
/-- And of a layout. -/
def DrewTP (w : World) (most mh : Nat) (e : Ending) (w' : World) : Prop :=
  ∃ (L : Option Addr) (len cap : Nat) (gs : List Gt) (N : Int) (A : Option Addr) (l c : Nat) (es : List Ed) (P : Option Addr) (np cp : Nat) (p : List Int), e = .returned (.tuple #[.slice L len cap, .agg #[.int .i64 N, .slice A l c], .slice P np cp]) ∧ (-1 ≤ N ∧ N ≤ 5) ∧ (len ≤ most ∧ hcs gs ≤ mh) ∧ l ≤ 8 ∧ np ≤ 5 ∧ w'.ownsRow w.heap.size 37 4 (.slice L len cap) len (gcells gs) ∧ w'.ownsRow w.heap.size 63 2 (.slice A l c) l (ecells es) ∧ w'.ownsRow w.heap.size 3 1 (.slice P np cp) np (icells p) ∧ (∀ e ∈ es, e.ok) ∧ Ext w w'
theorem DrewTP.mk {w w' : World} {most mh : Nat} (L : Option Addr) (len cap : Nat) (gs : List Gt) (N : Int) (A : Option Addr) (l c : Nat) (es : List Ed) (P : Option Addr) (np cp : Nat) (p : List Int) (h1 : -1 ≤ N ∧ N ≤ 5) (h2 : len ≤ most ∧ hcs gs ≤ mh) (h3 : l ≤ 8) (h33 : np ≤ 5) (h4 : w'.ownsRow w.heap.size 37 4 (.slice L len cap) len (gcells gs)) (h5 : w'.ownsRow w.heap.size 63 2 (.slice A l c) l (ecells es)) (h55 : w'.ownsRow w.heap.size 3 1 (.slice P np cp) np (icells p)) (h6 : ∀ e ∈ es, e.ok) (h7 : Ext w w') : DrewTP w most mh (.returned (.tuple #[.slice L len cap, .agg #[.int .i64 N, .slice A l c], .slice P np cp])) w' :=
  ⟨L, len, cap, gs, N, A, l, c, es, P, np, cp, p, rfl, h1, h2, h3, h33, h4, h5, h55, h6, h7⟩
set_option maxRecDepth 100000 in
set_option maxHeartbeats 16000000 in
theorem DrawLayoutCost_any (Ab : Option Addr) (nb cb : Nat) (bs : List Int) (w : World) (h : Rd w w.heap.size 1 Ab nb (u8cs bs)) (hn : nb ≤ 1048576) :
    Calls Try.prog 25 #[.slice Ab nb cb] w (DrewTP w 91 13) := by
  go_enter Try.func25, Try.ntmps25
  go_wp2_with fail
  refine (l1New_any Ab nb cb bs _ (h.ext ((Ext.refl w).alloc _)) hn).mono ?_
  rintro e w1 ⟨rfl, hC1, hx1⟩
  have hB1 := (Blk.new w 27 #[.int .i64 0, .slice none 0 0]).ext hx1
  have hX1 : Ext w w1 := Ext.trans ((Ext.refl w).alloc _) hx1
  obtain ⟨g, hg⟩ : ∃ g, g = (w.alloc (.cells #[.int .i64 0, .slice none 0 0] 27)).heap.size := ⟨_, rfl⟩
  have hgr : g = w.heap.size + 1 := by rw [hg]; simp
  simp only [← hg] at hC1 ⊢
  have hgw : w.heap.size < g := by omega
  have HGR := Lib.hid hgr
  clear hg hgr hx1
  have hl1 := hC1.lt
  (try rw [← HGR.out])
  go_wp2_with fail
  refine (l37Args_any g 6 (by omega) _ hC1).mono ?_
  rintro e w2 ⟨L, len, cap, gs, N, A, l, c, es, rfl, hN, hlen, hll, hog, hoe, hC2, hG2, hok⟩
  have HHOK := Lib.hid hok
  have hB2 := hB1.grown hG2 (fun k hk => by injection hk; omega)
  have hl2 := hB2.lt
  have hX2 : Ext w w2 := hX1.grown hG2 (fun k hk => by injection hk; omega)
  have hw12 : w.heap.size ≤ w1.heap.size := hX1.size
  have hT3 : TG w (w2.alloc (.cells #[.int .i64 N, .slice A l c] 27)) w.heap.size w2.heap.size N A l c es :=
    ⟨hX2.alloc _, hB2.alloc _, Blk.new _ _ _, own_ext (own_base hoe hw12) ((Ext.refl w2).alloc _), Nat.le_refl _, by omega⟩
  have hog3 := own_ext (own_base hog hw12) ((Ext.refl w2).alloc (.cells #[.int .i64 N, .slice A l c] 27))
  have hC3 := hC2.alloc (.cells #[.int .i64 N, .slice A l c] 27)
  have hg2 := hC2.lt
  clear hok hB1 hX1 hl1 hC1 hG2 hoe hog hB2 hX2 hC2
  go_upto_region 3 with (fail)
  generalize (w2.alloc (.cells #[.int .i64 N, .slice A l c] 27)) = w3 at *
  generalize w2.heap.size = q at *
  have HT3 := Lib.hid hT3
  have HO3 := Lib.hid hog3
  obtain ⟨⟨b0, b1⟩, z0, z1⟩ := blk2 hT3.2.2.1
  clear hT3 hog3
  by_cases hin : 1 ≤ N ∧ N ≤ 4
  · obtain ⟨hi1, hi4⟩ := hin
    obtain ⟨n1, rfl⟩ := Int.eq_ofNat_of_zero_le (by omega : 0 ≤ N)
    go_wp2_with fail
    refine (l1In_yes _ _ _ _ hi1 hi4).mono ?_
    rintro e w' ⟨rfl, rfl⟩
    go_wp2_with fail
    refine (l1Once_any g 8 _ hC3 (by omega)).mono ?_
    rintro e w4 ⟨f, rfl, hC4, hG4⟩
    have HT4 := Lib.hid (HT3.out.grown hC3 hG4 (by omega) (by omega) (by omega))
    have HO4 := Lib.hid (own_cur HO3.out hC3 curgate_ne hG4)
    clear HT3 HO3 hC3 hG4 b0 b1 z0 z1
    obtain ⟨⟨b0, b1⟩, z0, z1⟩ := blk2 HT4.out.2.2.1
    obtain ⟨⟨a0, a1⟩, y0, y1⟩ := blk2 HT4.out.2.1
    cases f
    · go_wp2
      refine wp_region_held_drew (S := fun W => W.cell? ⟨q, 0, none⟩ = some (.int .i64 n1) ∧ W.cell? ⟨q, 1, none⟩ = some (.slice A l c)) (by kernel_rfl) ⟨HT4.out.2.2.1.cell 0, HT4.out.2.2.1.cell 1⟩ (fun hHeld => ?_)
      (refine wpAnyH_take (i := 0) (v := ?_) rfl (by kernel_rfl) (by kernel_rfl) (by kernel_rfl) (fun _ _ _ h => h) (Or.inl ⟨by rfl, ?_⟩) (by assumption) ?_; rotate_left; · (intro w hSw; (try dsimp only at hSw); go_simp; all_goals with_reducible rfl); (try simp only [Act.put, List.getElem_toArray, List.getElem_cons_zero, List.getElem_cons_succ, List.setIfInBounds_toArray, List.set_cons_zero, List.set_cons_succ]))
      (try simp only [Act.put, List.getElem_toArray, List.getElem_cons_zero, List.getElem_cons_succ, List.setIfInBounds_toArray, List.set_cons_zero, List.set_cons_succ])
      (refine wpAnyH_take (i := 1) (v := ?_) rfl (by kernel_rfl) (by kernel_rfl) (by kernel_rfl) (fun _ _ _ h => h) (Or.inl ⟨by rfl, ?_⟩) (by assumption) ?_; rotate_left; · (intro w hSw; (try dsimp only at hSw); go_simp; all_goals with_reducible rfl); (try simp only [Act.put, List.getElem_toArray, List.getElem_cons_zero, List.getElem_cons_succ, List.setIfInBounds_toArray, List.set_cons_zero, List.set_cons_succ]))
      (try simp only [Act.put, List.getElem_toArray, List.getElem_cons_zero, List.getElem_cons_succ, List.setIfInBounds_toArray, List.set_cons_zero, List.set_cons_succ])
      (refine wpAnyH_take (i := 2) (v := ?_) rfl (by kernel_rfl) (by kernel_rfl) (by kernel_rfl) (fun _ _ _ h => h) (Or.inl ⟨by rfl, ?_⟩) (by assumption) ?_; rotate_left; · (intro w hSw; (try dsimp only at hSw); go_simp; all_goals with_reducible rfl); (try simp only [Act.put, List.getElem_toArray, List.getElem_cons_zero, List.getElem_cons_succ, List.setIfInBounds_toArray, List.set_cons_zero, List.set_cons_succ]))
      (try simp only [Act.put, List.getElem_toArray, List.getElem_cons_zero, List.getElem_cons_succ, List.setIfInBounds_toArray, List.set_cons_zero, List.set_cons_succ])
      (refine wpAnyH_take (i := 3) (v := ?_) rfl (by kernel_rfl) (by kernel_rfl) (by kernel_rfl) (fun _ _ _ h => h) (Or.inl ⟨by rfl, ?_⟩) (by assumption) ?_; rotate_left; · (intro w hSw; (try dsimp only at hSw); go_simp; all_goals with_reducible rfl); (try simp only [Act.put, List.getElem_toArray, List.getElem_cons_zero, List.getElem_cons_succ, List.setIfInBounds_toArray, List.set_cons_zero, List.set_cons_succ]))
      (try simp only [Act.put, List.getElem_toArray, List.getElem_cons_zero, List.getElem_cons_succ, List.setIfInBounds_toArray, List.set_cons_zero, List.set_cons_succ])
      (refine wpAnyH_take (i := 4) (v := ?_) rfl (by kernel_rfl) (by kernel_rfl) (by kernel_rfl) (fun _ _ _ h => h) (Or.inl ⟨by rfl, ?_⟩) (by assumption) ?_; rotate_left; · (intro w hSw; (try dsimp only at hSw); go_simp; all_goals with_reducible rfl); (try simp only [Act.put, List.getElem_toArray, List.getElem_cons_zero, List.getElem_cons_succ, List.setIfInBounds_toArray, List.set_cons_zero, List.set_cons_succ]))
      (try simp only [Act.put, List.getElem_toArray, List.getElem_cons_zero, List.getElem_cons_succ, List.setIfInBounds_toArray, List.set_cons_zero, List.set_cons_succ])
      refine wpAnyH_ready (rs := [5]) (by kernel_rfl) (by simp) ?_
      refine AllReadyH.cons rfl (fun K hK => ?_) AllReadyH.nil
      go_simp
      refine (l8Perm_any g n1 ⟨by omega, by omega⟩ _ (hC4.ext (Ext.refl _).drew)).mono ?_
      rintro e w5 ⟨b, c5, rfl, hb5, hI5, hC5, hG5⟩
      have HT5 := Lib.hid ((HT4.out.ext (Ext.refl _).drew).grown (hC4.ext (Ext.refl _).drew) hG5 (by omega) (by omega) (by omega))
      have HO5 := Lib.hid (own_cur (own_ext HO4.out (Ext.refl _).drew) (hC4.ext (Ext.refl _).drew) curgate_ne hG5)
      have hlp : n1 ≤ 5 := by omega
      have hwb : w.heap.size ≤ b := by have := HT4.out.1.size; simp only [World.drew] at hb5; omega
      obtain ⟨ps, _, hop⟩ := hI5.own hwb
      have HP5 := Lib.hid hop
      clear hop hI5 hG5 hC5 hb5 hwb
      refine hK.out _ _ ⟨HT5.out.2.2.1.cell 0, HT5.out.2.2.1.cell 1⟩ (fun hHeld => ?_)
      clear hK K
      (try simp only [Act.put, List.getElem_toArray, List.getElem_cons_zero, List.getElem_cons_succ, List.setIfInBounds_toArray, List.set_cons_zero, List.set_cons_succ])
      clear a0 a1 y0 y1 b0 b1 z0 z1
      obtain ⟨⟨b0, b1⟩, z0, z1⟩ := blk2 HT5.out.2.2.1
      obtain ⟨⟨a0, a1⟩, y0, y1⟩ := blk2 HT5.out.2.1
      (refine wpAnyH_take (i := 6) (v := ?_) rfl (by kernel_rfl) (by kernel_rfl) (by kernel_rfl) (fun _ _ _ h => h) (Or.inl ⟨by rfl, ?_⟩) (by assumption) ?_; rotate_left; · (intro w hSw; (try dsimp only at hSw); go_simp; all_goals with_reducible rfl); (try simp only [Act.put, List.getElem_toArray, List.getElem_cons_zero, List.getElem_cons_succ, List.setIfInBounds_toArray, List.set_cons_zero, List.set_cons_succ]))
      (try simp only [Act.put, List.getElem_toArray, List.getElem_cons_zero, List.getElem_cons_succ, List.setIfInBounds_toArray, List.set_cons_zero, List.set_cons_succ])
      refine wpAnyH_ready (rs := [7]) (by kernel_rfl) (by simp) ?_
      refine AllReadyH.cons rfl (fun K hK => ?_) AllReadyH.nil
      go_simp
      refine hK.out _ _ HT5.out.keep0 (fun hHeld => ?_)
      clear hK K
      (try simp only [Act.put, List.getElem_toArray, List.getElem_cons_zero, List.getElem_cons_succ, List.setIfInBounds_toArray, List.set_cons_zero, List.set_cons_succ])
      (refine wpAnyH_take (i := 8) (v := ?_) rfl (by kernel_rfl) (by kernel_rfl) (by kernel_rfl) (fun _ _ _ h => h) (Or.inl ⟨by rfl, ?_⟩) (by assumption) ?_; rotate_left; · (intro w hSw; (try dsimp only at hSw); go_simp; all_goals with_reducible rfl); (try simp only [Act.put, List.getElem_toArray, List.getElem_cons_zero, List.getElem_cons_succ, List.setIfInBounds_toArray, List.set_cons_zero, List.set_cons_succ]))
      (try simp only [Act.put, List.getElem_toArray, List.getElem_cons_zero, List.getElem_cons_succ, List.setIfInBounds_toArray, List.set_cons_zero, List.set_cons_succ])
      (refine wpAnyH_done (by kernel_rfl) ?_ _)
      clear hHeld a0 a1 y0 y1 b0 b1 z0 z1
      obtain ⟨⟨q0, q1⟩, e1, e2⟩ := HT5.out.fin0
      have e3 := HT5.out.rows0 HO5.out graphgate_ne
      have e4 := HT5.out.rows0 HP5.out graphint_ne
      generalize (w5.setCell _ _).setCell _ _ = W2 at q0 q1 e1 e2 e3 e4 ⊢
      go_wp2
      exact bodyPost_ret (v := .tuple #[.slice _ _ _, .agg #[.int .i64 n1, .slice _ _ _], .slice _ _ _]) (by simp [results, Try.results25, go_sem, q0, q1]) rfl (DrewTP.mk _ _ _ _ _ _ _ _ _ _ _ _ _ (by omega) hlen hll hlp e3 e1 e4 HHOK.out e2)
    · go_wp2
      refine wp_region_held_drew (S := fun W => W.cell? ⟨q, 0, none⟩ = some (.int .i64 n1) ∧ W.cell? ⟨q, 1, none⟩ = some (.slice A l c)) (by kernel_rfl) ⟨HT4.out.2.2.1.cell 0, HT4.out.2.2.1.cell 1⟩ (fun hHeld => ?_)
      (refine wpAnyH_take (i := 0) (v := ?_) rfl (by kernel_rfl) (by kernel_rfl) (by kernel_rfl) (fun _ _ _ h => h) (Or.inl ⟨by rfl, ?_⟩) (by assumption) ?_; rotate_left; · (intro w hSw; (try dsimp only at hSw); go_simp; all_goals with_reducible rfl); (try simp only [Act.put, List.getElem_toArray, List.getElem_cons_zero, List.getElem_cons_succ, List.setIfInBounds_toArray, List.set_cons_zero, List.set_cons_succ]))
      (try simp only [Act.put, List.getElem_toArray, List.getElem_cons_zero, List.getElem_cons_succ, List.setIfInBounds_toArray, List.set_cons_zero, List.set_cons_succ])
      (refine wpAnyH_take (i := 1) (v := ?_) rfl (by kernel_rfl) (by kernel_rfl) (by kernel_rfl) (fun _ _ _ h => h) (Or.inl ⟨by rfl, ?_⟩) (by assumption) ?_; rotate_left; · (intro w hSw; (try dsimp only at hSw); go_simp; all_goals with_reducible rfl); (try simp only [Act.put, List.getElem_toArray, List.getElem_cons_zero, List.getElem_cons_succ, List.setIfInBounds_toArray, List.set_cons_zero, List.set_cons_succ]))
      (try simp only [Act.put, List.getElem_toArray, List.getElem_cons_zero, List.getElem_cons_succ, List.setIfInBounds_toArray, List.set_cons_zero, List.set_cons_succ])
      (refine wpAnyH_take (i := 2) (v := ?_) rfl (by kernel_rfl) (by kernel_rfl) (by kernel_rfl) (fun _ _ _ h => h) (Or.inl ⟨by rfl, ?_⟩) (by assumption) ?_; rotate_left; · (intro w hSw; (try dsimp only at hSw); go_simp; all_goals with_reducible rfl); (try simp only [Act.put, List.getElem_toArray, List.getElem_cons_zero, List.getElem_cons_succ, List.setIfInBounds_toArray, List.set_cons_zero, List.set_cons_succ]))
      (try simp only [Act.put, List.getElem_toArray, List.getElem_cons_zero, List.getElem_cons_succ, List.setIfInBounds_toArray, List.set_cons_zero, List.set_cons_succ])
      refine wpAnyH_ready (rs := [3]) (by kernel_rfl) (by simp) ?_
      refine AllReadyH.cons rfl (fun K hK => ?_) AllReadyH.nil
      go_simp
      refine (l8Bent_any g _ (hC4.ext (Ext.refl _).drew)).mono ?_
      rintro e w5 ⟨P, np, cp, ps, rfl, hlp, hop, hC5, hG5⟩
      have HT5 := Lib.hid ((HT4.out.ext (Ext.refl _).drew).grown (hC4.ext (Ext.refl _).drew) hG5 (by omega) (by omega) (by omega))
      have HO5 := Lib.hid (own_cur (own_ext HO4.out (Ext.refl _).drew) (hC4.ext (Ext.refl _).drew) curgate_ne hG5)
      have HP5 := Lib.hid (own_base hop (show w.heap.size ≤ _ from HT4.out.1.size))
      clear hop hG5 hC5
      refine hK.out _ _ ⟨HT5.out.2.2.1.cell 0, HT5.out.2.2.1.cell 1⟩ (fun hHeld => ?_)
      clear hK K
      (try simp only [Act.put, List.getElem_toArray, List.getElem_cons_zero, List.getElem_cons_succ, List.setIfInBounds_toArray, List.set_cons_zero, List.set_cons_succ])
      clear a0 a1 y0 y1 b0 b1 z0 z1
      obtain ⟨⟨b0, b1⟩, z0, z1⟩ := blk2 HT5.out.2.2.1
      obtain ⟨⟨a0, a1⟩, y0, y1⟩ := blk2 HT5.out.2.1
      (refine wpAnyH_take (i := 4) (v := ?_) rfl (by kernel_rfl) (by kernel_rfl) (by kernel_rfl) (fun _ _ _ h => h) (Or.inl ⟨by rfl, ?_⟩) (by assumption) ?_; rotate_left; · (intro w hSw; (try dsimp only at hSw); go_simp; all_goals with_reducible rfl); (try simp only [Act.put, List.getElem_toArray, List.getElem_cons_zero, List.getElem_cons_succ, List.setIfInBounds_toArray, List.set_cons_zero, List.set_cons_succ]))
      (try simp only [Act.put, List.getElem_toArray, List.getElem_cons_zero, List.getElem_cons_succ, List.setIfInBounds_toArray, List.set_cons_zero, List.set_cons_succ])
      refine wpAnyH_ready (rs := [5]) (by kernel_rfl) (by simp) ?_
      refine AllReadyH.cons rfl (fun K hK => ?_) AllReadyH.nil
      go_simp
      refine hK.out _ _ HT5.out.keep0 (fun hHeld => ?_)
      clear hK K
      (try simp only [Act.put, List.getElem_toArray, List.getElem_cons_zero, List.getElem_cons_succ, List.setIfInBounds_toArray, List.set_cons_zero, List.set_cons_succ])
      (refine wpAnyH_take (i := 6) (v := ?_) rfl (by kernel_rfl) (by kernel_rfl) (by kernel_rfl) (fun _ _ _ h => h) (Or.inl ⟨by rfl, ?_⟩) (by assumption) ?_; rotate_left; · (intro w hSw; (try dsimp only at hSw); go_simp; all_goals with_reducible rfl); (try simp only [Act.put, List.getElem_toArray, List.getElem_cons_zero, List.getElem_cons_succ, List.setIfInBounds_toArray, List.set_cons_zero, List.set_cons_succ]))
      (try simp only [Act.put, List.getElem_toArray, List.getElem_cons_zero, List.getElem_cons_succ, List.setIfInBounds_toArray, List.set_cons_zero, List.set_cons_succ])
      (refine wpAnyH_done (by kernel_rfl) ?_ _)
      clear hHeld a0 a1 y0 y1 b0 b1 z0 z1
      obtain ⟨⟨q0, q1⟩, e1, e2⟩ := HT5.out.fin0
      have e3 := HT5.out.rows0 HO5.out graphgate_ne
      have e4 := HT5.out.rows0 HP5.out graphint_ne
      generalize (w5.setCell _ _).setCell _ _ = W2 at q0 q1 e1 e2 e3 e4 ⊢
      go_wp2
      exact bodyPost_ret (v := .tuple #[.slice _ _ _, .agg #[.int .i64 n1, .slice _ _ _], .slice _ _ _]) (by simp [results, Try.results25, go_sem, q0, q1]) rfl (DrewTP.mk _ _ _ _ _ _ _ _ _ _ _ _ _ (by omega) hlen hll hlp e3 e1 e4 HHOK.out e2)
  · go_wp2_with fail
    refine (l1In_no _ _ _ _ (by omega)).mono ?_
    rintro e w' ⟨rfl, rfl⟩
    have HT4 := HT3
    have HO4 := HO3
    have hC4 := hC3
    clear HT3 HO3 hC3
    obtain ⟨⟨a0, a1⟩, y0, y1⟩ := blk2 HT4.out.2.1
    go_wp2
    refine wp_region_held_drew (S := fun W => W.cell? ⟨q, 0, none⟩ = some (.int .i64 N) ∧ W.cell? ⟨q, 1, none⟩ = some (.slice A l c)) (by kernel_rfl) ⟨HT4.out.2.2.1.cell 0, HT4.out.2.2.1.cell 1⟩ (fun hHeld => ?_)
    (refine wpAnyH_take (i := 0) (v := ?_) rfl (by kernel_rfl) (by kernel_rfl) (by kernel_rfl) (fun _ _ _ h => h) (Or.inl ⟨by rfl, ?_⟩) (by assumption) ?_; rotate_left; · (intro w hSw; (try dsimp only at hSw); go_simp; all_goals with_reducible rfl); (try simp only [Act.put, List.getElem_toArray, List.getElem_cons_zero, List.getElem_cons_succ, List.setIfInBounds_toArray, List.set_cons_zero, List.set_cons_succ]))
    (try simp only [Act.put, List.getElem_toArray, List.getElem_cons_zero, List.getElem_cons_succ, List.setIfInBounds_toArray, List.set_cons_zero, List.set_cons_succ])
    (refine wpAnyH_take (i := 1) (v := ?_) rfl (by kernel_rfl) (by kernel_rfl) (by kernel_rfl) (fun _ _ _ h => h) (Or.inl ⟨by rfl, ?_⟩) (by assumption) ?_; rotate_left; · (intro w hSw; (try dsimp only at hSw); go_simp; all_goals with_reducible rfl); (try simp only [Act.put, List.getElem_toArray, List.getElem_cons_zero, List.getElem_cons_succ, List.setIfInBounds_toArray, List.set_cons_zero, List.set_cons_succ]))
    (try simp only [Act.put, List.getElem_toArray, List.getElem_cons_zero, List.getElem_cons_succ, List.setIfInBounds_toArray, List.set_cons_zero, List.set_cons_succ])
    (refine wpAnyH_take (i := 2) (v := ?_) rfl (by kernel_rfl) (by kernel_rfl) (by kernel_rfl) (fun _ _ _ h => h) (Or.inl ⟨by rfl, ?_⟩) (by assumption) ?_; rotate_left; · (intro w hSw; (try dsimp only at hSw); go_simp; all_goals with_reducible rfl); (try simp only [Act.put, List.getElem_toArray, List.getElem_cons_zero, List.getElem_cons_succ, List.setIfInBounds_toArray, List.set_cons_zero, List.set_cons_succ]))
    (try simp only [Act.put, List.getElem_toArray, List.getElem_cons_zero, List.getElem_cons_succ, List.setIfInBounds_toArray, List.set_cons_zero, List.set_cons_succ])
    refine wpAnyH_ready (rs := [3]) (by kernel_rfl) (by simp) ?_
    refine AllReadyH.cons rfl (fun K hK => ?_) AllReadyH.nil
    go_simp
    refine (l8Bent_any g _ (hC4.ext (Ext.refl _).drew)).mono ?_
    rintro e w5 ⟨P, np, cp, ps, rfl, hlp, hop, hC5, hG5⟩
    have HT5 := Lib.hid ((HT4.out.ext (Ext.refl _).drew).grown (hC4.ext (Ext.refl _).drew) hG5 (by omega) (by omega) (by omega))
    have HO5 := Lib.hid (own_cur (own_ext HO4.out (Ext.refl _).drew) (hC4.ext (Ext.refl _).drew) curgate_ne hG5)
    have HP5 := Lib.hid (own_base hop (show w.heap.size ≤ _ from HT4.out.1.size))
    clear hop hG5 hC5
    refine hK.out _ _ ⟨HT5.out.2.2.1.cell 0, HT5.out.2.2.1.cell 1⟩ (fun hHeld => ?_)
    clear hK K
    (try simp only [Act.put, List.getElem_toArray, List.getElem_cons_zero, List.getElem_cons_succ, List.setIfInBounds_toArray, List.set_cons_zero, List.set_cons_succ])
    clear a0 a1 y0 y1 b0 b1 z0 z1
    obtain ⟨⟨b0, b1⟩, z0, z1⟩ := blk2 HT5.out.2.2.1
    obtain ⟨⟨a0, a1⟩, y0, y1⟩ := blk2 HT5.out.2.1
    (refine wpAnyH_take (i := 4) (v := ?_) rfl (by kernel_rfl) (by kernel_rfl) (by kernel_rfl) (fun _ _ _ h => h) (Or.inl ⟨by rfl, ?_⟩) (by assumption) ?_; rotate_left; · (intro w hSw; (try dsimp only at hSw); go_simp; all_goals with_reducible rfl); (try simp only [Act.put, List.getElem_toArray, List.getElem_cons_zero, List.getElem_cons_succ, List.setIfInBounds_toArray, List.set_cons_zero, List.set_cons_succ]))
    (try simp only [Act.put, List.getElem_toArray, List.getElem_cons_zero, List.getElem_cons_succ, List.setIfInBounds_toArray, List.set_cons_zero, List.set_cons_succ])
    refine wpAnyH_ready (rs := [5]) (by kernel_rfl) (by simp) ?_
    refine AllReadyH.cons rfl (fun K hK => ?_) AllReadyH.nil
    go_simp
    refine hK.out _ _ HT5.out.keep0 (fun hHeld => ?_)
    clear hK K
    (try simp only [Act.put, List.getElem_toArray, List.getElem_cons_zero, List.getElem_cons_succ, List.setIfInBounds_toArray, List.set_cons_zero, List.set_cons_succ])
    (refine wpAnyH_take (i := 6) (v := ?_) rfl (by kernel_rfl) (by kernel_rfl) (by kernel_rfl) (fun _ _ _ h => h) (Or.inl ⟨by rfl, ?_⟩) (by assumption) ?_; rotate_left; · (intro w hSw; (try dsimp only at hSw); go_simp; all_goals with_reducible rfl); (try simp only [Act.put, List.getElem_toArray, List.getElem_cons_zero, List.getElem_cons_succ, List.setIfInBounds_toArray, List.set_cons_zero, List.set_cons_succ]))
    (try simp only [Act.put, List.getElem_toArray, List.getElem_cons_zero, List.getElem_cons_succ, List.setIfInBounds_toArray, List.set_cons_zero, List.set_cons_succ])
    (refine wpAnyH_done (by kernel_rfl) ?_ _)
    clear hHeld a0 a1 y0 y1 b0 b1 z0 z1
    obtain ⟨⟨q0, q1⟩, e1, e2⟩ := HT5.out.fin0
    have e3 := HT5.out.rows0 HO5.out graphgate_ne
    have e4 := HT5.out.rows0 HP5.out graphint_ne
    generalize (w5.setCell _ _).setCell _ _ = W2 at q0 q1 e1 e2 e3 e4 ⊢
    go_wp2
    exact bodyPost_ret (v := .tuple #[.slice _ _ _, .agg #[.int .i64 N, .slice _ _ _], .slice _ _ _]) (by simp [results, Try.results25, go_sem, q0, q1]) rfl (DrewTP.mk _ _ _ _ _ _ _ _ _ _ _ _ _ (by omega) hlen hll hlp e3 e1 e4 HHOK.out e2)
end Go.Proofs.Ytofbmkpfliofeaa
/-
  Helper text (no claim of its own): drawn gates and graphs of the laws on routing and orientation. Printed by gen_drawy.py.
-/
namespace Go.Proofs.Ytofbmkpfliofeaa
open Go.ChangeShapes Go.WideShapes Go.ChangeAt Go.RowKit Go.Deep
set_option linter.unusedVariables false
set_option linter.unusedSimpArgs false
set_option maxRecDepth 100000 in
set_option maxHeartbeats 16000000 in
theorem DrawRespectsGraph_any (Ab : Option Addr) (nb cb : Nat) (bs : List Int) (w : World) (h : Rd w w.heap.size 1 Ab nb (u8cs bs)) (hn : nb ≤ 1048576) :
    Calls Try.prog 12 #[.slice Ab nb cb] w (DrewTG w 455 13) := by
  go_enter Try.func12, Try.ntmps12
  go_wp2_with fail
  refine (l1New_any Ab nb cb bs _ (h.ext ((Ext.refl w).alloc _)) hn).mono ?_
  rintro e w1 ⟨rfl, hC1, hx1⟩
  have hB1 := (Blk.new w 27 #[.int .i64 0, .slice none 0 0]).ext hx1
  have hX1 : Ext w w1 := Ext.trans ((Ext.refl w).alloc _) hx1
  obtain ⟨g, hg⟩ : ∃ g, g = (w.alloc (.cells #[.int .i64 0, .slice none 0 0] 27)).heap.size := ⟨_, rfl⟩
  have hgr : g = w.heap.size + 1 := by rw [hg]; simp
  simp only [← hg] at hC1 ⊢
  have hgw : w.heap.size < g := by omega
  have HGR := Lib.hid hgr
  clear hg hgr hx1
  have hl1 := hC1.lt
  (try rw [← HGR.out])
  go_wp2_with fail
  refine (DrawLayoutCost_any Ab nb cb bs _ (h.ext hX1) hn).mono ?_
  rintro e w2 ⟨L, len, cap, gs, N, A, l, c, es, P, np, cp, p, rfl, hN, hlen, hll, hlp, hog, hoe, hop, hok, hx2⟩
  have HHOK := Lib.hid hok
  have hw12 : w.heap.size ≤ w1.heap.size := hX1.size
  have hB2 := hB1.ext hx2
  have hl2 := hB2.lt
  have hT3 : TG w (w2.alloc (.cells #[.int .i64 N, .slice A l c] 27)) w.heap.size w2.heap.size N A l c es :=
    ⟨(hX1.trans hx2).alloc _, hB2.alloc _, Blk.new _ _ _, own_ext (own_base hoe hw12) ((Ext.refl w2).alloc _), Nat.le_refl _, by omega⟩
  have hog3 := own_ext (own_base hog hw12) ((Ext.refl w2).alloc (.cells #[.int .i64 N, .slice A l c] 27))
  have HP3 := Lib.hid (own_ext (own_base hop hw12) ((Ext.refl w2).alloc (.cells #[.int .i64 N, .slice A l c] 27)))
  clear hop
  have hC3 := (hC1.ext hx2).alloc (.cells #[.int .i64 N, .slice A l c] 27)
  have hg2 : g < w2.heap.size := (hC1.ext hx2).lt
  clear hok hB1 hX1 hl1 hC1 hoe hog hB2 hx2
  go_upto_region 3 with (fail)
  generalize (w2.alloc (.cells #[.int .i64 N, .slice A l c] 27)) = w3 at *
  generalize w2.heap.size = q at *
  have HT3 := Lib.hid hT3
  have HO3 := Lib.hid hog3
  have hgl := hT3.gr.2
  have hgs := (Rd.own hog3).len Gt.cells_len (by omega)
  have hw3 : w.heap.size ≤ w3.heap.size := hT3.1.size
  obtain ⟨⟨b0, b1⟩, z0, z1⟩ := blk2 hT3.2.2.1
  clear hT3 hog3
  go_wp2_with fail
  refine (spec_RouteGates_any L len cap gs _ ⟨N, es⟩ P np cp p _ (Rd.own HO3.out) (by omega) HT3.out.gr.1 (by simp; omega) (Rd.own HP3.out) (by omega) (own_le HP3.out)).mono ?_
  rintro e w4 ⟨v1, v2, f, out, rfl, hol, ho4, hx4⟩
  obtain ⟨L4, c4, rfl, _⟩ := own_slice ho4
  clear HP3
  have HT4 := Lib.hid (HT3.out.ext hx4)
  have HO4 := Lib.hid (own_ext HO3.out hx4)
  have HQ4 := Lib.hid (own_base ho4 hw3)
  have hC4 := hC3.ext hx4
  clear HT3 HO3 hC3 hx4 ho4 b0 b1 z0 z1 hw3 hgl hgs
  obtain ⟨⟨b0, b1⟩, z0, z1⟩ := blk2 HT4.out.2.2.1
  obtain ⟨⟨a0, a1⟩, y0, y1⟩ := blk2 HT4.out.2.1
  cases f
  · go_wp2
    refine wp_region_held_drew (S := fun W => W.cell? ⟨q, 0, none⟩ = some (.int .i64 N) ∧ W.cell? ⟨q, 1, none⟩ = some (.slice A l c)) (by kernel_rfl) ⟨HT4.out.2.2.1.cell 0, HT4.out.2.2.1.cell 1⟩ (fun hHeld => ?_)
    (refine wpAnyH_take (i := 0) (v := ?_) rfl (by kernel_rfl) (by kernel_rfl) (by kernel_rfl) (fun _ _ _ h => h) (Or.inl ⟨by rfl, ?_⟩) (by assumption) ?_; rotate_left; · (intro w hSw; (try dsimp only at hSw); go_simp; all_goals with_reducible rfl); (try simp only [Act.put, List.getElem_toArray, List.getElem_cons_zero, List.getElem_cons_succ, List.setIfInBounds_toArray, List.set_cons_zero, List.set_cons_succ]))
    (try simp only [Act.put, List.getElem_toArray, List.getElem_cons_zero, List.getElem_cons_succ, List.setIfInBounds_toArray, List.set_cons_zero, List.set_cons_succ])
    (refine wpAnyH_take (i := 1) (v := ?_) rfl (by kernel_rfl) (by kernel_rfl) (by kernel_rfl) (fun _ _ _ h => h) (Or.inl ⟨by rfl, ?_⟩) (by assumption) ?_; rotate_left; · (intro w hSw; (try dsimp only at hSw); go_simp; all_goals with_reducible rfl); (try simp only [Act.put, List.getElem_toArray, List.getElem_cons_zero, List.getElem_cons_succ, List.setIfInBounds_toArray, List.set_cons_zero, List.set_cons_succ]))
    (try simp only [Act.put, List.getElem_toArray, List.getElem_cons_zero, List.getElem_cons_succ, List.setIfInBounds_toArray, List.set_cons_zero, List.set_cons_succ])
    (refine wpAnyH_take (i := 2) (v := ?_) rfl (by kernel_rfl) (by kernel_rfl) (by kernel_rfl) (fun _ _ _ h => h) (Or.inl ⟨by rfl, ?_⟩) (by assumption) ?_; rotate_left; · (intro w hSw; (try dsimp only at hSw); go_simp; all_goals with_reducible rfl); (try simp only [Act.put, List.getElem_toArray, List.getElem_cons_zero, List.getElem_cons_succ, List.setIfInBounds_toArray, List.set_cons_zero, List.set_cons_succ]))
    (try simp only [Act.put, List.getElem_toArray, List.getElem_cons_zero, List.getElem_cons_succ, List.setIfInBounds_toArray, List.set_cons_zero, List.set_cons_succ])
    refine wpAnyH_ready (rs := [3]) (by kernel_rfl) (by simp) ?_
    refine AllReadyH.cons rfl (fun K hK => ?_) AllReadyH.nil
    go_simp
    refine hK.out _ _ HT4.out.keep (fun hHeld => ?_)
    clear hK K
    (try simp only [Act.put, List.getElem_toArray, List.getElem_cons_zero, List.getElem_cons_succ, List.setIfInBounds_toArray, List.set_cons_zero, List.set_cons_succ])
    (refine wpAnyH_done (by kernel_rfl) ?_ _)
    clear hHeld a0 a1 y0 y1 b0 b1 z0 z1
    obtain ⟨⟨q0, q1⟩, e1, e2⟩ := HT4.out.fin
    have e3 := HT4.out.rows HO4.out graphgate_ne
    generalize World.drew _ = W2 at q0 q1 e1 e2 e3 ⊢
    go_wp2
    exact bodyPost_ret (v := .tuple #[.slice _ _ _, .agg #[.int .i64 N, .slice _ _ _]]) (by simp [results, Try.results12, go_sem, q0, q1]) rfl (DrewTG.mk _ _ _ _ _ _ _ _ _ hN (by omega) hll e3 e1 HHOK.out e2)
  · clear b0 b1 z0 z1 a0 a1 y0 y1
    go_wp2_with fail
    refine (l1Once_any g 3 _ hC4 (by omega)).mono ?_
    rintro e w5 ⟨f2, rfl, hC5, hG5⟩
    have HT5 := Lib.hid (HT4.out.grown hC4 hG5 (by omega) (by omega) (by omega))
    have HO5 := Lib.hid (own_cur HO4.out hC4 curgate_ne hG5)
    have HQ5 := Lib.hid (own_cur HQ4.out hC4 curgate_ne hG5)
    clear HT4 HO4 HQ4 hC4 hG5
    obtain ⟨⟨b0, b1⟩, z0, z1⟩ := blk2 HT5.out.2.2.1
    obtain ⟨⟨a0, a1⟩, y0, y1⟩ := blk2 HT5.out.2.1
    cases f2
    · go_wp2
      refine wp_region_held_drew (S := fun W => W.cell? ⟨q, 0, none⟩ = some (.int .i64 N) ∧ W.cell? ⟨q, 1, none⟩ = some (.slice A l c)) (by kernel_rfl) ⟨HT5.out.2.2.1.cell 0, HT5.out.2.2.1.cell 1⟩ (fun hHeld => ?_)
      (refine wpAnyH_take (i := 0) (v := ?_) rfl (by kernel_rfl) (by kernel_rfl) (by kernel_rfl) (fun _ _ _ h => h) (Or.inl ⟨by rfl, ?_⟩) (by assumption) ?_; rotate_left; · (intro w hSw; (try dsimp only at hSw); go_simp; all_goals with_reducible rfl); (try simp only [Act.put, List.getElem_toArray, List.getElem_cons_zero, List.getElem_cons_succ, List.setIfInBounds_toArray, List.set_cons_zero, List.set_cons_succ]))
      (try simp only [Act.put, List.getElem_toArray, List.getElem_cons_zero, List.getElem_cons_succ, List.setIfInBounds_toArray, List.set_cons_zero, List.set_cons_succ])
      (refine wpAnyH_take (i := 1) (v := ?_) rfl (by kernel_rfl) (by kernel_rfl) (by kernel_rfl) (fun _ _ _ h => h) (Or.inl ⟨by rfl, ?_⟩) (by assumption) ?_; rotate_left; · (intro w hSw; (try dsimp only at hSw); go_simp; all_goals with_reducible rfl); (try simp only [Act.put, List.getElem_toArray, List.getElem_cons_zero, List.getElem_cons_succ, List.setIfInBounds_toArray, List.set_cons_zero, List.set_cons_succ]))
      (try simp only [Act.put, List.getElem_toArray, List.getElem_cons_zero, List.getElem_cons_succ, List.setIfInBounds_toArray, List.set_cons_zero, List.set_cons_succ])
      (refine wpAnyH_take (i := 2) (v := ?_) rfl (by kernel_rfl) (by kernel_rfl) (by kernel_rfl) (fun _ _ _ h => h) (Or.inl ⟨by rfl, ?_⟩) (by assumption) ?_; rotate_left; · (intro w hSw; (try dsimp only at hSw); go_simp; all_goals with_reducible rfl); (try simp only [Act.put, List.getElem_toArray, List.getElem_cons_zero, List.getElem_cons_succ, List.setIfInBounds_toArray, List.set_cons_zero, List.set_cons_succ]))
      (try simp only [Act.put, List.getElem_toArray, List.getElem_cons_zero, List.getElem_cons_succ, List.setIfInBounds_toArray, List.set_cons_zero, List.set_cons_succ])
      refine wpAnyH_ready (rs := [3]) (by kernel_rfl) (by simp) ?_
      refine AllReadyH.cons rfl (fun K hK => ?_) AllReadyH.nil
      go_simp
      refine hK.out _ _ HT5.out.keep (fun hHeld => ?_)
      clear hK K
      (try simp only [Act.put, List.getElem_toArray, List.getElem_cons_zero, List.getElem_cons_succ, List.setIfInBounds_toArray, List.set_cons_zero, List.set_cons_succ])
      (refine wpAnyH_done (by kernel_rfl) ?_ _)
      clear hHeld a0 a1 y0 y1 b0 b1 z0 z1
      obtain ⟨⟨q0, q1⟩, e1, e2⟩ := HT5.out.fin
      have e3 := HT5.out.rows HQ5.out graphgate_ne
      generalize World.drew _ = W2 at q0 q1 e1 e2 e3 ⊢
      go_wp2
      exact bodyPost_ret (v := .tuple #[.slice _ _ _, .agg #[.int .i64 N, .slice _ _ _]]) (by simp [results, Try.results12, go_sem, q0, q1]) rfl (DrewTG.mk _ _ _ _ _ _ _ _ _ hN (by omega) hll e3 e1 HHOK.out e2)
    · go_wp2
      refine wp_region_held_drew (S := fun W => W.cell? ⟨q, 0, none⟩ = some (.int .i64 N) ∧ W.cell? ⟨q, 1, none⟩ = some (.slice A l c)) (by kernel_rfl) ⟨HT5.out.2.2.1.cell 0, HT5.out.2.2.1.cell 1⟩ (fun hHeld => ?_)
      (refine wpAnyH_take (i := 0) (v := ?_) rfl (by kernel_rfl) (by kernel_rfl) (by kernel_rfl) (fun _ _ _ h => h) (Or.inl ⟨by rfl, ?_⟩) (by assumption) ?_; rotate_left; · (intro w hSw; (try dsimp only at hSw); go_simp; all_goals with_reducible rfl); (try simp only [Act.put, List.getElem_toArray, List.getElem_cons_zero, List.getElem_cons_succ, List.setIfInBounds_toArray, List.set_cons_zero, List.set_cons_succ]))
      (try simp only [Act.put, List.getElem_toArray, List.getElem_cons_zero, List.getElem_cons_succ, List.setIfInBounds_toArray, List.set_cons_zero, List.set_cons_succ])
      (refine wpAnyH_take (i := 1) (v := ?_) rfl (by kernel_rfl) (by kernel_rfl) (by kernel_rfl) (fun _ _ _ h => h) (Or.inl ⟨by rfl, ?_⟩) (by assumption) ?_; rotate_left; · (intro w hSw; (try dsimp only at hSw); go_simp; all_goals with_reducible rfl); (try simp only [Act.put, List.getElem_toArray, List.getElem_cons_zero, List.getElem_cons_succ, List.setIfInBounds_toArray, List.set_cons_zero, List.set_cons_succ]))
      (try simp only [Act.put, List.getElem_toArray, List.getElem_cons_zero, List.getElem_cons_succ, List.setIfInBounds_toArray, List.set_cons_zero, List.set_cons_succ])
      (refine wpAnyH_take (i := 2) (v := ?_) rfl (by kernel_rfl) (by kernel_rfl) (by kernel_rfl) (fun _ _ _ h => h) (Or.inl ⟨by rfl, ?_⟩) (by assumption) ?_; rotate_left; · (intro w hSw; (try dsimp only at hSw); go_simp; all_goals with_reducible rfl); (try simp only [Act.put, List.getElem_toArray, List.getElem_cons_zero, List.getElem_cons_succ, List.setIfInBounds_toArray, List.set_cons_zero, List.set_cons_succ]))
      (try simp only [Act.put, List.getElem_toArray, List.getElem_cons_zero, List.getElem_cons_succ, List.setIfInBounds_toArray, List.set_cons_zero, List.set_cons_succ])
      refine wpAnyH_ready (rs := [3]) (by kernel_rfl) (by simp) ?_
      refine AllReadyH.cons rfl (fun K hK => ?_) AllReadyH.nil
      go_simp
      refine hK.out _ _ HT5.out.keep (fun hHeld => ?_)
      clear hK K
      (try simp only [Act.put, List.getElem_toArray, List.getElem_cons_zero, List.getElem_cons_succ, List.setIfInBounds_toArray, List.set_cons_zero, List.set_cons_succ])
      (refine wpAnyH_done (by kernel_rfl) ?_ _)
      clear hHeld a0 a1 y0 y1 b0 b1 z0 z1
      obtain ⟨⟨q0, q1⟩, e1, e2⟩ := HT5.out.fin
      have e3 := HT5.out.rows HO5.out graphgate_ne
      generalize World.drew _ = W2 at q0 q1 e1 e2 e3 ⊢
      go_wp2
      exact bodyPost_ret (v := .tuple #[.slice _ _ _, .agg #[.int .i64 N, .slice _ _ _]]) (by simp [results, Try.results12, go_sem, q0, q1]) rfl (DrewTG.mk _ _ _ _ _ _ _ _ _ hN (by omega) hll e3 e1 HHOK.out e2)
end Go.Proofs.Ytofbmkpfliofeaa
/-
  Helper text (no claim of its own): the draw for the ends of paths, and the laws' own small helpers.
-/
namespace Go.Proofs.Ytofbmkpfliofeaa
open Go.ChangeShapes Go.WideShapes Go.ChangeAt Go.RowKit Go.Deep
theorem big_any (A : Option Addr) (n c : Nat) (w : World) (hn : n ≤ maxLen) :
    Calls Try.prog 4 #[.slice A n c] w fun e w' => e = .returned (.bool (decide (1048576 < n))) ∧ w = w' := by
  unfold maxLen at hn
  go_enter Try.func4, Try.ntmps4
  go_wp2
  go_ret
  exact ⟨ret_bool (by first | rfl | (rw [decide_eq_decide]; omega)), rfl⟩
end Go.Proofs.Ytofbmkpfliofeaa
namespace Go.Proofs.Ytofbmkpfliofeaa
open Go.ChangeShapes Go.WideShapes Go.ChangeAt Go.RowKit Go.Deep
set_option linter.unusedVariables false
set_option linter.unusedSimpArgs false
namespace fnDirected
set_option maxRecDepth 100000 in
set_option maxHeartbeats 4000000 in
theorem DrawOrientGates_any (Ab : Option Addr) (nb cb : Nat) (bs : List Int) (w : World) (h : Rd w w.heap.size 1 Ab nb (u8cs bs)) (hn : nb ≤ 1048576) :
    Calls Try.prog 5 #[.slice Ab nb cb] w (DrewTG w 455 13) := by
  go_enter Try.func5, Try.ntmps5
  go_wp2_with fail
  refine (DrawRespectsGraph_any Ab nb cb bs _ (h.ext ((Ext.refl w).alloc _)) hn).mono ?_
  rintro e w2 ⟨L, len, cap, gs, N, A, l, c, es, rfl, hN, hlen, hll, hog, hoe, hok, hx2⟩
  have hB := (Blk.new w 27 #[.int .i64 0, .slice none 0 0]).ext hx2
  have hX : Ext w w2 := Ext.trans ((Ext.refl w).alloc _) hx2
  have hsz : w.heap.size ≤ (w.alloc (.cells #[.int .i64 0, .slice none 0 0] 27)).heap.size := ((Ext.refl w).alloc _).size
  have hb := hB.set2 (.int .i64 N) (.slice A l c)
  have q0 := hb.cell 0
  have q1 := hb.cell 1
  have e1 := own_setB2 (own_base hoe hsz) hB graphedge_ne (.int .i64 N) (.slice A l c)
  have e3 := own_setB2 (own_base hog hsz) hB graphgate_ne (.int .i64 N) (.slice A l c)
  have e2 : Ext w ((w2.setCell ⟨w.heap.size, 0, none⟩ (.int .i64 N)).setCell ⟨w.heap.size, 1, none⟩ (.slice A l c)) := (hX.setCell (Nat.le_refl _) _).setCell (Nat.le_refl _) _
  obtain ⟨⟨b0, b1⟩, z0, z1⟩ := blk2 hB
  clear hog hoe hx2 hX hsz hb
  go_wp2
  clear b0 b1 z0 z1 hB
  generalize (w2.setCell _ _).setCell _ _ = W2 at q0 q1 e1 e2 e3 ⊢
  exact bodyPost_ret (v := .tuple #[.slice _ _ _, .agg #[.int .i64 N, .slice _ _ _]]) (by simp [results, Try.results5, go_sem, q0, q1]) rfl (DrewTG.mk _ _ _ _ _ _ _ _ _ hN hlen hll e3 e1 hok e2)
set_option maxRecDepth 100000 in
set_option maxHeartbeats 4000000 in
theorem walk (A : Option Addr) (n c : Nat) (bs : List Int) (w : World) (h : Rd w w.heap.size 1 A n (u8cs bs)) (hm : n ≤ maxLen) :
    Calls Try.prog 3 #[.slice A n c] w fun e w' => e = .returned (.bool true) ∧ Ext w w' := by
  go_enter Try.func3, Try.ntmps3
  go_wp2_with fail
  refine (big_any A n c _ hm).mono ?_
  rintro e w0 ⟨rfl, rfl⟩
  by_cases hbig : 1048576 < n
  · have hd : decide (1048576 < n) = true := by simpa using hbig
    go_wp2
    go_ret
    exact ⟨rfl, Ext.refl _⟩
  have hd : decide (1048576 < n) = false := by simpa using hbig
  go_wp2_with fail
  refine (DrawOrientGates_any A n c bs _ h (by omega)).mono ?_
  rintro e w1 ⟨L, len, cap, gs, N, Ae, l, cc, es, rfl, hN, ⟨hlen, hhc⟩, hll, hog, hoe, hok, hx1⟩
  clear hd hok
  have HHC := Lib.hid hhc
  have hle := (Rd.own hoe).len (f := Ed.cells) (fun _ => by simp [Ed.cells]) (by omega)
  subst hle
  have HGL : Hid (gs.length = len) := (Rd.own hog).len Gt.cells_len (by omega)
  have hX3 : Ext w (w1.alloc (.cells #[.int .i64 N, .slice Ae es.length cc] 27)) := hx1.alloc _
  have hB3 : Blk (w1.alloc (.cells #[.int .i64 N, .slice Ae es.length cc] 27)) w1.heap.size 27 #[.int .i64 N, .slice Ae es.length cc] := Blk.new _ _ _
  have hL3 := (Rd.own hog).ext ((Ext.refl w1).alloc (.cells #[.int .i64 N, .slice Ae es.length cc] 27))
  have hE3 := (Rd.own hoe).ext ((Ext.refl w1).alloc (.cells #[.int .i64 N, .slice Ae es.length cc] 27))
  clear hog hoe hx1 hhc
  go_upto_region 4 with (fail)
  generalize (w1.alloc (.cells #[.int .i64 N, .slice Ae es.length cc] 27)) = w3 at *
  generalize w1.heap.size = q at *
  have HX3 := Lib.hid hX3
  have HL : Hid (∀ w', Ext w3 w' → Rd w' w'.heap.size 4 L len (gcells gs)) := fun w' hx => hL3.ext hx
  have HG : Hid (∀ w', Ext w3 w' → GrAt w' w'.heap.size (.agg #[.int .i64 N, .slice Ae es.length cc]) ⟨N, es⟩) := fun w' hx => ⟨Ae, cc, rfl, hE3.ext hx⟩
  have HB := Lib.hid hB3
  have HOL : Hid ((oriAll ⟨N, es⟩ gs).length ≤ 34125) := by have := oriAll_len ⟨N, es⟩ gs; show (oriAll ⟨N, es⟩ gs).length ≤ 34125; rw [HGL.out] at this; omega
  clear hX3 hL3 hE3 hB3
  have x3 : Ext w3 w3 := Ext.refl _
  have d0 : w3.cell? ⟨q, 0, none⟩ = some (.int .i64 N) := HB.out.cell 0
  have d1 : w3.cell? ⟨q, 1, none⟩ = some (.slice Ae es.length cc) := HB.out.cell 1
  go_wp2_with fail
  refine (impl_OrientGates_of L len cap gs _ ⟨N, es⟩ _ (HL.out _ x3) (HG.out _ x3) (by omega) (fun g _ => impl_OrientGate_any ⟨N, es⟩ g (by simp; omega))).mono ?_
  rintro e w4 ⟨v4, rfl, ho4, y4⟩
  replace y4 := x3.trans y4
  obtain ⟨L4, c4, rfl, hr4⟩ := own_slice ho4
  clear d0 d1 x3 ho4
  have d0 : w4.cell? ⟨q, 0, none⟩ = some (.int .i64 N) := (HB.out.ext y4).cell 0
  have d1 : w4.cell? ⟨q, 1, none⟩ = some (.slice Ae es.length cc) := (HB.out.ext y4).cell 1
  have HR4 := Lib.hid hr4
  clear hr4
  go_wp2_with fail
  refine (spec_OrientGates_any L len cap gs _ ⟨N, es⟩ _ (HL.out _ y4) (HG.out _ y4) (by omega) (by simp; omega)).mono ?_
  rintro e w5 ⟨v5, rfl, ho5, hy5⟩
  have y5 := y4.trans hy5
  obtain ⟨L5, c5, rfl, hr5⟩ := own_slice ho5
  clear d0 d1 y4 ho5
  have HR5 := Lib.hid hr5
  have HR4' := Lib.hid (HR4.out.ext hy5)
  clear hr5 hy5 HR4
  have HRW : Hid (∀ w', Ext w5 w' → Rd w' w'.heap.size 4 L4 (oriAll ⟨N, es⟩ gs).length (gcells (oriAll ⟨N, es⟩ gs)) ∧ Rd w' w'.heap.size 4 L5 (oriAll ⟨N, es⟩ gs).length (gcells (oriAll ⟨N, es⟩ gs))) := fun w' hx => ⟨HR4'.out.ext hx, HR5.out.ext hx⟩
  clear HR4' HR5
  obtain ⟨ok, hk⟩ : ∃ ok, ok = oriAllOk ⟨N, es⟩ gs := ⟨_, rfl⟩
  obtain ⟨out, ho⟩ : ∃ out, out = oriAll ⟨N, es⟩ gs := ⟨_, rfl⟩
  obtain ⟨m, hm'⟩ : ∃ m, m = out.length := ⟨_, rfl⟩
  rw [← hk]
  rw [← ho] at HOL HRW ⊢
  rw [← hm'] at HOL HRW ⊢
  have HK := Lib.hid hk
  have HO := Lib.hid ho
  have HM := Lib.hid hm'
  have hm34 : m ≤ 34125 := HOL.out
  clear hk ho hm'
  have d0 : w5.cell? ⟨q, 0, none⟩ = some (.int .i64 N) := (HB.out.ext y5).cell 0
  have d1 : w5.cell? ⟨q, 1, none⟩ = some (.slice Ae es.length cc) := (HB.out.ext y5).cell 1
  have HSG : Hid (∀ w', Ext w5 w' → Calls Try.prog 8 #[.slice L4 m c4, .slice L5 m c5] w' fun e w'' => e = .returned (.bool true) ∧ Ext w' w'') := fun w' hx => by
    refine (sameGates_any L4 L5 m m c4 c5 out out _ (HRW.out _ hx).1 (HRW.out _ hx).2 (by omega) (by omega)).mono ?_
    rintro e w'' ⟨rfl, hy⟩
    rw [eqL_self eqG eqG_self]
    exact ⟨rfl, hy⟩
  have z5 : Ext w5 w5 := Ext.refl _
  cases ok
  · go_wp2_with fail
    refine (HSG.out _ z5).mono ?_
    rintro e w6 ⟨rfl, y6⟩
    go_wp2_with fail
    refine (HSG.out _ (z5.trans y6)).mono ?_
    rintro e w7 ⟨rfl, y7⟩
    go_wp2
    go_ret
    exact ⟨rfl, HX3.out.trans (y5.trans (y6.trans y7))⟩
  · have HE : Hid (exeN ⟨N, es⟩ out = true) := by show exeN ⟨N, es⟩ out = true; rw [HO.out]; exact exe_oriAll HK.out.symm
    go_wp2_with fail
    refine (HSG.out _ z5).mono ?_
    rintro e w6 ⟨rfl, hy6⟩
    replace z5 := z5.trans hy6
    have y6 := y5.trans hy6
    clear d0 d1
    have d0 : w6.cell? ⟨q, 0, none⟩ = some (.int .i64 N) := (HB.out.ext y6).cell 0
    have d1 : w6.cell? ⟨q, 1, none⟩ = some (.slice Ae es.length cc) := (HB.out.ext y6).cell 1
    go_wp2_with fail
    refine (impl_IsExecutable_any L4 m c4 out _ ⟨N, es⟩ _ (HRW.out _ z5).1 (HG.out _ y6) (by omega) (by simp; omega)).mono ?_
    rintro e w7 ⟨rfl, hy7⟩
    rw [HE.out]
    have z7 := z5.trans hy7
    have y7 := y6.trans hy7
    clear d0 d1
    have d0 : w7.cell? ⟨q, 0, none⟩ = some (.int .i64 N) := (HB.out.ext y7).cell 0
    have d1 : w7.cell? ⟨q, 1, none⟩ = some (.slice Ae es.length cc) := (HB.out.ext y7).cell 1
    go_wp2_with fail
    refine (spec_IsExecutable_any L4 m c4 out _ ⟨N, es⟩ _ (HRW.out _ z7).1 (HG.out _ y7) (by omega) (by simp; omega)).mono ?_
    rintro e w8 ⟨rfl, hy8⟩
    rw [HE.out]
    have z8 := z7.trans hy8
    have y8 := y7.trans hy8
    clear d0 d1
    have d0 : w8.cell? ⟨q, 0, none⟩ = some (.int .i64 N) := (HB.out.ext y8).cell 0
    have d1 : w8.cell? ⟨q, 1, none⟩ = some (.slice Ae es.length cc) := (HB.out.ext y8).cell 1
    by_cases hin : 1 ≤ N ∧ N ≤ 4
    · obtain ⟨hi1, hi4⟩ := hin
      obtain ⟨k, rfl⟩ := Int.eq_ofNat_of_zero_le (by omega : 0 ≤ N)
      have HAP : Hid (∀ w', Ext w8 w' → Calls Try.prog 11 #[.slice L len cap, .slice L4 m c4, .int .i64 k] w' fun e w'' => e = .returned (.tuple #[.int .i64 0, .bool true]) ∧ Ext w' w'') := fun w' hx => by
        have hall : ∀ g ∈ gs, oriOk ⟨k, es⟩ g = true := fun g hg => List.all_eq_true.1 HK.out.symm g hg
        refine apart_of (n := k) (by omega) (by omega) L L4 len m cap c4 gs out w' HGL.out HM.out.symm (HL.out _ (y8.trans hx)) (HRW.out _ (z8.trans hx)).1 (by omega) (by omega) (same_chains (fun g hg => ori_vg (hall g hg)) (by have := HHC.out; omega) ?_)
        rw [HO.out, oriAll_yes HK.out.symm]
        exact same_ori rfl hall
      clear HSG HRW
      have h1 : ¬ (k : Int) < 1 := by omega
      have h2 : ¬ (4 : Int) < (k : Int) := by omega
      have h3 : ¬ (k : Int) > 4 := h2
      go_wp2_with fail
      refine (HAP.out _ (Ext.refl _)).mono ?_
      rintro e w9 ⟨rfl, hy9⟩
      go_wp2
      go_ret
      exact ⟨rfl, HX3.out.trans (y8.trans hy9)⟩
    · have HNG : Hid (len = 0) := by
        show len = 0
        rw [← HGL.out]
        cases hgs : gs with
        | nil => rfl
        | cons g r =>
          exfalso
          have h1 : oriOk ⟨N, es⟩ g = true := List.all_eq_true.1 HK.out.symm g (by rw [hgs]; exact List.mem_cons_self ..)
          have h2 := vg_parts (ori_vg h1)
          exact hin ⟨h2.1, h2.2.1⟩
      have hl0 := HNG.out
      subst hl0
      by_cases h1 : N < 1
      · go_wp2
        go_ret
        exact ⟨rfl, HX3.out.trans y8⟩
      · have h2 : 4 < N := by omega
        have h3 : N > 4 := h2
        go_wp2
        go_ret
        exact ⟨rfl, HX3.out.trans y8⟩
set_option maxRecDepth 100000 in
theorem lifted (os : Os) (started : os.Started) (H : Type) (enc : TypeId × Value → H) :
    ReturnsInHanded {} Try.checked os 3 .any (Rows.fnDirectedSpec.pre6 enc Try.prog Try.f3 Rows.fnDirectedRow.domain false) (Rows.fnDirectedSpec.post enc Try.prog Try.f3 false true false false) := by
  refine returnsInHanded_of_change (C := Try.checked) own started (by kernel_rfl) Try.func3
    (ChangeSpec.witness6 (enc := enc) (C := Try.checked) false ⟨#[], #[.slice none 0 0], []⟩ 8 (by kernel_rfl) (by kernel_rfl) (by kernel_rfl) (by kernel_rfl)) ?_
  intro W base args ds gs before hval0 hW hcnd _
  have hval : ∀ (j : Nat) t v, Try.f3.params[j]? = some t → args[j]? = some v → Value.okWide Try.prog W .any base t v := hval0
  have hW' := hW
  obtain ⟨p, q, hA0, hV, rfl, hfz, hnd⟩ := hW
  have hA : DataW.TrodAll enc Try.prog W 0 (fun _ => true) true Try.f3.params.toList args.toList ds p := hA0
  rw [Try.params3] at hA hval
  obtain ⟨v0, vs0, d0, ds0, p0, q0, hargs, rfl, rfl, h0, r0⟩ := trodAll_cons hA
  obtain ⟨rfl, rfl, rfl⟩ := trodAll_nil r0
  obtain rfl : args = #[v0] := by cases args; simp_all
  clear hA0 hval0 hfz hnd hV hcnd
  obtain ⟨A, n, c, bs, rfl, hnc0, hcm0, hr0, hok0⟩ := open_lbytes (hval 0 _ v0 rfl rfl) h0
  refine (walk A n c bs W hr0 (by omega)).mono fun e W' ⟨he, hx⟩ => ?_
  subst he
  exact ⟨_, rfl, law_post rfl (by rw [Try.params3]; decide +kernel) rfl hW' rfl rfl rfl hx⟩

theorem over : Rows.fnDirectedRow.holds Try.pinned (OpenSpec.ofChange Rows.fnDirectedSpec) :=
  OpenClaim.holds_of_wide 3 Try.f3 rfl rfl rfl rfl rfl rfl rfl ⟨rfl, rfl, rfl, rfl, rfl⟩ rfl rfl rfl rfl rfl (by kernel_rfl) Try.func3 (by kernel_rfl)
    (of_decide_eq_true (by kernel_rfl)) (by unfold Func.isWrapper; first | (rw [if_pos (by decide +kernel)]; kernel_rfl) | (rw [if_neg (by decide +kernel)]; exact ⟨rfl, rfl⟩))
    (fun os started H enc _ => lifted os started H enc)

/-- The statement. -/
theorem proved : Rows.FnDirectedSaid := over
#print axioms proved

end fnDirected
end Go.Proofs.Ytofbmkpfliofeaa
