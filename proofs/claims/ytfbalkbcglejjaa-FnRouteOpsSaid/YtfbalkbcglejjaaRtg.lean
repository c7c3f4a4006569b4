/-
  Helper text (no claim of its own): the routing of a gate by swaps, by the program and by the reference. Printed by gen_rtg.py.
-/
import Derived.Test.YtfbalkbcglejjaaRtp
import Derived.Test.YtfbalkbcglejjaaDrawE
import Derived.Test.YtfbalkbcglejjaaSpi
namespace Go.Proofs.Ytfbalkbcglejjaa
open Go.ChangeShapes Go.WideShapes Go.ChangeAt Go.RowKit Go.Deep
set_option linter.unusedVariables false
theorem own_apart {w : World} {B B' e e' size size' n n' : Nat} {v v' : Value} {xs xs' : List Value} (h : w.ownsRow B e size v n xs) (h' : w.ownsRow B' e' size' v' n' xs') (hne : e ≠ e') {g : Nat} (hg : v.ownBlock = some g) : v'.ownBlock ≠ some g := by
  intro hg'
  rcases h.2 with ⟨rfl, _⟩ | ⟨b, cap, cur, rfl, _, hc, _⟩
  · cases hg
  · rcases h'.2 with ⟨rfl, _⟩ | ⟨b', cap', cur', rfl, _, hc', _⟩
    · cases hg'
    · injection hg with hg
      injection hg' with hg'
      subst hg hg'
      rw [hc] at hc'
      injection hc' with hc'
      injection hc' with _ hc'
      exact hne hc'
/-- A row is kept where a row of other elements is written. -/
theorem own_other {w w' : World} {B B' e e' size size' n n' : Nat} {v v' : Value} {xs xs' : List Value} (h : w.ownsRow B e size v n xs) (h' : w.ownsRow B' e' size' v' n' xs') (hne : e ≠ e') (hg : w.grownBy w' v'.ownBlock) : w'.ownsRow B e size v n xs := by
  refine h.kept hg ?_
  cases hv : v.ownBlock with
  | none => exact .inl rfl
  | some k => exact .inr fun e1 => own_apart h h' hne hv e1.symm
/-- What RouteGate hands back. -/
def RoutE (w : World) (r : List Gt × List Int) (e : Ending) (w' : World) : Prop :=
  ∃ v A len cap, e = .returned (.tuple #[v, .slice A len cap]) ∧ len = r.2.length ∧ len ≤ cap ∧ w'.ownsRow w.heap.size 43 4 v r.1.length (gcells r.1) ∧ w'.ownsRow w.heap.size 3 1 (.slice A len cap) len (icells r.2) ∧ Ext w w'
theorem own_le {w : World} {B e size n c : Nat} {A : Option Addr} {xs : List Value} (h : w.ownsRow B e size (.slice A n c) n xs) : n ≤ c := by
  rcases h.2 with ⟨h0, rfl⟩ | ⟨g, cap, cur, hv, _, _, hnc, _⟩
  · omega
  · injection hv with _ _ h3
    omega
theorem RoutE.mk {w Wb w' : World} {r : List Gt × List Int} {v : Value} {A : Option Addr} {n cap : Nat} {gs : List Gt} {q : List Int} (hr : r = (gs, q)) (hx : Ext w Wb) (hg : w'.ownsRow Wb.heap.size 43 4 v gs.length (gcells gs)) (hp : w'.ownsRow Wb.heap.size 3 1 (.slice A n cap) n (icells q)) (hw : Ext Wb w') (hq : q.length = n) : RoutE w r (.returned (.tuple #[v, .slice A n cap])) w' := by
  subst hr
  exact ⟨v, A, n, cap, rfl, hq.symm, own_le hp, own_base hg hx.size, own_base hp hx.size, hx.trans hw⟩
theorem two_at {w : World} {B n i j : Nat} {A : Option Addr} {xs : List Int} {y z : Int} (h : Rd w B 1 A n (icells xs)) (hi : i < n) (hj : j < n) (hy : xs[i]? = some y) (hz : xs[j]? = some z) :
    ∃ b o, A = some ⟨b, o, none⟩ ∧ b < B ∧ w.cell? ⟨b, o + i, none⟩ = some (.int .i64 y) ∧ w.cell? ⟨b, o + j, none⟩ = some (.int .i64 z) := by
  obtain ⟨b, o, y', rfl, hb, hy', c1⟩ := int_at h hi
  obtain ⟨b', o', z', e, _, hz', c2⟩ := int_at h hj
  injection e with e
  injection e with e1 e2
  subst e1 e2
  rw [hy] at hy'
  rw [hz] at hz'
  injection hy' with hy'
  injection hz' with hz'
  subst hy' hz'
  exact ⟨b, o, rfl, hb, c1, c2⟩
def slen : Value → Nat
  | .slice _ n _ => n
  | _ => 0
theorem gint_ne : (43 : Nat) ≠ 3 := by decide
theorem intg_ne : (3 : Nat) ≠ 43 := by decide

set_option maxRecDepth 100000 in
set_option maxHeartbeats 16000000 in
theorem impl_RouteGate_any (g : Gt) (v : Value) (x : Gr) (A : Option Addr) (n c : Nat) (p : List Int) (w : World) (h : GrAt w w.heap.size v x) (hl : x.es.length ≤ 100000000) (hok : ∀ e ∈ x.es, e.ok) (hp : Rd w w.heap.size 1 A n (icells p)) (hn : n ≤ 100000000) (hc : n ≤ c) :
    Calls Try.prog 62 #[g.val, v, .slice A n c] w (RoutE w (routG x g p)) := by
  have hlen := Lib.hid (hp.len icell_len (by omega))
  obtain ⟨A1, c1, rfl, h1⟩ := h
  have HG : Hid (∀ w', Ext w w' → GrAt w' w'.heap.size (.agg #[.int .i64 x.n, .slice A1 x.es.length c1]) x) := fun w' hx => ⟨A1, c1, rfl, h1.ext hx⟩
  have HOK := Lib.hid hok
  clear hok
  clear h1
  have hG0 : Blk ((w.alloc (.cells #[.int .i64 g.k, .int .i64 g.a, .int .i64 g.b, .int .i64 g.c] 43)).alloc (.cells #[.int .i64 x.n, .slice A1 x.es.length c1] 27)) w.heap.size 43 #[.int .i64 g.k, .int .i64 g.a, .int .i64 g.b, .int .i64 g.c] := (Blk.new _ _ _).alloc _
  have hB0 : Blk ((w.alloc (.cells #[.int .i64 g.k, .int .i64 g.a, .int .i64 g.b, .int .i64 g.c] 43)).alloc (.cells #[.int .i64 x.n, .slice A1 x.es.length c1] 27)) (w.heap.size + 1) 27 #[.int .i64 x.n, .slice A1 x.es.length c1] := Blk.newAt (by simp)
  have hX0 : Ext w ((w.alloc (.cells #[.int .i64 g.k, .int .i64 g.a, .int .i64 g.b, .int .i64 g.c] 43)).alloc (.cells #[.int .i64 x.n, .slice A1 x.es.length c1] 27)) := by repeat (first | exact Ext.refl _ | assumption | refine Ext.alloc ?_ _ | refine Ext.drewN ?_ _ | refine Ext.drew ?_)
  have HG0 := Lib.hid hG0
  have HB0 := Lib.hid hB0
  have HX0 := Lib.hid hX0
  clear hB0 hX0 hG0
  go_enter Try.func62, Try.ntmps62
  go_upto_region 1 with (fail)
  have hG0 := HG0.out
  have hB0 := HB0.out
  have hX0 := HX0.out
  clear HB0 HX0 HG0
  generalize ((w.alloc (.cells #[.int .i64 g.k, .int .i64 g.a, .int .i64 g.b, .int .i64 g.c] 43)).alloc (.cells #[.int .i64 x.n, .slice A1 x.es.length c1] 27)) = Wb at *
  have hE : Ext Wb Wb := Ext.refl _
  go_upto_region 2 with (at_builtin; refine appIntS (w0 := Wb) rfl _ _ rfl _ 0 [] rfl (own_lit (by repeat (first | exact Ext.refl _ | assumption | refine Ext.alloc ?_ _ | refine Ext.drewN ?_ _ | refine Ext.drew ?_)) _ _ 1 0 #[] _ (by simp) rfl rfl (by omega)) (by repeat (first | exact Ext.refl _ | assumption | refine Ext.alloc ?_ _ | refine Ext.drewN ?_ _ | refine Ext.drew ?_)) A n c p rfl ((hp.ext hX0).ext (by repeat (first | exact Ext.refl _ | assumption | refine Ext.alloc ?_ _ | refine Ext.drewN ?_ _ | refine Ext.drew ?_))) (by omega) ?_; intro v1 w1 ho1 hx1 hg1 hb1)
  simp only [Nat.zero_add, List.nil_append] at ho1
  clear hg1 hb1 hE
  have hX1 := hX0.trans hx1
  have hG1 := hG0.ext hx1
  have hB1 := hB0.ext hx1
  have b0 : w1.cell? ⟨w.heap.size, 0, none⟩ = some (.int .i64 g.k) := hG1.cell 0
  have b1 : w1.cell? ⟨w.heap.size, 1, none⟩ = some (.int .i64 g.a) := hG1.cell 1
  have b2 : w1.cell? ⟨w.heap.size, 2, none⟩ = some (.int .i64 g.b) := hG1.cell 2
  have b3 : w1.cell? ⟨w.heap.size, 3, none⟩ = some (.int .i64 g.c) := hG1.cell 3
  have d0 : w1.cell? ⟨w.heap.size + 1, 0, none⟩ = some (.int .i64 x.n) := hB1.cell 0
  have d1 : w1.cell? ⟨w.heap.size + 1, 1, none⟩ = some (.slice A1 x.es.length c1) := hB1.cell 1
  obtain ⟨Al, cl, rfl, _⟩ := own_slice ho1
  go_wp2_with fail
  refine (impl_mayRoute_any g _ x A n c p _ (HG.out _ hX1) hl HOK.out (hp.ext hX1) hn).mono ?_
  rintro e w2 ⟨rfl, hx2⟩
  have ho2 := own_ext ho1 hx2
  replace hx1 := hx1.trans hx2
  replace hG1 := hG1.ext hx2
  replace hB1 := hB1.ext hx2
  clear b0 b1 b2 b3 d0 d1 ho1 hX1 hx2
  cases hm : may g x p
  · have HR := Lib.hid (routG_no hm)
    clear hm
    go_wp2
    go_ret2
    exact RoutE.mk HR.out hX0 (World.ownsRow_nil _ _ _ _) ho2 hx1 hlen.out
  have b0 : w2.cell? ⟨w.heap.size, 0, none⟩ = some (.int .i64 g.k) := hG1.cell 0
  have b1 : w2.cell? ⟨w.heap.size, 1, none⟩ = some (.int .i64 g.a) := hG1.cell 1
  have b2 : w2.cell? ⟨w.heap.size, 2, none⟩ = some (.int .i64 g.b) := hG1.cell 2
  have b3 : w2.cell? ⟨w.heap.size, 3, none⟩ = some (.int .i64 g.c) := hG1.cell 3
  have d0 : w2.cell? ⟨w.heap.size + 1, 0, none⟩ = some (.int .i64 x.n) := hB1.cell 0
  have d1 : w2.cell? ⟨w.heap.size + 1, 1, none⟩ = some (.slice A1 x.es.length c1) := hB1.cell 1
  cases h1 : (ar g.k == 1)
  case true =>
    have HR := Lib.hid (routG_1 hm h1)
    obtain ⟨ia, y, hga, hia, hy, hlo, hp4, _⟩ := loc_at hm
    have HLO := Lib.hid hlo
    have HY := Lib.hid hy
    have hpn := hlen.out
    have hian : ia < n := by omega
    obtain ⟨bl, ol, y', rfl, hbl, hy', q0⟩ := int_at hp hian
    have hyy : y' = y := by rw [HY.out] at hy'; injection hy' with hy'; exact hy'.symm
    subst hyy
    rw [hga] at b1
    have HQ : Hid (∀ w', Ext Wb w' → w'.cell? ⟨w.heap.size, 0, none⟩ = some (.int .i64 g.k) ∧ w'.cell? ⟨w.heap.size, 1, none⟩ = some (.int .i64 (ia : Int)) ∧ w'.cell? ⟨bl, ol + ia, none⟩ = some (.int .i64 y')) := fun w' z => ⟨(hG0.ext z).cell 0, by rw [← hga]; exact (hG0.ext z).cell 1, ((hX0.trans z).cell (p := ⟨bl, ol + ia, none⟩) hbl).trans q0⟩
    have q0' : w2.cell? ⟨bl, ol + ia, none⟩ = some (.int .i64 y') := (HQ.out _ hx1).2.2
    have hi0 : (0 : Int) ≤ (ia : Int) := by omega
    have hin : (ia : Int) < (n : Int) := by omega
    have HLOC : Hid (loc p g.a = y') := hlo
    clear hlo hy hy' hpn hga hm HY
    go_wp2_with fail
    refine (impl_Arity_any _ _).mono ?_
    rintro e w3 ⟨rfl, rfl⟩
    go_wp2
    have hz0 := Ext.refl w2
    first | go_region_held3 (fun w' => w'.cell? ⟨w.heap.size, 0, none⟩ = some (.int .i64 g.k) ∧ w'.cell? ⟨w.heap.size, 1, none⟩ = some (.int .i64 (ia : Int)) ∧ w'.cell? ⟨bl, ol + ia, none⟩ = some (.int .i64 y'))
      (first | go_keep | (refine HQ.out _ ?_; assumption) | (refine HQ.out _ (hx1.trans ?_); repeat (first | exact Ext.refl _ | assumption | refine Ext.alloc ?_ _ | refine Ext.drewN ?_ _ | refine Ext.drew ?_); done))
      (first | (go_at_call 50; (with_reducible refine (impl_one_any (w0 := w2) _ _ _ (by repeat (first | exact Ext.refl _ | assumption | refine Ext.alloc ?_ _ | refine Ext.drewN ?_ _ | refine Ext.drew ?_))).mono ?_); clear hz0; rintro e w' ⟨rfl, hz0⟩)) | fail
    all_goals
      go_wp2
      go_ret2
      exact RoutE.mk (HR.out.trans (by rw [HLOC.out])) hX0 (own_lit (hx1.trans hz0) _ _ 4 1 #[.int .i64 g.k, .int .i64 y', .int .i64 0, .int .i64 0] (gcells [g1 g.k y']) rfl rfl rfl (by omega)) (own_ext ho2 (hz0.alloc _)) ((hx1.trans hz0).alloc _) hlen.out
  obtain ⟨ia, ib, hga, hgb, _, hW0⟩ := OnWay.of hm h1
  have HR := Lib.hid (routG_2 hm h1)
  rw [hga, hgb] at HR
  obtain ⟨T, hT⟩ : ∃ T, T = rgL x ia ib 4 p := ⟨_, rfl⟩
  rw [← hT] at HR
  have HT0 : Hid (([] : List Gt) ++ (rgL x ia ib 4 p).1 = T.1 ∧ (rgL x ia ib 4 p).2 = T.2) := by rw [hT]; exact ⟨rfl, rfl⟩
  have hpn := hlen.out
  have hxn : x.n = (n : Int) := by have := hW0.len; omega
  have hn4 : n ≤ 4 := by have := (perm_le hW0.perm).2; omega
  have hian : ia < n := by have := hW0.ha; omega
  have hibn : ib < n := by have := hW0.hb; omega
  have hg0 := gd_range x (loc p ia) (loc p ib)
  have HXN := Lib.hid hxn
  have HQ : Hid (∀ w', Ext Wb w' → w'.cell? ⟨w.heap.size, 1, none⟩ = some (.int .i64 (ia : Int)) ∧ w'.cell? ⟨w.heap.size, 2, none⟩ = some (.int .i64 (ib : Int)) ∧ w'.cell? ⟨w.heap.size + 1, 0, none⟩ = some (.int .i64 x.n) ∧ w'.cell? ⟨w.heap.size + 1, 1, none⟩ = some (.slice A1 x.es.length c1)) := fun w' z => ⟨by rw [← hga]; exact (hG0.ext z).cell 1, by rw [← hgb]; exact (hG0.ext z).cell 2, (hB0.ext z).cell 0, (hB0.ext z).cell 1⟩
  have hi0 : (0 : Int) ≤ (ia : Int) := by omega
  have hin : (ia : Int) < (n : Int) := by omega
  have hj0 : (0 : Int) ≤ (ib : Int) := by omega
  have hjn : (ib : Int) < (n : Int) := by omega
  have h2lt : (1 : Int) < 2 := by omega
  clear hT hpn hxn hm hga hgb hG1 hB1 h2lt
  go_wp2_with fail
  refine (impl_Arity_any _ _).mono ?_
  rintro e w3 ⟨rfl, rfl⟩
  have hoG2 : (w2.alloc (.cells #[] 43)).ownsRow Wb.heap.size 43 4 (.slice (some ⟨w2.heap.size, 0, none⟩) 0 0) 0 (gcells []) := own_lit hx1 _ _ 4 0 #[] _ rfl rfl rfl (by omega)
  replace ho2 := ho2.alloc (.cells #[] 43)
  replace hx1 := hx1.alloc (.cells #[] 43)
  have HO2 := Lib.hid ho2
  have HOG := Lib.hid hoG2
  have HX1 := Lib.hid hx1
  clear ho2 hoG2 hx1
  go_wp2
  clear b0 b1 b2 b3 d0 d1
  go_loopw [8, 9] (fun vl vo wr => ∃ (f : Nat) (now : List Int) (out : List Gt) (A : Option Addr) (c : Nat) (Ao : Option Addr) (m co : Nat), vl = .slice A n c ∧ vo = .slice Ao m co ∧ m + f = 4 ∧ Hid (out.length = m) ∧ OnWay x ia ib now ∧ gd x (loc now ia) (loc now ib) ≤ f ∧ Hid (out ++ (rgL x ia ib f now).1 = T.1 ∧ (rgL x ia ib f now).2 = T.2) ∧ wr.ownsRow Wb.heap.size 43 4 (.slice Ao m co) m (gcells out) ∧ wr.ownsRow Wb.heap.size 3 1 (.slice A n c) n (icells now) ∧ Ext Wb wr) (fun vl vo _ => 5 - slen vo)
  case atStart => exact ⟨4, p, [], Al, cl, _, 0, _, rfl, rfl, rfl, rfl, hW0, hg0.2, HT0, HOG.out, HO2.out, HX1.out⟩
  case round =>
    clear HO2 HOG HX1 HT0 hg0 hW0
    obtain ⟨f, now, out, Al, cl, Ao, m, co, rfl, rfl, hmf, HM, hW, hgf, HT, ho, hlay, hx⟩ := hrel
    obtain ⟨y, hy, ly, y0, y1⟩ := hW.at_ hW.ha
    obtain ⟨z, hz, lz, z0, z1⟩ := hW.at_ hW.hb
    have hnl : now.length = n := by have := hW.len; have := HXN.out; omega
    have HNL := Lib.hid hnl
    obtain ⟨bl, ol, rfl, hbl, cy, cz⟩ := two_at (Rd.own hlay) hian hibn hy hz
    have HK : Hid (∀ w', Ext wr w' → w'.cell? ⟨w.heap.size, 1, none⟩ = some (.int .i64 (ia : Int)) ∧ w'.cell? ⟨w.heap.size, 2, none⟩ = some (.int .i64 (ib : Int)) ∧ w'.cell? ⟨w.heap.size + 1, 0, none⟩ = some (.int .i64 x.n) ∧ w'.cell? ⟨w.heap.size + 1, 1, none⟩ = some (.slice A1 x.es.length c1) ∧ w'.cell? ⟨bl, ol + ia, none⟩ = some (.int .i64 y) ∧ w'.cell? ⟨bl, ol + ib, none⟩ = some (.int .i64 z)) := fun w' q => ⟨(HQ.out _ (hx.trans q)).1, (HQ.out _ (hx.trans q)).2.1, (HQ.out _ (hx.trans q)).2.2.1, (HQ.out _ (hx.trans q)).2.2.2, (q.cell (p := ⟨bl, ol + ia, none⟩) hbl).trans cy, (q.cell (p := ⟨bl, ol + ib, none⟩) hbl).trans cz⟩
    have HK4 : Hid (∀ w', Ext Wb w' → w'.ownsRow Wb.heap.size 3 1 (.slice (some ⟨bl, ol, none⟩) n cl) n (icells now) → w'.cell? ⟨w.heap.size, 1, none⟩ = some (.int .i64 (ia : Int)) ∧ w'.cell? ⟨w.heap.size, 2, none⟩ = some (.int .i64 (ib : Int)) ∧ w'.cell? ⟨w.heap.size + 1, 0, none⟩ = some (.int .i64 x.n) ∧ w'.cell? ⟨w.heap.size + 1, 1, none⟩ = some (.slice A1 x.es.length c1) ∧ w'.cell? ⟨bl, ol + ia, none⟩ = some (.int .i64 y) ∧ w'.cell? ⟨bl, ol + ib, none⟩ = some (.int .i64 z)) := fun w' q r => by
      obtain ⟨b', o', e', _, c1', c2'⟩ := two_at (Rd.own r) hian hibn hy hz
      injection e' with e'
      injection e' with e1 e2
      subst e1 e2
      exact ⟨(HQ.out _ q).1, (HQ.out _ q).2.1, (HQ.out _ q).2.2.1, (HQ.out _ q).2.2.2, c1', c2'⟩
    have hg' : gd x (loc now ia) (loc now ib) = gd x y z := by rw [ly, lz]
    rw [hg'] at hgf
    obtain ⟨G, hG⟩ : ∃ G, G = gd x y z := ⟨_, rfl⟩
    have HGD := Lib.hid hG
    rw [← hG] at hgf
    have HY := Lib.hid hy
    have HZ := Lib.hid hz
    have HLY := Lib.hid ly
    have HLZ := Lib.hid lz
    have HG' := Lib.hid hg'
    have HW := Lib.hid hW
    clear hG hy hz ly lz hg' hnl cy cz hW
    obtain ⟨b1, b2, d0, d1, cy, cz⟩ := HK.out wr (Ext.refl wr)
    by_cases hg : 1 < G
    · obtain ⟨f, rfl⟩ : ∃ f', f = f' + 1 := ⟨f - 1, by omega⟩
      obtain ⟨s, t, rest, hs1, hs2, hs3, _, _, hs6⟩ := HW.out.step (by rw [HG'.out, ← HGD.out]; exact hg)
      rw [HLY.out, HLZ.out] at hs1
      rw [HG'.out, ← HGD.out] at hs3
      have hl6 : (swapL now s t).length = n := by have := hs2.len; have := HXN.out; omega
      have HS1 := Lib.hid hs1
      have HS2 := Lib.hid hs2
      have HS3 := Lib.hid hs3
      have HS6 := Lib.hid hs6
      have HL6 := Lib.hid hl6
      clear hs1 hs2 hs3 hs6 hl6
      go_wp2
      first | go_region_held3 (fun w' => w'.cell? ⟨w.heap.size, 1, none⟩ = some (.int .i64 (ia : Int)) ∧ w'.cell? ⟨w.heap.size, 2, none⟩ = some (.int .i64 (ib : Int)) ∧ w'.cell? ⟨w.heap.size + 1, 0, none⟩ = some (.int .i64 x.n) ∧ w'.cell? ⟨w.heap.size + 1, 1, none⟩ = some (.slice A1 x.es.length c1) ∧ w'.cell? ⟨bl, ol + ia, none⟩ = some (.int .i64 y) ∧ w'.cell? ⟨bl, ol + ib, none⟩ = some (.int .i64 z))
        (first | (refine HK.out _ ?_; assumption) | exact HK.out _ (Ext.refl wr).drew | go_keep)
        (first | (go_at_call 78; refine (impl_GraphDistance_any _ x y z _ (HG.out _ (hX0.trans hx.drew)) hl).mono ?_; rintro e w3 ⟨rfl, hy3⟩; replace hy3 : Ext wr w3 := Ext.trans (Ext.refl wr).drew hy3; rw [← HGD.out])) | fail
      clear b1 b2 d0 d1 cy cz
      obtain ⟨b1, b2, d0, d1, cy, cz⟩ := HK.out w3 hy3
      have hx3 := hx.trans hy3
      go_wp2
      first | go_region_held3 (fun w' => w'.cell? ⟨w.heap.size, 1, none⟩ = some (.int .i64 (ia : Int)) ∧ w'.cell? ⟨w.heap.size, 2, none⟩ = some (.int .i64 (ib : Int)) ∧ w'.cell? ⟨w.heap.size + 1, 0, none⟩ = some (.int .i64 x.n) ∧ w'.cell? ⟨w.heap.size + 1, 1, none⟩ = some (.slice A1 x.es.length c1) ∧ w'.cell? ⟨bl, ol + ia, none⟩ = some (.int .i64 y) ∧ w'.cell? ⟨bl, ol + ib, none⟩ = some (.int .i64 z))
        (first | (refine HK.out _ (hy3.trans ?_); assumption) | exact HK.out _ hy3.drew | go_keep)
        (first | (go_at_call 77; refine (impl_ShortestPath_any _ x y z _ (HG.out _ (hX0.trans hx3.drew)) hl).mono ?_; rintro e w4 ⟨Aw, lw, cw, rfl, hlw', how', hy4⟩; have HLW := Lib.hid hlw'; have how := Lib.hid how'; clear hlw' how'; replace hy4 : Ext w3 w4 := Ext.trans (Ext.refl w3).drew hy4)) | fail
      clear b1 b2 d0 d1 cy cz
      have hlw := HLW.out
      replace how := how.out
      rw [HS1.out] at hlw how
      have hlw2 : 2 ≤ lw := by rw [hlw]; simp
      clear hlw HLW
      have hx4 := hx3.trans hy4
      have hlay4 := own_ext hlay (hy3.trans hy4)
      have ho4 := own_ext ho (hy3.trans hy4)
      obtain ⟨bw, ow, rfl, _, k0, k1⟩ := two_at (Rd.own how) (show 0 < lw by omega) (show 1 < lw by omega) (y := s) (z := t) rfl rfl
      obtain ⟨Bw, hBw⟩ : ∃ B, B = w3.drew.heap.size := ⟨_, rfl⟩
      rw [← hBw] at how
      have HKW : Hid (∀ w' : World, w'.ownsRow Bw 3 1 (.slice (some ⟨bw, ow, none⟩) lw cw) lw (icells (s :: t :: rest)) → w'.cell? ⟨bw, ow, none⟩ = some (.int .i64 s) ∧ w'.cell? ⟨bw, ow + 1, none⟩ = some (.int .i64 t)) := fun w' r => by
        obtain ⟨b', o', e', _, c1', c2'⟩ := two_at (Rd.own r) (show 0 < lw by omega) (show 1 < lw by omega) (y := s) (z := t) rfl rfl
        injection e' with e'
        injection e' with e1 e2
        subst e1 e2
        exact ⟨c1', c2'⟩
      have hlw0 : (0 : Int) < (lw : Int) := by omega
      have hlw0n : 0 < lw := by omega
      have hlw1n : 1 < lw := by omega
      have hlw1 : (1 : Int) < (lw : Int) := by omega
      have HOW := Lib.hid how
      have HO4 := Lib.hid ho4
      have HLAY4 := Lib.hid hlay4
      have hd4 : Ext w4 w4.drew := (Ext.refl w4).drew
      clear how ho4 hlay4 hBw k0 k1 ho hlay
      obtain ⟨k0, k1⟩ := HKW.out w4 HOW.out
      go_wp2
      first | go_region_held3 (fun w' => w'.cell? ⟨bw, ow, none⟩ = some (.int .i64 s) ∧ w'.cell? ⟨bw, ow + 1, none⟩ = some (.int .i64 t))
        (first | (refine HKW.out _ ?_; assumption) | exact HKW.out _ (own_ext HOW.out hd4) | go_keep | (refine HKW.out _ (own_ext HOW.out ?_); repeat (first | exact Ext.refl _ | assumption | refine Ext.alloc ?_ _ | refine Ext.drewN ?_ _ | refine Ext.drew ?_); done))
        (first | (refine stepG1 (B := Wb.heap.size) (by rfl) _ _ (by rfl) _ m out (by rfl) (own_ext HO4.out hd4) (Nat.le_trans hx4.size hd4.size) ⟨11, s, t, 0⟩ _ _ (by rfl) (by rfl) (by omega) ?_; intro A5 c5 w5 ho5 hg5 hb5; have hw5 := own_other (own_ext HOW.out hd4) (own_ext HO4.out hd4) intg_ne hg5)) | fail
      have hx5 : Ext Wb w5 := (hx4.trans hd4).grown hg5 (fun k hk => ((own_ext HO4.out hd4).lt k hk).1)
      have hl5 := own_other (own_ext HLAY4.out hd4) (own_ext HO4.out hd4) intg_ne hg5
      clear k0 k1
      obtain ⟨k0, k1⟩ := HKW.out w5 hw5
      have HO5 := Lib.hid ho5
      have HW5 := Lib.hid hw5
      have HL5 := Lib.hid hl5
      have hle5 := own_le hl5
      have hd5 : Ext w5 w5.drew := (Ext.refl w5).drew
      clear ho5 hw5 hl5 hg5 hb5
      go_wp2
      first | go_region_held3 (fun w' => w'.cell? ⟨bw, ow, none⟩ = some (.int .i64 s) ∧ w'.cell? ⟨bw, ow + 1, none⟩ = some (.int .i64 t))
        (first | (refine HKW.out _ (own_ext HW5.out ?_); assumption) | exact HKW.out _ (own_ext HW5.out hd5) | go_keep | (refine HKW.out _ (own_ext HW5.out ?_); repeat (first | exact Ext.refl _ | assumption | refine Ext.alloc ?_ _ | refine Ext.drewN ?_ _ | refine Ext.drew ?_); done))
        (first | (go_at_call 79; refine (impl_SwapLayout_any _ n cl now s t _ (Rd.own (own_ext HL5.out hd5)) (by omega)).mono ?_; rintro e w6 ⟨v6, rfl, ho6, hy6⟩; replace hy6 : Ext w5 w6 := Ext.trans hd5 hy6)) | fail
      rw [HL6.out] at ho6
      obtain ⟨A6, c6, rfl, _⟩ := own_slice ho6
      have hb6 : Wb.heap.size ≤ w5.drew.heap.size := Nat.le_trans hx5.size hd5.size
      have HO6 := Lib.hid (own_base ho6 hb6)
      clear ho6 k0 k1
      go_wp2
      go_roundw
      case rel => exact ⟨f, swapL now s t, out ++ [⟨11, s, t, 0⟩], A6, c6, A5, m + 1, c5, rfl, rfl, by omega, by unfold Hid; rw [List.length_append, HM.out]; rfl, HS2.out, by rw [HS3.out]; omega, by have h1 := HT.out; rw [HS6.out] at h1; unfold Hid; rw [List.append_assoc]; exact h1, own_ext HO5.out hy6, HO6.out, hx5.trans hy6⟩
      case measure => simp [slen]; omega
    · have HST := Lib.hid (rgL_stop (x := x) (a := ia) (b := ib) (now := now) f (by rw [HG'.out, ← HGD.out]; exact hg))
      go_wp2
      first | go_region_held3 (fun w' => w'.cell? ⟨w.heap.size, 1, none⟩ = some (.int .i64 (ia : Int)) ∧ w'.cell? ⟨w.heap.size, 2, none⟩ = some (.int .i64 (ib : Int)) ∧ w'.cell? ⟨w.heap.size + 1, 0, none⟩ = some (.int .i64 x.n) ∧ w'.cell? ⟨w.heap.size + 1, 1, none⟩ = some (.slice A1 x.es.length c1) ∧ w'.cell? ⟨bl, ol + ia, none⟩ = some (.int .i64 y) ∧ w'.cell? ⟨bl, ol + ib, none⟩ = some (.int .i64 z))
        (first | (refine HK.out _ ?_; assumption) | exact HK.out _ (Ext.refl wr).drew | go_keep)
        (first | (go_at_call 78; refine (impl_GraphDistance_any _ x y z _ (HG.out _ (hX0.trans hx.drew)) hl).mono ?_; rintro e w3 ⟨rfl, hy3⟩; replace hy3 : Ext wr w3 := Ext.trans (Ext.refl wr).drew hy3; rw [← HGD.out])) | fail
      clear b1 b2 d0 d1 cy cz
      obtain ⟨b1, b2, d0, d1, cy, cz⟩ := HK.out w3 hy3
      have ho3 := own_ext ho hy3
      have hlay3 := own_ext hlay hy3
      have hx3 := hx.trans hy3
      have HO3 := Lib.hid ho3
      have HLAY3 := Lib.hid hlay3
      clear ho3 hlay3 ho hlay
      go_wp2
      have hz0 := Ext.refl w3
      first | go_region_held3 (fun w' => w'.cell? ⟨w.heap.size, 1, none⟩ = some (.int .i64 (ia : Int)) ∧ w'.cell? ⟨w.heap.size, 2, none⟩ = some (.int .i64 (ib : Int)) ∧ w'.cell? ⟨w.heap.size + 1, 0, none⟩ = some (.int .i64 x.n) ∧ w'.cell? ⟨w.heap.size + 1, 1, none⟩ = some (.slice A1 x.es.length c1) ∧ w'.cell? ⟨bl, ol + ia, none⟩ = some (.int .i64 y) ∧ w'.cell? ⟨bl, ol + ib, none⟩ = some (.int .i64 z))
        (first | (refine HK.out _ (hy3.trans ?_); assumption) | exact HK.out _ hy3.drew | (refine HK4.out _ ?_ ?_ <;> assumption) | go_keep | (refine HK.out _ (hy3.trans ?_); repeat (first | exact Ext.refl _ | assumption | refine Ext.alloc ?_ _ | refine Ext.drewN ?_ _ | refine Ext.drew ?_); done))
        (first
          | (go_at_call 51; (with_reducible refine (impl_cx_any (w0 := w3) _ _ _ (by repeat (first | exact Ext.refl _ | assumption | refine Ext.alloc ?_ _ | refine Ext.drewN ?_ _ | refine Ext.drew ?_))).mono ?_); clear hz0; rintro e w' ⟨rfl, hz0⟩)
          | (refine stepG1 (B := Wb.heap.size) (by rfl) _ _ (by rfl) _ m out (by rfl) (own_ext HO3.out hz0) (Nat.le_trans hx3.size hz0.size) (gcx y z) _ _ (by rfl) (by rfl) (by omega) ?_; intro A4 c4 w4 ho4 hg4 hb4; have hx4 : Ext Wb w4 := (hx3.trans hz0).grown hg4 (fun k hk => ((own_ext HO3.out hz0).lt k hk).1); have hl4 := own_other (own_ext HLAY3.out hz0) (own_ext HO3.out hz0) intg_ne hg4)) | fail
      all_goals
        go_wp2
        go_ret2
        exact RoutE.mk (HR.out.trans (by have h1 := HT.out; rw [HST.out] at h1; rw [← h1.1, ← h1.2, HLY.out, HLZ.out, List.append_nil])) hX0 (gs := out ++ [gcx y z]) (by rw [List.length_append, HM.out]; exact ho4) hl4 hx4 HNL.out

set_option maxRecDepth 100000 in
set_option maxHeartbeats 16000000 in
theorem spec_RouteGate_any (g : Gt) (v : Value) (x : Gr) (A : Option Addr) (n c : Nat) (p : List Int) (w : World) (h : GrAt w w.heap.size v x) (hl : x.es.length ≤ 100000000) (hp : Rd w w.heap.size 1 A n (icells p)) (hn : n ≤ 100000000) (hc : n ≤ c) :
    Calls Try.prog 66 #[g.val, v, .slice A n c] w (RoutE w (routG x g p)) := by
  have hlen := Lib.hid (hp.len icell_len (by omega))
  obtain ⟨A1, c1, rfl, h1⟩ := h
  have HG : Hid (∀ w', Ext w w' → GrAt w' w'.heap.size (.agg #[.int .i64 x.n, .slice A1 x.es.length c1]) x) := fun w' hx => ⟨A1, c1, rfl, h1.ext hx⟩
  clear h1
  have hG0 : Blk ((w.alloc (.cells #[.int .i64 g.k, .int .i64 g.a, .int .i64 g.b, .int .i64 g.c] 43)).alloc (.cells #[.int .i64 x.n, .slice A1 x.es.length c1] 27)) w.heap.size 43 #[.int .i64 g.k, .int .i64 g.a, .int .i64 g.b, .int .i64 g.c] := (Blk.new _ _ _).alloc _
  have hB0 : Blk ((w.alloc (.cells #[.int .i64 g.k, .int .i64 g.a, .int .i64 g.b, .int .i64 g.c] 43)).alloc (.cells #[.int .i64 x.n, .slice A1 x.es.length c1] 27)) (w.heap.size + 1) 27 #[.int .i64 x.n, .slice A1 x.es.length c1] := Blk.newAt (by simp)
  have hX0 : Ext w ((w.alloc (.cells #[.int .i64 g.k, .int .i64 g.a, .int .i64 g.b, .int .i64 g.c] 43)).alloc (.cells #[.int .i64 x.n, .slice A1 x.es.length c1] 27)) := by repeat (first | exact Ext.refl _ | assumption | refine Ext.alloc ?_ _ | refine Ext.drewN ?_ _ | refine Ext.drew ?_)
  have HG0 := Lib.hid hG0
  have HB0 := Lib.hid hB0
  have HX0 := Lib.hid hX0
  clear hB0 hX0 hG0
  go_enter Try.func66, Try.ntmps66
  go_upto_region 1 with (fail)
  have hG0 := HG0.out
  have hB0 := HB0.out
  have hX0 := HX0.out
  clear HB0 HX0 HG0
  generalize ((w.alloc (.cells #[.int .i64 g.k, .int .i64 g.a, .int .i64 g.b, .int .i64 g.c] 43)).alloc (.cells #[.int .i64 x.n, .slice A1 x.es.length c1] 27)) = Wb at *
  have hE : Ext Wb Wb := Ext.refl _
  go_upto_region 2 with (fail)
  have hoG : (Wb.alloc (.cells #[] 43)).ownsRow Wb.heap.size 43 4 (.slice (some ⟨Wb.heap.size, 0, none⟩) 0 0) 0 (gcells []) := own_lit (Ext.refl _) _ _ 4 0 #[] _ rfl rfl rfl (by omega)
  have hxG : Ext Wb (Wb.alloc (.cells #[] 43)) := (Ext.refl _).alloc _
  generalize (Wb.alloc (.cells #[] 43)) = Wg at *
  go_upto_region 3 with (at_builtin; refine appIntS (w0 := Wg) rfl _ _ rfl _ 0 [] rfl (own_lit (by repeat (first | exact Ext.refl _ | assumption | refine Ext.alloc ?_ _ | refine Ext.drewN ?_ _ | refine Ext.drew ?_)) _ _ 1 0 #[] _ (by simp) rfl rfl (by omega)) (by repeat (first | exact Ext.refl _ | assumption | refine Ext.alloc ?_ _ | refine Ext.drewN ?_ _ | refine Ext.drew ?_)) A n c p rfl ((hp.ext (hX0.trans hxG)).ext (by repeat (first | exact Ext.refl _ | assumption | refine Ext.alloc ?_ _ | refine Ext.drewN ?_ _ | refine Ext.drew ?_))) (by omega) ?_; intro v1 w1 ho1 hx1 hg1 hb1)
  have hoG1 := own_ext hoG hx1
  replace ho1 := own_base ho1 hxG.size
  replace hx1 := hxG.trans hx1
  simp only [Nat.zero_add, List.nil_append] at ho1
  clear hg1 hb1 hE
  have hX1 := hX0.trans hx1
  have hG1 := hG0.ext hx1
  have hB1 := hB0.ext hx1
  have b0 : w1.cell? ⟨w.heap.size, 0, none⟩ = some (.int .i64 g.k) := hG1.cell 0
  have b1 : w1.cell? ⟨w.heap.size, 1, none⟩ = some (.int .i64 g.a) := hG1.cell 1
  have b2 : w1.cell? ⟨w.heap.size, 2, none⟩ = some (.int .i64 g.b) := hG1.cell 2
  have b3 : w1.cell? ⟨w.heap.size, 3, none⟩ = some (.int .i64 g.c) := hG1.cell 3
  have d0 : w1.cell? ⟨w.heap.size + 1, 0, none⟩ = some (.int .i64 x.n) := hB1.cell 0
  have d1 : w1.cell? ⟨w.heap.size + 1, 1, none⟩ = some (.slice A1 x.es.length c1) := hB1.cell 1
  obtain ⟨Al, cl, rfl, _⟩ := own_slice ho1
  go_wp2_with fail
  refine (spec_l38Right_any g _ x A n c p _ (HG.out _ hX1) hl (hp.ext hX1) hn hc).mono ?_
  rintro e w2 ⟨rfl, hx2⟩
  have ho2 := own_ext ho1 hx2
  have hoG2 := own_ext hoG1 hx2
  replace hx1 := hx1.trans hx2
  replace hG1 := hG1.ext hx2
  replace hB1 := hB1.ext hx2
  clear b0 b1 b2 b3 d0 d1 ho1 hX1 hx2 hoG hxG hoG1
  cases hm : may g x p
  · have HR := Lib.hid (routG_no hm)
    clear hm
    go_wp2
    go_ret2
    exact RoutE.mk HR.out hX0 hoG2 ho2 hx1 hlen.out
  have b0 : w2.cell? ⟨w.heap.size, 0, none⟩ = some (.int .i64 g.k) := hG1.cell 0
  have b1 : w2.cell? ⟨w.heap.size, 1, none⟩ = some (.int .i64 g.a) := hG1.cell 1
  have b2 : w2.cell? ⟨w.heap.size, 2, none⟩ = some (.int .i64 g.b) := hG1.cell 2
  have b3 : w2.cell? ⟨w.heap.size, 3, none⟩ = some (.int .i64 g.c) := hG1.cell 3
  have d0 : w2.cell? ⟨w.heap.size + 1, 0, none⟩ = some (.int .i64 x.n) := hB1.cell 0
  have d1 : w2.cell? ⟨w.heap.size + 1, 1, none⟩ = some (.slice A1 x.es.length c1) := hB1.cell 1
  cases h1 : (ar g.k == 1)
  case true =>
    have HR := Lib.hid (routG_1 hm h1)
    obtain ⟨ia, y, hga, hia, hy, hlo, hp4, _⟩ := loc_at hm
    have HLO := Lib.hid hlo
    have HY := Lib.hid hy
    have hpn := hlen.out
    have hian : ia < n := by omega
    have h9 : (g.k != 9) = true := by cases hq : (g.k == 9) with | false => simp [bne, hq] | true => (rw [beq_iff_eq] at hq; rw [hq] at h1; cases h1)
    obtain ⟨bl, ol, y', rfl, hbl, hy', q0⟩ := int_at hp hian
    have hyy : y' = y := by rw [HY.out] at hy'; injection hy' with hy'; exact hy'.symm
    subst hyy
    rw [hga] at b1
    have HQ : Hid (∀ w', Ext Wb w' → w'.cell? ⟨w.heap.size, 0, none⟩ = some (.int .i64 g.k) ∧ w'.cell? ⟨w.heap.size, 1, none⟩ = some (.int .i64 (ia : Int)) ∧ w'.cell? ⟨bl, ol + ia, none⟩ = some (.int .i64 y')) := fun w' z => ⟨(hG0.ext z).cell 0, by rw [← hga]; exact (hG0.ext z).cell 1, ((hX0.trans z).cell (p := ⟨bl, ol + ia, none⟩) hbl).trans q0⟩
    have q0' : w2.cell? ⟨bl, ol + ia, none⟩ = some (.int .i64 y') := (HQ.out _ hx1).2.2
    have hi0 : (0 : Int) ≤ (ia : Int) := by omega
    have hin : (ia : Int) < (n : Int) := by omega
    have HLOC : Hid (loc p g.a = y') := hlo
    clear hlo hy hy' hpn hga hm HY
    go_wp2
    have hz0 := Ext.refl w2
    first | go_region_held3 (fun w' => w'.cell? ⟨w.heap.size, 0, none⟩ = some (.int .i64 g.k) ∧ w'.cell? ⟨w.heap.size, 1, none⟩ = some (.int .i64 (ia : Int)) ∧ w'.cell? ⟨bl, ol + ia, none⟩ = some (.int .i64 y'))
      (first | go_keep | (refine HQ.out _ ?_; assumption) | (refine HQ.out _ (hx1.trans ?_); repeat (first | exact Ext.refl _ | assumption | refine Ext.alloc ?_ _ | refine Ext.drewN ?_ _ | refine Ext.drew ?_); done))
      (first
        | (go_at_call 72; (with_reducible refine (spec_one_any (w0 := w2) _ _ _ (by repeat (first | exact Ext.refl _ | assumption | refine Ext.alloc ?_ _ | refine Ext.drewN ?_ _ | refine Ext.drew ?_))).mono ?_); clear hz0; rintro e w' ⟨rfl, hz0⟩)
        | (refine stepG1 (B := Wb.heap.size) (by rfl) _ _ (by rfl) _ 0 [] (by rfl) (own_ext hoG2 hz0) (Nat.le_trans hx1.size hz0.size) (g1 g.k y') _ _ (by rfl) (by rfl) (by omega) ?_; intro A4 c4 w4 ho4 hg4 hb4; have hz4 : Ext Wb w4 := (hx1.trans hz0).grown hg4 (fun k hk => ((own_ext hoG2 hz0).lt k hk).1))) | fail
    all_goals
      go_wp2
      go_ret2
      exact RoutE.mk (HR.out.trans (by rw [HLOC.out])) hX0 (gs := [g1 g.k y']) ho4 (own_other (own_ext ho2 hz0) (own_ext hoG2 hz0) intg_ne hg4) hz4 hlen.out
  obtain ⟨ia, ib, hga, hgb, _, hW0⟩ := OnWay.of hm h1
  have HR := Lib.hid (routG_2 hm h1)
  have h9 : (g.k != 9) = false := by (have hb : bas g = true := by { unfold may at hm; simp only [Bool.and_eq_true] at hm; exact hm.1.2 }); unfold bas at hb; rw [h1, Bool.false_or] at hb; simp [bne, hb]
  rw [hga, hgb] at HR
  obtain ⟨T, hT⟩ : ∃ T, T = rgL x ia ib 4 p := ⟨_, rfl⟩
  rw [← hT] at HR
  have HT0 : Hid (([] : List Gt) ++ (rgL x ia ib 4 p).1 = T.1 ∧ (rgL x ia ib 4 p).2 = T.2) := by rw [hT]; exact ⟨rfl, rfl⟩
  have hpn := hlen.out
  have hxn : x.n = (n : Int) := by have := hW0.len; omega
  have hn4 : n ≤ 4 := by have := (perm_le hW0.perm).2; omega
  have hian : ia < n := by have := hW0.ha; omega
  have hibn : ib < n := by have := hW0.hb; omega
  have hg0 := gd_range x (loc p ia) (loc p ib)
  have HXN := Lib.hid hxn
  have HQ : Hid (∀ w', Ext Wb w' → w'.cell? ⟨w.heap.size, 1, none⟩ = some (.int .i64 (ia : Int)) ∧ w'.cell? ⟨w.heap.size, 2, none⟩ = some (.int .i64 (ib : Int)) ∧ w'.cell? ⟨w.heap.size + 1, 0, none⟩ = some (.int .i64 x.n) ∧ w'.cell? ⟨w.heap.size + 1, 1, none⟩ = some (.slice A1 x.es.length c1)) := fun w' z => ⟨by rw [← hga]; exact (hG0.ext z).cell 1, by rw [← hgb]; exact (hG0.ext z).cell 2, (hB0.ext z).cell 0, (hB0.ext z).cell 1⟩
  have hi0 : (0 : Int) ≤ (ia : Int) := by omega
  have hin : (ia : Int) < (n : Int) := by omega
  have hj0 : (0 : Int) ≤ (ib : Int) := by omega
  have hjn : (ib : Int) < (n : Int) := by omega
  have h2lt : (1 : Int) < 2 := by omega
  clear hT hpn hxn hm hga hgb hG1 hB1 h2lt
  have HO2 := Lib.hid ho2
  have HOG := Lib.hid hoG2
  have HX1 := Lib.hid hx1
  clear ho2 hoG2 hx1
  go_wp2
  clear b0 b1 b2 b3 d0 d1
  go_loopw [8, 9] (fun vo vl wr => ∃ (f : Nat) (now : List Int) (out : List Gt) (A : Option Addr) (c : Nat) (Ao : Option Addr) (m co : Nat), vl = .slice A n c ∧ vo = .slice Ao m co ∧ m + f = 4 ∧ Hid (out.length = m) ∧ OnWay x ia ib now ∧ gd x (loc now ia) (loc now ib) ≤ f ∧ Hid (out ++ (rgL x ia ib f now).1 = T.1 ∧ (rgL x ia ib f now).2 = T.2) ∧ wr.ownsRow Wb.heap.size 43 4 (.slice Ao m co) m (gcells out) ∧ wr.ownsRow Wb.heap.size 3 1 (.slice A n c) n (icells now) ∧ Ext Wb wr) (fun vo vl _ => 5 - slen vo)
  case atStart => exact ⟨4, p, [], Al, cl, _, 0, _, rfl, rfl, rfl, rfl, hW0, hg0.2, HT0, HOG.out, HO2.out, HX1.out⟩
  case round =>
    clear HO2 HOG HX1 HT0 hg0 hW0
    obtain ⟨f, now, out, Al, cl, Ao, m, co, rfl, rfl, hmf, HM, hW, hgf, HT, ho, hlay, hx⟩ := hrel
    obtain ⟨y, hy, ly, y0, y1⟩ := hW.at_ hW.ha
    obtain ⟨z, hz, lz, z0, z1⟩ := hW.at_ hW.hb
    have hnl : now.length = n := by have := hW.len; have := HXN.out; omega
    have HNL := Lib.hid hnl
    obtain ⟨bl, ol, rfl, hbl, cy, cz⟩ := two_at (Rd.own hlay) hian hibn hy hz
    have HK : Hid (∀ w', Ext wr w' → w'.cell? ⟨w.heap.size, 1, none⟩ = some (.int .i64 (ia : Int)) ∧ w'.cell? ⟨w.heap.size, 2, none⟩ = some (.int .i64 (ib : Int)) ∧ w'.cell? ⟨w.heap.size + 1, 0, none⟩ = some (.int .i64 x.n) ∧ w'.cell? ⟨w.heap.size + 1, 1, none⟩ = some (.slice A1 x.es.length c1) ∧ w'.cell? ⟨bl, ol + ia, none⟩ = some (.int .i64 y) ∧ w'.cell? ⟨bl, ol + ib, none⟩ = some (.int .i64 z)) := fun w' q => ⟨(HQ.out _ (hx.trans q)).1, (HQ.out _ (hx.trans q)).2.1, (HQ.out _ (hx.trans q)).2.2.1, (HQ.out _ (hx.trans q)).2.2.2, (q.cell (p := ⟨bl, ol + ia, none⟩) hbl).trans cy, (q.cell (p := ⟨bl, ol + ib, none⟩) hbl).trans cz⟩
    have HK4 : Hid (∀ w', Ext Wb w' → w'.ownsRow Wb.heap.size 3 1 (.slice (some ⟨bl, ol, none⟩) n cl) n (icells now) → w'.cell? ⟨w.heap.size, 1, none⟩ = some (.int .i64 (ia : Int)) ∧ w'.cell? ⟨w.heap.size, 2, none⟩ = some (.int .i64 (ib : Int)) ∧ w'.cell? ⟨w.heap.size + 1, 0, none⟩ = some (.int .i64 x.n) ∧ w'.cell? ⟨w.heap.size + 1, 1, none⟩ = some (.slice A1 x.es.length c1) ∧ w'.cell? ⟨bl, ol + ia, none⟩ = some (.int .i64 y) ∧ w'.cell? ⟨bl, ol + ib, none⟩ = some (.int .i64 z)) := fun w' q r => by
      obtain ⟨b', o', e', _, c1', c2'⟩ := two_at (Rd.own r) hian hibn hy hz
      injection e' with e'
      injection e' with e1 e2
      subst e1 e2
      exact ⟨(HQ.out _ q).1, (HQ.out _ q).2.1, (HQ.out _ q).2.2.1, (HQ.out _ q).2.2.2, c1', c2'⟩
    have hg' : gd x (loc now ia) (loc now ib) = gd x y z := by rw [ly, lz]
    rw [hg'] at hgf
    obtain ⟨G, hG⟩ : ∃ G, G = gd x y z := ⟨_, rfl⟩
    have HGD := Lib.hid hG
    rw [← hG] at hgf
    have HY := Lib.hid hy
    have HZ := Lib.hid hz
    have HLY := Lib.hid ly
    have HLZ := Lib.hid lz
    have HG' := Lib.hid hg'
    have HW := Lib.hid hW
    clear hG hy hz ly lz hg' hnl cy cz hW
    obtain ⟨b1, b2, d0, d1, cy, cz⟩ := HK.out wr (Ext.refl wr)
    by_cases hg : 1 < G
    · obtain ⟨f, rfl⟩ : ∃ f', f = f' + 1 := ⟨f - 1, by omega⟩
      obtain ⟨s, t, rest, hs1, hs2, hs3, _, _, hs6⟩ := HW.out.step (by rw [HG'.out, ← HGD.out]; exact hg)
      rw [HLY.out, HLZ.out] at hs1
      rw [HG'.out, ← HGD.out] at hs3
      have hl6 : (swapL now s t).length = n := by have := hs2.len; have := HXN.out; omega
      have HS1 := Lib.hid hs1
      have HS2 := Lib.hid hs2
      have HS3 := Lib.hid hs3
      have HS6 := Lib.hid hs6
      have HL6 := Lib.hid hl6
      clear hs1 hs2 hs3 hs6 hl6
      go_wp2
      first | go_region_held3 (fun w' => w'.cell? ⟨w.heap.size, 1, none⟩ = some (.int .i64 (ia : Int)) ∧ w'.cell? ⟨w.heap.size, 2, none⟩ = some (.int .i64 (ib : Int)) ∧ w'.cell? ⟨w.heap.size + 1, 0, none⟩ = some (.int .i64 x.n) ∧ w'.cell? ⟨w.heap.size + 1, 1, none⟩ = some (.slice A1 x.es.length c1) ∧ w'.cell? ⟨bl, ol + ia, none⟩ = some (.int .i64 y) ∧ w'.cell? ⟨bl, ol + ib, none⟩ = some (.int .i64 z))
        (first | (refine HK.out _ ?_; assumption) | exact HK.out _ (Ext.refl wr).drew | go_keep)
        (first | (go_at_call 80; refine (spec_GraphDistance_any _ x y z _ (HG.out _ (hX0.trans hx.drew)) hl).mono ?_; rintro e w3 ⟨rfl, hy3⟩; replace hy3 : Ext wr w3 := Ext.trans (Ext.refl wr).drew hy3; rw [← HGD.out])) | fail
      clear b1 b2 d0 d1 cy cz
      obtain ⟨b1, b2, d0, d1, cy, cz⟩ := HK.out w3 hy3
      have hx3 := hx.trans hy3
      go_wp2
      first | go_region_held3 (fun w' => w'.cell? ⟨w.heap.size, 1, none⟩ = some (.int .i64 (ia : Int)) ∧ w'.cell? ⟨w.heap.size, 2, none⟩ = some (.int .i64 (ib : Int)) ∧ w'.cell? ⟨w.heap.size + 1, 0, none⟩ = some (.int .i64 x.n) ∧ w'.cell? ⟨w.heap.size + 1, 1, none⟩ = some (.slice A1 x.es.length c1) ∧ w'.cell? ⟨bl, ol + ia, none⟩ = some (.int .i64 y) ∧ w'.cell? ⟨bl, ol + ib, none⟩ = some (.int .i64 z))
        (first | (refine HK.out _ (hy3.trans ?_); assumption) | exact HK.out _ hy3.drew | go_keep)
        (first | (go_at_call 83; refine (spec_ShortestPath_any _ x y z _ (HG.out _ (hX0.trans hx3.drew)) hl).mono ?_; rintro e w4 ⟨Aw, lw, cw, rfl, hlw', how', hy4⟩; have HLW := Lib.hid hlw'; have how := Lib.hid how'; clear hlw' how'; replace hy4 : Ext w3 w4 := Ext.trans (Ext.refl w3).drew hy4)) | fail
      clear b1 b2 d0 d1 cy cz
      have hlw := HLW.out
      replace how := how.out
      rw [HS1.out] at hlw how
      have hlw2 : 2 ≤ lw := by rw [hlw]; simp
      clear hlw HLW
      have hx4 := hx3.trans hy4
      have hlay4 := own_ext hlay (hy3.trans hy4)
      have ho4 := own_ext ho (hy3.trans hy4)
      obtain ⟨bw, ow, rfl, _, k0, k1⟩ := two_at (Rd.own how) (show 0 < lw by omega) (show 1 < lw by omega) (y := s) (z := t) rfl rfl
      obtain ⟨Bw, hBw⟩ : ∃ B, B = w3.drew.heap.size := ⟨_, rfl⟩
      rw [← hBw] at how
      have HKW : Hid (∀ w' : World, w'.ownsRow Bw 3 1 (.slice (some ⟨bw, ow, none⟩) lw cw) lw (icells (s :: t :: rest)) → w'.cell? ⟨bw, ow, none⟩ = some (.int .i64 s) ∧ w'.cell? ⟨bw, ow + 1, none⟩ = some (.int .i64 t)) := fun w' r => by
        obtain ⟨b', o', e', _, c1', c2'⟩ := two_at (Rd.own r) (show 0 < lw by omega) (show 1 < lw by omega) (y := s) (z := t) rfl rfl
        injection e' with e'
        injection e' with e1 e2
        subst e1 e2
        exact ⟨c1', c2'⟩
      have hlw0 : (0 : Int) < (lw : Int) := by omega
      have hlw0n : 0 < lw := by omega
      have hlw1n : 1 < lw := by omega
      have hlw1 : (1 : Int) < (lw : Int) := by omega
      have HOW := Lib.hid how
      have HO4 := Lib.hid ho4
      have HLAY4 := Lib.hid hlay4
      have hd4 : Ext w4 w4.drew := (Ext.refl w4).drew
      clear how ho4 hlay4 hBw k0 k1 ho hlay
      obtain ⟨k0, k1⟩ := HKW.out w4 HOW.out
      go_wp2
      first | go_region_held3 (fun w' => w'.cell? ⟨bw, ow, none⟩ = some (.int .i64 s) ∧ w'.cell? ⟨bw, ow + 1, none⟩ = some (.int .i64 t))
        (first | (refine HKW.out _ ?_; assumption) | exact HKW.out _ (own_ext HOW.out hd4) | go_keep | (refine HKW.out _ (own_ext HOW.out ?_); repeat (first | exact Ext.refl _ | assumption | refine Ext.alloc ?_ _ | refine Ext.drewN ?_ _ | refine Ext.drew ?_); done))
        (first | (refine stepG1 (B := Wb.heap.size) (by rfl) _ _ (by rfl) _ m out (by rfl) (own_ext HO4.out hd4) (Nat.le_trans hx4.size hd4.size) ⟨11, s, t, 0⟩ _ _ (by rfl) (by rfl) (by omega) ?_; intro A5 c5 w5 ho5 hg5 hb5; have hw5 := own_other (own_ext HOW.out hd4) (own_ext HO4.out hd4) intg_ne hg5)) | fail
      have hx5 : Ext Wb w5 := (hx4.trans hd4).grown hg5 (fun k hk => ((own_ext HO4.out hd4).lt k hk).1)
      have hl5 := own_other (own_ext HLAY4.out hd4) (own_ext HO4.out hd4) intg_ne hg5
      clear k0 k1
      obtain ⟨k0, k1⟩ := HKW.out w5 hw5
      have HO5 := Lib.hid ho5
      have HW5 := Lib.hid hw5
      have HL5 := Lib.hid hl5
      have hle5 := own_le hl5
      have hd5 : Ext w5 w5.drew := (Ext.refl w5).drew
      clear ho5 hw5 hl5 hg5 hb5
      go_wp2
      first | go_region_held3 (fun w' => w'.cell? ⟨bw, ow, none⟩ = some (.int .i64 s) ∧ w'.cell? ⟨bw, ow + 1, none⟩ = some (.int .i64 t))
        (first | (refine HKW.out _ (own_ext HW5.out ?_); assumption) | exact HKW.out _ (own_ext HW5.out hd5) | go_keep | (refine HKW.out _ (own_ext HW5.out ?_); repeat (first | exact Ext.refl _ | assumption | refine Ext.alloc ?_ _ | refine Ext.drewN ?_ _ | refine Ext.drew ?_); done))
        (first | (go_at_call 84; refine (spec_SwapLayout_any _ n cl now s t _ (Rd.own (own_ext HL5.out hd5)) (by omega) hle5).mono ?_; rintro e w6 ⟨v6, rfl, ho6, hy6⟩; replace hy6 : Ext w5 w6 := Ext.trans hd5 hy6)) | fail
      rw [HL6.out] at ho6
      obtain ⟨A6, c6, rfl, _⟩ := own_slice ho6
      have hb6 : Wb.heap.size ≤ w5.drew.heap.size := Nat.le_trans hx5.size hd5.size
      have HO6 := Lib.hid (own_base ho6 hb6)
      clear ho6 k0 k1
      go_wp2
      go_roundw
      case rel => exact ⟨f, swapL now s t, out ++ [⟨11, s, t, 0⟩], A6, c6, A5, m + 1, c5, rfl, rfl, by omega, by unfold Hid; rw [List.length_append, HM.out]; rfl, HS2.out, by rw [HS3.out]; omega, by have h1 := HT.out; rw [HS6.out] at h1; unfold Hid; rw [List.append_assoc]; exact h1, own_ext HO5.out hy6, HO6.out, hx5.trans hy6⟩
      case measure => simp [slen]; omega
    · have HST := Lib.hid (rgL_stop (x := x) (a := ia) (b := ib) (now := now) f (by rw [HG'.out, ← HGD.out]; exact hg))
      go_wp2
      first | go_region_held3 (fun w' => w'.cell? ⟨w.heap.size, 1, none⟩ = some (.int .i64 (ia : Int)) ∧ w'.cell? ⟨w.heap.size, 2, none⟩ = some (.int .i64 (ib : Int)) ∧ w'.cell? ⟨w.heap.size + 1, 0, none⟩ = some (.int .i64 x.n) ∧ w'.cell? ⟨w.heap.size + 1, 1, none⟩ = some (.slice A1 x.es.length c1) ∧ w'.cell? ⟨bl, ol + ia, none⟩ = some (.int .i64 y) ∧ w'.cell? ⟨bl, ol + ib, none⟩ = some (.int .i64 z))
        (first | (refine HK.out _ ?_; assumption) | exact HK.out _ (Ext.refl wr).drew | go_keep)
        (first | (go_at_call 80; refine (spec_GraphDistance_any _ x y z _ (HG.out _ (hX0.trans hx.drew)) hl).mono ?_; rintro e w3 ⟨rfl, hy3⟩; replace hy3 : Ext wr w3 := Ext.trans (Ext.refl wr).drew hy3; rw [← HGD.out])) | fail
      clear b1 b2 d0 d1 cy cz
      obtain ⟨b1, b2, d0, d1, cy, cz⟩ := HK.out w3 hy3
      have ho3 := own_ext ho hy3
      have hlay3 := own_ext hlay hy3
      have hx3 := hx.trans hy3
      have HO3 := Lib.hid ho3
      have HLAY3 := Lib.hid hlay3
      clear ho3 hlay3 ho hlay
      go_wp2
      have hz0 := Ext.refl w3
      first | go_region_held3 (fun w' => w'.cell? ⟨w.heap.size, 1, none⟩ = some (.int .i64 (ia : Int)) ∧ w'.cell? ⟨w.heap.size, 2, none⟩ = some (.int .i64 (ib : Int)) ∧ w'.cell? ⟨w.heap.size + 1, 0, none⟩ = some (.int .i64 x.n) ∧ w'.cell? ⟨w.heap.size + 1, 1, none⟩ = some (.slice A1 x.es.length c1) ∧ w'.cell? ⟨bl, ol + ia, none⟩ = some (.int .i64 y) ∧ w'.cell? ⟨bl, ol + ib, none⟩ = some (.int .i64 z))
        (first | (refine HK.out _ (hy3.trans ?_); assumption) | exact HK.out _ hy3.drew | (refine HK4.out _ ?_ ?_ <;> assumption) | go_keep | (refine HK.out _ (hy3.trans ?_); repeat (first | exact Ext.refl _ | assumption | refine Ext.alloc ?_ _ | refine Ext.drewN ?_ _ | refine Ext.drew ?_); done))
        (first
          | (go_at_call 73; (with_reducible refine (spec_cx_any (w0 := w3) _ _ _ (by repeat (first | exact Ext.refl _ | assumption | refine Ext.alloc ?_ _ | refine Ext.drewN ?_ _ | refine Ext.drew ?_))).mono ?_); clear hz0; rintro e w' ⟨rfl, hz0⟩)
          | (refine stepG1 (B := Wb.heap.size) (by rfl) _ _ (by rfl) _ m out (by rfl) (own_ext HO3.out hz0) (Nat.le_trans hx3.size hz0.size) (gcx y z) _ _ (by rfl) (by rfl) (by omega) ?_; intro A4 c4 w4 ho4 hg4 hb4; have hx4 : Ext Wb w4 := (hx3.trans hz0).grown hg4 (fun k hk => ((own_ext HO3.out hz0).lt k hk).1); have hl4 := own_other (own_ext HLAY3.out hz0) (own_ext HO3.out hz0) intg_ne hg4)) | fail
      all_goals
        go_wp2
        go_ret2
        exact RoutE.mk (HR.out.trans (by have h1 := HT.out; rw [HST.out] at h1; rw [← h1.1, ← h1.2, HLY.out, HLZ.out, List.append_nil])) hX0 (gs := out ++ [gcx y z]) (by rw [List.length_append, HM.out]; exact ho4) hl4 hx4 HNL.out
end Go.Proofs.Ytfbalkbcglejjaa
