/-
  Helper text (no claim of its own): the decomposition of lists of gates, and the routing of lists of gates, by the reference.
-/
import Derived.Test.YtfbalkbcglejjaaDec
import Derived.Test.YtfbalkbcglejjaaRtg
namespace Go.Proofs.Ytfbalkbcglejjaa
open Go.ChangeShapes Go.WideShapes Go.ChangeAt Go.RowKit Go.Deep
set_option linter.unusedVariables false
def decG (gs : List Gt) : List Gt := gs.flatMap dec
theorem decG_snoc {gs : List Gt} {k : Nat} {g : Gt} (h : gs[k]? = some g) : decG (gs.take (k + 1)) = decG (gs.take k) ++ dec g := by
  unfold decG; rw [take_snoc h, List.flatMap_append]; simp
theorem decG_len (gs : List Gt) : (decG gs).length ≤ 15 * gs.length := by
  unfold decG
  induction gs with
  | nil => simp
  | cons o xs ih => have := dec_len o; rw [List.flatMap_cons, List.length_append, List.length_cons]; omega
theorem decG_take (gs : List Gt) (k : Nat) : (decG (gs.take k)).length ≤ 15 * k := by
  have h1 := decG_len (gs.take k)
  have h2 : (gs.take k).length ≤ k := List.length_take_le _ _
  omega
set_option maxRecDepth 100000 in
set_option maxHeartbeats 4000000 in
theorem spec_DecomposeGates_any (A : Option Addr) (n c : Nat) (gs : List Gt) (w : World) (h : Rd w w.heap.size 4 A n (gcells gs)) (hn : n ≤ 1048576) :
    Calls Try.prog 85 #[.slice A n c] w fun e w' => ∃ v, e = .returned v ∧ w'.ownsRow w.heap.size 43 4 v (decG gs).length (gcells (decG gs)) ∧ Ext w w' := by
  have hlen := Lib.hid (h.len Gt.cells_len (by omega))
  go_enter Try.func85, Try.ntmps85
  go_wp2
  go_loopw [3, 4] (fun v i wr => ∃ k : Nat, k ≤ n ∧ i = .int .i64 k ∧ wr.ownsRow w.heap.size 43 4 v (decG (gs.take k)).length (gcells (decG (gs.take k))) ∧ Ext w wr) (fun _ i _ => n - (intOf i).toNat)
  case atStart => exact ⟨0, Nat.zero_le _, rfl, own_empty w w _ _ (Ext.refl _), (by repeat (first | exact Ext.refl _ | assumption | refine Ext.alloc ?_ _ | refine Ext.drewN ?_ _ | refine Ext.drew ?_))⟩
  case round =>
    obtain ⟨k, hk, rfl, hown, hx⟩ := hrel
    by_cases hlt : k < n
    · obtain ⟨b, o, g, rfl, hb, hg, r0, r1, r2, r3⟩ := gate_at (h.ext hx) hlt
      have HS := Lib.hid (decG_snoc hg)
      clear hg
      have hle := decG_take gs k
      have hdl := dec_len g
      go_wp2_with fail
      refine (spec_DecomposeGate_any g _).mono ?_
      rintro e w1 ⟨v1, rfl, ho1, hx1⟩
      obtain ⟨A1, c1, rfl, hr1⟩ := own_slice ho1
      clear r0 r1 r2 r3
      go_wp2_with (at_builtin; refine appGateS (w0 := w) rfl _ _ rfl _ _ (decG (gs.take k)) rfl (own_ext hown hx1) (hx.trans hx1) A1 _ c1 (dec g) rfl hr1 (by omega) ?_; intro v2 w2 ho2 hX2 hg2 hl2)
      go_roundw
      case rel => exact ⟨k + 1, by omega, by go_num, by rw [HS.out, List.length_append]; exact ho2, hX2⟩
      case measure => simp [intOf]; omega
    · rw [List.take_of_length_le (by rw [hlen.out]; omega)] at hown
      go_wp2
      go_ret
      exact ⟨_, rfl, hown, hx⟩
/-- What the routing of lists of gates hands back (only its form). -/
def RgsE (w : World) (m : Nat) (e : Ending) (w' : World) : Prop :=
  ∃ (v1 v2 : Value) (b : Bool) (out : List Gt), e = .returned (.tuple #[v1, v2, .bool b]) ∧ out.length ≤ 5 * m ∧ w'.ownsRow w.heap.size 43 4 v1 out.length (gcells out) ∧ Ext w w'
set_option maxRecDepth 100000 in
set_option maxHeartbeats 16000000 in
theorem spec_RouteGates_any (A : Option Addr) (n c : Nat) (gs : List Gt) (v : Value) (x : Gr) (Ap : Option Addr) (np cp : Nat) (p : List Int) (w : World) (h : Rd w w.heap.size 4 A n (gcells gs)) (hn : n ≤ 1048576) (hv : GrAt w w.heap.size v x) (hl : x.es.length ≤ 100000000) (hp : Rd w w.heap.size 1 Ap np (icells p)) (hnp : np ≤ 100000000) (hcp : np ≤ cp) :
    Calls Try.prog 45 #[.slice A n c, v, .slice Ap np cp] w (RgsE w n) := by
  have hlen := Lib.hid (h.len Gt.cells_len (by omega))
  have hlp := Lib.hid (hp.len icell_len (by omega))
  obtain ⟨A1, c1, rfl, h1⟩ := hv
  have HG : Hid (∀ w', Ext w w' → GrAt w' w'.heap.size (.agg #[.int .i64 x.n, .slice A1 x.es.length c1]) x) := fun w' hx => ⟨A1, c1, rfl, h1.ext hx⟩
  clear h1
  have hB0 : Blk (w.alloc (.cells #[.int .i64 x.n, .slice A1 x.es.length c1] 27)) w.heap.size 27 #[.int .i64 x.n, .slice A1 x.es.length c1] := Blk.new _ _ _
  have hX0 : Ext w (w.alloc (.cells #[.int .i64 x.n, .slice A1 x.es.length c1] 27)) := by repeat (first | exact Ext.refl _ | assumption | refine Ext.alloc ?_ _ | refine Ext.drewN ?_ _ | refine Ext.drew ?_)
  have HB0 := Lib.hid hB0
  have HX0 := Lib.hid hX0
  clear hB0 hX0
  go_enter Try.func45, Try.ntmps45
  go_upto_region 1 with (fail)
  have hB0 := HB0.out
  have hX0 := HX0.out
  clear HB0 HX0
  generalize (w.alloc (.cells #[.int .i64 x.n, .slice A1 x.es.length c1] 27)) = Wb at *
  have hE : Ext Wb Wb := Ext.refl _
  go_upto_region 2 with (fail)
  have hoo : (Wb.alloc (.cells #[] 43)).ownsRow Wb.heap.size 43 4 (.slice (some ⟨Wb.heap.size, 0, none⟩) 0 0) 0 (gcells []) := own_lit (Ext.refl _) _ _ 4 0 #[] _ rfl rfl rfl (by omega)
  have hxo : Ext Wb (Wb.alloc (.cells #[] 43)) := (Ext.refl _).alloc _
  generalize (Wb.alloc (.cells #[] 43)) = Wo at *
  go_upto_region 3 with (at_builtin; refine appIntS (w0 := Wo) rfl _ _ rfl (.slice (some ⟨Wo.heap.size, 0, none⟩) 0 0) 0 [] rfl (own_lit (Ext.refl _) _ _ 1 0 #[] _ (by simp) rfl rfl (by omega)) ((Ext.refl _).alloc _) Ap np cp p rfl ((hp.ext (hX0.trans hxo)).ext ((Ext.refl _).alloc _)) (by omega) ?_; intro v2 w2 ho2 hx2 hg2 hb2)
  simp only [Nat.zero_add, List.nil_append] at ho2
  clear hg2 hb2 hE
  obtain ⟨A2, c2, rfl, _⟩ := own_slice ho2
  replace hoo := own_ext hoo hx2
  replace ho2 := own_base ho2 hxo.size
  have hxx : Ext Wb w2 := hxo.trans hx2
  clear hxo hx2
  have d0 : w2.cell? ⟨w.heap.size, 0, none⟩ = some (.int .i64 x.n) := (hB0.ext hxx).cell 0
  have d1 : w2.cell? ⟨w.heap.size, 1, none⟩ = some (.slice A1 x.es.length c1) := (hB0.ext hxx).cell 1
  go_wp2_with fail
  refine (spec_IsValidGraph_any _ x _ (HG.out _ (hX0.trans hxx)) hl).mono ?_
  rintro e w3 ⟨rfl, hx3⟩
  clear d0 d1
  cases hvg : vgraph x
  · clear hvg
    go_wp2
    go_ret3
    exact ⟨_, _, _, [], rfl, by simp, own_base (own_ext hoo (hx3.alloc _)) hX0.size, hX0.trans (hxx.trans (hx3.alloc _))⟩
  go_wp2_with fail
  refine (spec_IsPermutation_any Ap np cp p _ (hp.ext ((hX0.trans hxx).trans hx3)) hnp hcp).mono ?_
  rintro e w4 ⟨rfl, hx4⟩
  replace hx4 := hx3.trans hx4
  clear hx3
  cases hpp : perm p
  · clear hpp
    go_wp2
    go_ret3
    exact ⟨_, _, _, [], rfl, by simp, own_base (own_ext hoo (hx4.alloc _)) hX0.size, hX0.trans (hxx.trans (hx4.alloc _))⟩
  have HPP := Lib.hid hpp
  clear hvg hpp
  have d0 : w4.cell? ⟨w.heap.size, 0, none⟩ = some (.int .i64 x.n) := (hB0.ext (hxx.trans hx4)).cell 0
  cases hne : ((np : Int) == x.n)
  · have hne' : ((np : Int) != x.n) = true := by simp [bne, hne]
    go_wp2
    go_ret3
    exact ⟨_, _, _, [], rfl, by simp, own_base (own_ext hoo (hx4.alloc _)) hX0.size, hX0.trans (hxx.trans (hx4.alloc _))⟩
  have hne' : ((np : Int) != x.n) = false := by simp [bne, hne]
  have HO2 := Lib.hid (own_ext ho2 hx4)
  have HX2 := Lib.hid (hxx.trans hx4)
  have HOO := Lib.hid (own_ext hoo hx4)
  clear ho2 hoo hxx hx4
  go_wp2
  clear d0 hne hne'
  go_loopw [9, 10, 11] (fun vo vl i wr => ∃ (k : Nat) (now : List Int) (out : List Gt) (Al : Option Addr) (cl : Nat) (Ao : Option Addr) (m co : Nat), k ≤ n ∧ i = .int .i64 k ∧ vl = .slice Al np cl ∧ vo = .slice Ao m co ∧ Hid (out.length = m) ∧ m ≤ 5 * k ∧ Hid (perm now = true ∧ now.length = np) ∧ wr.ownsRow Wb.heap.size 43 4 (.slice Ao m co) m (gcells out) ∧ wr.ownsRow Wb.heap.size 3 1 (.slice Al np cl) np (icells now) ∧ Ext Wb wr) (fun vo vl i _ => n - (intOf i).toNat)
  case atStart => exact ⟨0, p, [], _, _, _, 0, _, Nat.zero_le _, rfl, rfl, rfl, rfl, Nat.zero_le _, ⟨HPP.out, hlp.out⟩, HOO.out, HO2.out, HX2.out⟩
  case round =>
    clear HOO HO2 HX2
    obtain ⟨k, now, out, Al, cl, Ao, m, co, hk, rfl, rfl, rfl, HM, hmk, HP, ho, hlay, hx⟩ := hrel
    have hxr := hX0.trans hx
    by_cases hlt : k < n
    · obtain ⟨b, o, g, rfl, hb, hg, r0, r1, r2, r3⟩ := gate_at (h.ext hxr) hlt
      clear hg
      have hB := hB0.ext hx
      have hlb := hB.lt
      have d0 : wr.cell? ⟨w.heap.size, 0, none⟩ = some (.int .i64 x.n) := hB.cell 0
      have d1 : wr.cell? ⟨w.heap.size, 1, none⟩ = some (.slice A1 x.es.length c1) := hB.cell 1
      have hk0 : (0 : Int) ≤ (k : Int) := by omega
      have hkn : (k : Int) < (n : Int) := by omega
      have HK : Hid (∀ w', Ext wr w' → w'.cell? ⟨b, o + k * 4, none⟩ = some (.int .i64 g.k) ∧ w'.cell? ⟨b, o + k * 4 + 1, none⟩ = some (.int .i64 g.a) ∧ w'.cell? ⟨b, o + k * 4 + 2, none⟩ = some (.int .i64 g.b) ∧ w'.cell? ⟨b, o + k * 4 + 3, none⟩ = some (.int .i64 g.c) ∧ w'.cell? ⟨w.heap.size, 0, none⟩ = some (.int .i64 x.n) ∧ w'.cell? ⟨w.heap.size, 1, none⟩ = some (.slice A1 x.es.length c1)) := fun w' q => ⟨(q.cell (p := ⟨b, o + k * 4, none⟩) hb).trans r0, (q.cell (p := ⟨b, o + k * 4 + 1, none⟩) hb).trans r1, (q.cell (p := ⟨b, o + k * 4 + 2, none⟩) hb).trans r2, (q.cell (p := ⟨b, o + k * 4 + 3, none⟩) hb).trans r3, (hB.ext q).cell 0, (hB.ext q).cell 1⟩
      go_wp2
      go_region_held3 (fun w' => w'.cell? ⟨b, o + k * 4, none⟩ = some (.int .i64 g.k) ∧ w'.cell? ⟨b, o + k * 4 + 1, none⟩ = some (.int .i64 g.a) ∧ w'.cell? ⟨b, o + k * 4 + 2, none⟩ = some (.int .i64 g.b) ∧ w'.cell? ⟨b, o + k * 4 + 3, none⟩ = some (.int .i64 g.c) ∧ w'.cell? ⟨w.heap.size, 0, none⟩ = some (.int .i64 x.n) ∧ w'.cell? ⟨w.heap.size, 1, none⟩ = some (.slice A1 x.es.length c1))
        (first | go_keep | exact HK.out _ (by assumption))
        (first
          | (go_at_call 64; refine (spec_l38Right_any g _ x Al np cl now _ (HG.out _ (hxr.drew)) hl ((Rd.own hlay).ext (Ext.refl wr).drew) (by omega) (own_le hlay)).mono ?_; rintro e w1 ⟨rfl, hy1⟩; replace hy1 : Ext wr w1 := Ext.trans (Ext.refl wr).drew hy1))
      have hX1 := hx.trans hy1
      have ho1 := own_ext ho hy1
      have hlay1 := own_ext hlay hy1
      obtain ⟨r0, r1, r2, r3, d0, d1⟩ := HK.out w1 hy1
      cases hm : may g x now
      · go_wp2
        go_ret3
        exact ⟨_, _, _, [], rfl, by simp, own_base (own_ext (own_lit hX1 _ _ 4 0 #[] _ rfl rfl rfl (by omega)) ((Ext.refl _).alloc _)) hX0.size, hX0.trans ((hX1.alloc _).alloc _)⟩
      · have hxr1 := hX0.trans hX1
        have HK1 : Hid (∀ w', Ext w1 w' → w'.cell? ⟨b, o + k * 4, none⟩ = some (.int .i64 g.k) ∧ w'.cell? ⟨b, o + k * 4 + 1, none⟩ = some (.int .i64 g.a) ∧ w'.cell? ⟨b, o + k * 4 + 2, none⟩ = some (.int .i64 g.b) ∧ w'.cell? ⟨b, o + k * 4 + 3, none⟩ = some (.int .i64 g.c) ∧ w'.cell? ⟨w.heap.size, 0, none⟩ = some (.int .i64 x.n) ∧ w'.cell? ⟨w.heap.size, 1, none⟩ = some (.slice A1 x.es.length c1)) := fun w' q => HK.out w' (hy1.trans q)
        have HW := Lib.hid (routG_way (x := x) (g := g) HP.out.1)
        have hrl := routG_len x g now
        clear HK hm
        go_wp2
        go_region_held3 (fun w' => w'.cell? ⟨b, o + k * 4, none⟩ = some (.int .i64 g.k) ∧ w'.cell? ⟨b, o + k * 4 + 1, none⟩ = some (.int .i64 g.a) ∧ w'.cell? ⟨b, o + k * 4 + 2, none⟩ = some (.int .i64 g.b) ∧ w'.cell? ⟨b, o + k * 4 + 3, none⟩ = some (.int .i64 g.c) ∧ w'.cell? ⟨w.heap.size, 0, none⟩ = some (.int .i64 x.n) ∧ w'.cell? ⟨w.heap.size, 1, none⟩ = some (.slice A1 x.es.length c1))
          (first | go_keep | exact HK1.out _ (by assumption))
          (first
            | (go_at_call 66; refine (spec_RouteGate_any g _ x Al np cl now _ (HG.out _ (hxr1.drew)) hl ((Rd.own hlay1).ext (Ext.refl w1).drew) (by omega) (own_le hlay1)).mono ?_; rintro e w3 ⟨v3, A3, l3, c3, rfl, hl3, hc3, hg3, hp3, hy3⟩; replace hy3 : Ext w1 w3 := Ext.trans (Ext.refl w1).drew hy3; have HL3 := Lib.hid hl3; clear hl3))
        obtain ⟨A4, c4, rfl, hr4⟩ := own_slice hg3
        have HL : Hid (l3 = np) := by unfold Hid; rw [HL3.out, HW.out.2, HP.out.2]
        clear HL3
        obtain rfl := HL.out
        clear HL r0 r1 r2 r3 d0 d1 HK1
        obtain ⟨q2, hq2⟩ : ∃ q2, q2 = (routG x g now).2 := ⟨_, rfl⟩
        rw [← hq2] at hp3
        have HQ2 : Hid (perm q2 = true ∧ q2.length = l3) := by unfold Hid; rw [hq2, ← HP.out.2]; exact HW.out
        clear hq2 HW
        have hX3 := hX1.trans hy3
        have hp3' := own_base hp3 (show Wb.heap.size ≤ w1.drew.heap.size from hX1.size)
        go_wp2_with (at_builtin; refine appGateS (w0 := Wb) rfl _ _ rfl _ m out rfl (own_ext ho1 hy3) hX3 A4 _ c4 (routG x g now).1 rfl hr4 (by omega) ?_; intro v5 w5 ho5 hX5 hg5 hl5)
        obtain ⟨A5, c5, rfl, _⟩ := own_slice ho5
        have hp5 := own_other hp3' (own_ext ho1 hy3) intg_ne hg5
        go_roundw
        case rel => exact ⟨k + 1, q2, out ++ (routG x g now).1, _, _, _, m + (routG x g now).1.length, _, by omega, by go_num, rfl, rfl, by unfold Hid; rw [List.length_append, HM.out], by omega, HQ2, ho5, hp5, hX5⟩
        case measure => simp [intOf]; omega
    · go_wp2
      go_ret3
      exact ⟨_, _, _, out, rfl, by rw [HM.out]; omega, by rw [HM.out]; exact own_base ho hX0.size, hxr⟩
end Go.Proofs.Ytfbalkbcglejjaa
