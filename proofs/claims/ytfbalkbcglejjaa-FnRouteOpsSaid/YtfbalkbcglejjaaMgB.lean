/-
  Helper text (no claim of its own): drawn ops, graph, layout and mode of the law on the routing of ops. Printed by gen_drawr.py.
-/
import Derived.Test.YtfbalkbcglejjaaDec
import Derived.Test.YtfbalkbcglejjaaRtg
import Derived.Test.YtfbalkbcglejjaaDrawT
import Derived.Test.YtfbalkbcglejjaaOrt
import Derived.Test.YtfbalkbcglejjaaMgA
/-
  Helper text (no claim of its own): the decomposition of lists of gates, and the routing of lists of gates, by the reference.
-/
namespace Go.Proofs.Ytfbalkbcglejjaa
open Go.ChangeShapes Go.WideShapes Go.ChangeAt Go.RowKit Go.Deep
set_option linter.unusedVariables false
def decG (gs : List Gt) : List Gt := gs.flatMap dec
theorem decG_snoc {gs : List Gt} {k : Nat} {g : Gt} (h : gs[k]? = some g) : decG (gs.take (k + 1)) = decG (gs.take k) ++ dec g := by
  unfold decG; rw [take_snoc h, List.flatMap_append]; simp
theorem decG_len (gs : List Gt) : (decG gs).length ≤ 15 * gs.length := by
  unfold decG
  induction gs with
  | nil => simp
  | cons o xs ih => have := dec_len o; rw [List.flatMap_cons, List.length_append, List.length_cons]; omega
theorem decG_take (gs : List Gt) (k : Nat) : (decG (gs.take k)).length ≤ 15 * k := by
  have h1 := decG_len (gs.take k)
  have h2 : (gs.take k).length ≤ k := List.length_take_le _ _
  omega
set_option maxRecDepth 100000 in
set_option maxHeartbeats 4000000 in
theorem spec_DecomposeGates_any (A : Option Addr) (n c : Nat) (gs : List Gt) (w : World) (h : Rd w w.heap.size 4 A n (gcells gs)) (hn : n ≤ 1048576) :
    Calls Try.prog 85 #[.slice A n c] w fun e w' => ∃ v, e = .returned v ∧ w'.ownsRow w.heap.size 43 4 v (decG gs).length (gcells (decG gs)) ∧ Ext w w' := by
  have hlen := Lib.hid (h.len Gt.cells_len (by omega))
  go_enter Try.func85, Try.ntmps85
  go_wp2
  go_loopw [3, 4] (fun v i wr => ∃ k : Nat, k ≤ n ∧ i = .int .i64 k ∧ wr.ownsRow w.heap.size 43 4 v (decG (gs.take k)).length (gcells (decG (gs.take k))) ∧ Ext w wr) (fun _ i _ => n - (intOf i).toNat)
  case atStart => exact ⟨0, Nat.zero_le _, rfl, own_empty w w _ _ (Ext.refl _), (by repeat (first | exact Ext.refl _ | assumption | refine Ext.alloc ?_ _ | refine Ext.drewN ?_ _ | refine Ext.drew ?_))⟩
  case round =>
    obtain ⟨k, hk, rfl, hown, hx⟩ := hrel
    by_cases hlt : k < n
    · obtain ⟨b, o, g, rfl, hb, hg, r0, r1, r2, r3⟩ := gate_at (h.ext hx) hlt
      have HS := Lib.hid (decG_snoc hg)
      clear hg
      have hle := decG_take gs k
      have hdl := dec_len g
      go_wp2_with fail
      refine (spec_DecomposeGate_any g _).mono ?_
      rintro e w1 ⟨v1, rfl, ho1, hx1⟩
      obtain ⟨A1, c1, rfl, hr1⟩ := own_slice ho1
      clear r0 r1 r2 r3
      go_wp2_with (at_builtin; refine appGateS (w0 := w) rfl _ _ rfl _ _ (decG (gs.take k)) rfl (own_ext hown hx1) (hx.trans hx1) A1 _ c1 (dec g) rfl hr1 (by omega) ?_; intro v2 w2 ho2 hX2 hg2 hl2)
      go_roundw
      case rel => exact ⟨k + 1, by omega, by go_num, by rw [HS.out, List.length_append]; exact ho2, hX2⟩
      case measure => simp [intOf]; omega
    · rw [List.take_of_length_le (by rw [hlen.out]; omega)] at hown
      go_wp2
      go_ret
      exact ⟨_, rfl, hown, hx⟩
/-- What the routing of lists of gates hands back (only its form). -/
def RgsE (w : World) (m : Nat) (e : Ending) (w' : World) : Prop :=
  ∃ (v1 v2 : Value) (b : Bool) (out : List Gt), e = .returned (.tuple #[v1, v2, .bool b]) ∧ out.length ≤ 5 * m ∧ w'.ownsRow w.heap.size 43 4 v1 out.length (gcells out) ∧ Ext w w'
set_option maxRecDepth 100000 in
set_option maxHeartbeats 16000000 in
theorem spec_RouteGates_any (A : Option Addr) (n c : Nat) (gs : List Gt) (v : Value) (x : Gr) (Ap : Option Addr) (np cp : Nat) (p : List Int) (w : World) (h : Rd w w.heap.size 4 A n (gcells gs)) (hn : n ≤ 1048576) (hv : GrAt w w.heap.size v x) (hl : x.es.length ≤ 100000000) (hp : Rd w w.heap.size 1 Ap np (icells p)) (hnp : np ≤ 100000000) (hcp : np ≤ cp) :
    Calls Try.prog 45 #[.slice A n c, v, .slice Ap np cp] w (RgsE w n) := by
  have hlen := Lib.hid (h.len Gt.cells_len (by omega))
  have hlp := Lib.hid (hp.len icell_len (by omega))
  obtain ⟨A1, c1, rfl, h1⟩ := hv
  have HG : Hid (∀ w', Ext w w' → GrAt w' w'.heap.size (.agg #[.int .i64 x.n, .slice A1 x.es.length c1]) x) := fun w' hx => ⟨A1, c1, rfl, h1.ext hx⟩
  clear h1
  have hB0 : Blk (w.alloc (.cells #[.int .i64 x.n, .slice A1 x.es.length c1] 27)) w.heap.size 27 #[.int .i64 x.n, .slice A1 x.es.length c1] := Blk.new _ _ _
  have hX0 : Ext w (w.alloc (.cells #[.int .i64 x.n, .slice A1 x.es.length c1] 27)) := by repeat (first | exact Ext.refl _ | assumption | refine Ext.alloc ?_ _ | refine Ext.drewN ?_ _ | refine Ext.drew ?_)
  have HB0 := Lib.hid hB0
  have HX0 := Lib.hid hX0
  clear hB0 hX0
  go_enter Try.func45, Try.ntmps45
  go_upto_region 1 with (fail)
  have hB0 := HB0.out
  have hX0 := HX0.out
  clear HB0 HX0
  generalize (w.alloc (.cells #[.int .i64 x.n, .slice A1 x.es.length c1] 27)) = Wb at *
  have hE : Ext Wb Wb := Ext.refl _
  go_upto_region 2 with (fail)
  have hoo : (Wb.alloc (.cells #[] 43)).ownsRow Wb.heap.size 43 4 (.slice (some ⟨Wb.heap.size, 0, none⟩) 0 0) 0 (gcells []) := own_lit (Ext.refl _) _ _ 4 0 #[] _ rfl rfl rfl (by omega)
  have hxo : Ext Wb (Wb.alloc (.cells #[] 43)) := (Ext.refl _).alloc _
  generalize (Wb.alloc (.cells #[] 43)) = Wo at *
  go_upto_region 3 with (at_builtin; refine appIntS (w0 := Wo) rfl _ _ rfl (.slice (some ⟨Wo.heap.size, 0, none⟩) 0 0) 0 [] rfl (own_lit (Ext.refl _) _ _ 1 0 #[] _ (by simp) rfl rfl (by omega)) ((Ext.refl _).alloc _) Ap np cp p rfl ((hp.ext (hX0.trans hxo)).ext ((Ext.refl _).alloc _)) (by omega) ?_; intro v2 w2 ho2 hx2 hg2 hb2)
  simp only [Nat.zero_add, List.nil_append] at ho2
  clear hg2 hb2 hE
  obtain ⟨A2, c2, rfl, _⟩ := own_slice ho2
  replace hoo := own_ext hoo hx2
  replace ho2 := own_base ho2 hxo.size
  have hxx : Ext Wb w2 := hxo.trans hx2
  clear hxo hx2
  have d0 : w2.cell? ⟨w.heap.size, 0, none⟩ = some (.int .i64 x.n) := (hB0.ext hxx).cell 0
  have d1 : w2.cell? ⟨w.heap.size, 1, none⟩ = some (.slice A1 x.es.length c1) := (hB0.ext hxx).cell 1
  go_wp2_with fail
  refine (spec_IsValidGraph_any _ x _ (HG.out _ (hX0.trans hxx)) hl).mono ?_
  rintro e w3 ⟨rfl, hx3⟩
  clear d0 d1
  cases hvg : vgraph x
  · clear hvg
    go_wp2
    go_ret3
    exact ⟨_, _, _, [], rfl, by simp, own_base (own_ext hoo (hx3.alloc _)) hX0.size, hX0.trans (hxx.trans (hx3.alloc _))⟩
  go_wp2_with fail
  refine (spec_IsPermutation_any Ap np cp p _ (hp.ext ((hX0.trans hxx).trans hx3)) hnp hcp).mono ?_
  rintro e w4 ⟨rfl, hx4⟩
  replace hx4 := hx3.trans hx4
  clear hx3
  cases hpp : perm p
  · clear hpp
    go_wp2
    go_ret3
    exact ⟨_, _, _, [], rfl, by simp, own_base (own_ext hoo (hx4.alloc _)) hX0.size, hX0.trans (hxx.trans (hx4.alloc _))⟩
  have HPP := Lib.hid hpp
  clear hvg hpp
  have d0 : w4.cell? ⟨w.heap.size, 0, none⟩ = some (.int .i64 x.n) := (hB0.ext (hxx.trans hx4)).cell 0
  cases hne : ((np : Int) == x.n)
  · have hne' : ((np : Int) != x.n) = true := by simp [bne, hne]
    go_wp2
    go_ret3
    exact ⟨_, _, _, [], rfl, by simp, own_base (own_ext hoo (hx4.alloc _)) hX0.size, hX0.trans (hxx.trans (hx4.alloc _))⟩
  have hne' : ((np : Int) != x.n) = false := by simp [bne, hne]
  have HO2 := Lib.hid (own_ext ho2 hx4)
  have HX2 := Lib.hid (hxx.trans hx4)
  have HOO := Lib.hid (own_ext hoo hx4)
  clear ho2 hoo hxx hx4
  go_wp2
  clear d0 hne hne'
  go_loopw [9, 10, 11] (fun vo vl i wr => ∃ (k : Nat) (now : List Int) (out : List Gt) (Al : Option Addr) (cl : Nat) (Ao : Option Addr) (m co : Nat), k ≤ n ∧ i = .int .i64 k ∧ vl = .slice Al np cl ∧ vo = .slice Ao m co ∧ Hid (out.length = m) ∧ m ≤ 5 * k ∧ Hid (perm now = true ∧ now.length = np) ∧ wr.ownsRow Wb.heap.size 43 4 (.slice Ao m co) m (gcells out) ∧ wr.ownsRow Wb.heap.size 3 1 (.slice Al np cl) np (icells now) ∧ Ext Wb wr) (fun vo vl i _ => n - (intOf i).toNat)
  case atStart => exact ⟨0, p, [], _, _, _, 0, _, Nat.zero_le _, rfl, rfl, rfl, rfl, Nat.zero_le _, ⟨HPP.out, hlp.out⟩, HOO.out, HO2.out, HX2.out⟩
  case round =>
    clear HOO HO2 HX2
    obtain ⟨k, now, out, Al, cl, Ao, m, co, hk, rfl, rfl, rfl, HM, hmk, HP, ho, hlay, hx⟩ := hrel
    have hxr := hX0.trans hx
    by_cases hlt : k < n
    · obtain ⟨b, o, g, rfl, hb, hg, r0, r1, r2, r3⟩ := gate_at (h.ext hxr) hlt
      clear hg
      have hB := hB0.ext hx
      have hlb := hB.lt
      have d0 : wr.cell? ⟨w.heap.size, 0, none⟩ = some (.int .i64 x.n) := hB.cell 0
      have d1 : wr.cell? ⟨w.heap.size, 1, none⟩ = some (.slice A1 x.es.length c1) := hB.cell 1
      have hk0 : (0 : Int) ≤ (k : Int) := by omega
      have hkn : (k : Int) < (n : Int) := by omega
      have HK : Hid (∀ w', Ext wr w' → w'.cell? ⟨b, o + k * 4, none⟩ = some (.int .i64 g.k) ∧ w'.cell? ⟨b, o + k * 4 + 1, none⟩ = some (.int .i64 g.a) ∧ w'.cell? ⟨b, o + k * 4 + 2, none⟩ = some (.int .i64 g.b) ∧ w'.cell? ⟨b, o + k * 4 + 3, none⟩ = some (.int .i64 g.c) ∧ w'.cell? ⟨w.heap.size, 0, none⟩ = some (.int .i64 x.n) ∧ w'.cell? ⟨w.heap.size, 1, none⟩ = some (.slice A1 x.es.length c1)) := fun w' q => ⟨(q.cell (p := ⟨b, o + k * 4, none⟩) hb).trans r0, (q.cell (p := ⟨b, o + k * 4 + 1, none⟩) hb).trans r1, (q.cell (p := ⟨b, o + k * 4 + 2, none⟩) hb).trans r2, (q.cell (p := ⟨b, o + k * 4 + 3, none⟩) hb).trans r3, (hB.ext q).cell 0, (hB.ext q).cell 1⟩
      go_wp2
      go_region_held3 (fun w' => w'.cell? ⟨b, o + k * 4, none⟩ = some (.int .i64 g.k) ∧ w'.cell? ⟨b, o + k * 4 + 1, none⟩ = some (.int .i64 g.a) ∧ w'.cell? ⟨b, o + k * 4 + 2, none⟩ = some (.int .i64 g.b) ∧ w'.cell? ⟨b, o + k * 4 + 3, none⟩ = some (.int .i64 g.c) ∧ w'.cell? ⟨w.heap.size, 0, none⟩ = some (.int .i64 x.n) ∧ w'.cell? ⟨w.heap.size, 1, none⟩ = some (.slice A1 x.es.length c1))
        (first | go_keep | exact HK.out _ (by assumption))
        (first
          | (go_at_call 64; refine (spec_l38Right_any g _ x Al np cl now _ (HG.out _ (hxr.drew)) hl ((Rd.own hlay).ext (Ext.refl wr).drew) (by omega) (own_le hlay)).mono ?_; rintro e w1 ⟨rfl, hy1⟩; replace hy1 : Ext wr w1 := Ext.trans (Ext.refl wr).drew hy1))
      have hX1 := hx.trans hy1
      have ho1 := own_ext ho hy1
      have hlay1 := own_ext hlay hy1
      obtain ⟨r0, r1, r2, r3, d0, d1⟩ := HK.out w1 hy1
      cases hm : may g x now
      · go_wp2
        go_ret3
        exact ⟨_, _, _, [], rfl, by simp, own_base (own_ext (own_lit hX1 _ _ 4 0 #[] _ rfl rfl rfl (by omega)) ((Ext.refl _).alloc _)) hX0.size, hX0.trans ((hX1.alloc _).alloc _)⟩
      · have hxr1 := hX0.trans hX1
        have HK1 : Hid (∀ w', Ext w1 w' → w'.cell? ⟨b, o + k * 4, none⟩ = some (.int .i64 g.k) ∧ w'.cell? ⟨b, o + k * 4 + 1, none⟩ = some (.int .i64 g.a) ∧ w'.cell? ⟨b, o + k * 4 + 2, none⟩ = some (.int .i64 g.b) ∧ w'.cell? ⟨b, o + k * 4 + 3, none⟩ = some (.int .i64 g.c) ∧ w'.cell? ⟨w.heap.size, 0, none⟩ = some (.int .i64 x.n) ∧ w'.cell? ⟨w.heap.size, 1, none⟩ = some (.slice A1 x.es.length c1)) := fun w' q => HK.out w' (hy1.trans q)
        have HW := Lib.hid (routG_way (x := x) (g := g) HP.out.1)
        have hrl := routG_len x g now
        clear HK hm
        go_wp2
        go_region_held3 (fun w' => w'.cell? ⟨b, o + k * 4, none⟩ = some (.int .i64 g.k) ∧ w'.cell? ⟨b, o + k * 4 + 1, none⟩ = some (.int .i64 g.a) ∧ w'.cell? ⟨b, o + k * 4 + 2, none⟩ = some (.int .i64 g.b) ∧ w'.cell? ⟨b, o + k * 4 + 3, none⟩ = some (.int .i64 g.c) ∧ w'.cell? ⟨w.heap.size, 0, none⟩ = some (.int .i64 x.n) ∧ w'.cell? ⟨w.heap.size, 1, none⟩ = some (.slice A1 x.es.length c1))
          (first | go_keep | exact HK1.out _ (by assumption))
          (first
            | (go_at_call 66; refine (spec_RouteGate_any g _ x Al np cl now _ (HG.out _ (hxr1.drew)) hl ((Rd.own hlay1).ext (Ext.refl w1).drew) (by omega) (own_le hlay1)).mono ?_; rintro e w3 ⟨v3, A3, l3, c3, rfl, hl3, hc3, hg3, hp3, hy3⟩; replace hy3 : Ext w1 w3 := Ext.trans (Ext.refl w1).drew hy3; have HL3 := Lib.hid hl3; clear hl3))
        obtain ⟨A4, c4, rfl, hr4⟩ := own_slice hg3
        have HL : Hid (l3 = np) := by unfold Hid; rw [HL3.out, HW.out.2, HP.out.2]
        clear HL3
        obtain rfl := HL.out
        clear HL r0 r1 r2 r3 d0 d1 HK1
        obtain ⟨q2, hq2⟩ : ∃ q2, q2 = (routG x g now).2 := ⟨_, rfl⟩
        rw [← hq2] at hp3
        have HQ2 : Hid (perm q2 = true ∧ q2.length = l3) := by unfold Hid; rw [hq2, ← HP.out.2]; exact HW.out
        clear hq2 HW
        have hX3 := hX1.trans hy3
        have hp3' := own_base hp3 (show Wb.heap.size ≤ w1.drew.heap.size from hX1.size)
        go_wp2_with (at_builtin; refine appGateS (w0 := Wb) rfl _ _ rfl _ m out rfl (own_ext ho1 hy3) hX3 A4 _ c4 (routG x g now).1 rfl hr4 (by omega) ?_; intro v5 w5 ho5 hX5 hg5 hl5)
        obtain ⟨A5, c5, rfl, _⟩ := own_slice ho5
        have hp5 := own_other hp3' (own_ext ho1 hy3) intg_ne hg5
        go_roundw
        case rel => exact ⟨k + 1, q2, out ++ (routG x g now).1, _, _, _, m + (routG x g now).1.length, _, by omega, by go_num, rfl, rfl, by unfold Hid; rw [List.length_append, HM.out], by omega, HQ2, ho5, hp5, hX5⟩
        case measure => simp [intOf]; omega
    · go_wp2
      go_ret3
      exact ⟨_, _, _, out, rfl, by rw [HM.out]; omega, by rw [HM.out]; exact own_base ho hX0.size, hxr⟩
end Go.Proofs.Ytfbalkbcglejjaa
/-
  Helper text (no claim of its own): drawn graphs, bent.
-/
namespace Go.Proofs.Ytfbalkbcglejjaa
open Go.ChangeShapes Go.WideShapes Go.ChangeAt Go.RowKit Go.Deep
set_option linter.unusedVariables false
set_option linter.unusedSimpArgs false
theorem own_prefix {w : World} {B e size n k c : Nat} {A : Option Addr} {xs : List Value} (h : w.ownsRow B e size (.slice A n c) n xs) (hk : k ≤ n) : w.ownsRow B e size (.slice A k c) k (xs.take (k * size)) := by
  have hks := Nat.mul_le_mul_right size hk
  obtain ⟨hl, h⟩ := h
  refine ⟨by rw [List.length_take, hl]; omega, ?_⟩
  rcases h with ⟨hv, hn⟩ | ⟨g, cap, cur, hv, hb, hg, h1, h2, h3, h4⟩
  · injection hv with e1 e2 e3
    subst e1; subst e3
    exact .inl ⟨by rw [show k = 0 by omega], by omega⟩
  · injection hv with e1 e2 e3
    subst e1; subst e3
    refine .inr ⟨g, _, cur, rfl, hb, hg, by omega, h2, h3, ?_⟩
    rw [← h4, List.take_take, Nat.min_eq_left hks]
theorem ecells_take (k : Nat) (es : List Ed) : ecells (es.take k) = (ecells es).take (k * 2) := by
  induction es generalizing k with
  | nil => simp [ecells]
  | cons y es ih =>
    cases k with
    | zero => simp [ecells]
    | succ k =>
      have := ih k
      simp only [ecells] at this ⊢
      simp only [List.take_succ_cons, List.flatMap_cons, this, Ed.cells, List.cons_append, List.nil_append, Nat.succ_mul]
theorem own_lc {w : World} {B e size n c : Nat} {A : Option Addr} {xs : List Value} (h : w.ownsRow B e size (.slice A n c) n xs) : n ≤ c := by
  rcases h.2 with ⟨h0, rfl⟩ | ⟨g, cap, cur, hv, _, _, hnc, _⟩
  · omega
  · injection hv with _ _ h3
    omega
theorem DG.cut {w0 w : World} {g s : Nat} {N : Int} {A : Option Addr} {len cap : Nat} {gs : List Ed} (h : DG w0 w g s N A len cap gs) {k : Nat} (hk : k ≤ len) (hs : w0.heap.size < s) (hl : g < w0.heap.size) : DG w0 (w.setCell ⟨s, 1, none⟩ (.slice A k cap)) g s N A k cap (gs.take k) := by
  obtain ⟨h1, h2, h3, h4, h5, h6, h7⟩ := h
  have h3' := own_prefix h3 hk
  rw [← ecells_take] at h3'
  have h4' : ∀ q, (Value.slice A k cap).ownBlock = some q → w0.heap.size + 1 ≤ q ∧ q ≠ s := by cases A <;> exact h4
  refine ⟨h1.far (p := ⟨s, 1, none⟩) (by simp; omega) _, h2.set_ 1 _, ?_, h4', h5.set_ (p := ⟨s, 1, none⟩) (by simp; omega) _, gr_set h6 (p := ⟨s, 1, none⟩) (by simp; omega) _, fun e he => h7 e (List.mem_of_mem_take he)⟩
  refine h3'.kept (row := some s) (gr_setCell (World.grownBy.refl w (some s)) 1 _) ?_
  cases hv : (Value.slice A k cap).ownBlock with
  | none => exact .inl rfl
  | some q => exact .inr (fun e => (h4' q hv).2 (by injection e))
set_option maxRecDepth 100000 in
set_option maxHeartbeats 16000000 in
theorem l36Bent_any (g : Nat) (w : World) (h : Cur w g) :
    Calls Try.prog 87 #[.pointer (some ⟨g, 0, none⟩)] w (DrewGr w g 8 (fun N => -1 ≤ N ∧ N ≤ 5)) := by
  have hgl := h.lt
  go_enter Try.func87, Try.ntmps87
  go_wp2_with fail
  refine (l1Below_any g 4 _ (h.alloc _) (by omega)).mono ?_
  rintro e w2 ⟨x, rfl, ⟨hx0, hx1, _⟩, hC2, hG2⟩
  obtain ⟨n, rfl⟩ := Int.eq_ofNat_of_zero_le hx0
  have hx2 : n < 4 := by have := hx1 (by omega); omega
  clear hx1 hx0
  go_wp2_with fail
  obtain ⟨n1, e1, hb1, hb2⟩ : ∃ n1 : Nat, (1 : Int) + (n : Int) = (n1 : Int) ∧ 1 ≤ n1 ∧ n1 ≤ 4 := ⟨n + 1, by omega, by omega, by omega⟩
  rw [e1]
  clear e1
  refine (l36Right_any g n1 ⟨by omega, by omega⟩ _ hC2).mono ?_
  rintro e w3 ⟨N, A, len, cap, gs, rfl, rfl, hlen, ho3, hC3, hG3, hok3⟩
  have hB2 := (Blk.new w 27 #[.int .i64 0, .slice none 0 0]).grown hG2 (fun k hk => by injection hk; omega)
  have hB3 := hB2.grown hG3 (fun k hk => by injection hk; omega)
  have hl2 := hB2.lt
  have hl3 := hB3.lt
  have hg3 : w.grownBy w3 (some g) := gr_trans (gr_trans (((Ext.refl w).alloc _).gr _) hG2) hG3
  have hD : DG w (w3.alloc (.cells #[.int .i64 n1, .slice A len cap] 27)) g w3.heap.size n1 A len cap gs :=
    ⟨hB3.alloc _, Blk.new _ _ _, own_ext (own_base ho3 hl2) ((Ext.refl w3).alloc _), own_ne (own_base ho3 hl2) (Nat.le_refl _), hC3.alloc _, gr_alloc hg3 _, hok3⟩
  clear hB2 hB3 hG2 hG3 hg3 hC2 ho3
  go_wp2_with fail
  refine (l1Below_any g 8 _ (hC3.alloc _) (by omega)).mono ?_
  rintro e w4 ⟨x, rfl, ⟨hx0, hx1, _⟩, hC4, hG4⟩
  have hx2 := hx1 (by omega)
  clear hx1
  have hgs : g < w3.heap.size := by omega
  have hD4 := hD.grown hG4 hC4 hgs hgl
  clear hD hG4 hC3
  generalize w3.heap.size = s at *
  have hs4 := hD4.2.1.lt
  have hw4 := hD4.1.lt
  have hge : w.heap.size + 1 ≤ w4.heap.size := by omega
  by_cases e0 : x = 0
  · subst e0
    go_wp2_with fail
    refine (l1PickInt_any g _ 5 _ [0, 1, 4, 5, -1] _ (hC4.alloc _) (rd_newN w4 _ _ _ 5 1 _ rfl rfl rfl) (by intro b o e; injection e with e; injection e with e1; omega) (by omega)).mono ?_
    rintro e w5 ⟨z, rfl, hz, hC5, hG5⟩
    have hD5 := (hD4.alloc _).grown hG5 hC5 hgs hgl
    have hz2 : -1 ≤ z ∧ z ≤ 5 := by simp at hz; omega
    clear hz hD4 hC4 hG5
    have hD6 := hD5.setN z (by omega) hgl
    obtain ⟨⟨b0, b1⟩, z0, z1⟩ := blk2 hD5.2.1
    obtain ⟨⟨a0, a1⟩, y0, y1⟩ := blk2 hD5.1
    have HD := Lib.hid hD6
    clear hD6 hD5
    go_wp2
    exact bodyPost_ret (v := .agg #[.int .i64 z, .slice A len cap]) (ret2g rfl HD.out.1 (.int .i64 z) (.slice A len cap) _ rfl) rfl (DrewGr.mk (z) A (len) cap (gs) (hz2) (by omega) (HD.out.done hgl))
  by_cases e1 : x = 1
  · subst e1
    have HD4 := Lib.hid hD4
    obtain ⟨⟨b0, b1⟩, z0, z1⟩ := blk2 hD4.2.1
    clear hD4
    go_wp2
    have hHeld : True := trivial
    refine wp_region_held_drew (S := fun _ => True) (by kernel_rfl) trivial (fun hHeld => ?_)
    (refine wpAnyH_take (i := 0) (v := ?_) rfl (by kernel_rfl) (by kernel_rfl) (by kernel_rfl) (fun _ _ _ h => h) (Or.inl ⟨by rfl, ?_⟩) (by assumption) ?_; rotate_left; · (intro w hSw; (try dsimp only at hSw); go_simp; all_goals with_reducible rfl); (try simp only [Act.put, List.getElem_toArray, List.getElem_cons_zero, List.getElem_cons_succ, List.setIfInBounds_toArray, List.set_cons_zero, List.set_cons_succ]))
    (try simp only [Act.put, List.getElem_toArray, List.getElem_cons_zero, List.getElem_cons_succ, List.setIfInBounds_toArray, List.set_cons_zero, List.set_cons_succ])
    (refine wpAnyH_take (i := 2) (v := ?_) rfl (by kernel_rfl) (by kernel_rfl) (by kernel_rfl) (fun _ _ _ h => h) (Or.inl ⟨by rfl, ?_⟩) (by assumption) ?_; rotate_left; · (intro w hSw; (try dsimp only at hSw); go_simp; all_goals with_reducible rfl); (try simp only [Act.put, List.getElem_toArray, List.getElem_cons_zero, List.getElem_cons_succ, List.setIfInBounds_toArray, List.set_cons_zero, List.set_cons_succ]))
    (try simp only [Act.put, List.getElem_toArray, List.getElem_cons_zero, List.getElem_cons_succ, List.setIfInBounds_toArray, List.set_cons_zero, List.set_cons_succ])
    (refine wpAnyH_take (i := 5) (v := ?_) rfl (by kernel_rfl) (by kernel_rfl) (by kernel_rfl) (fun _ _ _ h => h) (Or.inl ⟨by rfl, ?_⟩) (by assumption) ?_; rotate_left; · (intro w hSw; (try dsimp only at hSw); go_simp; all_goals with_reducible rfl); (try simp only [Act.put, List.getElem_toArray, List.getElem_cons_zero, List.getElem_cons_succ, List.setIfInBounds_toArray, List.set_cons_zero, List.set_cons_succ]))
    (try simp only [Act.put, List.getElem_toArray, List.getElem_cons_zero, List.getElem_cons_succ, List.setIfInBounds_toArray, List.set_cons_zero, List.set_cons_succ])
    refine wpAnyH_ready (rs := [1, 3]) (by kernel_rfl) (by simp) ?_
    refine AllReadyH.cons rfl (fun K hK => ?wL) (AllReadyH.cons rfl (fun K hK => ?wC) AllReadyH.nil)
    case' wL =>
      go_simp
      refine hK.out _ _ trivial (fun hHeld => ?_)
      clear hK K hHeld
      have hHeld : True := trivial
      (try simp only [Act.put, List.getElem_toArray, List.getElem_cons_zero, List.getElem_cons_succ, List.setIfInBounds_toArray, List.set_cons_zero, List.set_cons_succ])
      refine wpAnyH_ready (rs := [3]) (by kernel_rfl) (by simp) ?_
      refine AllReadyH.cons rfl (fun K hK => ?_) AllReadyH.nil
      go_simp
      refine (l1Below_any g 6 _ HD4.out.drew.2.2.2.2.1 (by omega)).mono ?_
      rintro e w5 ⟨y, rfl, ⟨hy0, hy1, _⟩, hC5, hG5⟩
      have hy2 := hy1 (by omega)
      clear hy1
      have HD5 := Lib.hid (HD4.out.drew.grown hG5 hC5 hgs hgl)
      have k1 : w5.cell? ⟨s, 1, none⟩ = some (.slice A len cap) := HD5.out.2.1.cell 1
      have hs5 := HD5.out.2.1.lt
      clear hG5
      refine hK.out _ _ trivial (fun hHeld => ?_)
      clear hK K hHeld
      have hHeld : True := trivial
      (try simp only [Act.put, List.getElem_toArray, List.getElem_cons_zero, List.getElem_cons_succ, List.setIfInBounds_toArray, List.set_cons_zero, List.set_cons_succ])
      (refine wpAnyH_take (i := 4) (v := .int .i64 (y - 1)) rfl (by kernel_rfl) (by kernel_rfl) (by kernel_rfl) (fun _ _ _ h => h) (Or.inl ⟨by rfl, ?_⟩) (by assumption) ?_; · (intro w hSw; (try dsimp only at hSw); go_simp; first | done | exact IntWalk.i64_in _ (by omega)))
      (try simp only [Act.put, List.getElem_toArray, List.getElem_cons_zero, List.getElem_cons_succ, List.setIfInBounds_toArray, List.set_cons_zero, List.set_cons_succ])
      refine wpAnyH_ready (rs := [6]) (by kernel_rfl) (by simp) ?_
      refine AllReadyH.cons rfl (fun K hK => ?_) AllReadyH.nil
      go_simp
      refine (l1Below_any g 5 _ hC5 (by omega)).mono ?_
      rintro e w6 ⟨z, rfl, ⟨hz0, hz1, _⟩, hC6, hG6⟩
      have hz2 := hz1 (by omega)
      clear hz1
      have HD6 := Lib.hid (HD5.out.grown hG6 hC6 hgs hgl)
      have m1 : w6.cell? ⟨s, 1, none⟩ = some (.slice A len cap) := HD6.out.2.1.cell 1
      have hs6 := HD6.out.2.1.lt
      clear hG6
      refine hK.out _ _ trivial (fun hHeld => ?_)
      clear hK K hHeld
      have hHeld : True := trivial
      (try simp only [Act.put, List.getElem_toArray, List.getElem_cons_zero, List.getElem_cons_succ, List.setIfInBounds_toArray, List.set_cons_zero, List.set_cons_succ])
      (refine wpAnyH_take (i := 7) (v := ?_) rfl (by kernel_rfl) (by kernel_rfl) (by kernel_rfl) (fun _ _ _ h => h) (Or.inl ⟨by rfl, ?_⟩) (by assumption) ?_; rotate_left; · (intro w hSw; (try dsimp only at hSw); go_simp; all_goals with_reducible rfl); (try simp only [Act.put, List.getElem_toArray, List.getElem_cons_zero, List.getElem_cons_succ, List.setIfInBounds_toArray, List.set_cons_zero, List.set_cons_succ]))
      (try simp only [Act.put, List.getElem_toArray, List.getElem_cons_zero, List.getElem_cons_succ, List.setIfInBounds_toArray, List.set_cons_zero, List.set_cons_succ])
      refine wpAnyH_ready (rs := [8]) (by kernel_rfl) (by simp) ?_
      refine AllReadyH.cons rfl (fun K hK => ?_) AllReadyH.nil
      go_simp
      refine hK.out _ _ trivial (fun hHeld => ?_)
      clear hK K hHeld
      have hHeld : True := trivial
      (try simp only [Act.put, List.getElem_toArray, List.getElem_cons_zero, List.getElem_cons_succ, List.setIfInBounds_toArray, List.set_cons_zero, List.set_cons_succ])
    case' wC =>
      go_simp
      refine (l1Below_any g 6 _ HD4.out.drew.2.2.2.2.1 (by omega)).mono ?_
      rintro e w5 ⟨y, rfl, ⟨hy0, hy1, _⟩, hC5, hG5⟩
      have hy2 := hy1 (by omega)
      clear hy1
      have HD5 := Lib.hid (HD4.out.drew.grown hG5 hC5 hgs hgl)
      have k1 : w5.cell? ⟨s, 1, none⟩ = some (.slice A len cap) := HD5.out.2.1.cell 1
      have hs5 := HD5.out.2.1.lt
      clear hG5
      refine hK.out _ _ trivial (fun hHeld => ?_)
      clear hK K hHeld
      have hHeld : True := trivial
      (try simp only [Act.put, List.getElem_toArray, List.getElem_cons_zero, List.getElem_cons_succ, List.setIfInBounds_toArray, List.set_cons_zero, List.set_cons_succ])
      (refine wpAnyH_take (i := 4) (v := .int .i64 (y - 1)) rfl (by kernel_rfl) (by kernel_rfl) (by kernel_rfl) (fun _ _ _ h => h) (Or.inl ⟨by rfl, ?_⟩) (by assumption) ?_; · (intro w hSw; (try dsimp only at hSw); go_simp; first | done | exact IntWalk.i64_in _ (by omega)))
      (try simp only [Act.put, List.getElem_toArray, List.getElem_cons_zero, List.getElem_cons_succ, List.setIfInBounds_toArray, List.set_cons_zero, List.set_cons_succ])
      refine wpAnyH_ready (rs := [1, 6]) (by kernel_rfl) (by simp) ?_
      refine AllReadyH.cons rfl (fun K hK => ?wL2) (AllReadyH.cons rfl (fun K hK => ?wC2) AllReadyH.nil)
    case' wL2 =>
      go_simp
      refine hK.out _ _ trivial (fun hHeld => ?_)
      clear hK K hHeld
      have hHeld : True := trivial
      (try simp only [Act.put, List.getElem_toArray, List.getElem_cons_zero, List.getElem_cons_succ, List.setIfInBounds_toArray, List.set_cons_zero, List.set_cons_succ])
      refine wpAnyH_ready (rs := [6]) (by kernel_rfl) (by simp) ?_
      refine AllReadyH.cons rfl (fun K hK => ?_) AllReadyH.nil
      go_simp
      refine (l1Below_any g 5 _ hC5 (by omega)).mono ?_
      rintro e w6 ⟨z, rfl, ⟨hz0, hz1, _⟩, hC6, hG6⟩
      have hz2 := hz1 (by omega)
      clear hz1
      have HD6 := Lib.hid (HD5.out.grown hG6 hC6 hgs hgl)
      have m1 : w6.cell? ⟨s, 1, none⟩ = some (.slice A len cap) := HD6.out.2.1.cell 1
      have hs6 := HD6.out.2.1.lt
      clear hG6
      refine hK.out _ _ trivial (fun hHeld => ?_)
      clear hK K hHeld
      have hHeld : True := trivial
      (try simp only [Act.put, List.getElem_toArray, List.getElem_cons_zero, List.getElem_cons_succ, List.setIfInBounds_toArray, List.set_cons_zero, List.set_cons_succ])
      (refine wpAnyH_take (i := 7) (v := ?_) rfl (by kernel_rfl) (by kernel_rfl) (by kernel_rfl) (fun _ _ _ h => h) (Or.inl ⟨by rfl, ?_⟩) (by assumption) ?_; rotate_left; · (intro w hSw; (try dsimp only at hSw); go_simp; all_goals with_reducible rfl); (try simp only [Act.put, List.getElem_toArray, List.getElem_cons_zero, List.getElem_cons_succ, List.setIfInBounds_toArray, List.set_cons_zero, List.set_cons_succ]))
      (try simp only [Act.put, List.getElem_toArray, List.getElem_cons_zero, List.getElem_cons_succ, List.setIfInBounds_toArray, List.set_cons_zero, List.set_cons_succ])
      refine wpAnyH_ready (rs := [8]) (by kernel_rfl) (by simp) ?_
      refine AllReadyH.cons rfl (fun K hK => ?_) AllReadyH.nil
      go_simp
      refine hK.out _ _ trivial (fun hHeld => ?_)
      clear hK K hHeld
      have hHeld : True := trivial
      (try simp only [Act.put, List.getElem_toArray, List.getElem_cons_zero, List.getElem_cons_succ, List.setIfInBounds_toArray, List.set_cons_zero, List.set_cons_succ])
    case' wC2 =>
      go_simp
      refine (l1Below_any g 5 _ hC5 (by omega)).mono ?_
      rintro e w6 ⟨z, rfl, ⟨hz0, hz1, _⟩, hC6, hG6⟩
      have hz2 := hz1 (by omega)
      clear hz1
      have HD6 := Lib.hid (HD5.out.grown hG6 hC6 hgs hgl)
      have m1 : w6.cell? ⟨s, 1, none⟩ = some (.slice A len cap) := HD6.out.2.1.cell 1
      have hs6 := HD6.out.2.1.lt
      clear hG6
      refine hK.out _ _ trivial (fun hHeld => ?_)
      clear hK K hHeld
      have hHeld : True := trivial
      (try simp only [Act.put, List.getElem_toArray, List.getElem_cons_zero, List.getElem_cons_succ, List.setIfInBounds_toArray, List.set_cons_zero, List.set_cons_succ])
      (refine wpAnyH_take (i := 7) (v := ?_) rfl (by kernel_rfl) (by kernel_rfl) (by kernel_rfl) (fun _ _ _ h => h) (Or.inl ⟨by rfl, ?_⟩) (by assumption) ?_; rotate_left; · (intro w hSw; (try dsimp only at hSw); go_simp; all_goals with_reducible rfl); (try simp only [Act.put, List.getElem_toArray, List.getElem_cons_zero, List.getElem_cons_succ, List.setIfInBounds_toArray, List.set_cons_zero, List.set_cons_succ]))
      (try simp only [Act.put, List.getElem_toArray, List.getElem_cons_zero, List.getElem_cons_succ, List.setIfInBounds_toArray, List.set_cons_zero, List.set_cons_succ])
      refine wpAnyH_ready (rs := [1, 8]) (by kernel_rfl) (by simp) ?_
      refine AllReadyH.cons rfl (fun K hK => ?wL3) (AllReadyH.cons rfl (fun K hK => ?wC3) AllReadyH.nil)
    case' wL3 =>
      go_simp
      refine hK.out _ _ trivial (fun hHeld => ?_)
      clear hK K hHeld
      have hHeld : True := trivial
      (try simp only [Act.put, List.getElem_toArray, List.getElem_cons_zero, List.getElem_cons_succ, List.setIfInBounds_toArray, List.set_cons_zero, List.set_cons_succ])
      refine wpAnyH_ready (rs := [8]) (by kernel_rfl) (by simp) ?_
      refine AllReadyH.cons rfl (fun K hK => ?_) AllReadyH.nil
      go_simp
      refine hK.out _ _ trivial (fun hHeld => ?_)
      clear hK K hHeld
      have hHeld : True := trivial
      (try simp only [Act.put, List.getElem_toArray, List.getElem_cons_zero, List.getElem_cons_succ, List.setIfInBounds_toArray, List.set_cons_zero, List.set_cons_succ])
    case' wC3 =>
      go_simp
      refine hK.out _ _ trivial (fun hHeld => ?_)
      clear hK K hHeld
      have hHeld : True := trivial
      (try simp only [Act.put, List.getElem_toArray, List.getElem_cons_zero, List.getElem_cons_succ, List.setIfInBounds_toArray, List.set_cons_zero, List.set_cons_succ])
      refine wpAnyH_ready (rs := [1]) (by kernel_rfl) (by simp) ?_
      refine AllReadyH.cons rfl (fun K hK => ?_) AllReadyH.nil
      go_simp
      refine hK.out _ _ trivial (fun hHeld => ?_)
      clear hK K hHeld
      have hHeld : True := trivial
      (try simp only [Act.put, List.getElem_toArray, List.getElem_cons_zero, List.getElem_cons_succ, List.setIfInBounds_toArray, List.set_cons_zero, List.set_cons_succ])
    all_goals
      refine wpAnyH_ready (rs := [9]) (by kernel_rfl) (by simp) ?_
      refine AllReadyH.cons rfl (fun K hK => ?_) AllReadyH.nil
      refine stepE1 (B := w.heap.size + 1) (by rfl) _ _ (by rfl) _ len gs (by rfl) HD6.out.2.2.1 (by have := HD6.out.1.lt; omega) ⟨y - 1, z⟩ _ _ (by rfl) (by rfl) (by omega) ?_
      intro A6 c6 w7 ho6 hg6 hb6
      have HA := Lib.hid (HD6.out.app (y := ⟨y - 1, z⟩) ⟨by unfold I64; dsimp only; omega, by unfold I64; dsimp only; omega⟩ (by omega) hgl ho6 hg6 hb6)
      have k6 : w7.cell? ⟨s, 1, none⟩ = some (.slice A len cap) := HA.out.1.cell 1
      have f6 : w7.frozen? ⟨s, 1, none⟩ = false := HA.out.1.frozen 1
      clear ho6 hg6 hb6
      refine hK.out _ _ trivial (fun hHeld => ?_)
      clear hK K hHeld
      have hHeld : True := trivial
      (try simp only [Act.put, List.getElem_toArray, List.getElem_cons_zero, List.getElem_cons_succ, List.setIfInBounds_toArray, List.set_cons_zero, List.set_cons_succ])
      (refine wpAnyH_take (i := 10) (v := ?_) rfl (by kernel_rfl) (by kernel_rfl) (by kernel_rfl) (fun _ _ _ h => h) (Or.inl ⟨by rfl, ?_⟩) (by assumption) ?_; rotate_left; · (intro w hSw; (try dsimp only at hSw); go_simp; all_goals with_reducible rfl); (try simp only [Act.put, List.getElem_toArray, List.getElem_cons_zero, List.getElem_cons_succ, List.setIfInBounds_toArray, List.set_cons_zero, List.set_cons_succ]))
      (try simp only [Act.put, List.getElem_toArray, List.getElem_cons_zero, List.getElem_cons_succ, List.setIfInBounds_toArray, List.set_cons_zero, List.set_cons_succ])
      refine wpAnyH_ready (rs := [11]) (by kernel_rfl) (by simp) ?_
      refine AllReadyH.cons rfl (fun K hK => ?_) AllReadyH.nil
      go_simp
      refine hK.out _ _ trivial (fun hHeld => ?_)
      clear hK K hHeld
      have hHeld : True := trivial
      (try simp only [Act.put, List.getElem_toArray, List.getElem_cons_zero, List.getElem_cons_succ, List.setIfInBounds_toArray, List.set_cons_zero, List.set_cons_succ])
      (refine wpAnyH_done (by kernel_rfl) ?_ _)
      clear k6 f6 k1 m1 b0 b1 z0 z1
      have HD := Lib.hid HA.out.2
      obtain ⟨⟨b0, b1⟩, z0, z1⟩ := blk2 HD.out.2.1
      obtain ⟨⟨a0, a1⟩, y0, y1⟩ := blk2 HD.out.1
      go_wp2
      exact bodyPost_ret (v := .agg #[.int .i64 n1, .slice A6 (len + 1) c6]) (ret2g rfl HD.out.1 (.int .i64 n1) (.slice A6 (len + 1) c6) _ rfl) rfl (DrewGr.mk n1 A6 (len + 1) c6 _ ⟨by omega, by omega⟩ (by omega) (HD.out.done hgl))
  by_cases e2 : x = 2
  · subst e2
    have HD4 := Lib.hid hD4
    obtain ⟨⟨b0, b1⟩, z0, z1⟩ := blk2 hD4.2.1
    clear hD4
    have hlw : IntKind.i64.wrap ((len : Int) + 1) = (len : Int) + 1 := IntWalk.i64_in _ (by omega)
    go_wp2
    have hHeld : True := trivial
    have hlc : len ≤ cap := own_lc HD4.out.2.2.1
    refine wp_region_held_drew (S := fun _ => True) (by kernel_rfl) trivial (fun hHeld => ?_)
    (refine wpAnyH_take (i := 0) (v := ?_) rfl (by kernel_rfl) (by kernel_rfl) (by kernel_rfl) (fun _ _ _ h => h) (Or.inl ⟨by rfl, ?_⟩) (by assumption) ?_; rotate_left; · (intro w hSw; (try dsimp only at hSw); go_simp; all_goals with_reducible rfl); (try simp only [Act.put, List.getElem_toArray, List.getElem_cons_zero, List.getElem_cons_succ, List.setIfInBounds_toArray, List.set_cons_zero, List.set_cons_succ]))
    (try simp only [Act.put, List.getElem_toArray, List.getElem_cons_zero, List.getElem_cons_succ, List.setIfInBounds_toArray, List.set_cons_zero, List.set_cons_succ])
    (refine wpAnyH_take (i := 2) (v := ?_) rfl (by kernel_rfl) (by kernel_rfl) (by kernel_rfl) (fun _ _ _ h => h) (Or.inl ⟨by rfl, ?_⟩) (by assumption) ?_; rotate_left; · (intro w hSw; (try dsimp only at hSw); go_simp; all_goals with_reducible rfl); (try simp only [Act.put, List.getElem_toArray, List.getElem_cons_zero, List.getElem_cons_succ, List.setIfInBounds_toArray, List.set_cons_zero, List.set_cons_succ]))
    (try simp only [Act.put, List.getElem_toArray, List.getElem_cons_zero, List.getElem_cons_succ, List.setIfInBounds_toArray, List.set_cons_zero, List.set_cons_succ])
    (refine wpAnyH_take (i := 3) (v := ?_) rfl (by kernel_rfl) (by kernel_rfl) (by kernel_rfl) (fun _ _ _ h => h) (Or.inl ⟨by rfl, ?_⟩) (by assumption) ?_; rotate_left; · (intro w hSw; (try dsimp only at hSw); go_simp; all_goals with_reducible rfl); (try simp only [Act.put, List.getElem_toArray, List.getElem_cons_zero, List.getElem_cons_succ, List.setIfInBounds_toArray, List.set_cons_zero, List.set_cons_succ]))
    (try simp only [Act.put, List.getElem_toArray, List.getElem_cons_zero, List.getElem_cons_succ, List.setIfInBounds_toArray, List.set_cons_zero, List.set_cons_succ])
    refine wpAnyH_ready (rs := [1, 4]) (by kernel_rfl) (by simp) ?_
    refine AllReadyH.cons rfl (fun K hK => ?vL) (AllReadyH.cons rfl (fun K hK => ?vM) AllReadyH.nil)
    case' vL =>
      go_simp
      refine hK.out _ _ trivial (fun hHeld => ?_)
      clear hK K hHeld
      have hHeld : True := trivial
      (try simp only [Act.put, List.getElem_toArray, List.getElem_cons_zero, List.getElem_cons_succ, List.setIfInBounds_toArray, List.set_cons_zero, List.set_cons_succ])
      refine wpAnyH_ready (rs := [4]) (by kernel_rfl) (by simp) ?_
      refine AllReadyH.cons rfl (fun K hK => ?_) AllReadyH.nil
      go_simp
      refine hK.out _ _ trivial (fun hHeld => ?_)
      clear hK K hHeld
      have hHeld : True := trivial
      (try simp only [Act.put, List.getElem_toArray, List.getElem_cons_zero, List.getElem_cons_succ, List.setIfInBounds_toArray, List.set_cons_zero, List.set_cons_succ])
      (refine wpAnyH_take (i := 5) (v := ?_) rfl (by kernel_rfl) (by kernel_rfl) (by kernel_rfl) (fun _ _ _ h => h) (Or.inl ⟨by rfl, ?_⟩) (by assumption) ?_; rotate_left; · (intro w hSw; (try dsimp only at hSw); go_simp; all_goals with_reducible rfl); (try simp only [Act.put, List.getElem_toArray, List.getElem_cons_zero, List.getElem_cons_succ, List.setIfInBounds_toArray, List.set_cons_zero, List.set_cons_succ]))
      (try simp only [Act.put, List.getElem_toArray, List.getElem_cons_zero, List.getElem_cons_succ, List.setIfInBounds_toArray, List.set_cons_zero, List.set_cons_succ])
      (refine wpAnyH_take (i := 6) (v := .int .i64 ((len : Int) + 1)) rfl (by kernel_rfl) (by kernel_rfl) (by kernel_rfl) (fun _ _ _ h => h) (Or.inl ⟨by rfl, ?_⟩) (by assumption) ?_; · (intro w hSw; (try dsimp only at hSw); go_simp; first | done | exact IntWalk.i64_in _ (by omega)))
      (try simp only [Act.put, List.getElem_toArray, List.getElem_cons_zero, List.getElem_cons_succ, List.setIfInBounds_toArray, List.set_cons_zero, List.set_cons_succ])
      refine wpAnyH_ready (rs := [7]) (by kernel_rfl) (by simp) ?_
      refine AllReadyH.cons rfl (fun K hK => ?_) AllReadyH.nil
      go_simp
      refine (l1Below_any g _ _ HD4.out.drew.2.2.2.2.1 (by omega)).mono ?_
      rintro e w5 ⟨y, rfl, ⟨hy0, hy1, _⟩, hC5, hG5⟩
      have hy2 := hy1 (by omega)
      clear hy1
      have HD5 := Lib.hid (HD4.out.drew.grown hG5 hC5 hgs hgl)
      have k1 : w5.cell? ⟨s, 1, none⟩ = some (.slice A len cap) := HD5.out.2.1.cell 1
      have f1 : w5.frozen? ⟨s, 1, none⟩ = false := HD5.out.2.1.frozen 1
      have hs5 := HD5.out.2.1.lt
      clear hG5
      obtain ⟨k, rfl⟩ := Int.eq_ofNat_of_zero_le hy0
      have hkl : k ≤ len := by omega
      have hkc : k ≤ cap := by omega
      refine hK.out _ _ trivial (fun hHeld => ?_)
      clear hK K hHeld
      have hHeld : True := trivial
      (try simp only [Act.put, List.getElem_toArray, List.getElem_cons_zero, List.getElem_cons_succ, List.setIfInBounds_toArray, List.set_cons_zero, List.set_cons_succ])
    case' vM =>
      go_simp
      refine hK.out _ _ trivial (fun hHeld => ?_)
      clear hK K hHeld
      have hHeld : True := trivial
      (try simp only [Act.put, List.getElem_toArray, List.getElem_cons_zero, List.getElem_cons_succ, List.setIfInBounds_toArray, List.set_cons_zero, List.set_cons_succ])
      (refine wpAnyH_take (i := 5) (v := ?_) rfl (by kernel_rfl) (by kernel_rfl) (by kernel_rfl) (fun _ _ _ h => h) (Or.inl ⟨by rfl, ?_⟩) (by assumption) ?_; rotate_left; · (intro w hSw; (try dsimp only at hSw); go_simp; all_goals with_reducible rfl); (try simp only [Act.put, List.getElem_toArray, List.getElem_cons_zero, List.getElem_cons_succ, List.setIfInBounds_toArray, List.set_cons_zero, List.set_cons_succ]))
      (try simp only [Act.put, List.getElem_toArray, List.getElem_cons_zero, List.getElem_cons_succ, List.setIfInBounds_toArray, List.set_cons_zero, List.set_cons_succ])
      (refine wpAnyH_take (i := 6) (v := .int .i64 ((len : Int) + 1)) rfl (by kernel_rfl) (by kernel_rfl) (by kernel_rfl) (fun _ _ _ h => h) (Or.inl ⟨by rfl, ?_⟩) (by assumption) ?_; · (intro w hSw; (try dsimp only at hSw); go_simp; first | done | exact IntWalk.i64_in _ (by omega)))
      (try simp only [Act.put, List.getElem_toArray, List.getElem_cons_zero, List.getElem_cons_succ, List.setIfInBounds_toArray, List.set_cons_zero, List.set_cons_succ])
      refine wpAnyH_ready (rs := [1, 7]) (by kernel_rfl) (by simp) ?_
      refine AllReadyH.cons rfl (fun K hK => ?vL2) (AllReadyH.cons rfl (fun K hK => ?vC2) AllReadyH.nil)
    case' vL2 =>
      go_simp
      refine hK.out _ _ trivial (fun hHeld => ?_)
      clear hK K hHeld
      have hHeld : True := trivial
      (try simp only [Act.put, List.getElem_toArray, List.getElem_cons_zero, List.getElem_cons_succ, List.setIfInBounds_toArray, List.set_cons_zero, List.set_cons_succ])
      refine wpAnyH_ready (rs := [7]) (by kernel_rfl) (by simp) ?_
      refine AllReadyH.cons rfl (fun K hK => ?_) AllReadyH.nil
      go_simp
      refine (l1Below_any g _ _ HD4.out.drew.2.2.2.2.1 (by omega)).mono ?_
      rintro e w5 ⟨y, rfl, ⟨hy0, hy1, _⟩, hC5, hG5⟩
      have hy2 := hy1 (by omega)
      clear hy1
      have HD5 := Lib.hid (HD4.out.drew.grown hG5 hC5 hgs hgl)
      have k1 : w5.cell? ⟨s, 1, none⟩ = some (.slice A len cap) := HD5.out.2.1.cell 1
      have f1 : w5.frozen? ⟨s, 1, none⟩ = false := HD5.out.2.1.frozen 1
      have hs5 := HD5.out.2.1.lt
      clear hG5
      obtain ⟨k, rfl⟩ := Int.eq_ofNat_of_zero_le hy0
      have hkl : k ≤ len := by omega
      have hkc : k ≤ cap := by omega
      refine hK.out _ _ trivial (fun hHeld => ?_)
      clear hK K hHeld
      have hHeld : True := trivial
      (try simp only [Act.put, List.getElem_toArray, List.getElem_cons_zero, List.getElem_cons_succ, List.setIfInBounds_toArray, List.set_cons_zero, List.set_cons_succ])
    case' vC2 =>
      go_simp
      refine (l1Below_any g _ _ HD4.out.drew.2.2.2.2.1 (by omega)).mono ?_
      rintro e w5 ⟨y, rfl, ⟨hy0, hy1, _⟩, hC5, hG5⟩
      have hy2 := hy1 (by omega)
      clear hy1
      have HD5 := Lib.hid (HD4.out.drew.grown hG5 hC5 hgs hgl)
      have k1 : w5.cell? ⟨s, 1, none⟩ = some (.slice A len cap) := HD5.out.2.1.cell 1
      have f1 : w5.frozen? ⟨s, 1, none⟩ = false := HD5.out.2.1.frozen 1
      have hs5 := HD5.out.2.1.lt
      clear hG5
      obtain ⟨k, rfl⟩ := Int.eq_ofNat_of_zero_le hy0
      have hkl : k ≤ len := by omega
      have hkc : k ≤ cap := by omega
      refine hK.out _ _ trivial (fun hHeld => ?_)
      clear hK K hHeld
      have hHeld : True := trivial
      (try simp only [Act.put, List.getElem_toArray, List.getElem_cons_zero, List.getElem_cons_succ, List.setIfInBounds_toArray, List.set_cons_zero, List.set_cons_succ])
      refine wpAnyH_ready (rs := [1]) (by kernel_rfl) (by simp) ?_
      refine AllReadyH.cons rfl (fun K hK => ?_) AllReadyH.nil
      go_simp
      refine hK.out _ _ trivial (fun hHeld => ?_)
      clear hK K hHeld
      have hHeld : True := trivial
      (try simp only [Act.put, List.getElem_toArray, List.getElem_cons_zero, List.getElem_cons_succ, List.setIfInBounds_toArray, List.set_cons_zero, List.set_cons_succ])
    all_goals
      refine wpAnyH_ready (rs := [8]) (by kernel_rfl) (by simp) ?_
      refine AllReadyH.cons rfl (fun K hK => ?_) AllReadyH.nil
      go_simp
      refine hK.out _ _ trivial (fun hHeld => ?_)
      clear hK K hHeld
      have hHeld : True := trivial
      (try simp only [Act.put, List.getElem_toArray, List.getElem_cons_zero, List.getElem_cons_succ, List.setIfInBounds_toArray, List.set_cons_zero, List.set_cons_succ])
      (refine wpAnyH_take (i := 9) (v := ?_) rfl (by kernel_rfl) (by kernel_rfl) (by kernel_rfl) (fun _ _ _ h => h) (Or.inl ⟨by rfl, ?_⟩) (by assumption) ?_; rotate_left; · (intro w hSw; (try dsimp only at hSw); go_simp; all_goals with_reducible rfl); (try simp only [Act.put, List.getElem_toArray, List.getElem_cons_zero, List.getElem_cons_succ, List.setIfInBounds_toArray, List.set_cons_zero, List.set_cons_succ]))
      (try simp only [Act.put, List.getElem_toArray, List.getElem_cons_zero, List.getElem_cons_succ, List.setIfInBounds_toArray, List.set_cons_zero, List.set_cons_succ])
      refine wpAnyH_ready (rs := [10]) (by kernel_rfl) (by simp) ?_
      refine AllReadyH.cons rfl (fun K hK => ?_) AllReadyH.nil
      go_simp
      refine hK.out _ _ trivial (fun hHeld => ?_)
      clear hK K hHeld
      have hHeld : True := trivial
      (try simp only [Act.put, List.getElem_toArray, List.getElem_cons_zero, List.getElem_cons_succ, List.setIfInBounds_toArray, List.set_cons_zero, List.set_cons_succ])
      (refine wpAnyH_done (by kernel_rfl) ?_ _)
      have HD := Lib.hid (HD5.out.cut hkl (by omega) hgl)
      clear k1 f1 b0 b1 z0 z1
      obtain ⟨⟨b0, b1⟩, z0, z1⟩ := blk2 HD.out.2.1
      obtain ⟨⟨a0, a1⟩, y0, y1⟩ := blk2 HD.out.1
      go_wp2
      exact bodyPost_ret (v := .agg #[.int .i64 n1, .slice A k cap]) (ret2g rfl HD.out.1 (.int .i64 n1) (.slice A k cap) _ rfl) rfl (DrewGr.mk n1 A k cap _ ⟨by omega, by omega⟩ (by omega) (HD.out.done hgl))
  · have HD := Lib.hid hD4
    obtain ⟨⟨b0, b1⟩, z0, z1⟩ := blk2 hD4.2.1
    obtain ⟨⟨a0, a1⟩, y0, y1⟩ := blk2 hD4.1
    clear hD4
    go_wp2
    exact bodyPost_ret (v := .agg #[.int .i64 n1, .slice A len cap]) (ret2g rfl HD.out.1 (.int .i64 n1) (.slice A len cap) _ rfl) rfl (DrewGr.mk n1 A (len) cap (gs) ⟨by omega, by omega⟩ (by omega) (HD.out.done hgl))
end Go.Proofs.Ytfbalkbcglejjaa
/-
  Helper text (no claim of its own): drawn permutations, bent.
-/
namespace Go.Proofs.Ytfbalkbcglejjaa
open Go.ChangeShapes Go.WideShapes Go.ChangeAt Go.RowKit Go.Deep
set_option linter.unusedVariables false
theorem appI1 {w : World} {B : Nat} {ops : Array Oper} {rest : List Oper} {o : Oper} {a : Act} {Q : Exit → Act → World → Prop} (hgd : o.guard = none) (s x : Operand)
    (ho : o.op = .call { callee := .builtin .append, args := #[s, x], argTypes := #[35, 35] }) (v : Value) (n : Nat) (xs : List Int) (hs : a.eval s = v)
    (hown : w.ownsRow B 3 1 v n (icells xs)) (hB : B ≤ w.heap.size) (y : Int) (e : TypeId) (b : Nat) (hx : a.eval x = .slice (some ⟨b, 0, none⟩) 1 1) (hbs : b = w.heap.size) (hn : n ≤ 90000000)
    (h : ∀ A' c' w', w'.ownsRow B 3 1 (.slice A' (n + 1) c') (n + 1) (icells (xs ++ [y])) → w.grownBy w' v.ownBlock → wpList Try.prog ops Q rest (a.put o.dst (.slice A' (n + 1) c')) w') :
    wpList Try.prog ops Q (o :: rest) a (w.alloc (.cells #[.int .i64 y] e)) := by
  subst hbs
  have hcs := cutW_size hB
  refine appIntS (w0 := cutW w B) hgd s x ho v n xs hs (by rw [hcs]; exact hown.alloc _) ((cutW_ext hB).alloc _) _ 1 1 [y] hx (rd_new w _ e 1 _ (by simp [icell]) (by simp [icell])) (by omega) ?_
  intro v' w' h1 h2 h3 h4
  rw [hcs] at h1
  obtain ⟨A', c', rfl, _⟩ := own_slice h1
  exact h A' c' w' h1 (World.grownBy.trans (((Ext.refl w).alloc _).gr _) h3)
theorem icells_takeD (k : Nat) (xs : List Int) : icells (xs.take k) = (icells xs).take (k * 1) := by
  induction xs generalizing k with
  | nil => simp [icells]
  | cons y xs ih =>
    cases k with
    | zero => simp [icells]
    | succ k =>
      have := ih k
      simp only [icells, Nat.mul_one] at this ⊢
      simp only [List.take_succ_cons, List.flatMap_cons, this, icell, List.cons_append, List.nil_append]
/-- What a draw of a row of ints hands back. -/
def DrewInts (w : World) (g most : Nat) (e : Ending) (w' : World) : Prop :=
  ∃ (A : Option Addr) (len cap : Nat) (xs : List Int), e = .returned (.slice A len cap) ∧ len ≤ most ∧ w'.ownsRow w.heap.size 3 1 (.slice A len cap) len (icells xs) ∧ Cur w' g ∧ w.grownBy w' (some g)
set_option maxRecDepth 100000 in
set_option maxHeartbeats 8000000 in
theorem l8Bent_any (g : Nat) (w : World) (h : Cur w g) :
    Calls Try.prog 34 #[.pointer (some ⟨g, 0, none⟩)] w (DrewInts w g 5) := by
  have hgl := h.lt
  go_enter Try.func34, Try.ntmps34
  go_wp2_with fail
  refine (l1Below_any g 4 _ h (by omega)).mono ?_
  rintro e w2 ⟨x, rfl, ⟨hx0, hx1, _⟩, hC2, hG2⟩
  obtain ⟨n, rfl⟩ := Int.eq_ofNat_of_zero_le hx0
  have hx2 : n < 4 := by have := hx1 (by omega); omega
  clear hx1 hx0
  go_wp2_with fail
  obtain ⟨n1, e1, hb1, hb2⟩ : ∃ n1 : Nat, (1 : Int) + (n : Int) = (n1 : Int) ∧ 1 ≤ n1 ∧ n1 ≤ 4 := ⟨n + 1, by omega, by omega, by omega⟩
  rw [e1]
  clear e1
  refine (l8Perm_any g n1 ⟨by omega, by omega⟩ _ hC2).mono ?_
  rintro e w3 ⟨b, c, rfl, hb, hI3, hC3, hG3⟩
  have hg3 := gr_trans hG2 hG3
  have hbw : w.heap.size ≤ b := by have := gr_size hG2; omega
  clear hG3 hC2
  go_wp2_with fail
  refine (l1Below_any g 8 _ hC3 (by omega)).mono ?_
  rintro e w4 ⟨x, rfl, ⟨hx0, hx1, _⟩, hC4, hG4⟩
  have hx2 := hx1 (by omega)
  clear hx1
  have hI4 := hI3.grown hG4 (fun k hk => by injection hk; omega)
  have hg4 := gr_trans hg3 hG4
  clear hg3 hG4 hC3 hI3 hG2
  by_cases e0 : x = 0
  · subst e0
    go_wp2_with fail
    refine (l1Below_any g n1 _ hC4 (by omega)).mono ?_
    rintro e w5 ⟨x, rfl, ⟨hx0, hx1, _⟩, hC5, hG5⟩
    obtain ⟨j, rfl⟩ := Int.eq_ofNat_of_zero_le hx0
    have hj : j < n1 := by have := hx1 (by omega); omega
    clear hx1 hx0
    go_wp2_with fail
    refine (l1PickInt_any g _ 5 _ [0, 1, 4, -1, 9223372036854775807] _ (hC5.alloc _) (rd_newN w5 _ _ _ 5 1 _ rfl rfl rfl) (by intro b o e; injection e with e; injection e with e1; have := hC5.lt; omega) (by omega)).mono ?_
    rintro e w6 ⟨z, rfl, hz, hC6, hG6⟩
    have hzI : I64 z := by unfold I64; simp at hz; omega
    clear hz
    have hI6 := ((hI4.grown hG5 (fun k hk => by injection hk; omega)).grown (((Ext.refl w5).alloc (.cells #[.int .i64 0, .int .i64 1, .int .i64 4, .int .i64 (-1), .int .i64 9223372036854775807] 3)).gr none) (by simp)).grown hG6 (fun k hk => by injection hk; omega)
    have hg6 := gr_trans (gr_alloc (gr_trans hg4 hG5) _) hG6
    have hI7 := hI6.set_ j z hzI
    have hC7 := hC6.set_ (p := ⟨b, j, none⟩) (by simp; omega) (.int .i64 z)
    have hg7 := gr_set hg6 (p := ⟨b, j, none⟩) hbw (.int .i64 z)
    have fj := hI6.frozen j
    obtain ⟨u, hu⟩ := hI6.cell hj
    obtain ⟨xs, _, ho⟩ := hI7.own hbw
    have HO := Lib.hid ho
    clear ho hG5 hG6 hC4 hC5 hzI hI7
    have HC := Lib.hid hC7
    have HG := Lib.hid hg7
    clear hC7 hg7
    go_wp2
    go_ret
    exact ⟨_, _, _, xs, rfl, by omega, HO.out, HC.out, HG.out⟩
  by_cases e1 : x = 1
  · subst e1
    go_wp2_with fail
    refine (l1Below_any g n1 _ hC4 (by omega)).mono ?_
    rintro e w5 ⟨x, rfl, ⟨hx0, hx1, _⟩, hC5, hG5⟩
    obtain ⟨j, rfl⟩ := Int.eq_ofNat_of_zero_le hx0
    have hj : j < n1 := by have := hx1 (by omega); omega
    clear hx1 hx0
    obtain ⟨xs, _, ho⟩ := (hI4.grown hG5 (fun k hk => by injection hk; omega)).own hbw
    have hlc := own_lc ho
    have hjc : j ≤ c := by omega
    have ho2 := own_prefix ho (Nat.le_of_lt hj)
    rw [← icells_takeD] at ho2
    have HO := Lib.hid ho2
    have HG := Lib.hid (gr_trans hg4 hG5)
    clear ho ho2 hG5 hC4
    go_wp2
    go_ret
    exact ⟨_, _, _, xs.take j, rfl, by omega, HO.out, hC5, HG.out⟩
  by_cases e2 : x = 2
  · subst e2
    obtain ⟨xs, _, ho⟩ := hI4.own hbw
    have hsz := gr_size hg4
    have HO := Lib.hid ho
    clear ho
    go_wp2_with (at_builtin; refine appI1 (B := w.heap.size) rfl _ _ rfl _ n1 xs rfl HO.out hsz (n1 : Int) _ _ rfl rfl (by omega) ?_; intro A6 c6 w6 ho6 hg6)
    go_ret
    have hgb : ∀ k, (Value.slice (some ⟨b, 0, none⟩) n1 c).ownBlock = some k → k = b := fun k hk => by injection hk with hk; exact hk.symm
    exact ⟨_, _, _, _, rfl, by omega, ho6, hC4.grown hg6 (fun k hk => by have := hgb k hk; omega), gr_new hg4 hg6 (fun k hk => by have := hgb k hk; omega)⟩
  · obtain ⟨xs, _, ho⟩ := hI4.own hbw
    go_wp2
    go_ret
    exact ⟨_, _, _, xs, rfl, by omega, ho, hC4, hg4⟩
end Go.Proofs.Ytfbalkbcglejjaa
/-
  Helper text (no claim of its own): drawn gates beside a drawn graph. Printed by gen_draww.py.
-/
namespace Go.Proofs.Ytfbalkbcglejjaa
open Go.ChangeShapes Go.WideShapes Go.ChangeAt Go.RowKit Go.Deep
set_option linter.unusedVariables false
theorem graphgate_ne : (27 : Nat) ≠ 43 := by decide
theorem edgegate_ne : (79 : Nat) ≠ 43 := by decide
theorem blk_apart {w : World} {s T : Nat} {cs : Array Value} {B e size n : Nat} {v : Value} {xs : List Value} (h : Blk w s T cs) (ho : w.ownsRow B e size v n xs) (hne : T ≠ e) : ∀ k, v.ownBlock = some k → s ≠ k := by
  intro k hk e1
  subst e1
  rcases ho.2 with ⟨rfl, _⟩ | ⟨b', cap', cur', rfl, _, hc', _⟩
  · cases hk
  · injection hk with hk
    subst hk
    unfold Blk at h
    rw [h] at hc'
    injection hc' with hc'
    injection hc' with _ hc'
    exact hne hc'
section
variable {w0 w w' : World} {g q : Nat} {N N' : Int} {A A' : Option Addr} {l c l' c' : Nat} {es es' : List Ed} {L L' : Option Addr} {len cap cap' : Nat} {gs : List Gt}
/-- The graph's header is written anew. -/
theorem DG.fresh (h : DG w0 w g q N A l c es) (hg : w.grownBy w' (some g)) (hC : Cur w' g) (hs : g < q) (hl : g < w0.heap.size) (hq : w0.heap.size < q) (ho : w'.ownsRow w.heap.size 79 2 (.slice A' l' c') l' (ecells es')) (hok : ∀ e ∈ es', e.ok) :
    DG w0 ((w'.setCell ⟨q, 0, none⟩ (.int .i64 N')).setCell ⟨q, 1, none⟩ (.slice A' l' c')) g q N' A' l' c' es' := by
  have hlt := h.2.1.lt
  have hlw := h.1.lt
  obtain ⟨h1, h2, h3, h4, h5, h6, h7⟩ := h.grown hg hC hs hl
  refine ⟨(h1.far (p := ⟨q, 0, none⟩) (by simp; omega) _).far (p := ⟨q, 1, none⟩) (by simp; omega) _, h2.set2 _ _, own_base (own_set (own_set ho (p := ⟨q, 0, none⟩) hlt _) (p := ⟨q, 1, none⟩) hlt _) hlw, ?_, h5.set2 hs _ _, gr_set2 h6 (Nat.le_of_lt hq) _ _, hok⟩
  intro k hk
  have := (ho.lt k hk).1
  omega
/-- A row of gates is written. -/
theorem DG.rowG {B n : Nat} {v : Value} {xs : List Value} (h : DG w0 w g q N A l c es) (ho : w.ownsRow B 43 4 v n xs) (hB : w0.heap.size < B) (hl : g < w0.heap.size) (hg : w.grownBy w' v.ownBlock) : DG w0 w' g q N A l c es := by
  obtain ⟨h1, h2, h3, h4, h5, h6, h7⟩ := h
  have hlo : ∀ k, v.ownBlock = some k → B ≤ k := fun k hk => (ho.lt k hk).1
  exact ⟨h1.grown hg (blk_apart h1 ho graphgate_ne), h2.grown hg (blk_apart h2 ho graphgate_ne), own_other h3 ho edgegate_ne hg, h4, h5.grown hg (fun k hk => by have := hlo k hk; omega), gr_new h6 hg (fun k hk => by have := hlo k hk; omega), h7⟩
/-- Drawn gates and a drawn graph whose header lies in block q. -/
def LG (w0 w : World) (g q : Nat) (N : Int) (A : Option Addr) (l c : Nat) (es : List Ed) (L : Option Addr) (len cap : Nat) (gs : List Gt) : Prop :=
  DG w0 w g q N A l c es ∧ w.ownsRow (w0.heap.size + 1) 43 4 (.slice L len cap) len (gcells gs)
theorem LG.cur (h : LG w0 w g q N A l c es L len cap gs) : Cur w g := h.1.2.2.2.2.1
theorem LG.grown (h : LG w0 w g q N A l c es L len cap gs) (hg : w.grownBy w' (some g)) (hC : Cur w' g) (hs : g < q) (hl : g < w0.heap.size) : LG w0 w' g q N A l c es L len cap gs :=
  ⟨h.1.grown hg hC hs hl, own_kept h.2 hg (fun k hk => by injection hk; omega)⟩
theorem LG.fresh (h : LG w0 w g q N A l c es L len cap gs) (hg : w.grownBy w' (some g)) (hC : Cur w' g) (hs : g < q) (hl : g < w0.heap.size) (hq : w0.heap.size < q) (ho : w'.ownsRow w.heap.size 79 2 (.slice A' l' c') l' (ecells es')) (hok : ∀ e ∈ es', e.ok) :
    LG w0 ((w'.setCell ⟨q, 0, none⟩ (.int .i64 N')).setCell ⟨q, 1, none⟩ (.slice A' l' c')) g q N' A' l' c' es' L len cap gs := by
  refine ⟨h.1.fresh hg hC hs hl hq ho hok, ?_⟩
  have h2 := own_kept h.2 hg (fun k hk => by injection hk; omega)
  have hb := h.1.2.1.grown hg (fun k hk => by injection hk; omega)
  have ha := blk_apart hb h2 graphgate_ne
  have k1 := h2.kept (row := some q) (gr_setCell (World.grownBy.refl w' (some q)) 0 (.int .i64 N')) (by
    cases hv : (Value.slice L len cap).ownBlock with
    | none => exact .inl rfl
    | some k => exact .inr (fun e => ha k hv (by injection e with e; exact e.symm)))
  exact k1.kept (row := some q) (gr_setCell (World.grownBy.refl _ (some q)) 1 _) (by
    cases hv : (Value.slice L len cap).ownBlock with
    | none => exact .inl rfl
    | some k => exact .inr (fun e => ha k hv (by injection e with e; exact e.symm)))
theorem LG.app {y : Gt} (h : LG w0 w g q N A l c es L len cap gs) (hl : g < w0.heap.size) (ho : w'.ownsRow (w0.heap.size + 1) 43 4 (.slice L' (len + 1) cap') (len + 1) (gcells (gs ++ [y]))) (hg : w.grownBy w' (Value.slice L len cap).ownBlock) : LG w0 w' g q N A l c es L' (len + 1) cap' (gs ++ [y]) :=
  ⟨h.1.rowG h.2 (Nat.lt_succ_self _) hl hg, ho⟩
theorem LG.drew (h : LG w0 w g q N A l c es L len cap gs) : LG w0 w.drew g q N A l c es L len cap gs := ⟨h.1.drew, own_ext h.2 (Ext.refl w).drew⟩
theorem LG.fin (h : LG w0 w g q N A l c es L len cap gs) (hl : g < w0.heap.size) :
    (((w.setCell ⟨w0.heap.size, 0, none⟩ (.int .i64 N)).setCell ⟨w0.heap.size, 1, none⟩ (.slice A l c)).cell? ⟨w0.heap.size, 0, none⟩ = some (.int .i64 N) ∧ ((w.setCell ⟨w0.heap.size, 0, none⟩ (.int .i64 N)).setCell ⟨w0.heap.size, 1, none⟩ (.slice A l c)).cell? ⟨w0.heap.size, 1, none⟩ = some (.slice A l c)) ∧
    ((w.setCell ⟨w0.heap.size, 0, none⟩ (.int .i64 N)).setCell ⟨w0.heap.size, 1, none⟩ (.slice A l c)).ownsRow w0.heap.size 43 4 (.slice L len cap) len (gcells gs) ∧
    ((w.setCell ⟨w0.heap.size, 0, none⟩ (.int .i64 N)).setCell ⟨w0.heap.size, 1, none⟩ (.slice A l c)).ownsRow w0.heap.size 79 2 (.slice A l c) l (ecells es) ∧ Cur ((w.setCell ⟨w0.heap.size, 0, none⟩ (.int .i64 N)).setCell ⟨w0.heap.size, 1, none⟩ (.slice A l c)) g ∧ w0.grownBy ((w.setCell ⟨w0.heap.size, 0, none⟩ (.int .i64 N)).setCell ⟨w0.heap.size, 1, none⟩ (.slice A l c)) (some g) ∧ ∀ e ∈ es, e.ok := by
  have hb := h.1.1.set2 (.int .i64 N) (.slice A l c)
  obtain ⟨d1, d2, d3, d4⟩ := h.1.done hl
  exact ⟨⟨hb.cell 0, hb.cell 1⟩, own_base (own_set (own_set h.2 (p := ⟨w0.heap.size, 0, none⟩) (by simp) _) (p := ⟨w0.heap.size, 1, none⟩) (by simp) _) (by omega), d1, d2, d3, d4⟩
theorem LG.finD (h : LG w0 w g q N A l c es L len cap gs) (hl : g < w0.heap.size) :
    (((w.setCell ⟨w0.heap.size, 0, none⟩ (.int .i64 N)).setCell ⟨w0.heap.size, 1, none⟩ (.slice A l c)).drew.cell? ⟨w0.heap.size, 0, none⟩ = some (.int .i64 N) ∧ ((w.setCell ⟨w0.heap.size, 0, none⟩ (.int .i64 N)).setCell ⟨w0.heap.size, 1, none⟩ (.slice A l c)).drew.cell? ⟨w0.heap.size, 1, none⟩ = some (.slice A l c)) ∧
    ((w.setCell ⟨w0.heap.size, 0, none⟩ (.int .i64 N)).setCell ⟨w0.heap.size, 1, none⟩ (.slice A l c)).drew.ownsRow w0.heap.size 43 4 (.slice L len cap) len (gcells gs) ∧
    ((w.setCell ⟨w0.heap.size, 0, none⟩ (.int .i64 N)).setCell ⟨w0.heap.size, 1, none⟩ (.slice A l c)).drew.ownsRow w0.heap.size 79 2 (.slice A l c) l (ecells es) ∧ Cur ((w.setCell ⟨w0.heap.size, 0, none⟩ (.int .i64 N)).setCell ⟨w0.heap.size, 1, none⟩ (.slice A l c)).drew g ∧ w0.grownBy ((w.setCell ⟨w0.heap.size, 0, none⟩ (.int .i64 N)).setCell ⟨w0.heap.size, 1, none⟩ (.slice A l c)).drew (some g) ∧ ∀ e ∈ es, e.ok := by
  obtain ⟨⟨q0, q1⟩, e1, e2, e3, e4, e5⟩ := h.fin hl
  exact ⟨⟨q0, q1⟩, own_ext e1 (Ext.refl _).drew, own_ext e2 (Ext.refl _).drew, e3.ext (Ext.refl _).drew, gr_ext e4 (Ext.refl _).drew, e5⟩
end
theorem circField (a b : Value) (w : World) : (Instr.field 104 (.agg #[a, b]) 1).run Try.prog w = .ok b w := by kernel_rfl
/-- What a draw of gates and a graph hands back. -/
def DrewLG (w : World) (g most : Nat) (e : Ending) (w' : World) : Prop :=
  ∃ (L : Option Addr) (len cap : Nat) (gs : List Gt) (N : Int) (A : Option Addr) (l c : Nat) (es : List Ed), e = .returned (.tuple #[.slice L len cap, .agg #[.int .i64 N, .slice A l c]]) ∧ (-1 ≤ N ∧ N ≤ 5) ∧ len ≤ most ∧ l ≤ 8 ∧ w'.ownsRow w.heap.size 43 4 (.slice L len cap) len (gcells gs) ∧ w'.ownsRow w.heap.size 79 2 (.slice A l c) l (ecells es) ∧ Cur w' g ∧ w.grownBy w' (some g) ∧ ∀ e ∈ es, e.ok
theorem DrewLG.mk {w w' : World} {g most : Nat} (L : Option Addr) (len cap : Nat) (gs : List Gt) (N : Int) (A : Option Addr) (l c : Nat) (es : List Ed) (h1 : -1 ≤ N ∧ N ≤ 5) (h2 : len ≤ most) (h3 : l ≤ 8) (h4 : w'.ownsRow w.heap.size 43 4 (.slice L len cap) len (gcells gs) ∧ w'.ownsRow w.heap.size 79 2 (.slice A l c) l (ecells es) ∧ Cur w' g ∧ w.grownBy w' (some g) ∧ ∀ e ∈ es, e.ok) : DrewLG w g most (.returned (.tuple #[.slice L len cap, .agg #[.int .i64 N, .slice A l c]])) w' :=
  ⟨L, len, cap, gs, N, A, l, c, es, rfl, h1, h2, h3, h4⟩
set_option maxRecDepth 100000 in
set_option maxHeartbeats 16000000 in
theorem l37Args_any (g most : Nat) (hm : most ≤ 200) (w : World) (h : Cur w g) :
    Calls Try.prog 67 #[.pointer (some ⟨g, 0, none⟩), .int .i64 most] w (DrewLG w g (15 * most + 1)) := by
  have hgl := h.lt
  have hcf := circField
  go_enter Try.func67, Try.ntmps67
  go_wp2_with fail
  refine (l1Below_any g 4 _ (h.alloc _) (by omega)).mono ?_
  rintro e w2 ⟨x, rfl, ⟨hx0, hx1, _⟩, hC2, hG2⟩
  obtain ⟨n, rfl⟩ := Int.eq_ofNat_of_zero_le hx0
  have hx2 : n < 4 := by have := hx1 (by omega); omega
  clear hx1 hx0
  go_wp2_with fail
  obtain ⟨n1, e1, hb1, hb2⟩ : ∃ n1 : Nat, (1 : Int) + (n : Int) = (n1 : Int) ∧ 1 ≤ n1 ∧ n1 ≤ 4 := ⟨n + 1, by omega, by omega, by omega⟩
  rw [e1]
  clear e1
  refine (l36Right_any g n1 ⟨by omega, by omega⟩ _ hC2).mono ?_
  rintro e w3 ⟨N, A, l, c, es, rfl, rfl, hll, ho3, hC3, hG3, hok3⟩
  have hB2 := (Blk.new w 27 #[.int .i64 0, .slice none 0 0]).grown hG2 (fun k hk => by injection hk; omega)
  have hB3 := hB2.grown hG3 (fun k hk => by injection hk; omega)
  have hl2 := hB2.lt
  have hl3 := hB3.lt
  have hg3 : w.grownBy w3 (some g) := gr_trans (gr_trans (((Ext.refl w).alloc _).gr _) hG2) hG3
  have hD : DG w (w3.alloc (.cells #[.int .i64 n1, .slice A l c] 27)) g w3.heap.size n1 A l c es :=
    ⟨hB3.alloc _, Blk.new _ _ _, own_ext (own_base ho3 hl2) ((Ext.refl w3).alloc _), own_ne (own_base ho3 hl2) (Nat.le_refl _), hC3.alloc _, gr_alloc hg3 _, hok3⟩
  clear hB2 hB3 hG2 hG3 hg3 hC2 ho3
  go_wp2_with fail
  refine (l11Right_any g n1 most ⟨by omega, by omega⟩ hm _ (hC3.alloc _)).mono ?_
  rintro e w4 ⟨L, len, cap, gs, rfl, hlen, ho4, hC4, hG4⟩
  have hgs : g < w3.heap.size := by omega
  have hD4 := hD.grown hG4 hC4 hgs hgl
  have ho4' := own_base ho4 (show w.heap.size + 1 ≤ (w3.alloc (.cells #[.int .i64 n1, .slice A l c] 27)).heap.size from by simp; omega)
  have hgl4 := (Rd.own ho4).len Gt.cells_len (by omega)
  clear hD hG4 hC3 ho4 hok3
  generalize w3.heap.size = q at *
  have hws : w.heap.size < q := by omega
  go_wp2_with fail
  refine (spec_DecomposeGates_any L len cap gs _ (Rd.own ho4') (by omega)).mono ?_
  rintro e w5 ⟨v5, rfl, ho5, hx5⟩
  obtain ⟨L5, c5, rfl, _⟩ := own_slice ho5
  have hdl := decG_len gs
  have HL5 := Lib.hid (show LG w w5 g q n1 A l c es L5 (decG gs).length c5 (decG gs) from ⟨hD4.grown (hx5.gr _) (hC4.ext hx5) hgs hgl, own_base ho5 (Nat.succ_le_of_lt hD4.1.lt)⟩)
  clear hD4 ho4' ho5 hx5 hC4
  rw [hgl4] at hdl
  clear hgl4
  generalize decG gs = ds at *
  generalize ds.length = m5 at *
  go_wp2_with fail
  refine (l1Once_any g 12 _ HL5.out.cur (by omega)).mono ?_
  rintro e w6 ⟨f1, rfl, hC6, hG6⟩
  have HL6 := Lib.hid (HL5.out.grown hG6 hC6 hgs hgl)
  clear HL5 hG6
  cases f1
  case' false =>
    have HLa := HL6
    have hNa : -1 ≤ (n1 : Int) ∧ (n1 : Int) ≤ 5 := by omega
    have hla : l ≤ 8 := by omega
    clear HL6
  case' true =>
    go_wp2_with fail
    refine (l36Bent_any g _ hC6).mono ?_
    rintro e w7 ⟨N', A', l', c', es', rfl, hNa, hla, ho7, hC7, hG7, hok7⟩
    have HL7 := Lib.hid (HL6.out.grown hG7 hC7 hgs hgl)
    have hs7 := HL7.out.1.2.1.lt
    obtain ⟨⟨b0, b1⟩, z0, z1⟩ := blk2 HL7.out.1.2.1
    have HLa := Lib.hid (HL6.out.fresh (N' := N') hG7 hC7 hgs hgl hws ho7 hok7)
    clear HL6 HL7 ho7 hok7 hG7 hC6
  all_goals
    go_wp2_with fail
    refine (l1Once_any g 12 _ HLa.out.cur (by omega)).mono ?_
    rintro e w8 ⟨f2, rfl, hC8, hG8⟩
    have HL8 := Lib.hid (HLa.out.grown hG8 hC8 hgs hgl)
    clear HLa hG8
    (try clear b0 b1 z0 z1)
    cases f2
    case' false =>
      have HL := HL8
      have hlm : m5 ≤ 15 * most + 1 := by omega
      clear HL8
    case' true =>
      go_wp2_with fail
      refine (l9Bent_any g n1 ⟨by omega, by omega⟩ _ hC8).mono ?_
      rintro e w9 ⟨y, rfl, hC9, hG9⟩
      have HL9 := Lib.hid (HL8.out.grown hG9 hC9 hgs hgl)
      have hw9 := HL9.out.1.1.lt
      clear HL8 hG9 hC8
      go_upto_region 8 with (at_builtin; refine appG1 (B := w.heap.size + 1) rfl _ _ rfl _ m5 ds rfl HL9.out.2 (by omega) y _ _ rfl rfl (by omega) ?_; intro L9 cap9 w10 ho10 hg10 _; have HL := Lib.hid (HL9.out.app hgl ho10 hg10); clear ho10 hg10 HL9)
      have hlm : m5 + 1 ≤ 15 * most + 1 := by omega
    all_goals
      have hq8 := HL.out.1.2.1.lt
      have hw8 := HL.out.1.1.lt
      obtain ⟨⟨b0, b1⟩, z0, z1⟩ := blk2 HL.out.1.2.1
      obtain ⟨⟨a0, a1⟩, y0, y1⟩ := blk2 HL.out.1.1
      (try go_wp2)
      refine wp_region_held_drew (S := fun W => W.cell? ⟨q, 0, none⟩ = some _ ∧ W.cell? ⟨q, 1, none⟩ = some _) (by kernel_rfl) ⟨HL.out.drew.1.2.1.cell 0, HL.out.drew.1.2.1.cell 1⟩ (fun hHeld => ?_)
      (refine wpAnyH_take (i := 0) (v := ?_) rfl (by kernel_rfl) (by kernel_rfl) (by kernel_rfl) (fun _ _ _ h => h) (Or.inl ⟨by rfl, ?_⟩) (by assumption) ?_; rotate_left; · (intro w hSw; (try dsimp only at hSw); go_simp; all_goals with_reducible rfl); (try simp only [Act.put, List.getElem_toArray, List.getElem_cons_zero, List.getElem_cons_succ, List.setIfInBounds_toArray, List.set_cons_zero, List.set_cons_succ]))
      (try simp only [Act.put, List.getElem_toArray, List.getElem_cons_zero, List.getElem_cons_succ, List.setIfInBounds_toArray, List.set_cons_zero, List.set_cons_succ])
      (refine wpAnyH_take (i := 1) (v := ?_) rfl (by kernel_rfl) (by kernel_rfl) (by kernel_rfl) (fun _ _ _ h => h) (Or.inl ⟨by rfl, ?_⟩) (by assumption) ?_; rotate_left; · (intro w hSw; (try dsimp only at hSw); go_simp; all_goals with_reducible rfl); (try simp only [Act.put, List.getElem_toArray, List.getElem_cons_zero, List.getElem_cons_succ, List.setIfInBounds_toArray, List.set_cons_zero, List.set_cons_succ]))
      (try simp only [Act.put, List.getElem_toArray, List.getElem_cons_zero, List.getElem_cons_succ, List.setIfInBounds_toArray, List.set_cons_zero, List.set_cons_succ])
      (refine wpAnyH_take (i := 2) (v := ?_) rfl (by kernel_rfl) (by kernel_rfl) (by kernel_rfl) (fun _ _ _ h => h) (Or.inl ⟨by rfl, ?_⟩) (by assumption) ?_; rotate_left; · (intro w hSw; (try dsimp only at hSw); go_simp; all_goals with_reducible rfl); (try simp only [Act.put, List.getElem_toArray, List.getElem_cons_zero, List.getElem_cons_succ, List.setIfInBounds_toArray, List.set_cons_zero, List.set_cons_succ]))
      (try simp only [Act.put, List.getElem_toArray, List.getElem_cons_zero, List.getElem_cons_succ, List.setIfInBounds_toArray, List.set_cons_zero, List.set_cons_succ])
      refine wpAnyH_ready (rs := [3]) (by kernel_rfl) (by simp) ?_
      refine AllReadyH.cons rfl (fun K hK => ?_) AllReadyH.nil
      go_simp
      have hne : q ≠ w.heap.size := by omega
      refine hK.out _ _ ⟨((HL.out.drew.1.2.1.far (p := ⟨w.heap.size, 0, none⟩) hne _).far (p := ⟨w.heap.size, 1, none⟩) hne _).cell 0, ((HL.out.drew.1.2.1.far (p := ⟨w.heap.size, 0, none⟩) hne _).far (p := ⟨w.heap.size, 1, none⟩) hne _).cell 1⟩ (fun hHeld => ?_)
      clear hK K
      (try simp only [Act.put, List.getElem_toArray, List.getElem_cons_zero, List.getElem_cons_succ, List.setIfInBounds_toArray, List.set_cons_zero, List.set_cons_succ])
      (refine wpAnyH_done (by kernel_rfl) ?_ _)
      clear hHeld a0 a1 y0 y1 b0 b1 z0 z1
      obtain ⟨⟨q0, q1⟩, e1, e2, e3, e4, e5⟩ := HL.out.finD hgl
      go_wp2
      exact bodyPost_ret (v := .tuple #[.slice _ _ _, .agg #[.int .i64 _, .slice _ _ _]]) (by simp [results, Try.results67, go_sem, q0, q1]) rfl (DrewLG.mk _ _ _ _ _ _ _ _ _ hNa hlm hla ⟨e1, e2, e3, e4, e5⟩)
end Go.Proofs.Ytfbalkbcglejjaa
/-
  Helper text (no claim of its own): drawn gates, graphs and layouts of the laws on routing. Printed by gen_drawx.py.
-/
namespace Go.Proofs.Ytfbalkbcglejjaa
open Go.ChangeShapes Go.WideShapes Go.ChangeAt Go.RowKit Go.Deep
set_option linter.unusedVariables false
set_option linter.unusedSimpArgs false
theorem graphint_ne : (27 : Nat) ≠ 3 := by decide
theorem graphedge_ne : (27 : Nat) ≠ 79 := by decide
theorem curgate_ne : (72 : Nat) ≠ 43 := by decide
theorem curedge_ne : (72 : Nat) ≠ 79 := by decide
theorem curint_ne : (72 : Nat) ≠ 3 := by decide
theorem own_setB {w : World} {r T i : Nat} {cs : Array Value} {B e size n : Nat} {v : Value} {xs : List Value} (ho : w.ownsRow B e size v n xs) (h : Blk w r T cs) (hne : T ≠ e) (u : Value) : (w.setCell ⟨r, i, none⟩ u).ownsRow B e size v n xs := by
  refine ho.kept (row := some r) (gr_setCell (World.grownBy.refl w (some r)) i u) ?_
  cases hv : v.ownBlock with
  | none => exact .inl rfl
  | some k => exact .inr (fun e1 => blk_apart h ho hne k hv (by injection e1 with e1; exact e1.symm))
theorem own_setB2 {w : World} {r T : Nat} {z0 z1 : Value} {B e size n : Nat} {v : Value} {xs : List Value} (ho : w.ownsRow B e size v n xs) (h : Blk w r T #[z0, z1]) (hne : T ≠ e) (a b : Value) : ((w.setCell ⟨r, 0, none⟩ a).setCell ⟨r, 1, none⟩ b).ownsRow B e size v n xs :=
  own_setB (own_setB ho h hne a) (h.set_ 0 a) hne b
/-- A row is kept where the cursor alone moves. -/
theorem own_cur {w w' : World} {g : Nat} {B e size n : Nat} {v : Value} {xs : List Value} (ho : w.ownsRow B e size v n xs) (hC : Cur w g) (hne : (72 : Nat) ≠ e) (hg : w.grownBy w' (some g)) : w'.ownsRow B e size v n xs := by
  obtain ⟨A, m, c, i, hh, bs, hB, _⟩ := hC
  refine ho.kept hg ?_
  cases hv : v.ownBlock with
  | none => exact .inl rfl
  | some k => exact .inr (fun e1 => blk_apart hB ho hne k hv (by injection e1 with e1; exact e1.symm))
/-- A result cell r and a graph's header q. -/
def TG (w W : World) (r q : Nat) (N : Int) (A : Option Addr) (l c : Nat) (es : List Ed) : Prop :=
  Ext w W ∧ Blk W r 27 #[.int .i64 0, .slice none 0 0] ∧ Blk W q 27 #[.int .i64 N, .slice A l c] ∧ W.ownsRow w.heap.size 79 2 (.slice A l c) l (ecells es) ∧ w.heap.size ≤ r ∧ q ≠ r
section
variable {w W W' : World} {r q g : Nat} {N : Int} {A : Option Addr} {l c : Nat} {es : List Ed}
theorem TG.ext (h : TG w W r q N A l c es) (hx : Ext W W') : TG w W' r q N A l c es := by
  obtain ⟨h1, h2, h3, h4, h5, h6⟩ := h
  exact ⟨h1.trans hx, h2.ext hx, h3.ext hx, own_ext h4 hx, h5, h6⟩
theorem TG.grown (h : TG w W r q N A l c es) (hC : Cur W g) (hg : W.grownBy W' (some g)) (hw : w.heap.size ≤ g) (hr : r ≠ g) (hq : q ≠ g) : TG w W' r q N A l c es := by
  obtain ⟨h1, h2, h3, h4, h5, h6⟩ := h
  exact ⟨h1.grown hg (fun k hk => by injection hk; omega), h2.grown hg (fun k hk => by injection hk; omega), h3.grown hg (fun k hk => by injection hk; omega), own_cur h4 hC curedge_ne hg, h5, h6⟩
theorem TG.gr (h : TG w W r q N A l c es) : GrAt W W.heap.size (.agg #[.int .i64 N, .slice A l c]) ⟨N, es⟩ ∧ es.length = l := by
  have hr := Rd.own h.2.2.2.1
  have hl := Rd.len (f := Ed.cells) (fun _ => by simp [Ed.cells]) (by omega) hr
  subst hl
  exact ⟨⟨A, c, rfl, hr⟩, rfl⟩
theorem TG.fin (h : TG w W r q N A l c es) :
    (((W.setCell ⟨r, 0, none⟩ (.int .i64 N)).setCell ⟨r, 1, none⟩ (.slice A l c)).drew.cell? ⟨r, 0, none⟩ = some (.int .i64 N) ∧ ((W.setCell ⟨r, 0, none⟩ (.int .i64 N)).setCell ⟨r, 1, none⟩ (.slice A l c)).drew.cell? ⟨r, 1, none⟩ = some (.slice A l c)) ∧
    ((W.setCell ⟨r, 0, none⟩ (.int .i64 N)).setCell ⟨r, 1, none⟩ (.slice A l c)).drew.ownsRow w.heap.size 79 2 (.slice A l c) l (ecells es) ∧ Ext w ((W.setCell ⟨r, 0, none⟩ (.int .i64 N)).setCell ⟨r, 1, none⟩ (.slice A l c)).drew := by
  obtain ⟨h1, h2, h3, h4, h5, h6⟩ := h
  have hb := h2.set2 (.int .i64 N) (.slice A l c)
  exact ⟨⟨hb.cell 0, hb.cell 1⟩, own_ext (own_setB2 h4 h2 graphedge_ne _ _) (Ext.refl _).drew, ((h1.setCell h5 _).setCell h5 _).drew⟩
/-- The graph's header behind the writing of the result cell. -/
theorem TG.keep (h : TG w W r q N A l c es) : ((W.setCell ⟨r, 0, none⟩ (.int .i64 N)).setCell ⟨r, 1, none⟩ (.slice A l c)).drew.cell? ⟨q, 0, none⟩ = some (.int .i64 N) ∧ ((W.setCell ⟨r, 0, none⟩ (.int .i64 N)).setCell ⟨r, 1, none⟩ (.slice A l c)).drew.cell? ⟨q, 1, none⟩ = some (.slice A l c) := by
  obtain ⟨h1, h2, h3, h4, h5, h6⟩ := h
  have := (h3.far (p := ⟨r, 0, none⟩) h6 (.int .i64 N)).far (p := ⟨r, 1, none⟩) h6 (.slice A l c)
  exact ⟨this.cell 0, this.cell 1⟩
theorem TG.rows (h : TG w W r q N A l c es) {B e size n : Nat} {v : Value} {xs : List Value} (ho : W.ownsRow B e size v n xs) (hne : (27 : Nat) ≠ e) : ((W.setCell ⟨r, 0, none⟩ (.int .i64 N)).setCell ⟨r, 1, none⟩ (.slice A l c)).drew.ownsRow B e size v n xs :=
  own_ext (own_setB2 ho h.2.1 hne _ _) (Ext.refl _).drew
theorem TG.fin0 (h : TG w W r q N A l c es) :
    (((W.setCell ⟨r, 0, none⟩ (.int .i64 N)).setCell ⟨r, 1, none⟩ (.slice A l c)).cell? ⟨r, 0, none⟩ = some (.int .i64 N) ∧ ((W.setCell ⟨r, 0, none⟩ (.int .i64 N)).setCell ⟨r, 1, none⟩ (.slice A l c)).cell? ⟨r, 1, none⟩ = some (.slice A l c)) ∧
    ((W.setCell ⟨r, 0, none⟩ (.int .i64 N)).setCell ⟨r, 1, none⟩ (.slice A l c)).ownsRow w.heap.size 79 2 (.slice A l c) l (ecells es) ∧ Ext w ((W.setCell ⟨r, 0, none⟩ (.int .i64 N)).setCell ⟨r, 1, none⟩ (.slice A l c)) := by
  obtain ⟨h1, h2, h3, h4, h5, h6⟩ := h
  have hb := h2.set2 (.int .i64 N) (.slice A l c)
  exact ⟨⟨hb.cell 0, hb.cell 1⟩, own_setB2 h4 h2 graphedge_ne _ _, (h1.setCell h5 _).setCell h5 _⟩
theorem TG.keep0 (h : TG w W r q N A l c es) : ((W.setCell ⟨r, 0, none⟩ (.int .i64 N)).setCell ⟨r, 1, none⟩ (.slice A l c)).cell? ⟨q, 0, none⟩ = some (.int .i64 N) ∧ ((W.setCell ⟨r, 0, none⟩ (.int .i64 N)).setCell ⟨r, 1, none⟩ (.slice A l c)).cell? ⟨q, 1, none⟩ = some (.slice A l c) := by
  obtain ⟨h1, h2, h3, h4, h5, h6⟩ := h
  have := (h3.far (p := ⟨r, 0, none⟩) h6 (.int .i64 N)).far (p := ⟨r, 1, none⟩) h6 (.slice A l c)
  exact ⟨this.cell 0, this.cell 1⟩
theorem TG.rows0 (h : TG w W r q N A l c es) {B e size n : Nat} {v : Value} {xs : List Value} (ho : W.ownsRow B e size v n xs) (hne : (27 : Nat) ≠ e) : ((W.setCell ⟨r, 0, none⟩ (.int .i64 N)).setCell ⟨r, 1, none⟩ (.slice A l c)).ownsRow B e size v n xs :=
  own_setB2 ho h.2.1 hne _ _
end
/-- What a law's draw of gates and a graph hands back. -/
def DrewTG (w : World) (most : Nat) (e : Ending) (w' : World) : Prop :=
  ∃ (L : Option Addr) (len cap : Nat) (gs : List Gt) (N : Int) (A : Option Addr) (l c : Nat) (es : List Ed), e = .returned (.tuple #[.slice L len cap, .agg #[.int .i64 N, .slice A l c]]) ∧ (-1 ≤ N ∧ N ≤ 5) ∧ len ≤ most ∧ l ≤ 8 ∧ w'.ownsRow w.heap.size 43 4 (.slice L len cap) len (gcells gs) ∧ w'.ownsRow w.heap.size 79 2 (.slice A l c) l (ecells es) ∧ (∀ e ∈ es, e.ok) ∧ Ext w w'
theorem DrewTG.mk {w w' : World} {most : Nat} (L : Option Addr) (len cap : Nat) (gs : List Gt) (N : Int) (A : Option Addr) (l c : Nat) (es : List Ed) (h1 : -1 ≤ N ∧ N ≤ 5) (h2 : len ≤ most) (h3 : l ≤ 8) (h4 : w'.ownsRow w.heap.size 43 4 (.slice L len cap) len (gcells gs)) (h5 : w'.ownsRow w.heap.size 79 2 (.slice A l c) l (ecells es)) (h6 : ∀ e ∈ es, e.ok) (h7 : Ext w w') : DrewTG w most (.returned (.tuple #[.slice L len cap, .agg #[.int .i64 N, .slice A l c]])) w' :=
  ⟨L, len, cap, gs, N, A, l, c, es, rfl, h1, h2, h3, h4, h5, h6, h7⟩
/-- And of a layout. -/
def DrewTP (w : World) (most : Nat) (e : Ending) (w' : World) : Prop :=
  ∃ (L : Option Addr) (len cap : Nat) (gs : List Gt) (N : Int) (A : Option Addr) (l c : Nat) (es : List Ed) (P : Option Addr) (np cp : Nat) (p : List Int), e = .returned (.tuple #[.slice L len cap, .agg #[.int .i64 N, .slice A l c], .slice P np cp]) ∧ (-1 ≤ N ∧ N ≤ 5) ∧ len ≤ most ∧ l ≤ 8 ∧ np ≤ 5 ∧ w'.ownsRow w.heap.size 43 4 (.slice L len cap) len (gcells gs) ∧ w'.ownsRow w.heap.size 79 2 (.slice A l c) l (ecells es) ∧ w'.ownsRow w.heap.size 3 1 (.slice P np cp) np (icells p) ∧ (∀ e ∈ es, e.ok) ∧ Ext w w'
theorem DrewTP.mk {w w' : World} {most : Nat} (L : Option Addr) (len cap : Nat) (gs : List Gt) (N : Int) (A : Option Addr) (l c : Nat) (es : List Ed) (P : Option Addr) (np cp : Nat) (p : List Int) (h1 : -1 ≤ N ∧ N ≤ 5) (h2 : len ≤ most) (h3 : l ≤ 8) (h33 : np ≤ 5) (h4 : w'.ownsRow w.heap.size 43 4 (.slice L len cap) len (gcells gs)) (h5 : w'.ownsRow w.heap.size 79 2 (.slice A l c) l (ecells es)) (h55 : w'.ownsRow w.heap.size 3 1 (.slice P np cp) np (icells p)) (h6 : ∀ e ∈ es, e.ok) (h7 : Ext w w') : DrewTP w most (.returned (.tuple #[.slice L len cap, .agg #[.int .i64 N, .slice A l c], .slice P np cp])) w' :=
  ⟨L, len, cap, gs, N, A, l, c, es, P, np, cp, p, rfl, h1, h2, h3, h33, h4, h5, h55, h6, h7⟩
set_option maxRecDepth 100000 in
set_option maxHeartbeats 16000000 in
theorem DrawLayoutCost_any (Ab : Option Addr) (nb cb : Nat) (bs : List Int) (w : World) (h : Rd w w.heap.size 1 Ab nb (u8cs bs)) (hn : nb ≤ 1048576) :
    Calls Try.prog 44 #[.slice Ab nb cb] w (DrewTP w 91) := by
  go_enter Try.func44, Try.ntmps44
  go_wp2_with fail
  refine (l1New_any Ab nb cb bs _ (h.ext ((Ext.refl w).alloc _)) hn).mono ?_
  rintro e w1 ⟨rfl, hC1, hx1⟩
  have hB1 := (Blk.new w 27 #[.int .i64 0, .slice none 0 0]).ext hx1
  have hX1 : Ext w w1 := Ext.trans ((Ext.refl w).alloc _) hx1
  obtain ⟨g, hg⟩ : ∃ g, g = (w.alloc (.cells #[.int .i64 0, .slice none 0 0] 27)).heap.size := ⟨_, rfl⟩
  have hgr : g = w.heap.size + 1 := by rw [hg]; simp
  simp only [← hg] at hC1 ⊢
  have hgw : w.heap.size < g := by omega
  have HGR := Lib.hid hgr
  clear hg hgr hx1
  have hl1 := hC1.lt
  (try rw [← HGR.out])
  go_wp2_with fail
  refine (l37Args_any g 6 (by omega) _ hC1).mono ?_
  rintro e w2 ⟨L, len, cap, gs, N, A, l, c, es, rfl, hN, hlen, hll, hog, hoe, hC2, hG2, hok⟩
  have HHOK := Lib.hid hok
  have hB2 := hB1.grown hG2 (fun k hk => by injection hk; omega)
  have hl2 := hB2.lt
  have hX2 : Ext w w2 := hX1.grown hG2 (fun k hk => by injection hk; omega)
  have hw12 : w.heap.size ≤ w1.heap.size := hX1.size
  have hT3 : TG w (w2.alloc (.cells #[.int .i64 N, .slice A l c] 27)) w.heap.size w2.heap.size N A l c es :=
    ⟨hX2.alloc _, hB2.alloc _, Blk.new _ _ _, own_ext (own_base hoe hw12) ((Ext.refl w2).alloc _), Nat.le_refl _, by omega⟩
  have hog3 := own_ext (own_base hog hw12) ((Ext.refl w2).alloc (.cells #[.int .i64 N, .slice A l c] 27))
  have hC3 := hC2.alloc (.cells #[.int .i64 N, .slice A l c] 27)
  have hg2 := hC2.lt
  clear hok hB1 hX1 hl1 hC1 hG2 hoe hog hB2 hX2 hC2
  go_upto_region 3 with (fail)
  generalize (w2.alloc (.cells #[.int .i64 N, .slice A l c] 27)) = w3 at *
  generalize w2.heap.size = q at *
  have HT3 := Lib.hid hT3
  have HO3 := Lib.hid hog3
  obtain ⟨⟨b0, b1⟩, z0, z1⟩ := blk2 hT3.2.2.1
  clear hT3 hog3
  by_cases hin : 1 ≤ N ∧ N ≤ 4
  · obtain ⟨hi1, hi4⟩ := hin
    obtain ⟨n1, rfl⟩ := Int.eq_ofNat_of_zero_le (by omega : 0 ≤ N)
    go_wp2_with fail
    refine (l1In_yes _ _ _ _ hi1 hi4).mono ?_
    rintro e w' ⟨rfl, rfl⟩
    go_wp2_with fail
    refine (l1Once_any g 8 _ hC3 (by omega)).mono ?_
    rintro e w4 ⟨f, rfl, hC4, hG4⟩
    have HT4 := Lib.hid (HT3.out.grown hC3 hG4 (by omega) (by omega) (by omega))
    have HO4 := Lib.hid (own_cur HO3.out hC3 curgate_ne hG4)
    clear HT3 HO3 hC3 hG4 b0 b1 z0 z1
    obtain ⟨⟨b0, b1⟩, z0, z1⟩ := blk2 HT4.out.2.2.1
    obtain ⟨⟨a0, a1⟩, y0, y1⟩ := blk2 HT4.out.2.1
    cases f
    · go_wp2
      refine wp_region_held_drew (S := fun W => W.cell? ⟨q, 0, none⟩ = some (.int .i64 n1) ∧ W.cell? ⟨q, 1, none⟩ = some (.slice A l c)) (by kernel_rfl) ⟨HT4.out.2.2.1.cell 0, HT4.out.2.2.1.cell 1⟩ (fun hHeld => ?_)
      (refine wpAnyH_take (i := 0) (v := ?_) rfl (by kernel_rfl) (by kernel_rfl) (by kernel_rfl) (fun _ _ _ h => h) (Or.inl ⟨by rfl, ?_⟩) (by assumption) ?_; rotate_left; · (intro w hSw; (try dsimp only at hSw); go_simp; all_goals with_reducible rfl); (try simp only [Act.put, List.getElem_toArray, List.getElem_cons_zero, List.getElem_cons_succ, List.setIfInBounds_toArray, List.set_cons_zero, List.set_cons_succ]))
      (try simp only [Act.put, List.getElem_toArray, List.getElem_cons_zero, List.getElem_cons_succ, List.setIfInBounds_toArray, List.set_cons_zero, List.set_cons_succ])
      (refine wpAnyH_take (i := 1) (v := ?_) rfl (by kernel_rfl) (by kernel_rfl) (by kernel_rfl) (fun _ _ _ h => h) (Or.inl ⟨by rfl, ?_⟩) (by assumption) ?_; rotate_left; · (intro w hSw; (try dsimp only at hSw); go_simp; all_goals with_reducible rfl); (try simp only [Act.put, List.getElem_toArray, List.getElem_cons_zero, List.getElem_cons_succ, List.setIfInBounds_toArray, List.set_cons_zero, List.set_cons_succ]))
      (try simp only [Act.put, List.getElem_toArray, List.getElem_cons_zero, List.getElem_cons_succ, List.setIfInBounds_toArray, List.set_cons_zero, List.set_cons_succ])
      (refine wpAnyH_take (i := 2) (v := ?_) rfl (by kernel_rfl) (by kernel_rfl) (by kernel_rfl) (fun _ _ _ h => h) (Or.inl ⟨by rfl, ?_⟩) (by assumption) ?_; rotate_left; · (intro w hSw; (try dsimp only at hSw); go_simp; all_goals with_reducible rfl); (try simp only [Act.put, List.getElem_toArray, List.getElem_cons_zero, List.getElem_cons_succ, List.setIfInBounds_toArray, List.set_cons_zero, List.set_cons_succ]))
      (try simp only [Act.put, List.getElem_toArray, List.getElem_cons_zero, List.getElem_cons_succ, List.setIfInBounds_toArray, List.set_cons_zero, List.set_cons_succ])
      (refine wpAnyH_take (i := 3) (v := ?_) rfl (by kernel_rfl) (by kernel_rfl) (by kernel_rfl) (fun _ _ _ h => h) (Or.inl ⟨by rfl, ?_⟩) (by assumption) ?_; rotate_left; · (intro w hSw; (try dsimp only at hSw); go_simp; all_goals with_reducible rfl); (try simp only [Act.put, List.getElem_toArray, List.getElem_cons_zero, List.getElem_cons_succ, List.setIfInBounds_toArray, List.set_cons_zero, List.set_cons_succ]))
      (try simp only [Act.put, List.getElem_toArray, List.getElem_cons_zero, List.getElem_cons_succ, List.setIfInBounds_toArray, List.set_cons_zero, List.set_cons_succ])
      (refine wpAnyH_take (i := 4) (v := ?_) rfl (by kernel_rfl) (by kernel_rfl) (by kernel_rfl) (fun _ _ _ h => h) (Or.inl ⟨by rfl, ?_⟩) (by assumption) ?_; rotate_left; · (intro w hSw; (try dsimp only at hSw); go_simp; all_goals with_reducible rfl); (try simp only [Act.put, List.getElem_toArray, List.getElem_cons_zero, List.getElem_cons_succ, List.setIfInBounds_toArray, List.set_cons_zero, List.set_cons_succ]))
      (try simp only [Act.put, List.getElem_toArray, List.getElem_cons_zero, List.getElem_cons_succ, List.setIfInBounds_toArray, List.set_cons_zero, List.set_cons_succ])
      refine wpAnyH_ready (rs := [5]) (by kernel_rfl) (by simp) ?_
      refine AllReadyH.cons rfl (fun K hK => ?_) AllReadyH.nil
      go_simp
      refine (l8Perm_any g n1 ⟨by omega, by omega⟩ _ (hC4.ext (Ext.refl _).drew)).mono ?_
      rintro e w5 ⟨b, c5, rfl, hb5, hI5, hC5, hG5⟩
      have HT5 := Lib.hid ((HT4.out.ext (Ext.refl _).drew).grown (hC4.ext (Ext.refl _).drew) hG5 (by omega) (by omega) (by omega))
      have HO5 := Lib.hid (own_cur (own_ext HO4.out (Ext.refl _).drew) (hC4.ext (Ext.refl _).drew) curgate_ne hG5)
      have hlp : n1 ≤ 5 := by omega
      have hwb : w.heap.size ≤ b := by have := HT4.out.1.size; simp only [World.drew] at hb5; omega
      obtain ⟨ps, _, hop⟩ := hI5.own hwb
      have HP5 := Lib.hid hop
      clear hop hI5 hG5 hC5 hb5 hwb
      refine hK.out _ _ ⟨HT5.out.2.2.1.cell 0, HT5.out.2.2.1.cell 1⟩ (fun hHeld => ?_)
      clear hK K
      (try simp only [Act.put, List.getElem_toArray, List.getElem_cons_zero, List.getElem_cons_succ, List.setIfInBounds_toArray, List.set_cons_zero, List.set_cons_succ])
      clear a0 a1 y0 y1 b0 b1 z0 z1
      obtain ⟨⟨b0, b1⟩, z0, z1⟩ := blk2 HT5.out.2.2.1
      obtain ⟨⟨a0, a1⟩, y0, y1⟩ := blk2 HT5.out.2.1
      (refine wpAnyH_take (i := 6) (v := ?_) rfl (by kernel_rfl) (by kernel_rfl) (by kernel_rfl) (fun _ _ _ h => h) (Or.inl ⟨by rfl, ?_⟩) (by assumption) ?_; rotate_left; · (intro w hSw; (try dsimp only at hSw); go_simp; all_goals with_reducible rfl); (try simp only [Act.put, List.getElem_toArray, List.getElem_cons_zero, List.getElem_cons_succ, List.setIfInBounds_toArray, List.set_cons_zero, List.set_cons_succ]))
      (try simp only [Act.put, List.getElem_toArray, List.getElem_cons_zero, List.getElem_cons_succ, List.setIfInBounds_toArray, List.set_cons_zero, List.set_cons_succ])
      refine wpAnyH_ready (rs := [7]) (by kernel_rfl) (by simp) ?_
      refine AllReadyH.cons rfl (fun K hK => ?_) AllReadyH.nil
      go_simp
      refine hK.out _ _ HT5.out.keep0 (fun hHeld => ?_)
      clear hK K
      (try simp only [Act.put, List.getElem_toArray, List.getElem_cons_zero, List.getElem_cons_succ, List.setIfInBounds_toArray, List.set_cons_zero, List.set_cons_succ])
      (refine wpAnyH_take (i := 8) (v := ?_) rfl (by kernel_rfl) (by kernel_rfl) (by kernel_rfl) (fun _ _ _ h => h) (Or.inl ⟨by rfl, ?_⟩) (by assumption) ?_; rotate_left; · (intro w hSw; (try dsimp only at hSw); go_simp; all_goals with_reducible rfl); (try simp only [Act.put, List.getElem_toArray, List.getElem_cons_zero, List.getElem_cons_succ, List.setIfInBounds_toArray, List.set_cons_zero, List.set_cons_succ]))
      (try simp only [Act.put, List.getElem_toArray, List.getElem_cons_zero, List.getElem_cons_succ, List.setIfInBounds_toArray, List.set_cons_zero, List.set_cons_succ])
      (refine wpAnyH_done (by kernel_rfl) ?_ _)
      clear hHeld a0 a1 y0 y1 b0 b1 z0 z1
      obtain ⟨⟨q0, q1⟩, e1, e2⟩ := HT5.out.fin0
      have e3 := HT5.out.rows0 HO5.out graphgate_ne
      have e4 := HT5.out.rows0 HP5.out graphint_ne
      generalize (w5.setCell _ _).setCell _ _ = W2 at q0 q1 e1 e2 e3 e4 ⊢
      go_wp2
      exact bodyPost_ret (v := .tuple #[.slice _ _ _, .agg #[.int .i64 n1, .slice _ _ _], .slice _ _ _]) (by simp [results, Try.results44, go_sem, q0, q1]) rfl (DrewTP.mk _ _ _ _ _ _ _ _ _ _ _ _ _ (by omega) hlen hll hlp e3 e1 e4 HHOK.out e2)
    · go_wp2
      refine wp_region_held_drew (S := fun W => W.cell? ⟨q, 0, none⟩ = some (.int .i64 n1) ∧ W.cell? ⟨q, 1, none⟩ = some (.slice A l c)) (by kernel_rfl) ⟨HT4.out.2.2.1.cell 0, HT4.out.2.2.1.cell 1⟩ (fun hHeld => ?_)
      (refine wpAnyH_take (i := 0) (v := ?_) rfl (by kernel_rfl) (by kernel_rfl) (by kernel_rfl) (fun _ _ _ h => h) (Or.inl ⟨by rfl, ?_⟩) (by assumption) ?_; rotate_left; · (intro w hSw; (try dsimp only at hSw); go_simp; all_goals with_reducible rfl); (try simp only [Act.put, List.getElem_toArray, List.getElem_cons_zero, List.getElem_cons_succ, List.setIfInBounds_toArray, List.set_cons_zero, List.set_cons_succ]))
      (try simp only [Act.put, List.getElem_toArray, List.getElem_cons_zero, List.getElem_cons_succ, List.setIfInBounds_toArray, List.set_cons_zero, List.set_cons_succ])
      (refine wpAnyH_take (i := 1) (v := ?_) rfl (by kernel_rfl) (by kernel_rfl) (by kernel_rfl) (fun _ _ _ h => h) (Or.inl ⟨by rfl, ?_⟩) (by assumption) ?_; rotate_left; · (intro w hSw; (try dsimp only at hSw); go_simp; all_goals with_reducible rfl); (try simp only [Act.put, List.getElem_toArray, List.getElem_cons_zero, List.getElem_cons_succ, List.setIfInBounds_toArray, List.set_cons_zero, List.set_cons_succ]))
      (try simp only [Act.put, List.getElem_toArray, List.getElem_cons_zero, List.getElem_cons_succ, List.setIfInBounds_toArray, List.set_cons_zero, List.set_cons_succ])
      (refine wpAnyH_take (i := 2) (v := ?_) rfl (by kernel_rfl) (by kernel_rfl) (by kernel_rfl) (fun _ _ _ h => h) (Or.inl ⟨by rfl, ?_⟩) (by assumption) ?_; rotate_left; · (intro w hSw; (try dsimp only at hSw); go_simp; all_goals with_reducible rfl); (try simp only [Act.put, List.getElem_toArray, List.getElem_cons_zero, List.getElem_cons_succ, List.setIfInBounds_toArray, List.set_cons_zero, List.set_cons_succ]))
      (try simp only [Act.put, List.getElem_toArray, List.getElem_cons_zero, List.getElem_cons_succ, List.setIfInBounds_toArray, List.set_cons_zero, List.set_cons_succ])
      refine wpAnyH_ready (rs := [3]) (by kernel_rfl) (by simp) ?_
      refine AllReadyH.cons rfl (fun K hK => ?_) AllReadyH.nil
      go_simp
      refine (l8Bent_any g _ (hC4.ext (Ext.refl _).drew)).mono ?_
      rintro e w5 ⟨P, np, cp, ps, rfl, hlp, hop, hC5, hG5⟩
      have HT5 := Lib.hid ((HT4.out.ext (Ext.refl _).drew).grown (hC4.ext (Ext.refl _).drew) hG5 (by omega) (by omega) (by omega))
      have HO5 := Lib.hid (own_cur (own_ext HO4.out (Ext.refl _).drew) (hC4.ext (Ext.refl _).drew) curgate_ne hG5)
      have HP5 := Lib.hid (own_base hop (show w.heap.size ≤ _ from HT4.out.1.size))
      clear hop hG5 hC5
      refine hK.out _ _ ⟨HT5.out.2.2.1.cell 0, HT5.out.2.2.1.cell 1⟩ (fun hHeld => ?_)
      clear hK K
      (try simp only [Act.put, List.getElem_toArray, List.getElem_cons_zero, List.getElem_cons_succ, List.setIfInBounds_toArray, List.set_cons_zero, List.set_cons_succ])
      clear a0 a1 y0 y1 b0 b1 z0 z1
      obtain ⟨⟨b0, b1⟩, z0, z1⟩ := blk2 HT5.out.2.2.1
      obtain ⟨⟨a0, a1⟩, y0, y1⟩ := blk2 HT5.out.2.1
      (refine wpAnyH_take (i := 4) (v := ?_) rfl (by kernel_rfl) (by kernel_rfl) (by kernel_rfl) (fun _ _ _ h => h) (Or.inl ⟨by rfl, ?_⟩) (by assumption) ?_; rotate_left; · (intro w hSw; (try dsimp only at hSw); go_simp; all_goals with_reducible rfl); (try simp only [Act.put, List.getElem_toArray, List.getElem_cons_zero, List.getElem_cons_succ, List.setIfInBounds_toArray, List.set_cons_zero, List.set_cons_succ]))
      (try simp only [Act.put, List.getElem_toArray, List.getElem_cons_zero, List.getElem_cons_succ, List.setIfInBounds_toArray, List.set_cons_zero, List.set_cons_succ])
      refine wpAnyH_ready (rs := [5]) (by kernel_rfl) (by simp) ?_
      refine AllReadyH.cons rfl (fun K hK => ?_) AllReadyH.nil
      go_simp
      refine hK.out _ _ HT5.out.keep0 (fun hHeld => ?_)
      clear hK K
      (try simp only [Act.put, List.getElem_toArray, List.getElem_cons_zero, List.getElem_cons_succ, List.setIfInBounds_toArray, List.set_cons_zero, List.set_cons_succ])
      (refine wpAnyH_take (i := 6) (v := ?_) rfl (by kernel_rfl) (by kernel_rfl) (by kernel_rfl) (fun _ _ _ h => h) (Or.inl ⟨by rfl, ?_⟩) (by assumption) ?_; rotate_left; · (intro w hSw; (try dsimp only at hSw); go_simp; all_goals with_reducible rfl); (try simp only [Act.put, List.getElem_toArray, List.getElem_cons_zero, List.getElem_cons_succ, List.setIfInBounds_toArray, List.set_cons_zero, List.set_cons_succ]))
      (try simp only [Act.put, List.getElem_toArray, List.getElem_cons_zero, List.getElem_cons_succ, List.setIfInBounds_toArray, List.set_cons_zero, List.set_cons_succ])
      (refine wpAnyH_done (by kernel_rfl) ?_ _)
      clear hHeld a0 a1 y0 y1 b0 b1 z0 z1
      obtain ⟨⟨q0, q1⟩, e1, e2⟩ := HT5.out.fin0
      have e3 := HT5.out.rows0 HO5.out graphgate_ne
      have e4 := HT5.out.rows0 HP5.out graphint_ne
      generalize (w5.setCell _ _).setCell _ _ = W2 at q0 q1 e1 e2 e3 e4 ⊢
      go_wp2
      exact bodyPost_ret (v := .tuple #[.slice _ _ _, .agg #[.int .i64 n1, .slice _ _ _], .slice _ _ _]) (by simp [results, Try.results44, go_sem, q0, q1]) rfl (DrewTP.mk _ _ _ _ _ _ _ _ _ _ _ _ _ (by omega) hlen hll hlp e3 e1 e4 HHOK.out e2)
  · go_wp2_with fail
    refine (l1In_no _ _ _ _ (by omega)).mono ?_
    rintro e w' ⟨rfl, rfl⟩
    have HT4 := HT3
    have HO4 := HO3
    have hC4 := hC3
    clear HT3 HO3 hC3
    obtain ⟨⟨a0, a1⟩, y0, y1⟩ := blk2 HT4.out.2.1
    go_wp2
    refine wp_region_held_drew (S := fun W => W.cell? ⟨q, 0, none⟩ = some (.int .i64 N) ∧ W.cell? ⟨q, 1, none⟩ = some (.slice A l c)) (by kernel_rfl) ⟨HT4.out.2.2.1.cell 0, HT4.out.2.2.1.cell 1⟩ (fun hHeld => ?_)
    (refine wpAnyH_take (i := 0) (v := ?_) rfl (by kernel_rfl) (by kernel_rfl) (by kernel_rfl) (fun _ _ _ h => h) (Or.inl ⟨by rfl, ?_⟩) (by assumption) ?_; rotate_left; · (intro w hSw; (try dsimp only at hSw); go_simp; all_goals with_reducible rfl); (try simp only [Act.put, List.getElem_toArray, List.getElem_cons_zero, List.getElem_cons_succ, List.setIfInBounds_toArray, List.set_cons_zero, List.set_cons_succ]))
    (try simp only [Act.put, List.getElem_toArray, List.getElem_cons_zero, List.getElem_cons_succ, List.setIfInBounds_toArray, List.set_cons_zero, List.set_cons_succ])
    (refine wpAnyH_take (i := 1) (v := ?_) rfl (by kernel_rfl) (by kernel_rfl) (by kernel_rfl) (fun _ _ _ h => h) (Or.inl ⟨by rfl, ?_⟩) (by assumption) ?_; rotate_left; · (intro w hSw; (try dsimp only at hSw); go_simp; all_goals with_reducible rfl); (try simp only [Act.put, List.getElem_toArray, List.getElem_cons_zero, List.getElem_cons_succ, List.setIfInBounds_toArray, List.set_cons_zero, List.set_cons_succ]))
    (try simp only [Act.put, List.getElem_toArray, List.getElem_cons_zero, List.getElem_cons_succ, List.setIfInBounds_toArray, List.set_cons_zero, List.set_cons_succ])
    (refine wpAnyH_take (i := 2) (v := ?_) rfl (by kernel_rfl) (by kernel_rfl) (by kernel_rfl) (fun _ _ _ h => h) (Or.inl ⟨by rfl, ?_⟩) (by assumption) ?_; rotate_left; · (intro w hSw; (try dsimp only at hSw); go_simp; all_goals with_reducible rfl); (try simp only [Act.put, List.getElem_toArray, List.getElem_cons_zero, List.getElem_cons_succ, List.setIfInBounds_toArray, List.set_cons_zero, List.set_cons_succ]))
    (try simp only [Act.put, List.getElem_toArray, List.getElem_cons_zero, List.getElem_cons_succ, List.setIfInBounds_toArray, List.set_cons_zero, List.set_cons_succ])
    refine wpAnyH_ready (rs := [3]) (by kernel_rfl) (by simp) ?_
    refine AllReadyH.cons rfl (fun K hK => ?_) AllReadyH.nil
    go_simp
    refine (l8Bent_any g _ (hC4.ext (Ext.refl _).drew)).mono ?_
    rintro e w5 ⟨P, np, cp, ps, rfl, hlp, hop, hC5, hG5⟩
    have HT5 := Lib.hid ((HT4.out.ext (Ext.refl _).drew).grown (hC4.ext (Ext.refl _).drew) hG5 (by omega) (by omega) (by omega))
    have HO5 := Lib.hid (own_cur (own_ext HO4.out (Ext.refl _).drew) (hC4.ext (Ext.refl _).drew) curgate_ne hG5)
    have HP5 := Lib.hid (own_base hop (show w.heap.size ≤ _ from HT4.out.1.size))
    clear hop hG5 hC5
    refine hK.out _ _ ⟨HT5.out.2.2.1.cell 0, HT5.out.2.2.1.cell 1⟩ (fun hHeld => ?_)
    clear hK K
    (try simp only [Act.put, List.getElem_toArray, List.getElem_cons_zero, List.getElem_cons_succ, List.setIfInBounds_toArray, List.set_cons_zero, List.set_cons_succ])
    clear a0 a1 y0 y1 b0 b1 z0 z1
    obtain ⟨⟨b0, b1⟩, z0, z1⟩ := blk2 HT5.out.2.2.1
    obtain ⟨⟨a0, a1⟩, y0, y1⟩ := blk2 HT5.out.2.1
    (refine wpAnyH_take (i := 4) (v := ?_) rfl (by kernel_rfl) (by kernel_rfl) (by kernel_rfl) (fun _ _ _ h => h) (Or.inl ⟨by rfl, ?_⟩) (by assumption) ?_; rotate_left; · (intro w hSw; (try dsimp only at hSw); go_simp; all_goals with_reducible rfl); (try simp only [Act.put, List.getElem_toArray, List.getElem_cons_zero, List.getElem_cons_succ, List.setIfInBounds_toArray, List.set_cons_zero, List.set_cons_succ]))
    (try simp only [Act.put, List.getElem_toArray, List.getElem_cons_zero, List.getElem_cons_succ, List.setIfInBounds_toArray, List.set_cons_zero, List.set_cons_succ])
    refine wpAnyH_ready (rs := [5]) (by kernel_rfl) (by simp) ?_
    refine AllReadyH.cons rfl (fun K hK => ?_) AllReadyH.nil
    go_simp
    refine hK.out _ _ HT5.out.keep0 (fun hHeld => ?_)
    clear hK K
    (try simp only [Act.put, List.getElem_toArray, List.getElem_cons_zero, List.getElem_cons_succ, List.setIfInBounds_toArray, List.set_cons_zero, List.set_cons_succ])
    (refine wpAnyH_take (i := 6) (v := ?_) rfl (by kernel_rfl) (by kernel_rfl) (by kernel_rfl) (fun _ _ _ h => h) (Or.inl ⟨by rfl, ?_⟩) (by assumption) ?_; rotate_left; · (intro w hSw; (try dsimp only at hSw); go_simp; all_goals with_reducible rfl); (try simp only [Act.put, List.getElem_toArray, List.getElem_cons_zero, List.getElem_cons_succ, List.setIfInBounds_toArray, List.set_cons_zero, List.set_cons_succ]))
    (try simp only [Act.put, List.getElem_toArray, List.getElem_cons_zero, List.getElem_cons_succ, List.setIfInBounds_toArray, List.set_cons_zero, List.set_cons_succ])
    (refine wpAnyH_done (by kernel_rfl) ?_ _)
    clear hHeld a0 a1 y0 y1 b0 b1 z0 z1
    obtain ⟨⟨q0, q1⟩, e1, e2⟩ := HT5.out.fin0
    have e3 := HT5.out.rows0 HO5.out graphgate_ne
    have e4 := HT5.out.rows0 HP5.out graphint_ne
    generalize (w5.setCell _ _).setCell _ _ = W2 at q0 q1 e1 e2 e3 e4 ⊢
    go_wp2
    exact bodyPost_ret (v := .tuple #[.slice _ _ _, .agg #[.int .i64 N, .slice _ _ _], .slice _ _ _]) (by simp [results, Try.results44, go_sem, q0, q1]) rfl (DrewTP.mk _ _ _ _ _ _ _ _ _ _ _ _ _ (by omega) hlen hll hlp e3 e1 e4 HHOK.out e2)
end Go.Proofs.Ytfbalkbcglejjaa
/-
  Helper text (no claim of its own): drawn ops, graphs and layouts of the law on the routing of ops. Printed by gen_drawz.py.
-/
namespace Go.Proofs.Ytfbalkbcglejjaa
open Go.ChangeShapes Go.WideShapes Go.ChangeAt Go.RowKit Go.Deep
set_option linter.unusedVariables false
set_option linter.unusedSimpArgs false
theorem routop_ne : (57 : Nat) ≠ 45 := by decide
theorem graphop_ne : (27 : Nat) ≠ 45 := by decide
theorem curop_ne : (72 : Nat) ≠ 45 := by decide
theorem routedge_ne : (57 : Nat) ≠ 79 := by decide
/-- Two result cells at w's end, a routine in block s. -/
def OG (w W : World) (g s : Nat) (N I B : Int) (A : Option Addr) (len cap : Nat) (xs : List Oq) : Prop :=
  Blk W w.heap.size 57 #[.int .i64 0, .int .i64 0, .int .i64 0, .slice none 0 0] ∧ Blk W (w.heap.size + 1) 27 #[.int .i64 0, .slice none 0 0] ∧ Blk W s 57 #[.int .i64 N, .int .i64 I, .int .i64 B, .slice A len cap] ∧ W.ownsRow w.heap.size 45 8 (.slice A len cap) len (ocells xs) ∧ Cur W g ∧ w.grownBy W (some g)
section
variable {w W W' : World} {g s q : Nat} {N I B : Int} {A : Option Addr} {len cap : Nat} {xs : List Oq} {n : Int} {E : Option Addr} {l c : Nat} {es : List Ed}
theorem OG.cur (h : OG w W g s N I B A len cap xs) : Cur W g := h.2.2.2.2.1
theorem OG.lt (h : OG w W g s N I B A len cap xs) : s < W.heap.size ∧ w.heap.size + 1 < W.heap.size := ⟨h.2.2.1.lt, h.2.1.lt⟩
theorem OG.drew (h : OG w W g s N I B A len cap xs) : OG w W.drew g s N I B A len cap xs := by
  obtain ⟨h1, h2, h3, h4, h5, h6⟩ := h
  exact ⟨h1, h2, h3, own_ext h4 (Ext.refl W).drew, h5.ext (Ext.refl W).drew, gr_ext h6 (Ext.refl W).drew⟩
theorem OG.alloc (h : OG w W g s N I B A len cap xs) (o : Obj) : OG w (W.alloc o) g s N I B A len cap xs := by
  obtain ⟨h1, h2, h3, h4, h5, h6⟩ := h
  exact ⟨h1.alloc o, h2.alloc o, h3.alloc o, own_ext h4 ((Ext.refl W).alloc o), h5.alloc o, gr_alloc h6 o⟩
theorem OG.grown (h : OG w W g s N I B A len cap xs) (hg : W.grownBy W' (some g)) (hC : Cur W' g) (hs : g < s) (hl : g < w.heap.size) : OG w W' g s N I B A len cap xs := by
  obtain ⟨h1, h2, h3, h4, h5, h6⟩ := h
  exact ⟨h1.grown hg (fun k hk => by injection hk; omega), h2.grown hg (fun k hk => by injection hk; omega), h3.grown hg (fun k hk => by injection hk; omega), own_cur h4 h5 curop_ne hg, hC, gr_trans h6 hg⟩
/-- A graph's header is written, in a block of its own. -/
theorem OG.header {z0 z1 : Value} (h : OG w W g s N I B A len cap xs) (hq : Blk W q 27 #[z0, z1]) (a b : Value) (h1q : w.heap.size + 1 < q) (hsq : s ≠ q) (hl : g < w.heap.size) : OG w ((W.setCell ⟨q, 0, none⟩ a).setCell ⟨q, 1, none⟩ b) g s N I B A len cap xs := by
  obtain ⟨h1, h2, h3, h4, h5, h6⟩ := h
  exact ⟨(h1.far (p := ⟨q, 0, none⟩) (by simp; omega) _).far (p := ⟨q, 1, none⟩) (by simp; omega) _, (h2.far (p := ⟨q, 0, none⟩) (by simp; omega) _).far (p := ⟨q, 1, none⟩) (by simp; omega) _, (h3.far (p := ⟨q, 0, none⟩) hsq _).far (p := ⟨q, 1, none⟩) hsq _, own_setB2 h4 hq graphop_ne _ _, h5.set2 (by omega) _ _, gr_set2 h6 (by omega) _ _⟩
/-- With the graph's header in block q, and its edges. -/
def OQ (w W : World) (g s q : Nat) (N I B : Int) (A : Option Addr) (len cap : Nat) (xs : List Oq) (n : Int) (E : Option Addr) (l c : Nat) (es : List Ed) : Prop :=
  OG w W g s N I B A len cap xs ∧ Blk W q 27 #[.int .i64 n, .slice E l c] ∧ W.ownsRow w.heap.size 79 2 (.slice E l c) l (ecells es) ∧ (∀ e ∈ es, e.ok) ∧ w.heap.size + 1 < q ∧ w.heap.size + 1 < s
/-- The world behind the writing of the two result cells. -/
def ogW (w W : World) (N I B : Int) (A : Option Addr) (len cap : Nat) (n : Int) (E : Option Addr) (l c : Nat) : World :=
  ((((((W.setCell ⟨w.heap.size, 0, none⟩ (.int .i64 N)).setCell ⟨w.heap.size, 1, none⟩ (.int .i64 I)).setCell ⟨w.heap.size, 2, none⟩ (.int .i64 B)).setCell ⟨w.heap.size, 3, none⟩ (.slice A len cap)).setCell ⟨w.heap.size + 1, 0, none⟩ (.int .i64 n)).setCell ⟨w.heap.size + 1, 1, none⟩ (.slice E l c))
theorem own_setR4 {w : World} {r T : Nat} {z0 z1 z2 z3 : Value} {B e size n : Nat} {v : Value} {xs : List Value} (ho : w.ownsRow B e size v n xs) (h : Blk w r T #[z0, z1, z2, z3]) (hne : T ≠ e) (a b c d : Value) : ((((w.setCell ⟨r, 0, none⟩ a).setCell ⟨r, 1, none⟩ b).setCell ⟨r, 2, none⟩ c).setCell ⟨r, 3, none⟩ d).ownsRow B e size v n xs :=
  own_setB (own_setB (own_setB (own_setB ho h hne a) (h.set_ 0 a) hne b) ((h.set_ 0 a).set_ 1 b) hne c) (((h.set_ 0 a).set_ 1 b).set_ 2 c) hne d
theorem far4 {w : World} {r q T : Nat} {cs : Array Value} (h : Blk w q T cs) (hne : q ≠ r) (a b c d : Value) : Blk ((((w.setCell ⟨r, 0, none⟩ a).setCell ⟨r, 1, none⟩ b).setCell ⟨r, 2, none⟩ c).setCell ⟨r, 3, none⟩ d) q T cs :=
  (((h.far (p := ⟨r, 0, none⟩) hne a).far (p := ⟨r, 1, none⟩) hne b).far (p := ⟨r, 2, none⟩) hne c).far (p := ⟨r, 3, none⟩) hne d
theorem OQ.fin (h : OQ w W g s q N I B A len cap xs n E l c es) (hl : g < w.heap.size) :
    Blk (ogW w W N I B A len cap n E l c) w.heap.size 57 #[.int .i64 N, .int .i64 I, .int .i64 B, .slice A len cap] ∧ Blk (ogW w W N I B A len cap n E l c) (w.heap.size + 1) 27 #[.int .i64 n, .slice E l c] ∧ (ogW w W N I B A len cap n E l c).ownsRow w.heap.size 45 8 (.slice A len cap) len (ocells xs) ∧ (ogW w W N I B A len cap n E l c).ownsRow w.heap.size 79 2 (.slice E l c) l (ecells es) ∧ Cur (ogW w W N I B A len cap n E l c) g ∧ w.grownBy (ogW w W N I B A len cap n E l c) (some g) := by
  obtain ⟨⟨h1, h2, h3, h4, h5, h6⟩, k1, k2, k3, k4, k5⟩ := h
  unfold ogW
  have b1 := h1.set4 (.int .i64 N) (.int .i64 I) (.int .i64 B) (.slice A len cap)
  have b2 := far4 h2 (by omega : w.heap.size + 1 ≠ w.heap.size) (.int .i64 N) (.int .i64 I) (.int .i64 B) (.slice A len cap)
  refine ⟨(b1.far (p := ⟨w.heap.size + 1, 0, none⟩) (by simp) _).far (p := ⟨w.heap.size + 1, 1, none⟩) (by simp) _, b2.set2 _ _, own_setB2 (own_setR4 h4 h1 routop_ne _ _ _ _) b2 graphop_ne _ _, own_setB2 (own_setR4 k2 h1 routedge_ne _ _ _ _) b2 graphedge_ne _ _, (h5.set4 hl _ _ _ _).set2 (by omega) _ _, gr_set2 (gr_set4 h6 (Nat.le_refl _) _ _ _ _) (by omega) _ _⟩
end
/-- What a draw of a routine and a graph hands back. -/
def DrewOG (w : World) (g most : Nat) (e : Ending) (w' : World) : Prop :=
  ∃ (N I B : Int) (A : Option Addr) (len cap : Nat) (xs : List Oq) (n : Nat) (E : Option Addr) (l c : Nat) (es : List Ed), e = .returned (.tuple #[.agg #[.int .i64 N, .int .i64 I, .int .i64 B, .slice A len cap], .agg #[.int .i64 n, .slice E l c]]) ∧ (1 ≤ n ∧ n ≤ 4) ∧ len ≤ most ∧ l ≤ 7 ∧ w'.ownsRow w.heap.size 45 8 (.slice A len cap) len (ocells xs) ∧ w'.ownsRow w.heap.size 79 2 (.slice E l c) l (ecells es) ∧ Cur w' g ∧ w.grownBy w' (some g) ∧ ∀ e ∈ es, e.ok
theorem DrewOG.mk {w w' : World} {g most : Nat} (N I B : Int) (A : Option Addr) (len cap : Nat) (xs : List Oq) (n : Nat) (E : Option Addr) (l c : Nat) (es : List Ed) (h1 : 1 ≤ n ∧ n ≤ 4) (h2 : len ≤ most) (h3 : l ≤ 7) (h4 : w'.ownsRow w.heap.size 45 8 (.slice A len cap) len (ocells xs)) (h5 : w'.ownsRow w.heap.size 79 2 (.slice E l c) l (ecells es)) (h6 : Cur w' g) (h7 : w.grownBy w' (some g)) (h8 : ∀ e ∈ es, e.ok) : DrewOG w g most (.returned (.tuple #[.agg #[.int .i64 N, .int .i64 I, .int .i64 B, .slice A len cap], .agg #[.int .i64 n, .slice E l c]])) w' :=
  ⟨N, I, B, A, len, cap, xs, n, E, l, c, es, rfl, h1, h2, h3, h4, h5, h6, h7, h8⟩
set_option maxRecDepth 100000 in
set_option maxHeartbeats 16000000 in
theorem l42Ops_any (g most : Nat) (hm : most ≤ 200) (w : World) (h : Cur w g) :
    Calls Try.prog 31 #[.pointer (some ⟨g, 0, none⟩), .int .i64 most] w (DrewOG w g most) := by
  have hgl := h.lt
  go_enter Try.func31, Try.ntmps31
  go_wp2_with fail
  refine (l21Right3_any g most hm _ ((h.alloc _).alloc _)).mono ?_
  rintro e w2 ⟨N, I, B, A, len, cap, xs, rfl, hN, hlen, ho2, hC2, hG2⟩
  obtain ⟨hN1, hN3, -⟩ := hN
  obtain ⟨n0, rfl⟩ := Int.eq_ofNat_of_zero_le (by omega : 0 ≤ N)
  have hR := ((Blk.new w 57 #[.int .i64 0, .int .i64 0, .int .i64 0, .slice none 0 0]).alloc (.cells #[.int .i64 0, .slice none 0 0] 27)).grown hG2 (fun k hk => by injection hk; omega)
  have hQ := (Blk.newAt (w := w.alloc (.cells #[.int .i64 0, .int .i64 0, .int .i64 0, .slice none 0 0] 57)) (t := 27) (cs := #[.int .i64 0, .slice none 0 0]) (b := w.heap.size + 1) (by simp)).grown hG2 (fun k hk => by injection hk; omega)
  have hg2 : w.grownBy w2 (some g) := gr_trans ((((Ext.refl w).alloc _).alloc _).gr _) hG2
  have ho2' := own_base ho2 (show w.heap.size ≤ ((w.alloc (.cells #[.int .i64 0, .int .i64 0, .int .i64 0, .slice none 0 0] 57)).alloc (.cells #[.int .i64 0, .slice none 0 0] 27)).heap.size from by simp; omega)
  have hl2 := hQ.lt
  have hO : OG w (w2.alloc (.cells #[.int .i64 n0, .int .i64 I, .int .i64 B, .slice A len cap] 57)) g w2.heap.size n0 I B A len cap xs :=
    ⟨hR.alloc _, hQ.alloc _, Blk.new _ _ _, own_ext ho2' ((Ext.refl w2).alloc _), hC2.alloc _, gr_alloc hg2 _⟩
  clear hR hQ hg2 ho2' ho2 hC2 hG2
  go_upto_region 2 with (fail)
  generalize (w2.alloc (.cells #[.int .i64 n0, .int .i64 I, .int .i64 B, .slice A len cap] 57)) = w3 at *
  generalize w2.heap.size = s at *
  have HO := Lib.hid hO
  have hs3 := hO.lt.1
  have hw3 := hO.lt.2
  have hgs : g < s := by omega
  clear hO
  refine wp_region_held_drew (S := fun W => W.cell? ⟨s, 0, none⟩ = some (.int .i64 n0)) (by kernel_rfl) (HO.out.2.2.1.cell 0) (fun hHeld => ?_)
  (refine wpAnyH_take (i := 0) (v := ?_) rfl (by kernel_rfl) (by kernel_rfl) (by kernel_rfl) (fun _ _ _ h => h) (Or.inl ⟨by rfl, ?_⟩) (by assumption) ?_; rotate_left; · (intro w hSw; (try dsimp only at hSw); go_simp; all_goals with_reducible rfl); (try simp only [Act.put, List.getElem_toArray, List.getElem_cons_zero, List.getElem_cons_succ, List.setIfInBounds_toArray, List.set_cons_zero, List.set_cons_succ]))
  (try simp only [Act.put, List.getElem_toArray, List.getElem_cons_zero, List.getElem_cons_succ, List.setIfInBounds_toArray, List.set_cons_zero, List.set_cons_succ])
  (refine wpAnyH_take (i := 1) (v := ?_) rfl (by kernel_rfl) (by kernel_rfl) (by kernel_rfl) (fun _ _ _ h => h) (Or.inl ⟨by rfl, ?_⟩) (by assumption) ?_; rotate_left; · (intro w hSw; (try dsimp only at hSw); go_simp; all_goals with_reducible rfl); (try simp only [Act.put, List.getElem_toArray, List.getElem_cons_zero, List.getElem_cons_succ, List.setIfInBounds_toArray, List.set_cons_zero, List.set_cons_succ]))
  (try simp only [Act.put, List.getElem_toArray, List.getElem_cons_zero, List.getElem_cons_succ, List.setIfInBounds_toArray, List.set_cons_zero, List.set_cons_succ])
  (refine wpAnyH_take (i := 2) (v := ?_) rfl (by kernel_rfl) (by kernel_rfl) (by kernel_rfl) (fun _ _ _ h => h) (Or.inl ⟨by rfl, ?_⟩) (by assumption) ?_; rotate_left; · (intro w hSw; (try dsimp only at hSw); go_simp; all_goals with_reducible rfl); (try simp only [Act.put, List.getElem_toArray, List.getElem_cons_zero, List.getElem_cons_succ, List.setIfInBounds_toArray, List.set_cons_zero, List.set_cons_succ]))
  (try simp only [Act.put, List.getElem_toArray, List.getElem_cons_zero, List.getElem_cons_succ, List.setIfInBounds_toArray, List.set_cons_zero, List.set_cons_succ])
  (refine wpAnyH_take (i := 3) (v := ?_) rfl (by kernel_rfl) (by kernel_rfl) (by kernel_rfl) (fun _ _ _ h => h) (Or.inl ⟨by rfl, ?_⟩) (by assumption) ?_; rotate_left; · (intro w hSw; (try dsimp only at hSw); go_simp; all_goals with_reducible rfl); (try simp only [Act.put, List.getElem_toArray, List.getElem_cons_zero, List.getElem_cons_succ, List.setIfInBounds_toArray, List.set_cons_zero, List.set_cons_succ]))
  (try simp only [Act.put, List.getElem_toArray, List.getElem_cons_zero, List.getElem_cons_succ, List.setIfInBounds_toArray, List.set_cons_zero, List.set_cons_succ])
  (refine wpAnyH_take (i := 4) (v := ?_) rfl (by kernel_rfl) (by kernel_rfl) (by kernel_rfl) (fun _ _ _ h => h) (Or.inl ⟨by rfl, ?_⟩) (by assumption) ?_; rotate_left; · (intro w hSw; (try dsimp only at hSw); go_simp; all_goals with_reducible rfl); (try simp only [Act.put, List.getElem_toArray, List.getElem_cons_zero, List.getElem_cons_succ, List.setIfInBounds_toArray, List.set_cons_zero, List.set_cons_succ]))
  (try simp only [Act.put, List.getElem_toArray, List.getElem_cons_zero, List.getElem_cons_succ, List.setIfInBounds_toArray, List.set_cons_zero, List.set_cons_succ])
  (refine wpAnyH_take (i := 5) (v := ?_) rfl (by kernel_rfl) (by kernel_rfl) (by kernel_rfl) (fun _ _ _ h => h) (Or.inl ⟨by rfl, ?_⟩) (by assumption) ?_; rotate_left; · (intro w hSw; (try dsimp only at hSw); go_simp; all_goals with_reducible rfl); (try simp only [Act.put, List.getElem_toArray, List.getElem_cons_zero, List.getElem_cons_succ, List.setIfInBounds_toArray, List.set_cons_zero, List.set_cons_succ]))
  (try simp only [Act.put, List.getElem_toArray, List.getElem_cons_zero, List.getElem_cons_succ, List.setIfInBounds_toArray, List.set_cons_zero, List.set_cons_succ])
  (refine wpAnyH_take (i := 6) (v := .int .i64 (5 - (n0 : Int))) rfl (by kernel_rfl) (by kernel_rfl) (by kernel_rfl) (fun _ _ _ h => h) (Or.inl ⟨by rfl, ?_⟩) (by assumption) ?_; · (intro w hSw; (try dsimp only at hSw); go_simp; first | done | exact IntWalk.i64_in _ (by omega)))
  (try simp only [Act.put, List.getElem_toArray, List.getElem_cons_zero, List.getElem_cons_succ, List.setIfInBounds_toArray, List.set_cons_zero, List.set_cons_succ])
  have HOd := Lib.hid HO.out.drew
  refine wpAnyH_ready (rs := [7, 10]) (by kernel_rfl) (by simp) ?_
  refine AllReadyH.cons rfl (fun K hK => ?xA) (AllReadyH.cons rfl (fun K hK => ?xB) AllReadyH.nil)
  case' xA =>
    go_simp
    refine (l1Below_any g (5 - (n0 : Int)) _ HOd.out.cur (by omega)).mono ?_
    rintro e w4 ⟨x, rfl, ⟨hx0, hx1, _⟩, hC4, hG4⟩
    have hx2 := hx1 (by omega)
    clear hx1
    have HO4 := Lib.hid (HOd.out.grown hG4 hC4 hgs hgl)
    refine hK.out _ _ (HO4.out.2.2.1.cell 0) (fun hHeld => ?_)
    clear hK K hHeld
    have hHeld := HO4.out.2.2.1.cell 0
    (try simp only [List.getElem?_toArray, List.getElem?_cons_zero] at hHeld)
    (try simp only [Act.put, List.getElem_toArray, List.getElem_cons_zero, List.getElem_cons_succ, List.setIfInBounds_toArray, List.set_cons_zero, List.set_cons_succ])
    obtain ⟨n, hn, hnb1, hnb4⟩ : ∃ n : Nat, (n0 : Int) + x = (n : Int) ∧ 1 ≤ n ∧ n ≤ 4 := by
      obtain ⟨x', rfl⟩ := Int.eq_ofNat_of_zero_le hx0
      exact ⟨n0 + x', by omega, by omega, by omega⟩
    have HN := Lib.hid hn
    clear hn
    (refine wpAnyH_take (i := 8) (v := .int .i64 (n : Int)) rfl (by kernel_rfl) (by kernel_rfl) (by kernel_rfl) (fun _ _ _ h => h) (Or.inl ⟨by rfl, ?_⟩) (by assumption) ?_; · (intro w hSw; (try dsimp only at hSw); go_simp; first | done | (rw [HN.out]; exact IntWalk.i64_in _ (by omega))))
    (try simp only [Act.put, List.getElem_toArray, List.getElem_cons_zero, List.getElem_cons_succ, List.setIfInBounds_toArray, List.set_cons_zero, List.set_cons_succ])
    refine wpAnyH_ready (rs := [9, 10]) (by kernel_rfl) (by simp) ?_
    refine AllReadyH.cons rfl (fun K hK => ?xA1) (AllReadyH.cons rfl (fun K hK => ?xA2) AllReadyH.nil)
  case' xA1 =>
    go_simp
    refine (l36Right_any g n ⟨by omega, by omega⟩ _ HO4.out.cur).mono ?_
    rintro e w5 ⟨_, E, l, c, es, rfl, rfl, hll, ho5, hC5, hG5, hok5⟩
    have HO5 := Lib.hid (HO4.out.grown hG5 hC5 hgs hgl)
    have HE5 := Lib.hid (own_base ho5 (show w.heap.size ≤ _ from gr_size HO4.out.2.2.2.2.2))
    have HK5 := Lib.hid hok5
    clear ho5 hok5
    refine hK.out _ _ (HO5.out.2.2.1.cell 0) (fun hHeld => ?_)
    clear hK K hHeld
    have hHeld := HO5.out.2.2.1.cell 0
    (try simp only [List.getElem?_toArray, List.getElem?_cons_zero] at hHeld)
    (try simp only [Act.put, List.getElem_toArray, List.getElem_cons_zero, List.getElem_cons_succ, List.setIfInBounds_toArray, List.set_cons_zero, List.set_cons_succ])
    refine wpAnyH_ready (rs := [10]) (by kernel_rfl) (by simp) ?_
    refine AllReadyH.cons rfl (fun K hK => ?_) AllReadyH.nil
    go_simp
    have HO6 := Lib.hid (HO5.out.alloc (.cells #[.int .i64 0, .slice none 0 0] 27))
    refine hK.out _ _ (HO6.out.2.2.1.cell 0) (fun hHeld => ?_)
    clear hK K hHeld
    have hHeld := HO6.out.2.2.1.cell 0
    (try simp only [List.getElem?_toArray, List.getElem?_cons_zero] at hHeld)
    (try simp only [Act.put, List.getElem_toArray, List.getElem_cons_zero, List.getElem_cons_succ, List.setIfInBounds_toArray, List.set_cons_zero, List.set_cons_succ])
    refine wpAnyH_ready (rs := [11]) (by kernel_rfl) (by simp) ?_
    refine AllReadyH.cons rfl (fun K hK => ?_) AllReadyH.nil
    go_simp
    have HO7 := Lib.hid (HO5.out.alloc (.cells #[.int .i64 n, .slice E l c] 27))
    refine hK.out _ _ (HO7.out.2.2.1.cell 0) (fun hHeld => ?_)
    clear hK K hHeld
    have hHeld := HO7.out.2.2.1.cell 0
    (try simp only [List.getElem?_toArray, List.getElem?_cons_zero] at hHeld)
    (try simp only [Act.put, List.getElem_toArray, List.getElem_cons_zero, List.getElem_cons_succ, List.setIfInBounds_toArray, List.set_cons_zero, List.set_cons_succ])
    (refine wpAnyH_done (by kernel_rfl) ?_ _)
    have HQ := Lib.hid (show OQ w _ g s w5.heap.size n0 I B A len cap xs n E l c es from ⟨HO7.out, Blk.new _ _ _, own_ext HE5.out ((Ext.refl w5).alloc _), HK5.out, HO5.out.lt.2, by omega⟩)
    clear HO4 HO5 HO6 HO7 HE5 hG5 hG4 hC4 hC5 hHeld
    generalize w5.alloc _ = W at HQ ⊢
    generalize w5.heap.size = q at HQ ⊢
  case' xA2 =>
    have hw4 := HO4.out.lt
    go_simp
    have HO4' := Lib.hid (HO4.out.alloc (.cells #[.int .i64 0, .slice none 0 0] 27))
    have hZ4 := Blk.new w4 27 #[.int .i64 0, .slice none 0 0]
    refine hK.out _ _ (HO4'.out.2.2.1.cell 0) (fun hHeld => ?_)
    clear hK K hHeld
    have hHeld := HO4'.out.2.2.1.cell 0
    (try simp only [List.getElem?_toArray, List.getElem?_cons_zero] at hHeld)
    (try simp only [Act.put, List.getElem_toArray, List.getElem_cons_zero, List.getElem_cons_succ, List.setIfInBounds_toArray, List.set_cons_zero, List.set_cons_succ])
    refine wpAnyH_ready (rs := [9]) (by kernel_rfl) (by simp) ?_
    refine AllReadyH.cons rfl (fun K hK => ?_) AllReadyH.nil
    go_simp
    refine (l36Right_any g n ⟨by omega, by omega⟩ _ HO4'.out.cur).mono ?_
    rintro e w5 ⟨_, E, l, c, es, rfl, rfl, hll, ho5, hC5, hG5, hok5⟩
    have HO5 := Lib.hid (HO4'.out.grown hG5 hC5 hgs hgl)
    have HE5 := Lib.hid (own_base ho5 (show w.heap.size ≤ _ from gr_size HO4'.out.2.2.2.2.2))
    have HK5 := Lib.hid hok5
    clear ho5 hok5
    have HZ5 := Lib.hid (hZ4.grown hG5 (fun k hk => by injection hk; omega))
    clear hZ4
    refine hK.out _ _ (HO5.out.2.2.1.cell 0) (fun hHeld => ?_)
    clear hK K hHeld
    have hHeld := HO5.out.2.2.1.cell 0
    (try simp only [List.getElem?_toArray, List.getElem?_cons_zero] at hHeld)
    (try simp only [Act.put, List.getElem_toArray, List.getElem_cons_zero, List.getElem_cons_succ, List.setIfInBounds_toArray, List.set_cons_zero, List.set_cons_succ])
    have hz5 := HZ5.out
    have hc0 : w5.cell? ⟨w4.heap.size, 0, none⟩ = some (.int .i64 0) := hz5.cell 0
    have hc1 : ∀ u, (w5.setCell ⟨w4.heap.size, 0, none⟩ u).cell? ⟨w4.heap.size, 1, none⟩ = some (.slice none 0 0) := fun u => (hz5.set_ 0 u).cell 1
    have hf0 : w5.frozen? ⟨w4.heap.size, 0, none⟩ = false := hz5.frozen 0
    have hf1 : ∀ u, (w5.setCell ⟨w4.heap.size, 0, none⟩ u).frozen? ⟨w4.heap.size, 1, none⟩ = false := fun u => (hz5.set_ 0 u).frozen 1
    clear hz5
    refine wpAnyH_ready (rs := [11]) (by kernel_rfl) (by simp) ?_
    refine AllReadyH.cons rfl (fun K hK => ?_) AllReadyH.nil
    go_simp
    have HO7 := Lib.hid (HO5.out.header HZ5.out (.int .i64 n) (.slice E l c) (by omega) (by omega) hgl)
    refine hK.out _ _ (HO7.out.2.2.1.cell 0) (fun hHeld => ?_)
    clear hK K hHeld
    have hHeld := HO7.out.2.2.1.cell 0
    (try simp only [List.getElem?_toArray, List.getElem?_cons_zero] at hHeld)
    (try simp only [Act.put, List.getElem_toArray, List.getElem_cons_zero, List.getElem_cons_succ, List.setIfInBounds_toArray, List.set_cons_zero, List.set_cons_succ])
    (refine wpAnyH_done (by kernel_rfl) ?_ _)
    have HQ := Lib.hid (show OQ w _ g s w4.heap.size n0 I B A len cap xs n E l c es from ⟨HO7.out, HZ5.out.set2 _ _, own_setB2 HE5.out HZ5.out graphedge_ne _ _, HK5.out, by omega, by omega⟩)
    clear hc0 hc1 hf0 hf1 HO5 HO7 HE5 HZ5 hG5 hG4 hC4 hC5 hHeld
    generalize (w5.setCell _ _).setCell _ _ = W at HQ ⊢
    generalize hqq : w4.heap.size = q at HQ ⊢
    clear hqq
  case' xB =>
    go_simp
    have HO3' := Lib.hid ((HO.out.alloc (.cells #[.int .i64 0, .slice none 0 0] 27)).drew)
    have hZ3 := (Blk.new w3 27 #[.int .i64 0, .slice none 0 0]).drew
    refine hK.out _ _ (HO3'.out.2.2.1.cell 0) (fun hHeld => ?_)
    clear hK K hHeld
    have hHeld := HO3'.out.2.2.1.cell 0
    (try simp only [List.getElem?_toArray, List.getElem?_cons_zero] at hHeld)
    (try simp only [Act.put, List.getElem_toArray, List.getElem_cons_zero, List.getElem_cons_succ, List.setIfInBounds_toArray, List.set_cons_zero, List.set_cons_succ])
    refine wpAnyH_ready (rs := [7]) (by kernel_rfl) (by simp) ?_
    refine AllReadyH.cons rfl (fun K hK => ?_) AllReadyH.nil
    go_simp
    refine (l1Below_any g (5 - (n0 : Int)) _ HO3'.out.cur (by omega)).mono ?_
    rintro e w4 ⟨x, rfl, ⟨hx0, hx1, _⟩, hC4, hG4⟩
    have hx2 := hx1 (by omega)
    clear hx1
    have HO4 := Lib.hid (HO3'.out.grown hG4 hC4 hgs hgl)
    have hZ4 := hZ3.grown hG4 (fun k hk => by injection hk; omega)
    clear hZ3
    refine hK.out _ _ (HO4.out.2.2.1.cell 0) (fun hHeld => ?_)
    clear hK K hHeld
    have hHeld := HO4.out.2.2.1.cell 0
    (try simp only [List.getElem?_toArray, List.getElem?_cons_zero] at hHeld)
    (try simp only [Act.put, List.getElem_toArray, List.getElem_cons_zero, List.getElem_cons_succ, List.setIfInBounds_toArray, List.set_cons_zero, List.set_cons_succ])
    obtain ⟨n, hn, hnb1, hnb4⟩ : ∃ n : Nat, (n0 : Int) + x = (n : Int) ∧ 1 ≤ n ∧ n ≤ 4 := by
      obtain ⟨x', rfl⟩ := Int.eq_ofNat_of_zero_le hx0
      exact ⟨n0 + x', by omega, by omega, by omega⟩
    have HN := Lib.hid hn
    clear hn
    (refine wpAnyH_take (i := 8) (v := .int .i64 (n : Int)) rfl (by kernel_rfl) (by kernel_rfl) (by kernel_rfl) (fun _ _ _ h => h) (Or.inl ⟨by rfl, ?_⟩) (by assumption) ?_; · (intro w hSw; (try dsimp only at hSw); go_simp; first | done | (rw [HN.out]; exact IntWalk.i64_in _ (by omega))))
    (try simp only [Act.put, List.getElem_toArray, List.getElem_cons_zero, List.getElem_cons_succ, List.setIfInBounds_toArray, List.set_cons_zero, List.set_cons_succ])
    refine wpAnyH_ready (rs := [9]) (by kernel_rfl) (by simp) ?_
    refine AllReadyH.cons rfl (fun K hK => ?_) AllReadyH.nil
    go_simp
    refine (l36Right_any g n ⟨by omega, by omega⟩ _ HO4.out.cur).mono ?_
    rintro e w5 ⟨_, E, l, c, es, rfl, rfl, hll, ho5, hC5, hG5, hok5⟩
    have HO5 := Lib.hid (HO4.out.grown hG5 hC5 hgs hgl)
    have HE5 := Lib.hid (own_base ho5 (show w.heap.size ≤ _ from gr_size HO4.out.2.2.2.2.2))
    have HK5 := Lib.hid hok5
    clear ho5 hok5
    have HZ5 := Lib.hid (hZ4.grown hG5 (fun k hk => by injection hk; omega))
    clear hZ4
    refine hK.out _ _ (HO5.out.2.2.1.cell 0) (fun hHeld => ?_)
    clear hK K hHeld
    have hHeld := HO5.out.2.2.1.cell 0
    (try simp only [List.getElem?_toArray, List.getElem?_cons_zero] at hHeld)
    (try simp only [Act.put, List.getElem_toArray, List.getElem_cons_zero, List.getElem_cons_succ, List.setIfInBounds_toArray, List.set_cons_zero, List.set_cons_succ])
    have hz5 := HZ5.out
    have hc0 : w5.cell? ⟨w3.heap.size, 0, none⟩ = some (.int .i64 0) := hz5.cell 0
    have hc1 : ∀ u, (w5.setCell ⟨w3.heap.size, 0, none⟩ u).cell? ⟨w3.heap.size, 1, none⟩ = some (.slice none 0 0) := fun u => (hz5.set_ 0 u).cell 1
    have hf0 : w5.frozen? ⟨w3.heap.size, 0, none⟩ = false := hz5.frozen 0
    have hf1 : ∀ u, (w5.setCell ⟨w3.heap.size, 0, none⟩ u).frozen? ⟨w3.heap.size, 1, none⟩ = false := fun u => (hz5.set_ 0 u).frozen 1
    clear hz5
    refine wpAnyH_ready (rs := [11]) (by kernel_rfl) (by simp) ?_
    refine AllReadyH.cons rfl (fun K hK => ?_) AllReadyH.nil
    go_simp
    have HO7 := Lib.hid (HO5.out.header HZ5.out (.int .i64 n) (.slice E l c) (by omega) (by omega) hgl)
    refine hK.out _ _ (HO7.out.2.2.1.cell 0) (fun hHeld => ?_)
    clear hK K hHeld
    have hHeld := HO7.out.2.2.1.cell 0
    (try simp only [List.getElem?_toArray, List.getElem?_cons_zero] at hHeld)
    (try simp only [Act.put, List.getElem_toArray, List.getElem_cons_zero, List.getElem_cons_succ, List.setIfInBounds_toArray, List.set_cons_zero, List.set_cons_succ])
    (refine wpAnyH_done (by kernel_rfl) ?_ _)
    have HQ := Lib.hid (show OQ w _ g s w3.heap.size n0 I B A len cap xs n E l c es from ⟨HO7.out, HZ5.out.set2 _ _, own_setB2 HE5.out HZ5.out graphedge_ne _ _, HK5.out, by omega, by omega⟩)
    clear hc0 hc1 hf0 hf1 HO5 HO7 HE5 HZ5 hG5 hG4 hC4 hC5 hHeld
    generalize (w5.setCell _ _).setCell _ _ = W at HQ ⊢
    generalize hqq : w3.heap.size = q at HQ ⊢
    clear hqq
  all_goals
    have hB4 := HQ.out.1.1
    have hB5 := HQ.out.1.2.1
    have hBs := HQ.out.1.2.2.1
    have hBq := HQ.out.2.1
    have hlw := HQ.out.1.lt.2
    obtain ⟨⟨a0, a1, a2, a3⟩, y0, y1, y2, y3⟩ := blk4 hB4
    obtain ⟨⟨b0, b1⟩, z0, z1⟩ := blk2 hB5
    obtain ⟨⟨c0, c1, c2, c3⟩, x0, x1, x2, x3⟩ := blk4 hBs
    obtain ⟨⟨d0, d1⟩, v0, v1⟩ := blk2 hBq
    clear hB4 hB5 hBs hBq
    have hS : ∀ W', Blk W' s 57 #[.int .i64 n0, .int .i64 I, .int .i64 B, .slice A len cap] → Blk W' q 27 #[.int .i64 n, .slice E l c] → (W'.cell? ⟨s, 0, none⟩ = some (.int .i64 n0) ∧ W'.cell? ⟨s, 1, none⟩ = some (.int .i64 I) ∧ W'.cell? ⟨s, 2, none⟩ = some (.int .i64 B) ∧ W'.cell? ⟨s, 3, none⟩ = some (.slice A len cap)) ∧ W'.cell? ⟨q, 0, none⟩ = some (.int .i64 n) ∧ W'.cell? ⟨q, 1, none⟩ = some (.slice E l c) := fun W' h1 h2 => ⟨⟨h1.cell 0, h1.cell 1, h1.cell 2, h1.cell 3⟩, h2.cell 0, h2.cell 1⟩
    have HS := Lib.hid hS
    clear hS
    go_wp2
    refine wp_region_held_drew (S := fun W' => (W'.cell? ⟨s, 0, none⟩ = some (.int .i64 n0) ∧ W'.cell? ⟨s, 1, none⟩ = some (.int .i64 I) ∧ W'.cell? ⟨s, 2, none⟩ = some (.int .i64 B) ∧ W'.cell? ⟨s, 3, none⟩ = some (.slice A len cap)) ∧ W'.cell? ⟨q, 0, none⟩ = some (.int .i64 n) ∧ W'.cell? ⟨q, 1, none⟩ = some (.slice E l c)) (by kernel_rfl) (HS.out _ HQ.out.1.2.2.1.drew HQ.out.2.1.drew) (fun hHeld => ?_)
    (refine wpAnyH_take (i := 0) (v := ?_) rfl (by kernel_rfl) (by kernel_rfl) (by kernel_rfl) (fun _ _ _ h => h) (Or.inl ⟨by rfl, ?_⟩) (by assumption) ?_; rotate_left; · (intro w hSw; (try dsimp only at hSw); go_simp; all_goals with_reducible rfl); (try simp only [Act.put, List.getElem_toArray, List.getElem_cons_zero, List.getElem_cons_succ, List.setIfInBounds_toArray, List.set_cons_zero, List.set_cons_succ]))
    (try simp only [Act.put, List.getElem_toArray, List.getElem_cons_zero, List.getElem_cons_succ, List.setIfInBounds_toArray, List.set_cons_zero, List.set_cons_succ])
    (refine wpAnyH_take (i := 1) (v := ?_) rfl (by kernel_rfl) (by kernel_rfl) (by kernel_rfl) (fun _ _ _ h => h) (Or.inl ⟨by rfl, ?_⟩) (by assumption) ?_; rotate_left; · (intro w hSw; (try dsimp only at hSw); go_simp; all_goals with_reducible rfl); (try simp only [Act.put, List.getElem_toArray, List.getElem_cons_zero, List.getElem_cons_succ, List.setIfInBounds_toArray, List.set_cons_zero, List.set_cons_succ]))
    (try simp only [Act.put, List.getElem_toArray, List.getElem_cons_zero, List.getElem_cons_succ, List.setIfInBounds_toArray, List.set_cons_zero, List.set_cons_succ])
    refine wpAnyH_ready (rs := [2]) (by kernel_rfl) (by simp) ?_
    refine AllReadyH.cons rfl (fun K hK => ?_) AllReadyH.nil
    go_simp
    have hs4 := far4 HQ.out.1.2.2.1 (show s ≠ w.heap.size by have := HQ.out.2.2.2.2.2; omega) (.int .i64 n0) (.int .i64 I) (.int .i64 B) (.slice A len cap)
    have hq4 := far4 HQ.out.2.1 (show q ≠ w.heap.size by have := HQ.out.2.2.2.2.1; omega) (.int .i64 n0) (.int .i64 I) (.int .i64 B) (.slice A len cap)
    refine hK.out _ _ (HS.out _ hs4.drew hq4.drew) (fun hHeld => ?_)
    clear hK K
    (try simp only [Act.put, List.getElem_toArray, List.getElem_cons_zero, List.getElem_cons_succ, List.setIfInBounds_toArray, List.set_cons_zero, List.set_cons_succ])
    have hb4 := far4 HQ.out.1.2.1 (show w.heap.size + 1 ≠ w.heap.size by omega) (.int .i64 n0) (.int .i64 I) (.int .i64 B) (.slice A len cap)
    have hs5 := (hs4.far (p := ⟨w.heap.size + 1, 0, none⟩) (show s ≠ w.heap.size + 1 by have := HQ.out.2.2.2.2.2; omega) (.int .i64 n)).far (p := ⟨w.heap.size + 1, 1, none⟩) (show s ≠ w.heap.size + 1 by have := HQ.out.2.2.2.2.2; omega) (.slice E l c)
    have hq5 := (hq4.far (p := ⟨w.heap.size + 1, 0, none⟩) (show q ≠ w.heap.size + 1 by have := HQ.out.2.2.2.2.1; omega) (.int .i64 n)).far (p := ⟨w.heap.size + 1, 1, none⟩) (show q ≠ w.heap.size + 1 by have := HQ.out.2.2.2.2.1; omega) (.slice E l c)
    clear a0 a1 a2 a3 y0 y1 y2 y3 b0 b1 z0 z1
    obtain ⟨⟨b0, b1⟩, z0, z1⟩ := blk2 hb4
    have HS5 := Lib.hid (HS.out _ hs5.drew hq5.drew)
    clear hs4 hq4 hb4 hs5 hq5
    have HF := Lib.hid (HQ.out.fin hgl)
    have HKQ := HQ.out.2.2.2.1
    have HKE := Lib.hid HKQ
    clear HKQ HQ
    refine wpAnyH_ready (rs := [3]) (by kernel_rfl) (by simp) ?_
    refine AllReadyH.cons rfl (fun K hK => ?_) AllReadyH.nil
    go_simp
    refine hK.out _ _ HS5.out (fun hHeld => ?_)
    clear hK K
    (try simp only [Act.put, List.getElem_toArray, List.getElem_cons_zero, List.getElem_cons_succ, List.setIfInBounds_toArray, List.set_cons_zero, List.set_cons_succ])
    (refine wpAnyH_done (by kernel_rfl) ?_ _)
    clear hHeld b0 b1 z0 z1 HS5 HS c0 c1 c2 c3 x0 x1 x2 x3 d0 d1 v0 v1
    obtain ⟨f1, f2, f3, f4, f5, f6⟩ := HF.out
    have g0 := (f1.drew).cell 0
    have g1 := (f1.drew).cell 1
    have g2 := (f1.drew).cell 2
    have g3 := (f1.drew).cell 3
    have g4 := (f2.drew).cell 0
    have g5 := (f2.drew).cell 1
    have f3' := own_ext f3 (Ext.refl _).drew
    have f4' := own_ext f4 (Ext.refl _).drew
    have f5' := f5.ext (Ext.refl _).drew
    have f6' := gr_ext f6 (Ext.refl _).drew
    clear f1 f2 f3 f4 f5 f6 HF
    unfold ogW at g0 g1 g2 g3 g4 g5 f3' f4' f5' f6'
    generalize World.drew _ = W2 at g0 g1 g2 g3 g4 g5 f3' f4' f5' f6' ⊢
    simp only [List.getElem?_toArray, List.getElem?_cons_zero, List.getElem?_cons_succ] at g0 g1 g2 g3 g4 g5
    go_wp2
    exact bodyPost_ret (v := .tuple #[.agg #[.int .i64 n0, .int .i64 I, .int .i64 B, .slice _ _ _], .agg #[.int .i64 n, .slice _ _ _]]) (by simp [results, Try.results31, go_sem, g0, g1, g2, g3, g4, g5]) rfl (DrewOG.mk _ _ _ _ _ _ _ _ _ _ _ _ ⟨by omega, by omega⟩ hlen hll f3' f4' f5' f6' HKE.out)
end Go.Proofs.Ytfbalkbcglejjaa
namespace Go.Proofs.Ytfbalkbcglejjaa
open Go.ChangeShapes Go.WideShapes Go.ChangeAt Go.RowKit Go.Deep
set_option linter.unusedVariables false
set_option linter.unusedSimpArgs false
/-- What the draw hands back. -/
def DrewRO (w : World) (e : Ending) (w' : World) : Prop :=
  ∃ (A : Option Addr) (len cap : Nat) (xs : List Oq) (n : Nat) (E : Option Addr) (l c : Nat) (es : List Ed) (P : Option Addr) (np cp : Nat) (p : List Int) (mode : Int), e = .returned (.tuple #[.slice A len cap, .agg #[.int .i64 n, .slice E l c], .slice P np cp, .int .i64 mode]) ∧ (1 ≤ n ∧ n ≤ 4) ∧ len ≤ 75 ∧ l ≤ 7 ∧ np ≤ 5 ∧ (0 ≤ mode ∧ mode ≤ 2) ∧ w'.ownsRow w.heap.size 45 8 (.slice A len cap) len (ocells xs) ∧ w'.ownsRow w.heap.size 79 2 (.slice E l c) l (ecells es) ∧ w'.ownsRow w.heap.size 3 1 (.slice P np cp) np (icells p) ∧ (∀ e ∈ es, e.ok) ∧ Ext w w'
set_option maxRecDepth 100000 in
set_option maxHeartbeats 16000000 in
theorem DrawRouteOps_any (Ab : Option Addr) (nb cb : Nat) (bs : List Int) (w : World) (h : Rd w w.heap.size 1 Ab nb (u8cs bs)) (hn : nb ≤ 1048576) :
    Calls Try.prog 12 #[.slice Ab nb cb] w (DrewRO w) := by
  go_enter Try.func12, Try.ntmps12
  go_wp2_with fail
  refine (l1New_any Ab nb cb bs _ (h.ext ((Ext.refl w).alloc _)) hn).mono ?_
  rintro e w1 ⟨rfl, hC1, hx1⟩
  have hB1 := (Blk.new w 27 #[.int .i64 0, .slice none 0 0]).ext hx1
  have hX1 : Ext w w1 := Ext.trans ((Ext.refl w).alloc _) hx1
  obtain ⟨g, hg⟩ : ∃ g, g = (w.alloc (.cells #[.int .i64 0, .slice none 0 0] 27)).heap.size := ⟨_, rfl⟩
  have hgr : g = w.heap.size + 1 := by rw [hg]; simp
  simp only [← hg] at hC1 ⊢
  have hgw : w.heap.size < g := by omega
  have HGR := Lib.hid hgr
  clear hg hgr hx1
  have hl1 := hC1.lt
  (try rw [← HGR.out])
  go_wp2_with fail
  refine (l42Ops_any g 5 (by omega) _ hC1).mono ?_
  rintro e w2 ⟨N, I, B, A, len, cap, xs, n, E, l, c, es, rfl, ⟨hn1, hn4⟩, hlen, hll, hop, hoe, hC2, hG2, hok⟩
  have HHOK := Lib.hid hok
  have hB2 := hB1.grown hG2 (fun k hk => by injection hk; omega)
  have hl2 := hB2.lt
  have hX2 : Ext w w2 := hX1.grown hG2 (fun k hk => by injection hk; omega)
  have hw12 : w.heap.size ≤ w1.heap.size := hX1.size
  have hT3 : TG w ((w2.alloc (.cells #[.int .i64 N, .int .i64 I, .int .i64 B, .slice A len cap] 57)).alloc (.cells #[.int .i64 n, .slice E l c] 27)) w.heap.size (w2.heap.size + 1) n E l c es :=
    ⟨(hX2.alloc _).alloc _, (hB2.alloc _).alloc _, Blk.newAt (by simp), own_ext (own_base hoe hw12) (((Ext.refl w2).alloc _).alloc _), Nat.le_refl _, by omega⟩
  have hS3 : Blk ((w2.alloc (.cells #[.int .i64 N, .int .i64 I, .int .i64 B, .slice A len cap] 57)).alloc (.cells #[.int .i64 n, .slice E l c] 27)) w2.heap.size 57 #[.int .i64 N, .int .i64 I, .int .i64 B, .slice A len cap] := (Blk.new _ _ _).alloc _
  have hop3 := own_ext (own_base hop hw12) (((Ext.refl w2).alloc (.cells #[.int .i64 N, .int .i64 I, .int .i64 B, .slice A len cap] 57)).alloc (.cells #[.int .i64 n, .slice E l c] 27))
  have hC3 := (hC2.alloc (.cells #[.int .i64 N, .int .i64 I, .int .i64 B, .slice A len cap] 57)).alloc (.cells #[.int .i64 n, .slice E l c] 27)
  have hg2 := hC2.lt
  clear hok hB1 hX1 hl1 hC1 hG2 hoe hop hB2 hX2 hC2
  go_upto_region 3 with (fail)
  generalize ((w2.alloc (.cells #[.int .i64 N, .int .i64 I, .int .i64 B, .slice A len cap] 57)).alloc (.cells #[.int .i64 n, .slice E l c] 27)) = w3 at *
  obtain ⟨q, hq⟩ : ∃ q, q = w2.heap.size + 1 := ⟨_, rfl⟩
  simp only [← hq] at hT3 ⊢
  generalize w2.heap.size = s at *
  have hsq : g < q := by omega
  have hqr : w.heap.size < q := by omega
  have hgs : g < s := by omega
  have hws : w.heap.size < s := by omega
  clear hq hl2 hg2
  have HT3 := Lib.hid hT3
  have HO3 := Lib.hid hop3
  obtain ⟨⟨c0, c1, c2, c3⟩, x0, x1, x2, x3⟩ := blk4 hS3
  clear hT3 hop3 hS3
  go_wp2_with fail
  refine (l1Once_any g 8 _ hC3 (by omega)).mono ?_
  rintro e w4 ⟨f, rfl, hC4, hG4⟩
  have HT4 := Lib.hid (HT3.out.grown hC3 hG4 (by omega) (by omega) (by omega))
  have HO4 := Lib.hid (own_cur HO3.out hC3 curop_ne hG4)
  clear HT3 HO3 hC3 hG4 c0 c1 c2 c3 x0 x1 x2 x3
  cases f
  case' true =>
    have HT5 := HT4
    have HO5 := HO4
    have hC5 := hC4
    have hla : len ≤ 75 := by omega
    clear HT4 HO4 hC4
  case' false =>
    have hxl := (Rd.own HO4.out).len Oq.cells_len (by omega)
    have hdl := decOps_len xs
    have HSZ := Lib.hid HT4.out.1.size
    go_wp2_with fail
    refine (spec_DecomposeOps_any A len cap xs _ (Rd.own HO4.out) (by omega)).mono ?_
    rintro e w5 ⟨v5, rfl, ho5, hx5⟩
    obtain ⟨A5, c5, rfl, _⟩ := own_slice ho5
    have HT5 := Lib.hid (HT4.out.ext hx5)
    have HO5 := Lib.hid (own_base ho5 HSZ.out)
    have hC5 := hC4.ext hx5
    have hla : (decOps xs).length ≤ 75 := by omega
    clear HT4 HO4 hC4 ho5 hx5 hxl hdl HSZ
    generalize decOps xs = xs' at *
    generalize xs'.length = len' at *
  all_goals
    obtain ⟨⟨b0, b1⟩, z0, z1⟩ := blk2 HT5.out.2.2.1
    go_wp2_with fail
    refine (l8Perm_any g n ⟨hn1, hn4⟩ _ hC5).mono ?_
    rintro e w6 ⟨b, c6, rfl, hb6, hI6, hC6, hG6⟩
    have HT6 := Lib.hid (HT5.out.grown hC5 hG6 (by omega) (by omega) (by omega))
    have HO6 := Lib.hid (own_cur HO5.out hC5 curop_ne hG6)
    have hwb : w.heap.size ≤ b := by have := HT5.out.1.size; omega
    obtain ⟨ps, _, hp6⟩ := hI6.own hwb
    have HP6 := Lib.hid hp6
    clear HT5 HO5 hC5 hG6 hb6 hI6 hp6 hwb b0 b1 z0 z1
    go_wp2_with fail
    refine (l1Once_any g 10 _ hC6 (by omega)).mono ?_
    rintro e w7 ⟨f2, rfl, hC7, hG7⟩
    have HT7 := Lib.hid (HT6.out.grown hC6 hG7 (by omega) (by omega) (by omega))
    have HO7 := Lib.hid (own_cur HO6.out hC6 curop_ne hG7)
    have HP7 := Lib.hid (own_cur HP6.out hC6 curint_ne hG7)
    clear HT6 HO6 HP6 hC6 hG7
    cases f2
    case' false =>
      have HT8 := HT7
      have HO8 := HO7
      have HP8 := HP7
      have hC8 := hC7
      have hlp : n ≤ 5 := by omega
      clear HT7 HO7 HP7 hC7
    case' true =>
      go_wp2_with fail
      refine (l8Bent_any g _ hC7).mono ?_
      rintro e w8 ⟨P, np, cp, ps8, rfl, hlp, hp8, hC8, hG8⟩
      have HT8 := Lib.hid (HT7.out.grown hC7 hG8 (by omega) (by omega) (by omega))
      have HO8 := Lib.hid (own_cur HO7.out hC7 curop_ne hG8)
      have HP8 := Lib.hid (own_base hp8 HT7.out.1.size)
      clear HT7 HO7 HP7 hC7 hp8 hG8
    all_goals
      obtain ⟨⟨b0, b1⟩, z0, z1⟩ := blk2 HT8.out.2.2.1
      obtain ⟨⟨a0, a1⟩, y0, y1⟩ := blk2 HT8.out.2.1
      have hlg := hC8.lt
      (try go_wp2)
      refine wp_region_held_drew (S := fun W => W.cell? ⟨q, 0, none⟩ = some (.int .i64 n) ∧ W.cell? ⟨q, 1, none⟩ = some (.slice E l c)) (by kernel_rfl) ⟨HT8.out.2.2.1.cell 0, HT8.out.2.2.1.cell 1⟩ (fun hHeld => ?_)
      (refine wpAnyH_take (i := 0) (v := ?_) rfl (by kernel_rfl) (by kernel_rfl) (by kernel_rfl) (fun _ _ _ h => h) (Or.inl ⟨by rfl, ?_⟩) (by assumption) ?_; rotate_left; · (intro w hSw; (try dsimp only at hSw); go_simp; all_goals with_reducible rfl); (try simp only [Act.put, List.getElem_toArray, List.getElem_cons_zero, List.getElem_cons_succ, List.setIfInBounds_toArray, List.set_cons_zero, List.set_cons_succ]))
      (try simp only [Act.put, List.getElem_toArray, List.getElem_cons_zero, List.getElem_cons_succ, List.setIfInBounds_toArray, List.set_cons_zero, List.set_cons_succ])
      (refine wpAnyH_take (i := 1) (v := ?_) rfl (by kernel_rfl) (by kernel_rfl) (by kernel_rfl) (fun _ _ _ h => h) (Or.inl ⟨by rfl, ?_⟩) (by assumption) ?_; rotate_left; · (intro w hSw; (try dsimp only at hSw); go_simp; all_goals with_reducible rfl); (try simp only [Act.put, List.getElem_toArray, List.getElem_cons_zero, List.getElem_cons_succ, List.setIfInBounds_toArray, List.set_cons_zero, List.set_cons_succ]))
      (try simp only [Act.put, List.getElem_toArray, List.getElem_cons_zero, List.getElem_cons_succ, List.setIfInBounds_toArray, List.set_cons_zero, List.set_cons_succ])
      (refine wpAnyH_take (i := 2) (v := ?_) rfl (by kernel_rfl) (by kernel_rfl) (by kernel_rfl) (fun _ _ _ h => h) (Or.inl ⟨by rfl, ?_⟩) (by assumption) ?_; rotate_left; · (intro w hSw; (try dsimp only at hSw); go_simp; all_goals with_reducible rfl); (try simp only [Act.put, List.getElem_toArray, List.getElem_cons_zero, List.getElem_cons_succ, List.setIfInBounds_toArray, List.set_cons_zero, List.set_cons_succ]))
      (try simp only [Act.put, List.getElem_toArray, List.getElem_cons_zero, List.getElem_cons_succ, List.setIfInBounds_toArray, List.set_cons_zero, List.set_cons_succ])
      (refine wpAnyH_take (i := 3) (v := ?_) rfl (by kernel_rfl) (by kernel_rfl) (by kernel_rfl) (fun _ _ _ h => h) (Or.inl ⟨by rfl, ?_⟩) (by assumption) ?_; rotate_left; · (intro w hSw; (try dsimp only at hSw); go_simp; all_goals with_reducible rfl); (try simp only [Act.put, List.getElem_toArray, List.getElem_cons_zero, List.getElem_cons_succ, List.setIfInBounds_toArray, List.set_cons_zero, List.set_cons_succ]))
      (try simp only [Act.put, List.getElem_toArray, List.getElem_cons_zero, List.getElem_cons_succ, List.setIfInBounds_toArray, List.set_cons_zero, List.set_cons_succ])
      refine wpAnyH_ready (rs := [4]) (by kernel_rfl) (by simp) ?_
      refine AllReadyH.cons rfl (fun K hK => ?_) AllReadyH.nil
      go_simp
      have HT9 := Lib.hid (HT8.out.ext (((Ext.refl _).alloc (.cells #[.int .i64 0, .int .i64 0, .int .i64 1, .int .i64 1, .int .i64 2] 3)).drew))
      have HO9 := Lib.hid (own_ext HO8.out (((Ext.refl _).alloc (.cells #[.int .i64 0, .int .i64 0, .int .i64 1, .int .i64 1, .int .i64 2] 3)).drew))
      have HP9 := Lib.hid (own_ext HP8.out (((Ext.refl _).alloc (.cells #[.int .i64 0, .int .i64 0, .int .i64 1, .int .i64 1, .int .i64 2] 3)).drew))
      have hC9 := hC8.ext (((Ext.refl _).alloc (.cells #[.int .i64 0, .int .i64 0, .int .i64 1, .int .i64 1, .int .i64 2] 3)).drew)
      refine hK.out _ _ ⟨HT9.out.2.2.1.cell 0, HT9.out.2.2.1.cell 1⟩ (fun hHeld => ?_)
      clear hK K
      (try simp only [Act.put, List.getElem_toArray, List.getElem_cons_zero, List.getElem_cons_succ, List.setIfInBounds_toArray, List.set_cons_zero, List.set_cons_succ])
      refine wpAnyH_ready (rs := [5]) (by kernel_rfl) (by simp) ?_
      refine AllReadyH.cons rfl (fun K hK => ?_) AllReadyH.nil
      go_simp
      refine (l1PickInt_any g _ 5 _ [0, 0, 1, 1, 2] _ hC9 ((rd_newN _ _ _ _ 5 1 _ rfl rfl rfl).ext (Ext.refl _).drew) (by intro b o e; injection e with e; injection e with e1; omega) (by omega)).mono ?_
      rintro e w10 ⟨z, rfl, hz, hC10, hG10⟩
      have hzm : 0 ≤ z ∧ z ≤ 2 := by simp at hz; omega
      have HT10 := Lib.hid (HT9.out.grown hC9 hG10 (by omega) (by omega) (by omega))
      have HO10 := Lib.hid (own_cur HO9.out hC9 curop_ne hG10)
      have HP10 := Lib.hid (own_cur HP9.out hC9 curint_ne hG10)
      clear HT8 HO8 HP8 HT9 HO9 HP9 hC8 hC9 hC10 hG10 hz a0 a1 y0 y1 b0 b1 z0 z1
      obtain ⟨⟨b0, b1⟩, z0, z1⟩ := blk2 HT10.out.2.2.1
      obtain ⟨⟨a0, a1⟩, y0, y1⟩ := blk2 HT10.out.2.1
      refine hK.out _ _ ⟨HT10.out.2.2.1.cell 0, HT10.out.2.2.1.cell 1⟩ (fun hHeld => ?_)
      clear hK K
      (try simp only [Act.put, List.getElem_toArray, List.getElem_cons_zero, List.getElem_cons_succ, List.setIfInBounds_toArray, List.set_cons_zero, List.set_cons_succ])
      (refine wpAnyH_take (i := 6) (v := ?_) rfl (by kernel_rfl) (by kernel_rfl) (by kernel_rfl) (fun _ _ _ h => h) (Or.inl ⟨by rfl, ?_⟩) (by assumption) ?_; rotate_left; · (intro w hSw; (try dsimp only at hSw); go_simp; all_goals with_reducible rfl); (try simp only [Act.put, List.getElem_toArray, List.getElem_cons_zero, List.getElem_cons_succ, List.setIfInBounds_toArray, List.set_cons_zero, List.set_cons_succ]))
      (try simp only [Act.put, List.getElem_toArray, List.getElem_cons_zero, List.getElem_cons_succ, List.setIfInBounds_toArray, List.set_cons_zero, List.set_cons_succ])
      refine wpAnyH_ready (rs := [7]) (by kernel_rfl) (by simp) ?_
      refine AllReadyH.cons rfl (fun K hK => ?_) AllReadyH.nil
      go_simp
      refine hK.out _ _ HT10.out.keep0 (fun hHeld => ?_)
      clear hK K
      (try simp only [Act.put, List.getElem_toArray, List.getElem_cons_zero, List.getElem_cons_succ, List.setIfInBounds_toArray, List.set_cons_zero, List.set_cons_succ])
      (refine wpAnyH_take (i := 8) (v := ?_) rfl (by kernel_rfl) (by kernel_rfl) (by kernel_rfl) (fun _ _ _ h => h) (Or.inl ⟨by rfl, ?_⟩) (by assumption) ?_; rotate_left; · (intro w hSw; (try dsimp only at hSw); go_simp; all_goals with_reducible rfl); (try simp only [Act.put, List.getElem_toArray, List.getElem_cons_zero, List.getElem_cons_succ, List.setIfInBounds_toArray, List.set_cons_zero, List.set_cons_succ]))
      (try simp only [Act.put, List.getElem_toArray, List.getElem_cons_zero, List.getElem_cons_succ, List.setIfInBounds_toArray, List.set_cons_zero, List.set_cons_succ])
      (refine wpAnyH_take (i := 9) (v := ?_) rfl (by kernel_rfl) (by kernel_rfl) (by kernel_rfl) (fun _ _ _ h => h) (Or.inl ⟨by rfl, ?_⟩) (by assumption) ?_; rotate_left; · (intro w hSw; (try dsimp only at hSw); go_simp; all_goals with_reducible rfl); (try simp only [Act.put, List.getElem_toArray, List.getElem_cons_zero, List.getElem_cons_succ, List.setIfInBounds_toArray, List.set_cons_zero, List.set_cons_succ]))
      (try simp only [Act.put, List.getElem_toArray, List.getElem_cons_zero, List.getElem_cons_succ, List.setIfInBounds_toArray, List.set_cons_zero, List.set_cons_succ])
      (refine wpAnyH_done (by kernel_rfl) ?_ _)
      clear hHeld a0 a1 y0 y1 b0 b1 z0 z1
      obtain ⟨⟨q0, q1⟩, e1, e2⟩ := HT10.out.fin0
      have e3 := HT10.out.rows0 HO10.out graphop_ne
      have e4 := HT10.out.rows0 HP10.out graphint_ne
      generalize (w10.setCell _ _).setCell _ _ = W2 at q0 q1 e1 e2 e3 e4 ⊢
      go_wp2
      exact bodyPost_ret (v := .tuple #[.slice _ _ _, .agg #[.int .i64 n, .slice _ _ _], .slice _ _ _, .int .i64 z]) (by simp [results, Try.results12, go_sem, q0, q1]) rfl ⟨_, _, _, _, n, _, _, _, es, _, _, _, _, z, rfl, ⟨hn1, hn4⟩, hla, hll, hlp, hzm, e3, e1, e4, HHOK.out, e2⟩
end Go.Proofs.Ytfbalkbcglejjaa
