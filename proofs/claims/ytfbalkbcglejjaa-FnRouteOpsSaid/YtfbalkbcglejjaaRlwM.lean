/-
  For every code, the law FnRouteOps returns true: routed ops keep their conditions, and swaps are unconditional. No condition. Printed by gen_rlwl.py.
-/
import Derived.Test.YtfbalkbcglejjaaOrm
import Derived.Test.YtfbalkbcglejjaaGd
import Derived.Test.YtfbalkbcglejjaaRosp
import Derived.Test.YtfbalkbcglejjaaOop
import Derived.Test.YtfbalkbcglejjaaOpg
import Derived.Test.YtfbalkbcglejjaaRos
import Derived.Test.YtfbalkbcglejjaaMgB
import Derived.Test.YtfbalkbcglejjaaDrawP
import Derived.Test.YtfbalkbcglejjaaCmq
/-
  Helper text (no claim of its own): executable gates respect the graph and are not changed by orientation (plain Lean), and whether gates respect a graph, by the program.
-/
namespace Go.Proofs.Ytfbalkbcglejjaa
open Go.ChangeShapes Go.WideShapes Go.ChangeAt Go.RowKit Go.Deep
set_option linter.unusedVariables false
def resp1 (x : Gr) (g : Gt) : Bool := vg g x.n && (ar g.k == 1 || (ar g.k == 2 && coup x g))
def respN (x : Gr) (gs : List Gt) : Bool := gs.all (resp1 x)
theorem respN_no {x : Gr} {gs : List Gt} {k : Nat} {g : Gt} (h : gs[k]? = some g) (hg : resp1 x g = false) : respN x gs = false := by
  unfold respN
  rw [Bool.eq_false_iff]
  intro ha
  rw [List.all_eq_true] at ha
  rw [ha g (List.mem_of_getElem? h)] at hg
  cases hg
theorem respN_snoc {x : Gr} {gs : List Gt} {k : Nat} {g : Gt} (h : gs[k]? = some g) (hk : respN x (gs.take k) = true) (hg : resp1 x g = true) : respN x (gs.take (k + 1)) = true := by
  unfold respN at *
  rw [take_snoc h, List.all_append, hk]
  simp [hg]
theorem exe_parts {x : Gr} {g : Gt} (h : exe1 x g = true) : vg g x.n = true ∧ ((ar g.k == 1) = true ∨ ((g.k == 9) = true ∧ hasE x.es g.a g.b = true)) := by
  unfold exe1 at h
  simp only [Bool.and_eq_true, Bool.or_eq_true] at h
  exact h
theorem exe_resp1 {x : Gr} {g : Gt} (h : exe1 x g = true) : resp1 x g = true := by
  obtain ⟨h1, h2 | ⟨h3, h4⟩⟩ := exe_parts h
  · unfold resp1; rw [h1, h2]; rfl
  · unfold resp1 coup; rw [h1, ar_9_11 (.inl h3), h4]; rfl
theorem exe_ori1 {x : Gr} {g : Gt} (h : exe1 x g = true) : oriOk x g = true ∧ oriL x g = [g] := by
  obtain ⟨h1, h2 | ⟨h3, h4⟩⟩ := exe_parts h
  · have : oriOk x g = true := by unfold oriOk; rw [h1, h2]; rfl
    exact ⟨this, oriL_1 this h2⟩
  · exact oriL_9a h1 h3 h4
theorem exe_resp {x : Gr} {gs : List Gt} (h : exeN x gs = true) : respN x gs = true := by
  unfold exeN at h
  unfold respN
  rw [List.all_eq_true] at *
  exact fun g hg => exe_resp1 (h g hg)
theorem exe_ori {x : Gr} {gs : List Gt} (h : exeN x gs = true) : oriAllOk x gs = true ∧ oriAll x gs = gs := by
  unfold exeN at h
  rw [List.all_eq_true] at h
  have h1 : oriAllOk x gs = true := by
    unfold oriAllOk
    rw [List.all_eq_true]
    exact fun g hg => (exe_ori1 (h g hg)).1
  refine ⟨h1, ?_⟩
  rw [oriAll_yes h1]
  clear h1
  induction gs with
  | nil => rfl
  | cons g gs ih =>
    rw [List.flatMap_cons, (exe_ori1 (h g (by simp))).2, ih (fun g' hg' => h g' (by simp [hg']))]
    rfl
theorem resp1_bad {x : Gr} {g : Gt} (h : vg g x.n = false) : resp1 x g = false := by unfold resp1; rw [h]; rfl
theorem resp1_3 {x : Gr} {g : Gt} (h : ar g.k = 3) : resp1 x g = false := by unfold resp1; rw [h]; simp
theorem resp1_2 {x : Gr} {g : Gt} (hv : vg g x.n = true) (h : ar g.k = 2) : resp1 x g = coup x g := by unfold resp1; rw [hv, h]; simp
theorem resp1_1 {x : Gr} {g : Gt} (hv : vg g x.n = true) (h : ar g.k = 1) : resp1 x g = true := by unfold resp1; rw [hv, h]; simp

set_option maxRecDepth 100000 in
set_option maxHeartbeats 4000000 in
theorem impl_RespectsGraph_any (A : Option Addr) (n c : Nat) (gs : List Gt) (v : Value) (x : Gr) (w : World) (h : Rd w w.heap.size 4 A n (gcells gs)) (hv : GrAt w w.heap.size v x) (hn : n ≤ 100000000) (hm : x.es.length ≤ 100000000) :
    Calls Try.prog 10 #[.slice A n c, v] w fun e w' => e = .returned (.bool (respN x gs)) ∧ Ext w w' := by
  have hlen := Lib.hid (h.len Gt.cells_len (by omega))
  obtain ⟨A1, c1, rfl, h1⟩ := hv
  have hG : GrAt w w.heap.size (.agg #[.int .i64 x.n, .slice A1 x.es.length c1]) x := ⟨A1, c1, rfl, h1⟩
  clear h1
  go_enter Try.func10, Try.ntmps10
  go_wp2
  go_loopw [9] (fun i wr => ∃ k : Nat, k ≤ n ∧ i = .int .i64 k ∧ Hid (respN x (gs.take k) = true) ∧ Blk wr w.heap.size 27 #[.int .i64 x.n, .slice A1 x.es.length c1] ∧ Ext w wr) (fun i _ => n - (intOf i).toNat)
  case atStart => exact ⟨0, Nat.zero_le _, rfl, Lib.hid (by simp [respN]), Blk.new _ _ _, (by repeat (first | exact Ext.refl _ | assumption | refine Ext.alloc ?_ _ | refine Ext.drewN ?_ _ | refine Ext.drew ?_))⟩
  case round =>
    obtain ⟨k, hk, rfl, HQ, hB, hx⟩ := hrel
    by_cases hlt : k < n
    · obtain ⟨b, o, g, rfl, hb, hg, r0, r1, r2, r3⟩ := gate_at (h.ext hx) hlt
      have HG := Lib.hid hg
      clear hg
      have hlb := hB.lt
      have q0 : wr.cell? ⟨w.heap.size, 0, none⟩ = some (.int .i64 x.n) := hB.cell 0
      have q1 : wr.cell? ⟨w.heap.size, 1, none⟩ = some (.slice A1 x.es.length c1) := hB.cell 1
      go_wp2_with fail
      refine (impl_IsValidGate_any g x.n _).mono ?_
      rintro e w1 ⟨rfl, hy1⟩
      have hL1 : Blk w1 wr.heap.size 43 #[.int .i64 g.k, .int .i64 g.a, .int .i64 g.b, .int .i64 g.c] := (Blk.new wr _ _).ext hy1
      have hB1 := (hB.alloc (.cells #[.int .i64 g.k, .int .i64 g.a, .int .i64 g.b, .int .i64 g.c] 43)).ext hy1
      have hx1 : Ext w w1 := Ext.trans (hx.alloc _) hy1
      clear hy1 q0 q1 r0 r1 r2 r3 hB
      have p0 : w1.cell? ⟨wr.heap.size, 0, none⟩ = some (.int .i64 g.k) := hL1.cell 0
      have p1 : w1.cell? ⟨wr.heap.size, 1, none⟩ = some (.int .i64 g.a) := hL1.cell 1
      have p2 : w1.cell? ⟨wr.heap.size, 2, none⟩ = some (.int .i64 g.b) := hL1.cell 2
      have q0 : w1.cell? ⟨w.heap.size, 0, none⟩ = some (.int .i64 x.n) := hB1.cell 0
      have q1 : w1.cell? ⟨w.heap.size, 1, none⟩ = some (.slice A1 x.es.length c1) := hB1.cell 1
      cases hv : vg g x.n
      · have HF := Lib.hid (respN_no HG.out (x := x) (resp1_bad hv))
        go_wp2
        go_ret
        exact ⟨ret_bool HF.out.symm, hx1⟩
      · have HV := Lib.hid hv
        clear hv
        go_wp2_with fail
        refine (impl_Arity_any _ _).mono ?_
        rintro e w2 ⟨rfl, rfl⟩
        cases h3 : (ar g.k == 3)
        · go_wp2_with fail
          refine (impl_Arity_any _ _).mono ?_
          rintro e w2 ⟨rfl, rfl⟩
          cases h2 : (ar g.k == 2)
          · have HT : Hid (resp1 x g = true) := resp1_1 HV.out (by have z1 := (vg_parts HV.out).2.2.1; have z2 := ar_range g.k; simp at h2 h3; omega)
            go_wp2
            go_roundw
            case rel => exact ⟨k + 1, by omega, by go_num, Lib.hid (respN_snoc HG.out HQ.out HT.out), hB1, hx1⟩
            case measure => simp [intOf]; omega
          · have HC : Hid (resp1 x g = cpl x.es g.a g.b) := resp1_2 HV.out (by simpa using h2)
            go_wp2_with fail
            refine (impl_AreCoupled_any _ x g.a g.b _ ((hG.up hx1 (Nat.le_refl _)).more hx1.size) hm).mono ?_
            rintro e w2 ⟨rfl, hy2⟩
            have hB2 := hB1.ext hy2
            have hx2 := hx1.trans hy2
            clear hy2
            cases he : cpl x.es g.a g.b
            · have HF := Lib.hid (respN_no HG.out (x := x) (HC.out.trans he))
              go_wp2
              go_ret
              exact ⟨ret_bool HF.out.symm, hx2⟩
            · have HT := Lib.hid (HC.out.trans he)
              go_wp2
              go_roundw
              case rel => exact ⟨k + 1, by omega, by go_num, Lib.hid (respN_snoc HG.out HQ.out HT.out), hB2, hx2⟩
              case measure => simp [intOf]; omega
        · have HF := Lib.hid (respN_no HG.out (x := x) (resp1_3 (by simpa using h3)))
          go_wp2
          go_ret
          exact ⟨ret_bool HF.out.symm, hx1⟩
    · rw [List.take_of_length_le (by rw [hlen.out]; omega)] at HQ
      have q0 : wr.cell? ⟨w.heap.size, 0, none⟩ = some (.int .i64 x.n) := hB.cell 0
      go_wp2
      go_ret
      exact ⟨ret_bool HQ.out.symm, hx⟩
end Go.Proofs.Ytfbalkbcglejjaa
/-
  Helper text (no claim of its own): what the routing of ops leaves (plain Lean): every gate can be oriented, swaps have no condition, bridges keep the layout.
-/
namespace Go.Proofs.Ytfbalkbcglejjaa
open Go.ChangeShapes Go.WideShapes Go.ChangeAt Go.RowKit Go.Deep
set_option linter.unusedVariables false
/-! ### Oriented gates can be executed -/
theorem vg_one {n k a : Int} (h1 : 1 ≤ n) (h2 : n ≤ 4) (hk : ar k = 1) (ha : 0 ≤ a) (ha' : a ≤ n - 1) : vg (g1 k a) n = true := by
  have hk' : (g1 k a).k = k := rfl
  refine vg_good h1 h2 (by rw [hk', hk]; omega) ?_
  intro i q hq
  rcases (by have := (List.getElem?_eq_some_iff.1 hq).1; simp [qs] at this; omega : i = 0 ∨ i = 1 ∨ i = 2) with rfl | rfl | rfl
  · rw [okI_lo (by rw [hk', hk]; omega)]
    simp [qs, g1] at hq
    subst hq
    simp [ha, ha']
  · rw [okI_hi (by rw [hk', hk]; omega)]
    simp [qs, g1] at hq
    subst hq
    simp
  · rw [okI_hi (by rw [hk', hk]; omega)]
    simp [qs, g1] at hq
    subst hq
    simp
theorem vg_swap {n a b : Int} (h1 : 1 ≤ n) (h2 : n ≤ 4) (ha : 0 ≤ a) (ha' : a ≤ n - 1) (hb : 0 ≤ b) (hb' : b ≤ n - 1) (hne : a ≠ b) : vg ⟨11, a, b, 0⟩ n = true := by
  have hk : ar (Gt.mk 11 a b 0).k = 2 := ar_9_11 (.inr rfl)
  refine vg_good h1 h2 (by rw [hk]; omega) ?_
  intro i q hq
  rcases (by have := (List.getElem?_eq_some_iff.1 hq).1; simp [qs] at this; omega : i = 0 ∨ i = 1 ∨ i = 2) with rfl | rfl | rfl
  · rw [okI_lo (by rw [hk]; omega)]
    simp [qs] at hq
    subst hq
    simp [ha, ha']
  · rw [okI_lo (by rw [hk]; omega)]
    simp [qs] at hq
    subst hq
    simp [hb, hb', qs, hne.symm]
  · rw [okI_hi (by rw [hk]; omega)]
    simp [qs] at hq
    subst hq
    simp
theorem exe_h {x : Gr} {a : Int} (h1 : 1 ≤ x.n) (h2 : x.n ≤ 4) (ha : 0 ≤ a) (ha' : a ≤ x.n - 1) : exe1 x (g1 4 a) = true := by
  unfold exe1
  rw [vg_one h1 h2 (ar1 (by omega)) ha ha', show ar (g1 4 a).k = 1 from ar1 (by show (1 : Int) ≤ 4 ∧ (4 : Int) ≤ 8; omega)]
  rfl
theorem exe_cx {x : Gr} {a b : Int} (h1 : 1 ≤ x.n) (h2 : x.n ≤ 4) (ha : 0 ≤ a) (ha' : a ≤ x.n - 1) (hb : 0 ≤ b) (hb' : b ≤ x.n - 1) (hne : a ≠ b) (he : hasE x.es a b = true) : exe1 x (gcx a b) = true := by
  unfold exe1
  rw [vg_cx h1 h2 ha ha' hb hb' hne, show hasE x.es (gcx a b).a (gcx a b).b = true from he]
  simp [gcx]
theorem cx1_exe {x : Gr} {a b : Int} (h1 : 1 ≤ x.n) (h2 : x.n ≤ 4) (ha : 0 ≤ a) (ha' : a ≤ x.n - 1) (hb : 0 ≤ b) (hb' : b ≤ x.n - 1) (hne : a ≠ b) (hc : coup x (gcx a b) = true) : ∀ h ∈ cx1 x (gcx a b), exe1 x h = true := by
  intro h hm
  unfold cx1 at hm
  split at hm
  · rename_i he
    simp at hm
    subst hm
    exact exe_cx h1 h2 ha ha' hb hb' hne he
  · rename_i he
    have he' : hasE x.es b a = true := by
      have hc' : (hasE x.es a b || hasE x.es b a) = true := hc
      rw [show hasE x.es a b = false from by simpa [gcx] using he] at hc'
      simpa using hc'
    have ga : (gcx a b).a = a := rfl
    have gb : (gcx a b).b = b := rfl
    rw [ga, gb] at hm
    simp only [List.mem_cons, List.not_mem_nil, or_false] at hm
    rcases hm with rfl | rfl | rfl | rfl | rfl
    · exact exe_h h1 h2 ha ha'
    · exact exe_h h1 h2 hb hb'
    · exact exe_cx h1 h2 hb hb' ha ha' hne.symm he'
    · exact exe_h h1 h2 ha ha'
    · exact exe_h h1 h2 hb hb'
theorem ori_parts {x : Gr} {g : Gt} (h : oriOk x g = true) : vg g x.n = true ∧ ((ar g.k == 1) = true ∨ (coup x g = true ∧ ((g.k == 9) = true ∨ (g.k == 11) = true))) := by
  unfold oriOk at h
  simp only [Bool.and_eq_true, Bool.or_eq_true] at h
  exact h
theorem ori_exe {x : Gr} {g : Gt} (h : oriOk x g = true) : ∀ h' ∈ oriL x g, exe1 x h' = true := by
  intro h' hm
  obtain ⟨hv, ho⟩ := ori_parts h
  cases h1 : (ar g.k == 1)
  · rw [h1] at ho
    obtain ⟨hc, hk⟩ := ho.resolve_left (by simp)
    have h2 := ar_9_11 hk
    obtain ⟨n1, n2, a0, a1, b0, b1, hne, _⟩ := vg_two hv h2
    have hc' : coup x (gcx g.b g.a) = true := by
      unfold coup at hc ⊢
      rw [Bool.or_comm]
      exact hc
    rw [oriL_2 h h1] at hm
    rcases hk with hk | hk
    · rw [dec_9 hk, cx_of_vg hv hk] at hm
      simp at hm
      exact cx1_exe n1 n2 a0 a1 b0 b1 hne hc h' hm
    · rw [dec_11 hk] at hm
      simp at hm
      rcases hm with hm | hm | hm
      · exact cx1_exe n1 n2 a0 a1 b0 b1 hne hc h' hm
      · exact cx1_exe n1 n2 b0 b1 a0 a1 hne.symm hc' h' hm
      · exact cx1_exe n1 n2 a0 a1 b0 b1 hne hc h' hm
  · rw [oriL_1 h h1] at hm
    simp at hm
    subst hm
    unfold exe1
    rw [hv, h1]
    rfl
theorem ori_resp {x : Gr} {g : Gt} (h : oriOk x g = true) : resp1 x g = true := by
  obtain ⟨hv, h1 | ⟨hc, hk⟩⟩ := ori_parts h
  · unfold resp1; rw [hv, h1]; rfl
  · unfold resp1; rw [hv, hc, ar_9_11 hk]; rfl
/-! ### In a connected graph every vertex is reached from every other -/
namespace Dist
section
variable {adj : Int → Int → Bool} {n : Nat}
theorem lvl_comm (hs : ∀ a b, adj a b = adj b a) : ∀ {s i j : Nat}, i < n → j < n → lvl adj n (i : Int) s (j : Int) = true → lvl adj n (j : Int) s (i : Int) = true
  | 0, i, j, _, _, h => by
    unfold lvl at h ⊢
    simp at h ⊢
    exact h.symm
  | s + 1, i, j, hi, hj, h => by
    rw [lvl_succ] at h
    rw [lvl_front hj hi]
    rcases h with h | ⟨k, hk, h1, h2⟩
    · exact .inl (lvl_comm hs hi hj h)
    · exact .inr ⟨k, hk, by rw [hs]; exact h2, lvl_comm hs hi hk h1⟩
theorem lvl_trans : ∀ {t s i j k : Nat}, lvl adj n (i : Int) s (j : Int) = true → lvl adj n (j : Int) t (k : Int) = true → lvl adj n (i : Int) (s + t) (k : Int) = true
  | 0, s, i, j, k, h1, h2 => by
    unfold lvl at h2
    simp at h2
    rw [h2]
    exact h1
  | t + 1, s, i, j, k, h1, h2 => by
    rw [lvl_succ] at h2
    rw [← Nat.add_assoc, lvl_succ]
    rcases h2 with h2 | ⟨q, hq, h3, h4⟩
    · exact .inl (lvl_trans h1 h2)
    · exact .inr ⟨q, hq, lvl_trans h1 h3, h4⟩
theorem gdist_reach {i j : Nat} (hi : i < n) (hj : j < n) : 0 ≤ gdist adj n (i : Int) (j : Int) ↔ ∃ s, lvl adj n (i : Int) s (j : Int) = true := by
  constructor
  · intro h
    obtain ⟨s, hs⟩ := Int.eq_ofNat_of_zero_le h
    exact ⟨s, (gdist_lvl hs).2.1⟩
  · rintro ⟨s, hs⟩
    obtain ⟨u, hu, h1, h2⟩ := least (p := fun t => lvl adj n (i : Int) t (j : Int)) hs
    rw [gdist_some (lvl_lt hi hj h1 h2) h1 h2]
    omega
end
end Dist
theorem cpl_comm (es : List Ed) (a b : Int) : cpl es a b = cpl es b a := by
  unfold cpl
  exact Bool.or_comm _ _
theorem conn_parts {x : Gr} (h : conn x = true) : 1 ≤ x.n ∧ x.n ≤ 4 ∧ ∀ k : Nat, (k : Int) < x.n → 0 ≤ gd x 0 (k : Int) := by
  unfold conn at h
  simp only [Bool.and_eq_true, decide_eq_true_eq, List.all_eq_true] at h
  obtain ⟨⟨h1, h2⟩, h3⟩ := h
  exact ⟨h1, h2, fun k hk => h3 k (by rw [List.mem_range]; omega)⟩
theorem conn_all {x : Gr} (h : conn x = true) {a b : Int} (ha : 0 ≤ a ∧ a < x.n) (hb : 0 ≤ b ∧ b < x.n) : 0 ≤ gd x a b := by
  obtain ⟨h1, h4, h0⟩ := conn_parts h
  obtain ⟨n, hn⟩ := Int.eq_ofNat_of_zero_le (by omega : 0 ≤ x.n)
  obtain ⟨i, rfl⟩ := Int.eq_ofNat_of_zero_le ha.1
  obtain ⟨j, rfl⟩ := Int.eq_ofNat_of_zero_le hb.1
  have e : ∀ p q : Nat, p < n → q < n → gd x (p : Int) (q : Int) = Dist.gdist (cpl x.es) n (p : Int) (q : Int) := fun p q hp hq => gd_yes hn (by omega) (by omega) (by omega) (by omega) (by omega) (by omega)
  have hi : i < n := by omega
  have hj : j < n := by omega
  have hz : 0 < n := by omega
  have g1 := h0 i (by omega)
  have g2 := h0 j (by omega)
  rw [show (0 : Int) = ((0 : Nat) : Int) from rfl, e 0 i hz hi] at g1
  rw [show (0 : Int) = ((0 : Nat) : Int) from rfl, e 0 j hz hj] at g2
  rw [e i j hi hj, Dist.gdist_reach hi hj]
  obtain ⟨s, hs⟩ := (Dist.gdist_reach hz hi).1 g1
  obtain ⟨t, ht⟩ := (Dist.gdist_reach hz hj).1 g2
  exact ⟨s + t, Dist.lvl_trans (Dist.lvl_comm (cpl_comm x.es) hz hi hs) ht⟩
theorem gd_zero {x : Gr} {a b : Int} (h : gd x a b = 0) : a = b := by
  obtain ⟨n, i, j, hn, h1, h4, rfl, rfl, hi, hj, e⟩ := gd_ok (by omega : 0 ≤ gd x a b)
  rw [e] at h
  have := (Dist.gdist_lvl (s := 0) h).2.1
  unfold Dist.lvl at this
  simp at this
  rw [this]
/-- A step along the graph. -/
def Stp (x : Gr) (a b : Int) : Prop := (1 ≤ x.n ∧ x.n ≤ 4) ∧ (0 ≤ a ∧ a ≤ x.n - 1) ∧ (0 ≤ b ∧ b ≤ x.n - 1) ∧ a ≠ b ∧ cpl x.es a b = true
theorem Stp.cx {x : Gr} {a b : Int} (h : Stp x a b) : oriOk x (gcx a b) = true := by
  obtain ⟨⟨h1, h2⟩, ⟨a0, a1⟩, ⟨b0, b1⟩, hne, hc⟩ := h
  unfold oriOk
  rw [vg_cx h1 h2 a0 a1 b0 b1 hne, show coup x (gcx a b) = true from hc]
  simp [gcx]
theorem Stp.swap {x : Gr} {a b : Int} (h : Stp x a b) : oriOk x ⟨11, a, b, 0⟩ = true := by
  obtain ⟨⟨h1, h2⟩, ⟨a0, a1⟩, ⟨b0, b1⟩, hne, hc⟩ := h
  unfold oriOk
  rw [vg_swap h1 h2 a0 a1 b0 b1 hne, show coup x ⟨11, a, b, 0⟩ = true from hc]
  simp
def isWay (x : Gr) : List Int → Prop
  | [] => True
  | [_] => True
  | a :: b :: r => Stp x a b ∧ isWay x (b :: r)
theorem lrL_ok {x : Gr} : ∀ {way : List Int}, isWay x way → ∀ h ∈ lrL way, oriOk x h = true
  | [], _, h, hm => by simp [lrL] at hm
  | [_], _, h, hm => by simp [lrL] at hm
  | [a, b], hw, h, hm => by
    simp [lrL] at hm
    subst hm
    exact hw.1.cx
  | a :: b :: c :: r, hw, h, hm => by
    rw [lrL] at hm
    simp at hm
    rcases hm with rfl | hm | rfl | hm
    · exact hw.1.cx
    · exact lrL_ok (way := b :: c :: r) hw.2 h hm
    · exact hw.1.cx
    · exact lrL_ok (way := b :: c :: r) hw.2 h hm
theorem lr_ok {x : Gr} {way : List Int} (hw : isWay x way) : ∀ h ∈ lr way, oriOk x h = true := by
  unfold lr
  split
  · exact lrL_ok hw
  · intro h hm; simp at hm
theorem spw_way {x : Gr} {b : Int} (hx : 1 ≤ x.n ∧ x.n ≤ 4) : ∀ (d : Nat) (a : Int), gd x a b = d → isWay x (a :: spw x b d a)
  | 0, a, h => trivial
  | d + 1, a, h => by
    obtain ⟨k, hk⟩ := nxt_some h
    obtain ⟨h1, h2, h3, _⟩ := nxt_spec hk
    rw [spw_step hk]
    have hin := gd_in (x := x) (a := a) (b := b) (by omega)
    exact ⟨⟨hx, ⟨by omega, by omega⟩, ⟨by omega, by omega⟩, fun e => by rw [e] at h; omega, h2⟩, spw_way hx d (k : Int) h3⟩
theorem spath_way {x : Gr} {a b : Int} (hx : 1 ≤ x.n ∧ x.n ≤ 4) : isWay x (spath x a b) := by
  by_cases h : gd x a b < 0
  · rw [spath_no h]; trivial
  · obtain ⟨d, hd⟩ := Int.eq_ofNat_of_zero_le (by omega : 0 ≤ gd x a b)
    rw [spath_yes hd]
    exact spw_way hx d a hd
theorem rgL_ok {x : Gr} {a b : Nat} (hx : 1 ≤ x.n ∧ x.n ≤ 4) : ∀ f {now : List Int}, OnWay x a b now → ∀ h ∈ (rgL x a b f now).1, oriOk x h = true
  | 0, _, _, h, hm => by simp [rgL] at hm
  | f + 1, now, hw, h, hm => by
    by_cases hg : 1 < gd x (loc now (a : Int)) (loc now (b : Int))
    · obtain ⟨s, t, rest, h1, h2, _, _, _, h6⟩ := hw.step hg
      rw [h6] at hm
      simp at hm
      rcases hm with rfl | hm
      · have := spath_way (x := x) (a := loc now (a : Int)) (b := loc now (b : Int)) hx
        rw [h1] at this
        exact this.1.swap
      · exact rgL_ok hx f h2 h hm
    · rw [rgL_stop _ hg] at hm
      simp at hm
theorem rgL_end {x : Gr} {a b : Nat} : ∀ (f : Nat) {now : List Int}, OnWay x a b now → gd x (loc now (a : Int)) (loc now (b : Int)) ≤ (f : Int) + 1 → gd x (loc (rgL x a b f now).2 (a : Int)) (loc (rgL x a b f now).2 (b : Int)) ≤ 1
  | 0, now, _, h => by rw [rgL]; simpa using h
  | f + 1, now, hw, h => by
    by_cases hg : 1 < gd x (loc now (a : Int)) (loc now (b : Int))
    · obtain ⟨s, t, rest, h1, h2, h3, _, _, h6⟩ := hw.step hg
      rw [h6]
      exact rgL_end f h2 (by rw [h3]; omega)
    · rw [rgL_stop _ hg]
      show gd x (loc now (a : Int)) (loc now (b : Int)) ≤ 1
      omega
theorem OnWay.near {x : Gr} {a b : Nat} {now : List Int} (hc : conn x = true) (h : OnWay x a b now) (hne : a ≠ b) (h1 : gd x (loc now (a : Int)) (loc now (b : Int)) ≤ 1) : Stp x (loc now (a : Int)) (loc now (b : Int)) := by
  obtain ⟨y, hy, ly, y0, y1⟩ := h.at_ h.ha
  obtain ⟨z, hz, lz, z0, z1⟩ := h.at_ h.hb
  obtain ⟨c1, c2, _⟩ := conn_parts hc
  rw [ly, lz] at h1 ⊢
  have hyz : y ≠ z := fun e => by
    subst e
    have hd := (perm_iff.1 h.perm).2.2
    have := (List.getElem?_inj h.ha hd).1 (hy.trans hz.symm)
    exact hne this
  have h0 := conn_all hc ⟨y0, y1⟩ ⟨z0, z1⟩
  have h1' : gd x y z = ((0 + 1 : Nat) : Int) := by
    have : gd x y z ≠ 0 := fun e => hyz (gd_zero e)
    omega
  obtain ⟨k, hk⟩ := nxt_some h1'
  obtain ⟨_, k2, k3, _⟩ := nxt_spec hk
  have hkz : (k : Int) = z := gd_zero (by simpa using k3)
  rw [hkz] at k2
  exact ⟨⟨c1, c2⟩, ⟨y0, by omega⟩, ⟨z0, by omega⟩, hyz, k2⟩
theorem may_parts {g : Gt} {x : Gr} {p : List Int} (h : may g x p = true) : conn x = true ∧ perm p = true ∧ (p.length : Int) = x.n ∧ vg g x.n = true := by
  unfold may lay vgraph at h
  simp only [Bool.and_eq_true, beq_iff_eq] at h
  exact ⟨h.1.1.1.1.2, h.1.1.1.2, h.1.1.2, h.2⟩
theorem one_ok {x : Gr} {g : Gt} {p : List Int} (h : may g x p = true) (h1 : (ar g.k == 1) = true) : oriOk x (g1 g.k (loc p g.a)) = true := by
  obtain ⟨hc, hp, hn, hv⟩ := may_parts h
  obtain ⟨c1, c2, _⟩ := conn_parts hc
  obtain ⟨a, y, _, _, hy, ly, _, _⟩ := loc_at h
  have hr := (perm_iff.1 hp).2.1 y (List.mem_of_getElem? hy)
  have hk : ar g.k = 1 := by simpa using h1
  unfold oriOk
  rw [ly, vg_one c1 c2 hk hr.1 (by omega), show ar (g1 g.k y).k = 1 from hk]
  rfl
theorem routG_ok {x : Gr} {g : Gt} {p : List Int} (h : may g x p = true) : ∀ h' ∈ (routG x g p).1, oriOk x h' = true := by
  intro h' hm
  cases h1 : (ar g.k == 1)
  · obtain ⟨hc, _⟩ := may_parts h
    obtain ⟨c1, c2, _⟩ := conn_parts hc
    obtain ⟨a, b, ha, hb, hne, hw⟩ := OnWay.of h h1
    rw [routG_2 h h1, ha, hb] at hm
    simp only [List.mem_append, List.mem_singleton] at hm
    rcases hm with hm | rfl
    · exact rgL_ok ⟨c1, c2⟩ 4 hw h' hm
    · have hr := gd_range x (loc p (a : Int)) (loc p (b : Int))
      exact ((rgL_way 4 hw).near hc hne (rgL_end 4 hw (by omega))).cx
  · rw [routG_1 h h1] at hm
    simp at hm
    subst hm
    exact one_ok h h1
theorem rop_ok {x : Gr} {mode : Int} {g : Gt} {p : List Int} (h : may g x p = true) : ∀ h' ∈ (rop x mode g p).1, oriOk x h' = true := by
  cases hm : (mode == 1)
  · rw [rop_0 hm]; exact routG_ok h
  · rw [rop_1 hm]
    cases h1 : (ar g.k == 1)
    · show ∀ h' ∈ brG x p g, _
      obtain ⟨hc, _⟩ := may_parts h
      obtain ⟨c1, c2, _⟩ := conn_parts hc
      rw [brG_2 h1]
      exact lr_ok (spath_way ⟨c1, c2⟩)
    · show ∀ h' ∈ brG x p g, _
      rw [brG_1 h1]
      intro h' hm'
      simp at hm'
      subst hm'
      exact one_ok h h1
/-- A routed op: its gate can be oriented, and a swap has no condition. -/
def fineO (x : Gr) (o : Oq) : Prop := (o.k == 1) = true → oriOk x o.g = true ∧ ((o.g.k == 11) = true → o.cond = 0)
theorem ropS_fine {x : Gr} {mode : Int} : ∀ (xs : List Oq) (now : List Int) (t : List Oq × List Int), ropS x mode xs now = some t → (∀ o ∈ t.1, fineO x o) ∧ ((mode == 1) = true → t.2 = now)
  | [], now, t, h => by
    rw [ropS] at h
    injection h with h
    subst h
    exact ⟨fun o ho => by simp at ho, fun _ => rfl⟩
  | o :: r, now, t, h => by
    rw [ropS] at h
    split at h
    · rename_i h1
      split at h
      · rename_i hm
        rw [Option.map_eq_some_iff] at h
        obtain ⟨t', ht, rfl⟩ := h
        obtain ⟨k1, k2⟩ := ropS_fine r _ t' ht
        refine ⟨fun o' ho => ?_, fun h1' => ?_⟩
        · simp only [List.mem_append, List.mem_map] at ho
          rcases ho with ⟨h', hh, rfl⟩ | ho
          · intro _
            refine ⟨rop_ok hm h' hh, fun hk => ?_⟩
            exact if_pos hk
          · exact k1 o' ho
        · show t'.2 = now
          rw [k2 h1', rop_1 h1']
      · cases h
    · rename_i h1
      split at h
      · rename_i h2
        split at h
        · rw [Option.map_eq_some_iff] at h
          obtain ⟨t', ht, rfl⟩ := h
          obtain ⟨k1, k2⟩ := ropS_fine r _ t' ht
          refine ⟨fun o' ho => ?_, k2⟩
          simp only [List.mem_cons] at ho
          rcases ho with rfl | ho
          · intro hk
            exact absurd hk h1
          · exact k1 o' ho
        · cases h
      · exact ropS_fine r now t h
theorem rosR_fine {x : Gr} {mode : Int} {xs : List Oq} {p : List Int} {out : List Oq} {q : List Int} (h : rosR x xs p mode = some (out, q)) : (∀ o ∈ out, fineO x o) ∧ ((mode == 1) = true → q = p) := by
  unfold rosR at h
  split at h
  · exact ropS_fine xs p (out, q) h
  · cases h
theorem fine_swap {x : Gr} {os : List Oq} (h : ∀ o ∈ os, fineO x o) {k : Nat} {o : Oq} (ho : os[k]? = some o) (h1 : (o.k == 1) = true) (h2 : (o.g.k == 11) = true) : o.cond = 0 := (h o (List.mem_of_getElem? ho) h1).2 h2
theorem fine_ok {x : Gr} {os : List Oq} (h : ∀ o ∈ os, fineO x o) : ooAllOk x os = true := by
  unfold ooAllOk
  rw [List.all_eq_true]
  intro o ho
  cases h1 : (o.k == 1)
  · exact oo1k_n h1
  · rw [oo1k_1 h1]; exact (h o ho h1).1
theorem fine_resp {x : Gr} {os : List Oq} (h : ∀ o ∈ os, fineO x o) : respN x (opGates os) = true := by
  unfold respN opGates
  rw [List.all_eq_true]
  intro g hg
  simp only [List.mem_map, List.mem_filter] at hg
  obtain ⟨o, ⟨ho, h1⟩, rfl⟩ := hg
  exact ori_resp (h o ho h1).1
theorem fine_exe {x : Gr} {os : List Oq} (h : ∀ o ∈ os, fineO x o) : exeN x (opGates (ooAll x os)) = true := by
  rw [ooAll_yes (fine_ok h)]
  unfold exeN opGates
  rw [List.all_eq_true]
  intro g hg
  simp only [List.mem_map, List.mem_filter, List.mem_flatMap] at hg
  obtain ⟨o, ⟨⟨o', ho', hm⟩, h1⟩, rfl⟩ := hg
  cases h1' : (o'.k == 1)
  · rw [oo1_n h1'] at hm
    simp at hm
    subst hm
    rw [h1'] at h1
    cases h1
  · rw [oo1_1 h1'] at hm
    unfold gops at hm
    rw [List.mem_map] at hm
    obtain ⟨h', hh, rfl⟩ := hm
    exact ori_exe (h o' ho' h1').1 h' hh
end Go.Proofs.Ytfbalkbcglejjaa
namespace Go.Proofs.Ytfbalkbcglejjaa
open Go.ChangeShapes Go.WideShapes Go.ChangeAt Go.RowKit Go.Deep
set_option linter.unusedVariables false
set_option linter.unusedSimpArgs false
namespace fnRouteOps
theorem ropS_len (x : Gr) (mode : Int) : ∀ (xs : List Oq) (now : List Int), perm now = true → ∀ t, ropS x mode xs now = some t → t.1.length ≤ 10 * xs.length ∧ t.2.length = now.length
  | [], now, _, t, h => by
    simp [ropS] at h
    subst h
    simp
  | o :: r, now, hp, t, h => by
    rw [ropS] at h
    split at h
    · split at h
      · rw [Option.map_eq_some_iff] at h
        obtain ⟨u, hu, rfl⟩ := h
        have hw := rop_way (x := x) (mode := mode) (g := o.g) hp
        have h1 := ropS_len x mode r _ hw.1 u hu
        have h2 := rop_len x mode o.g now
        simp
        omega
      · cases h
    · split at h
      · split at h
        · rw [Option.map_eq_some_iff] at h
          obtain ⟨u, hu, rfl⟩ := h
          have h1 := ropS_len x mode r _ hp u hu
          simp
          omega
        · cases h
      · have h1 := ropS_len x mode r _ hp t h
        simp
        omega
theorem some_facts {x : Gr} {xs : List Oq} {p : List Int} {mode : Int} {out : List Oq} {q : List Int} (h : rosR x xs p mode = some (out, q)) : out.length ≤ 10 * xs.length ∧ q.length = p.length ∧ (mode = 0 ∨ mode = 1) := by
  unfold rosR at h
  split at h
  · rename_i hc
    simp only [Bool.and_eq_true, Bool.or_eq_true, beq_iff_eq] at hc
    have := ropS_len x mode xs p (lay_n hc.1).2.2 _ h
    exact ⟨this.1, this.2, hc.2⟩
  · cases h
theorem of_none {w w' : World} {r : Option (List Oq × List Int)} {e : Ending} (hr : r = none) (h : RosE w r e w') : ∃ v1 v2, e = .returned (.tuple #[v1, v2, .bool false]) ∧ w'.ownsRow w.heap.size 45 8 v1 0 (ocells []) ∧ w'.ownsRow w.heap.size 3 1 v2 0 (icells []) ∧ Ext w w' := by
  subst hr
  obtain ⟨v1, v2, b1, e1, h1, _, hb, h2, hx⟩ := h
  exact ⟨v1, v2, e1, h1, own_base h2 hb.1, hx⟩
theorem of_some {w w' : World} {r : Option (List Oq × List Int)} {out : List Oq} {q : List Int} {e : Ending} (hr : r = some (out, q)) (h : RosE w r e w') : ∃ v1 v2, e = .returned (.tuple #[v1, v2, .bool true]) ∧ w'.ownsRow w.heap.size 45 8 v1 out.length (ocells out) ∧ w'.ownsRow w.heap.size 3 1 v2 q.length (icells q) ∧ Ext w w' := by
  subst hr
  obtain ⟨v1, v2, b1, e1, h1, _, hb, h2, hx⟩ := h
  exact ⟨v1, v2, e1, h1, own_base h2 hb.1, hx⟩
theorem eqI_self (x : Int) : eqI x x = true := by simp [eqI]
set_option maxRecDepth 100000 in
set_option maxHeartbeats 16000000 in
theorem walk (A : Option Addr) (n c : Nat) (bs : List Int) (w : World) (h : Rd w w.heap.size 1 A n (u8cs bs)) (hm : n ≤ maxLen) :
    Calls Try.prog 4 #[.slice A n c] w fun e w' => e = .returned (.bool true) ∧ Ext w w' := by
  go_enter Try.func4, Try.ntmps4
  go_wp2_with fail
  refine (big_any A n c _ hm).mono ?_
  rintro e w0 ⟨rfl, rfl⟩
  by_cases hbig : 1048576 < n
  · have hd : decide (1048576 < n) = true := by simpa using hbig
    go_wp2
    go_ret
    exact ⟨rfl, Ext.refl _⟩
  have hd : decide (1048576 < n) = false := by simpa using hbig
  go_wp2_with fail
  refine (DrawRouteOps_any A n c bs _ h (by omega)).mono ?_
  rintro e w1 ⟨L, len, cap, xs, n1, E, l, cc, es, P, np, cp, p, mode, rfl, ⟨hn1, hn4⟩, hlen, hll, hlp, ⟨hm0, hm2⟩, hop, hoe, hip, hok, hx1⟩
  clear hd
  have HOK := Lib.hid hok
  have hle := (Rd.own hoe).len (f := Ed.cells) (fun _ => by simp [Ed.cells]) (by omega)
  subst hle
  have hX3 : Ext w (w1.alloc (.cells #[.int .i64 n1, .slice E es.length cc] 27)) := hx1.alloc _
  have hB3 : Blk (w1.alloc (.cells #[.int .i64 n1, .slice E es.length cc] 27)) w1.heap.size 27 #[.int .i64 n1, .slice E es.length cc] := Blk.new _ _ _
  have hL3 := (Rd.own hop).ext ((Ext.refl w1).alloc (.cells #[.int .i64 n1, .slice E es.length cc] 27))
  have hE3 := (Rd.own hoe).ext ((Ext.refl w1).alloc (.cells #[.int .i64 n1, .slice E es.length cc] 27))
  have hP3 := (Rd.own hip).ext ((Ext.refl w1).alloc (.cells #[.int .i64 n1, .slice E es.length cc] 27))
  have hcp := own_le hip
  have HXL := Lib.hid ((Rd.own hop).len Oq.cells_len (by omega))
  have HPL := Lib.hid ((Rd.own hip).len icell_len (by omega))
  clear hop hoe hip hx1 hok
  go_upto_region 4 with (fail)
  generalize (w1.alloc (.cells #[.int .i64 n1, .slice E es.length cc] 27)) = w3 at *
  generalize w1.heap.size = u at *
  have HX3 := Lib.hid hX3
  have HL : Hid (∀ w', Ext w3 w' → Rd w' w'.heap.size 8 L len (ocells xs)) := fun w' hx => hL3.ext hx
  have HG : Hid (∀ w', Ext w3 w' → GrAt w' w'.heap.size (.agg #[.int .i64 n1, .slice E es.length cc]) ⟨n1, es⟩) := fun w' hx => ⟨E, cc, rfl, hE3.ext hx⟩
  have HP : Hid (∀ w', Ext w3 w' → Rd w' w'.heap.size 1 P np (icells p)) := fun w' hx => hP3.ext hx
  have HB := Lib.hid hB3
  clear hX3 hL3 hE3 hB3 hP3
  have x3 : Ext w3 w3 := Ext.refl _
  have d0 : w3.cell? ⟨u, 0, none⟩ = some (.int .i64 n1) := HB.out.cell 0
  have d1 : w3.cell? ⟨u, 1, none⟩ = some (.slice E es.length cc) := HB.out.cell 1
  obtain ⟨R, hR⟩ : ∃ R, R = rosR ⟨n1, es⟩ xs p mode := ⟨_, rfl⟩
  have HR := Lib.hid hR
  clear hR
  go_wp2_with fail
  refine (impl_RouteOps_any L len cap xs _ ⟨n1, es⟩ P np cp p mode _ (HL.out _ x3) (by omega) (HG.out _ x3) (by simp; omega) HOK.out (HP.out _ x3) (by omega) hcp).mono ?_
  rw [← HR.out]
  intro e w4 hE4
  have y3 : Ext w3 w3 := Ext.refl _
  cases R with
  | none =>
    obtain ⟨v1, v2, rfl, ho4, hi4, y4⟩ := of_none rfl hE4
    replace y4 := x3.trans y4
    clear hE4 d0 d1 x3 y3
    obtain ⟨A1, c1, rfl, hr1⟩ := own_slice ho4
    obtain ⟨A2, c2, rfl, hr2⟩ := own_slice hi4
    have d0 : w4.cell? ⟨u, 0, none⟩ = some (.int .i64 n1) := (HB.out.ext y4).cell 0
    have d1 : w4.cell? ⟨u, 1, none⟩ = some (.slice E es.length cc) := (HB.out.ext y4).cell 1
    go_wp2_with fail
    refine (spec_RouteOps_any L len cap xs _ ⟨n1, es⟩ P np cp p mode _ (HL.out _ y4) (by omega) (HG.out _ y4) (by simp; omega) (HP.out _ y4) (by omega) hcp).mono ?_
    rw [← HR.out]
    intro e w5 hE5
    obtain ⟨v3, v4, rfl, ho5, hi5, y5⟩ := of_none rfl hE5
    clear hE5 d0 d1
    obtain ⟨A3, c3, rfl, hr3⟩ := own_slice ho5
    obtain ⟨A4, c4, rfl, hr4⟩ := own_slice hi5
    have H1 : Hid (∀ w', Ext w5 w' → Rd w' w'.heap.size 8 A1 0 (ocells [])) := fun w' hx => hr1.ext (y5.trans hx)
    have H2 : Hid (∀ w', Ext w5 w' → Rd w' w'.heap.size 1 A2 0 (icells [])) := fun w' hx => hr2.ext (y5.trans hx)
    have H3 : Hid (∀ w', Ext w5 w' → Rd w' w'.heap.size 8 A3 0 (ocells [])) := fun w' hx => hr3.ext hx
    have H4 : Hid (∀ w', Ext w5 w' → Rd w' w'.heap.size 1 A4 0 (icells [])) := fun w' hx => hr4.ext hx
    have Y5 := Lib.hid (y4.trans y5)
    clear hr1 hr2 hr3 hr4 y4 y5 ho4 ho5 hi4 hi5
    go_wp2_with fail
    refine (sameOps_any A1 A3 0 0 c1 c3 [] [] _ (H1.out _ (Ext.refl _)) (H3.out _ (Ext.refl _)) (by omega) (by omega)).mono ?_
    rintro e w6 ⟨rfl, z6⟩
    rw [eqL_self _ eqO_self]
    go_wp2_with fail
    refine (sameInts_any A2 A4 0 0 c2 c4 [] [] _ (H2.out _ z6) (H4.out _ z6) (by omega) (by omega)).mono ?_
    rintro e w7 ⟨rfl, z7⟩
    replace z7 := z6.trans z7
    rw [eqL_self _ eqI_self]
    go_wp2_with fail
    refine (sameOps_any A1 A3 0 0 c1 c3 [] [] _ (H1.out _ z7) (H3.out _ z7) (by omega) (by omega)).mono ?_
    rintro e w8 ⟨rfl, z8⟩
    replace z8 := z7.trans z8
    rw [eqL_self _ eqO_self]
    go_wp2_with fail
    refine (sameInts_any A2 A4 0 0 c2 c4 [] [] _ (H2.out _ z8) (H4.out _ z8) (by omega) (by omega)).mono ?_
    rintro e w9 ⟨rfl, z9⟩
    replace z9 := z8.trans z9
    rw [eqL_self _ eqI_self]
    go_wp2
    go_ret
    exact ⟨rfl, HX3.out.trans (Y5.out.trans z9)⟩
  | some R =>
    obtain ⟨out, q⟩ := R
    obtain ⟨v1, v2, rfl, ho4, hi4, y4⟩ := of_some rfl hE4
    replace y4 := x3.trans y4
    obtain ⟨f1, f2, f3⟩ := some_facts HR.out.symm
    rw [HXL.out] at f1
    rw [HPL.out] at f2
    have HF := Lib.hid (rosR_fine HR.out.symm)
    clear hE4 d0 d1 x3 y3
    obtain ⟨m, hmo⟩ : ∃ m, m = out.length := ⟨_, rfl⟩
    rw [← hmo] at ho4 f1
    rw [f2] at hi4
    obtain ⟨A1, c1, rfl, hr1⟩ := own_slice ho4
    obtain ⟨A2, c2, rfl, hr2⟩ := own_slice hi4
    have d0 : w4.cell? ⟨u, 0, none⟩ = some (.int .i64 n1) := (HB.out.ext y4).cell 0
    have d1 : w4.cell? ⟨u, 1, none⟩ = some (.slice E es.length cc) := (HB.out.ext y4).cell 1
    have HMO := Lib.hid hmo
    have HF2 := Lib.hid f2
    clear hmo f2
    go_wp2_with fail
    refine (spec_RouteOps_any L len cap xs _ ⟨n1, es⟩ P np cp p mode _ (HL.out _ y4) (by omega) (HG.out _ y4) (by simp; omega) (HP.out _ y4) (by omega) hcp).mono ?_
    rw [← HR.out]
    intro e w5 hE5
    obtain ⟨v3, v4, rfl, ho5, hi5, y5⟩ := of_some rfl hE5
    rw [← HMO.out] at ho5
    rw [HF2.out] at hi5
    clear hE5 d0 d1
    obtain ⟨A3, c3, rfl, hr3⟩ := own_slice ho5
    obtain ⟨A4, c4, rfl, hr4⟩ := own_slice hi5
    have H1 : Hid (∀ w', Ext w5 w' → Rd w' w'.heap.size 8 A1 m (ocells out)) := fun w' hx => hr1.ext (y5.trans hx)
    have H2 : Hid (∀ w', Ext w5 w' → Rd w' w'.heap.size 1 A2 np (icells q)) := fun w' hx => hr2.ext (y5.trans hx)
    have H3 : Hid (∀ w', Ext w5 w' → Rd w' w'.heap.size 8 A3 m (ocells out)) := fun w' hx => hr3.ext hx
    have H4 : Hid (∀ w', Ext w5 w' → Rd w' w'.heap.size 1 A4 np (icells q)) := fun w' hx => hr4.ext hx
    have Y5 := Lib.hid (y4.trans y5)
    clear hr1 hr2 hr3 hr4 y4 y5 ho4 ho5 hi4 hi5
    go_wp2_with fail
    refine (sameOps_any A1 A3 m m c1 c3 out out _ (H1.out _ (Ext.refl _)) (H3.out _ (Ext.refl _)) (by omega) (by omega)).mono ?_
    rintro e w6 ⟨rfl, z6⟩
    rw [eqL_self _ eqO_self]
    go_wp2_with fail
    refine (sameInts_any A2 A4 np np c2 c4 q q _ (H2.out _ z6) (H4.out _ z6) (by omega) (by omega)).mono ?_
    rintro e w7 ⟨rfl, z7⟩
    replace z7 := z6.trans z7
    rw [eqL_self _ eqI_self]
    clear z6
    go_wp2
    go_loop [13] (fun i => ∃ k : Nat, k ≤ m ∧ i = .int .i64 k) (fun i => m - (intOf i).toNat)
    case atStart => exact ⟨0, Nat.zero_le _, rfl⟩
    case round =>
      obtain ⟨k, hk, rfl⟩ := hrel
      by_cases hlt : k < m
      · obtain ⟨b, o, y, ea, hb, hy, r0, r1, r2, r3, r4, r5, r6, r7⟩ := op_at (H1.out _ z7) hlt
        subst ea
        have HY := Lib.hid hy
        clear hy
        cases h1 : (y.k == 1)
        · go_wp2
          go_round
          case rel => exact ⟨k + 1, by omega, by go_num⟩
          case measure => simp [intOf]; omega
        · cases h11 : (y.g.k == 11)
          · go_wp2
            go_round
            case rel => exact ⟨k + 1, by omega, by go_num⟩
            case measure => simp [intOf]; omega
          · have hc0 := fine_swap HF.out.1 HY.out h1 h11
            have hc : (y.cond != 0) = false := by simp [bne, hc0]
            clear hc0
            go_wp2
            go_round
            case rel => exact ⟨k + 1, by omega, by go_num⟩
            case measure => simp [intOf]; omega
      · have d0 : w7.cell? ⟨u, 0, none⟩ = some (.int .i64 n1) := (HB.out.ext (Y5.out.trans z7)).cell 0
        have d1 : w7.cell? ⟨u, 1, none⟩ = some (.slice E es.length cc) := (HB.out.ext (Y5.out.trans z7)).cell 1
        have hol : out.length = m := HMO.out.symm
        have HOL := Lib.hid hol
        clear hol
        go_wp2_with fail
        refine (impl_OrientOps_any A1 m c1 out _ ⟨n1, es⟩ _ (H1.out _ z7) (HG.out _ (Y5.out.trans z7)) (by omega) (by simp; omega)).mono ?_
        rintro e w8 ⟨v8, rfl, ho8, z8⟩
        replace z8 := z7.trans z8
        rw [fine_ok HF.out.1]
        have hdl := ooAll_len ⟨n1, es⟩ out
        rw [HOL.out] at hdl
        have HEX := Lib.hid (fine_exe HF.out.1)
        have HRE := Lib.hid (fine_resp HF.out.1)
        obtain ⟨A8, c8, rfl, hr8⟩ := own_slice ho8
        have HD8 : Hid (∃ d, d = ooAll ⟨n1, es⟩ out) := ⟨_, rfl⟩
        generalize ooAll ⟨n1, es⟩ out = dd at *
        obtain ⟨md, hmd⟩ : ∃ md, md = dd.length := ⟨_, rfl⟩
        rw [← hmd] at hr8 hdl ⊢
        have HMD := Lib.hid hmd
        have H8 := Lib.hid hr8
        have YY := Lib.hid (Y5.out.trans z8)
        clear hmd hr8 ho8 d0 d1 HD8
        have d0 : w8.cell? ⟨u, 0, none⟩ = some (.int .i64 n1) := (HB.out.ext YY.out).cell 0
        have d1 : w8.cell? ⟨u, 1, none⟩ = some (.slice E es.length cc) := (HB.out.ext YY.out).cell 1
        go_wp2
        have x8 : Ext w3 w8.drew := YY.out.trans (Ext.refl w8).drew
        have k8 : Ext w8 w8.drew := (Ext.refl w8).drew
        refine wp_region_held_drew (S := fun W => W.cell? ⟨u, 0, none⟩ = some (.int .i64 n1) ∧ W.cell? ⟨u, 1, none⟩ = some (.slice E es.length cc)) (by kernel_rfl) ⟨(HB.out.ext x8).cell 0, (HB.out.ext x8).cell 1⟩ (fun hHeld => ?_)
        (refine wpAnyH_take (i := 0) (v := ?_) rfl (by kernel_rfl) (by kernel_rfl) (by kernel_rfl) (fun _ _ _ h => h) (Or.inl ⟨by rfl, ?_⟩) (by assumption) ?_; rotate_left; · (intro w hSw; (try dsimp only at hSw); go_simp; all_goals with_reducible rfl); (try simp only [Act.put, List.getElem_toArray, List.getElem_cons_zero, List.getElem_cons_succ, List.setIfInBounds_toArray, List.set_cons_zero, List.set_cons_succ]))
        (try simp only [Act.put, List.getElem_toArray, List.getElem_cons_zero, List.getElem_cons_succ, List.setIfInBounds_toArray, List.set_cons_zero, List.set_cons_succ])
        (refine wpAnyH_take (i := 2) (v := ?_) rfl (by kernel_rfl) (by kernel_rfl) (by kernel_rfl) (fun _ _ _ h => h) (Or.inl ⟨by rfl, ?_⟩) (by assumption) ?_; rotate_left; · (intro w hSw; (try dsimp only at hSw); go_simp; all_goals with_reducible rfl); (try simp only [Act.put, List.getElem_toArray, List.getElem_cons_zero, List.getElem_cons_succ, List.setIfInBounds_toArray, List.set_cons_zero, List.set_cons_succ]))
        (try simp only [Act.put, List.getElem_toArray, List.getElem_cons_zero, List.getElem_cons_succ, List.setIfInBounds_toArray, List.set_cons_zero, List.set_cons_succ])
        refine wpAnyH_ready (rs := [1]) (by kernel_rfl) (by simp) ?_
        refine AllReadyH.cons rfl (fun K hK => ?_) AllReadyH.nil
        go_simp
        refine (impl_OpGates_any A1 m c1 out _ (H1.out _ (z8.trans k8)) (by omega)).mono ?_
        rintro e w9 ⟨v9, rfl, ho9, z9⟩
        obtain ⟨A9, c9, rfl, hr9⟩ := own_slice ho9
        have x9 := x8.trans z9
        have hgl9 : (opGates out).length ≤ 1048576 := by
          have := opGates_len out m
          rw [List.take_of_length_le (by rw [HOL.out]; omega)] at this
          omega
        have HR9 := Lib.hid hr9
        clear hr9 ho9
        refine hK.out _ _ ⟨(HB.out.ext x9).cell 0, (HB.out.ext x9).cell 1⟩ (fun hHeld => ?_)
        clear hK K
        (try simp only [Act.put, List.getElem_toArray, List.getElem_cons_zero, List.getElem_cons_succ, List.setIfInBounds_toArray, List.set_cons_zero, List.set_cons_succ])
        refine wpAnyH_ready (rs := [3]) (by kernel_rfl) (by simp) ?_
        refine AllReadyH.cons rfl (fun K hK => ?_) AllReadyH.nil
        go_simp
        refine (impl_RespectsGraph_any A9 _ c9 (opGates out) _ ⟨n1, es⟩ _ HR9.out (HG.out _ x9) (by omega) (by simp; omega)).mono ?_
        rintro e w10 ⟨rfl, z10⟩
        rw [HRE.out]
        have x10 := x9.trans z10
        refine hK.out _ _ ⟨(HB.out.ext x10).cell 0, (HB.out.ext x10).cell 1⟩ (fun hHeld => ?_)
        clear hK K
        (try simp only [Act.put, List.getElem_toArray, List.getElem_cons_zero, List.getElem_cons_succ, List.setIfInBounds_toArray, List.set_cons_zero, List.set_cons_succ])
        (refine wpAnyH_take (i := 4) (v := ?_) rfl (by kernel_rfl) (by kernel_rfl) (by kernel_rfl) (fun _ _ _ h => h) (Or.inl ⟨by rfl, ?_⟩) (by assumption) ?_; rotate_left; · (intro w hSw; (try dsimp only at hSw); go_simp; all_goals with_reducible rfl); (try simp only [Act.put, List.getElem_toArray, List.getElem_cons_zero, List.getElem_cons_succ, List.setIfInBounds_toArray, List.set_cons_zero, List.set_cons_succ]))
        (try simp only [Act.put, List.getElem_toArray, List.getElem_cons_zero, List.getElem_cons_succ, List.setIfInBounds_toArray, List.set_cons_zero, List.set_cons_succ])
        (refine wpAnyH_take (i := 5) (v := ?_) rfl (by kernel_rfl) (by kernel_rfl) (by kernel_rfl) (fun _ _ _ h => h) (Or.inl ⟨by rfl, ?_⟩) (by assumption) ?_; rotate_left; · (intro w hSw; (try dsimp only at hSw); go_simp; all_goals with_reducible rfl); (try simp only [Act.put, List.getElem_toArray, List.getElem_cons_zero, List.getElem_cons_succ, List.setIfInBounds_toArray, List.set_cons_zero, List.set_cons_succ]))
        (try simp only [Act.put, List.getElem_toArray, List.getElem_cons_zero, List.getElem_cons_succ, List.setIfInBounds_toArray, List.set_cons_zero, List.set_cons_succ])
        (refine wpAnyH_take (i := 6) (v := ?_) rfl (by kernel_rfl) (by kernel_rfl) (by kernel_rfl) (fun _ _ _ h => h) (Or.inl ⟨by rfl, ?_⟩) (by assumption) ?_; rotate_left; · (intro w hSw; (try dsimp only at hSw); go_simp; all_goals with_reducible rfl); (try simp only [Act.put, List.getElem_toArray, List.getElem_cons_zero, List.getElem_cons_succ, List.setIfInBounds_toArray, List.set_cons_zero, List.set_cons_succ]))
        (try simp only [Act.put, List.getElem_toArray, List.getElem_cons_zero, List.getElem_cons_succ, List.setIfInBounds_toArray, List.set_cons_zero, List.set_cons_succ])
        (refine wpAnyH_take (i := 7) (v := ?_) rfl (by kernel_rfl) (by kernel_rfl) (by kernel_rfl) (fun _ _ _ h => h) (Or.inl ⟨by rfl, ?_⟩) (by assumption) ?_; rotate_left; · (intro w hSw; (try dsimp only at hSw); go_simp; all_goals with_reducible rfl); (try simp only [Act.put, List.getElem_toArray, List.getElem_cons_zero, List.getElem_cons_succ, List.setIfInBounds_toArray, List.set_cons_zero, List.set_cons_succ]))
        (try simp only [Act.put, List.getElem_toArray, List.getElem_cons_zero, List.getElem_cons_succ, List.setIfInBounds_toArray, List.set_cons_zero, List.set_cons_succ])
        (refine wpAnyH_take (i := 8) (v := ?_) rfl (by kernel_rfl) (by kernel_rfl) (by kernel_rfl) (fun _ _ _ h => h) (Or.inl ⟨by rfl, ?_⟩) (by assumption) ?_; rotate_left; · (intro w hSw; (try dsimp only at hSw); go_simp; all_goals with_reducible rfl); (try simp only [Act.put, List.getElem_toArray, List.getElem_cons_zero, List.getElem_cons_succ, List.setIfInBounds_toArray, List.set_cons_zero, List.set_cons_succ]))
        (try simp only [Act.put, List.getElem_toArray, List.getElem_cons_zero, List.getElem_cons_succ, List.setIfInBounds_toArray, List.set_cons_zero, List.set_cons_succ])
        (refine wpAnyH_take (i := 10) (v := ?_) rfl (by kernel_rfl) (by kernel_rfl) (by kernel_rfl) (fun _ _ _ h => h) (Or.inl ⟨by rfl, ?_⟩) (by assumption) ?_; rotate_left; · (intro w hSw; (try dsimp only at hSw); go_simp; all_goals with_reducible rfl); (try simp only [Act.put, List.getElem_toArray, List.getElem_cons_zero, List.getElem_cons_succ, List.setIfInBounds_toArray, List.set_cons_zero, List.set_cons_succ]))
        (try simp only [Act.put, List.getElem_toArray, List.getElem_cons_zero, List.getElem_cons_succ, List.setIfInBounds_toArray, List.set_cons_zero, List.set_cons_succ])
        refine wpAnyH_ready (rs := [9]) (by kernel_rfl) (by simp) ?_
        refine AllReadyH.cons rfl (fun K hK => ?_) AllReadyH.nil
        go_simp
        refine (impl_OpGates_any A8 md c8 dd _ (H8.out.ext (k8.trans (z9.trans z10))) (by omega)).mono ?_
        rintro e w11 ⟨v11, rfl, ho11, z11⟩
        obtain ⟨A11, c11, rfl, hr11⟩ := own_slice ho11
        have x11 := x10.trans z11
        have hgl11 : (opGates dd).length ≤ 1048576 := by
          have := opGates_len dd md
          rw [List.take_of_length_le (by rw [HMD.out]; omega)] at this
          omega
        have HR11 := Lib.hid hr11
        clear hr11 ho11
        refine hK.out _ _ ⟨(HB.out.ext x11).cell 0, (HB.out.ext x11).cell 1⟩ (fun hHeld => ?_)
        clear hK K
        (try simp only [Act.put, List.getElem_toArray, List.getElem_cons_zero, List.getElem_cons_succ, List.setIfInBounds_toArray, List.set_cons_zero, List.set_cons_succ])
        refine wpAnyH_ready (rs := [11]) (by kernel_rfl) (by simp) ?_
        refine AllReadyH.cons rfl (fun K hK => ?_) AllReadyH.nil
        go_simp
        refine (impl_IsExecutable_any A11 _ c11 (opGates dd) _ ⟨n1, es⟩ _ HR11.out (HG.out _ x11) (by omega) (by simp; omega)).mono ?_
        rintro e w12 ⟨rfl, z12⟩
        rw [HEX.out]
        have x12 := x11.trans z12
        refine hK.out _ _ ⟨(HB.out.ext x12).cell 0, (HB.out.ext x12).cell 1⟩ (fun hHeld => ?_)
        clear hK K
        (try simp only [Act.put, List.getElem_toArray, List.getElem_cons_zero, List.getElem_cons_succ, List.setIfInBounds_toArray, List.set_cons_zero, List.set_cons_succ])
        (refine wpAnyH_take (i := 12) (v := ?_) rfl (by kernel_rfl) (by kernel_rfl) (by kernel_rfl) (fun _ _ _ h => h) (Or.inl ⟨by rfl, ?_⟩) (by assumption) ?_; rotate_left; · (intro w hSw; (try dsimp only at hSw); go_simp; all_goals with_reducible rfl); (try simp only [Act.put, List.getElem_toArray, List.getElem_cons_zero, List.getElem_cons_succ, List.setIfInBounds_toArray, List.set_cons_zero, List.set_cons_succ]))
        (try simp only [Act.put, List.getElem_toArray, List.getElem_cons_zero, List.getElem_cons_succ, List.setIfInBounds_toArray, List.set_cons_zero, List.set_cons_succ])
        (refine wpAnyH_take (i := 13) (v := ?_) rfl (by kernel_rfl) (by kernel_rfl) (by kernel_rfl) (fun _ _ _ h => h) (Or.inl ⟨by rfl, ?_⟩) (by assumption) ?_; rotate_left; · (intro w hSw; (try dsimp only at hSw); go_simp; all_goals with_reducible rfl); (try simp only [Act.put, List.getElem_toArray, List.getElem_cons_zero, List.getElem_cons_succ, List.setIfInBounds_toArray, List.set_cons_zero, List.set_cons_succ]))
        (try simp only [Act.put, List.getElem_toArray, List.getElem_cons_zero, List.getElem_cons_succ, List.setIfInBounds_toArray, List.set_cons_zero, List.set_cons_succ])
        (refine wpAnyH_take (i := 14) (v := ?_) rfl (by kernel_rfl) (by kernel_rfl) (by kernel_rfl) (fun _ _ _ h => h) (Or.inl ⟨by rfl, ?_⟩) (by assumption) ?_; rotate_left; · (intro w hSw; (try dsimp only at hSw); go_simp; all_goals with_reducible rfl); (try simp only [Act.put, List.getElem_toArray, List.getElem_cons_zero, List.getElem_cons_succ, List.setIfInBounds_toArray, List.set_cons_zero, List.set_cons_succ]))
        (try simp only [Act.put, List.getElem_toArray, List.getElem_cons_zero, List.getElem_cons_succ, List.setIfInBounds_toArray, List.set_cons_zero, List.set_cons_succ])
        rcases f3 with f3 | f3
        · subst f3
          (refine wpAnyH_take (i := 15) (v := .bool true) rfl (by kernel_rfl) (by kernel_rfl) (by kernel_rfl) (fun _ _ _ h => h) (Or.inl ⟨by rfl, ?_⟩) (by assumption) ?_; · (intro w hSw; (try dsimp only at hSw); go_simp; first | done | rfl))
          (try simp only [Act.put, List.getElem_toArray, List.getElem_cons_zero, List.getElem_cons_succ, List.setIfInBounds_toArray, List.set_cons_zero, List.set_cons_succ])
          (refine wpAnyH_take (i := 16) (v := ?_) rfl (by kernel_rfl) (by kernel_rfl) (by kernel_rfl) (fun _ _ _ h => h) (Or.inl ⟨by rfl, ?_⟩) (by assumption) ?_; rotate_left; · (intro w hSw; (try dsimp only at hSw); go_simp; all_goals with_reducible rfl); (try simp only [Act.put, List.getElem_toArray, List.getElem_cons_zero, List.getElem_cons_succ, List.setIfInBounds_toArray, List.set_cons_zero, List.set_cons_succ]))
          (try simp only [Act.put, List.getElem_toArray, List.getElem_cons_zero, List.getElem_cons_succ, List.setIfInBounds_toArray, List.set_cons_zero, List.set_cons_succ])
          (refine wpAnyH_take (i := 17) rfl (by kernel_rfl) (by kernel_rfl) (by kernel_rfl) (fun _ _ _ h => h) (Or.inr ⟨by rfl, rfl⟩) (by assumption) ?_; (try simp only [Act.put, List.getElem_toArray, List.getElem_cons_zero, List.getElem_cons_succ, List.setIfInBounds_toArray, List.set_cons_zero, List.set_cons_succ]))
          (refine wpAnyH_take (i := 18) rfl (by kernel_rfl) (by kernel_rfl) (by kernel_rfl) (fun _ _ _ h => h) (Or.inr ⟨by rfl, rfl⟩) (by assumption) ?_; (try simp only [Act.put, List.getElem_toArray, List.getElem_cons_zero, List.getElem_cons_succ, List.setIfInBounds_toArray, List.set_cons_zero, List.set_cons_succ]))
          (refine wpAnyH_take (i := 19) rfl (by kernel_rfl) (by kernel_rfl) (by kernel_rfl) (fun _ _ _ h => h) (Or.inr ⟨by rfl, rfl⟩) (by assumption) ?_; (try simp only [Act.put, List.getElem_toArray, List.getElem_cons_zero, List.getElem_cons_succ, List.setIfInBounds_toArray, List.set_cons_zero, List.set_cons_succ]))
          (refine wpAnyH_take (i := 20) (v := ?_) rfl (by kernel_rfl) (by kernel_rfl) (by kernel_rfl) (fun _ _ _ h => h) (Or.inl ⟨by rfl, ?_⟩) (by assumption) ?_; rotate_left; · (intro w hSw; (try dsimp only at hSw); go_simp; all_goals with_reducible rfl); (try simp only [Act.put, List.getElem_toArray, List.getElem_cons_zero, List.getElem_cons_succ, List.setIfInBounds_toArray, List.set_cons_zero, List.set_cons_succ]))
          (try simp only [Act.put, List.getElem_toArray, List.getElem_cons_zero, List.getElem_cons_succ, List.setIfInBounds_toArray, List.set_cons_zero, List.set_cons_succ])
          (refine wpAnyH_take (i := 21) (v := ?_) rfl (by kernel_rfl) (by kernel_rfl) (by kernel_rfl) (fun _ _ _ h => h) (Or.inl ⟨by rfl, ?_⟩) (by assumption) ?_; rotate_left; · (intro w hSw; (try dsimp only at hSw); go_simp; all_goals with_reducible rfl); (try simp only [Act.put, List.getElem_toArray, List.getElem_cons_zero, List.getElem_cons_succ, List.setIfInBounds_toArray, List.set_cons_zero, List.set_cons_succ]))
          (try simp only [Act.put, List.getElem_toArray, List.getElem_cons_zero, List.getElem_cons_succ, List.setIfInBounds_toArray, List.set_cons_zero, List.set_cons_succ])
          (refine wpAnyH_take (i := 22) (v := ?_) rfl (by kernel_rfl) (by kernel_rfl) (by kernel_rfl) (fun _ _ _ h => h) (Or.inl ⟨by rfl, ?_⟩) (by assumption) ?_; rotate_left; · (intro w hSw; (try dsimp only at hSw); go_simp; all_goals with_reducible rfl); (try simp only [Act.put, List.getElem_toArray, List.getElem_cons_zero, List.getElem_cons_succ, List.setIfInBounds_toArray, List.set_cons_zero, List.set_cons_succ]))
          (try simp only [Act.put, List.getElem_toArray, List.getElem_cons_zero, List.getElem_cons_succ, List.setIfInBounds_toArray, List.set_cons_zero, List.set_cons_succ])
          (refine wpAnyH_done (by kernel_rfl) ?_ _)
          go_wp2
          go_ret
          exact ⟨rfl, HX3.out.trans x12⟩
        · subst f3
          (refine wpAnyH_take (i := 15) (v := .bool false) rfl (by kernel_rfl) (by kernel_rfl) (by kernel_rfl) (fun _ _ _ h => h) (Or.inl ⟨by rfl, ?_⟩) (by assumption) ?_; · (intro w hSw; (try dsimp only at hSw); go_simp; first | done | rfl))
          (try simp only [Act.put, List.getElem_toArray, List.getElem_cons_zero, List.getElem_cons_succ, List.setIfInBounds_toArray, List.set_cons_zero, List.set_cons_succ])
          (refine wpAnyH_take (i := 16) (v := ?_) rfl (by kernel_rfl) (by kernel_rfl) (by kernel_rfl) (fun _ _ _ h => h) (Or.inl ⟨by rfl, ?_⟩) (by assumption) ?_; rotate_left; · (intro w hSw; (try dsimp only at hSw); go_simp; all_goals with_reducible rfl); (try simp only [Act.put, List.getElem_toArray, List.getElem_cons_zero, List.getElem_cons_succ, List.setIfInBounds_toArray, List.set_cons_zero, List.set_cons_succ]))
          (try simp only [Act.put, List.getElem_toArray, List.getElem_cons_zero, List.getElem_cons_succ, List.setIfInBounds_toArray, List.set_cons_zero, List.set_cons_succ])
          (refine wpAnyH_take (i := 17) (v := ?_) rfl (by kernel_rfl) (by kernel_rfl) (by kernel_rfl) (fun _ _ _ h => h) (Or.inl ⟨by rfl, ?_⟩) (by assumption) ?_; rotate_left; · (intro w hSw; (try dsimp only at hSw); go_simp; all_goals with_reducible rfl); (try simp only [Act.put, List.getElem_toArray, List.getElem_cons_zero, List.getElem_cons_succ, List.setIfInBounds_toArray, List.set_cons_zero, List.set_cons_succ]))
          (try simp only [Act.put, List.getElem_toArray, List.getElem_cons_zero, List.getElem_cons_succ, List.setIfInBounds_toArray, List.set_cons_zero, List.set_cons_succ])
          (refine wpAnyH_take (i := 18) (v := ?_) rfl (by kernel_rfl) (by kernel_rfl) (by kernel_rfl) (fun _ _ _ h => h) (Or.inl ⟨by rfl, ?_⟩) (by assumption) ?_; rotate_left; · (intro w hSw; (try dsimp only at hSw); go_simp; all_goals with_reducible rfl); (try simp only [Act.put, List.getElem_toArray, List.getElem_cons_zero, List.getElem_cons_succ, List.setIfInBounds_toArray, List.set_cons_zero, List.set_cons_succ]))
          (try simp only [Act.put, List.getElem_toArray, List.getElem_cons_zero, List.getElem_cons_succ, List.setIfInBounds_toArray, List.set_cons_zero, List.set_cons_succ])
          refine wpAnyH_ready (rs := [19]) (by kernel_rfl) (by simp) ?_
          refine AllReadyH.cons rfl (fun K hK => ?_) AllReadyH.nil
          go_simp
          refine (sameInts_any A2 P np np c2 cp q p _ (H2.out _ (z8.trans (k8.trans (z9.trans (z10.trans (z11.trans z12)))))) (HP.out _ x12) (by omega) (by omega)).mono ?_
          rintro e w13 ⟨rfl, z13⟩
          rw [HF.out.2 rfl, eqL_self _ eqI_self]
          have x13 := x12.trans z13
          refine hK.out _ _ ⟨(HB.out.ext x13).cell 0, (HB.out.ext x13).cell 1⟩ (fun hHeld => ?_)
          clear hK K
          (try simp only [Act.put, List.getElem_toArray, List.getElem_cons_zero, List.getElem_cons_succ, List.setIfInBounds_toArray, List.set_cons_zero, List.set_cons_succ])
          (refine wpAnyH_take (i := 20) (v := ?_) rfl (by kernel_rfl) (by kernel_rfl) (by kernel_rfl) (fun _ _ _ h => h) (Or.inl ⟨by rfl, ?_⟩) (by assumption) ?_; rotate_left; · (intro w hSw; (try dsimp only at hSw); go_simp; all_goals with_reducible rfl); (try simp only [Act.put, List.getElem_toArray, List.getElem_cons_zero, List.getElem_cons_succ, List.setIfInBounds_toArray, List.set_cons_zero, List.set_cons_succ]))
          (try simp only [Act.put, List.getElem_toArray, List.getElem_cons_zero, List.getElem_cons_succ, List.setIfInBounds_toArray, List.set_cons_zero, List.set_cons_succ])
          (refine wpAnyH_take (i := 21) (v := ?_) rfl (by kernel_rfl) (by kernel_rfl) (by kernel_rfl) (fun _ _ _ h => h) (Or.inl ⟨by rfl, ?_⟩) (by assumption) ?_; rotate_left; · (intro w hSw; (try dsimp only at hSw); go_simp; all_goals with_reducible rfl); (try simp only [Act.put, List.getElem_toArray, List.getElem_cons_zero, List.getElem_cons_succ, List.setIfInBounds_toArray, List.set_cons_zero, List.set_cons_succ]))
          (try simp only [Act.put, List.getElem_toArray, List.getElem_cons_zero, List.getElem_cons_succ, List.setIfInBounds_toArray, List.set_cons_zero, List.set_cons_succ])
          (refine wpAnyH_take (i := 22) (v := ?_) rfl (by kernel_rfl) (by kernel_rfl) (by kernel_rfl) (fun _ _ _ h => h) (Or.inl ⟨by rfl, ?_⟩) (by assumption) ?_; rotate_left; · (intro w hSw; (try dsimp only at hSw); go_simp; all_goals with_reducible rfl); (try simp only [Act.put, List.getElem_toArray, List.getElem_cons_zero, List.getElem_cons_succ, List.setIfInBounds_toArray, List.set_cons_zero, List.set_cons_succ]))
          (try simp only [Act.put, List.getElem_toArray, List.getElem_cons_zero, List.getElem_cons_succ, List.setIfInBounds_toArray, List.set_cons_zero, List.set_cons_succ])
          (refine wpAnyH_done (by kernel_rfl) ?_ _)
          go_wp2
          go_ret
          exact ⟨rfl, HX3.out.trans x13⟩
set_option maxRecDepth 100000 in
theorem lifted (os : Os) (started : os.Started) (H : Type) (enc : TypeId × Value → H) :
    ReturnsInHanded {} Try.checked os 4 .any (Rows.fnRouteOpsSpec.pre6 enc Try.prog Try.f4 Rows.fnRouteOpsRow.domain false) (Rows.fnRouteOpsSpec.post enc Try.prog Try.f4 false true false false) := by
  refine returnsInHanded_of_change (C := Try.checked) own started (by kernel_rfl) Try.func4
    (ChangeSpec.witness6 (enc := enc) (C := Try.checked) false ⟨#[], #[.slice none 0 0], []⟩ 8 (by kernel_rfl) (by kernel_rfl) (by kernel_rfl) (by kernel_rfl)) ?_
  intro W base args ds gs before hval0 hW hcnd _
  have hval : ∀ (j : Nat) t v, Try.f4.params[j]? = some t → args[j]? = some v → Value.okWide Try.prog W .any base t v := hval0
  have hW' := hW
  obtain ⟨p, q, hA0, hV, rfl, hfz, hnd⟩ := hW
  have hA : DataW.TrodAll enc Try.prog W 0 (fun _ => true) true Try.f4.params.toList args.toList ds p := hA0
  rw [Try.params4] at hA hval
  obtain ⟨v0, vs0, d0, ds0, p0, q0, hargs, rfl, rfl, h0, r0⟩ := trodAll_cons hA
  obtain ⟨rfl, rfl, rfl⟩ := trodAll_nil r0
  obtain rfl : args = #[v0] := by cases args; simp_all
  clear hA0 hval0 hfz hnd hV hcnd
  obtain ⟨A, n, c, bs, rfl, hnc0, hcm0, hr0, hok0⟩ := open_lbytes (hval 0 _ v0 rfl rfl) h0
  refine (walk A n c bs W hr0 (by omega)).mono fun e W' ⟨he, hx⟩ => ?_
  subst he
  exact ⟨_, rfl, law_post rfl (by rw [Try.params4]; decide +kernel) rfl hW' rfl rfl rfl hx⟩

theorem over : Rows.fnRouteOpsRow.holds Try.pinned (OpenSpec.ofChange Rows.fnRouteOpsSpec) :=
  OpenClaim.holds_of_wide 4 Try.f4 rfl rfl rfl rfl rfl rfl rfl ⟨rfl, rfl, rfl, rfl, rfl⟩ rfl rfl rfl rfl rfl (by kernel_rfl) Try.func4 (by kernel_rfl)
    (of_decide_eq_true (by kernel_rfl)) (by unfold Func.isWrapper; first | (rw [if_pos (by decide +kernel)]; kernel_rfl) | (rw [if_neg (by decide +kernel)]; exact ⟨rfl, rfl⟩))
    (fun os started H enc _ => lifted os started H enc)

/-- The statement. -/
theorem proved : Rows.FnRouteOpsSaid := over
#print axioms proved

end fnRouteOps
end Go.Proofs.Ytfbalkbcglejjaa
