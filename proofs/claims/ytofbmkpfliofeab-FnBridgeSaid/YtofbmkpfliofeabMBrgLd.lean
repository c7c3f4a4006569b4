/-
  Helper text (no claim of its own): drawn connected graphs.
-/
import Derived.Test.YtofbmkpfliofeabMBrgLa
import Derived.Test.YtofbmkpfliofeabMBrgLc
import Derived.Test.YtofbmkpfliofeabMBrgLb
/-
  Helper text (no claim of its own): executable gates respect the graph and are not changed by orientation (plain Lean), and whether gates respect a graph, by the program.
-/
namespace Go.Proofs.Ytofbmkpfliofeab
open Go.ChangeShapes Go.WideShapes Go.ChangeAt Go.RowKit Go.Deep
set_option linter.unusedVariables false
def resp1 (x : Gr) (g : Gt) : Bool := vg g x.n && (ar g.k == 1 || (ar g.k == 2 && coup x g))
def respN (x : Gr) (gs : List Gt) : Bool := gs.all (resp1 x)
theorem respN_no {x : Gr} {gs : List Gt} {k : Nat} {g : Gt} (h : gs[k]? = some g) (hg : resp1 x g = false) : respN x gs = false := by
  unfold respN
  rw [Bool.eq_false_iff]
  intro ha
  rw [List.all_eq_true] at ha
  rw [ha g (List.mem_of_getElem? h)] at hg
  cases hg
theorem respN_snoc {x : Gr} {gs : List Gt} {k : Nat} {g : Gt} (h : gs[k]? = some g) (hk : respN x (gs.take k) = true) (hg : resp1 x g = true) : respN x (gs.take (k + 1)) = true := by
  unfold respN at *
  rw [take_snoc h, List.all_append, hk]
  simp [hg]
theorem exe_parts {x : Gr} {g : Gt} (h : exe1 x g = true) : vg g x.n = true ∧ ((ar g.k == 1) = true ∨ ((g.k == 9) = true ∧ hasE x.es g.a g.b = true)) := by
  unfold exe1 at h
  simp only [Bool.and_eq_true, Bool.or_eq_true] at h
  exact h
theorem exe_resp1 {x : Gr} {g : Gt} (h : exe1 x g = true) : resp1 x g = true := by
  obtain ⟨h1, h2 | ⟨h3, h4⟩⟩ := exe_parts h
  · unfold resp1; rw [h1, h2]; rfl
  · unfold resp1 coup; rw [h1, ar_9_11 (.inl h3), h4]; rfl
theorem exe_ori1 {x : Gr} {g : Gt} (h : exe1 x g = true) : oriOk x g = true ∧ oriL x g = [g] := by
  obtain ⟨h1, h2 | ⟨h3, h4⟩⟩ := exe_parts h
  · have : oriOk x g = true := by unfold oriOk; rw [h1, h2]; rfl
    exact ⟨this, oriL_1 this h2⟩
  · exact oriL_9a h1 h3 h4
theorem exe_resp {x : Gr} {gs : List Gt} (h : exeN x gs = true) : respN x gs = true := by
  unfold exeN at h
  unfold respN
  rw [List.all_eq_true] at *
  exact fun g hg => exe_resp1 (h g hg)
theorem exe_ori {x : Gr} {gs : List Gt} (h : exeN x gs = true) : oriAllOk x gs = true ∧ oriAll x gs = gs := by
  unfold exeN at h
  rw [List.all_eq_true] at h
  have h1 : oriAllOk x gs = true := by
    unfold oriAllOk
    rw [List.all_eq_true]
    exact fun g hg => (exe_ori1 (h g hg)).1
  refine ⟨h1, ?_⟩
  rw [oriAll_yes h1]
  clear h1
  induction gs with
  | nil => rfl
  | cons g gs ih =>
    rw [List.flatMap_cons, (exe_ori1 (h g (by simp))).2, ih (fun g' hg' => h g' (by simp [hg']))]
    rfl
theorem resp1_bad {x : Gr} {g : Gt} (h : vg g x.n = false) : resp1 x g = false := by unfold resp1; rw [h]; rfl
theorem resp1_3 {x : Gr} {g : Gt} (h : ar g.k = 3) : resp1 x g = false := by unfold resp1; rw [h]; simp
theorem resp1_2 {x : Gr} {g : Gt} (hv : vg g x.n = true) (h : ar g.k = 2) : resp1 x g = coup x g := by unfold resp1; rw [hv, h]; simp
theorem resp1_1 {x : Gr} {g : Gt} (hv : vg g x.n = true) (h : ar g.k = 1) : resp1 x g = true := by unfold resp1; rw [hv, h]; simp

set_option maxRecDepth 100000 in
set_option maxHeartbeats 4000000 in
theorem impl_RespectsGraph_any (A : Option Addr) (n c : Nat) (gs : List Gt) (v : Value) (x : Gr) (w : World) (h : Rd w w.heap.size 4 A n (gcells gs)) (hv : GrAt w w.heap.size v x) (hn : n ≤ 100000000) (hm : x.es.length ≤ 100000000) :
    Calls Try.prog 11 #[.slice A n c, v] w fun e w' => e = .returned (.bool (respN x gs)) ∧ Ext w w' := by
  have hlen := Lib.hid (h.len Gt.cells_len (by omega))
  obtain ⟨A1, c1, rfl, h1⟩ := hv
  have hG : GrAt w w.heap.size (.agg #[.int .i64 x.n, .slice A1 x.es.length c1]) x := ⟨A1, c1, rfl, h1⟩
  clear h1
  go_enter Try.func11, Try.ntmps11
  go_wp2
  go_loopw [9] (fun i wr => ∃ k : Nat, k ≤ n ∧ i = .int .i64 k ∧ Hid (respN x (gs.take k) = true) ∧ Blk wr w.heap.size 27 #[.int .i64 x.n, .slice A1 x.es.length c1] ∧ Ext w wr) (fun i _ => n - (intOf i).toNat)
  case atStart => exact ⟨0, Nat.zero_le _, rfl, Lib.hid (by simp [respN]), Blk.new _ _ _, (by repeat (first | exact Ext.refl _ | assumption | refine Ext.alloc ?_ _ | refine Ext.drewN ?_ _ | refine Ext.drew ?_))⟩
  case round =>
    obtain ⟨k, hk, rfl, HQ, hB, hx⟩ := hrel
    by_cases hlt : k < n
    · obtain ⟨b, o, g, rfl, hb, hg, r0, r1, r2, r3⟩ := gate_at (h.ext hx) hlt
      have HG := Lib.hid hg
      clear hg
      have hlb := hB.lt
      have q0 : wr.cell? ⟨w.heap.size, 0, none⟩ = some (.int .i64 x.n) := hB.cell 0
      have q1 : wr.cell? ⟨w.heap.size, 1, none⟩ = some (.slice A1 x.es.length c1) := hB.cell 1
      go_wp2_with fail
      refine (impl_IsValidGate_any g x.n _).mono ?_
      rintro e w1 ⟨rfl, hy1⟩
      have hL1 : Blk w1 wr.heap.size 43 #[.int .i64 g.k, .int .i64 g.a, .int .i64 g.b, .int .i64 g.c] := (Blk.new wr _ _).ext hy1
      have hB1 := (hB.alloc (.cells #[.int .i64 g.k, .int .i64 g.a, .int .i64 g.b, .int .i64 g.c] 43)).ext hy1
      have hx1 : Ext w w1 := Ext.trans (hx.alloc _) hy1
      clear hy1 q0 q1 r0 r1 r2 r3 hB
      have p0 : w1.cell? ⟨wr.heap.size, 0, none⟩ = some (.int .i64 g.k) := hL1.cell 0
      have p1 : w1.cell? ⟨wr.heap.size, 1, none⟩ = some (.int .i64 g.a) := hL1.cell 1
      have p2 : w1.cell? ⟨wr.heap.size, 2, none⟩ = some (.int .i64 g.b) := hL1.cell 2
      have q0 : w1.cell? ⟨w.heap.size, 0, none⟩ = some (.int .i64 x.n) := hB1.cell 0
      have q1 : w1.cell? ⟨w.heap.size, 1, none⟩ = some (.slice A1 x.es.length c1) := hB1.cell 1
      cases hv : vg g x.n
      · have HF := Lib.hid (respN_no HG.out (x := x) (resp1_bad hv))
        go_wp2
        go_ret
        exact ⟨ret_bool HF.out.symm, hx1⟩
      · have HV := Lib.hid hv
        clear hv
        go_wp2_with fail
        refine (impl_Arity_any _ _).mono ?_
        rintro e w2 ⟨rfl, rfl⟩
        cases h3 : (ar g.k == 3)
        · go_wp2_with fail
          refine (impl_Arity_any _ _).mono ?_
          rintro e w2 ⟨rfl, rfl⟩
          cases h2 : (ar g.k == 2)
          · have HT : Hid (resp1 x g = true) := resp1_1 HV.out (by have z1 := (vg_parts HV.out).2.2.1; have z2 := ar_range g.k; simp at h2 h3; omega)
            go_wp2
            go_roundw
            case rel => exact ⟨k + 1, by omega, by go_num, Lib.hid (respN_snoc HG.out HQ.out HT.out), hB1, hx1⟩
            case measure => simp [intOf]; omega
          · have HC : Hid (resp1 x g = cpl x.es g.a g.b) := resp1_2 HV.out (by simpa using h2)
            go_wp2_with fail
            refine (impl_AreCoupled_any _ x g.a g.b _ ((hG.up hx1 (Nat.le_refl _)).more hx1.size) hm).mono ?_
            rintro e w2 ⟨rfl, hy2⟩
            have hB2 := hB1.ext hy2
            have hx2 := hx1.trans hy2
            clear hy2
            cases he : cpl x.es g.a g.b
            · have HF := Lib.hid (respN_no HG.out (x := x) (HC.out.trans he))
              go_wp2
              go_ret
              exact ⟨ret_bool HF.out.symm, hx2⟩
            · have HT := Lib.hid (HC.out.trans he)
              go_wp2
              go_roundw
              case rel => exact ⟨k + 1, by omega, by go_num, Lib.hid (respN_snoc HG.out HQ.out HT.out), hB2, hx2⟩
              case measure => simp [intOf]; omega
        · have HF := Lib.hid (respN_no HG.out (x := x) (resp1_3 (by simpa using h3)))
          go_wp2
          go_ret
          exact ⟨ret_bool HF.out.symm, hx1⟩
    · rw [List.take_of_length_le (by rw [hlen.out]; omega)] at HQ
      have q0 : wr.cell? ⟨w.heap.size, 0, none⟩ = some (.int .i64 x.n) := hB.cell 0
      go_wp2
      go_ret
      exact ⟨ret_bool HQ.out.symm, hx⟩
end Go.Proofs.Ytofbmkpfliofeab
/-
  Helper text (no claim of its own): routing by bridges does the same as the gates under new names (plain Lean).
-/
namespace Go.Proofs.Ytofbmkpfliofeab
open Go.ChangeShapes Go.WideShapes Go.ChangeAt Go.RowKit Go.Deep
set_option linter.unusedVariables false
set_option linter.unusedSimpArgs false
section
variable {adj : Int → Int → Bool} {n : Nat}
theorem lvl_sym (hs : ∀ a b, adj a b = adj b a) : ∀ (s : Nat) {i j : Nat}, i < n → j < n → Dist.lvl adj n (i : Int) s (j : Int) = true → Dist.lvl adj n (j : Int) s (i : Int) = true
  | 0, i, j, hi, hj, h => by
    simp [Dist.lvl] at h ⊢
    exact h.symm
  | s + 1, i, j, hi, hj, h => by
    rcases Dist.lvl_succ.1 h with h | ⟨x, hx, h1, h2⟩
    · exact Dist.lvl_mono1 (lvl_sym hs s hi hj h)
    · exact (Dist.lvl_front hj hi).2 (.inr ⟨x, hx, by rw [hs]; exact h2, lvl_sym hs s hi hx h1⟩)
theorem lvl_trans {i : Int} {s k : Nat} (h : Dist.lvl adj n i s (k : Int) = true) : ∀ (t : Nat) {j : Int}, Dist.lvl adj n (k : Int) t j = true → Dist.lvl adj n i (s + t) j = true
  | 0, j, h2 => by
    simp [Dist.lvl] at h2
    rw [h2]
    exact h
  | t + 1, j, h2 => by
    rcases Dist.lvl_succ.1 h2 with h2 | ⟨x, hx, h3, h4⟩
    · exact Dist.lvl_mono1 (lvl_trans h t h2)
    · exact Dist.lvl_succ.2 (.inr ⟨x, hx, lvl_trans h t h3, h4⟩)
end
theorem cpl_sym (es : List Ed) (a b : Int) : cpl es a b = cpl es b a := by unfold cpl; rw [Bool.or_comm]
/-- In a connected graph every vertex is reached from every other. -/
theorem conn_all {x : Gr} {n i j : Nat} (hn : x.n = n) (hc : conn x = true) (hi : i < n) (hj : j < n) : 0 ≤ gd x (i : Int) (j : Int) := by
  unfold conn at hc
  simp only [Bool.and_eq_true, decide_eq_true_eq] at hc
  obtain ⟨⟨h1, h4⟩, hall⟩ := hc
  rw [hn] at h1 h4 hall
  have hz : ∀ k : Nat, k < n → ∃ s, Dist.lvl (cpl x.es) n ((0 : Nat) : Int) s (k : Int) = true := fun k hk => by
    have h := List.all_eq_true.1 hall k (by simpa using hk)
    rw [decide_eq_true_eq] at h
    rw [show (0 : Int) = ((0 : Nat) : Int) from rfl, gd_yes hn (by omega) (by omega) (by omega) (by omega) (by omega) (by omega)] at h
    obtain ⟨s, hs⟩ := Int.eq_ofNat_of_zero_le h
    exact ⟨s, (Dist.gdist_lvl hs).2.1⟩
  obtain ⟨s, hs⟩ := hz i hi
  obtain ⟨t, ht⟩ := hz j hj
  have hst := lvl_trans (lvl_sym (cpl_sym x.es) s (by omega) hi hs) t ht
  obtain ⟨u, -, hu, hu0⟩ := Dist.least (p := fun u => Dist.lvl (cpl x.es) n (i : Int) u (j : Int)) hst
  have hun := Dist.lvl_lt hi hj hu hu0
  rw [gd_yes hn (by omega) (by omega) (by omega) (by omega) (by omega) (by omega), Dist.gdist_some hun hu hu0]
  omega
theorem gd_zero {x : Gr} {a b : Int} (h : gd x a b = ((0 : Nat) : Int)) : a = b := by
  obtain ⟨n, i, j, hn, h1, h4, rfl, rfl, hi, hj, hg⟩ := gd_ok (by omega : 0 ≤ gd x a b)
  rw [hg] at h
  have := (Dist.gdist_lvl h).2.1
  simp [Dist.lvl] at this
  omega
theorem spw_0 (x : Gr) (b a : Int) : spw x b 0 a = [] := rfl
/-- The step ahead on a shortest path. -/
theorem nxt_more {x : Gr} {a b : Int} {d : Nat} (h : gd x a b = ((d + 1 : Nat) : Int)) : ∃ k : Nat, (k : Int) < x.n ∧ cpl x.es a (k : Int) = true ∧ gd x (k : Int) b = (d : Int) ∧ spw x b (d + 1) a = (k : Int) :: spw x b d (k : Int) := by
  obtain ⟨k, hk⟩ := nxt_some h
  obtain ⟨h1, h2, h3, -⟩ := nxt_spec hk
  exact ⟨k, h1, h2, h3, spw_step hk⟩
/-- The shapes of a shortest path between two qubits. -/
theorem path_shape {x : Gr} {n a b : Nat} (hn : x.n = n) (hc : conn x = true) (ha : a < n) (hb : b < n) (hab : a ≠ b) :
    (spath x a b = [(a : Int), (b : Int)] ∧ cpl x.es a b = true) ∨
    (∃ k : Nat, k < n ∧ a ≠ k ∧ k ≠ b ∧ spath x a b = [(a : Int), (k : Int), (b : Int)] ∧ cpl x.es a k = true ∧ cpl x.es k b = true) ∨
    (∃ k m : Nat, k < n ∧ m < n ∧ a ≠ k ∧ k ≠ b ∧ a ≠ m ∧ m ≠ b ∧ k ≠ m ∧ spath x a b = [(a : Int), (k : Int), (m : Int), (b : Int)] ∧ cpl x.es a k = true ∧ cpl x.es k m = true ∧ cpl x.es m b = true) := by
  have h0 := conn_all hn hc ha hb
  obtain ⟨d, hd⟩ := Int.eq_ofNat_of_zero_le h0
  obtain ⟨n', i, j, hn', h1', h4', hi', hj', hi, hj, hg⟩ := gd_ok h0
  have hnn : n' = n := by omega
  subst hnn
  have hii : i = a := by omega
  have hjj : j = b := by omega
  subst hii hjj
  rw [hg] at hd
  have hdn := (Dist.gdist_lvl hd).1
  rw [← hg] at hd
  have hd4 : d < 4 := by omega
  rcases (show d = 0 ∨ d = 1 ∨ d = 2 ∨ d = 3 by omega) with rfl | rfl | rfl | rfl
  · exact absurd (gd_zero hd) (by omega)
  · obtain ⟨k, k1, k2, k3, k4⟩ := nxt_more hd
    have e := gd_zero k3
    left
    rw [spath_yes hd, k4, spw_0]
    rw [← e]
    exact ⟨rfl, k2⟩
  · obtain ⟨k, k1, k2, k3, k4⟩ := nxt_more hd
    obtain ⟨m, m1, m2, m3, m4⟩ := nxt_more k3
    have e := gd_zero m3
    right; left
    refine ⟨k, by omega, fun e1 => ?_, fun e1 => ?_, ?_, k2, ?_⟩
    · subst e1; rw [hd] at k3; omega
    · subst e1
      rw [gd_same ⟨by omega, by omega⟩ (by omega) rfl] at k3
      omega
    · rw [spath_yes hd, k4, m4, spw_0, e]
    · rw [← e]; exact m2
  · obtain ⟨k, k1, k2, k3, k4⟩ := nxt_more hd
    obtain ⟨m, m1, m2, m3, m4⟩ := nxt_more k3
    obtain ⟨q, q1, q2, q3, q4⟩ := nxt_more m3
    have e := gd_zero q3
    right; right
    refine ⟨k, m, by omega, by omega, fun e1 => ?_, fun e1 => ?_, fun e1 => ?_, fun e1 => ?_, fun e1 => ?_, ?_, k2, m2, ?_⟩
    · subst e1; rw [hd] at k3; omega
    · subst e1
      rw [gd_same ⟨by omega, by omega⟩ (by omega) rfl] at k3
      omega
    · subst e1; rw [hd] at m3; omega
    · subst e1
      rw [gd_same ⟨by omega, by omega⟩ (by omega) rfl] at m3
      omega
    · subst e1; rw [k3] at m3; omega
    · rw [spath_yes hd, k4, m4, q4, spw_0, e]
    · rw [← e]; exact q2
/-- Where CX gates, one behind the other, take an amplitude from. -/
def cxF : List (Nat × Nat) → Nat → Nat
  | [], j => j
  | s :: l, j => cxS s.1 s.2 (cxF l j)
def cxL (l : List (Nat × Nat)) : List Gt := l.map fun s => gcx s.1 s.2
theorem apG_cxL : ∀ (l : List (Nat × Nat)) (f : Nat → Zw) (j : Nat), apG (cxL l) f j = f (cxF l j)
  | [], f, j => rfl
  | s :: l, f, j => by
    show apG (cxL l) (ap1 (gcx s.1 s.2) f) j = _
    rw [apG_cxL l]
    exact ap_cx s.1 s.2 0 f (cxF l j)
theorem hcs_cxL (l : List (Nat × Nat)) : hcs (cxL l) = 0 := by
  induction l with
  | nil => rfl
  | cons s l ih => show hcs (gcx s.1 s.2 :: cxL l) = 0; rw [hcs_cons, ih]; rfl
def way3 (a k b : Nat) : List (Nat × Nat) := [(a, k), (k, b), (a, k), (k, b)]
def way4 (a k m b : Nat) : List (Nat × Nat) := [(a, k), (k, m), (m, b), (k, m), (m, b), (a, k), (k, m), (m, b), (k, m), (m, b)]
theorem chk_w3 : (List.range 5).all (fun n => (List.range n).all fun a => (List.range n).all fun k => (List.range n).all fun b => (a == k || k == b || a == b) || (List.range (2 ^ n)).all fun j => (cxF (way3 a k b) j == cxS a b j)) = true := by kernel_rfl
theorem chk_w4 : (List.range 5).all (fun n => (List.range n).all fun a => (List.range n).all fun k => (List.range n).all fun m => (List.range n).all fun b => (a == k || k == b || a == b || a == m || m == b || k == m) || (List.range (2 ^ n)).all fun j => (cxF (way4 a k m b) j == cxS a b j)) = true := by kernel_rfl
theorem same_cxL {n a b : Nat} (hn : 1 ≤ n ∧ n ≤ 4) (ha : a < n) (hb : b < n) (hab : a ≠ b) {l : List (Nat × Nat)} (hl : ∀ s ∈ l, s.1 < n ∧ s.2 < n ∧ s.1 ≠ s.2) (he : ∀ j, j < 2 ^ n → cxF l j = cxS a b j) : Same n [gcx a b] (cxL l) := by
  refine Same.of (d := 0) (by omega) ?_ (by rw [hcs_cxL]; rfl) fun f j hj => ?_
  · intro g hg
    obtain ⟨s, hs, rfl⟩ := List.mem_map.1 hg
    obtain ⟨h1, h2, h3⟩ := hl s hs
    exact vg_cxN hn h1 h2 h3
  · rw [apG_cxL, he j hj]
    show f (cxS a b j) = ap1 (gcx a b) f j
    exact (ap_cx a b 0 f j).symm
theorem vg_one {k a : Int} {n : Nat} (hk : 1 ≤ k ∧ k ≤ 8) (hn : 1 ≤ n ∧ n ≤ 4) (h0 : 0 ≤ a) (ha : a < n) : vg (g1 k a) n = true := by
  obtain ⟨a, rfl⟩ := Int.eq_ofNat_of_zero_le h0
  have ha' : a < n := by omega
  clear ha h0
  rcases (show k = 1 ∨ k = 2 ∨ k = 3 ∨ k = 4 ∨ k = 5 ∨ k = 6 ∨ k = 7 ∨ k = 8 by omega) with rfl | rfl | rfl | rfl | rfl | rfl | rfl | rfl <;>
  (rcases (show n = 1 ∨ n = 2 ∨ n = 3 ∨ n = 4 by omega) with rfl | rfl | rfl | rfl
   · obtain rfl : a = 0 := by omega
     rfl
   · rcases (show a = 0 ∨ a = 1 by omega) with rfl | rfl <;> rfl
   · rcases (show a = 0 ∨ a = 1 ∨ a = 2 by omega) with rfl | rfl | rfl <;> rfl
   · rcases (show a = 0 ∨ a = 1 ∨ a = 2 ∨ a = 3 by omega) with rfl | rfl | rfl | rfl <;> rfl)
theorem ar_one {k : Int} (h : (ar k == 1) = true) : 1 ≤ k ∧ k ≤ 8 := by
  rw [beq_iff_eq] at h
  unfold ar at h
  split at h
  · omega
  · split at h
    · omega
    · omega
/-- What is known of a gate that may be routed. -/
theorem may_facts {x : Gr} {p : List Int} {g : Gt} (h : may g x p = true) : (perm p = true ∧ x.n = (p.length : Int) ∧ p.length ≤ 4 ∧ conn x = true) ∧ vg g x.n = true ∧ bas g = true := by
  unfold may lay at h
  simp only [Bool.and_eq_true] at h
  obtain ⟨⟨⟨⟨hv, hp⟩, hn⟩, hb⟩, hg⟩ := h
  refine ⟨⟨hp, (beq_iff_eq.1 hn).symm, (perm_le hp).2, ?_⟩, hg, hb⟩
  unfold vgraph at hv
  rw [Bool.and_eq_true] at hv
  exact hv.2
theorem loc_in {p : List Int} (hp : perm p = true) {i : Nat} (hi : i < p.length) : ∃ y : Nat, loc p (i : Int) = y ∧ y < p.length ∧ p[i]? = some (y : Int) := by
  have h := (perm_iff.1 hp).2.1 p[i] (List.getElem_mem hi)
  obtain ⟨y, hy⟩ := Int.eq_ofNat_of_zero_le h.1
  refine ⟨y, ?_, by omega, ?_⟩
  · rw [loc_nat (List.getElem?_eq_getElem hi), hy]
  · rw [List.getElem?_eq_getElem hi, hy]
theorem loc_ne {p : List Int} (hp : perm p = true) {i j : Nat} (hi : i < p.length) (hj : j < p.length) (hij : i ≠ j) : loc p (i : Int) ≠ loc p (j : Int) := by
  rw [loc_nat (List.getElem?_eq_getElem hi), loc_nat (List.getElem?_eq_getElem hj)]
  intro e
  have hnd := List.pairwise_iff_getElem.1 (perm_iff.1 hp).2.2
  rcases Nat.lt_or_gt_of_ne hij with h | h
  · exact hnd i j hi hj h e
  · exact hnd j i hj hi h e.symm
/-- One gate. -/
theorem same_br {x : Gr} {p : List Int} {g : Gt} (h : may g x p = true) : vg (relG p g) (p.length : Nat) = true ∧ Same p.length [relG p g] (brG x p g) ∧ (∀ g' ∈ brG x p g, resp1 x g' = true) ∧ hct (relG p g) = hct g := by
  obtain ⟨⟨hp, hn, h4, hc⟩, hg, hb⟩ := may_facts h
  have h1 := (perm_le hp).1
  refine ⟨?_, ?_, ?_, rfl⟩
  all_goals
    cases ha1 : (ar g.k == 1)
    case' true =>
      obtain ⟨a, y, hga, hia, hy, hlo, -, -⟩ := loc_at h
      obtain ⟨z, hz1, hz2, hz3⟩ := loc_in hp hia
      have hr : relG p g = g1 g.k (z : Int) := by
        unfold relG g1
        have e1 : ar g.k = 1 := beq_iff_eq.1 ha1
        rw [e1, hga, hz1]
        rfl
      have hbr : brG x p g = [g1 g.k (z : Int)] := by rw [brG_1 ha1, hga, hz1]
      have hv : vg (g1 g.k (z : Int)) (p.length : Nat) = true := vg_one (ar_one ha1) ⟨h1, h4⟩ (by omega) (by omega)
    case' false =>
      obtain ⟨a, b, hga, hgb, hab, hw⟩ := OnWay.of h ha1
      obtain ⟨y, hy1, hy2, -⟩ := loc_in hp hw.ha
      obtain ⟨z, hz1, hz2, -⟩ := loc_in hp hw.hb
      have hyz : y ≠ z := fun e => loc_ne hp hw.ha hw.hb hab (by rw [hy1, hz1, e])
      have h9 : g.k = 9 := by
        unfold bas at hb
        rw [ha1, Bool.false_or] at hb
        exact beq_iff_eq.1 hb
      have hr : relG p g = gcx (y : Int) (z : Int) := by
        unfold relG gcx
        rw [h9, hga, hgb, hy1, hz1]
        rfl
      have hbr : brG x p g = lr (spath x (y : Int) (z : Int)) := by rw [brG_2 ha1, hga, hgb, hy1, hz1]
      have hv : vg (gcx (y : Int) (z : Int)) (p.length : Nat) = true := vg_cxN ⟨h1, h4⟩ hy2 hz2 hyz
      have hsh := path_shape hn hc hy2 hz2 hyz
  · rw [hr]; exact hv
  · rw [hr]; exact hv
  · rw [hr, hbr]
    rcases hsh with ⟨e, -⟩ | ⟨k, k1, k2, k3, e, -, -⟩ | ⟨k, m, k1, m1, k2, k3, m2, m3, km, e, -, -, -⟩
    · rw [e]
      exact Same.refl fun g' hg' => by
        obtain rfl := List.mem_singleton.1 hg'
        exact hv
    · rw [e]
      refine same_cxL (l := way3 y k z) ⟨h1, h4⟩ hy2 hz2 hyz ?_ fun j hj => ?_
      · intro s hs
        simp only [way3, List.mem_cons, List.not_mem_nil, or_false] at hs
        rcases hs with rfl | rfl | rfl | rfl <;> exact ⟨by assumption, by assumption, by assumption⟩
      · have h1 := of_all (of_all (of_all (of_all chk_w3 (show p.length < 5 by omega)) hy2) k1) hz2
        rw [Bool.or_eq_true] at h1
        rcases h1 with h1 | h1
        · simp [k2, k3, hyz] at h1
        · have h3 := of_all h1 hj
          exact beq_iff_eq.1 h3
    · rw [e]
      refine same_cxL (l := way4 y k m z) ⟨h1, h4⟩ hy2 hz2 hyz ?_ fun j hj => ?_
      · intro s hs
        simp only [way4, List.mem_cons, List.not_mem_nil, or_false] at hs
        rcases hs with rfl | rfl | rfl | rfl | rfl | rfl | rfl | rfl | rfl | rfl <;> exact ⟨by assumption, by assumption, by assumption⟩
      · have h1 := of_all (of_all (of_all (of_all (of_all chk_w4 (show p.length < 5 by omega)) hy2) k1) m1) hz2
        rw [Bool.or_eq_true] at h1
        rcases h1 with h1 | h1
        · simp [k2, k3, hyz, m2, m3, km] at h1
        · have h3 := of_all h1 hj
          exact beq_iff_eq.1 h3
  · rw [hr, hbr]
    exact Same.refl fun g' hg' => by
      obtain rfl := List.mem_singleton.1 hg'
      exact hv
  · rw [hbr]
    have hcx : ∀ {u v : Nat}, u < p.length → v < p.length → u ≠ v → cpl x.es u v = true → resp1 x (gcx u v) = true := fun {u v} hu hv' huv hcp => by
      rw [resp1_2 (by rw [hn]; exact vg_cxN ⟨h1, h4⟩ hu hv' huv) rfl]
      exact hcp
    rcases hsh with ⟨e, c1⟩ | ⟨k, k1, k2, k3, e, c1, c2⟩ | ⟨k, m, k1, m1, k2, k3, m2, m3, km, e, c1, c2, c3⟩
    · rw [e]
      intro g' hg'
      obtain rfl := List.mem_singleton.1 hg'
      exact hcx hy2 hz2 hyz c1
    · rw [e]
      intro g' hg'
      have hm : g' ∈ cxL (way3 y k z) := hg'
      simp only [cxL, way3, List.map_cons, List.map_nil, List.mem_cons, List.not_mem_nil, or_false] at hm
      rcases hm with rfl | rfl | rfl | rfl <;> (refine hcx ?_ ?_ ?_ ?_ <;> assumption)
    · rw [e]
      intro g' hg'
      have hm : g' ∈ cxL (way4 y k m z) := hg'
      simp only [cxL, way4, List.map_cons, List.map_nil, List.mem_cons, List.not_mem_nil, or_false] at hm
      rcases hm with rfl | rfl | rfl | rfl | rfl | rfl | rfl | rfl | rfl | rfl <;> (refine hcx ?_ ?_ ?_ ?_ <;> assumption)
  · rw [hbr]
    intro g' hg'
    obtain rfl := List.mem_singleton.1 hg'
    exact resp1_1 (by rw [hn]; exact hv) (beq_iff_eq.1 ha1)
theorem same_brs {x : Gr} {p : List Int} : ∀ {gs : List Gt}, (∀ g ∈ gs, may g x p = true) → (∀ g ∈ gs.map (relG p), vg g (p.length : Nat) = true) ∧ Same p.length (gs.map (relG p)) (gs.flatMap (brG x p)) ∧ hcs (gs.map (relG p)) = hcs gs ∧ ∀ g ∈ gs.flatMap (brG x p), resp1 x g = true
  | [], _ => ⟨fun g hg => (List.not_mem_nil hg).elim, Same.nil _, rfl, fun g hg => (List.not_mem_nil hg).elim⟩
  | g :: gs, h => by
    obtain ⟨a1, a2, a3, a4⟩ := same_br (h g (List.mem_cons_self ..))
    obtain ⟨b1, b2, b3, b4⟩ := same_brs (gs := gs) fun g' h' => h g' (List.mem_cons_of_mem _ h')
    have v1 : ∀ g' ∈ [relG p g], vg g' (p.length : Nat) = true := fun g' hg' => by
      obtain rfl := List.mem_singleton.1 hg'
      exact a1
    refine ⟨?_, Same.app (gs := [relG p g]) v1 b1 a2 b2, ?_, ?_⟩
    · intro g' hg'
      rw [List.map_cons, List.mem_cons] at hg'
      rcases hg' with rfl | hg'
      · exact a1
      · exact b1 g' hg'
    · rw [List.map_cons, hcs_cons, hcs_cons, a4, b3]
    · intro g' hg'
      rw [List.flatMap_cons, List.mem_append] at hg'
      rcases hg' with hg' | hg'
      · exact a3 g' hg'
      · exact b4 g' hg'
end Go.Proofs.Ytofbmkpfliofeab
/-
  Helper text (no claim of its own): drawn circuits, bent. Only that they return, and what their results are made of.
-/
namespace Go.Proofs.Ytofbmkpfliofeab
open Go.ChangeShapes Go.WideShapes Go.ChangeAt Go.RowKit Go.Deep
theorem own_ne {w : World} {B e size n s : Nat} {v : Value} {xs : List Value} (h : w.ownsRow B e size v n xs) (hs : w.heap.size ≤ s) : ∀ q, v.ownBlock = some q → B ≤ q ∧ q ≠ s := fun q hq => by
  have := h.lt q hq
  exact ⟨this.1, by omega⟩
theorem appG1 {w : World} {B : Nat} {ops : Array Oper} {rest : List Oper} {o : Oper} {a : Act} {Q : Exit → Act → World → Prop} (hgd : o.guard = none) (s x : Operand)
    (ho : o.op = .call { callee := .builtin .append, args := #[s, x], argTypes := #[24, 24] }) (v : Value) (n : Nat) (xs : List Gt) (hs : a.eval s = v)
    (hown : w.ownsRow B 43 4 v n (gcells xs)) (hB : B ≤ w.heap.size) (y : Gt) (e : TypeId) (b : Nat) (hx : a.eval x = .slice (some ⟨b, 0, none⟩) 1 1) (hbs : b = w.heap.size) (hn : n ≤ 90000000)
    (h : ∀ A' c' w', w'.ownsRow B 43 4 (.slice A' (n + 1) c') (n + 1) (gcells (xs ++ [y])) → w.grownBy w' v.ownBlock → ((Value.slice A' (n + 1) c').ownBlock = v.ownBlock ∨ (Value.slice A' (n + 1) c').ownBlock = some (w.heap.size + 1)) → wpList Try.prog ops Q rest (a.put o.dst (.slice A' (n + 1) c')) w') :
    wpList Try.prog ops Q (o :: rest) a (w.alloc (.cells #[.int .i64 y.k, .int .i64 y.a, .int .i64 y.b, .int .i64 y.c] e)) := by
  subst hbs
  have hcs := cutW_size hB
  refine appGateS (w0 := cutW w B) hgd s x ho v n xs hs (by rw [hcs]; exact hown.alloc _) ((cutW_ext hB).alloc _) _ 1 1 [y] hx (rd_new w _ e 4 _ (by simp [Gt.cells]) (by simp [Gt.cells])) (by omega) ?_
  intro v' w' h1 h2 h3 h4
  rw [hcs] at h1
  obtain ⟨A', c', rfl, _⟩ := own_slice h1
  exact h A' c' w' h1 (World.grownBy.trans (((Ext.refl w).alloc _).gr _) h3) (by simpa using h4)
/-- A drawn circuit whose header lies in block s. -/
def DC (w0 w : World) (g s : Nat) (N : Int) (A : Option Addr) (len cap : Nat) (gs : List Gt) : Prop :=
  Blk w w0.heap.size 35 #[.int .i64 0, .slice none 0 0] ∧ Blk w s 35 #[.int .i64 N, .slice A len cap] ∧ w.ownsRow (w0.heap.size + 1) 43 4 (.slice A len cap) len (gcells gs) ∧ (∀ q, (Value.slice A len cap).ownBlock = some q → w0.heap.size + 1 ≤ q ∧ q ≠ s) ∧ Cur w g ∧ w0.grownBy w (some g)
theorem DC.grown {w0 w w' : World} {g s : Nat} {N : Int} {A : Option Addr} {len cap : Nat} {gs : List Gt} (h : DC w0 w g s N A len cap gs) (hg : w.grownBy w' (some g)) (hC : Cur w' g) (hs : g < s) (hl : g < w0.heap.size) : DC w0 w' g s N A len cap gs := by
  obtain ⟨h1, h2, h3, h4, h5, h6⟩ := h
  exact ⟨h1.grown hg (fun k hk => by injection hk; omega), h2.grown hg (fun k hk => by injection hk; omega), own_kept h3 hg (fun k hk => by injection hk; omega), h4, hC, gr_trans h6 hg⟩
theorem DC.drew {w0 w : World} {g s : Nat} {N : Int} {A : Option Addr} {len cap : Nat} {gs : List Gt} (h : DC w0 w g s N A len cap gs) : DC w0 w.drew g s N A len cap gs := by
  obtain ⟨h1, h2, h3, h4, h5, h6⟩ := h
  exact ⟨h1, h2, own_ext h3 (Ext.refl w).drew, h4, h5.ext (Ext.refl w).drew, gr_ext h6 (Ext.refl w).drew⟩
theorem DC.alloc {w0 w : World} {g s : Nat} {N : Int} {A : Option Addr} {len cap : Nat} {gs : List Gt} (h : DC w0 w g s N A len cap gs) (o : Obj) : DC w0 (w.alloc o) g s N A len cap gs := by
  obtain ⟨h1, h2, h3, h4, h5, h6⟩ := h
  exact ⟨h1.alloc o, h2.alloc o, own_ext h3 ((Ext.refl w).alloc o), h4, h5.alloc o, gr_alloc h6 o⟩
theorem DC.setN {w0 w : World} {g s : Nat} {N : Int} {A : Option Addr} {len cap : Nat} {gs : List Gt} (h : DC w0 w g s N A len cap gs) (M : Int) (hs : w0.heap.size < s) (hl : g < w0.heap.size) : DC w0 (w.setCell ⟨s, 0, none⟩ (.int .i64 M)) g s M A len cap gs := by
  obtain ⟨h1, h2, h3, h4, h5, h6⟩ := h
  refine ⟨h1.far (p := ⟨s, 0, none⟩) (by simp; omega) _, h2.set_ 0 _, ?_, h4, h5.set_ (p := ⟨s, 0, none⟩) (by simp; omega) _, gr_set h6 (p := ⟨s, 0, none⟩) (by simp; omega) _⟩
  refine h3.kept (row := some s) (gr_setCell (World.grownBy.refl w (some s)) 0 _) ?_
  cases hv : (Value.slice A len cap).ownBlock with
  | none => exact .inl rfl
  | some q => exact .inr (fun e => (h4 q hv).2 (by injection e))
/-- What an append to the circuit's row leaves. -/
theorem DC.app {w0 w w' : World} {g s : Nat} {N : Int} {A A' : Option Addr} {len cap c' : Nat} {gs : List Gt} {y : Gt} (h : DC w0 w g s N A len cap gs) (hs : w0.heap.size < s) (hl : g < w0.heap.size)
    (ho : w'.ownsRow (w0.heap.size + 1) 43 4 (.slice A' (len + 1) c') (len + 1) (gcells (gs ++ [y]))) (hg : w.grownBy w' (Value.slice A len cap).ownBlock)
    (hb : (Value.slice A' (len + 1) c').ownBlock = (Value.slice A len cap).ownBlock ∨ (Value.slice A' (len + 1) c').ownBlock = some (w.heap.size + 1)) :
    Blk w' s 35 #[.int .i64 N, .slice A len cap] ∧ DC w0 (w'.setCell ⟨s, 1, none⟩ (.slice A' (len + 1) c')) g s N A' (len + 1) c' (gs ++ [y]) := by
  obtain ⟨h1, h2, h3, h4, h5, h6⟩ := h
  have hls := h2.lt
  have hB := h2.grown hg (fun k hk e => (h4 k hk).2 e.symm)
  have h4' : ∀ q, (Value.slice A' (len + 1) c').ownBlock = some q → w0.heap.size + 1 ≤ q ∧ q ≠ s := by
    intro q hq
    rcases hb with hb | hb
    · rw [hb] at hq; exact h4 q hq
    · rw [hb] at hq; injection hq with hq
      have := h1.lt
      omega
  refine ⟨hB, (h1.grown hg (fun k hk e => by have := (h4 k hk).1; omega)).far (p := ⟨s, 1, none⟩) (by simp; omega) _, hB.set_ 1 _, ?_, h4', (h5.grown hg (fun k hk => by have := (h4 k hk).1; omega)).set_ (p := ⟨s, 1, none⟩) (by simp; omega) _, gr_set (gr_new h6 hg (fun k hk => by have := (h4 k hk).1; omega)) (p := ⟨s, 1, none⟩) (by simp; omega) _⟩
  refine ho.kept (row := some s) (gr_setCell (World.grownBy.refl w' (some s)) 1 _) ?_
  cases hv : (Value.slice A' (len + 1) c').ownBlock with
  | none => exact .inl rfl
  | some q => exact .inr (fun e => (h4' q hv).2 (by injection e))
end Go.Proofs.Ytofbmkpfliofeab
/-
  Helper text (no claim of its own): drawn circuits, bent. Only that they return, and what their results are made of.
-/
namespace Go.Proofs.Ytofbmkpfliofeab
open Go.ChangeShapes Go.WideShapes Go.ChangeAt Go.RowKit Go.Deep
theorem l1Max_no (a b : Int) (w : World) (h : ¬ b < a) : Calls Try.prog 89 #[.int .i64 a, .int .i64 b] w fun e w' => e = .returned (.int .i64 b) ∧ w = w' := by
  have := l1Max_any a b w
  rwa [if_neg h] at this
theorem DC.done {w W : World} {g s : Nat} {N : Int} {A : Option Addr} {len cap : Nat} {gs : List Gt} (h : DC w W g s N A len cap gs) (hl : g < w.heap.size) :
    ((W.setCell ⟨w.heap.size, 0, none⟩ (.int .i64 N)).setCell ⟨w.heap.size, 1, none⟩ (.slice A len cap)).ownsRow w.heap.size 43 4 (.slice A len cap) len (gcells gs) ∧ Cur ((W.setCell ⟨w.heap.size, 0, none⟩ (.int .i64 N)).setCell ⟨w.heap.size, 1, none⟩ (.slice A len cap)) g ∧ w.grownBy ((W.setCell ⟨w.heap.size, 0, none⟩ (.int .i64 N)).setCell ⟨w.heap.size, 1, none⟩ (.slice A len cap)) (some g) :=
  ⟨own_base (own_set (own_set h.2.2.1 (p := ⟨w.heap.size, 0, none⟩) (by simp) _) (p := ⟨w.heap.size, 1, none⟩) (by simp) _) (by omega), Cur.set2 h.2.2.2.2.1 hl _ _, gr_set2 h.2.2.2.2.2 (Nat.le_refl _) _ _⟩
def lenAt (w : World) (s : Nat) : Nat := match w.cell? ⟨s, 1, none⟩ with | some (.slice _ n _) => n | _ => 0
theorem lenAt_blk {w : World} {s t : Nat} {a : Value} {A : Option Addr} {n c : Nat} (h : Blk w s t #[a, .slice A n c]) : lenAt w s = n := by
  have : w.cell? ⟨s, 1, none⟩ = some (.slice A n c) := h.cell 1
  unfold lenAt
  rw [this]
/-- What a drawn circuit is. -/
def DrewCirc (w : World) (g most : Nat) (e : Ending) (w' : World) : Prop :=
  ∃ (N : Int) (A : Option Addr) (len cap : Nat) (gs : List Gt), e = .returned (.agg #[.int .i64 N, .slice A len cap]) ∧ (-1 ≤ N ∧ N ≤ 5) ∧ len ≤ most + 61 ∧ w'.ownsRow w.heap.size 43 4 (.slice A len cap) len (gcells gs) ∧ Cur w' g ∧ w.grownBy w' (some g)
theorem DrewCirc.mk {w w' : World} {g most : Nat} (N : Int) (A : Option Addr) (len cap : Nat) (gs : List Gt) (h1 : -1 ≤ N ∧ N ≤ 5) (h2 : len ≤ most + 61) (h3 : w'.ownsRow w.heap.size 43 4 (.slice A len cap) len (gcells gs) ∧ Cur w' g ∧ w.grownBy w' (some g)) : DrewCirc w g most (.returned (.agg #[.int .i64 N, .slice A len cap])) w' :=
  ⟨N, A, len, cap, gs, rfl, h1, h2, h3⟩
end Go.Proofs.Ytofbmkpfliofeab
/-
  Helper text (no claim of its own): drawn graphs: the header in a block of its own, the edges in a row.
-/
namespace Go.Proofs.Ytofbmkpfliofeab
open Go.ChangeShapes Go.WideShapes Go.ChangeAt Go.RowKit Go.Deep
/-- append of one drawn edge in a drawn region. -/
theorem stepE1 {w : World} {B : Nat} {ops : Array Oper} {o : Oper} {a : Act} {K : Act → World → Prop} {Q : Exit → Act → World → Prop} {E : Prop} (hgd : o.guard = none) (s x : Operand)
    (ho : o.op = .call { callee := .builtin .append, args := #[s, x], argTypes := #[25, 25] }) (v : Value) (n : Nat) (xs : List Ed) (hs : a.eval s = v)
    (hown : w.ownsRow B 74 2 v n (ecells xs)) (hB : B ≤ w.heap.size) (y : Ed) (e : TypeId) (b : Nat) (hx : a.eval x = .slice (some ⟨b, 0, none⟩) 1 1) (hbs : b = w.heap.size) (hn : n ≤ 90000000)
    (h : ∀ A' c' w', w'.ownsRow B 74 2 (.slice A' (n + 1) c') (n + 1) (ecells (xs ++ [y])) → w.grownBy w' v.ownBlock → ((Value.slice A' (n + 1) c').ownBlock = v.ownBlock ∨ (Value.slice A' (n + 1) c').ownBlock = some (w.heap.size + 1)) → K (a.put o.dst (.slice A' (n + 1) c')) w') :
    if Region.wanted o (yielded ops a.tmps) = true then Oper.wp Try.prog o a (w.alloc (.cells #[.int .i64 y.a, .int .i64 y.b] e)) K Q else E := by
  subst hbs
  have hcs := cutW_size hB
  refine stepEdgeS (w0 := cutW w B) hgd s x ho v n xs hs (by rw [hcs]; exact hown.alloc _) ((cutW_ext hB).alloc _) _ 1 1 [y] hx (rd_new w _ e 2 _ (by simp [Ed.cells]) (by simp [Ed.cells])) (by omega) ?_
  intro v' w' h1 h2 h3 h4
  rw [hcs] at h1
  obtain ⟨A', c', rfl, _⟩ := own_slice h1
  exact h A' c' w' h1 (World.grownBy.trans (((Ext.refl w).alloc _).gr _) h3) (by simpa using h4)

theorem Try.sizeGraph : (Try.prog.info? 27).map (·.size) = some 2 := by kernel_rfl
theorem ret2g {fn : Func} {p : Tmp} (hf : fn.results = #[.cell p 27]) {W : World} {q : Nat} {z0 z1 : Value} (hB : Blk W q 27 #[z0, z1]) (a b : Value) (tmps : Array Value)
    (hp : tmps.getD p undef = .pointer (some ⟨q, 0, none⟩)) : (results fn tmps).run Try.prog ((W.setCell ⟨q, 0, none⟩ a).setCell ⟨q, 1, none⟩ b) = .ok (.agg #[a, b]) ((W.setCell ⟨q, 0, none⟩ a).setCell ⟨q, 1, none⟩ b) :=
  results_cell_row hf tmps _ q 27 _ (0, 0) _ hp (hB.set2 a b) Try.underlying27 rfl Try.sizeGraph
theorem appE1 {w : World} {B : Nat} {ops : Array Oper} {rest : List Oper} {o : Oper} {a : Act} {Q : Exit → Act → World → Prop} (hgd : o.guard = none) (s x : Operand)
    (ho : o.op = .call { callee := .builtin .append, args := #[s, x], argTypes := #[25, 25] }) (v : Value) (n : Nat) (xs : List Ed) (hs : a.eval s = v)
    (hown : w.ownsRow B 74 2 v n (ecells xs)) (hB : B ≤ w.heap.size) (y : Ed) (e : TypeId) (b : Nat) (hx : a.eval x = .slice (some ⟨b, 0, none⟩) 1 1) (hbs : b = w.heap.size) (hn : n ≤ 90000000)
    (h : ∀ A' c' w', w'.ownsRow B 74 2 (.slice A' (n + 1) c') (n + 1) (ecells (xs ++ [y])) → w.grownBy w' v.ownBlock → ((Value.slice A' (n + 1) c').ownBlock = v.ownBlock ∨ (Value.slice A' (n + 1) c').ownBlock = some (w.heap.size + 1)) → wpList Try.prog ops Q rest (a.put o.dst (.slice A' (n + 1) c')) w') :
    wpList Try.prog ops Q (o :: rest) a (w.alloc (.cells #[.int .i64 y.a, .int .i64 y.b] e)) := by
  subst hbs
  have hcs := cutW_size hB
  refine appEdgeS (w0 := cutW w B) hgd s x ho v n xs hs (by rw [hcs]; exact hown.alloc _) ((cutW_ext hB).alloc _) _ 1 1 [y] hx (rd_new w _ e 2 _ (by simp [Ed.cells]) (by simp [Ed.cells])) (by omega) ?_
  intro v' w' h1 h2 h3 h4
  rw [hcs] at h1
  obtain ⟨A', c', rfl, _⟩ := own_slice h1
  exact h A' c' w' h1 (World.grownBy.trans (((Ext.refl w).alloc _).gr _) h3) (by simpa using h4)
/-- A drawn graph whose header lies in block s. -/
def DG (w0 w : World) (g s : Nat) (N : Int) (A : Option Addr) (len cap : Nat) (gs : List Ed) : Prop :=
  Blk w w0.heap.size 27 #[.int .i64 0, .slice none 0 0] ∧ Blk w s 27 #[.int .i64 N, .slice A len cap] ∧ w.ownsRow (w0.heap.size + 1) 74 2 (.slice A len cap) len (ecells gs) ∧ (∀ q, (Value.slice A len cap).ownBlock = some q → w0.heap.size + 1 ≤ q ∧ q ≠ s) ∧ Cur w g ∧ w0.grownBy w (some g) ∧ ∀ e ∈ gs, e.ok
theorem DG.grown {w0 w w' : World} {g s : Nat} {N : Int} {A : Option Addr} {len cap : Nat} {gs : List Ed} (h : DG w0 w g s N A len cap gs) (hg : w.grownBy w' (some g)) (hC : Cur w' g) (hs : g < s) (hl : g < w0.heap.size) : DG w0 w' g s N A len cap gs := by
  obtain ⟨h1, h2, h3, h4, h5, h6, h7⟩ := h
  exact ⟨h1.grown hg (fun k hk => by injection hk; omega), h2.grown hg (fun k hk => by injection hk; omega), own_kept h3 hg (fun k hk => by injection hk; omega), h4, hC, gr_trans h6 hg, h7⟩
theorem DG.drew {w0 w : World} {g s : Nat} {N : Int} {A : Option Addr} {len cap : Nat} {gs : List Ed} (h : DG w0 w g s N A len cap gs) : DG w0 w.drew g s N A len cap gs := by
  obtain ⟨h1, h2, h3, h4, h5, h6, h7⟩ := h
  exact ⟨h1, h2, own_ext h3 (Ext.refl w).drew, h4, h5.ext (Ext.refl w).drew, gr_ext h6 (Ext.refl w).drew, h7⟩
theorem DG.alloc {w0 w : World} {g s : Nat} {N : Int} {A : Option Addr} {len cap : Nat} {gs : List Ed} (h : DG w0 w g s N A len cap gs) (o : Obj) : DG w0 (w.alloc o) g s N A len cap gs := by
  obtain ⟨h1, h2, h3, h4, h5, h6, h7⟩ := h
  exact ⟨h1.alloc o, h2.alloc o, own_ext h3 ((Ext.refl w).alloc o), h4, h5.alloc o, gr_alloc h6 o, h7⟩
theorem DG.setN {w0 w : World} {g s : Nat} {N : Int} {A : Option Addr} {len cap : Nat} {gs : List Ed} (h : DG w0 w g s N A len cap gs) (M : Int) (hs : w0.heap.size < s) (hl : g < w0.heap.size) : DG w0 (w.setCell ⟨s, 0, none⟩ (.int .i64 M)) g s M A len cap gs := by
  obtain ⟨h1, h2, h3, h4, h5, h6, h7⟩ := h
  refine ⟨h1.far (p := ⟨s, 0, none⟩) (by simp; omega) _, h2.set_ 0 _, ?_, h4, h5.set_ (p := ⟨s, 0, none⟩) (by simp; omega) _, gr_set h6 (p := ⟨s, 0, none⟩) (by simp; omega) _, h7⟩
  refine h3.kept (row := some s) (gr_setCell (World.grownBy.refl w (some s)) 0 _) ?_
  cases hv : (Value.slice A len cap).ownBlock with
  | none => exact .inl rfl
  | some q => exact .inr (fun e => (h4 q hv).2 (by injection e))
/-- What an append to the graph's row leaves. -/
theorem DG.app {w0 w w' : World} {g s : Nat} {N : Int} {A A' : Option Addr} {len cap c' : Nat} {gs : List Ed} {y : Ed} (h : DG w0 w g s N A len cap gs) (hy : y.ok) (hs : w0.heap.size < s) (hl : g < w0.heap.size)
    (ho : w'.ownsRow (w0.heap.size + 1) 74 2 (.slice A' (len + 1) c') (len + 1) (ecells (gs ++ [y]))) (hg : w.grownBy w' (Value.slice A len cap).ownBlock)
    (hb : (Value.slice A' (len + 1) c').ownBlock = (Value.slice A len cap).ownBlock ∨ (Value.slice A' (len + 1) c').ownBlock = some (w.heap.size + 1)) :
    Blk w' s 27 #[.int .i64 N, .slice A len cap] ∧ DG w0 (w'.setCell ⟨s, 1, none⟩ (.slice A' (len + 1) c')) g s N A' (len + 1) c' (gs ++ [y]) := by
  obtain ⟨h1, h2, h3, h4, h5, h6, h7⟩ := h
  have hls := h2.lt
  have hB := h2.grown hg (fun k hk e => (h4 k hk).2 e.symm)
  have h4' : ∀ q, (Value.slice A' (len + 1) c').ownBlock = some q → w0.heap.size + 1 ≤ q ∧ q ≠ s := by
    intro q hq
    rcases hb with hb | hb
    · rw [hb] at hq; exact h4 q hq
    · rw [hb] at hq; injection hq with hq
      have := h1.lt
      omega
  refine ⟨hB, (h1.grown hg (fun k hk e => by have := (h4 k hk).1; omega)).far (p := ⟨s, 1, none⟩) (by simp; omega) _, hB.set_ 1 _, ?_, h4', (h5.grown hg (fun k hk => by have := (h4 k hk).1; omega)).set_ (p := ⟨s, 1, none⟩) (by simp; omega) _, gr_set (gr_new h6 hg (fun k hk => by have := (h4 k hk).1; omega)) (p := ⟨s, 1, none⟩) (by simp; omega) _, fun e he => by
    rcases List.mem_append.1 he with h | h
    · exact h7 e h
    · simp at h; subst h; exact hy⟩
  refine ho.kept (row := some s) (gr_setCell (World.grownBy.refl w' (some s)) 1 _) ?_
  cases hv : (Value.slice A' (len + 1) c').ownBlock with
  | none => exact .inl rfl
  | some q => exact .inr (fun e => (h4' q hv).2 (by injection e))
theorem DG.done {w W : World} {g s : Nat} {N : Int} {A : Option Addr} {len cap : Nat} {gs : List Ed} (h : DG w W g s N A len cap gs) (hl : g < w.heap.size) :
    ((W.setCell ⟨w.heap.size, 0, none⟩ (.int .i64 N)).setCell ⟨w.heap.size, 1, none⟩ (.slice A len cap)).ownsRow w.heap.size 74 2 (.slice A len cap) len (ecells gs) ∧ Cur ((W.setCell ⟨w.heap.size, 0, none⟩ (.int .i64 N)).setCell ⟨w.heap.size, 1, none⟩ (.slice A len cap)) g ∧ w.grownBy ((W.setCell ⟨w.heap.size, 0, none⟩ (.int .i64 N)).setCell ⟨w.heap.size, 1, none⟩ (.slice A len cap)) (some g) ∧ ∀ e ∈ gs, e.ok :=
  ⟨own_base (own_set (own_set h.2.2.1 (p := ⟨w.heap.size, 0, none⟩) (by simp) _) (p := ⟨w.heap.size, 1, none⟩) (by simp) _) (by omega), Cur.set2 h.2.2.2.2.1 hl _ _, gr_set2 h.2.2.2.2.2.1 (Nat.le_refl _) _ _, h.2.2.2.2.2.2⟩
end Go.Proofs.Ytofbmkpfliofeab
namespace Go.Proofs.Ytofbmkpfliofeab
open Go.ChangeShapes Go.WideShapes Go.ChangeAt Go.RowKit Go.Deep
set_option linter.unusedVariables false
set_option linter.unusedSimpArgs false
/-- What a draw of a graph hands back. -/
def DrewGr (w : World) (g most : Nat) (P : Int → Prop) (e : Ending) (w' : World) : Prop :=
  ∃ (N : Int) (A : Option Addr) (len cap : Nat) (es : List Ed), e = .returned (.agg #[.int .i64 N, .slice A len cap]) ∧ P N ∧ len ≤ most ∧ w'.ownsRow w.heap.size 74 2 (.slice A len cap) len (ecells es) ∧ Cur w' g ∧ w.grownBy w' (some g) ∧ ∀ e ∈ es, e.ok
/-- Block b is a row of ints, the first n of which are xs. -/
def PF (w : World) (b n : Nat) (xs : List Int) : Prop := ∃ cur, Blk w b 3 cur ∧ ∀ j, j < n → (cur[j]? = some (.int .i64 (xs.getD j 0)) ∧ I64 (xs.getD j 0))
section
variable {w w' : World} {b n B size m : Nat} {v : Value} {xs : List Int} {ys : List Value}
theorem PF.lt (h : PF w b n xs) : b < w.heap.size := by obtain ⟨_, hc, _⟩ := h; exact hc.lt
theorem PF.cell (h : PF w b n xs) {j : Nat} (hj : j < n) : w.cell? ⟨b, j, none⟩ = some (.int .i64 (xs.getD j 0)) := by
  obtain ⟨_, hc, hx⟩ := h
  exact (hc.cell j).trans (hx j hj).1
theorem PF.rng (h : PF w b n xs) {j : Nat} (hj : j < n) : I64 (xs.getD j 0) := by
  obtain ⟨_, _, hx⟩ := h
  exact (hx j hj).2
theorem PF.alloc (h : PF w b n xs) (o : Obj) : PF (w.alloc o) b n xs := by obtain ⟨_, hc, hx⟩ := h; exact ⟨_, hc.alloc o, hx⟩
theorem PF.far (h : PF w b n xs) {p : Addr} (hp : b ≠ p.block) (u : Value) : PF (w.setCell p u) b n xs := by obtain ⟨_, hc, hx⟩ := h; exact ⟨_, hc.far hp u, hx⟩
theorem PF.grown {row : Option Nat} (h : PF w b n xs) (hg : w.grownBy w' row) (hr : ∀ k, row = some k → b ≠ k) : PF w' b n xs := by obtain ⟨_, hc, hx⟩ := h; exact ⟨_, hc.grown hg hr, hx⟩
theorem PF.of {c : Nat} (h : IntRow w b c n) : ∃ xs, PF w b n xs := by
  obtain ⟨_, _, cur, hc, _, xs, _, hr, hx⟩ := h
  exact ⟨xs, cur, hc, fun j hj => ⟨hx j hj, hr j⟩⟩
theorem PF.apart (h : PF w b n xs) (ho : w.ownsRow B 74 size v m ys) : ∀ q, v.ownBlock = some q → b ≠ q := by
  intro q hq e
  subst e
  obtain ⟨cur, hc, _⟩ := h
  rcases ho.2 with ⟨rfl, _⟩ | ⟨b', cap', cur', rfl, _, hc', _⟩
  · cases hq
  · injection hq with hq
    subst hq
    rw [hc] at hc'
    injection hc' with hc'
    injection hc' with _ hc'
    exact absurd hc' (by decide)
end
theorem DG.at {w0 w : World} {g s : Nat} {N : Int} {A : Option Addr} {len cap : Nat} {gs : List Ed} (h : DG w0 w g s N A len cap gs) : gs.length = len ∧ GrAt w w.heap.size (.agg #[.int .i64 N, .slice A len cap]) ⟨N, gs⟩ := by
  have hr := Rd.own h.2.2.1
  have hl := Rd.len (f := Ed.cells) (fun _ => by simp [Ed.cells]) (by omega) hr
  subst hl
  exact ⟨rfl, A, cap, rfl, hr⟩
theorem DrewGr.mk {w w' : World} {g most : Nat} {P : Int → Prop} (N : Int) (A : Option Addr) (len cap : Nat) (es : List Ed) (h1 : P N) (h2 : len ≤ most) (h3 : w'.ownsRow w.heap.size 74 2 (.slice A len cap) len (ecells es) ∧ Cur w' g ∧ w.grownBy w' (some g) ∧ ∀ e ∈ es, e.ok) : DrewGr w g most P (.returned (.agg #[.int .i64 N, .slice A len cap])) w' :=
  ⟨N, A, len, cap, es, rfl, h1, h2, h3⟩
/-- What holds in the loop of l36Right. -/
def GL (w0 w : World) (g s : Nat) (N : Int) (A : Option Addr) (len cap : Nat) (es : List Ed) (b n : Nat) (xs : List Int) : Prop := DG w0 w g s N A len cap es ∧ PF w b n xs ∧ s < b
section
variable {w0 w w' : World} {g s : Nat} {N : Int} {A : Option Addr} {len cap b n : Nat} {es : List Ed} {xs : List Int}
theorem GL.cur (h : GL w0 w g s N A len cap es b n xs) : Cur w g := h.1.2.2.2.2.1
theorem GL.lt (h : GL w0 w g s N A len cap es b n xs) : b < w.heap.size := h.2.1.lt
theorem GL.cell (h : GL w0 w g s N A len cap es b n xs) : ∀ j, j < n → w.cell? ⟨b, j, none⟩ = some (.int .i64 (xs.getD j 0)) := fun _ hj => h.2.1.cell hj
theorem GL.drew (h : GL w0 w g s N A len cap es b n xs) : GL w0 w.drew g s N A len cap es b n xs := ⟨h.1.drew, h.2.1, h.2.2⟩
theorem GL.alloc (h : GL w0 w g s N A len cap es b n xs) (o : Obj) : GL w0 (w.alloc o) g s N A len cap es b n xs := ⟨h.1.alloc o, h.2.1.alloc o, h.2.2⟩
theorem GL.grown (h : GL w0 w g s N A len cap es b n xs) (hg : w.grownBy w' (some g)) (hC : Cur w' g) (hs : g < s) (hl : g < w0.heap.size) : GL w0 w' g s N A len cap es b n xs :=
  ⟨h.1.grown hg hC hs hl, h.2.1.grown hg (fun k hk => by injection hk; have := h.2.2; omega), h.2.2⟩
theorem GL.far (h : GL w0 w g s N A len cap es b n xs) {t j : Nat} (u : Value) (ht : b < t) (hw : w0.heap.size < t) (hl : g < w0.heap.size) (hq : ∀ q, (Value.slice A len cap).ownBlock = some q → q ≠ t) : GL w0 (w.setCell ⟨t, j, none⟩ u) g s N A len cap es b n xs := by
  obtain ⟨⟨h1, h2, h3, h4, h5, h6, h9⟩, h7, h8⟩ := h
  refine ⟨⟨h1.far (p := ⟨t, j, none⟩) (by simp; omega) _, h2.far (p := ⟨t, j, none⟩) (by simp; omega) _, ?_, h4, h5.set_ (p := ⟨t, j, none⟩) (by simp; omega) _, gr_set h6 (p := ⟨t, j, none⟩) (by simp; omega) _, h9⟩, h7.far (p := ⟨t, j, none⟩) (by simp; omega) _, h8⟩
  refine h3.kept (row := some t) (gr_setCell (World.grownBy.refl w (some t)) j _) ?_
  cases hv : (Value.slice A len cap).ownBlock with
  | none => exact .inl rfl
  | some q => exact .inr (fun e => hq q hv (by injection e))
theorem GL.app {A' : Option Addr} {c' : Nat} {y : Ed} (h : GL w0 w g s N A len cap es b n xs) (hy : y.ok) (hs : w0.heap.size < s) (hl : g < w0.heap.size)
    (ho : w'.ownsRow (w0.heap.size + 1) 74 2 (.slice A' (len + 1) c') (len + 1) (ecells (es ++ [y]))) (hg : w.grownBy w' (Value.slice A len cap).ownBlock)
    (hb : (Value.slice A' (len + 1) c').ownBlock = (Value.slice A len cap).ownBlock ∨ (Value.slice A' (len + 1) c').ownBlock = some (w.heap.size + 1)) :
    Blk w' s 27 #[.int .i64 N, .slice A len cap] ∧ GL w0 (w'.setCell ⟨s, 1, none⟩ (.slice A' (len + 1) c')) g s N A' (len + 1) c' (es ++ [y]) b n xs := by
  obtain ⟨h1, h2⟩ := h.1.app hy hs hl ho hg hb
  exact ⟨h1, h2, (h.2.1.grown hg (fun k hk => h.2.1.apart h.1.2.2.1 k hk)).far (p := ⟨s, 1, none⟩) (by have := h.2.2; simp; omega) _, h.2.2⟩
/-- With a block of one edge, t. -/
def GE (w0 w : World) (g s : Nat) (N : Int) (A : Option Addr) (len cap : Nat) (es : List Ed) (b n : Nat) (xs : List Int) (t : Nat) (y z : Int) : Prop :=
  GL w0 w g s N A len cap es b n xs ∧ Blk w t 74 #[.int .i64 y, .int .i64 z] ∧ b < t ∧ w0.heap.size < t ∧ (∀ q, (Value.slice A len cap).ownBlock = some q → q ≠ t) ∧ Ed.ok ⟨y, z⟩
theorem Ed.ok.sw {a b : Int} (h : Ed.ok ⟨a, b⟩) : Ed.ok ⟨b, a⟩ := ⟨h.2, h.1⟩
theorem GE.grown {t : Nat} {y z : Int} (h : GE w0 w g s N A len cap es b n xs t y z) (hg : w.grownBy w' (some g)) (hC : Cur w' g) (hs : g < s) (hl : g < w0.heap.size) : GE w0 w' g s N A len cap es b n xs t y z :=
  ⟨h.1.grown hg hC hs hl, h.2.1.grown hg (fun q hq => by injection hq; have := h.2.2.1; have := h.1.2.2; omega), h.2.2⟩
theorem GE.set2 {t : Nat} {y z : Int} (h : GE w0 w g s N A len cap es b n xs t y z) (hl : g < w0.heap.size) (u v : Int) (ho : Ed.ok ⟨u, v⟩) : GE w0 ((w.setCell ⟨t, 0, none⟩ (.int .i64 u)).setCell ⟨t, 1, none⟩ (.int .i64 v)) g s N A len cap es b n xs t u v :=
  ⟨(h.1.far _ h.2.2.1 h.2.2.2.1 hl h.2.2.2.2.1).far _ h.2.2.1 h.2.2.2.1 hl h.2.2.2.2.1, h.2.1.set2 _ _, h.2.2.1, h.2.2.2.1, h.2.2.2.2.1, ho⟩
theorem GE.app {t : Nat} {u v : Int} {A' : Option Addr} {c' : Nat} {y : Ed} (h : GE w0 w g s N A len cap es b n xs t u v) (hy : y.ok) (hs : w0.heap.size < s) (hl : g < w0.heap.size)
    (ho : w'.ownsRow (w0.heap.size + 1) 74 2 (.slice A' (len + 1) c') (len + 1) (ecells (es ++ [y]))) (hg : w.grownBy w' (Value.slice A len cap).ownBlock)
    (hb : (Value.slice A' (len + 1) c').ownBlock = (Value.slice A len cap).ownBlock ∨ (Value.slice A' (len + 1) c').ownBlock = some (w.heap.size + 1)) :
    Blk w' s 27 #[.int .i64 N, .slice A len cap] ∧ GE w0 (w'.setCell ⟨s, 1, none⟩ (.slice A' (len + 1) c')) g s N A' (len + 1) c' (es ++ [y]) b n xs t u v := by
  obtain ⟨h1, h2⟩ := h.1.app hy hs hl ho hg hb
  have := h.2.2.1
  have := h.1.2.2
  have := h.2.1.lt
  refine ⟨h1, h2, (h.2.1.grown hg (fun k hk e => h.2.2.2.2.1 k hk e.symm)).far (p := ⟨s, 1, none⟩) (by simp; omega) _, h.2.2.1, h.2.2.2.1, (fun q hq => ?_), h.2.2.2.2.2⟩
  rcases hb with hb | hb
  · exact h.2.2.2.2.1 q (hb ▸ hq)
  · rw [hb] at hq; injection hq; omega
end
set_option maxRecDepth 100000 in
set_option maxHeartbeats 16000000 in
theorem l36Right_any (g n : Nat) (hn : 1 ≤ n ∧ n ≤ 4) (w : World) (h : Cur w g) :
    Calls Try.prog 62 #[.pointer (some ⟨g, 0, none⟩), .int .i64 n] w (DrewGr w g 7 (fun N => N = (n : Int))) := by
  have hgl := h.lt
  obtain ⟨hn1, hn4⟩ := id hn
  go_enter Try.func62, Try.ntmps62
  go_wp2_with fail
  refine (l8Perm_any g n hn _ ((h.alloc _).alloc _)).mono ?_
  rintro e w2 ⟨b, c, rfl, hb, hI2, hC2, hG2⟩
  obtain ⟨xs, hI2⟩ := PF.of hI2
  have hB6 := ((Blk.new w 27 #[.int .i64 0, .slice none 0 0]).alloc _).grown hG2 (fun k hk => by injection hk; omega)
  have hB7 := (Blk.newAt (w := w.alloc (.cells #[.int .i64 0, .slice none 0 0] 27)) (t := 27) (cs := #[.int .i64 n, .slice none 0 0]) (b := w.heap.size + 1) (by simp)).grown hG2 (fun k hk => by injection hk; omega)
  have hg2 : w.grownBy w2 (some g) := gr_trans ((((Ext.refl w).alloc _).alloc _).gr _) hG2
  have hGL : GL w w2 g (w.heap.size + 1) n none 0 0 [] b n xs := ⟨⟨hB6, hB7, ⟨by simp, .inl ⟨rfl, rfl⟩⟩, (fun q hq => by cases hq), hC2, hg2, by simp⟩, hI2, by simp at hb; omega⟩
  clear hB6 hB7 hC2 hg2 hG2 hI2
  generalize hs : w.heap.size + 1 = s at hGL ⊢
  have HS := Lib.hid hs
  have hws : w.heap.size < s := by omega
  have hgs : g < s := by omega
  clear hs hb
  go_wp2
  go_loopw [7] (fun i wr => ∃ (k : Nat) (A : Option Addr) (len cap : Nat) (es : List Ed), 1 ≤ k ∧ k ≤ n ∧ i = .int .i64 k ∧ len ≤ 2 * (k - 1) ∧ GL w wr g s n A len cap es b n xs) (fun i _ => n - (intOf i).toNat)
  case atStart => exact ⟨1, none, 0, 0, [], Nat.le_refl _, hn1, rfl, Nat.zero_le _, hGL⟩
  case round =>
    clear hGL
    obtain ⟨k, A, len, cap, es, hk1, hkn, rfl, hlen, hGL⟩ := hrel
    by_cases hlt : k < n
    · have hk0 : (0 : Int) ≤ (k : Int) := by omega
      have hkn' : (k : Int) < (n : Int) := by omega
      have HGL := Lib.hid hGL
      clear hGL
      go_wp2
      refine wp_region_held_drew (S := fun W => GL w W g s n A len cap es b n xs ∧ ∀ j, j < n → W.cell? ⟨b, j, none⟩ = some (.int .i64 (xs.getD j 0))) (by kernel_rfl) ⟨HGL.out.drew, HGL.out.drew.cell⟩ (fun hHeld => ?_)
      (refine wpAnyH_take (i := 0) (v := ?_) rfl (by kernel_rfl) (by kernel_rfl) (by kernel_rfl) (fun _ _ _ h => h) (Or.inl ⟨by rfl, ?_⟩) (by assumption) ?_; rotate_left; · (intro w hSw; (try dsimp only at hSw); go_simp; all_goals with_reducible rfl); (try simp only [Act.put, List.getElem_toArray, List.getElem_cons_zero, List.getElem_cons_succ, List.setIfInBounds_toArray, List.set_cons_zero, List.set_cons_succ]))
      (refine wpAnyH_take (i := 1) (v := ?_) rfl (by kernel_rfl) (by kernel_rfl) (by kernel_rfl) (fun _ _ _ h => h) (Or.inl ⟨by rfl, ?_⟩) (by assumption) ?_; rotate_left; · (intro w hSw; (try dsimp only at hSw); go_simp; all_goals with_reducible rfl); (try simp only [Act.put, List.getElem_toArray, List.getElem_cons_zero, List.getElem_cons_succ, List.setIfInBounds_toArray, List.set_cons_zero, List.set_cons_succ]))
      (refine wpAnyH_take (i := 2) (v := ?_) rfl (by kernel_rfl) (by kernel_rfl) (by kernel_rfl) (fun _ _ _ h => h) (Or.inl ⟨by rfl, ?_⟩) (by assumption) ?_; rotate_left; · (intro w hSw; (try dsimp only at hSw); go_simp; all_goals with_reducible rfl); (try simp only [Act.put, List.getElem_toArray, List.getElem_cons_zero, List.getElem_cons_succ, List.setIfInBounds_toArray, List.set_cons_zero, List.set_cons_succ]))
      (refine wpAnyH_take (i := 3) (v := ?_) rfl (by kernel_rfl) (by kernel_rfl) (by kernel_rfl) (fun _ _ _ h => h) (Or.inl ⟨by rfl, ?_⟩) (by assumption) ?_; rotate_left; · (intro w hSw; (try dsimp only at hSw); go_simp; all_goals with_reducible rfl); (try simp only [Act.put, List.getElem_toArray, List.getElem_cons_zero, List.getElem_cons_succ, List.setIfInBounds_toArray, List.set_cons_zero, List.set_cons_succ]))
      (refine wpAnyH_take (i := 4) (v := ?_) rfl (by kernel_rfl) (by kernel_rfl) (by kernel_rfl) (fun _ _ _ h => h) (Or.inl ⟨by rfl, ?_⟩) (by assumption) ?_; rotate_left; · (intro w hSw; (try dsimp only at hSw); go_simp; all_goals with_reducible rfl); (try simp only [Act.put, List.getElem_toArray, List.getElem_cons_zero, List.getElem_cons_succ, List.setIfInBounds_toArray, List.set_cons_zero, List.set_cons_succ]))
      (refine wpAnyH_take (i := 5) (v := ?_) rfl (by kernel_rfl) (by kernel_rfl) (by kernel_rfl) (fun _ _ _ h => h) (Or.inl ⟨by rfl, ?_⟩) (by assumption) ?_; rotate_left; · (intro w hSw; (try dsimp only at hSw); go_simp; all_goals with_reducible rfl); (try simp only [Act.put, List.getElem_toArray, List.getElem_cons_zero, List.getElem_cons_succ, List.setIfInBounds_toArray, List.set_cons_zero, List.set_cons_succ]))
      (refine wpAnyH_take (i := 6) (v := ?_) rfl (by kernel_rfl) (by kernel_rfl) (by kernel_rfl) (fun _ _ _ h => h) (Or.inl ⟨by rfl, ?_⟩) (by assumption) ?_; rotate_left; · (intro w hSw; (try dsimp only at hSw); go_simp; all_goals with_reducible rfl); (try simp only [Act.put, List.getElem_toArray, List.getElem_cons_zero, List.getElem_cons_succ, List.setIfInBounds_toArray, List.set_cons_zero, List.set_cons_succ]))
      refine wpAnyH_ready (rs := [7, 11]) (by kernel_rfl) (by simp) ?_
      refine AllReadyH.cons rfl (fun K hK => ?wA) (AllReadyH.cons rfl (fun K hK => ?wB) AllReadyH.nil)
      case' wA =>
        go_simp
        refine (l1Below_any g k _ hHeld.1.cur (by omega)).mono ?_
        rintro e w3 ⟨x, rfl, ⟨hx0, hx1, _⟩, hC3, hG3⟩
        obtain ⟨j, rfl⟩ := Int.eq_ofNat_of_zero_le hx0
        have hj : j < n := by have := hx1 (by omega); omega
        have hj0 : (0 : Int) ≤ (j : Int) := by omega
        have hjn : (j : Int) < (n : Int) := by omega
        clear hx0 hx1
        have hGL3 := hHeld.1.grown hG3 hC3 hgs hgl
        refine hK.out _ _ ⟨hGL3, hGL3.cell⟩ (fun hHeld => ?_)
        clear hK K
        (try simp only [Act.put, List.getElem_toArray, List.getElem_cons_zero, List.getElem_cons_succ, List.setIfInBounds_toArray, List.set_cons_zero, List.set_cons_succ])
        (refine wpAnyH_take (i := 8) (v := ?_) rfl (by kernel_rfl) (by kernel_rfl) (by kernel_rfl) (fun _ _ _ h => h) (Or.inl ⟨by rfl, ?_⟩) (by assumption) ?_; rotate_left; · (intro w hSw; (try dsimp only at hSw); go_simp; all_goals with_reducible rfl); (try simp only [Act.put, List.getElem_toArray, List.getElem_cons_zero, List.getElem_cons_succ, List.setIfInBounds_toArray, List.set_cons_zero, List.set_cons_succ]))
        (refine wpAnyH_take (i := 9) (v := ?_) rfl (by kernel_rfl) (by kernel_rfl) (by kernel_rfl) (fun _ _ _ h => h) (Or.inl ⟨by rfl, ?_⟩) (by assumption) ?_; rotate_left; · (intro w hSw; (try dsimp only at hSw); go_simp; all_goals with_reducible rfl); (try simp only [Act.put, List.getElem_toArray, List.getElem_cons_zero, List.getElem_cons_succ, List.setIfInBounds_toArray, List.set_cons_zero, List.set_cons_succ]))
        (refine wpAnyH_take (i := 10) (v := ?_) rfl (by kernel_rfl) (by kernel_rfl) (by kernel_rfl) (fun _ _ _ h => h) (Or.inl ⟨by rfl, ?_⟩) (by assumption) ?_; rotate_left; · (intro w hSw; (try dsimp only at hSw); go_simp; all_goals with_reducible rfl); (try simp only [Act.put, List.getElem_toArray, List.getElem_cons_zero, List.getElem_cons_succ, List.setIfInBounds_toArray, List.set_cons_zero, List.set_cons_succ]))
        (refine wpAnyH_ready (rs := [11]) (by kernel_rfl) (by simp) ?_; refine AllReadyH.cons rfl (fun K hK => ?_) AllReadyH.nil; go_simp)
        refine hK.out _ _ ⟨hHeld.1.alloc _, (hHeld.1.alloc _).cell⟩ (fun hHeld => ?_)
        clear hK K
        (try simp only [Act.put, List.getElem_toArray, List.getElem_cons_zero, List.getElem_cons_succ, List.setIfInBounds_toArray, List.set_cons_zero, List.set_cons_succ])
        (refine wpAnyH_ready (rs := [12]) (by kernel_rfl) (by simp) ?_; refine AllReadyH.cons rfl (fun K hK => ?_) AllReadyH.nil; go_simp)
        have hE := Blk.newAt (w := w3) (t := 74) (cs := #[.int .i64 (xs.getD k 0), .int .i64 (xs.getD j 0)]) (b := w3.heap.size) rfl
        have hGL4 := hGL3.alloc (.cells #[.int .i64 (xs.getD k 0), .int .i64 (xs.getD j 0)] 74)
        refine hK.out _ _ ⟨hGL4, hGL4.cell⟩ (fun hHeld => ?_)
        clear hK K
        (try simp only [Act.put, List.getElem_toArray, List.getElem_cons_zero, List.getElem_cons_succ, List.setIfInBounds_toArray, List.set_cons_zero, List.set_cons_succ])
        (refine wpAnyH_done (by kernel_rfl) ?_ _)
        have hE6 := hE
        have hGL6 := hGL4
        have hbt := hGL3.lt
        have hqt := fun q hq => (own_ne hGL3.1.2.2.1 (Nat.le_refl _) q hq).2
        have hsb := hGL3.2.2
        have ht : w.heap.size < w3.heap.size := by omega
        clear hE hGL3 hGL4 hHeld hG3 hC3 hsb
        clear hHeld
        have hyz : Ed.ok ⟨xs.getD k 0, xs.getD j 0⟩ := ⟨hGL6.2.1.rng hlt, hGL6.2.1.rng hj⟩
        simp only [List.getD_eq_getElem?_getD] at hE6 hGL6 hyz
        generalize xs[k]?.getD 0 = y at hE6 hGL6 hyz ⊢
        generalize xs[j]?.getD 0 = z at hE6 hGL6 hyz ⊢
        generalize hW : w3.alloc _ = W at hE6 hGL6 ⊢
        clear hW
        generalize ht' : w3.heap.size = t at hE6 hqt hbt ht ⊢
      case' wB =>
        go_simp
        have hE := Blk.newAt (w := wr) (t := 74) (cs := #[.int .i64 0, .int .i64 0]) (b := wr.heap.size) rfl
        have hGL3 := (HGL.out.alloc (.cells #[.int .i64 0, .int .i64 0] 74)).drew
        refine hK.out _ _ ⟨hGL3, hGL3.cell⟩ (fun hHeld => ?_)
        clear hK K
        (try simp only [Act.put, List.getElem_toArray, List.getElem_cons_zero, List.getElem_cons_succ, List.setIfInBounds_toArray, List.set_cons_zero, List.set_cons_succ])
        (refine wpAnyH_ready (rs := [7]) (by kernel_rfl) (by simp) ?_; refine AllReadyH.cons rfl (fun K hK => ?_) AllReadyH.nil; go_simp)
        refine (l1Below_any g k _ hHeld.1.cur (by omega)).mono ?_
        rintro e w3 ⟨x, rfl, ⟨hx0, hx1, _⟩, hC3, hG3⟩
        obtain ⟨j, rfl⟩ := Int.eq_ofNat_of_zero_le hx0
        have hj : j < n := by have := hx1 (by omega); omega
        have hj0 : (0 : Int) ≤ (j : Int) := by omega
        have hjn : (j : Int) < (n : Int) := by omega
        clear hx0 hx1
        have hGL4 := hHeld.1.grown hG3 hC3 hgs hgl
        refine hK.out _ _ ⟨hGL4, hGL4.cell⟩ (fun hHeld => ?_)
        clear hK K
        (try simp only [Act.put, List.getElem_toArray, List.getElem_cons_zero, List.getElem_cons_succ, List.setIfInBounds_toArray, List.set_cons_zero, List.set_cons_succ])
        (refine wpAnyH_take (i := 8) (v := ?_) rfl (by kernel_rfl) (by kernel_rfl) (by kernel_rfl) (fun _ _ _ h => h) (Or.inl ⟨by rfl, ?_⟩) (by assumption) ?_; rotate_left; · (intro w hSw; (try dsimp only at hSw); go_simp; all_goals with_reducible rfl); (try simp only [Act.put, List.getElem_toArray, List.getElem_cons_zero, List.getElem_cons_succ, List.setIfInBounds_toArray, List.set_cons_zero, List.set_cons_succ]))
        (refine wpAnyH_take (i := 9) (v := ?_) rfl (by kernel_rfl) (by kernel_rfl) (by kernel_rfl) (fun _ _ _ h => h) (Or.inl ⟨by rfl, ?_⟩) (by assumption) ?_; rotate_left; · (intro w hSw; (try dsimp only at hSw); go_simp; all_goals with_reducible rfl); (try simp only [Act.put, List.getElem_toArray, List.getElem_cons_zero, List.getElem_cons_succ, List.setIfInBounds_toArray, List.set_cons_zero, List.set_cons_succ]))
        (refine wpAnyH_take (i := 10) (v := ?_) rfl (by kernel_rfl) (by kernel_rfl) (by kernel_rfl) (fun _ _ _ h => h) (Or.inl ⟨by rfl, ?_⟩) (by assumption) ?_; rotate_left; · (intro w hSw; (try dsimp only at hSw); go_simp; all_goals with_reducible rfl); (try simp only [Act.put, List.getElem_toArray, List.getElem_cons_zero, List.getElem_cons_succ, List.setIfInBounds_toArray, List.set_cons_zero, List.set_cons_succ]))
        have hbt := HGL.out.lt
        have hqt := fun q hq => (own_ne HGL.out.1.2.2.1 (Nat.le_refl _) q hq).2
        have hsb := HGL.out.2.2
        have hE3 := hE.drew.grown (w' := w3) hG3 (fun q hq => by injection hq; omega)
        have hc0 : w3.cell? ⟨wr.heap.size, 0, none⟩ = some (.int .i64 0) := hE3.cell 0
        have hc1 : ∀ u, (w3.setCell ⟨wr.heap.size, 0, none⟩ u).cell? ⟨wr.heap.size, 1, none⟩ = some (.int .i64 0) := fun u => (hE3.set_ 0 u).cell 1
        have hf0 : w3.frozen? ⟨wr.heap.size, 0, none⟩ = false := hE3.frozen 0
        have hf1 : ∀ u, (w3.setCell ⟨wr.heap.size, 0, none⟩ u).frozen? ⟨wr.heap.size, 1, none⟩ = false := fun u => (hE3.set_ 0 u).frozen 1
        (refine wpAnyH_ready (rs := [12]) (by kernel_rfl) (by simp) ?_; refine AllReadyH.cons rfl (fun K hK => ?_) AllReadyH.nil; go_simp)
        have hGL6 := (hGL4.far (t := wr.heap.size) (j := 0) (.int .i64 (xs.getD k 0)) hbt (by omega) hgl hqt).far (t := wr.heap.size) (j := 1) (.int .i64 (xs.getD j 0)) hbt (by omega) hgl hqt
        refine hK.out _ _ ⟨hGL6, hGL6.cell⟩ (fun hHeld => ?_)
        clear hK K
        (try simp only [Act.put, List.getElem_toArray, List.getElem_cons_zero, List.getElem_cons_succ, List.setIfInBounds_toArray, List.set_cons_zero, List.set_cons_succ])
        (refine wpAnyH_done (by kernel_rfl) ?_ _)
        have hE6 := hE3.set2 (.int .i64 (xs.getD k 0)) (.int .i64 (xs.getD j 0))
        have ht : w.heap.size < wr.heap.size := by omega
        clear hE hGL3 hGL4 hE3 hc0 hc1 hf0 hf1 hHeld hG3 hC3 hsb
        clear hHeld
        have hyz : Ed.ok ⟨xs.getD k 0, xs.getD j 0⟩ := ⟨hGL6.2.1.rng hlt, hGL6.2.1.rng hj⟩
        simp only [List.getD_eq_getElem?_getD] at hE6 hGL6 hyz
        generalize xs[k]?.getD 0 = y at hE6 hGL6 hyz ⊢
        generalize xs[j]?.getD 0 = z at hE6 hGL6 hyz ⊢
        generalize hW : (w3.setCell _ _).setCell _ _ = W at hE6 hGL6 ⊢
        clear hW
        generalize ht' : wr.heap.size = t at hE6 hqt hbt ht ⊢
      all_goals
        clear ht'
        have hGE : GE w W g s n A len cap es b n xs t y z := ⟨hGL6, hE6, hbt, ht, hqt, hyz⟩
        clear hGL6 hE6 hbt ht hqt hyz
        go_wp2_with fail
        refine (l1Once_any g 2 W hGE.1.cur (by omega)).mono ?_
        rintro e w4 ⟨f1, rfl, hC4, hG4⟩
        have hGE7 := hGE.grown hG4 hC4 hgs hgl
        clear hGE hG4 hC4 W HGL
        have hs4 := hGE7.1.1.2.1.lt
        have ht4 := hGE7.2.1.lt
        cases f1
        case' false =>
          have HG := Lib.hid hGE7
          obtain ⟨⟨b0, b1⟩, z0, z1⟩ := blk2 hGE7.1.1.2.1
          obtain ⟨⟨a0, a1⟩, y0, y1⟩ := blk2 hGE7.2.1
          clear hGE7
          go_wp2_with (at_builtin; refine appE1 (B := w.heap.size + 1) rfl _ _ rfl _ len _ rfl HG.out.1.1.2.2.1 (by omega) ⟨_, _⟩ _ _ rfl rfl (by omega) ?_; intro A7 c7 w7 ho hg hb; have HA := Lib.hid (HG.out.app HG.out.2.2.2.2.2 hws hgl ho hg hb); have k6 : w7.cell? ⟨s, 1, none⟩ = some (.slice A len cap) := HA.out.1.cell 1; have f6 : w7.frozen? ⟨s, 1, none⟩ = false := HA.out.1.frozen 1; clear ho hg hb)
        case' true =>
          have HG := Lib.hid (hGE7.set2 hgl z y hGE7.2.2.2.2.2.sw)
          obtain ⟨⟨b0, b1⟩, z0, z1⟩ := blk2 HG.out.1.1.2.1
          obtain ⟨⟨a0, a1⟩, y0, y1⟩ := blk2 hGE7.2.1
          obtain ⟨⟨c0, c1⟩, x0, x1⟩ := blk2 HG.out.2.1
          have hs5 := HG.out.1.1.2.1.lt
          have y2 : ∀ u, (w4.setCell ⟨t, 0, none⟩ u).cell? ⟨t, 1, none⟩ = some (.int .i64 z) := fun u => (hGE7.2.1.set_ 0 u).cell 1
          have y3 : ∀ u, (w4.setCell ⟨t, 0, none⟩ u).frozen? ⟨t, 1, none⟩ = false := fun u => (hGE7.2.1.set_ 0 u).frozen 1
          clear hGE7
          go_wp2_with (at_builtin; go_loud (refine appE1 (B := w.heap.size + 1) rfl _ _ rfl _ len _ rfl HG.out.1.1.2.2.1 (by omega) ⟨_, _⟩ _ _ (by rfl) (by simp) (by omega) ?_; intro A7 c7 w7 ho hg hb; have HA := Lib.hid (HG.out.app HG.out.2.2.2.2.2 hws hgl ho hg hb); have k6 : w7.cell? ⟨s, 1, none⟩ = some (.slice A len cap) := HA.out.1.cell 1; have f6 : w7.frozen? ⟨s, 1, none⟩ = false := HA.out.1.frozen 1; clear ho hg hb))
          clear x0 x1 c0 c1 hs5 y2 y3
        all_goals
          clear b0 b1 z0 z1 a0 a1 y0 y1
          clear k6 f6
          refine (l1Once_any g 4 _ HA.out.2.1.cur (by omega)).mono ?_
          rintro e w8 ⟨f2, rfl, hC8, hG8⟩
          have hGE8 := HA.out.2.grown hG8 hC8 hgs hgl
          clear HA HG hC8 hG8
          have hs8 := hGE8.1.1.2.1.lt
          have hw8 := hGE8.1.1.1.lt
          cases f2
          · have HG := Lib.hid hGE8
            clear hGE8
            go_wp2
            go_roundw
            case rel => exact ⟨k + 1, _, len + 1, _, _, by omega, by omega, by simp, by omega, HG.out.1⟩
            case measure => simp [intOf]; omega
          · have HG := Lib.hid hGE8
            obtain ⟨⟨b0, b1⟩, z0, z1⟩ := blk2 hGE8.1.1.2.1
            obtain ⟨⟨a0, a1⟩, y0, y1⟩ := blk2 hGE8.2.1
            clear hGE8
            go_wp2_with (at_builtin; refine appE1 (B := w.heap.size + 1) rfl _ _ rfl _ (len + 1) _ rfl HG.out.1.1.2.2.1 (by omega) ⟨_, _⟩ _ _ rfl rfl (by omega) ?_; intro A9 c9 w9 ho hg hb; have HA := Lib.hid (HG.out.app HG.out.2.2.2.2.2.sw hws hgl ho hg hb); have k6 : w9.cell? ⟨s, 1, none⟩ = some (.slice A7 (len + 1) c7) := HA.out.1.cell 1; have f6 : w9.frozen? ⟨s, 1, none⟩ = false := HA.out.1.frozen 1; clear ho hg hb)
            clear b0 b1 z0 z1 a0 a1 y0 y1 k6 f6
            go_roundw
            case rel => exact ⟨k + 1, _, len + 1 + 1, _, _, by omega, by omega, by simp, by omega, HA.out.2.1⟩
            case measure => simp [intOf]; omega
    · have hkn : k = n := by omega
      subst hkn
      have hk0 : ¬ ((k : Int) < (k : Int)) := by omega
      have hs8 := hGL.1.2.1.lt
      have hw8 := hGL.1.1.lt
      have HG := Lib.hid hGL
      clear hGL
      by_cases h2 : k ≤ 2
      · have h2' : ¬ ((2 : Int) < (k : Int)) := by omega
        obtain ⟨⟨b0, b1⟩, z0, z1⟩ := blk2 HG.out.1.2.1
        obtain ⟨⟨a0, a1⟩, y0, y1⟩ := blk2 HG.out.1.1
        go_wp2
        refine wp_region_held_drew (S := fun W => GL w W g s k A len cap es b k xs) (by kernel_rfl) HG.out.drew (fun hHeld => ?_)
        (refine wpAnyH_take (i := 0) (v := ?_) rfl (by kernel_rfl) (by kernel_rfl) (by kernel_rfl) (fun _ _ _ h => h) (Or.inl ⟨by rfl, ?_⟩) (by assumption) ?_; rotate_left; · (intro w hSw; (try dsimp only at hSw); go_simp; all_goals with_reducible rfl); (try simp only [Act.put, List.getElem_toArray, List.getElem_cons_zero, List.getElem_cons_succ, List.setIfInBounds_toArray, List.set_cons_zero, List.set_cons_succ]))
        (refine wpAnyH_take (i := 1) (v := .bool false) rfl (by kernel_rfl) (by kernel_rfl) (by kernel_rfl) (fun _ _ _ h => h) (Or.inl ⟨by rfl, ?_⟩) (by assumption) ?_; · (intro w hSw; (try dsimp only at hSw); go_simp; first | done | (trace_state; omega)))
        (try simp only [Act.put, List.getElem_toArray, List.getElem_cons_zero, List.getElem_cons_succ, List.setIfInBounds_toArray, List.set_cons_zero, List.set_cons_succ])
        (refine wpAnyH_take (i := 2) (v := ?_) rfl (by kernel_rfl) (by kernel_rfl) (by kernel_rfl) (fun _ _ _ h => h) (Or.inl ⟨by rfl, ?_⟩) (by assumption) ?_; rotate_left; · (intro w hSw; (try dsimp only at hSw); go_simp; all_goals with_reducible rfl); (try simp only [Act.put, List.getElem_toArray, List.getElem_cons_zero, List.getElem_cons_succ, List.setIfInBounds_toArray, List.set_cons_zero, List.set_cons_succ]))
        (refine wpAnyH_take (i := 3) rfl (by kernel_rfl) (by kernel_rfl) (by kernel_rfl) (fun _ _ _ h => h) (Or.inr ⟨by first | kernel_rfl | rfl, rfl⟩) (by assumption) ?_; (try simp only [Act.put, List.getElem_toArray, List.getElem_cons_zero, List.getElem_cons_succ, List.setIfInBounds_toArray, List.set_cons_zero, List.set_cons_succ]))
        (refine wpAnyH_take (i := 4) rfl (by kernel_rfl) (by kernel_rfl) (by kernel_rfl) (fun _ _ _ h => h) (Or.inr ⟨by first | kernel_rfl | rfl, rfl⟩) (by assumption) ?_; (try simp only [Act.put, List.getElem_toArray, List.getElem_cons_zero, List.getElem_cons_succ, List.setIfInBounds_toArray, List.set_cons_zero, List.set_cons_succ]))
        (refine wpAnyH_take (i := 5) (v := ?_) rfl (by kernel_rfl) (by kernel_rfl) (by kernel_rfl) (fun _ _ _ h => h) (Or.inl ⟨by rfl, ?_⟩) (by assumption) ?_; rotate_left; · (intro w hSw; (try dsimp only at hSw); go_simp; all_goals with_reducible rfl); (try simp only [Act.put, List.getElem_toArray, List.getElem_cons_zero, List.getElem_cons_succ, List.setIfInBounds_toArray, List.set_cons_zero, List.set_cons_succ]))
        (refine wpAnyH_take (i := 6) (v := ?_) rfl (by kernel_rfl) (by kernel_rfl) (by kernel_rfl) (fun _ _ _ h => h) (Or.inl ⟨by rfl, ?_⟩) (by assumption) ?_; rotate_left; · (intro w hSw; (try dsimp only at hSw); go_simp; all_goals with_reducible rfl); (try simp only [Act.put, List.getElem_toArray, List.getElem_cons_zero, List.getElem_cons_succ, List.setIfInBounds_toArray, List.set_cons_zero, List.set_cons_succ]))
        (try simp only [Act.put, List.getElem_toArray, List.getElem_cons_zero, List.getElem_cons_succ, List.setIfInBounds_toArray, List.set_cons_zero, List.set_cons_succ])
        (refine wpAnyH_take (i := 7) rfl (by kernel_rfl) (by kernel_rfl) (by kernel_rfl) (fun _ _ _ h => h) (Or.inr ⟨by first | kernel_rfl | rfl, rfl⟩) (by assumption) ?_; (try simp only [Act.put, List.getElem_toArray, List.getElem_cons_zero, List.getElem_cons_succ, List.setIfInBounds_toArray, List.set_cons_zero, List.set_cons_succ]))
        (refine wpAnyH_take (i := 8) rfl (by kernel_rfl) (by kernel_rfl) (by kernel_rfl) (fun _ _ _ h => h) (Or.inr ⟨by first | kernel_rfl | rfl, rfl⟩) (by assumption) ?_; (try simp only [Act.put, List.getElem_toArray, List.getElem_cons_zero, List.getElem_cons_succ, List.setIfInBounds_toArray, List.set_cons_zero, List.set_cons_succ]))
        (refine wpAnyH_take (i := 9) rfl (by kernel_rfl) (by kernel_rfl) (by kernel_rfl) (fun _ _ _ h => h) (Or.inr ⟨by first | kernel_rfl | rfl, rfl⟩) (by assumption) ?_; (try simp only [Act.put, List.getElem_toArray, List.getElem_cons_zero, List.getElem_cons_succ, List.setIfInBounds_toArray, List.set_cons_zero, List.set_cons_succ]))
        (refine wpAnyH_take (i := 10) rfl (by kernel_rfl) (by kernel_rfl) (by kernel_rfl) (fun _ _ _ h => h) (Or.inr ⟨by first | kernel_rfl | rfl, rfl⟩) (by assumption) ?_; (try simp only [Act.put, List.getElem_toArray, List.getElem_cons_zero, List.getElem_cons_succ, List.setIfInBounds_toArray, List.set_cons_zero, List.set_cons_succ]))
        (refine wpAnyH_take (i := 11) rfl (by kernel_rfl) (by kernel_rfl) (by kernel_rfl) (fun _ _ _ h => h) (Or.inr ⟨by first | kernel_rfl | rfl, rfl⟩) (by assumption) ?_; (try simp only [Act.put, List.getElem_toArray, List.getElem_cons_zero, List.getElem_cons_succ, List.setIfInBounds_toArray, List.set_cons_zero, List.set_cons_succ]))
        (refine wpAnyH_take (i := 12) rfl (by kernel_rfl) (by kernel_rfl) (by kernel_rfl) (fun _ _ _ h => h) (Or.inr ⟨by first | kernel_rfl | rfl, rfl⟩) (by assumption) ?_; (try simp only [Act.put, List.getElem_toArray, List.getElem_cons_zero, List.getElem_cons_succ, List.setIfInBounds_toArray, List.set_cons_zero, List.set_cons_succ]))
        (refine wpAnyH_take (i := 13) rfl (by kernel_rfl) (by kernel_rfl) (by kernel_rfl) (fun _ _ _ h => h) (Or.inr ⟨by first | kernel_rfl | rfl, rfl⟩) (by assumption) ?_; (try simp only [Act.put, List.getElem_toArray, List.getElem_cons_zero, List.getElem_cons_succ, List.setIfInBounds_toArray, List.set_cons_zero, List.set_cons_succ]))
        (refine wpAnyH_take (i := 14) rfl (by kernel_rfl) (by kernel_rfl) (by kernel_rfl) (fun _ _ _ h => h) (Or.inr ⟨by first | kernel_rfl | rfl, rfl⟩) (by assumption) ?_; (try simp only [Act.put, List.getElem_toArray, List.getElem_cons_zero, List.getElem_cons_succ, List.setIfInBounds_toArray, List.set_cons_zero, List.set_cons_succ]))
        (refine wpAnyH_take (i := 15) rfl (by kernel_rfl) (by kernel_rfl) (by kernel_rfl) (fun _ _ _ h => h) (Or.inr ⟨by first | kernel_rfl | rfl, rfl⟩) (by assumption) ?_; (try simp only [Act.put, List.getElem_toArray, List.getElem_cons_zero, List.getElem_cons_succ, List.setIfInBounds_toArray, List.set_cons_zero, List.set_cons_succ]))
        (refine wpAnyH_take (i := 16) rfl (by kernel_rfl) (by kernel_rfl) (by kernel_rfl) (fun _ _ _ h => h) (Or.inr ⟨by first | kernel_rfl | rfl, rfl⟩) (by assumption) ?_; (try simp only [Act.put, List.getElem_toArray, List.getElem_cons_zero, List.getElem_cons_succ, List.setIfInBounds_toArray, List.set_cons_zero, List.set_cons_succ]))
        (refine wpAnyH_take (i := 17) rfl (by kernel_rfl) (by kernel_rfl) (by kernel_rfl) (fun _ _ _ h => h) (Or.inr ⟨by first | kernel_rfl | rfl, rfl⟩) (by assumption) ?_; (try simp only [Act.put, List.getElem_toArray, List.getElem_cons_zero, List.getElem_cons_succ, List.setIfInBounds_toArray, List.set_cons_zero, List.set_cons_succ]))
        (refine wpAnyH_take (i := 18) (v := ?_) rfl (by kernel_rfl) (by kernel_rfl) (by kernel_rfl) (fun _ _ _ h => h) (Or.inl ⟨by rfl, ?_⟩) (by assumption) ?_; rotate_left; · (intro w hSw; (try dsimp only at hSw); go_simp; all_goals with_reducible rfl); (try simp only [Act.put, List.getElem_toArray, List.getElem_cons_zero, List.getElem_cons_succ, List.setIfInBounds_toArray, List.set_cons_zero, List.set_cons_succ]))
        (try simp only [Act.put, List.getElem_toArray, List.getElem_cons_zero, List.getElem_cons_succ, List.setIfInBounds_toArray, List.set_cons_zero, List.set_cons_succ])
        (refine wpAnyH_done (by kernel_rfl) ?_ _)
        go_wp2
        exact bodyPost_ret (v := .agg #[.int .i64 k, .slice A len cap]) (ret2g rfl HG.out.1.drew.1 (.int .i64 k) (.slice A len cap) _ rfl) rfl (DrewGr.mk k A len cap es rfl (by omega) (HG.out.1.drew.done hgl))
      · have h2' : (2 : Int) < (k : Int) := by omega
        obtain ⟨m, hm⟩ : ∃ m : Nat, (k : Int) - 1 = (m : Int) := ⟨k - 1, by omega⟩
        have hm0 : (0 : Int) ≤ (m : Int) := by omega
        have hmk : (m : Int) < (k : Int) := by omega
        have hk1' : (0 : Int) < (k : Int) := by omega
        have hkN : 0 < k := by omega
        have hmN : m < k := by omega
        obtain ⟨⟨b0, b1⟩, z0, z1⟩ := blk2 HG.out.1.2.1
        obtain ⟨⟨a0, a1⟩, y0, y1⟩ := blk2 HG.out.1.1
        go_wp2
        have hS : ∀ W, GL w W g s k A len cap es b k xs → GL w W g s k A len cap es b k xs ∧ W.cell? ⟨b, 0, none⟩ = some (.int .i64 (xs.getD 0 0)) ∧ W.cell? ⟨b, m, none⟩ = some (.int .i64 (xs.getD m 0)) ∧ W.cell? ⟨s, 0, none⟩ = some (.int .i64 k) ∧ W.cell? ⟨s, 1, none⟩ = some (.slice A len cap) := fun W h => ⟨h, h.cell 0 (by omega), h.cell m (by omega), h.1.2.1.cell 0, h.1.2.1.cell 1⟩
        refine wp_region_held_drew (S := fun W => GL w W g s k A len cap es b k xs ∧ W.cell? ⟨b, 0, none⟩ = some (.int .i64 (xs.getD 0 0)) ∧ W.cell? ⟨b, m, none⟩ = some (.int .i64 (xs.getD m 0)) ∧ W.cell? ⟨s, 0, none⟩ = some (.int .i64 k) ∧ W.cell? ⟨s, 1, none⟩ = some (.slice A len cap)) (by kernel_rfl) (hS _ HG.out.drew) (fun hHeld => ?_)
        (refine wpAnyH_take (i := 0) (v := ?_) rfl (by kernel_rfl) (by kernel_rfl) (by kernel_rfl) (fun _ _ _ h => h) (Or.inl ⟨by rfl, ?_⟩) (by assumption) ?_; rotate_left; · (intro w hSw; (try dsimp only at hSw); go_simp; all_goals with_reducible rfl); (try simp only [Act.put, List.getElem_toArray, List.getElem_cons_zero, List.getElem_cons_succ, List.setIfInBounds_toArray, List.set_cons_zero, List.set_cons_succ]))
        (refine wpAnyH_take (i := 1) (v := .bool true) rfl (by kernel_rfl) (by kernel_rfl) (by kernel_rfl) (fun _ _ _ h => h) (Or.inl ⟨by rfl, ?_⟩) (by assumption) ?_; · (intro w hSw; (try dsimp only at hSw); go_simp; first | done | (trace_state; omega)))
        (try simp only [Act.put, List.getElem_toArray, List.getElem_cons_zero, List.getElem_cons_succ, List.setIfInBounds_toArray, List.set_cons_zero, List.set_cons_succ])
        (refine wpAnyH_take (i := 2) (v := ?_) rfl (by kernel_rfl) (by kernel_rfl) (by kernel_rfl) (fun _ _ _ h => h) (Or.inl ⟨by rfl, ?_⟩) (by assumption) ?_; rotate_left; · (intro w hSw; (try dsimp only at hSw); go_simp; all_goals with_reducible rfl); (try simp only [Act.put, List.getElem_toArray, List.getElem_cons_zero, List.getElem_cons_succ, List.setIfInBounds_toArray, List.set_cons_zero, List.set_cons_succ]))
        (refine wpAnyH_take (i := 3) (v := ?_) rfl (by kernel_rfl) (by kernel_rfl) (by kernel_rfl) (fun _ _ _ h => h) (Or.inl ⟨by rfl, ?_⟩) (by assumption) ?_; rotate_left; · (intro w hSw; (try dsimp only at hSw); go_simp; all_goals with_reducible rfl); (try simp only [Act.put, List.getElem_toArray, List.getElem_cons_zero, List.getElem_cons_succ, List.setIfInBounds_toArray, List.set_cons_zero, List.set_cons_succ]))
        (refine wpAnyH_ready (rs := [4]) (by kernel_rfl) (by simp) ?_; refine AllReadyH.cons rfl (fun K hK => ?_) AllReadyH.nil; go_simp)
        refine (l1Once_any g 3 _ hHeld.1.cur (by omega)).mono ?_
        rintro e w4 ⟨f1, rfl, hC4, hG4⟩
        have hGL4 := hHeld.1.grown hG4 hC4 hgs hgl
        refine hK.out _ _ (hS _ hGL4) (fun hHeld => ?_)
        clear hK K
        (try simp only [Act.put, List.getElem_toArray, List.getElem_cons_zero, List.getElem_cons_succ, List.setIfInBounds_toArray, List.set_cons_zero, List.set_cons_succ])
        clear hG4
        cases f1
        · (refine wpAnyH_take (i := 5) (v := ?_) rfl (by kernel_rfl) (by kernel_rfl) (by kernel_rfl) (fun _ _ _ h => h) (Or.inl ⟨by rfl, ?_⟩) (by assumption) ?_; rotate_left; · (intro w hSw; (try dsimp only at hSw); go_simp; all_goals with_reducible rfl); (try simp only [Act.put, List.getElem_toArray, List.getElem_cons_zero, List.getElem_cons_succ, List.setIfInBounds_toArray, List.set_cons_zero, List.set_cons_succ]))
          (refine wpAnyH_take (i := 6) (v := ?_) rfl (by kernel_rfl) (by kernel_rfl) (by kernel_rfl) (fun _ _ _ h => h) (Or.inl ⟨by rfl, ?_⟩) (by assumption) ?_; rotate_left; · (intro w hSw; (try dsimp only at hSw); go_simp; all_goals with_reducible rfl); (try simp only [Act.put, List.getElem_toArray, List.getElem_cons_zero, List.getElem_cons_succ, List.setIfInBounds_toArray, List.set_cons_zero, List.set_cons_succ]))
          (try simp only [Act.put, List.getElem_toArray, List.getElem_cons_zero, List.getElem_cons_succ, List.setIfInBounds_toArray, List.set_cons_zero, List.set_cons_succ])
          (refine wpAnyH_take (i := 7) rfl (by kernel_rfl) (by kernel_rfl) (by kernel_rfl) (fun _ _ _ h => h) (Or.inr ⟨by first | kernel_rfl | rfl, rfl⟩) (by assumption) ?_; (try simp only [Act.put, List.getElem_toArray, List.getElem_cons_zero, List.getElem_cons_succ, List.setIfInBounds_toArray, List.set_cons_zero, List.set_cons_succ]))
          (refine wpAnyH_take (i := 8) rfl (by kernel_rfl) (by kernel_rfl) (by kernel_rfl) (fun _ _ _ h => h) (Or.inr ⟨by first | kernel_rfl | rfl, rfl⟩) (by assumption) ?_; (try simp only [Act.put, List.getElem_toArray, List.getElem_cons_zero, List.getElem_cons_succ, List.setIfInBounds_toArray, List.set_cons_zero, List.set_cons_succ]))
          (refine wpAnyH_take (i := 9) rfl (by kernel_rfl) (by kernel_rfl) (by kernel_rfl) (fun _ _ _ h => h) (Or.inr ⟨by first | kernel_rfl | rfl, rfl⟩) (by assumption) ?_; (try simp only [Act.put, List.getElem_toArray, List.getElem_cons_zero, List.getElem_cons_succ, List.setIfInBounds_toArray, List.set_cons_zero, List.set_cons_succ]))
          (refine wpAnyH_take (i := 10) rfl (by kernel_rfl) (by kernel_rfl) (by kernel_rfl) (fun _ _ _ h => h) (Or.inr ⟨by first | kernel_rfl | rfl, rfl⟩) (by assumption) ?_; (try simp only [Act.put, List.getElem_toArray, List.getElem_cons_zero, List.getElem_cons_succ, List.setIfInBounds_toArray, List.set_cons_zero, List.set_cons_succ]))
          (refine wpAnyH_take (i := 11) rfl (by kernel_rfl) (by kernel_rfl) (by kernel_rfl) (fun _ _ _ h => h) (Or.inr ⟨by first | kernel_rfl | rfl, rfl⟩) (by assumption) ?_; (try simp only [Act.put, List.getElem_toArray, List.getElem_cons_zero, List.getElem_cons_succ, List.setIfInBounds_toArray, List.set_cons_zero, List.set_cons_succ]))
          (refine wpAnyH_take (i := 12) rfl (by kernel_rfl) (by kernel_rfl) (by kernel_rfl) (fun _ _ _ h => h) (Or.inr ⟨by first | kernel_rfl | rfl, rfl⟩) (by assumption) ?_; (try simp only [Act.put, List.getElem_toArray, List.getElem_cons_zero, List.getElem_cons_succ, List.setIfInBounds_toArray, List.set_cons_zero, List.set_cons_succ]))
          (refine wpAnyH_take (i := 13) rfl (by kernel_rfl) (by kernel_rfl) (by kernel_rfl) (fun _ _ _ h => h) (Or.inr ⟨by first | kernel_rfl | rfl, rfl⟩) (by assumption) ?_; (try simp only [Act.put, List.getElem_toArray, List.getElem_cons_zero, List.getElem_cons_succ, List.setIfInBounds_toArray, List.set_cons_zero, List.set_cons_succ]))
          (refine wpAnyH_take (i := 14) rfl (by kernel_rfl) (by kernel_rfl) (by kernel_rfl) (fun _ _ _ h => h) (Or.inr ⟨by first | kernel_rfl | rfl, rfl⟩) (by assumption) ?_; (try simp only [Act.put, List.getElem_toArray, List.getElem_cons_zero, List.getElem_cons_succ, List.setIfInBounds_toArray, List.set_cons_zero, List.set_cons_succ]))
          (refine wpAnyH_take (i := 15) rfl (by kernel_rfl) (by kernel_rfl) (by kernel_rfl) (fun _ _ _ h => h) (Or.inr ⟨by first | kernel_rfl | rfl, rfl⟩) (by assumption) ?_; (try simp only [Act.put, List.getElem_toArray, List.getElem_cons_zero, List.getElem_cons_succ, List.setIfInBounds_toArray, List.set_cons_zero, List.set_cons_succ]))
          (refine wpAnyH_take (i := 16) rfl (by kernel_rfl) (by kernel_rfl) (by kernel_rfl) (fun _ _ _ h => h) (Or.inr ⟨by first | kernel_rfl | rfl, rfl⟩) (by assumption) ?_; (try simp only [Act.put, List.getElem_toArray, List.getElem_cons_zero, List.getElem_cons_succ, List.setIfInBounds_toArray, List.set_cons_zero, List.set_cons_succ]))
          (refine wpAnyH_take (i := 17) rfl (by kernel_rfl) (by kernel_rfl) (by kernel_rfl) (fun _ _ _ h => h) (Or.inr ⟨by first | kernel_rfl | rfl, rfl⟩) (by assumption) ?_; (try simp only [Act.put, List.getElem_toArray, List.getElem_cons_zero, List.getElem_cons_succ, List.setIfInBounds_toArray, List.set_cons_zero, List.set_cons_succ]))
          (refine wpAnyH_take (i := 18) (v := ?_) rfl (by kernel_rfl) (by kernel_rfl) (by kernel_rfl) (fun _ _ _ h => h) (Or.inl ⟨by rfl, ?_⟩) (by assumption) ?_; rotate_left; · (intro w hSw; (try dsimp only at hSw); go_simp; all_goals with_reducible rfl); (try simp only [Act.put, List.getElem_toArray, List.getElem_cons_zero, List.getElem_cons_succ, List.setIfInBounds_toArray, List.set_cons_zero, List.set_cons_succ]))
          (try simp only [Act.put, List.getElem_toArray, List.getElem_cons_zero, List.getElem_cons_succ, List.setIfInBounds_toArray, List.set_cons_zero, List.set_cons_succ])
          (refine wpAnyH_done (by kernel_rfl) ?_ _)
          have HG4 := Lib.hid hGL4
          clear b0 b1 z0 z1 a0 a1 y0 y1 hGL4 hHeld
          obtain ⟨⟨b0, b1⟩, z0, z1⟩ := blk2 HG4.out.1.2.1
          obtain ⟨⟨a0, a1⟩, y0, y1⟩ := blk2 HG4.out.1.1
          go_wp2
          exact bodyPost_ret (v := .agg #[.int .i64 k, .slice A len cap]) (ret2g rfl HG4.out.1.1 (.int .i64 k) (.slice A len cap) _ rfl) rfl (DrewGr.mk k A len cap es rfl (by omega) (HG4.out.1.done hgl))
        · (refine wpAnyH_take (i := 5) (v := ?_) rfl (by kernel_rfl) (by kernel_rfl) (by kernel_rfl) (fun _ _ _ h => h) (Or.inl ⟨by rfl, ?_⟩) (by assumption) ?_; rotate_left; · (intro w hSw; (try dsimp only at hSw); go_simp; all_goals with_reducible rfl); (try simp only [Act.put, List.getElem_toArray, List.getElem_cons_zero, List.getElem_cons_succ, List.setIfInBounds_toArray, List.set_cons_zero, List.set_cons_succ]))
          (try simp only [Act.put, List.getElem_toArray, List.getElem_cons_zero, List.getElem_cons_succ, List.setIfInBounds_toArray, List.set_cons_zero, List.set_cons_succ])
          (refine wpAnyH_take (i := 6) (v := ?_) rfl (by kernel_rfl) (by kernel_rfl) (by kernel_rfl) (fun _ _ _ h => h) (Or.inl ⟨by rfl, ?_⟩) (by assumption) ?_; rotate_left; · (intro w hSw; (try dsimp only at hSw); go_simp; all_goals with_reducible rfl); (try simp only [Act.put, List.getElem_toArray, List.getElem_cons_zero, List.getElem_cons_succ, List.setIfInBounds_toArray, List.set_cons_zero, List.set_cons_succ]))
          (try simp only [Act.put, List.getElem_toArray, List.getElem_cons_zero, List.getElem_cons_succ, List.setIfInBounds_toArray, List.set_cons_zero, List.set_cons_succ])
          (refine wpAnyH_take (i := 7) (v := ?_) rfl (by kernel_rfl) (by kernel_rfl) (by kernel_rfl) (fun _ _ _ h => h) (Or.inl ⟨by rfl, ?_⟩) (by assumption) ?_; rotate_left; · (intro w hSw; (try dsimp only at hSw); go_simp; all_goals with_reducible rfl); (try simp only [Act.put, List.getElem_toArray, List.getElem_cons_zero, List.getElem_cons_succ, List.setIfInBounds_toArray, List.set_cons_zero, List.set_cons_succ]))
          (try simp only [Act.put, List.getElem_toArray, List.getElem_cons_zero, List.getElem_cons_succ, List.setIfInBounds_toArray, List.set_cons_zero, List.set_cons_succ])
          (refine wpAnyH_take (i := 8) (v := ?_) rfl (by kernel_rfl) (by kernel_rfl) (by kernel_rfl) (fun _ _ _ h => h) (Or.inl ⟨by rfl, ?_⟩) (by assumption) ?_; rotate_left; · (intro w hSw; (try dsimp only at hSw); go_simp; all_goals with_reducible rfl); (try simp only [Act.put, List.getElem_toArray, List.getElem_cons_zero, List.getElem_cons_succ, List.setIfInBounds_toArray, List.set_cons_zero, List.set_cons_succ]))
          (try simp only [Act.put, List.getElem_toArray, List.getElem_cons_zero, List.getElem_cons_succ, List.setIfInBounds_toArray, List.set_cons_zero, List.set_cons_succ])
          (refine wpAnyH_take (i := 9) (v := ?_) rfl (by kernel_rfl) (by kernel_rfl) (by kernel_rfl) (fun _ _ _ h => h) (Or.inl ⟨by rfl, ?_⟩) (by assumption) ?_; rotate_left; · (intro w hSw; (try dsimp only at hSw); go_simp; all_goals with_reducible rfl); (try simp only [Act.put, List.getElem_toArray, List.getElem_cons_zero, List.getElem_cons_succ, List.setIfInBounds_toArray, List.set_cons_zero, List.set_cons_succ]))
          (try simp only [Act.put, List.getElem_toArray, List.getElem_cons_zero, List.getElem_cons_succ, List.setIfInBounds_toArray, List.set_cons_zero, List.set_cons_succ])
          (refine wpAnyH_take (i := 10) (v := ?_) rfl (by kernel_rfl) (by kernel_rfl) (by kernel_rfl) (fun _ _ _ h => h) (Or.inl ⟨by rfl, ?_⟩) (by assumption) ?_; rotate_left; · (intro w hSw; (try dsimp only at hSw); go_simp; all_goals with_reducible rfl); (try simp only [Act.put, List.getElem_toArray, List.getElem_cons_zero, List.getElem_cons_succ, List.setIfInBounds_toArray, List.set_cons_zero, List.set_cons_succ]))
          (try simp only [Act.put, List.getElem_toArray, List.getElem_cons_zero, List.getElem_cons_succ, List.setIfInBounds_toArray, List.set_cons_zero, List.set_cons_succ])
          (refine wpAnyH_take (i := 11) (v := ?_) rfl (by kernel_rfl) (by kernel_rfl) (by kernel_rfl) (fun _ _ _ h => h) (Or.inl ⟨by rfl, ?_⟩) (by assumption) ?_; rotate_left; · (intro w hSw; (try dsimp only at hSw); go_simp; all_goals with_reducible rfl); (try simp only [Act.put, List.getElem_toArray, List.getElem_cons_zero, List.getElem_cons_succ, List.setIfInBounds_toArray, List.set_cons_zero, List.set_cons_succ]))
          (try simp only [Act.put, List.getElem_toArray, List.getElem_cons_zero, List.getElem_cons_succ, List.setIfInBounds_toArray, List.set_cons_zero, List.set_cons_succ])
          (refine wpAnyH_take (i := 12) (v := ?_) rfl (by kernel_rfl) (by kernel_rfl) (by kernel_rfl) (fun _ _ _ h => h) (Or.inl ⟨by rfl, ?_⟩) (by assumption) ?_; rotate_left; · (intro w hSw; (try dsimp only at hSw); go_simp; all_goals with_reducible rfl); (try simp only [Act.put, List.getElem_toArray, List.getElem_cons_zero, List.getElem_cons_succ, List.setIfInBounds_toArray, List.set_cons_zero, List.set_cons_succ]))
          (try simp only [Act.put, List.getElem_toArray, List.getElem_cons_zero, List.getElem_cons_succ, List.setIfInBounds_toArray, List.set_cons_zero, List.set_cons_succ])
          (refine wpAnyH_take (i := 13) (v := .int .i64 m) rfl (by kernel_rfl) (by kernel_rfl) (by kernel_rfl) (fun _ _ _ h => h) (Or.inl ⟨by rfl, ?_⟩) (by assumption) ?_; · (intro w hSw; (try dsimp only at hSw); go_simp; first | done | exact IntWalk.i64_in _ (by omega)))
          (try simp only [Act.put, List.getElem_toArray, List.getElem_cons_zero, List.getElem_cons_succ, List.setIfInBounds_toArray, List.set_cons_zero, List.set_cons_succ])
          (refine wpAnyH_take (i := 14) (v := ?_) rfl (by kernel_rfl) (by kernel_rfl) (by kernel_rfl) (fun _ _ _ h => h) (Or.inl ⟨by rfl, ?_⟩) (by assumption) ?_; rotate_left; · (intro w hSw; (try dsimp only at hSw); go_simp; all_goals with_reducible rfl); (try simp only [Act.put, List.getElem_toArray, List.getElem_cons_zero, List.getElem_cons_succ, List.setIfInBounds_toArray, List.set_cons_zero, List.set_cons_succ]))
          (try simp only [Act.put, List.getElem_toArray, List.getElem_cons_zero, List.getElem_cons_succ, List.setIfInBounds_toArray, List.set_cons_zero, List.set_cons_succ])
          (refine wpAnyH_take (i := 15) (v := ?_) rfl (by kernel_rfl) (by kernel_rfl) (by kernel_rfl) (fun _ _ _ h => h) (Or.inl ⟨by rfl, ?_⟩) (by assumption) ?_; rotate_left; · (intro w hSw; (try dsimp only at hSw); go_simp; all_goals with_reducible rfl); (try simp only [Act.put, List.getElem_toArray, List.getElem_cons_zero, List.getElem_cons_succ, List.setIfInBounds_toArray, List.set_cons_zero, List.set_cons_succ]))
          (try simp only [Act.put, List.getElem_toArray, List.getElem_cons_zero, List.getElem_cons_succ, List.setIfInBounds_toArray, List.set_cons_zero, List.set_cons_succ])
          (refine wpAnyH_ready (rs := [16]) (by kernel_rfl) (by simp) ?_; refine AllReadyH.cons rfl (fun K hK => ?_) AllReadyH.nil; go_simp)
          refine (spec_AreCoupled_any _ _ _ _ _ hHeld.1.1.at.2 (by have := hHeld.1.1.at.1; simp; omega)).mono ?_
          rintro e w5 ⟨rfl, hx5⟩
          have hGL5 := hHeld.1.grown (hx5.gr (some g)) (hHeld.1.cur.ext hx5) hgs hgl
          generalize (hasE _ _ _ || hasE _ _ _) = cc
          refine hK.out _ _ (hS _ hGL5) (fun hHeld => ?_)
          clear hK K hx5
          (try simp only [Act.put, List.getElem_toArray, List.getElem_cons_zero, List.getElem_cons_succ, List.setIfInBounds_toArray, List.set_cons_zero, List.set_cons_succ])
          cases cc
          · (refine wpAnyH_take (i := 17) (v := ?_) rfl (by kernel_rfl) (by kernel_rfl) (by kernel_rfl) (fun _ _ _ h => h) (Or.inl ⟨by rfl, ?_⟩) (by assumption) ?_; rotate_left; · (intro w hSw; (try dsimp only at hSw); go_simp; all_goals with_reducible rfl); (try simp only [Act.put, List.getElem_toArray, List.getElem_cons_zero, List.getElem_cons_succ, List.setIfInBounds_toArray, List.set_cons_zero, List.set_cons_succ]))
            (try simp only [Act.put, List.getElem_toArray, List.getElem_cons_zero, List.getElem_cons_succ, List.setIfInBounds_toArray, List.set_cons_zero, List.set_cons_succ])
            (refine wpAnyH_take (i := 18) (v := ?_) rfl (by kernel_rfl) (by kernel_rfl) (by kernel_rfl) (fun _ _ _ h => h) (Or.inl ⟨by rfl, ?_⟩) (by assumption) ?_; rotate_left; · (intro w hSw; (try dsimp only at hSw); go_simp; all_goals with_reducible rfl); (try simp only [Act.put, List.getElem_toArray, List.getElem_cons_zero, List.getElem_cons_succ, List.setIfInBounds_toArray, List.set_cons_zero, List.set_cons_succ]))
            (try simp only [Act.put, List.getElem_toArray, List.getElem_cons_zero, List.getElem_cons_succ, List.setIfInBounds_toArray, List.set_cons_zero, List.set_cons_succ])
            (refine wpAnyH_done (by kernel_rfl) ?_ _)
            have HG5 := Lib.hid hGL5
            have hs5 := hGL5.1.2.1.lt
            have hw5 := hGL5.1.1.lt
            obtain ⟨-, p0, pm, k0, k1⟩ := hS _ hGL5
            clear b0 b1 z0 z1 a0 a1 y0 y1 hGL5 hGL4 hHeld hS
            obtain ⟨⟨b0, b1⟩, z0, z1⟩ := blk2 HG5.out.1.2.1
            have HD5 := Lib.hid HG5.out.drew
            have hwm : IntKind.i64.wrap (m : Int) = (m : Int) := IntWalk.i64_in _ (by omega)
            go_wp2
            go_region_law (first
              | (refine stepE1 (B := w.heap.size + 1) (by rfl) _ _ (by rfl) _ len es (by rfl) HD5.out.1.2.2.1 (by have := HD5.out.1.1.lt; omega) ⟨_, _⟩ _ _ (by rfl) (by rfl) (by omega) ?_; intro A6 c6 w6 ho6 hg6 hb6; have HA := Lib.hid (HD5.out.app (y := ⟨xs.getD 0 0, xs.getD m 0⟩) ⟨HD5.out.2.1.rng hkN, HD5.out.2.1.rng hmN⟩ hws hgl ho6 hg6 hb6); have k6 : w6.cell? ⟨s, 1, none⟩ = some (.slice A len cap) := HA.out.1.cell 1; have f6 : w6.frozen? ⟨s, 1, none⟩ = false := HA.out.1.frozen 1))
            all_goals
              clear k6 f6 b0 b1 z0 z1 k0 k1
              have HD := Lib.hid HA.out.2
              obtain ⟨⟨b0, b1⟩, z0, z1⟩ := blk2 HD.out.1.2.1
              obtain ⟨⟨a0, a1⟩, y0, y1⟩ := blk2 HD.out.1.1
              go_wp2
              exact bodyPost_ret (v := .agg #[.int .i64 k, .slice A6 (len + 1) c6]) (ret2g rfl HD.out.1.1 (.int .i64 k) (.slice A6 (len + 1) c6) _ rfl) rfl (DrewGr.mk k A6 (len + 1) c6 _ rfl (by omega) (HD.out.1.done hgl))
          · (refine wpAnyH_take (i := 17) (v := ?_) rfl (by kernel_rfl) (by kernel_rfl) (by kernel_rfl) (fun _ _ _ h => h) (Or.inl ⟨by rfl, ?_⟩) (by assumption) ?_; rotate_left; · (intro w hSw; (try dsimp only at hSw); go_simp; all_goals with_reducible rfl); (try simp only [Act.put, List.getElem_toArray, List.getElem_cons_zero, List.getElem_cons_succ, List.setIfInBounds_toArray, List.set_cons_zero, List.set_cons_succ]))
            (try simp only [Act.put, List.getElem_toArray, List.getElem_cons_zero, List.getElem_cons_succ, List.setIfInBounds_toArray, List.set_cons_zero, List.set_cons_succ])
            (refine wpAnyH_take (i := 18) (v := ?_) rfl (by kernel_rfl) (by kernel_rfl) (by kernel_rfl) (fun _ _ _ h => h) (Or.inl ⟨by rfl, ?_⟩) (by assumption) ?_; rotate_left; · (intro w hSw; (try dsimp only at hSw); go_simp; all_goals with_reducible rfl); (try simp only [Act.put, List.getElem_toArray, List.getElem_cons_zero, List.getElem_cons_succ, List.setIfInBounds_toArray, List.set_cons_zero, List.set_cons_succ]))
            (try simp only [Act.put, List.getElem_toArray, List.getElem_cons_zero, List.getElem_cons_succ, List.setIfInBounds_toArray, List.set_cons_zero, List.set_cons_succ])
            (refine wpAnyH_done (by kernel_rfl) ?_ _)
            have HG4 := Lib.hid hGL5
            have hw5 := hGL5.1.1.lt
            clear b0 b1 z0 z1 a0 a1 y0 y1 hGL5 hGL4 hHeld
            obtain ⟨⟨b0, b1⟩, z0, z1⟩ := blk2 HG4.out.1.2.1
            obtain ⟨⟨a0, a1⟩, y0, y1⟩ := blk2 HG4.out.1.1
            go_wp2
            exact bodyPost_ret (v := .agg #[.int .i64 k, .slice A len cap]) (ret2g rfl HG4.out.1.1 (.int .i64 k) (.slice A len cap) _ rfl) rfl (DrewGr.mk k A len cap es rfl (by omega) (HG4.out.1.done hgl))
end Go.Proofs.Ytofbmkpfliofeab
