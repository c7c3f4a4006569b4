/-
  For every list of gates, the law FnExactHadamardCount returns true: the program's HadamardCount and the reference's return the same number, and the argument is left alone. No condition.
-/
import Derived.Test.YthnbenlglnmehaaGate
namespace Go.Proofs.Ythnbenlglnmehaa
open Go.ChangeShapes Go.WideShapes Go.ChangeAt Go.RowKit Go.Deep
def cntK (q : Int) (gs : List Gt) : Nat := (gs.filter fun g => g.k == q).length
theorem cntK_snoc (q : Int) {gs : List Gt} {k : Nat} {g : Gt} (h : gs[k]? = some g) : cntK q (gs.take (k + 1)) = cntK q (gs.take k) + (if (g.k == q) = true then 1 else 0) := by
  unfold cntK
  rw [take_snoc h, List.filter_append, List.length_append]
  by_cases e : (g.k == q) = true <;> simp [e]
theorem cntK_le (q : Int) (gs : List Gt) (k : Nat) : cntK q (gs.take k) ≤ k := by
  unfold cntK
  exact Nat.le_trans (List.length_filter_le _ _) (List.length_take_le _ _)

set_option maxHeartbeats 400000 in
theorem impl_HadamardCount_any (A : Option Addr) (n c : Nat) (gs : List Gt) (w : World) (h : Rd w w.heap.size 4 A n (gcells gs)) (hn : n ≤ 1048576) :
    Calls Try.prog 19 #[.slice A n c] w fun e w' => e = .returned (.int .i64 (cntK 4 gs)) ∧ Ext w w' := by
  go_enter Try.func19, Try.ntmps19
  go_wp2
  go_loopw [3, 8] (fun v i wr => ∃ k : Nat, k ≤ n ∧ i = .int .i64 k ∧ v = .int .i64 (cntK 4 (gs.take k)) ∧ Ext w wr) (fun _ i _ => n - (intOf i).toNat)
  case atStart => exact ⟨0, Nat.zero_le _, rfl, rfl, Ext.refl _⟩
  case round =>
    obtain ⟨k, hk, rfl, rfl, hx⟩ := hrel
    have hle := cntK_le 4 gs k
    by_cases hlt : k < n
    · obtain ⟨b, o, g, rfl, hb, hg, h0, h1, h2, h3⟩ := gate_at (h.ext hx) hlt
      have hs := Lib.hid (cntK_snoc 4 hg)
      go_wp2
      all_goals
        go_roundw
        case rel => exact ⟨k + 1, by omega, by go_num, by rw [hs.out]; first | rw [if_pos (by assumption)]; go_num | rw [if_neg (by simp_all)]; go_num, hx.alloc _⟩
        case measure => simp [intOf]; omega
    · rw [List.take_of_length_le (by rw [h.len Gt.cells_len (by omega)]; omega)]
      go_wp2
      go_ret
      exact ⟨rfl, hx⟩

set_option maxHeartbeats 400000 in
theorem spec_CountGates_any (N q : Int) (A : Option Addr) (n c : Nat) (gs : List Gt) (w : World) (h : Rd w w.heap.size 4 A n (gcells gs)) (hn : n ≤ 1048576) :
    Calls Try.prog 58 #[.agg #[.int .i64 N, .slice A n c], .int .i64 q] w fun e w' => e = .returned (.int .i64 (cntK q gs)) ∧ Ext w w' := by
  go_enter Try.func58, Try.ntmps58
  go_wp2
  go_loop [5, 6] (fun v i => ∃ k : Nat, k ≤ n ∧ i = .int .i64 k ∧ v = .int .i64 (cntK q (gs.take k))) (fun _ i => n - (intOf i).toNat)
  case atStart => exact ⟨0, Nat.zero_le _, rfl, rfl⟩
  case round =>
    obtain ⟨k, hk, rfl, rfl⟩ := hrel
    have hle := cntK_le q gs k
    by_cases hlt : k < n
    · obtain ⟨b, o, g, rfl, hb, hg, h0, h1, h2, h3⟩ := gate_at h hlt
      have hs := Lib.hid (cntK_snoc q hg)
      go_wp2
      all_goals
        go_round
        case rel => exact ⟨k + 1, by omega, by go_num, by rw [hs.out]; first | rw [if_pos (by assumption)]; go_num | rw [if_neg (by simp_all)]; go_num⟩
        case measure => simp [intOf]; omega
    · rw [List.take_of_length_le (by rw [h.len Gt.cells_len (by omega)]; omega)]
      go_wp2
      go_ret
      exact ⟨rfl, (by repeat (first | exact Ext.refl _ | assumption | refine Ext.alloc ?_ _ | refine Ext.drewN ?_ _ | refine Ext.drew ?_))⟩

theorem spec_HadamardCount_any (A : Option Addr) (n c : Nat) (gs : List Gt) (w : World) (h : Rd w w.heap.size 4 A n (gcells gs)) (hn : n ≤ 1048576) :
    Calls Try.prog 17 #[.slice A n c] w fun e w' => e = .returned (.int .i64 (cntK 4 gs)) ∧ Ext w w' := by
  go_enter Try.func17, Try.ntmps17
  go_wp2_with fail
  refine (spec_CountGates_any _ _ A n c gs _ h hn).mono ?_
  rintro e w1 ⟨rfl, hx⟩
  go_wp2
  go_ret
  exact ⟨rfl, hx⟩

theorem own_slice {w : World} {B e size n : Nat} {v : Value} {xs : List Value} (h : w.ownsRow B e size v n xs) : ∃ A c, v = .slice A n c ∧ Rd w w.heap.size size A n xs := by
  rcases h.2 with ⟨rfl, rfl⟩ | ⟨g, cap, cur, rfl, _⟩
  · exact ⟨none, 0, rfl, Rd.own h⟩
  · exact ⟨_, _, rfl, Rd.own h⟩

namespace fnExactHadamardCount
set_option maxHeartbeats 400000 in
theorem walk (A : Option Addr) (n c : Nat) (gs : List Gt) (w : World) (h : Rd w w.heap.size 4 A n (gcells gs)) (hm : n ≤ maxLen) :
    Calls Try.prog 4 #[.slice A n c] w fun e w' => e = .returned (.bool true) ∧ Ext w w' := by
  go_enter Try.func4, Try.ntmps4
  go_wp2_with fail
  refine (szGateS_any A n c _ _ (by omega) (by omega) hm).mono ?_
  rintro e w0 ⟨rfl, rfl⟩
  by_cases hn : n ≤ 1048576
  · rw [szF_ge (by omega)]
    go_wp2_with fail
    refine (toGateS_any A n c gs _ h hn).mono ?_
    rintro e w1 ⟨v1, rfl, ho1, hx1⟩
    obtain ⟨A1, c1, rfl, hr1⟩ := own_slice ho1
    go_wp2_with fail
    refine (spec_HadamardCount_any A1 n c1 gs _ hr1 hn).mono ?_
    rintro e w2 ⟨rfl, hx2⟩
    have hx02 := hx1.trans hx2
    go_wp2_with fail
    refine (toGateS_any A n c gs _ (h.ext hx02) hn).mono ?_
    rintro e w3 ⟨v3, rfl, ho3, hx3⟩
    obtain ⟨A3, c3, rfl, hr3⟩ := own_slice ho3
    go_wp2_with fail
    refine (impl_HadamardCount_any A3 n c3 gs _ hr3 hn).mono ?_
    rintro e w4 ⟨rfl, hx4⟩
    have hx04 := (hx02.trans hx3).trans hx4
    go_wp2_with fail
    refine (toGateS_any A n c gs _ (h.ext hx04) hn).mono ?_
    rintro e w5 ⟨v5, rfl, ho5, hx5⟩
    obtain ⟨A5, c5, rfl, hr5⟩ := own_slice ho5
    go_wp2_with fail
    refine (eqGateS_any A3 A5 n n c3 c5 gs gs _ ((hr3.ext hx4).ext hx5) hr5 hn hn).mono ?_
    rintro e w6 ⟨rfl, hx6⟩
    rw [eqL_self eqG eqG_self]
    go_wp2
    go_ret
    exact ⟨rfl, (hx04.trans hx5).trans hx6⟩
  · rw [szF_lt (by omega)]
    go_wp2
    go_ret
    exact ⟨rfl, Ext.refl _⟩

set_option maxRecDepth 100000 in
theorem lifted (os : Os) (started : os.Started) (H : Type) (enc : TypeId × Value → H) :
    ReturnsInHanded {} Try.checked os 4 .any (Rows.fnExactHadamardCountSpec.pre6 enc Try.prog Try.f4 Rows.fnExactHadamardCountRow.domain false) (Rows.fnExactHadamardCountSpec.post enc Try.prog Try.f4 false true false false) := by
  refine returnsInHanded_of_change (C := Try.checked) own started (by kernel_rfl) Try.func4
    (ChangeSpec.witness6 (enc := enc) (C := Try.checked) false ⟨#[], #[.slice none 0 0], []⟩ 8 (by kernel_rfl) (by kernel_rfl) (by kernel_rfl) (by kernel_rfl)) ?_
  intro W base args ds gs before hval0 hW hcnd _
  have hval : ∀ (j : Nat) t v, Try.f4.params[j]? = some t → args[j]? = some v → Value.okWide Try.prog W .any base t v := hval0
  have hW' := hW
  obtain ⟨p, q, hA0, hV, rfl, hfz, hnd⟩ := hW
  have hA : DataW.TrodAll enc Try.prog W 0 (fun _ => true) true Try.f4.params.toList args.toList ds p := hA0
  rw [Try.params4] at hA hval
  obtain ⟨v0, vs0, d0, ds0, p0, q0, hargs, rfl, rfl, h0, r0⟩ := trodAll_cons hA
  obtain ⟨rfl, rfl, rfl⟩ := trodAll_nil r0
  obtain rfl : args = #[v0] := by cases args; simp_all
  clear hA0 hval0 hfz hnd hV hcnd
  obtain ⟨A, n, c, gs, rfl, hnc, hcm, hr, hok⟩ := open_lgates (hval 0 _ v0 rfl rfl) h0
  refine (walk A n c gs W hr (by omega)).mono fun e W' ⟨he, hx⟩ => ?_
  subst he
  exact ⟨_, rfl, law_post rfl (by rw [Try.params4]; decide +kernel) rfl hW' rfl rfl rfl hx⟩

theorem over : Rows.fnExactHadamardCountRow.holds Try.pinned (OpenSpec.ofChange Rows.fnExactHadamardCountSpec) :=
  OpenClaim.holds_of_wide 4 Try.f4 rfl rfl rfl rfl rfl rfl rfl ⟨rfl, rfl, rfl, rfl, rfl⟩ rfl rfl rfl rfl rfl (by kernel_rfl) Try.func4 (by kernel_rfl)
    (of_decide_eq_true (by kernel_rfl)) (by unfold Func.isWrapper; first | (rw [if_pos (by decide +kernel)]; kernel_rfl) | (rw [if_neg (by decide +kernel)]; exact ⟨rfl, rfl⟩))
    (fun os started H enc _ => lifted os started H enc)

/-- The statement. -/
theorem proved : Rows.FnExactHadamardCountSaid := over
#print axioms proved

end fnExactHadamardCount
end Go.Proofs.Ythnbenlglnmehaa
