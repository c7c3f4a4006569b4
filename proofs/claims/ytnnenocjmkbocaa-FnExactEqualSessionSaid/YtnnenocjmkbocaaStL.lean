/-
  For every two sessions, the law FnExactEqualSession returns true: the program's EqualSession and the reference's return the same, and the arguments are left alone. No condition.
-/
import Derived.Test.YtnnenocjmkbocaaSt
namespace Go.Proofs.Ytnnenocjmkbocaa
open Go.ChangeShapes Go.WideShapes Go.ChangeAt Go.RowKit Go.Deep
set_option linter.unusedVariables false
namespace fnExactEqualSession
set_option maxRecDepth 100000 in
set_option maxHeartbeats 8000000 in
theorem walk (va : Value) (a : Ss) (vb : Value) (b : Ss) (w : World) (ha : SsAt w w.heap.size va a) (hoka : a.ok) (hb : SsAt w w.heap.size vb b) (hokb : b.ok) :
    Calls Try.prog 4 #[va, vb] w fun e w' => e = .returned (.bool true) ∧ Ext w w' := by
  obtain ⟨A0, A1, A2, A3, c0, c1, c2, c3, rfl, hh0, hh1, hh2, hh3⟩ := ha
  have ha : SsAt w w.heap.size (.agg #[.int .i64 a.g.n, .slice A0 a.g.es.length c0, .string a.t, .int .i64 a.c.n, .int .i64 a.c.bits, .slice A1 a.c.ops.length c1, .slice A2 a.c.st.length c2, .slice A3 a.c.fin.length c3, .bool a.h]) a := ⟨A0, A1, A2, A3, c0, c1, c2, c3, rfl, hh0, hh1, hh2, hh3⟩
  clear hh0 hh1 hh2 hh3
  obtain ⟨B0, B1, B2, B3, d0, d1, d2, d3, rfl, hh0, hh1, hh2, hh3⟩ := hb
  have hb : SsAt w w.heap.size (.agg #[.int .i64 b.g.n, .slice B0 b.g.es.length d0, .string b.t, .int .i64 b.c.n, .int .i64 b.c.bits, .slice B1 b.c.ops.length d1, .slice B2 b.c.st.length d2, .slice B3 b.c.fin.length d3, .bool b.h]) b := ⟨B0, B1, B2, B3, d0, d1, d2, d3, rfl, hh0, hh1, hh2, hh3⟩
  clear hh0 hh1 hh2 hh3
  go_enter Try.func4, Try.ntmps4
  go_wp2_with fail
  have hxw1 : Ext w ((w.alloc (.cells #[.int .i64 a.g.n, .slice A0 a.g.es.length c0, .string a.t, .int .i64 a.c.n, .int .i64 a.c.bits, .slice A1 a.c.ops.length c1, .slice A2 a.c.st.length c2, .slice A3 a.c.fin.length c3, .bool a.h] 38)).alloc (.cells #[.int .i64 b.g.n, .slice B0 b.g.es.length d0, .string b.t, .int .i64 b.c.n, .int .i64 b.c.bits, .slice B1 b.c.ops.length d1, .slice B2 b.c.st.length d2, .slice B3 b.c.fin.length d3, .bool b.h] 38)) := by repeat (first | exact Ext.refl _ | assumption | refine Ext.alloc ?_ _ | refine Ext.drewN ?_ _ | refine Ext.drew ?_)
  have bp_w1 : Blk ((w.alloc (.cells #[.int .i64 a.g.n, .slice A0 a.g.es.length c0, .string a.t, .int .i64 a.c.n, .int .i64 a.c.bits, .slice A1 a.c.ops.length c1, .slice A2 a.c.st.length c2, .slice A3 a.c.fin.length c3, .bool a.h] 38)).alloc (.cells #[.int .i64 b.g.n, .slice B0 b.g.es.length d0, .string b.t, .int .i64 b.c.n, .int .i64 b.c.bits, .slice B1 b.c.ops.length d1, .slice B2 b.c.st.length d2, .slice B3 b.c.fin.length d3, .bool b.h] 38)) (w.heap.size) 38 #[.int .i64 a.g.n, .slice A0 a.g.es.length c0, .string a.t, .int .i64 a.c.n, .int .i64 a.c.bits, .slice A1 a.c.ops.length c1, .slice A2 a.c.st.length c2, .slice A3 a.c.fin.length c3, .bool a.h] := (Blk.new w _ _).alloc _
  have bq_w1 : Blk ((w.alloc (.cells #[.int .i64 a.g.n, .slice A0 a.g.es.length c0, .string a.t, .int .i64 a.c.n, .int .i64 a.c.bits, .slice A1 a.c.ops.length c1, .slice A2 a.c.st.length c2, .slice A3 a.c.fin.length c3, .bool a.h] 38)).alloc (.cells #[.int .i64 b.g.n, .slice B0 b.g.es.length d0, .string b.t, .int .i64 b.c.n, .int .i64 b.c.bits, .slice B1 b.c.ops.length d1, .slice B2 b.c.st.length d2, .slice B3 b.c.fin.length d3, .bool b.h] 38)) (w.heap.size + 1) 38 #[.int .i64 b.g.n, .slice B0 b.g.es.length d0, .string b.t, .int .i64 b.c.n, .int .i64 b.c.bits, .slice B1 b.c.ops.length d1, .slice B2 b.c.st.length d2, .slice B3 b.c.fin.length d3, .bool b.h] := Blk.newAt (b := w.heap.size + 1) (by first | omega | (simp; done) | (simp; omega))
  generalize ((w.alloc (.cells #[.int .i64 a.g.n, .slice A0 a.g.es.length c0, .string a.t, .int .i64 a.c.n, .int .i64 a.c.bits, .slice A1 a.c.ops.length c1, .slice A2 a.c.st.length c2, .slice A3 a.c.fin.length c3, .bool a.h] 38)).alloc (.cells #[.int .i64 b.g.n, .slice B0 b.g.es.length d0, .string b.t, .int .i64 b.c.n, .int .i64 b.c.bits, .slice B1 b.c.ops.length d1, .slice B2 b.c.st.length d2, .slice B3 b.c.fin.length d3, .bool b.h] 38)) = w1 at *
  have lp := bp_w1.lt
  have lq := bq_w1.lt
  have hzw1 := hxw1.size
  have ha_w1 := ha.up hxw1 (by omega)
  have hb_w1 := hb.up hxw1 (by omega)
  have zw1_p_0 : w1.cell? ⟨w.heap.size, 0, none⟩ = some (.int .i64 a.g.n) := bp_w1.cell 0
  have zw1_p_1 : w1.cell? ⟨w.heap.size, 1, none⟩ = some (.slice A0 a.g.es.length c0) := bp_w1.cell 1
  have zw1_p_2 : w1.cell? ⟨w.heap.size, 2, none⟩ = some (.string a.t) := bp_w1.cell 2
  have zw1_p_3 : w1.cell? ⟨w.heap.size, 3, none⟩ = some (.int .i64 a.c.n) := bp_w1.cell 3
  have zw1_p_4 : w1.cell? ⟨w.heap.size, 4, none⟩ = some (.int .i64 a.c.bits) := bp_w1.cell 4
  have zw1_p_5 : w1.cell? ⟨w.heap.size, 5, none⟩ = some (.slice A1 a.c.ops.length c1) := bp_w1.cell 5
  have zw1_p_6 : w1.cell? ⟨w.heap.size, 6, none⟩ = some (.slice A2 a.c.st.length c2) := bp_w1.cell 6
  have zw1_p_7 : w1.cell? ⟨w.heap.size, 7, none⟩ = some (.slice A3 a.c.fin.length c3) := bp_w1.cell 7
  have zw1_p_8 : w1.cell? ⟨w.heap.size, 8, none⟩ = some (.bool a.h) := bp_w1.cell 8
  have zw1_q_0 : w1.cell? ⟨w.heap.size + 1, 0, none⟩ = some (.int .i64 b.g.n) := bq_w1.cell 0
  have zw1_q_1 : w1.cell? ⟨w.heap.size + 1, 1, none⟩ = some (.slice B0 b.g.es.length d0) := bq_w1.cell 1
  have zw1_q_2 : w1.cell? ⟨w.heap.size + 1, 2, none⟩ = some (.string b.t) := bq_w1.cell 2
  have zw1_q_3 : w1.cell? ⟨w.heap.size + 1, 3, none⟩ = some (.int .i64 b.c.n) := bq_w1.cell 3
  have zw1_q_4 : w1.cell? ⟨w.heap.size + 1, 4, none⟩ = some (.int .i64 b.c.bits) := bq_w1.cell 4
  have zw1_q_5 : w1.cell? ⟨w.heap.size + 1, 5, none⟩ = some (.slice B1 b.c.ops.length d1) := bq_w1.cell 5
  have zw1_q_6 : w1.cell? ⟨w.heap.size + 1, 6, none⟩ = some (.slice B2 b.c.st.length d2) := bq_w1.cell 6
  have zw1_q_7 : w1.cell? ⟨w.heap.size + 1, 7, none⟩ = some (.slice B3 b.c.fin.length d3) := bq_w1.cell 7
  have zw1_q_8 : w1.cell? ⟨w.heap.size + 1, 8, none⟩ = some (.bool b.h) := bq_w1.cell 8
  refine (szSession_any (.agg #[.int .i64 a.g.n, .slice A0 a.g.es.length c0, .string a.t, .int .i64 a.c.n, .int .i64 a.c.bits, .slice A1 a.c.ops.length c1, .slice A2 a.c.st.length c2, .slice A3 a.c.fin.length c3, .bool a.h]) a _ _ (ha_w1.more (by omega)) (by omega) (by omega) hoka).mono ?_
  rintro e w2 ⟨rfl, hy2⟩
  have hzw2 := hy2.size
  have hxw2 := hxw1.trans hy2
  have bp_w2 := bp_w1.ext hy2
  have bq_w2 := bq_w1.ext hy2
  have ha_w2 := ha_w1.up hy2 (by omega)
  have hb_w2 := hb_w1.up hy2 (by omega)
  clear zw1_p_0 zw1_p_1 zw1_p_2 zw1_p_3 zw1_p_4 zw1_p_5 zw1_p_6 zw1_p_7 zw1_p_8 zw1_q_0 zw1_q_1 zw1_q_2 zw1_q_3 zw1_q_4 zw1_q_5 zw1_q_6 zw1_q_7 zw1_q_8
  have zw2_p_0 : w2.cell? ⟨w.heap.size, 0, none⟩ = some (.int .i64 a.g.n) := bp_w2.cell 0
  have zw2_p_1 : w2.cell? ⟨w.heap.size, 1, none⟩ = some (.slice A0 a.g.es.length c0) := bp_w2.cell 1
  have zw2_p_2 : w2.cell? ⟨w.heap.size, 2, none⟩ = some (.string a.t) := bp_w2.cell 2
  have zw2_p_3 : w2.cell? ⟨w.heap.size, 3, none⟩ = some (.int .i64 a.c.n) := bp_w2.cell 3
  have zw2_p_4 : w2.cell? ⟨w.heap.size, 4, none⟩ = some (.int .i64 a.c.bits) := bp_w2.cell 4
  have zw2_p_5 : w2.cell? ⟨w.heap.size, 5, none⟩ = some (.slice A1 a.c.ops.length c1) := bp_w2.cell 5
  have zw2_p_6 : w2.cell? ⟨w.heap.size, 6, none⟩ = some (.slice A2 a.c.st.length c2) := bp_w2.cell 6
  have zw2_p_7 : w2.cell? ⟨w.heap.size, 7, none⟩ = some (.slice A3 a.c.fin.length c3) := bp_w2.cell 7
  have zw2_p_8 : w2.cell? ⟨w.heap.size, 8, none⟩ = some (.bool a.h) := bp_w2.cell 8
  have zw2_q_0 : w2.cell? ⟨w.heap.size + 1, 0, none⟩ = some (.int .i64 b.g.n) := bq_w2.cell 0
  have zw2_q_1 : w2.cell? ⟨w.heap.size + 1, 1, none⟩ = some (.slice B0 b.g.es.length d0) := bq_w2.cell 1
  have zw2_q_2 : w2.cell? ⟨w.heap.size + 1, 2, none⟩ = some (.string b.t) := bq_w2.cell 2
  have zw2_q_3 : w2.cell? ⟨w.heap.size + 1, 3, none⟩ = some (.int .i64 b.c.n) := bq_w2.cell 3
  have zw2_q_4 : w2.cell? ⟨w.heap.size + 1, 4, none⟩ = some (.int .i64 b.c.bits) := bq_w2.cell 4
  have zw2_q_5 : w2.cell? ⟨w.heap.size + 1, 5, none⟩ = some (.slice B1 b.c.ops.length d1) := bq_w2.cell 5
  have zw2_q_6 : w2.cell? ⟨w.heap.size + 1, 6, none⟩ = some (.slice B2 b.c.st.length d2) := bq_w2.cell 6
  have zw2_q_7 : w2.cell? ⟨w.heap.size + 1, 7, none⟩ = some (.slice B3 b.c.fin.length d3) := bq_w2.cell 7
  have zw2_q_8 : w2.cell? ⟨w.heap.size + 1, 8, none⟩ = some (.bool b.h) := bq_w2.cell 8
  by_cases hna : (1048576 : Int) < (a.tot : Nat)
  · rw [szF_lt hna]
    go_wp2
    go_ret
    exact ⟨rfl, hxw2⟩
  rw [szF_ge hna]
  have hsa : a.small := by have := hna; unfold Ss.tot at this; unfold Ss.small Gr.small Cm.small; omega
  go_wp2_with fail
  refine (szSession_any (.agg #[.int .i64 b.g.n, .slice B0 b.g.es.length d0, .string b.t, .int .i64 b.c.n, .int .i64 b.c.bits, .slice B1 b.c.ops.length d1, .slice B2 b.c.st.length d2, .slice B3 b.c.fin.length d3, .bool b.h]) b _ _ (hb_w2.more (by omega)) (by omega) (by omega) hokb).mono ?_
  rintro e w3 ⟨rfl, hy3⟩
  have hzw3 := hy3.size
  have hxw3 := hxw2.trans hy3
  have bp_w3 := bp_w2.ext hy3
  have bq_w3 := bq_w2.ext hy3
  have ha_w3 := ha_w2.up hy3 (by omega)
  have hb_w3 := hb_w2.up hy3 (by omega)
  clear zw2_p_0 zw2_p_1 zw2_p_2 zw2_p_3 zw2_p_4 zw2_p_5 zw2_p_6 zw2_p_7 zw2_p_8 zw2_q_0 zw2_q_1 zw2_q_2 zw2_q_3 zw2_q_4 zw2_q_5 zw2_q_6 zw2_q_7 zw2_q_8
  have zw3_p_0 : w3.cell? ⟨w.heap.size, 0, none⟩ = some (.int .i64 a.g.n) := bp_w3.cell 0
  have zw3_p_1 : w3.cell? ⟨w.heap.size, 1, none⟩ = some (.slice A0 a.g.es.length c0) := bp_w3.cell 1
  have zw3_p_2 : w3.cell? ⟨w.heap.size, 2, none⟩ = some (.string a.t) := bp_w3.cell 2
  have zw3_p_3 : w3.cell? ⟨w.heap.size, 3, none⟩ = some (.int .i64 a.c.n) := bp_w3.cell 3
  have zw3_p_4 : w3.cell? ⟨w.heap.size, 4, none⟩ = some (.int .i64 a.c.bits) := bp_w3.cell 4
  have zw3_p_5 : w3.cell? ⟨w.heap.size, 5, none⟩ = some (.slice A1 a.c.ops.length c1) := bp_w3.cell 5
  have zw3_p_6 : w3.cell? ⟨w.heap.size, 6, none⟩ = some (.slice A2 a.c.st.length c2) := bp_w3.cell 6
  have zw3_p_7 : w3.cell? ⟨w.heap.size, 7, none⟩ = some (.slice A3 a.c.fin.length c3) := bp_w3.cell 7
  have zw3_p_8 : w3.cell? ⟨w.heap.size, 8, none⟩ = some (.bool a.h) := bp_w3.cell 8
  have zw3_q_0 : w3.cell? ⟨w.heap.size + 1, 0, none⟩ = some (.int .i64 b.g.n) := bq_w3.cell 0
  have zw3_q_1 : w3.cell? ⟨w.heap.size + 1, 1, none⟩ = some (.slice B0 b.g.es.length d0) := bq_w3.cell 1
  have zw3_q_2 : w3.cell? ⟨w.heap.size + 1, 2, none⟩ = some (.string b.t) := bq_w3.cell 2
  have zw3_q_3 : w3.cell? ⟨w.heap.size + 1, 3, none⟩ = some (.int .i64 b.c.n) := bq_w3.cell 3
  have zw3_q_4 : w3.cell? ⟨w.heap.size + 1, 4, none⟩ = some (.int .i64 b.c.bits) := bq_w3.cell 4
  have zw3_q_5 : w3.cell? ⟨w.heap.size + 1, 5, none⟩ = some (.slice B1 b.c.ops.length d1) := bq_w3.cell 5
  have zw3_q_6 : w3.cell? ⟨w.heap.size + 1, 6, none⟩ = some (.slice B2 b.c.st.length d2) := bq_w3.cell 6
  have zw3_q_7 : w3.cell? ⟨w.heap.size + 1, 7, none⟩ = some (.slice B3 b.c.fin.length d3) := bq_w3.cell 7
  have zw3_q_8 : w3.cell? ⟨w.heap.size + 1, 8, none⟩ = some (.bool b.h) := bq_w3.cell 8
  by_cases hnb : (1048576 - (a.tot : Nat) : Int) < (b.tot : Nat)
  · rw [szF_lt hnb]
    go_wp2
    go_ret
    exact ⟨rfl, hxw3⟩
  rw [szF_ge hnb]
  have hsb : b.small := by have := hnb; unfold Ss.tot at this; unfold Ss.small Gr.small Cm.small; omega
  have sz : a.g.es.length ≤ 100000000 ∧ b.g.es.length ≤ 100000000 ∧ (a.c.ops.length ≤ 100000000 ∧ b.c.ops.length ≤ 100000000 ∧ a.c.st.length ≤ 100000000 ∧ b.c.st.length ≤ 100000000 ∧ a.c.fin.length ≤ 100000000 ∧ b.c.fin.length ≤ 100000000) := by have h1 := hsa; have h2 := hsb; unfold Ss.small Gr.small Cm.small at h1 h2; omega
  have SZ := Lib.hid sz
  clear sz
  go_wp2_with fail
  have HK1 : Hid (∀ w', Blk w' (w.heap.size) 38 #[.int .i64 a.g.n, .slice A0 a.g.es.length c0, .string a.t, .int .i64 a.c.n, .int .i64 a.c.bits, .slice A1 a.c.ops.length c1, .slice A2 a.c.st.length c2, .slice A3 a.c.fin.length c3, .bool a.h] → Blk w' (w.heap.size + 1) 38 #[.int .i64 b.g.n, .slice B0 b.g.es.length d0, .string b.t, .int .i64 b.c.n, .int .i64 b.c.bits, .slice B1 b.c.ops.length d1, .slice B2 b.c.st.length d2, .slice B3 b.c.fin.length d3, .bool b.h] → w'.cell? ⟨w.heap.size, 0, none⟩ = some (.int .i64 a.g.n) ∧ w'.cell? ⟨w.heap.size, 1, none⟩ = some (.slice A0 a.g.es.length c0) ∧ w'.cell? ⟨w.heap.size, 2, none⟩ = some (.string a.t) ∧ w'.cell? ⟨w.heap.size, 3, none⟩ = some (.int .i64 a.c.n) ∧ w'.cell? ⟨w.heap.size, 4, none⟩ = some (.int .i64 a.c.bits) ∧ w'.cell? ⟨w.heap.size, 5, none⟩ = some (.slice A1 a.c.ops.length c1) ∧ w'.cell? ⟨w.heap.size, 6, none⟩ = some (.slice A2 a.c.st.length c2) ∧ w'.cell? ⟨w.heap.size, 7, none⟩ = some (.slice A3 a.c.fin.length c3) ∧ w'.cell? ⟨w.heap.size, 8, none⟩ = some (.bool a.h) ∧ w'.cell? ⟨w.heap.size + 1, 0, none⟩ = some (.int .i64 b.g.n) ∧ w'.cell? ⟨w.heap.size + 1, 1, none⟩ = some (.slice B0 b.g.es.length d0) ∧ w'.cell? ⟨w.heap.size + 1, 2, none⟩ = some (.string b.t) ∧ w'.cell? ⟨w.heap.size + 1, 3, none⟩ = some (.int .i64 b.c.n) ∧ w'.cell? ⟨w.heap.size + 1, 4, none⟩ = some (.int .i64 b.c.bits) ∧ w'.cell? ⟨w.heap.size + 1, 5, none⟩ = some (.slice B1 b.c.ops.length d1) ∧ w'.cell? ⟨w.heap.size + 1, 6, none⟩ = some (.slice B2 b.c.st.length d2) ∧ w'.cell? ⟨w.heap.size + 1, 7, none⟩ = some (.slice B3 b.c.fin.length d3) ∧ w'.cell? ⟨w.heap.size + 1, 8, none⟩ = some (.bool b.h)) := fun w' gp gq => ⟨gp.cell 0, gp.cell 1, gp.cell 2, gp.cell 3, gp.cell 4, gp.cell 5, gp.cell 6, gp.cell 7, gp.cell 8, gq.cell 0, gq.cell 1, gq.cell 2, gq.cell 3, gq.cell 4, gq.cell 5, gq.cell 6, gq.cell 7, gq.cell 8⟩
  have tok0 : True := trivial
  have tok1 : True := trivial
  have tok2 : True := trivial
  have ha_d : SsAt w3.drew w3.drew.heap.size (.agg #[.int .i64 a.g.n, .slice A0 a.g.es.length c0, .string a.t, .int .i64 a.c.n, .int .i64 a.c.bits, .slice A1 a.c.ops.length c1, .slice A2 a.c.st.length c2, .slice A3 a.c.fin.length c3, .bool a.h]) a := (ha_w3.up (Ext.refl w3).drew (by omega)).more (show _ ≤ w3.heap.size by omega)
  go_region_held3 (fun w' => w'.cell? ⟨w.heap.size, 0, none⟩ = some (.int .i64 a.g.n) ∧ w'.cell? ⟨w.heap.size, 1, none⟩ = some (.slice A0 a.g.es.length c0) ∧ w'.cell? ⟨w.heap.size, 2, none⟩ = some (.string a.t) ∧ w'.cell? ⟨w.heap.size, 3, none⟩ = some (.int .i64 a.c.n) ∧ w'.cell? ⟨w.heap.size, 4, none⟩ = some (.int .i64 a.c.bits) ∧ w'.cell? ⟨w.heap.size, 5, none⟩ = some (.slice A1 a.c.ops.length c1) ∧ w'.cell? ⟨w.heap.size, 6, none⟩ = some (.slice A2 a.c.st.length c2) ∧ w'.cell? ⟨w.heap.size, 7, none⟩ = some (.slice A3 a.c.fin.length c3) ∧ w'.cell? ⟨w.heap.size, 8, none⟩ = some (.bool a.h) ∧ w'.cell? ⟨w.heap.size + 1, 0, none⟩ = some (.int .i64 b.g.n) ∧ w'.cell? ⟨w.heap.size + 1, 1, none⟩ = some (.slice B0 b.g.es.length d0) ∧ w'.cell? ⟨w.heap.size + 1, 2, none⟩ = some (.string b.t) ∧ w'.cell? ⟨w.heap.size + 1, 3, none⟩ = some (.int .i64 b.c.n) ∧ w'.cell? ⟨w.heap.size + 1, 4, none⟩ = some (.int .i64 b.c.bits) ∧ w'.cell? ⟨w.heap.size + 1, 5, none⟩ = some (.slice B1 b.c.ops.length d1) ∧ w'.cell? ⟨w.heap.size + 1, 6, none⟩ = some (.slice B2 b.c.st.length d2) ∧ w'.cell? ⟨w.heap.size + 1, 7, none⟩ = some (.slice B3 b.c.fin.length d3) ∧ w'.cell? ⟨w.heap.size + 1, 8, none⟩ = some (.bool b.h))
    (first | go_keep | exact HK1.out _ (by assumption) (by assumption))
    (first
            | (go_at_call 21; have _t := tok0; clear tok0 _t; (with_reducible refine (toSession_any (.agg #[.int .i64 a.g.n, .slice A0 a.g.es.length c0, .string a.t, .int .i64 a.c.n, .int .i64 a.c.bits, .slice A1 a.c.ops.length c1, .slice A2 a.c.st.length c2, .slice A3 a.c.fin.length c3, .bool a.h]) a _ ha_d hsa).mono ?_); rintro e w4 ⟨v4, rfl, hr4, hy4⟩; replace hy4 : Ext w3 w4 := Ext.trans (Ext.refl w3).drew hy4; have hzw4 := hy4.size; have hxw4 := hxw3.trans hy4; have bp_w4 := bp_w3.ext hy4; have bq_w4 := bq_w3.ext hy4; have ha_w4 := ha_w3.up hy4 (by omega); have hb_w4 := hb_w3.up hy4 (by omega); clear zw3_p_0 zw3_p_1 zw3_p_2 zw3_p_3 zw3_p_4 zw3_p_5 zw3_p_6 zw3_p_7 zw3_p_8 zw3_q_0 zw3_q_1 zw3_q_2 zw3_q_3 zw3_q_4 zw3_q_5 zw3_q_6 zw3_q_7 zw3_q_8; have zw4_p_0 : w4.cell? ⟨w.heap.size, 0, none⟩ = some (.int .i64 a.g.n) := bp_w4.cell 0; have zw4_p_1 : w4.cell? ⟨w.heap.size, 1, none⟩ = some (.slice A0 a.g.es.length c0) := bp_w4.cell 1; have zw4_p_2 : w4.cell? ⟨w.heap.size, 2, none⟩ = some (.string a.t) := bp_w4.cell 2; have zw4_p_3 : w4.cell? ⟨w.heap.size, 3, none⟩ = some (.int .i64 a.c.n) := bp_w4.cell 3; have zw4_p_4 : w4.cell? ⟨w.heap.size, 4, none⟩ = some (.int .i64 a.c.bits) := bp_w4.cell 4; have zw4_p_5 : w4.cell? ⟨w.heap.size, 5, none⟩ = some (.slice A1 a.c.ops.length c1) := bp_w4.cell 5; have zw4_p_6 : w4.cell? ⟨w.heap.size, 6, none⟩ = some (.slice A2 a.c.st.length c2) := bp_w4.cell 6; have zw4_p_7 : w4.cell? ⟨w.heap.size, 7, none⟩ = some (.slice A3 a.c.fin.length c3) := bp_w4.cell 7; have zw4_p_8 : w4.cell? ⟨w.heap.size, 8, none⟩ = some (.bool a.h) := bp_w4.cell 8; have zw4_q_0 : w4.cell? ⟨w.heap.size + 1, 0, none⟩ = some (.int .i64 b.g.n) := bq_w4.cell 0; have zw4_q_1 : w4.cell? ⟨w.heap.size + 1, 1, none⟩ = some (.slice B0 b.g.es.length d0) := bq_w4.cell 1; have zw4_q_2 : w4.cell? ⟨w.heap.size + 1, 2, none⟩ = some (.string b.t) := bq_w4.cell 2; have zw4_q_3 : w4.cell? ⟨w.heap.size + 1, 3, none⟩ = some (.int .i64 b.c.n) := bq_w4.cell 3; have zw4_q_4 : w4.cell? ⟨w.heap.size + 1, 4, none⟩ = some (.int .i64 b.c.bits) := bq_w4.cell 4; have zw4_q_5 : w4.cell? ⟨w.heap.size + 1, 5, none⟩ = some (.slice B1 b.c.ops.length d1) := bq_w4.cell 5; have zw4_q_6 : w4.cell? ⟨w.heap.size + 1, 6, none⟩ = some (.slice B2 b.c.st.length d2) := bq_w4.cell 6; have zw4_q_7 : w4.cell? ⟨w.heap.size + 1, 7, none⟩ = some (.slice B3 b.c.fin.length d3) := bq_w4.cell 7; have zw4_q_8 : w4.cell? ⟨w.heap.size + 1, 8, none⟩ = some (.bool b.h) := bq_w4.cell 8; have hb_m : SsAt w4 w4.heap.size (.agg #[.int .i64 b.g.n, .slice B0 b.g.es.length d0, .string b.t, .int .i64 b.c.n, .int .i64 b.c.bits, .slice B1 b.c.ops.length d1, .slice B2 b.c.st.length d2, .slice B3 b.c.fin.length d3, .bool b.h]) b := hb_w4.more (by omega))
            | (go_at_call 21; have _t := tok1; clear tok1 _t; (with_reducible refine (toSession_any (.agg #[.int .i64 b.g.n, .slice B0 b.g.es.length d0, .string b.t, .int .i64 b.c.n, .int .i64 b.c.bits, .slice B1 b.c.ops.length d1, .slice B2 b.c.st.length d2, .slice B3 b.c.fin.length d3, .bool b.h]) b _ hb_m hsb).mono ?_); rintro e w5 ⟨v5, rfl, hr5, hy5⟩; have hzw5 := hy5.size; have hxw5 := hxw4.trans hy5; have bp_w5 := bp_w4.ext hy5; have bq_w5 := bq_w4.ext hy5; have ha_w5 := ha_w4.up hy5 (by omega); have hb_w5 := hb_w4.up hy5 (by omega); clear zw4_p_0 zw4_p_1 zw4_p_2 zw4_p_3 zw4_p_4 zw4_p_5 zw4_p_6 zw4_p_7 zw4_p_8 zw4_q_0 zw4_q_1 zw4_q_2 zw4_q_3 zw4_q_4 zw4_q_5 zw4_q_6 zw4_q_7 zw4_q_8; have zw5_p_0 : w5.cell? ⟨w.heap.size, 0, none⟩ = some (.int .i64 a.g.n) := bp_w5.cell 0; have zw5_p_1 : w5.cell? ⟨w.heap.size, 1, none⟩ = some (.slice A0 a.g.es.length c0) := bp_w5.cell 1; have zw5_p_2 : w5.cell? ⟨w.heap.size, 2, none⟩ = some (.string a.t) := bp_w5.cell 2; have zw5_p_3 : w5.cell? ⟨w.heap.size, 3, none⟩ = some (.int .i64 a.c.n) := bp_w5.cell 3; have zw5_p_4 : w5.cell? ⟨w.heap.size, 4, none⟩ = some (.int .i64 a.c.bits) := bp_w5.cell 4; have zw5_p_5 : w5.cell? ⟨w.heap.size, 5, none⟩ = some (.slice A1 a.c.ops.length c1) := bp_w5.cell 5; have zw5_p_6 : w5.cell? ⟨w.heap.size, 6, none⟩ = some (.slice A2 a.c.st.length c2) := bp_w5.cell 6; have zw5_p_7 : w5.cell? ⟨w.heap.size, 7, none⟩ = some (.slice A3 a.c.fin.length c3) := bp_w5.cell 7; have zw5_p_8 : w5.cell? ⟨w.heap.size, 8, none⟩ = some (.bool a.h) := bp_w5.cell 8; have zw5_q_0 : w5.cell? ⟨w.heap.size + 1, 0, none⟩ = some (.int .i64 b.g.n) := bq_w5.cell 0; have zw5_q_1 : w5.cell? ⟨w.heap.size + 1, 1, none⟩ = some (.slice B0 b.g.es.length d0) := bq_w5.cell 1; have zw5_q_2 : w5.cell? ⟨w.heap.size + 1, 2, none⟩ = some (.string b.t) := bq_w5.cell 2; have zw5_q_3 : w5.cell? ⟨w.heap.size + 1, 3, none⟩ = some (.int .i64 b.c.n) := bq_w5.cell 3; have zw5_q_4 : w5.cell? ⟨w.heap.size + 1, 4, none⟩ = some (.int .i64 b.c.bits) := bq_w5.cell 4; have zw5_q_5 : w5.cell? ⟨w.heap.size + 1, 5, none⟩ = some (.slice B1 b.c.ops.length d1) := bq_w5.cell 5; have zw5_q_6 : w5.cell? ⟨w.heap.size + 1, 6, none⟩ = some (.slice B2 b.c.st.length d2) := bq_w5.cell 6; have zw5_q_7 : w5.cell? ⟨w.heap.size + 1, 7, none⟩ = some (.slice B3 b.c.fin.length d3) := bq_w5.cell 7; have zw5_q_8 : w5.cell? ⟨w.heap.size + 1, 8, none⟩ = some (.bool b.h) := bq_w5.cell 8; have hr4_5 := hr4.ext hy5)
            | (go_at_call 20; have _t := tok2; clear tok2 _t; (with_reducible refine (spec_EqualSession_any v4 v5 a b _ hr4_5 hr5 SZ.out.1 SZ.out.2.1 SZ.out.2.2).mono ?_); rintro e w6 ⟨rfl, hy6⟩; have hzw6 := hy6.size; have hxw6 := hxw5.trans hy6; have bp_w6 := bp_w5.ext hy6; have bq_w6 := bq_w5.ext hy6; have ha_w6 := ha_w5.up hy6 (by omega); have hb_w6 := hb_w5.up hy6 (by omega); clear zw5_p_0 zw5_p_1 zw5_p_2 zw5_p_3 zw5_p_4 zw5_p_5 zw5_p_6 zw5_p_7 zw5_p_8 zw5_q_0 zw5_q_1 zw5_q_2 zw5_q_3 zw5_q_4 zw5_q_5 zw5_q_6 zw5_q_7 zw5_q_8; have zw6_p_0 : w6.cell? ⟨w.heap.size, 0, none⟩ = some (.int .i64 a.g.n) := bp_w6.cell 0; have zw6_p_1 : w6.cell? ⟨w.heap.size, 1, none⟩ = some (.slice A0 a.g.es.length c0) := bp_w6.cell 1; have zw6_p_2 : w6.cell? ⟨w.heap.size, 2, none⟩ = some (.string a.t) := bp_w6.cell 2; have zw6_p_3 : w6.cell? ⟨w.heap.size, 3, none⟩ = some (.int .i64 a.c.n) := bp_w6.cell 3; have zw6_p_4 : w6.cell? ⟨w.heap.size, 4, none⟩ = some (.int .i64 a.c.bits) := bp_w6.cell 4; have zw6_p_5 : w6.cell? ⟨w.heap.size, 5, none⟩ = some (.slice A1 a.c.ops.length c1) := bp_w6.cell 5; have zw6_p_6 : w6.cell? ⟨w.heap.size, 6, none⟩ = some (.slice A2 a.c.st.length c2) := bp_w6.cell 6; have zw6_p_7 : w6.cell? ⟨w.heap.size, 7, none⟩ = some (.slice A3 a.c.fin.length c3) := bp_w6.cell 7; have zw6_p_8 : w6.cell? ⟨w.heap.size, 8, none⟩ = some (.bool a.h) := bp_w6.cell 8; have zw6_q_0 : w6.cell? ⟨w.heap.size + 1, 0, none⟩ = some (.int .i64 b.g.n) := bq_w6.cell 0; have zw6_q_1 : w6.cell? ⟨w.heap.size + 1, 1, none⟩ = some (.slice B0 b.g.es.length d0) := bq_w6.cell 1; have zw6_q_2 : w6.cell? ⟨w.heap.size + 1, 2, none⟩ = some (.string b.t) := bq_w6.cell 2; have zw6_q_3 : w6.cell? ⟨w.heap.size + 1, 3, none⟩ = some (.int .i64 b.c.n) := bq_w6.cell 3; have zw6_q_4 : w6.cell? ⟨w.heap.size + 1, 4, none⟩ = some (.int .i64 b.c.bits) := bq_w6.cell 4; have zw6_q_5 : w6.cell? ⟨w.heap.size + 1, 5, none⟩ = some (.slice B1 b.c.ops.length d1) := bq_w6.cell 5; have zw6_q_6 : w6.cell? ⟨w.heap.size + 1, 6, none⟩ = some (.slice B2 b.c.st.length d2) := bq_w6.cell 6; have zw6_q_7 : w6.cell? ⟨w.heap.size + 1, 7, none⟩ = some (.slice B3 b.c.fin.length d3) := bq_w6.cell 7; have zw6_q_8 : w6.cell? ⟨w.heap.size + 1, 8, none⟩ = some (.bool b.h) := bq_w6.cell 8))
  clear ha_d hb_m hr4 hr5 hr4_5
  go_wp2_with fail
  refine (toSession_any (.agg #[.int .i64 a.g.n, .slice A0 a.g.es.length c0, .string a.t, .int .i64 a.c.n, .int .i64 a.c.bits, .slice A1 a.c.ops.length c1, .slice A2 a.c.st.length c2, .slice A3 a.c.fin.length c3, .bool a.h]) a _ (ha_w6.more (by omega)) hsa).mono ?_
  rintro e w7 ⟨v7, rfl, hr7, hy7⟩
  obtain ⟨E0, E1, E2, E3, e0, e1, e2, e3, rfl, hh0, hh1, hh2, hh3⟩ := hr7
  have hr7 : SsAt w7 w7.heap.size (.agg #[.int .i64 a.g.n, .slice E0 a.g.es.length e0, .string a.t, .int .i64 a.c.n, .int .i64 a.c.bits, .slice E1 a.c.ops.length e1, .slice E2 a.c.st.length e2, .slice E3 a.c.fin.length e3, .bool a.h]) a := ⟨E0, E1, E2, E3, e0, e1, e2, e3, rfl, hh0, hh1, hh2, hh3⟩
  clear hh0 hh1 hh2 hh3
  have hzw7 := hy7.size
  have hxw7 := hxw6.trans hy7
  have bp_w7 := bp_w6.ext hy7
  have bq_w7 := bq_w6.ext hy7
  have ha_w7 := ha_w6.up hy7 (by omega)
  have hb_w7 := hb_w6.up hy7 (by omega)
  clear zw6_p_0 zw6_p_1 zw6_p_2 zw6_p_3 zw6_p_4 zw6_p_5 zw6_p_6 zw6_p_7 zw6_p_8 zw6_q_0 zw6_q_1 zw6_q_2 zw6_q_3 zw6_q_4 zw6_q_5 zw6_q_6 zw6_q_7 zw6_q_8
  have zw7_p_0 : w7.cell? ⟨w.heap.size, 0, none⟩ = some (.int .i64 a.g.n) := bp_w7.cell 0
  have zw7_p_1 : w7.cell? ⟨w.heap.size, 1, none⟩ = some (.slice A0 a.g.es.length c0) := bp_w7.cell 1
  have zw7_p_2 : w7.cell? ⟨w.heap.size, 2, none⟩ = some (.string a.t) := bp_w7.cell 2
  have zw7_p_3 : w7.cell? ⟨w.heap.size, 3, none⟩ = some (.int .i64 a.c.n) := bp_w7.cell 3
  have zw7_p_4 : w7.cell? ⟨w.heap.size, 4, none⟩ = some (.int .i64 a.c.bits) := bp_w7.cell 4
  have zw7_p_5 : w7.cell? ⟨w.heap.size, 5, none⟩ = some (.slice A1 a.c.ops.length c1) := bp_w7.cell 5
  have zw7_p_6 : w7.cell? ⟨w.heap.size, 6, none⟩ = some (.slice A2 a.c.st.length c2) := bp_w7.cell 6
  have zw7_p_7 : w7.cell? ⟨w.heap.size, 7, none⟩ = some (.slice A3 a.c.fin.length c3) := bp_w7.cell 7
  have zw7_p_8 : w7.cell? ⟨w.heap.size, 8, none⟩ = some (.bool a.h) := bp_w7.cell 8
  have zw7_q_0 : w7.cell? ⟨w.heap.size + 1, 0, none⟩ = some (.int .i64 b.g.n) := bq_w7.cell 0
  have zw7_q_1 : w7.cell? ⟨w.heap.size + 1, 1, none⟩ = some (.slice B0 b.g.es.length d0) := bq_w7.cell 1
  have zw7_q_2 : w7.cell? ⟨w.heap.size + 1, 2, none⟩ = some (.string b.t) := bq_w7.cell 2
  have zw7_q_3 : w7.cell? ⟨w.heap.size + 1, 3, none⟩ = some (.int .i64 b.c.n) := bq_w7.cell 3
  have zw7_q_4 : w7.cell? ⟨w.heap.size + 1, 4, none⟩ = some (.int .i64 b.c.bits) := bq_w7.cell 4
  have zw7_q_5 : w7.cell? ⟨w.heap.size + 1, 5, none⟩ = some (.slice B1 b.c.ops.length d1) := bq_w7.cell 5
  have zw7_q_6 : w7.cell? ⟨w.heap.size + 1, 6, none⟩ = some (.slice B2 b.c.st.length d2) := bq_w7.cell 6
  have zw7_q_7 : w7.cell? ⟨w.heap.size + 1, 7, none⟩ = some (.slice B3 b.c.fin.length d3) := bq_w7.cell 7
  have zw7_q_8 : w7.cell? ⟨w.heap.size + 1, 8, none⟩ = some (.bool b.h) := bq_w7.cell 8
  have lp7 := bp_w7.lt
  have lq7 := bq_w7.lt
  go_wp2_with fail
  have hy8 : Ext w7 (w7.alloc (.cells #[.int .i64 a.g.n, .slice E0 a.g.es.length e0, .string a.t, .int .i64 a.c.n, .int .i64 a.c.bits, .slice E1 a.c.ops.length e1, .slice E2 a.c.st.length e2, .slice E3 a.c.fin.length e3, .bool a.h] 48)) := by repeat (first | exact Ext.refl _ | assumption | refine Ext.alloc ?_ _ | refine Ext.drewN ?_ _ | refine Ext.drew ?_)
  have br_w8 : Blk (w7.alloc (.cells #[.int .i64 a.g.n, .slice E0 a.g.es.length e0, .string a.t, .int .i64 a.c.n, .int .i64 a.c.bits, .slice E1 a.c.ops.length e1, .slice E2 a.c.st.length e2, .slice E3 a.c.fin.length e3, .bool a.h] 48)) w7.heap.size 48 #[.int .i64 a.g.n, .slice E0 a.g.es.length e0, .string a.t, .int .i64 a.c.n, .int .i64 a.c.bits, .slice E1 a.c.ops.length e1, .slice E2 a.c.st.length e2, .slice E3 a.c.fin.length e3, .bool a.h] := Blk.new _ _ _
  generalize (w7.alloc (.cells #[.int .i64 a.g.n, .slice E0 a.g.es.length e0, .string a.t, .int .i64 a.c.n, .int .i64 a.c.bits, .slice E1 a.c.ops.length e1, .slice E2 a.c.st.length e2, .slice E3 a.c.fin.length e3, .bool a.h] 48)) = w8 at *
  have hzw8 := hy8.size
  have hxw8 := hxw7.trans hy8
  have bp_w8 := bp_w7.ext hy8
  have bq_w8 := bq_w7.ext hy8
  have ha_w8 := ha_w7.up hy8 (by omega)
  have hb_w8 := hb_w7.up hy8 (by omega)
  clear zw7_p_0 zw7_p_1 zw7_p_2 zw7_p_3 zw7_p_4 zw7_p_5 zw7_p_6 zw7_p_7 zw7_p_8 zw7_q_0 zw7_q_1 zw7_q_2 zw7_q_3 zw7_q_4 zw7_q_5 zw7_q_6 zw7_q_7 zw7_q_8
  have zw8_p_0 : w8.cell? ⟨w.heap.size, 0, none⟩ = some (.int .i64 a.g.n) := bp_w8.cell 0
  have zw8_p_1 : w8.cell? ⟨w.heap.size, 1, none⟩ = some (.slice A0 a.g.es.length c0) := bp_w8.cell 1
  have zw8_p_2 : w8.cell? ⟨w.heap.size, 2, none⟩ = some (.string a.t) := bp_w8.cell 2
  have zw8_p_3 : w8.cell? ⟨w.heap.size, 3, none⟩ = some (.int .i64 a.c.n) := bp_w8.cell 3
  have zw8_p_4 : w8.cell? ⟨w.heap.size, 4, none⟩ = some (.int .i64 a.c.bits) := bp_w8.cell 4
  have zw8_p_5 : w8.cell? ⟨w.heap.size, 5, none⟩ = some (.slice A1 a.c.ops.length c1) := bp_w8.cell 5
  have zw8_p_6 : w8.cell? ⟨w.heap.size, 6, none⟩ = some (.slice A2 a.c.st.length c2) := bp_w8.cell 6
  have zw8_p_7 : w8.cell? ⟨w.heap.size, 7, none⟩ = some (.slice A3 a.c.fin.length c3) := bp_w8.cell 7
  have zw8_p_8 : w8.cell? ⟨w.heap.size, 8, none⟩ = some (.bool a.h) := bp_w8.cell 8
  have zw8_q_0 : w8.cell? ⟨w.heap.size + 1, 0, none⟩ = some (.int .i64 b.g.n) := bq_w8.cell 0
  have zw8_q_1 : w8.cell? ⟨w.heap.size + 1, 1, none⟩ = some (.slice B0 b.g.es.length d0) := bq_w8.cell 1
  have zw8_q_2 : w8.cell? ⟨w.heap.size + 1, 2, none⟩ = some (.string b.t) := bq_w8.cell 2
  have zw8_q_3 : w8.cell? ⟨w.heap.size + 1, 3, none⟩ = some (.int .i64 b.c.n) := bq_w8.cell 3
  have zw8_q_4 : w8.cell? ⟨w.heap.size + 1, 4, none⟩ = some (.int .i64 b.c.bits) := bq_w8.cell 4
  have zw8_q_5 : w8.cell? ⟨w.heap.size + 1, 5, none⟩ = some (.slice B1 b.c.ops.length d1) := bq_w8.cell 5
  have zw8_q_6 : w8.cell? ⟨w.heap.size + 1, 6, none⟩ = some (.slice B2 b.c.st.length d2) := bq_w8.cell 6
  have zw8_q_7 : w8.cell? ⟨w.heap.size + 1, 7, none⟩ = some (.slice B3 b.c.fin.length d3) := bq_w8.cell 7
  have zw8_q_8 : w8.cell? ⟨w.heap.size + 1, 8, none⟩ = some (.bool b.h) := bq_w8.cell 8
  have lr := br_w8.lt
  have hr7_w8 := hr7.up hy8 (by omega)
  have zw8_r_0 : w8.cell? ⟨w7.heap.size, 0, none⟩ = some (.int .i64 a.g.n) := br_w8.cell 0
  have zw8_r_1 : w8.cell? ⟨w7.heap.size, 1, none⟩ = some (.slice E0 a.g.es.length e0) := br_w8.cell 1
  have zw8_r_2 : w8.cell? ⟨w7.heap.size, 2, none⟩ = some (.string a.t) := br_w8.cell 2
  have zw8_r_3 : w8.cell? ⟨w7.heap.size, 3, none⟩ = some (.int .i64 a.c.n) := br_w8.cell 3
  have zw8_r_4 : w8.cell? ⟨w7.heap.size, 4, none⟩ = some (.int .i64 a.c.bits) := br_w8.cell 4
  have zw8_r_5 : w8.cell? ⟨w7.heap.size, 5, none⟩ = some (.slice E1 a.c.ops.length e1) := br_w8.cell 5
  have zw8_r_6 : w8.cell? ⟨w7.heap.size, 6, none⟩ = some (.slice E2 a.c.st.length e2) := br_w8.cell 6
  have zw8_r_7 : w8.cell? ⟨w7.heap.size, 7, none⟩ = some (.slice E3 a.c.fin.length e3) := br_w8.cell 7
  have zw8_r_8 : w8.cell? ⟨w7.heap.size, 8, none⟩ = some (.bool a.h) := br_w8.cell 8
  refine (toSession_any (.agg #[.int .i64 b.g.n, .slice B0 b.g.es.length d0, .string b.t, .int .i64 b.c.n, .int .i64 b.c.bits, .slice B1 b.c.ops.length d1, .slice B2 b.c.st.length d2, .slice B3 b.c.fin.length d3, .bool b.h]) b _ (hb_w8.more (by omega)) hsb).mono ?_
  rintro e w9 ⟨v9, rfl, hr9, hy9⟩
  obtain ⟨F0, F1, F2, F3, f0, f1, f2, f3, rfl, hh0, hh1, hh2, hh3⟩ := hr9
  have hr9 : SsAt w9 w9.heap.size (.agg #[.int .i64 b.g.n, .slice F0 b.g.es.length f0, .string b.t, .int .i64 b.c.n, .int .i64 b.c.bits, .slice F1 b.c.ops.length f1, .slice F2 b.c.st.length f2, .slice F3 b.c.fin.length f3, .bool b.h]) b := ⟨F0, F1, F2, F3, f0, f1, f2, f3, rfl, hh0, hh1, hh2, hh3⟩
  clear hh0 hh1 hh2 hh3
  have hzw9 := hy9.size
  have hxw9 := hxw8.trans hy9
  have bp_w9 := bp_w8.ext hy9
  have bq_w9 := bq_w8.ext hy9
  have br_w9 := br_w8.ext hy9
  have ha_w9 := ha_w8.up hy9 (by omega)
  have hb_w9 := hb_w8.up hy9 (by omega)
  have hr7_w9 := hr7_w8.up hy9 (by omega)
  clear zw8_p_0 zw8_p_1 zw8_p_2 zw8_p_3 zw8_p_4 zw8_p_5 zw8_p_6 zw8_p_7 zw8_p_8 zw8_q_0 zw8_q_1 zw8_q_2 zw8_q_3 zw8_q_4 zw8_q_5 zw8_q_6 zw8_q_7 zw8_q_8 zw8_r_0 zw8_r_1 zw8_r_2 zw8_r_3 zw8_r_4 zw8_r_5 zw8_r_6 zw8_r_7 zw8_r_8
  have zw9_p_0 : w9.cell? ⟨w.heap.size, 0, none⟩ = some (.int .i64 a.g.n) := bp_w9.cell 0
  have zw9_p_1 : w9.cell? ⟨w.heap.size, 1, none⟩ = some (.slice A0 a.g.es.length c0) := bp_w9.cell 1
  have zw9_p_2 : w9.cell? ⟨w.heap.size, 2, none⟩ = some (.string a.t) := bp_w9.cell 2
  have zw9_p_3 : w9.cell? ⟨w.heap.size, 3, none⟩ = some (.int .i64 a.c.n) := bp_w9.cell 3
  have zw9_p_4 : w9.cell? ⟨w.heap.size, 4, none⟩ = some (.int .i64 a.c.bits) := bp_w9.cell 4
  have zw9_p_5 : w9.cell? ⟨w.heap.size, 5, none⟩ = some (.slice A1 a.c.ops.length c1) := bp_w9.cell 5
  have zw9_p_6 : w9.cell? ⟨w.heap.size, 6, none⟩ = some (.slice A2 a.c.st.length c2) := bp_w9.cell 6
  have zw9_p_7 : w9.cell? ⟨w.heap.size, 7, none⟩ = some (.slice A3 a.c.fin.length c3) := bp_w9.cell 7
  have zw9_p_8 : w9.cell? ⟨w.heap.size, 8, none⟩ = some (.bool a.h) := bp_w9.cell 8
  have zw9_q_0 : w9.cell? ⟨w.heap.size + 1, 0, none⟩ = some (.int .i64 b.g.n) := bq_w9.cell 0
  have zw9_q_1 : w9.cell? ⟨w.heap.size + 1, 1, none⟩ = some (.slice B0 b.g.es.length d0) := bq_w9.cell 1
  have zw9_q_2 : w9.cell? ⟨w.heap.size + 1, 2, none⟩ = some (.string b.t) := bq_w9.cell 2
  have zw9_q_3 : w9.cell? ⟨w.heap.size + 1, 3, none⟩ = some (.int .i64 b.c.n) := bq_w9.cell 3
  have zw9_q_4 : w9.cell? ⟨w.heap.size + 1, 4, none⟩ = some (.int .i64 b.c.bits) := bq_w9.cell 4
  have zw9_q_5 : w9.cell? ⟨w.heap.size + 1, 5, none⟩ = some (.slice B1 b.c.ops.length d1) := bq_w9.cell 5
  have zw9_q_6 : w9.cell? ⟨w.heap.size + 1, 6, none⟩ = some (.slice B2 b.c.st.length d2) := bq_w9.cell 6
  have zw9_q_7 : w9.cell? ⟨w.heap.size + 1, 7, none⟩ = some (.slice B3 b.c.fin.length d3) := bq_w9.cell 7
  have zw9_q_8 : w9.cell? ⟨w.heap.size + 1, 8, none⟩ = some (.bool b.h) := bq_w9.cell 8
  have zw9_r_0 : w9.cell? ⟨w7.heap.size, 0, none⟩ = some (.int .i64 a.g.n) := br_w9.cell 0
  have zw9_r_1 : w9.cell? ⟨w7.heap.size, 1, none⟩ = some (.slice E0 a.g.es.length e0) := br_w9.cell 1
  have zw9_r_2 : w9.cell? ⟨w7.heap.size, 2, none⟩ = some (.string a.t) := br_w9.cell 2
  have zw9_r_3 : w9.cell? ⟨w7.heap.size, 3, none⟩ = some (.int .i64 a.c.n) := br_w9.cell 3
  have zw9_r_4 : w9.cell? ⟨w7.heap.size, 4, none⟩ = some (.int .i64 a.c.bits) := br_w9.cell 4
  have zw9_r_5 : w9.cell? ⟨w7.heap.size, 5, none⟩ = some (.slice E1 a.c.ops.length e1) := br_w9.cell 5
  have zw9_r_6 : w9.cell? ⟨w7.heap.size, 6, none⟩ = some (.slice E2 a.c.st.length e2) := br_w9.cell 6
  have zw9_r_7 : w9.cell? ⟨w7.heap.size, 7, none⟩ = some (.slice E3 a.c.fin.length e3) := br_w9.cell 7
  have zw9_r_8 : w9.cell? ⟨w7.heap.size, 8, none⟩ = some (.bool a.h) := br_w9.cell 8
  have lp9 := bp_w9.lt
  have lq9 := bq_w9.lt
  have lr9 := br_w9.lt
  go_wp2_with fail
  have hy10 : Ext w9 (w9.alloc (.cells #[.int .i64 b.g.n, .slice F0 b.g.es.length f0, .string b.t, .int .i64 b.c.n, .int .i64 b.c.bits, .slice F1 b.c.ops.length f1, .slice F2 b.c.st.length f2, .slice F3 b.c.fin.length f3, .bool b.h] 48)) := by repeat (first | exact Ext.refl _ | assumption | refine Ext.alloc ?_ _ | refine Ext.drewN ?_ _ | refine Ext.drew ?_)
  have bs_w10 : Blk (w9.alloc (.cells #[.int .i64 b.g.n, .slice F0 b.g.es.length f0, .string b.t, .int .i64 b.c.n, .int .i64 b.c.bits, .slice F1 b.c.ops.length f1, .slice F2 b.c.st.length f2, .slice F3 b.c.fin.length f3, .bool b.h] 48)) w9.heap.size 48 #[.int .i64 b.g.n, .slice F0 b.g.es.length f0, .string b.t, .int .i64 b.c.n, .int .i64 b.c.bits, .slice F1 b.c.ops.length f1, .slice F2 b.c.st.length f2, .slice F3 b.c.fin.length f3, .bool b.h] := Blk.new _ _ _
  generalize (w9.alloc (.cells #[.int .i64 b.g.n, .slice F0 b.g.es.length f0, .string b.t, .int .i64 b.c.n, .int .i64 b.c.bits, .slice F1 b.c.ops.length f1, .slice F2 b.c.st.length f2, .slice F3 b.c.fin.length f3, .bool b.h] 48)) = w10 at *
  have hzw10 := hy10.size
  have hxw10 := hxw9.trans hy10
  have bp_w10 := bp_w9.ext hy10
  have bq_w10 := bq_w9.ext hy10
  have br_w10 := br_w9.ext hy10
  have ha_w10 := ha_w9.up hy10 (by omega)
  have hb_w10 := hb_w9.up hy10 (by omega)
  have hr7_w10 := hr7_w9.up hy10 (by omega)
  clear zw9_p_0 zw9_p_1 zw9_p_2 zw9_p_3 zw9_p_4 zw9_p_5 zw9_p_6 zw9_p_7 zw9_p_8 zw9_q_0 zw9_q_1 zw9_q_2 zw9_q_3 zw9_q_4 zw9_q_5 zw9_q_6 zw9_q_7 zw9_q_8 zw9_r_0 zw9_r_1 zw9_r_2 zw9_r_3 zw9_r_4 zw9_r_5 zw9_r_6 zw9_r_7 zw9_r_8
  have zw10_p_0 : w10.cell? ⟨w.heap.size, 0, none⟩ = some (.int .i64 a.g.n) := bp_w10.cell 0
  have zw10_p_1 : w10.cell? ⟨w.heap.size, 1, none⟩ = some (.slice A0 a.g.es.length c0) := bp_w10.cell 1
  have zw10_p_2 : w10.cell? ⟨w.heap.size, 2, none⟩ = some (.string a.t) := bp_w10.cell 2
  have zw10_p_3 : w10.cell? ⟨w.heap.size, 3, none⟩ = some (.int .i64 a.c.n) := bp_w10.cell 3
  have zw10_p_4 : w10.cell? ⟨w.heap.size, 4, none⟩ = some (.int .i64 a.c.bits) := bp_w10.cell 4
  have zw10_p_5 : w10.cell? ⟨w.heap.size, 5, none⟩ = some (.slice A1 a.c.ops.length c1) := bp_w10.cell 5
  have zw10_p_6 : w10.cell? ⟨w.heap.size, 6, none⟩ = some (.slice A2 a.c.st.length c2) := bp_w10.cell 6
  have zw10_p_7 : w10.cell? ⟨w.heap.size, 7, none⟩ = some (.slice A3 a.c.fin.length c3) := bp_w10.cell 7
  have zw10_p_8 : w10.cell? ⟨w.heap.size, 8, none⟩ = some (.bool a.h) := bp_w10.cell 8
  have zw10_q_0 : w10.cell? ⟨w.heap.size + 1, 0, none⟩ = some (.int .i64 b.g.n) := bq_w10.cell 0
  have zw10_q_1 : w10.cell? ⟨w.heap.size + 1, 1, none⟩ = some (.slice B0 b.g.es.length d0) := bq_w10.cell 1
  have zw10_q_2 : w10.cell? ⟨w.heap.size + 1, 2, none⟩ = some (.string b.t) := bq_w10.cell 2
  have zw10_q_3 : w10.cell? ⟨w.heap.size + 1, 3, none⟩ = some (.int .i64 b.c.n) := bq_w10.cell 3
  have zw10_q_4 : w10.cell? ⟨w.heap.size + 1, 4, none⟩ = some (.int .i64 b.c.bits) := bq_w10.cell 4
  have zw10_q_5 : w10.cell? ⟨w.heap.size + 1, 5, none⟩ = some (.slice B1 b.c.ops.length d1) := bq_w10.cell 5
  have zw10_q_6 : w10.cell? ⟨w.heap.size + 1, 6, none⟩ = some (.slice B2 b.c.st.length d2) := bq_w10.cell 6
  have zw10_q_7 : w10.cell? ⟨w.heap.size + 1, 7, none⟩ = some (.slice B3 b.c.fin.length d3) := bq_w10.cell 7
  have zw10_q_8 : w10.cell? ⟨w.heap.size + 1, 8, none⟩ = some (.bool b.h) := bq_w10.cell 8
  have zw10_r_0 : w10.cell? ⟨w7.heap.size, 0, none⟩ = some (.int .i64 a.g.n) := br_w10.cell 0
  have zw10_r_1 : w10.cell? ⟨w7.heap.size, 1, none⟩ = some (.slice E0 a.g.es.length e0) := br_w10.cell 1
  have zw10_r_2 : w10.cell? ⟨w7.heap.size, 2, none⟩ = some (.string a.t) := br_w10.cell 2
  have zw10_r_3 : w10.cell? ⟨w7.heap.size, 3, none⟩ = some (.int .i64 a.c.n) := br_w10.cell 3
  have zw10_r_4 : w10.cell? ⟨w7.heap.size, 4, none⟩ = some (.int .i64 a.c.bits) := br_w10.cell 4
  have zw10_r_5 : w10.cell? ⟨w7.heap.size, 5, none⟩ = some (.slice E1 a.c.ops.length e1) := br_w10.cell 5
  have zw10_r_6 : w10.cell? ⟨w7.heap.size, 6, none⟩ = some (.slice E2 a.c.st.length e2) := br_w10.cell 6
  have zw10_r_7 : w10.cell? ⟨w7.heap.size, 7, none⟩ = some (.slice E3 a.c.fin.length e3) := br_w10.cell 7
  have zw10_r_8 : w10.cell? ⟨w7.heap.size, 8, none⟩ = some (.bool a.h) := br_w10.cell 8
  have ls := bs_w10.lt
  have hr9_w10 := hr9.up hy10 (by omega)
  have zw10_s_0 : w10.cell? ⟨w9.heap.size, 0, none⟩ = some (.int .i64 b.g.n) := bs_w10.cell 0
  have zw10_s_1 : w10.cell? ⟨w9.heap.size, 1, none⟩ = some (.slice F0 b.g.es.length f0) := bs_w10.cell 1
  have zw10_s_2 : w10.cell? ⟨w9.heap.size, 2, none⟩ = some (.string b.t) := bs_w10.cell 2
  have zw10_s_3 : w10.cell? ⟨w9.heap.size, 3, none⟩ = some (.int .i64 b.c.n) := bs_w10.cell 3
  have zw10_s_4 : w10.cell? ⟨w9.heap.size, 4, none⟩ = some (.int .i64 b.c.bits) := bs_w10.cell 4
  have zw10_s_5 : w10.cell? ⟨w9.heap.size, 5, none⟩ = some (.slice F1 b.c.ops.length f1) := bs_w10.cell 5
  have zw10_s_6 : w10.cell? ⟨w9.heap.size, 6, none⟩ = some (.slice F2 b.c.st.length f2) := bs_w10.cell 6
  have zw10_s_7 : w10.cell? ⟨w9.heap.size, 7, none⟩ = some (.slice F3 b.c.fin.length f3) := bs_w10.cell 7
  have zw10_s_8 : w10.cell? ⟨w9.heap.size, 8, none⟩ = some (.bool b.h) := bs_w10.cell 8
  refine (impl_EqualSession_any (.agg #[.int .i64 a.g.n, .slice E0 a.g.es.length e0, .string a.t, .int .i64 a.c.n, .int .i64 a.c.bits, .slice E1 a.c.ops.length e1, .slice E2 a.c.st.length e2, .slice E3 a.c.fin.length e3, .bool a.h]) (.agg #[.int .i64 b.g.n, .slice F0 b.g.es.length f0, .string b.t, .int .i64 b.c.n, .int .i64 b.c.bits, .slice F1 b.c.ops.length f1, .slice F2 b.c.st.length f2, .slice F3 b.c.fin.length f3, .bool b.h]) a b _ (hr7_w10.more (by omega)) (hr9_w10.more (by omega)) SZ.out.1 SZ.out.2.1 SZ.out.2.2).mono ?_
  rintro e w11 ⟨rfl, hy11⟩
  have hzw11 := hy11.size
  have hxw11 := hxw10.trans hy11
  have bp_w11 := bp_w10.ext hy11
  have bq_w11 := bq_w10.ext hy11
  have br_w11 := br_w10.ext hy11
  have bs_w11 := bs_w10.ext hy11
  have ha_w11 := ha_w10.up hy11 (by omega)
  have hb_w11 := hb_w10.up hy11 (by omega)
  have hr7_w11 := hr7_w10.up hy11 (by omega)
  have hr9_w11 := hr9_w10.up hy11 (by omega)
  clear zw10_p_0 zw10_p_1 zw10_p_2 zw10_p_3 zw10_p_4 zw10_p_5 zw10_p_6 zw10_p_7 zw10_p_8 zw10_q_0 zw10_q_1 zw10_q_2 zw10_q_3 zw10_q_4 zw10_q_5 zw10_q_6 zw10_q_7 zw10_q_8 zw10_r_0 zw10_r_1 zw10_r_2 zw10_r_3 zw10_r_4 zw10_r_5 zw10_r_6 zw10_r_7 zw10_r_8 zw10_s_0 zw10_s_1 zw10_s_2 zw10_s_3 zw10_s_4 zw10_s_5 zw10_s_6 zw10_s_7 zw10_s_8
  have zw11_p_0 : w11.cell? ⟨w.heap.size, 0, none⟩ = some (.int .i64 a.g.n) := bp_w11.cell 0
  have zw11_p_1 : w11.cell? ⟨w.heap.size, 1, none⟩ = some (.slice A0 a.g.es.length c0) := bp_w11.cell 1
  have zw11_p_2 : w11.cell? ⟨w.heap.size, 2, none⟩ = some (.string a.t) := bp_w11.cell 2
  have zw11_p_3 : w11.cell? ⟨w.heap.size, 3, none⟩ = some (.int .i64 a.c.n) := bp_w11.cell 3
  have zw11_p_4 : w11.cell? ⟨w.heap.size, 4, none⟩ = some (.int .i64 a.c.bits) := bp_w11.cell 4
  have zw11_p_5 : w11.cell? ⟨w.heap.size, 5, none⟩ = some (.slice A1 a.c.ops.length c1) := bp_w11.cell 5
  have zw11_p_6 : w11.cell? ⟨w.heap.size, 6, none⟩ = some (.slice A2 a.c.st.length c2) := bp_w11.cell 6
  have zw11_p_7 : w11.cell? ⟨w.heap.size, 7, none⟩ = some (.slice A3 a.c.fin.length c3) := bp_w11.cell 7
  have zw11_p_8 : w11.cell? ⟨w.heap.size, 8, none⟩ = some (.bool a.h) := bp_w11.cell 8
  have zw11_q_0 : w11.cell? ⟨w.heap.size + 1, 0, none⟩ = some (.int .i64 b.g.n) := bq_w11.cell 0
  have zw11_q_1 : w11.cell? ⟨w.heap.size + 1, 1, none⟩ = some (.slice B0 b.g.es.length d0) := bq_w11.cell 1
  have zw11_q_2 : w11.cell? ⟨w.heap.size + 1, 2, none⟩ = some (.string b.t) := bq_w11.cell 2
  have zw11_q_3 : w11.cell? ⟨w.heap.size + 1, 3, none⟩ = some (.int .i64 b.c.n) := bq_w11.cell 3
  have zw11_q_4 : w11.cell? ⟨w.heap.size + 1, 4, none⟩ = some (.int .i64 b.c.bits) := bq_w11.cell 4
  have zw11_q_5 : w11.cell? ⟨w.heap.size + 1, 5, none⟩ = some (.slice B1 b.c.ops.length d1) := bq_w11.cell 5
  have zw11_q_6 : w11.cell? ⟨w.heap.size + 1, 6, none⟩ = some (.slice B2 b.c.st.length d2) := bq_w11.cell 6
  have zw11_q_7 : w11.cell? ⟨w.heap.size + 1, 7, none⟩ = some (.slice B3 b.c.fin.length d3) := bq_w11.cell 7
  have zw11_q_8 : w11.cell? ⟨w.heap.size + 1, 8, none⟩ = some (.bool b.h) := bq_w11.cell 8
  have zw11_r_0 : w11.cell? ⟨w7.heap.size, 0, none⟩ = some (.int .i64 a.g.n) := br_w11.cell 0
  have zw11_r_1 : w11.cell? ⟨w7.heap.size, 1, none⟩ = some (.slice E0 a.g.es.length e0) := br_w11.cell 1
  have zw11_r_2 : w11.cell? ⟨w7.heap.size, 2, none⟩ = some (.string a.t) := br_w11.cell 2
  have zw11_r_3 : w11.cell? ⟨w7.heap.size, 3, none⟩ = some (.int .i64 a.c.n) := br_w11.cell 3
  have zw11_r_4 : w11.cell? ⟨w7.heap.size, 4, none⟩ = some (.int .i64 a.c.bits) := br_w11.cell 4
  have zw11_r_5 : w11.cell? ⟨w7.heap.size, 5, none⟩ = some (.slice E1 a.c.ops.length e1) := br_w11.cell 5
  have zw11_r_6 : w11.cell? ⟨w7.heap.size, 6, none⟩ = some (.slice E2 a.c.st.length e2) := br_w11.cell 6
  have zw11_r_7 : w11.cell? ⟨w7.heap.size, 7, none⟩ = some (.slice E3 a.c.fin.length e3) := br_w11.cell 7
  have zw11_r_8 : w11.cell? ⟨w7.heap.size, 8, none⟩ = some (.bool a.h) := br_w11.cell 8
  have zw11_s_0 : w11.cell? ⟨w9.heap.size, 0, none⟩ = some (.int .i64 b.g.n) := bs_w11.cell 0
  have zw11_s_1 : w11.cell? ⟨w9.heap.size, 1, none⟩ = some (.slice F0 b.g.es.length f0) := bs_w11.cell 1
  have zw11_s_2 : w11.cell? ⟨w9.heap.size, 2, none⟩ = some (.string b.t) := bs_w11.cell 2
  have zw11_s_3 : w11.cell? ⟨w9.heap.size, 3, none⟩ = some (.int .i64 b.c.n) := bs_w11.cell 3
  have zw11_s_4 : w11.cell? ⟨w9.heap.size, 4, none⟩ = some (.int .i64 b.c.bits) := bs_w11.cell 4
  have zw11_s_5 : w11.cell? ⟨w9.heap.size, 5, none⟩ = some (.slice F1 b.c.ops.length f1) := bs_w11.cell 5
  have zw11_s_6 : w11.cell? ⟨w9.heap.size, 6, none⟩ = some (.slice F2 b.c.st.length f2) := bs_w11.cell 6
  have zw11_s_7 : w11.cell? ⟨w9.heap.size, 7, none⟩ = some (.slice F3 b.c.fin.length f3) := bs_w11.cell 7
  have zw11_s_8 : w11.cell? ⟨w9.heap.size, 8, none⟩ = some (.bool b.h) := bs_w11.cell 8
  go_wp2_with fail
  have HK2 : Hid (∀ w', Blk w' (w.heap.size) 38 #[.int .i64 a.g.n, .slice A0 a.g.es.length c0, .string a.t, .int .i64 a.c.n, .int .i64 a.c.bits, .slice A1 a.c.ops.length c1, .slice A2 a.c.st.length c2, .slice A3 a.c.fin.length c3, .bool a.h] → Blk w' (w.heap.size + 1) 38 #[.int .i64 b.g.n, .slice B0 b.g.es.length d0, .string b.t, .int .i64 b.c.n, .int .i64 b.c.bits, .slice B1 b.c.ops.length d1, .slice B2 b.c.st.length d2, .slice B3 b.c.fin.length d3, .bool b.h] → Blk w' (w7.heap.size) 48 #[.int .i64 a.g.n, .slice E0 a.g.es.length e0, .string a.t, .int .i64 a.c.n, .int .i64 a.c.bits, .slice E1 a.c.ops.length e1, .slice E2 a.c.st.length e2, .slice E3 a.c.fin.length e3, .bool a.h] → Blk w' (w9.heap.size) 48 #[.int .i64 b.g.n, .slice F0 b.g.es.length f0, .string b.t, .int .i64 b.c.n, .int .i64 b.c.bits, .slice F1 b.c.ops.length f1, .slice F2 b.c.st.length f2, .slice F3 b.c.fin.length f3, .bool b.h] → w'.cell? ⟨w.heap.size, 0, none⟩ = some (.int .i64 a.g.n) ∧ w'.cell? ⟨w.heap.size, 1, none⟩ = some (.slice A0 a.g.es.length c0) ∧ w'.cell? ⟨w.heap.size, 2, none⟩ = some (.string a.t) ∧ w'.cell? ⟨w.heap.size, 3, none⟩ = some (.int .i64 a.c.n) ∧ w'.cell? ⟨w.heap.size, 4, none⟩ = some (.int .i64 a.c.bits) ∧ w'.cell? ⟨w.heap.size, 5, none⟩ = some (.slice A1 a.c.ops.length c1) ∧ w'.cell? ⟨w.heap.size, 6, none⟩ = some (.slice A2 a.c.st.length c2) ∧ w'.cell? ⟨w.heap.size, 7, none⟩ = some (.slice A3 a.c.fin.length c3) ∧ w'.cell? ⟨w.heap.size, 8, none⟩ = some (.bool a.h) ∧ w'.cell? ⟨w.heap.size + 1, 0, none⟩ = some (.int .i64 b.g.n) ∧ w'.cell? ⟨w.heap.size + 1, 1, none⟩ = some (.slice B0 b.g.es.length d0) ∧ w'.cell? ⟨w.heap.size + 1, 2, none⟩ = some (.string b.t) ∧ w'.cell? ⟨w.heap.size + 1, 3, none⟩ = some (.int .i64 b.c.n) ∧ w'.cell? ⟨w.heap.size + 1, 4, none⟩ = some (.int .i64 b.c.bits) ∧ w'.cell? ⟨w.heap.size + 1, 5, none⟩ = some (.slice B1 b.c.ops.length d1) ∧ w'.cell? ⟨w.heap.size + 1, 6, none⟩ = some (.slice B2 b.c.st.length d2) ∧ w'.cell? ⟨w.heap.size + 1, 7, none⟩ = some (.slice B3 b.c.fin.length d3) ∧ w'.cell? ⟨w.heap.size + 1, 8, none⟩ = some (.bool b.h) ∧ w'.cell? ⟨w7.heap.size, 0, none⟩ = some (.int .i64 a.g.n) ∧ w'.cell? ⟨w7.heap.size, 1, none⟩ = some (.slice E0 a.g.es.length e0) ∧ w'.cell? ⟨w7.heap.size, 2, none⟩ = some (.string a.t) ∧ w'.cell? ⟨w7.heap.size, 3, none⟩ = some (.int .i64 a.c.n) ∧ w'.cell? ⟨w7.heap.size, 4, none⟩ = some (.int .i64 a.c.bits) ∧ w'.cell? ⟨w7.heap.size, 5, none⟩ = some (.slice E1 a.c.ops.length e1) ∧ w'.cell? ⟨w7.heap.size, 6, none⟩ = some (.slice E2 a.c.st.length e2) ∧ w'.cell? ⟨w7.heap.size, 7, none⟩ = some (.slice E3 a.c.fin.length e3) ∧ w'.cell? ⟨w7.heap.size, 8, none⟩ = some (.bool a.h) ∧ w'.cell? ⟨w9.heap.size, 0, none⟩ = some (.int .i64 b.g.n) ∧ w'.cell? ⟨w9.heap.size, 1, none⟩ = some (.slice F0 b.g.es.length f0) ∧ w'.cell? ⟨w9.heap.size, 2, none⟩ = some (.string b.t) ∧ w'.cell? ⟨w9.heap.size, 3, none⟩ = some (.int .i64 b.c.n) ∧ w'.cell? ⟨w9.heap.size, 4, none⟩ = some (.int .i64 b.c.bits) ∧ w'.cell? ⟨w9.heap.size, 5, none⟩ = some (.slice F1 b.c.ops.length f1) ∧ w'.cell? ⟨w9.heap.size, 6, none⟩ = some (.slice F2 b.c.st.length f2) ∧ w'.cell? ⟨w9.heap.size, 7, none⟩ = some (.slice F3 b.c.fin.length f3) ∧ w'.cell? ⟨w9.heap.size, 8, none⟩ = some (.bool b.h)) := fun w' gp gq gr gs => ⟨gp.cell 0, gp.cell 1, gp.cell 2, gp.cell 3, gp.cell 4, gp.cell 5, gp.cell 6, gp.cell 7, gp.cell 8, gq.cell 0, gq.cell 1, gq.cell 2, gq.cell 3, gq.cell 4, gq.cell 5, gq.cell 6, gq.cell 7, gq.cell 8, gr.cell 0, gr.cell 1, gr.cell 2, gr.cell 3, gr.cell 4, gr.cell 5, gr.cell 6, gr.cell 7, gr.cell 8, gs.cell 0, gs.cell 1, gs.cell 2, gs.cell 3, gs.cell 4, gs.cell 5, gs.cell 6, gs.cell 7, gs.cell 8⟩
  have tok0 : True := trivial
  have tok1 : True := trivial
  have h_d : SsAt w11.drew w11.drew.heap.size (.agg #[.int .i64 a.g.n, .slice A0 a.g.es.length c0, .string a.t, .int .i64 a.c.n, .int .i64 a.c.bits, .slice A1 a.c.ops.length c1, .slice A2 a.c.st.length c2, .slice A3 a.c.fin.length c3, .bool a.h]) a := (ha_w11.up (Ext.refl w11).drew (by omega)).more (show _ ≤ w11.heap.size by omega)
  go_region_held3 (fun w' => w'.cell? ⟨w.heap.size, 0, none⟩ = some (.int .i64 a.g.n) ∧ w'.cell? ⟨w.heap.size, 1, none⟩ = some (.slice A0 a.g.es.length c0) ∧ w'.cell? ⟨w.heap.size, 2, none⟩ = some (.string a.t) ∧ w'.cell? ⟨w.heap.size, 3, none⟩ = some (.int .i64 a.c.n) ∧ w'.cell? ⟨w.heap.size, 4, none⟩ = some (.int .i64 a.c.bits) ∧ w'.cell? ⟨w.heap.size, 5, none⟩ = some (.slice A1 a.c.ops.length c1) ∧ w'.cell? ⟨w.heap.size, 6, none⟩ = some (.slice A2 a.c.st.length c2) ∧ w'.cell? ⟨w.heap.size, 7, none⟩ = some (.slice A3 a.c.fin.length c3) ∧ w'.cell? ⟨w.heap.size, 8, none⟩ = some (.bool a.h) ∧ w'.cell? ⟨w.heap.size + 1, 0, none⟩ = some (.int .i64 b.g.n) ∧ w'.cell? ⟨w.heap.size + 1, 1, none⟩ = some (.slice B0 b.g.es.length d0) ∧ w'.cell? ⟨w.heap.size + 1, 2, none⟩ = some (.string b.t) ∧ w'.cell? ⟨w.heap.size + 1, 3, none⟩ = some (.int .i64 b.c.n) ∧ w'.cell? ⟨w.heap.size + 1, 4, none⟩ = some (.int .i64 b.c.bits) ∧ w'.cell? ⟨w.heap.size + 1, 5, none⟩ = some (.slice B1 b.c.ops.length d1) ∧ w'.cell? ⟨w.heap.size + 1, 6, none⟩ = some (.slice B2 b.c.st.length d2) ∧ w'.cell? ⟨w.heap.size + 1, 7, none⟩ = some (.slice B3 b.c.fin.length d3) ∧ w'.cell? ⟨w.heap.size + 1, 8, none⟩ = some (.bool b.h) ∧ w'.cell? ⟨w7.heap.size, 0, none⟩ = some (.int .i64 a.g.n) ∧ w'.cell? ⟨w7.heap.size, 1, none⟩ = some (.slice E0 a.g.es.length e0) ∧ w'.cell? ⟨w7.heap.size, 2, none⟩ = some (.string a.t) ∧ w'.cell? ⟨w7.heap.size, 3, none⟩ = some (.int .i64 a.c.n) ∧ w'.cell? ⟨w7.heap.size, 4, none⟩ = some (.int .i64 a.c.bits) ∧ w'.cell? ⟨w7.heap.size, 5, none⟩ = some (.slice E1 a.c.ops.length e1) ∧ w'.cell? ⟨w7.heap.size, 6, none⟩ = some (.slice E2 a.c.st.length e2) ∧ w'.cell? ⟨w7.heap.size, 7, none⟩ = some (.slice E3 a.c.fin.length e3) ∧ w'.cell? ⟨w7.heap.size, 8, none⟩ = some (.bool a.h) ∧ w'.cell? ⟨w9.heap.size, 0, none⟩ = some (.int .i64 b.g.n) ∧ w'.cell? ⟨w9.heap.size, 1, none⟩ = some (.slice F0 b.g.es.length f0) ∧ w'.cell? ⟨w9.heap.size, 2, none⟩ = some (.string b.t) ∧ w'.cell? ⟨w9.heap.size, 3, none⟩ = some (.int .i64 b.c.n) ∧ w'.cell? ⟨w9.heap.size, 4, none⟩ = some (.int .i64 b.c.bits) ∧ w'.cell? ⟨w9.heap.size, 5, none⟩ = some (.slice F1 b.c.ops.length f1) ∧ w'.cell? ⟨w9.heap.size, 6, none⟩ = some (.slice F2 b.c.st.length f2) ∧ w'.cell? ⟨w9.heap.size, 7, none⟩ = some (.slice F3 b.c.fin.length f3) ∧ w'.cell? ⟨w9.heap.size, 8, none⟩ = some (.bool b.h))
    (first | go_keep | exact HK2.out _ (by assumption) (by assumption) (by assumption) (by assumption))
    (first
            | (go_at_call 21; have _t := tok0; clear tok0 _t; (with_reducible refine (toSession_any (.agg #[.int .i64 a.g.n, .slice A0 a.g.es.length c0, .string a.t, .int .i64 a.c.n, .int .i64 a.c.bits, .slice A1 a.c.ops.length c1, .slice A2 a.c.st.length c2, .slice A3 a.c.fin.length c3, .bool a.h]) a _ h_d hsa).mono ?_); rintro e w12 ⟨v12, rfl, hr12, hy12⟩; replace hy12 : Ext w11 w12 := Ext.trans (Ext.refl w11).drew hy12; have hzw12 := hy12.size; have hxw12 := hxw11.trans hy12; have bp_w12 := bp_w11.ext hy12; have bq_w12 := bq_w11.ext hy12; have br_w12 := br_w11.ext hy12; have bs_w12 := bs_w11.ext hy12; have ha_w12 := ha_w11.up hy12 (by omega); have hb_w12 := hb_w11.up hy12 (by omega); have hr7_w12 := hr7_w11.up hy12 (by omega); have hr9_w12 := hr9_w11.up hy12 (by omega); clear zw11_p_0 zw11_p_1 zw11_p_2 zw11_p_3 zw11_p_4 zw11_p_5 zw11_p_6 zw11_p_7 zw11_p_8 zw11_q_0 zw11_q_1 zw11_q_2 zw11_q_3 zw11_q_4 zw11_q_5 zw11_q_6 zw11_q_7 zw11_q_8 zw11_r_0 zw11_r_1 zw11_r_2 zw11_r_3 zw11_r_4 zw11_r_5 zw11_r_6 zw11_r_7 zw11_r_8 zw11_s_0 zw11_s_1 zw11_s_2 zw11_s_3 zw11_s_4 zw11_s_5 zw11_s_6 zw11_s_7 zw11_s_8; have zw12_p_0 : w12.cell? ⟨w.heap.size, 0, none⟩ = some (.int .i64 a.g.n) := bp_w12.cell 0; have zw12_p_1 : w12.cell? ⟨w.heap.size, 1, none⟩ = some (.slice A0 a.g.es.length c0) := bp_w12.cell 1; have zw12_p_2 : w12.cell? ⟨w.heap.size, 2, none⟩ = some (.string a.t) := bp_w12.cell 2; have zw12_p_3 : w12.cell? ⟨w.heap.size, 3, none⟩ = some (.int .i64 a.c.n) := bp_w12.cell 3; have zw12_p_4 : w12.cell? ⟨w.heap.size, 4, none⟩ = some (.int .i64 a.c.bits) := bp_w12.cell 4; have zw12_p_5 : w12.cell? ⟨w.heap.size, 5, none⟩ = some (.slice A1 a.c.ops.length c1) := bp_w12.cell 5; have zw12_p_6 : w12.cell? ⟨w.heap.size, 6, none⟩ = some (.slice A2 a.c.st.length c2) := bp_w12.cell 6; have zw12_p_7 : w12.cell? ⟨w.heap.size, 7, none⟩ = some (.slice A3 a.c.fin.length c3) := bp_w12.cell 7; have zw12_p_8 : w12.cell? ⟨w.heap.size, 8, none⟩ = some (.bool a.h) := bp_w12.cell 8; have zw12_q_0 : w12.cell? ⟨w.heap.size + 1, 0, none⟩ = some (.int .i64 b.g.n) := bq_w12.cell 0; have zw12_q_1 : w12.cell? ⟨w.heap.size + 1, 1, none⟩ = some (.slice B0 b.g.es.length d0) := bq_w12.cell 1; have zw12_q_2 : w12.cell? ⟨w.heap.size + 1, 2, none⟩ = some (.string b.t) := bq_w12.cell 2; have zw12_q_3 : w12.cell? ⟨w.heap.size + 1, 3, none⟩ = some (.int .i64 b.c.n) := bq_w12.cell 3; have zw12_q_4 : w12.cell? ⟨w.heap.size + 1, 4, none⟩ = some (.int .i64 b.c.bits) := bq_w12.cell 4; have zw12_q_5 : w12.cell? ⟨w.heap.size + 1, 5, none⟩ = some (.slice B1 b.c.ops.length d1) := bq_w12.cell 5; have zw12_q_6 : w12.cell? ⟨w.heap.size + 1, 6, none⟩ = some (.slice B2 b.c.st.length d2) := bq_w12.cell 6; have zw12_q_7 : w12.cell? ⟨w.heap.size + 1, 7, none⟩ = some (.slice B3 b.c.fin.length d3) := bq_w12.cell 7; have zw12_q_8 : w12.cell? ⟨w.heap.size + 1, 8, none⟩ = some (.bool b.h) := bq_w12.cell 8; have zw12_r_0 : w12.cell? ⟨w7.heap.size, 0, none⟩ = some (.int .i64 a.g.n) := br_w12.cell 0; have zw12_r_1 : w12.cell? ⟨w7.heap.size, 1, none⟩ = some (.slice E0 a.g.es.length e0) := br_w12.cell 1; have zw12_r_2 : w12.cell? ⟨w7.heap.size, 2, none⟩ = some (.string a.t) := br_w12.cell 2; have zw12_r_3 : w12.cell? ⟨w7.heap.size, 3, none⟩ = some (.int .i64 a.c.n) := br_w12.cell 3; have zw12_r_4 : w12.cell? ⟨w7.heap.size, 4, none⟩ = some (.int .i64 a.c.bits) := br_w12.cell 4; have zw12_r_5 : w12.cell? ⟨w7.heap.size, 5, none⟩ = some (.slice E1 a.c.ops.length e1) := br_w12.cell 5; have zw12_r_6 : w12.cell? ⟨w7.heap.size, 6, none⟩ = some (.slice E2 a.c.st.length e2) := br_w12.cell 6; have zw12_r_7 : w12.cell? ⟨w7.heap.size, 7, none⟩ = some (.slice E3 a.c.fin.length e3) := br_w12.cell 7; have zw12_r_8 : w12.cell? ⟨w7.heap.size, 8, none⟩ = some (.bool a.h) := br_w12.cell 8; have zw12_s_0 : w12.cell? ⟨w9.heap.size, 0, none⟩ = some (.int .i64 b.g.n) := bs_w12.cell 0; have zw12_s_1 : w12.cell? ⟨w9.heap.size, 1, none⟩ = some (.slice F0 b.g.es.length f0) := bs_w12.cell 1; have zw12_s_2 : w12.cell? ⟨w9.heap.size, 2, none⟩ = some (.string b.t) := bs_w12.cell 2; have zw12_s_3 : w12.cell? ⟨w9.heap.size, 3, none⟩ = some (.int .i64 b.c.n) := bs_w12.cell 3; have zw12_s_4 : w12.cell? ⟨w9.heap.size, 4, none⟩ = some (.int .i64 b.c.bits) := bs_w12.cell 4; have zw12_s_5 : w12.cell? ⟨w9.heap.size, 5, none⟩ = some (.slice F1 b.c.ops.length f1) := bs_w12.cell 5; have zw12_s_6 : w12.cell? ⟨w9.heap.size, 6, none⟩ = some (.slice F2 b.c.st.length f2) := bs_w12.cell 6; have zw12_s_7 : w12.cell? ⟨w9.heap.size, 7, none⟩ = some (.slice F3 b.c.fin.length f3) := bs_w12.cell 7; have zw12_s_8 : w12.cell? ⟨w9.heap.size, 8, none⟩ = some (.bool b.h) := bs_w12.cell 8; have h_m : SsAt w12 w12.heap.size (.agg #[.int .i64 a.g.n, .slice E0 a.g.es.length e0, .string a.t, .int .i64 a.c.n, .int .i64 a.c.bits, .slice E1 a.c.ops.length e1, .slice E2 a.c.st.length e2, .slice E3 a.c.fin.length e3, .bool a.h]) a := hr7_w12.more (by omega))
            | (go_at_call 23; have _t := tok1; clear tok1 _t; (with_reducible refine (eqSession_any (.agg #[.int .i64 a.g.n, .slice E0 a.g.es.length e0, .string a.t, .int .i64 a.c.n, .int .i64 a.c.bits, .slice E1 a.c.ops.length e1, .slice E2 a.c.st.length e2, .slice E3 a.c.fin.length e3, .bool a.h]) v12 a a _ h_m hr12 SZ.out.1 SZ.out.1 ⟨SZ.out.2.2.1, SZ.out.2.2.1, SZ.out.2.2.2.2.1, SZ.out.2.2.2.2.1, SZ.out.2.2.2.2.2.2.1, SZ.out.2.2.2.2.2.2.1⟩).mono ?_); rintro e w13 ⟨rfl, hy13⟩; rw [eqSs_self]; have hzw13 := hy13.size; have hxw13 := hxw12.trans hy13; have bp_w13 := bp_w12.ext hy13; have bq_w13 := bq_w12.ext hy13; have br_w13 := br_w12.ext hy13; have bs_w13 := bs_w12.ext hy13; have ha_w13 := ha_w12.up hy13 (by omega); have hb_w13 := hb_w12.up hy13 (by omega); have hr7_w13 := hr7_w12.up hy13 (by omega); have hr9_w13 := hr9_w12.up hy13 (by omega); clear zw12_p_0 zw12_p_1 zw12_p_2 zw12_p_3 zw12_p_4 zw12_p_5 zw12_p_6 zw12_p_7 zw12_p_8 zw12_q_0 zw12_q_1 zw12_q_2 zw12_q_3 zw12_q_4 zw12_q_5 zw12_q_6 zw12_q_7 zw12_q_8 zw12_r_0 zw12_r_1 zw12_r_2 zw12_r_3 zw12_r_4 zw12_r_5 zw12_r_6 zw12_r_7 zw12_r_8 zw12_s_0 zw12_s_1 zw12_s_2 zw12_s_3 zw12_s_4 zw12_s_5 zw12_s_6 zw12_s_7 zw12_s_8; have zw13_p_0 : w13.cell? ⟨w.heap.size, 0, none⟩ = some (.int .i64 a.g.n) := bp_w13.cell 0; have zw13_p_1 : w13.cell? ⟨w.heap.size, 1, none⟩ = some (.slice A0 a.g.es.length c0) := bp_w13.cell 1; have zw13_p_2 : w13.cell? ⟨w.heap.size, 2, none⟩ = some (.string a.t) := bp_w13.cell 2; have zw13_p_3 : w13.cell? ⟨w.heap.size, 3, none⟩ = some (.int .i64 a.c.n) := bp_w13.cell 3; have zw13_p_4 : w13.cell? ⟨w.heap.size, 4, none⟩ = some (.int .i64 a.c.bits) := bp_w13.cell 4; have zw13_p_5 : w13.cell? ⟨w.heap.size, 5, none⟩ = some (.slice A1 a.c.ops.length c1) := bp_w13.cell 5; have zw13_p_6 : w13.cell? ⟨w.heap.size, 6, none⟩ = some (.slice A2 a.c.st.length c2) := bp_w13.cell 6; have zw13_p_7 : w13.cell? ⟨w.heap.size, 7, none⟩ = some (.slice A3 a.c.fin.length c3) := bp_w13.cell 7; have zw13_p_8 : w13.cell? ⟨w.heap.size, 8, none⟩ = some (.bool a.h) := bp_w13.cell 8; have zw13_q_0 : w13.cell? ⟨w.heap.size + 1, 0, none⟩ = some (.int .i64 b.g.n) := bq_w13.cell 0; have zw13_q_1 : w13.cell? ⟨w.heap.size + 1, 1, none⟩ = some (.slice B0 b.g.es.length d0) := bq_w13.cell 1; have zw13_q_2 : w13.cell? ⟨w.heap.size + 1, 2, none⟩ = some (.string b.t) := bq_w13.cell 2; have zw13_q_3 : w13.cell? ⟨w.heap.size + 1, 3, none⟩ = some (.int .i64 b.c.n) := bq_w13.cell 3; have zw13_q_4 : w13.cell? ⟨w.heap.size + 1, 4, none⟩ = some (.int .i64 b.c.bits) := bq_w13.cell 4; have zw13_q_5 : w13.cell? ⟨w.heap.size + 1, 5, none⟩ = some (.slice B1 b.c.ops.length d1) := bq_w13.cell 5; have zw13_q_6 : w13.cell? ⟨w.heap.size + 1, 6, none⟩ = some (.slice B2 b.c.st.length d2) := bq_w13.cell 6; have zw13_q_7 : w13.cell? ⟨w.heap.size + 1, 7, none⟩ = some (.slice B3 b.c.fin.length d3) := bq_w13.cell 7; have zw13_q_8 : w13.cell? ⟨w.heap.size + 1, 8, none⟩ = some (.bool b.h) := bq_w13.cell 8; have zw13_r_0 : w13.cell? ⟨w7.heap.size, 0, none⟩ = some (.int .i64 a.g.n) := br_w13.cell 0; have zw13_r_1 : w13.cell? ⟨w7.heap.size, 1, none⟩ = some (.slice E0 a.g.es.length e0) := br_w13.cell 1; have zw13_r_2 : w13.cell? ⟨w7.heap.size, 2, none⟩ = some (.string a.t) := br_w13.cell 2; have zw13_r_3 : w13.cell? ⟨w7.heap.size, 3, none⟩ = some (.int .i64 a.c.n) := br_w13.cell 3; have zw13_r_4 : w13.cell? ⟨w7.heap.size, 4, none⟩ = some (.int .i64 a.c.bits) := br_w13.cell 4; have zw13_r_5 : w13.cell? ⟨w7.heap.size, 5, none⟩ = some (.slice E1 a.c.ops.length e1) := br_w13.cell 5; have zw13_r_6 : w13.cell? ⟨w7.heap.size, 6, none⟩ = some (.slice E2 a.c.st.length e2) := br_w13.cell 6; have zw13_r_7 : w13.cell? ⟨w7.heap.size, 7, none⟩ = some (.slice E3 a.c.fin.length e3) := br_w13.cell 7; have zw13_r_8 : w13.cell? ⟨w7.heap.size, 8, none⟩ = some (.bool a.h) := br_w13.cell 8; have zw13_s_0 : w13.cell? ⟨w9.heap.size, 0, none⟩ = some (.int .i64 b.g.n) := bs_w13.cell 0; have zw13_s_1 : w13.cell? ⟨w9.heap.size, 1, none⟩ = some (.slice F0 b.g.es.length f0) := bs_w13.cell 1; have zw13_s_2 : w13.cell? ⟨w9.heap.size, 2, none⟩ = some (.string b.t) := bs_w13.cell 2; have zw13_s_3 : w13.cell? ⟨w9.heap.size, 3, none⟩ = some (.int .i64 b.c.n) := bs_w13.cell 3; have zw13_s_4 : w13.cell? ⟨w9.heap.size, 4, none⟩ = some (.int .i64 b.c.bits) := bs_w13.cell 4; have zw13_s_5 : w13.cell? ⟨w9.heap.size, 5, none⟩ = some (.slice F1 b.c.ops.length f1) := bs_w13.cell 5; have zw13_s_6 : w13.cell? ⟨w9.heap.size, 6, none⟩ = some (.slice F2 b.c.st.length f2) := bs_w13.cell 6; have zw13_s_7 : w13.cell? ⟨w9.heap.size, 7, none⟩ = some (.slice F3 b.c.fin.length f3) := bs_w13.cell 7; have zw13_s_8 : w13.cell? ⟨w9.heap.size, 8, none⟩ = some (.bool b.h) := bs_w13.cell 8))
  clear h_d h_m hr12
  go_wp2_with fail
  have tok0 : True := trivial
  have tok1 : True := trivial
  have h_d : SsAt w13.drew w13.drew.heap.size (.agg #[.int .i64 b.g.n, .slice B0 b.g.es.length d0, .string b.t, .int .i64 b.c.n, .int .i64 b.c.bits, .slice B1 b.c.ops.length d1, .slice B2 b.c.st.length d2, .slice B3 b.c.fin.length d3, .bool b.h]) b := (hb_w13.up (Ext.refl w13).drew (by omega)).more (show _ ≤ w13.heap.size by omega)
  go_region_held3 (fun w' => w'.cell? ⟨w.heap.size, 0, none⟩ = some (.int .i64 a.g.n) ∧ w'.cell? ⟨w.heap.size, 1, none⟩ = some (.slice A0 a.g.es.length c0) ∧ w'.cell? ⟨w.heap.size, 2, none⟩ = some (.string a.t) ∧ w'.cell? ⟨w.heap.size, 3, none⟩ = some (.int .i64 a.c.n) ∧ w'.cell? ⟨w.heap.size, 4, none⟩ = some (.int .i64 a.c.bits) ∧ w'.cell? ⟨w.heap.size, 5, none⟩ = some (.slice A1 a.c.ops.length c1) ∧ w'.cell? ⟨w.heap.size, 6, none⟩ = some (.slice A2 a.c.st.length c2) ∧ w'.cell? ⟨w.heap.size, 7, none⟩ = some (.slice A3 a.c.fin.length c3) ∧ w'.cell? ⟨w.heap.size, 8, none⟩ = some (.bool a.h) ∧ w'.cell? ⟨w.heap.size + 1, 0, none⟩ = some (.int .i64 b.g.n) ∧ w'.cell? ⟨w.heap.size + 1, 1, none⟩ = some (.slice B0 b.g.es.length d0) ∧ w'.cell? ⟨w.heap.size + 1, 2, none⟩ = some (.string b.t) ∧ w'.cell? ⟨w.heap.size + 1, 3, none⟩ = some (.int .i64 b.c.n) ∧ w'.cell? ⟨w.heap.size + 1, 4, none⟩ = some (.int .i64 b.c.bits) ∧ w'.cell? ⟨w.heap.size + 1, 5, none⟩ = some (.slice B1 b.c.ops.length d1) ∧ w'.cell? ⟨w.heap.size + 1, 6, none⟩ = some (.slice B2 b.c.st.length d2) ∧ w'.cell? ⟨w.heap.size + 1, 7, none⟩ = some (.slice B3 b.c.fin.length d3) ∧ w'.cell? ⟨w.heap.size + 1, 8, none⟩ = some (.bool b.h) ∧ w'.cell? ⟨w7.heap.size, 0, none⟩ = some (.int .i64 a.g.n) ∧ w'.cell? ⟨w7.heap.size, 1, none⟩ = some (.slice E0 a.g.es.length e0) ∧ w'.cell? ⟨w7.heap.size, 2, none⟩ = some (.string a.t) ∧ w'.cell? ⟨w7.heap.size, 3, none⟩ = some (.int .i64 a.c.n) ∧ w'.cell? ⟨w7.heap.size, 4, none⟩ = some (.int .i64 a.c.bits) ∧ w'.cell? ⟨w7.heap.size, 5, none⟩ = some (.slice E1 a.c.ops.length e1) ∧ w'.cell? ⟨w7.heap.size, 6, none⟩ = some (.slice E2 a.c.st.length e2) ∧ w'.cell? ⟨w7.heap.size, 7, none⟩ = some (.slice E3 a.c.fin.length e3) ∧ w'.cell? ⟨w7.heap.size, 8, none⟩ = some (.bool a.h) ∧ w'.cell? ⟨w9.heap.size, 0, none⟩ = some (.int .i64 b.g.n) ∧ w'.cell? ⟨w9.heap.size, 1, none⟩ = some (.slice F0 b.g.es.length f0) ∧ w'.cell? ⟨w9.heap.size, 2, none⟩ = some (.string b.t) ∧ w'.cell? ⟨w9.heap.size, 3, none⟩ = some (.int .i64 b.c.n) ∧ w'.cell? ⟨w9.heap.size, 4, none⟩ = some (.int .i64 b.c.bits) ∧ w'.cell? ⟨w9.heap.size, 5, none⟩ = some (.slice F1 b.c.ops.length f1) ∧ w'.cell? ⟨w9.heap.size, 6, none⟩ = some (.slice F2 b.c.st.length f2) ∧ w'.cell? ⟨w9.heap.size, 7, none⟩ = some (.slice F3 b.c.fin.length f3) ∧ w'.cell? ⟨w9.heap.size, 8, none⟩ = some (.bool b.h))
    (first | go_keep | exact HK2.out _ (by assumption) (by assumption) (by assumption) (by assumption))
    (first
            | (go_at_call 21; have _t := tok0; clear tok0 _t; (with_reducible refine (toSession_any (.agg #[.int .i64 b.g.n, .slice B0 b.g.es.length d0, .string b.t, .int .i64 b.c.n, .int .i64 b.c.bits, .slice B1 b.c.ops.length d1, .slice B2 b.c.st.length d2, .slice B3 b.c.fin.length d3, .bool b.h]) b _ h_d hsb).mono ?_); rintro e w14 ⟨v14, rfl, hr14, hy14⟩; replace hy14 : Ext w13 w14 := Ext.trans (Ext.refl w13).drew hy14; have hzw14 := hy14.size; have hxw14 := hxw13.trans hy14; have bp_w14 := bp_w13.ext hy14; have bq_w14 := bq_w13.ext hy14; have br_w14 := br_w13.ext hy14; have bs_w14 := bs_w13.ext hy14; have ha_w14 := ha_w13.up hy14 (by omega); have hb_w14 := hb_w13.up hy14 (by omega); have hr7_w14 := hr7_w13.up hy14 (by omega); have hr9_w14 := hr9_w13.up hy14 (by omega); clear zw13_p_0 zw13_p_1 zw13_p_2 zw13_p_3 zw13_p_4 zw13_p_5 zw13_p_6 zw13_p_7 zw13_p_8 zw13_q_0 zw13_q_1 zw13_q_2 zw13_q_3 zw13_q_4 zw13_q_5 zw13_q_6 zw13_q_7 zw13_q_8 zw13_r_0 zw13_r_1 zw13_r_2 zw13_r_3 zw13_r_4 zw13_r_5 zw13_r_6 zw13_r_7 zw13_r_8 zw13_s_0 zw13_s_1 zw13_s_2 zw13_s_3 zw13_s_4 zw13_s_5 zw13_s_6 zw13_s_7 zw13_s_8; have zw14_p_0 : w14.cell? ⟨w.heap.size, 0, none⟩ = some (.int .i64 a.g.n) := bp_w14.cell 0; have zw14_p_1 : w14.cell? ⟨w.heap.size, 1, none⟩ = some (.slice A0 a.g.es.length c0) := bp_w14.cell 1; have zw14_p_2 : w14.cell? ⟨w.heap.size, 2, none⟩ = some (.string a.t) := bp_w14.cell 2; have zw14_p_3 : w14.cell? ⟨w.heap.size, 3, none⟩ = some (.int .i64 a.c.n) := bp_w14.cell 3; have zw14_p_4 : w14.cell? ⟨w.heap.size, 4, none⟩ = some (.int .i64 a.c.bits) := bp_w14.cell 4; have zw14_p_5 : w14.cell? ⟨w.heap.size, 5, none⟩ = some (.slice A1 a.c.ops.length c1) := bp_w14.cell 5; have zw14_p_6 : w14.cell? ⟨w.heap.size, 6, none⟩ = some (.slice A2 a.c.st.length c2) := bp_w14.cell 6; have zw14_p_7 : w14.cell? ⟨w.heap.size, 7, none⟩ = some (.slice A3 a.c.fin.length c3) := bp_w14.cell 7; have zw14_p_8 : w14.cell? ⟨w.heap.size, 8, none⟩ = some (.bool a.h) := bp_w14.cell 8; have zw14_q_0 : w14.cell? ⟨w.heap.size + 1, 0, none⟩ = some (.int .i64 b.g.n) := bq_w14.cell 0; have zw14_q_1 : w14.cell? ⟨w.heap.size + 1, 1, none⟩ = some (.slice B0 b.g.es.length d0) := bq_w14.cell 1; have zw14_q_2 : w14.cell? ⟨w.heap.size + 1, 2, none⟩ = some (.string b.t) := bq_w14.cell 2; have zw14_q_3 : w14.cell? ⟨w.heap.size + 1, 3, none⟩ = some (.int .i64 b.c.n) := bq_w14.cell 3; have zw14_q_4 : w14.cell? ⟨w.heap.size + 1, 4, none⟩ = some (.int .i64 b.c.bits) := bq_w14.cell 4; have zw14_q_5 : w14.cell? ⟨w.heap.size + 1, 5, none⟩ = some (.slice B1 b.c.ops.length d1) := bq_w14.cell 5; have zw14_q_6 : w14.cell? ⟨w.heap.size + 1, 6, none⟩ = some (.slice B2 b.c.st.length d2) := bq_w14.cell 6; have zw14_q_7 : w14.cell? ⟨w.heap.size + 1, 7, none⟩ = some (.slice B3 b.c.fin.length d3) := bq_w14.cell 7; have zw14_q_8 : w14.cell? ⟨w.heap.size + 1, 8, none⟩ = some (.bool b.h) := bq_w14.cell 8; have zw14_r_0 : w14.cell? ⟨w7.heap.size, 0, none⟩ = some (.int .i64 a.g.n) := br_w14.cell 0; have zw14_r_1 : w14.cell? ⟨w7.heap.size, 1, none⟩ = some (.slice E0 a.g.es.length e0) := br_w14.cell 1; have zw14_r_2 : w14.cell? ⟨w7.heap.size, 2, none⟩ = some (.string a.t) := br_w14.cell 2; have zw14_r_3 : w14.cell? ⟨w7.heap.size, 3, none⟩ = some (.int .i64 a.c.n) := br_w14.cell 3; have zw14_r_4 : w14.cell? ⟨w7.heap.size, 4, none⟩ = some (.int .i64 a.c.bits) := br_w14.cell 4; have zw14_r_5 : w14.cell? ⟨w7.heap.size, 5, none⟩ = some (.slice E1 a.c.ops.length e1) := br_w14.cell 5; have zw14_r_6 : w14.cell? ⟨w7.heap.size, 6, none⟩ = some (.slice E2 a.c.st.length e2) := br_w14.cell 6; have zw14_r_7 : w14.cell? ⟨w7.heap.size, 7, none⟩ = some (.slice E3 a.c.fin.length e3) := br_w14.cell 7; have zw14_r_8 : w14.cell? ⟨w7.heap.size, 8, none⟩ = some (.bool a.h) := br_w14.cell 8; have zw14_s_0 : w14.cell? ⟨w9.heap.size, 0, none⟩ = some (.int .i64 b.g.n) := bs_w14.cell 0; have zw14_s_1 : w14.cell? ⟨w9.heap.size, 1, none⟩ = some (.slice F0 b.g.es.length f0) := bs_w14.cell 1; have zw14_s_2 : w14.cell? ⟨w9.heap.size, 2, none⟩ = some (.string b.t) := bs_w14.cell 2; have zw14_s_3 : w14.cell? ⟨w9.heap.size, 3, none⟩ = some (.int .i64 b.c.n) := bs_w14.cell 3; have zw14_s_4 : w14.cell? ⟨w9.heap.size, 4, none⟩ = some (.int .i64 b.c.bits) := bs_w14.cell 4; have zw14_s_5 : w14.cell? ⟨w9.heap.size, 5, none⟩ = some (.slice F1 b.c.ops.length f1) := bs_w14.cell 5; have zw14_s_6 : w14.cell? ⟨w9.heap.size, 6, none⟩ = some (.slice F2 b.c.st.length f2) := bs_w14.cell 6; have zw14_s_7 : w14.cell? ⟨w9.heap.size, 7, none⟩ = some (.slice F3 b.c.fin.length f3) := bs_w14.cell 7; have zw14_s_8 : w14.cell? ⟨w9.heap.size, 8, none⟩ = some (.bool b.h) := bs_w14.cell 8; have h_m : SsAt w14 w14.heap.size (.agg #[.int .i64 b.g.n, .slice F0 b.g.es.length f0, .string b.t, .int .i64 b.c.n, .int .i64 b.c.bits, .slice F1 b.c.ops.length f1, .slice F2 b.c.st.length f2, .slice F3 b.c.fin.length f3, .bool b.h]) b := hr9_w14.more (by omega))
            | (go_at_call 23; have _t := tok1; clear tok1 _t; (with_reducible refine (eqSession_any (.agg #[.int .i64 b.g.n, .slice F0 b.g.es.length f0, .string b.t, .int .i64 b.c.n, .int .i64 b.c.bits, .slice F1 b.c.ops.length f1, .slice F2 b.c.st.length f2, .slice F3 b.c.fin.length f3, .bool b.h]) v14 b b _ h_m hr14 SZ.out.2.1 SZ.out.2.1 ⟨SZ.out.2.2.2.1, SZ.out.2.2.2.1, SZ.out.2.2.2.2.2.1, SZ.out.2.2.2.2.2.1, SZ.out.2.2.2.2.2.2.2, SZ.out.2.2.2.2.2.2.2⟩).mono ?_); rintro e w15 ⟨rfl, hy15⟩; rw [eqSs_self]; have hzw15 := hy15.size; have hxw15 := hxw14.trans hy15; have bp_w15 := bp_w14.ext hy15; have bq_w15 := bq_w14.ext hy15; have br_w15 := br_w14.ext hy15; have bs_w15 := bs_w14.ext hy15; have ha_w15 := ha_w14.up hy15 (by omega); have hb_w15 := hb_w14.up hy15 (by omega); have hr7_w15 := hr7_w14.up hy15 (by omega); have hr9_w15 := hr9_w14.up hy15 (by omega); clear zw14_p_0 zw14_p_1 zw14_p_2 zw14_p_3 zw14_p_4 zw14_p_5 zw14_p_6 zw14_p_7 zw14_p_8 zw14_q_0 zw14_q_1 zw14_q_2 zw14_q_3 zw14_q_4 zw14_q_5 zw14_q_6 zw14_q_7 zw14_q_8 zw14_r_0 zw14_r_1 zw14_r_2 zw14_r_3 zw14_r_4 zw14_r_5 zw14_r_6 zw14_r_7 zw14_r_8 zw14_s_0 zw14_s_1 zw14_s_2 zw14_s_3 zw14_s_4 zw14_s_5 zw14_s_6 zw14_s_7 zw14_s_8; have zw15_p_0 : w15.cell? ⟨w.heap.size, 0, none⟩ = some (.int .i64 a.g.n) := bp_w15.cell 0; have zw15_p_1 : w15.cell? ⟨w.heap.size, 1, none⟩ = some (.slice A0 a.g.es.length c0) := bp_w15.cell 1; have zw15_p_2 : w15.cell? ⟨w.heap.size, 2, none⟩ = some (.string a.t) := bp_w15.cell 2; have zw15_p_3 : w15.cell? ⟨w.heap.size, 3, none⟩ = some (.int .i64 a.c.n) := bp_w15.cell 3; have zw15_p_4 : w15.cell? ⟨w.heap.size, 4, none⟩ = some (.int .i64 a.c.bits) := bp_w15.cell 4; have zw15_p_5 : w15.cell? ⟨w.heap.size, 5, none⟩ = some (.slice A1 a.c.ops.length c1) := bp_w15.cell 5; have zw15_p_6 : w15.cell? ⟨w.heap.size, 6, none⟩ = some (.slice A2 a.c.st.length c2) := bp_w15.cell 6; have zw15_p_7 : w15.cell? ⟨w.heap.size, 7, none⟩ = some (.slice A3 a.c.fin.length c3) := bp_w15.cell 7; have zw15_p_8 : w15.cell? ⟨w.heap.size, 8, none⟩ = some (.bool a.h) := bp_w15.cell 8; have zw15_q_0 : w15.cell? ⟨w.heap.size + 1, 0, none⟩ = some (.int .i64 b.g.n) := bq_w15.cell 0; have zw15_q_1 : w15.cell? ⟨w.heap.size + 1, 1, none⟩ = some (.slice B0 b.g.es.length d0) := bq_w15.cell 1; have zw15_q_2 : w15.cell? ⟨w.heap.size + 1, 2, none⟩ = some (.string b.t) := bq_w15.cell 2; have zw15_q_3 : w15.cell? ⟨w.heap.size + 1, 3, none⟩ = some (.int .i64 b.c.n) := bq_w15.cell 3; have zw15_q_4 : w15.cell? ⟨w.heap.size + 1, 4, none⟩ = some (.int .i64 b.c.bits) := bq_w15.cell 4; have zw15_q_5 : w15.cell? ⟨w.heap.size + 1, 5, none⟩ = some (.slice B1 b.c.ops.length d1) := bq_w15.cell 5; have zw15_q_6 : w15.cell? ⟨w.heap.size + 1, 6, none⟩ = some (.slice B2 b.c.st.length d2) := bq_w15.cell 6; have zw15_q_7 : w15.cell? ⟨w.heap.size + 1, 7, none⟩ = some (.slice B3 b.c.fin.length d3) := bq_w15.cell 7; have zw15_q_8 : w15.cell? ⟨w.heap.size + 1, 8, none⟩ = some (.bool b.h) := bq_w15.cell 8; have zw15_r_0 : w15.cell? ⟨w7.heap.size, 0, none⟩ = some (.int .i64 a.g.n) := br_w15.cell 0; have zw15_r_1 : w15.cell? ⟨w7.heap.size, 1, none⟩ = some (.slice E0 a.g.es.length e0) := br_w15.cell 1; have zw15_r_2 : w15.cell? ⟨w7.heap.size, 2, none⟩ = some (.string a.t) := br_w15.cell 2; have zw15_r_3 : w15.cell? ⟨w7.heap.size, 3, none⟩ = some (.int .i64 a.c.n) := br_w15.cell 3; have zw15_r_4 : w15.cell? ⟨w7.heap.size, 4, none⟩ = some (.int .i64 a.c.bits) := br_w15.cell 4; have zw15_r_5 : w15.cell? ⟨w7.heap.size, 5, none⟩ = some (.slice E1 a.c.ops.length e1) := br_w15.cell 5; have zw15_r_6 : w15.cell? ⟨w7.heap.size, 6, none⟩ = some (.slice E2 a.c.st.length e2) := br_w15.cell 6; have zw15_r_7 : w15.cell? ⟨w7.heap.size, 7, none⟩ = some (.slice E3 a.c.fin.length e3) := br_w15.cell 7; have zw15_r_8 : w15.cell? ⟨w7.heap.size, 8, none⟩ = some (.bool a.h) := br_w15.cell 8; have zw15_s_0 : w15.cell? ⟨w9.heap.size, 0, none⟩ = some (.int .i64 b.g.n) := bs_w15.cell 0; have zw15_s_1 : w15.cell? ⟨w9.heap.size, 1, none⟩ = some (.slice F0 b.g.es.length f0) := bs_w15.cell 1; have zw15_s_2 : w15.cell? ⟨w9.heap.size, 2, none⟩ = some (.string b.t) := bs_w15.cell 2; have zw15_s_3 : w15.cell? ⟨w9.heap.size, 3, none⟩ = some (.int .i64 b.c.n) := bs_w15.cell 3; have zw15_s_4 : w15.cell? ⟨w9.heap.size, 4, none⟩ = some (.int .i64 b.c.bits) := bs_w15.cell 4; have zw15_s_5 : w15.cell? ⟨w9.heap.size, 5, none⟩ = some (.slice F1 b.c.ops.length f1) := bs_w15.cell 5; have zw15_s_6 : w15.cell? ⟨w9.heap.size, 6, none⟩ = some (.slice F2 b.c.st.length f2) := bs_w15.cell 6; have zw15_s_7 : w15.cell? ⟨w9.heap.size, 7, none⟩ = some (.slice F3 b.c.fin.length f3) := bs_w15.cell 7; have zw15_s_8 : w15.cell? ⟨w9.heap.size, 8, none⟩ = some (.bool b.h) := bs_w15.cell 8))
  clear h_d h_m hr14
  go_wp2
  go_ret
  exact ⟨rfl, hxw15⟩
set_option maxRecDepth 100000 in
theorem lifted (os : Os) (started : os.Started) (H : Type) (enc : TypeId × Value → H) :
    ReturnsInHanded {} Try.checked os 4 .any (Rows.fnExactEqualSessionSpec.pre6 enc Try.prog Try.f4 Rows.fnExactEqualSessionRow.domain false) (Rows.fnExactEqualSessionSpec.post enc Try.prog Try.f4 false true false false) := by
  refine returnsInHanded_of_change (C := Try.checked) own started (by kernel_rfl) Try.func4
    (ChangeSpec.witness6 (enc := enc) (C := Try.checked) false ⟨#[], #[.agg #[.int .i64 0, .slice none 0 0, .string ByteArray.empty, .int .i64 0, .int .i64 0, .slice none 0 0, .slice none 0 0, .slice none 0 0, .bool false], .agg #[.int .i64 0, .slice none 0 0, .string ByteArray.empty, .int .i64 0, .int .i64 0, .slice none 0 0, .slice none 0 0, .slice none 0 0, .bool false]], []⟩ 8 (by kernel_rfl) (by kernel_rfl) (by kernel_rfl) (by kernel_rfl)) ?_
  intro W base args ds gs before hval0 hW hcnd _
  have hval : ∀ (j : Nat) t v, Try.f4.params[j]? = some t → args[j]? = some v → Value.okWide Try.prog W .any base t v := hval0
  have hW' := hW
  obtain ⟨p, q, hA0, hV, rfl, hfz, hnd⟩ := hW
  have hA : DataW.TrodAll enc Try.prog W 0 (fun _ => true) true Try.f4.params.toList args.toList ds p := hA0
  rw [Try.params4] at hA hval
  obtain ⟨v0, vs0, d0, ds0, p0, q0, hargs, rfl, rfl, h0, r0⟩ := trodAll_cons hA
  obtain ⟨v1, vs1, d1, ds1, p1, q1, rfl, rfl, rfl, h1, r1⟩ := trodAll_cons r0
  obtain ⟨rfl, rfl, rfl⟩ := trodAll_nil r1
  obtain rfl : args = #[v0, v1] := by cases args; simp_all
  clear hA0 hval0 hfz hnd hV hcnd
  obtain ⟨sa, hr0, hok0⟩ := open_lsession (hval 0 _ v0 rfl rfl) h0
  obtain ⟨sb, hr1, hok1⟩ := open_lsession (hval 1 _ v1 rfl rfl) h1
  refine (walk v0 sa v1 sb W hr0 hok0 hr1 hok1).mono fun e W' ⟨he, hx⟩ => ?_
  subst he
  exact ⟨_, rfl, law_post rfl (by rw [Try.params4]; decide +kernel) rfl hW' rfl rfl rfl hx⟩

theorem over : Rows.fnExactEqualSessionRow.holds Try.pinned (OpenSpec.ofChange Rows.fnExactEqualSessionSpec) :=
  OpenClaim.holds_of_wide 4 Try.f4 rfl rfl rfl rfl rfl rfl rfl ⟨rfl, rfl, rfl, rfl, rfl⟩ rfl rfl rfl rfl rfl (by kernel_rfl) Try.func4 (by kernel_rfl)
    (of_decide_eq_true (by kernel_rfl)) (by unfold Func.isWrapper; first | (rw [if_pos (by decide +kernel)]; kernel_rfl) | (rw [if_neg (by decide +kernel)]; exact ⟨rfl, rfl⟩))
    (fun os started H enc _ => lifted os started H enc)

/-- The statement. -/
theorem proved : Rows.FnExactEqualSessionSaid := over
#print axioms proved

end fnExactEqualSession
end Go.Proofs.Ytnnenocjmkbocaa
