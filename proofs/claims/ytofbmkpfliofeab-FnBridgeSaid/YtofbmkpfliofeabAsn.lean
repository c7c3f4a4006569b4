/-
  Helper text (no claim of its own): where an amplitude goes, all kinds, by the reference. Printed by gen_am.py or gen_an.py.
-/
import Derived.Test.YtofbmkpfliofeabAsg
import Derived.Test.YtofbmkpfliofeabSvg
namespace Go.Proofs.Ytofbmkpfliofeab
open Go.ChangeShapes Go.WideShapes Go.ChangeAt Go.RowKit Go.Deep
set_option linter.unusedVariables false
set_option linter.unusedSimpArgs false
/-- Where an amplitude goes. -/
def sentN : Nat → Nat → Nat → Nat → Nat → List (Nat × Dw)
  | 1, a, b, c, i => [(qfl i a, ph 0)]
  | 2, a, b, c, i => [(qfl i a, ph (if bt i a then 6 else 2))]
  | 3, a, b, c, i => [(i, ph (if bt i a then 4 else 0))]
  | 4, a, b, c, i => [(qlo i a, ⟨zw 0, 1⟩), (qhi i a, ⟨zw (if bt i a then 4 else 0), 1⟩)]
  | 5, a, b, c, i => [(i, ph (if bt i a then 2 else 0))]
  | 6, a, b, c, i => [(i, ph (if bt i a then 6 else 0))]
  | 7, a, b, c, i => [(i, ph (if bt i a then 1 else 0))]
  | 8, a, b, c, i => [(i, ph (if bt i a then 7 else 0))]
  | 9, a, b, c, i => [(if bt i a then qfl i b else i, ph 0)]
  | 10, a, b, c, i => [(i, ph (if bt i a && bt i b then 4 else 0))]
  | 11, a, b, c, i => [(if bt i a != bt i b then qfl (qfl i a) b else i, ph 0)]
  | 12, a, b, c, i => [(if bt i a && bt i b then qfl i c else i, ph 0)]
  | _, _, _, _, _ => []
def sent (g : Gt) (i : Nat) : List (Nat × Dw) := sentN g.k.toNat g.a.toNat g.b.toNat g.c.toNat i
theorem vg_all {g : Gt} {n : Int} (h : vg g n = true) : (1 ≤ n ∧ n ≤ 4) ∧ (1 ≤ g.k ∧ g.k ≤ 12) ∧ (0 ≤ g.a ∧ g.a < n) ∧ (0 ≤ g.b ∧ g.b < n) ∧ (0 ≤ g.c ∧ g.c < n) ∧ (9 ≤ g.k → g.a ≠ g.b) ∧ (g.k = 12 → g.a ≠ g.c ∧ g.b ≠ g.c) := by
  unfold vg okI at h
  simp only [Bool.and_eq_true, decide_eq_true_eq] at h
  obtain ⟨⟨⟨⟨⟨h1, h2⟩, h3⟩, ha⟩, hb⟩, hc⟩ := h
  have hk : 1 ≤ g.k ∧ g.k ≤ 12 := by unfold ar at h3; omega
  refine ⟨⟨h1, h2⟩, hk, ?_⟩
  rcases (show (1 ≤ g.k ∧ g.k ≤ 8) ∨ (9 ≤ g.k ∧ g.k ≤ 11) ∨ g.k = 12 by omega) with e | e | e
  · rw [ar1 e] at ha hb hc; simp [qs] at ha hb hc; refine ⟨by omega, by omega, by omega, fun h => ?_, fun h => ?_⟩ <;> omega
  · rw [ar2 e] at ha hb hc; simp [qs] at ha hb hc
    refine ⟨by omega, by omega, by omega, fun h => ?_, fun h => ?_⟩
    · have := hb.2; intro hh; exact this hh.symm
    · omega
  · rw [ar3 e] at ha hb hc; simp [qs] at ha hb hc
    refine ⟨by omega, by omega, by omega, fun h => ?_, fun h => ?_⟩
    · have := hb.2; intro hh; exact this hh.symm
    · have := hc.2; exact ⟨fun hh => this.1 hh.symm, fun hh => this.2 hh.symm⟩
theorem Goes_any {g : Gt} {n : Int} (h : vg g n = true) (i : Nat) (hi : i < 16) (w : World) : Calls Try.prog 75 #[g.val, .int .i64 i] w fun e w' => NOut (sent g i) e w' ∧ Ext w w' := by
  obtain ⟨⟨n1, n4⟩, ⟨k1, k12⟩, ⟨a0, a3⟩, ⟨b0, b3⟩, ⟨c0, c3⟩, -, -⟩ := vg_all h
  clear h
  obtain ⟨gk, ga, gb, gc⟩ := g
  simp only at k1 k12 a0 a3 b0 b3 c0 c3
  obtain ⟨k, rfl⟩ : ∃ k : Nat, gk = k := ⟨gk.toNat, by omega⟩
  obtain ⟨a, rfl⟩ : ∃ k : Nat, ga = k := ⟨ga.toNat, by omega⟩
  obtain ⟨b, rfl⟩ : ∃ k : Nat, gb = k := ⟨gb.toNat, by omega⟩
  obtain ⟨c, rfl⟩ : ∃ k : Nat, gc = k := ⟨gc.toNat, by omega⟩
  rcases (show k = 1 ∨ k = 2 ∨ k = 3 ∨ k = 4 ∨ k = 5 ∨ k = 6 ∨ k = 7 ∨ k = 8 ∨ k = 9 ∨ k = 10 ∨ k = 11 ∨ k = 12 by omega) with rfl | rfl | rfl | rfl | rfl | rfl | rfl | rfl | rfl | rfl | rfl | rfl
  · exact Goes_1 a b c i hi (by omega) (by omega) (by omega) w
  · exact Goes_2 a b c i hi (by omega) (by omega) (by omega) w
  · exact Goes_3 a b c i hi (by omega) (by omega) (by omega) w
  · exact Goes_4 a b c i hi (by omega) (by omega) (by omega) w
  · exact Goes_5 a b c i hi (by omega) (by omega) (by omega) w
  · exact Goes_6 a b c i hi (by omega) (by omega) (by omega) w
  · exact Goes_7 a b c i hi (by omega) (by omega) (by omega) w
  · exact Goes_8 a b c i hi (by omega) (by omega) (by omega) w
  · exact Goes_9 a b c i hi (by omega) (by omega) (by omega) w
  · exact Goes_10 a b c i hi (by omega) (by omega) (by omega) w
  · exact Goes_11 a b c i hi (by omega) (by omega) (by omega) w
  · exact Goes_12 a b c i hi (by omega) (by omega) (by omega) w
theorem sent_len (g : Gt) (i : Nat) : (sent g i).length ≤ 2 := by
  unfold sent sentN
  split <;> simp
theorem SN.at_ {w : World} {b k : Nat} {l : List (Nat × Dw)} {s : Nat × Dw} (h : SN w b l) (hs : l[k]? = some s) :
    w.cell? ⟨b, k * 6, none⟩ = some (.int .i64 s.1) ∧ w.cell? ⟨b, k * 6 + 1, none⟩ = some (.int .i64 s.2.n.a) ∧ w.cell? ⟨b, k * 6 + 2, none⟩ = some (.int .i64 s.2.n.b) ∧ w.cell? ⟨b, k * 6 + 3, none⟩ = some (.int .i64 s.2.n.c) ∧ w.cell? ⟨b, k * 6 + 4, none⟩ = some (.int .i64 s.2.n.d) ∧ w.cell? ⟨b, k * 6 + 5, none⟩ = some (.int .i64 s.2.e) := by
  have hc : ∀ j u, j < 6 → (ncells s)[j]? = some u → w.cell? ⟨b, k * 6 + j, none⟩ = some u := fun j u hj hu => by
    rw [h.cell, ← Array.getElem?_toList, List.toList_toArray, ← hu]
    exact flat_at ncells_len l k s hs j hj
  exact ⟨hc 0 _ (by omega) rfl, hc 1 _ (by omega) rfl, hc 2 _ (by omega) rfl, hc 3 _ (by omega) rfl, hc 4 _ (by omega) rfl, hc 5 _ (by omega) rfl⟩
theorem SN.ne {w : World} {b k : Nat} {l : List (Nat × Dw)} {cs : Array Value} (h : SN w b l) (h2 : Blk w k 83 cs) : b ≠ k := by
  rintro rfl
  unfold SN Blk at h
  unfold Blk at h2
  rw [h] at h2
  injection h2 with h2
  injection h2 with _ h3
  exact absurd h3 (by decide)
end Go.Proofs.Ytofbmkpfliofeab
