/-
 Helper text (no claim of its own): validity of a gate, by the program and by the reference.
-/
import Derived.Test.YtioimnplhmgbgaaGreatSeen
import Derived.Test.YtioimnplhmgbgaaGreatGate
import Derived.Test.YtioimnplhmgbgaaGreatInt
import Derived.Test.YtioimnplhmgbgaaGreatArity
namespace Go.Proofs.YtioimnplhmgbgaaGreat
open Go.ChangeShapes Go.WideShapes Go.ChangeAt Go.RowKit Go.Deep
def qs (g : Gt) : List Int := [g.a, g.b, g.c]
def okI (g : Gt) (n : Int) (i : Nat) (q : Int) : Bool :=
 if ar g.k ≤ i then q == 0 else decide (0 ≤ q) && decide (q ≤ n - 1) && !(((qs g).take i).contains q)
def vg (g : Gt) (n : Int) : Bool := decide (1 ≤ n) && decide (n ≤ 4) && decide (0 < ar g.k) && okI g n 0 g.a && okI g n 1 g.b && okI g n 2 g.c
theorem qs_at {g : Gt} {k : Nat} (h : k < 3) : ∃ q, (qs g)[k]? = some q := by
 rcases (by omega : k = 0 ∨ k = 1 ∨ k = 2) with rfl | rfl | rfl <;> exact ⟨_, rfl⟩
theorem vg_bad {g : Gt} {n : Int} {k : Nat} {q : Int} (h : (qs g)[k]? = some q) (hk : okI g n k q = false) : vg g n = false := by
 have hk3 : k < 3 := by have := (List.getElem?_eq_some_iff.1 h).1; simpa [qs] using this
 rcases (by omega : k = 0 ∨ k = 1 ∨ k = 2) with rfl | rfl | rfl <;> (simp [qs] at h; subst h; unfold vg; simp [hk])
theorem vg_n {g : Gt} {n : Int} (h : n < 1 ∨ 4 < n) : vg g n = false := by
 unfold vg
 rcases h with h | h
 ·have : decide (1 ≤ n) = false := by simp; omega
  simp [this]
 ·have : decide (n ≤ 4) = false := by simp; omega
  simp [this]
theorem vg_0 {g : Gt} {n : Int} (h : ar g.k = 0) : vg g n = false := by
 unfold vg; simp [h]
theorem vg_good {g : Gt} {n : Int} (h1 : 1 ≤ n) (h2 : n ≤ 4) (h3 : 0 < ar g.k) (h : ∀ i q, (qs g)[i]? = some q → okI g n i q = true) : vg g n = true := by
 unfold vg
 rw [h 0 g.a rfl, h 1 g.b rfl, h 2 g.c rfl]
 simp [h1, h2, h3]
theorem okI_hi {g : Gt} {n : Int} {i : Nat} {q : Int} (h : ar g.k ≤ i) : okI g n i q = (q == 0) := if_pos h
theorem okI_lo {g : Gt} {n : Int} {i : Nat} {q : Int} (h : ¬ ar g.k ≤ i) : okI g n i q = (decide (0 ≤ q) && decide (q ≤ n - 1) && !(((qs g).take i).contains q)) := if_neg h
theorem okI_out {g : Gt} {n : Int} {i : Nat} {q : Int} (h : ¬ ar g.k ≤ i) (hr : q < 0 ∨ n - 1 < q) : okI g n i q = false := by
 rw [okI_lo h]
 rcases hr with hr | hr
 ·have e : decide (0 ≤ q) = false := by simp; omega
  simp [e]
 ·have e : decide (q ≤ n - 1) = false := by simp; omega
  simp [e]
/-- The qubits seen before round k. -/
def seenK (g : Gt) (k : Nat) (x : Int) : Bool := ((qs g).take (min k (ar g.k).toNat)).contains x
theorem seenK_hi {g : Gt} {k : Nat} (h : ar g.k ≤ k) : seenK g (k + 1) = seenK g k := by
 funext x
 unfold seenK
 rw [show min (k + 1) (ar g.k).toNat = min k (ar g.k).toNat from by omega]
theorem seenK_lo {g : Gt} {k : Nat} {q : Int} (h : ¬ ar g.k ≤ k) (hq : (qs g)[k]? = some q) : seenK g (k + 1) = fun z => z == q || seenK g k z := by
 funext x
 unfold seenK
 rw [show min (k + 1) (ar g.k).toNat = k + 1 from by omega, show min k (ar g.k).toNat = k from by omega, take_snoc hq]
 rw [Bool.eq_iff_iff]
 simp
 constructor
 ·rintro (h | h)
  ·exact .inr h
  ·exact .inl h
 ·rintro (h | h)
  ·exact .inr h
  ·exact .inl h
theorem seenK_take {g : Gt} {k : Nat} (h : ¬ ar g.k ≤ k) (x : Int) : seenK g k x = ((qs g).take k).contains x := by
 unfold seenK
 rw [show min k (ar g.k).toNat = k from by omega]

set_option maxRecDepth 100000 in
set_option maxHeartbeats 2000000 in
theorem impl_IsValidGate_any (g : Gt) (n : Int) (w : World) :
  Calls Tryz.prog 38 #[g.val, .int .i64 n] w fun e w' => e = .returned (.bool (vg g n)) ∧ Ext w w' := by
 by_cases hn : n < 1 ∨ 4 < n
 ·have HF := Lib.hid (vg_n (g := g) hn)
  have HN := Lib.hid hn
  clear hn
  go_enter Tryz.func38, Tryz.ntmps38
  go_wp2_with fail
  refine (in_no _ _ _ _ HN.out).mono ?_
  rintro e w1 ⟨rfl, rfl⟩
  go_wp2
  go_ret
  exact ⟨ret_bool HF.out.symm, xx⟩
 have hn1 : 1 ≤ n := by omega
 have hn4 : n ≤ 4 := by omega
 clear hn
 have har := ar_range g.k
 obtain ⟨ha0, ha3⟩ := har
 by_cases hz : ar g.k = 0
 ·have HF := Lib.hid (vg_0 (n := n) hz)
  go_enter Tryz.func38, Tryz.ntmps38
  go_wp2_with fail
  refine (in_yes _ _ _ _ hn1 hn4).mono ?_
  rintro e w1 ⟨rfl, rfl⟩
  go_wp2_with fail
  refine (impl_Arity_any _ _).mono ?_
  rintro e w1 ⟨rfl, rfl⟩
  rw [hz]
  go_wp2
  go_ret
  exact ⟨ret_bool HF.out.symm, xx⟩
 have ha1 : 1 ≤ ar g.k := by omega
 have hzb : (ar g.k == 0) = false := by rw [beq_eq_false_iff_ne]; omega
 clear hz
 have hmm := @run_makeMap Tryz.prog
 go_enter Tryz.func38, Tryz.ntmps38
 go_wp2_with fail
 refine (in_yes _ _ _ _ hn1 hn4).mono ?_
 rintro e w1 ⟨rfl, rfl⟩
 go_wp2_with fail
 refine (impl_Arity_any _ _).mono ?_
 rintro e w1 ⟨rfl, rfl⟩
 go_wp2
 go_loopw [28] (fun i wr => ∃ k : Nat, k ≤ 3 ∧ i = .int .i64 k ∧ Hid (∀ i q, i < k → (qs g)[i]? = some q → okI g n i q = true) ∧ Seen wr (w.heap.size + 1 + 1) k (seenK g k) ∧ Blk wr w.heap.size 52 #[.int .i64 g.k, .int .i64 g.a, .int .i64 g.b, .int .i64 g.c] ∧ Blk wr (w.heap.size + 1) 3 #[.int .i64 g.a, .int .i64 g.b, .int .i64 g.c] ∧ Ext w wr) (fun i _ => 3 - (intOf i).toNat)
 case atStart =>
  refine ⟨0, by omega, rfl, fun i q h => absurd h (by omega), ?_, ((Blk.new _ _ _).alloc _).alloc _, (Blk.newAt (by simp)).alloc _, xx⟩
  have h := Seen.made ((w.alloc (.cells #[.int .i64 g.k, .int .i64 g.a, .int .i64 g.b, .int .i64 g.c] 52)).alloc (.cells #[.int .i64 g.a, .int .i64 g.b, .int .i64 g.c] 3))
  have e0 : seenK g 0 = fun _ => false := by funext x; simp [seenK]
  rw [e0]
  simpa using h
 case round =>
  obtain ⟨k, hk, rfl, HQ, hS, hB, hA, hx⟩ := hrel
  by_cases hlt : k < 3
  ·obtain ⟨q, hq⟩ := qs_at (g := g) hlt
   have hc : wr.cell? ⟨w.heap.size + 1, k, none⟩ = some (.int .i64 q) := by
    rw [hA.cell k]
    rcases (by omega : k = 0 ∨ k = 1 ∨ k = 2) with rfl | rfl | rfl <;> (simp [qs] at hq; subst hq; rfl)
   have hc0 : wr.cell? ⟨w.heap.size, 0, none⟩ = some (.int .i64 g.k) := hB.cell 0
   have HG := Lib.hid hq
   clear hq
   by_cases hak : ar g.k ≤ k
   ·have HO := Lib.hid (okI_hi (n := n) (q := q) hak)
    cases hq0 : (q == 0)
    ·have hq0' : (q != 0) = true := by simp [bne, hq0]
     have HF := Lib.hid (vg_bad (n := n) HG.out (by rw [HO.out, hq0]))
     go_wp2_with fail
     refine (impl_Arity_any _ _).mono ?_
     rintro e w1 ⟨rfl, rfl⟩
     go_wp2
     go_ret
     exact ⟨ret_bool HF.out.symm, hx⟩
    ·have hq0' : (q != 0) = false := by simp [bne, hq0]
     have HE := Lib.hid (seenK_hi hak)
     go_wp2_with fail
     refine (impl_Arity_any _ _).mono ?_
     rintro e w1 ⟨rfl, rfl⟩
     go_wp2
     go_roundw
     case rel =>
      refine ⟨k + 1, by omega, by go_num, fun i q' hi hq' => ?_, by rw [HE.out]; obtain ⟨D, h1, h2⟩ := hS; exact ⟨D, h1.mono (by omega), h2⟩, hB, hA, hx⟩
      by_cases e : i = k
      ·subst e
       have := HG.out
       rw [hq'] at this
       injection this with this
       rw [this, HO.out, hq0]
      ·exact HQ.out i q' (by omega) hq'
     case measure => simp [intOf]; omega
   ·have HO := Lib.hid (okI_lo (n := n) (q := q) hak)
    have hak' : ¬ ar g.k ≤ k := hak
    have HAK := Lib.hid hak'
    have hlt2 : (k : Int) < ar g.k := by omega
    clear hak hak'
    by_cases hr : q < 0 ∨ n - 1 < q
    ·have HF := Lib.hid (vg_bad (n := n) HG.out (okI_out HAK.out hr))
     have HR := Lib.hid hr
     clear hr
     go_wp2_with fail
     refine (impl_Arity_any _ _).mono ?_
     rintro e w1 ⟨rfl, rfl⟩
     go_wp2_with fail
     refine (in_no _ _ _ _ HR.out).mono ?_
     rintro e w1 ⟨rfl, rfl⟩
     go_wp2
     go_ret
     exact ⟨ret_bool HF.out.symm, hx⟩
    ·have hr1 : 0 ≤ q := by omega
     have hr2 : q ≤ n - 1 := by omega
     have hI : I64 q := ⟨by omega, by omega⟩
     clear hr
     have hlk := hS.look hI
     have HT := Lib.hid (seenK_take HAK.out q)
     cases hs : seenK g k q
     ·rw [hs] at hlk
      have HE := Lib.hid (seenK_lo HAK.out HG.out)
      go_wp2_with fail
      refine (impl_Arity_any _ _).mono ?_
      rintro e w1 ⟨rfl, rfl⟩
      go_wp2_with fail
      refine (in_yes _ _ _ _ hr1 hr2).mono ?_
      rintro e w1 ⟨rfl, rfl⟩
      go_wp2_with (at_mapUpdate; refine wpList_put rfl _ _ _ rfl hS rfl (by omega) rfl rfl hI ?_; intro w2 hS2 hg2)
      go_roundw
      case rel =>
       refine ⟨k + 1, by omega, by go_num, fun i q' hi hq' => ?_, by rw [HE.out]; exact hS2, hB.grown hg2 (fun z hz => by injection hz; omega), hA.grown hg2 (fun z hz => by injection hz; omega), hx.grown hg2 (fun z hz => by injection hz; omega)⟩
       by_cases e : i = k
       ·subst e
        have := HG.out
        rw [hq'] at this
        injection this with this
        have ht := HT.out
        rw [hs] at ht
        rw [this, HO.out, ← ht]
        simp [hr1, hr2]
       ·exact HQ.out i q' (by omega) hq'
      case measure => simp [intOf]; omega
     ·rw [hs] at hlk
      have HF := Lib.hid (vg_bad (n := n) HG.out (by rw [HO.out, ← HT.out, hs]; simp))
      go_wp2_with fail
      refine (impl_Arity_any _ _).mono ?_
      rintro e w1 ⟨rfl, rfl⟩
      go_wp2_with fail
      refine (in_yes _ _ _ _ hr1 hr2).mono ?_
      rintro e w1 ⟨rfl, rfl⟩
      go_wp2
      go_ret
      exact ⟨ret_bool HF.out.symm, hx⟩
  ·obtain rfl : k = 3 := by omega
   have HF := Lib.hid (vg_good hn1 hn4 (by omega) (fun i q h => HQ.out i q (by have := (List.getElem?_eq_some_iff.1 h).1; simpa [qs] using this) h))
   go_wp2
   go_ret
   exact ⟨ret_bool HF.out.symm, hx⟩
end Go.Proofs.YtioimnplhmgbgaaGreat
