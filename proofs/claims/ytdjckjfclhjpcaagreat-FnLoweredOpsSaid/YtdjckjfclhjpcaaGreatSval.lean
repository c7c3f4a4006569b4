/-
 Helper text (no claim of its own): validity of a gate, by the reference.
-/
import Derived.Test.YtdjckjfclhjpcaaGreatValid
namespace Go.Proofs.YtdjckjfclhjpcaaGreat
open Go.ChangeShapes Go.WideShapes Go.ChangeAt Go.RowKit Go.Deep
def qus (g : Gt) : List Int := (qs g).take (ar g.k).toNat
theorem qus_len (g : Gt) : (qus g).length = (ar g.k).toNat := by
 have := ar_range g.k
 unfold qus qs
 rw [List.length_take]
 simp; omega
theorem rd_cut {w : World} {B size n m : Nat} {A : Option Addr} {xs : List Value} (h : Rd w B size A n xs) (hm : m ≤ n) : Rd w B size A m (xs.take (m * size)) := by
 refine ⟨?_, fun h0 => ?_⟩
 ·rw [List.length_take, h.1]
  have := Nat.mul_le_mul_right size hm
  omega
 ·obtain ⟨b, o, e, hb, hc⟩ := h.2 (by omega)
  exact ⟨b, o, e, hb, fun j u hu => hc j u (by
   have hj : j < m * size := by
    have := (List.getElem?_eq_some_iff.1 hu).1
    rw [List.length_take] at this
    omega
   rwa [List.getElem?_take_of_lt hj] at hu)⟩
theorem icells_take (xs : List Int) (m : Nat) : (icells xs).take (m * 1) = icells (xs.take m) := by
 rw [Nat.mul_one]
 induction xs generalizing m with
 | nil => simp
 | cons x xs ih =>
  cases m with
  | zero => simp
  | succ m => simp [icell, List.flatMap_cons, ← ih m]

def hasI (xs : List Int) (y : Int) : Bool := xs.contains y
set_option maxRecDepth 100000 in
theorem l1HasInt_any (A : Option Addr) (n c : Nat) (xs : List Int) (y : Int) (w : World) (h : Rd w w.heap.size 1 A n (icells xs)) (hn : n ≤ 2000000000000) :
  Calls Tryz.prog 81 #[.slice A n c, .int .i64 y] w fun e w' => e = .returned (.bool (hasI xs y)) ∧ w = w' := by
 have hlen := Lib.hid (h.len icell_len (by omega))
 go_enter Tryz.func81, Tryz.ntmps81
 go_wp2
 go_loop [5] (fun i => ∃ k : Nat, k ≤ n ∧ i = .int .i64 k ∧ Hid ((xs.take k).contains y = false)) (fun i => n - (intOf i).toNat)
 case atStart => exact ⟨0, Nat.zero_le _, rfl, Lib.hid (by simp)⟩
 case round =>
  obtain ⟨k, hk, rfl, HQ⟩ := hrel
  by_cases hlt : k < n
  ·obtain ⟨b, o, x, rfl, hb, hx, h0⟩ := int_at h hlt
   have HG := Lib.hid hx
   clear hx
   cases he : (x == y)
   ·go_wp2
    go_round
    case rel => exact ⟨k + 1, by omega, by go_num, Lib.hid (by
     rw [take_snoc HG.out, List.contains_eq_mem]
     have := HQ.out
     rw [List.contains_eq_mem] at this
     simp at this he ⊢
     exact ⟨this, fun e => he e.symm⟩)⟩
    case measure => simp [intOf]; omega
   ·have HF : Hid (hasI xs y = true) := by
     unfold Hid hasI
     rw [List.contains_eq_mem]
     simp at he ⊢
     subst he
     exact List.mem_of_getElem? HG.out
    go_wp2
    go_ret
    exact ⟨ret_bool HF.out.symm, rfl⟩
  ·rw [List.take_of_length_le (by rw [hlen.out]; omega)] at HQ
   go_wp2
   go_ret
   exact ⟨ret_bool (show false = hasI xs y from HQ.out.symm), rfl⟩

set_option maxRecDepth 100000 in
set_option maxHeartbeats 1000000 in
theorem spec_GateQubits_any (g : Gt) (w : World) :
  Calls Tryz.prog 80 #[g.val] w fun e w' => ∃ v, e = .returned v ∧ w'.ownsRow w.heap.size 3 1 v (qus g).length (icells (qus g)) ∧ Ext w w' := by
 obtain ⟨ha0, ha3⟩ := ar_range g.k
 have HL := Lib.hid (qus_len g)
 obtain ⟨a, hA⟩ := Int.eq_ofNat_of_zero_le ha0
 have HA := Lib.hid hA
 have ha : a ≤ 3 := by omega
 clear hA ha0 ha3
 go_enter Tryz.func80, Tryz.ntmps80
 go_wp2_with fail
 refine (spec_Arity_any _ _).mono ?_
 rintro e w1 ⟨rfl, rfl⟩
 rw [HA.out]
 have hq : qus g = (qs g).take a := by unfold qus; rw [HA.out]; rfl
 have HQ := Lib.hid hq
 clear hq
 have hR := rd_newN (w.alloc (.cells #[.int .i64 g.k, .int .i64 g.a, .int .i64 g.b, .int .i64 g.c] 38)) #[.int .i64 g.a, .int .i64 g.b, .int .i64 g.c] (w.heap.size + 1) 3 3 1 (icells (qs g)) (by simp) rfl rfl
 have hR2 := rd_cut hR ha
 rw [icells_take, ← HQ.out] at hR2
 have hR3 := hR2.ext ((Ext.refl _).alloc (.cells #[] 3))
 clear hR hR2
 have hl : (qus g).length = a := by rw [HL.out, HA.out]; rfl
 have HLL := Lib.hid hl
 clear hl
 go_wp2_with (at_builtin; go_loud (refine appIntS (w0 := w) rfl _ _ rfl _ 0 [] rfl (own_lit (by exact xx) _ _ 1 0 #[] _ (by simp) rfl rfl (by omega)) xx _ a 3 (qus g) rfl hR3 (by omega) ?_); intro v1 w1 ho1 hx1 hg1 hb1)
 go_ret
 exact ⟨v1, rfl, by rw [HLL.out]; simpa using ho1, hx1⟩
end Go.Proofs.YtdjckjfclhjpcaaGreat
