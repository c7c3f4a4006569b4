/-
 Helper text (no claim of its own): lists of names: loose contracts of the small functions on them.
-/
import Derived.Test.YtdjckjfclhjpcaaGreatGk
import Derived.Test.YtdjckjfclhjpcaaGreatTu
import Derived.Test.YtdjckjfclhjpcaaGreatDrawD
namespace Go.Proofs.YtdjckjfclhjpcaaGreat
open Go.ChangeShapes Go.WideShapes Go.ChangeAt Go.RowKit Go.Deep
set_option linter.unusedVariables false
set_option linter.unusedSimpArgs false
/-- Some truth value is returned. -/
def RB (e : Ending) : Prop := ∃ b, e = .returned (.bool b)
set_option maxRecDepth 100000 in
theorem l1Has_any (A : Option Addr) (n c : Nat) (xs : List ByteArray) (y : ByteArray) (w : World) (h : Rd w w.heap.size 1 A n (tcells xs)) (hn : n ≤ 1048576) :
  Calls Tryz.prog 53 #[.slice A n c, .string y] w fun e w' => RB e ∧ w = w' := by
 go_enter Tryz.func53, Tryz.ntmps53
 go_wp2
 go_loop [5] (fun i => ∃ k : Nat, k ≤ n ∧ i = .int .i64 k) (fun i => n - (intOf i).toNat)
 case atStart => exact ⟨0, Nat.zero_le _, rfl⟩
 case round =>
  obtain ⟨k, hk, rfl⟩ := hrel
  by_cases hlt : k < n
  ·obtain ⟨b, o, x, rfl, hb, hx, h0⟩ := str_at h hlt
   cases he : (x.toList == y.toList)
   ·go_wp2
    go_round
    case rel => exact ⟨k + 1, by omega, by go_num⟩
    case measure => simp [intOf]; omega
   ·go_wp2
    go_ret
    exact ⟨⟨_, rfl⟩, rfl⟩
  ·go_wp2
   go_ret
   exact ⟨⟨_, rfl⟩, rfl⟩
set_option maxRecDepth 100000 in
theorem l22At_any (A : Option Addr) (n c : Nat) (xs : List ByteArray) (y : ByteArray) (w : World) (h : Rd w w.heap.size 1 A n (tcells xs)) (hn : n ≤ 1048576) :
  Calls Tryz.prog 76 #[.slice A n c, .string y] w fun e w' => (∃ k : Nat, e = .returned (.int .i64 k) ∧ k ≤ 1048576) ∧ w = w' := by
 go_enter Tryz.func76, Tryz.ntmps76
 go_wp2
 go_loop [5] (fun i => ∃ k : Nat, k ≤ n ∧ i = .int .i64 k) (fun i => n - (intOf i).toNat)
 case atStart => exact ⟨0, Nat.zero_le _, rfl⟩
 case round =>
  obtain ⟨k, hk, rfl⟩ := hrel
  by_cases hlt : k < n
  ·obtain ⟨b, o, x, rfl, hb, hx, h0⟩ := str_at h hlt
   cases he : (x.toList == y.toList)
   ·go_wp2
    go_round
    case rel => exact ⟨k + 1, by omega, by go_num⟩
    case measure => simp [intOf]; omega
   ·go_wp2
    go_ret
    exact ⟨⟨k, rfl, by omega⟩, rfl⟩
  ·go_wp2
   go_ret
   exact ⟨⟨0, rfl, by omega⟩, rfl⟩
theorem l1In_rb (x lo hi : Int) (w : World) : Calls Tryz.prog 40 #[.int .i64 x, .int .i64 lo, .int .i64 hi] w fun e w' => RB e ∧ w = w' := by
 by_cases h : x < lo ∨ hi < x
 ·exact (l1In_no x lo hi w h).mono fun e w' ⟨h1, h2⟩ => ⟨⟨_, h1⟩, h2⟩
 ·exact (l1In_yes x lo hi w (by omega) (by omega)).mono fun e w' ⟨h1, h2⟩ => ⟨⟨_, h1⟩, h2⟩
theorem l16Letter_any (x : Int) (w : World) : Calls Tryz.prog 90 #[.int .u8 x] w fun e w' => RB e ∧ w = w' := by
 go_enter Tryz.func90, Tryz.ntmps90
 go_wp2
 all_goals
  go_ret
  exact ⟨⟨_, rfl⟩, rfl⟩
set_option maxRecDepth 100000 in
theorem IsValidWord_any (s : ByteArray) (w : World) (hs : s.size ≤ 1048576) : Calls Tryz.prog 68 #[.string s] w fun e w' => RB e ∧ w = w' := by
 go_enter Tryz.func68, Tryz.ntmps68
 go_wp2
 go_loop [3] (fun i => ∃ k : Nat, k ≤ s.size ∧ i = .int .i64 k) (fun i => s.size - (intOf i).toNat)
 case atStart => exact ⟨0, Nat.zero_le _, rfl⟩
 case round =>
  obtain ⟨k, hk, rfl⟩ := hrel
  by_cases hlt : k < s.size
  ·go_wp2_with fail
   refine (l16Letter_any _ _).mono ?_
   rintro e w1 ⟨⟨b, rfl⟩, rfl⟩
   cases b
   ·go_wp2
    go_ret
    exact ⟨⟨_, rfl⟩, rfl⟩
   ·go_wp2
    go_round
    case rel => exact ⟨k + 1, by omega, by go_num⟩
    case measure => simp [intOf]; omega
  ·go_wp2_with fail
   refine (l1In_rb _ _ _ _).mono ?_
   rintro e w1 ⟨⟨b, rfl⟩, rfl⟩
   go_wp2
   go_ret
   exact ⟨⟨_, rfl⟩, rfl⟩
set_option maxRecDepth 100000 in
theorem l17Words_any (A : Option Addr) (n c : Nat) (xs : List ByteArray) (w : World) (h : Rd w w.heap.size 1 A n (tcells xs)) (hn : n ≤ 1048576) (hz : ∀ x ∈ xs, x.size ≤ 1048576) :
  Calls Tryz.prog 56 #[.slice A n c] w fun e w' => RB e ∧ w = w' := by
 go_enter Tryz.func56, Tryz.ntmps56
 go_wp2
 go_loop [3] (fun i => ∃ k : Nat, k ≤ n ∧ i = .int .i64 k) (fun i => n - (intOf i).toNat)
 case atStart => exact ⟨0, Nat.zero_le _, rfl⟩
 case round =>
  obtain ⟨k, hk, rfl⟩ := hrel
  by_cases hlt : k < n
  ·obtain ⟨b, o, x, rfl, hb, hx, h0⟩ := str_at h hlt
   have hsz := hz x (List.mem_of_getElem? hx)
   clear hx
   go_wp2_with fail
   refine (IsValidWord_any x _ hsz).mono ?_
   rintro e w1 ⟨⟨b, rfl⟩, rfl⟩
   cases b
   ·go_wp2
    go_ret
    exact ⟨⟨_, rfl⟩, rfl⟩
   ·go_wp2
    go_round
    case rel => exact ⟨k + 1, by omega, by go_num⟩
    case measure => simp [intOf]; omega
  ·go_wp2
   go_ret
   exact ⟨⟨_, rfl⟩, rfl⟩
theorem l20Control_any (k c : Int) (w : World) : Calls Tryz.prog 104 #[.int .i64 k, .int .i64 c] w fun e w' => RB e ∧ w = w' := by
 go_enter Tryz.func104, Tryz.ntmps104
 go_wp2
 all_goals
  go_ret
  exact ⟨⟨_, rfl⟩, rfl⟩
theorem l1Min_any (a b : Int) (w : World) : Calls Tryz.prog 47 #[.int .i64 a, .int .i64 b] w fun e w' => e = .returned (.int .i64 (if a < b then a else b)) ∧ w = w' := by
 by_cases h : a < b
 ·rw [if_pos h]
  go_enter Tryz.func47, Tryz.ntmps47
  go_wp2
  go_ret
  exact ⟨rfl, rfl⟩
 ·rw [if_neg h]
  go_enter Tryz.func47, Tryz.ntmps47
  go_wp2
  go_ret
  exact ⟨rfl, rfl⟩
set_option maxRecDepth 100000 in
theorem l20Add_any (A : Option Addr) (n c : Nat) (xs : List ByteArray) (y : ByteArray) (w : World) (h : Rd w w.heap.size 1 A n (tcells xs)) (hn : n ≤ 1048576) :
  Calls Tryz.prog 78 #[.slice A n c, .string y] w fun e w' => (∃ v, e = .returned v ∧ w'.ownsRow w.heap.size 9 1 v (n + 1) (tcells (xs ++ [y]))) ∧ Ext w w' := by
 go_enter Tryz.func78, Tryz.ntmps78
 go_wp2_with first
  | (at_builtin; refine appStrS (w0 := w) rfl _ _ rfl _ 0 [] rfl (own_empty w w _ 1 (Ext.refl _)) ((Ext.refl _).alloc _) A n c xs rfl (h.ext ((Ext.refl _).alloc _)) (by omega) ?_; intro v1 w1 g1 g2 g3 g4; simp only [Nat.zero_add, List.nil_append] at g1; obtain ⟨A1, c1, rfl, _⟩ := own_slice g1)
  | (at_builtin; refine appStr (w0 := w) rfl _ _ rfl _ n xs rfl g1 g2 y _ _ rfl rfl (by omega) ?_; intro v2 w2 k1 k2 k3 k4; obtain ⟨A2, c2, rfl, _⟩ := own_slice k1)
 go_ret
 exact ⟨⟨_, rfl, k1⟩, k2⟩
end Go.Proofs.YtdjckjfclhjpcaaGreat
