/-
  Helper text (no claim of its own): drawn lists of ops.
-/
import Derived.Test.YtgnijfmgfpckeaaDrawK
import Derived.Test.YtgnijfmgfpckeaaDrawP
namespace Go.Proofs.Ytgnijfmgfpckeaa
open Go.ChangeShapes Go.WideShapes Go.ChangeAt Go.RowKit Go.Deep
set_option maxRecDepth 100000 in
set_option maxHeartbeats 1000000 in
theorem l22List_any (g : Nat) (w : World) (h : Cur w g) :
    Calls Try.prog 12 #[.pointer (some ⟨g, 0, none⟩)] w fun e w' => ∃ (A : Option Addr) (len cap : Nat) (xs : List Oq), e = .returned (.slice A len cap) ∧ len ≤ 126 ∧ w'.ownsRow w.heap.size 32 8 (.slice A len cap) len (ocells xs) ∧ Cur w' g ∧ w.grownBy w' (some g) := by
  have hfld : ∀ (a b c d : Value) (w : World), (Instr.field 53 (.agg #[a, b, c, d]) 3).run Try.prog w = .ok d w := fun a b c d w => by kernel_rfl
  go_enter Try.func12, Try.ntmps12
  go_wp2_with fail
  refine (l21Bent_any g 5 (by omega) _ h).mono ?_
  rintro e w2 ⟨N, I, B, A2, len, cap, xs, rfl, _, hlen, ho2, hC2, hG2⟩
  go_wp2
  go_ret
  exact ⟨A2, len, cap, xs, rfl, by omega, ho2, hC2, hG2⟩
/-- What a draw of a list of ops hands back. -/
def DrewOps (w : World) (e : Ending) (w' : World) : Prop :=
  ∃ (A : Option Addr) (len cap : Nat) (xs : List Oq), e = .returned (.slice A len cap) ∧ len ≤ 126 ∧ Rd w' w'.heap.size 8 A len (ocells xs) ∧ Ext w w'
/-- What a draw of a number and a list of ops hands back. -/
def DrewIntOps (w : World) (lo hi : Int) (e : Ending) (w' : World) : Prop :=
  ∃ (q : Int) (A : Option Addr) (len cap : Nat) (xs : List Oq), e = .returned (.tuple #[.int .i64 q, .slice A len cap]) ∧ len ≤ 126 ∧ Rd w' w'.heap.size 8 A len (ocells xs) ∧ (lo ≤ q ∧ q ≤ hi) ∧ Ext w w'
set_option maxRecDepth 100000 in
set_option maxHeartbeats 1000000 in
theorem DrawAdjointOps_any (A : Option Addr) (n c : Nat) (bs : List Int) (w : World) (h : Rd w w.heap.size 1 A n (u8cs bs)) (hn : n ≤ 1048576) :
    Calls Try.prog 5 #[.slice A n c] w (DrewOps w) := by
  go_enter Try.func5, Try.ntmps5
  go_wp2_with fail
  refine (l1New_any A n c bs _ h hn).mono ?_
  rintro e w1 ⟨rfl, hC1, hx1⟩
  obtain ⟨g, hg⟩ : ∃ g, g = w.heap.size := ⟨_, rfl⟩
  rw [← hg] at hC1 ⊢
  have hgw : w.heap.size ≤ g := by omega
  clear hg
  go_wp2_with fail
  refine (l22List_any g _ hC1).mono ?_
  rintro e w4 ⟨A2, len, cap, xs, rfl, hlen, ho4, hC4, hG4⟩
  have hx4 : Ext w w4 := hx1.grown hG4 (fun k hk => by injection hk; omega)
  have HR := Lib.hid (Rd.own ho4)
  clear ho4
  go_wp2
  go_ret
  exact ⟨A2, len, cap, xs, rfl, hlen, HR.out, hx4⟩
end Go.Proofs.Ytgnijfmgfpckeaa
