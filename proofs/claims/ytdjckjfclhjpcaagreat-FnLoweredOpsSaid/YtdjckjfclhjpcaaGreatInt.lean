/-
 Helper text (no claim of its own): slices of ints, and the laws' own helpers on them (size, copy, comparison).
-/
import Derived.Test.YtdjckjfclhjpcaaGreatBase
namespace Go.Proofs.YtdjckjfclhjpcaaGreat
open Go.ChangeShapes Go.WideShapes Go.ChangeAt Go.RowKit Go.Deep
def icell (x : Int) : List Value := [.int .i64 x]
abbrev icells (xs : List Int) : List Value := xs.flatMap icell
theorem icell_len (x : Int) : (icell x).length = 1 := rfl
theorem int_at {w : World} {B n i : Nat} {A : Option Addr} {xs : List Int} (h : Rd w B 1 A n (icells xs)) (hi : i < n) :
  ∃ b o x, A = some ⟨b, o, none⟩ ∧ b < B ∧ xs[i]? = some x ∧ w.cell? ⟨b, o + i, none⟩ = some (.int .i64 x) := by
 obtain ⟨b, o, x, rfl, hb, hx, hc⟩ := elem_at icell_len (by omega) h hi
 have := hc 0 _ rfl
 rw [Nat.mul_one, Nat.add_zero] at this
 exact ⟨b, o, x, rfl, hb, hx, this⟩
theorem int_one (xs : List Int) : ∀ u ∈ icells xs, u.oneCell' = true := by
 intro u hu
 obtain ⟨x, _, hx⟩ := List.mem_flatMap.1 hu
 simp [icell] at hx
 subst hx; rfl
theorem Tryz.infoInt : (Tryz.prog.info? 3).map (fun i => (i.zero, i.size, i.bytes)) = some (some (.int .i64 0), 1, 8) := by kernel_rfl
theorem appIntS {w0 w : World} {ops : Array Oper} {rest : List Oper} {o : Oper} {a : Act} {Q : Exit → Act → World → Prop} (hgd : o.guard = none) (s x : Operand)
  (ho : o.op = .call { callee := .builtin .append, args := #[s, x], argTypes := #[80, 80] }) (v : Value) (n : Nat) (xs : List Int) (hs : a.eval s = v)
  (hown : w.ownsRow w0.heap.size 3 1 v n (icells xs)) (hx0 : Ext w0 w) (A : Option Addr) (m c : Nat) (ys : List Int) (hx : a.eval x = .slice A m c) (hr : Rd w w.heap.size 1 A m (icells ys)) (hn : n + m ≤ 2000000000000)
  (h : ∀ v' w', w'.ownsRow w0.heap.size 3 1 v' (n + m) (icells (xs ++ ys)) → Ext w0 w' → w.grownBy w' v.ownBlock → (v'.ownBlock = v.ownBlock ∨ v'.ownBlock = some w.heap.size) → wpList Tryz.prog ops Q rest (a.put o.dst v') w') : wpList Tryz.prog ops Q (o :: rest) a w := by
 obtain ⟨i0, hi, hz0, hz1, hz2⟩ := info_parts Tryz.infoInt
 exact wpList_app hgd s x _ ho 3 i0 _ 1 8 Tryz.underlying80 hi hz0 hz1 hz2 rfl (by decide) (by decide) v n _ hs hown hx0 A m c _ hx hr (int_one ys) hn (fun v' w' h1 => h v' w' (by unfold icells; rw [List.flatMap_append]; exact h1))
theorem appInt {w0 w : World} {ops : Array Oper} {rest : List Oper} {o : Oper} {a : Act} {Q : Exit → Act → World → Prop} (hgd : o.guard = none) (s x : Operand)
  (ho : o.op = .call { callee := .builtin .append, args := #[s, x], argTypes := #[80, 80] }) (v : Value) (n : Nat) (xs : List Int) (hs : a.eval s = v)
  (hown : w.ownsRow w0.heap.size 3 1 v n (icells xs)) (hx0 : Ext w0 w) (y : Int) (e : TypeId) (b : Nat) (hx : a.eval x = .slice (some ⟨b, 0, none⟩) 1 1) (hbs : b = w.heap.size) (hn : n ≤ 1800000000000)
  (h : ∀ v' w', w'.ownsRow w0.heap.size 3 1 v' (n + 1) (icells (xs ++ [y])) → Ext w0 w' → (w.alloc (.cells #[.int .i64 y] e)).grownBy w' v.ownBlock → (v'.ownBlock = v.ownBlock ∨ v'.ownBlock = some (w.heap.size + 1)) → wpList Tryz.prog ops Q rest (a.put o.dst v') w') : wpList Tryz.prog ops Q (o :: rest) a (w.alloc (.cells #[.int .i64 y] e)) := by
 subst hbs
 refine appIntS hgd s x ho v n xs hs (hown.alloc _) (hx0.alloc _) _ 1 1 [y] hx (rd_new w _ e 1 _ (by simp [icell]) (by simp [icell])) (by omega) ?_
 intro v' w' h1 h2 h3 h4
 exact h v' w' h1 h2 h3 (by simpa using h4)

end Go.Proofs.YtdjckjfclhjpcaaGreat
