/-
 Helper text (no claim of its own): slices of strings and of bytes: append, reading, conversion.
-/
import Derived.Test.YtdjckjfclhjpcaaGreatInt
import Derived.Lib.AppendStr
import Derived.Laws.IdiomStrings
namespace Go.Proofs.YtdjckjfclhjpcaaGreat
open Go.ChangeShapes Go.WideShapes Go.ChangeAt Go.RowKit Go.Deep
set_option linter.unusedVariables false
set_option linter.unusedSimpArgs false
def tcell (s : ByteArray) : List Value := [.string s]
abbrev tcells (xs : List ByteArray) : List Value := xs.flatMap tcell
theorem tcell_len (s : ByteArray) : (tcell s).length = 1 := rfl
theorem str_at {w : World} {B n i : Nat} {A : Option Addr} {xs : List ByteArray} (h : Rd w B 1 A n (tcells xs)) (hi : i < n) :
  ∃ b o x, A = some ⟨b, o, none⟩ ∧ b < B ∧ xs[i]? = some x ∧ w.cell? ⟨b, o + i, none⟩ = some (.string x) := by
 obtain ⟨b, o, x, rfl, hb, hx, hc⟩ := elem_at tcell_len (by omega) h hi
 have := hc 0 _ rfl
 rw [Nat.mul_one, Nat.add_zero] at this
 exact ⟨b, o, x, rfl, hb, hx, this⟩
theorem str_one (xs : List ByteArray) : ∀ u ∈ tcells xs, u.oneCell' = true := by
 intro u hu
 obtain ⟨x, _, hx⟩ := List.mem_flatMap.1 hu
 simp [tcell] at hx
 subst hx; rfl
theorem Tryz.infoStr : (Tryz.prog.info? 9).map (fun i => (i.zero, i.size, i.bytes)) = some (some (.string ⟨#[]⟩), 1, 16) := by kernel_rfl
theorem appStrS {w0 w : World} {ops : Array Oper} {rest : List Oper} {o : Oper} {a : Act} {Q : Exit → Act → World → Prop} (hgd : o.guard = none) (s x : Operand)
  (ho : o.op = .call { callee := .builtin .append, args := #[s, x], argTypes := #[50, 50] }) (v : Value) (n : Nat) (xs : List ByteArray) (hs : a.eval s = v)
  (hown : w.ownsRow w0.heap.size 9 1 v n (tcells xs)) (hx0 : Ext w0 w) (A : Option Addr) (m c : Nat) (ys : List ByteArray) (hx : a.eval x = .slice A m c) (hr : Rd w w.heap.size 1 A m (tcells ys)) (hn : n + m ≤ 2000000000000)
  (h : ∀ v' w', w'.ownsRow w0.heap.size 9 1 v' (n + m) (tcells (xs ++ ys)) → Ext w0 w' → w.grownBy w' v.ownBlock → (v'.ownBlock = v.ownBlock ∨ v'.ownBlock = some w.heap.size) → wpList Tryz.prog ops Q rest (a.put o.dst v') w') : wpList Tryz.prog ops Q (o :: rest) a w := by
 obtain ⟨i0, hi, hz0, hz1, hz2⟩ := info_parts Tryz.infoStr
 exact wpList_app hgd s x _ ho 9 i0 _ 1 16 Tryz.underlying50 hi hz0 hz1 hz2 rfl (by decide) (by decide) v n _ hs hown hx0 A m c _ hx hr (str_one ys) hn (fun v' w' h1 => h v' w' (by unfold tcells; rw [List.flatMap_append]; exact h1))
theorem appStr {w0 w : World} {ops : Array Oper} {rest : List Oper} {o : Oper} {a : Act} {Q : Exit → Act → World → Prop} (hgd : o.guard = none) (s x : Operand)
  (ho : o.op = .call { callee := .builtin .append, args := #[s, x], argTypes := #[50, 50] }) (v : Value) (n : Nat) (xs : List ByteArray) (hs : a.eval s = v)
  (hown : w.ownsRow w0.heap.size 9 1 v n (tcells xs)) (hx0 : Ext w0 w) (y : ByteArray) (e : TypeId) (b : Nat) (hx : a.eval x = .slice (some ⟨b, 0, none⟩) 1 1) (hbs : b = w.heap.size) (hn : n ≤ 1800000000000)
  (h : ∀ v' w', w'.ownsRow w0.heap.size 9 1 v' (n + 1) (tcells (xs ++ [y])) → Ext w0 w' → (w.alloc (.cells #[.string y] e)).grownBy w' v.ownBlock → (v'.ownBlock = v.ownBlock ∨ v'.ownBlock = some (w.heap.size + 1)) → wpList Tryz.prog ops Q rest (a.put o.dst v') w') : wpList Tryz.prog ops Q (o :: rest) a (w.alloc (.cells #[.string y] e)) := by
 subst hbs
 refine appStrS hgd s x ho v n xs hs (hown.alloc _) (hx0.alloc _) _ 1 1 [y] hx (rd_new w _ e 1 _ (by simp [tcell]) (by simp [tcell])) (by omega) ?_
 intro v' w' h1 h2 h3 h4
 exact h v' w' h1 h2 h3 (by simpa using h4)
/-! ### bytes -/
end Go.Proofs.YtdjckjfclhjpcaaGreat
