/-
  Helper text (no claim of its own): slices of strings and of bytes: append, reading, conversion.
-/
import Derived.Test.YteecjnnompjmiacGreatDoorInt
import Derived.Lib.AppendStr
import Derived.Laws.IdiomStrings
namespace Go.Proofs.YteecjnnompjmiacGreatDoor
open Go.ChangeShapes Go.WideShapes Go.ChangeAt Go.RowKit Go.Deep
set_option linter.unusedVariables false
set_option linter.unusedSimpArgs false
def scell (s : ByteArray) : List Value := [.string s]
abbrev scells (xs : List ByteArray) : List Value := xs.flatMap scell
theorem scell_len (s : ByteArray) : (scell s).length = 1 := rfl
theorem str_at {w : World} {B n i : Nat} {A : Option Addr} {xs : List ByteArray} (h : Rd w B 1 A n (scells xs)) (hi : i < n) :
    ∃ b o x, A = some ⟨b, o, none⟩ ∧ b < B ∧ xs[i]? = some x ∧ w.cell? ⟨b, o + i, none⟩ = some (.string x) := by
  obtain ⟨b, o, x, rfl, hb, hx, hc⟩ := elem_at scell_len (by omega) h hi
  have := hc 0 _ rfl
  rw [Nat.mul_one, Nat.add_zero] at this
  exact ⟨b, o, x, rfl, hb, hx, this⟩
theorem str_one (xs : List ByteArray) : ∀ u ∈ scells xs, u.oneCell' = true := by
  intro u hu
  obtain ⟨x, _, hx⟩ := List.mem_flatMap.1 hu
  simp [scell] at hx
  subst hx; rfl
theorem Tryz.infoStr : (Tryz.prog.info? 9).map (fun i => (i.zero, i.size, i.bytes)) = some (some (.string ⟨#[]⟩), 1, 16) := by kernel_rfl
theorem appStrS {w0 w : World} {ops : Array Oper} {rest : List Oper} {o : Oper} {a : Act} {Q : Exit → Act → World → Prop} (hgd : o.guard = none) (s x : Operand)
    (ho : o.op = .call { callee := .builtin .append, args := #[s, x], argTypes := #[31, 31] }) (v : Value) (n : Nat) (xs : List ByteArray) (hs : a.eval s = v)
    (hown : w.ownsRow w0.heap.size 9 1 v n (scells xs)) (hx0 : Ext w0 w) (A : Option Addr) (m c : Nat) (ys : List ByteArray) (hx : a.eval x = .slice A m c) (hr : Rd w w.heap.size 1 A m (scells ys)) (hn : n + m ≤ 100000000)
    (h : ∀ v' w', w'.ownsRow w0.heap.size 9 1 v' (n + m) (scells (xs ++ ys)) → Ext w0 w' → w.grownBy w' v.ownBlock → (v'.ownBlock = v.ownBlock ∨ v'.ownBlock = some w.heap.size) → wpList Tryz.prog ops Q rest (a.put o.dst v') w') : wpList Tryz.prog ops Q (o :: rest) a w := by
  obtain ⟨i0, hi, hz0, hz1, hz2⟩ := info_parts Tryz.infoStr
  exact wpList_app hgd s x _ ho 9 i0 _ 1 16 Tryz.underlying31 hi hz0 hz1 hz2 rfl (by decide) (by decide) v n _ hs hown hx0 A m c _ hx hr (str_one ys) hn (fun v' w' h1 => h v' w' (by unfold scells; rw [List.flatMap_append]; exact h1))
theorem appStr {w0 w : World} {ops : Array Oper} {rest : List Oper} {o : Oper} {a : Act} {Q : Exit → Act → World → Prop} (hgd : o.guard = none) (s x : Operand)
    (ho : o.op = .call { callee := .builtin .append, args := #[s, x], argTypes := #[31, 31] }) (v : Value) (n : Nat) (xs : List ByteArray) (hs : a.eval s = v)
    (hown : w.ownsRow w0.heap.size 9 1 v n (scells xs)) (hx0 : Ext w0 w) (y : ByteArray) (e : TypeId) (b : Nat) (hx : a.eval x = .slice (some ⟨b, 0, none⟩) 1 1) (hbs : b = w.heap.size) (hn : n ≤ 90000000)
    (h : ∀ v' w', w'.ownsRow w0.heap.size 9 1 v' (n + 1) (scells (xs ++ [y])) → Ext w0 w' → (w.alloc (.cells #[.string y] e)).grownBy w' v.ownBlock → (v'.ownBlock = v.ownBlock ∨ v'.ownBlock = some (w.heap.size + 1)) → wpList Tryz.prog ops Q rest (a.put o.dst v') w') : wpList Tryz.prog ops Q (o :: rest) a (w.alloc (.cells #[.string y] e)) := by
  subst hbs
  refine appStrS hgd s x ho v n xs hs (hown.alloc _) (hx0.alloc _) _ 1 1 [y] hx (rd_new w _ e 1 _ (by simp [scell]) (by simp [scell])) (by omega) ?_
  intro v' w' h1 h2 h3 h4
  exact h v' w' h1 h2 h3 (by simpa using h4)
/-! ### bytes -/
theorem strCells_app (a b : ByteArray) : Lib.strCells (a ++ b) = Lib.strCells a ++ Lib.strCells b := by
  unfold Lib.strCells
  rw [ByteArray.data_append, Array.toList_append, List.map_append]
theorem Tryz.infoByte : (Tryz.prog.info? 5).map (fun i => (i.zero, i.size, i.bytes)) = some (some (.int .u8 0), 1, 1) := by kernel_rfl
theorem appBytes {w0 w : World} {ops : Array Oper} {rest : List Oper} {o : Oper} {a : Act} {Q : Exit → Act → World → Prop} (hgd : o.guard = none) (sl x : Operand)
    (ho : o.op = .call { callee := .builtin .append, args := #[sl, x], argTypes := #[57, 9] }) (v : Value) (s : ByteArray) (hs : a.eval sl = v)
    (hown : w.ownsRow w0.heap.size 5 1 v s.size (Lib.strCells s)) (hx0 : Ext w0 w) (t : ByteArray) (hx : a.eval x = .string t) (hn : s.size + t.size ≤ 100000000)
    (h : ∀ v' w', w'.ownsRow w0.heap.size 5 1 v' (s ++ t).size (Lib.strCells (s ++ t)) → Ext w0 w' → wpList Tryz.prog ops Q rest (a.put o.dst v') w') : wpList Tryz.prog ops Q (o :: rest) a w := by
  obtain ⟨i0, hi, hz0, hz1, hz2⟩ := info_parts Tryz.infoByte
  refine Lib.wpList_append_own_string (w := w) hgd sl x _ _ ho w0.heap.size 5 i0 Tryz.underlying57 Tryz.underlying9 hi hz0 hz1 hz2 v _ _ hs hown t hx (by unfold maxLen; omega) (by omega) hx0.size ?_
  intro v' w' h1 h2 _
  refine h v' w' ?_ (Below.grown hx0 h2 hx0.size (fun k hk => (hown.lt k hk).1))
  rw [ByteArray.size_append, strCells_app]
  exact h1
theorem conv_own {w : World} {B : Nat} {v : Value} {s : ByteArray} (hown : w.ownsRow B 5 1 v s.size (Lib.strCells s)) : (convert 57 9 v).run Tryz.prog w = .ok (.string s) w := by
  obtain ⟨A, c, rfl, hr⟩ := own_slice hown
  rcases A with _ | ad
  · have h0 : s.size = 0 := by
      rcases Nat.eq_zero_or_pos s.size with h | h
      · exact h
      · obtain ⟨b, o, h, _⟩ := hr.2 h
        cases h
    have hs : s = ⟨#[]⟩ := by
      apply ByteArray.ext
      exact Array.eq_empty_of_size_eq_zero h0
    subst hs
    refine (run_convert_bytes_string w _ _ _ _ _ _ Tryz.underlying57 Tryz.underlying5 Tryz.underlying9).trans ?_
    rfl
  · have hc : ∀ j (hj : j < s.data.toList.length), w.cell? (ad.add j) = some (.int .u8 ((s.data.toList[j]).toNat : Int)) := by
      intro j hj
      have hp : 0 < s.size := by
        have : s.size = s.data.toList.length := by rw [Array.length_toList]; rfl
        omega
      obtain ⟨b, o, h, _, hc⟩ := hr.2 hp
      injection h with h
      subst h
      have := hc j (.int .u8 ((s.data.toList[j]).toNat : Int)) (by unfold Lib.strCells; rw [List.getElem?_map, List.getElem?_eq_getElem hj]; rfl)
      by_cases h0 : j = 0
      · subst h0; exact this
      · simpa [Addr.add, h0] using this
    have hl : s.size = s.data.toList.length := by rw [Array.length_toList]; rfl
    have := run_convert_bytes_back w 57 9 5 ad c s.data.toList Tryz.underlying57 Tryz.underlying5 Tryz.underlying9 hc
    rw [hl, this]
end Go.Proofs.YteecjnnompjmiacGreatDoor
