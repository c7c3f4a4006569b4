/-
 Helper text (no claim of its own): statements of programs in memory, and slices of them.
-/
import Derived.Test.YtdjckjfclhjpcaaGreatSms
namespace Go.Proofs.YtdjckjfclhjpcaaGreat
open Go.ChangeShapes Go.WideShapes Go.ChangeAt Go.RowKit Go.Deep
set_option linter.unusedVariables false
set_option linter.unusedSimpArgs false
/-- The slice reads as the cells xs, and lies in a block of the set K. -/
def RdK (w : World) (K : Nat → Prop) (size : Nat) (A : Option Addr) (n : Nat) (xs : List Value) : Prop :=
 xs.length = n * size ∧ (0 < n → ∃ b o, A = some ⟨b, o, none⟩ ∧ K b ∧ ∀ j u, xs[j]? = some u → w.cell? ⟨b, o + j, none⟩ = some u)
section
variable {w w' : World} {K K' : Nat → Prop} {size n : Nat} {A : Option Addr} {xs : List Value}
theorem RdK.rd {B : Nat} (h : RdK w K size A n xs) (hK : ∀ b, K b → b < B) : Rd w B size A n xs := ⟨h.1, fun hn => by
 obtain ⟨b, o, e, hb, hc⟩ := h.2 hn
 exact ⟨b, o, e, hK b hb, hc⟩⟩
theorem RdK.of {B : Nat} (h : Rd w B size A n xs) (hK : ∀ b, b < B → (∃ o, A = some ⟨b, o, none⟩) → K b) : RdK w K size A n xs := ⟨h.1, fun hn => by
 obtain ⟨b, o, e, hb, hc⟩ := h.2 hn
 exact ⟨b, o, e, hK b hb ⟨o, e⟩, hc⟩⟩
theorem RdK.keep (h : RdK w K size A n xs) (hk : ∀ b, K b → w'.heap[b]? = w.heap[b]?) (hK : ∀ b, K b → K' b) : RdK w' K' size A n xs := ⟨h.1, fun hn => by
 obtain ⟨b, o, e, hb, hc⟩ := h.2 hn
 exact ⟨b, o, e, hK b hb, fun j u hu => (World.cell?_of_block (hk b hb)).trans (hc j u hu)⟩⟩
end
/-- The five cells of a statement. -/
structure Sc where
 k : Int
 wd : ByteArray
 A : Option Addr
 n : Nat
 c : Nat
 cnt : Int
 B : Option Addr
 m : Nat
 e : Nat
def Sc.cells (x : Sc) : List Value := [.int .i64 x.k, .string x.wd, .slice x.A x.n x.c, .int .i64 x.cnt, .slice x.B x.m x.e]
abbrev Sc.val (x : Sc) : Value := .agg #[.int .i64 x.k, .string x.wd, .slice x.A x.n x.c, .int .i64 x.cnt, .slice x.B x.m x.e]
abbrev mcells (xs : List Sc) : List Value := xs.flatMap Sc.cells
theorem Sc.cells_len (x : Sc) : x.cells.length = 5 := rfl
theorem sc_at {w : World} {B n i : Nat} {A : Option Addr} {xs : List Sc} (h : Rd w B 5 A n (mcells xs)) (hi : i < n) :
  ∃ b o x, A = some ⟨b, o, none⟩ ∧ b < B ∧ xs[i]? = some x ∧ w.cell? ⟨b, o + i * 5, none⟩ = some (.int .i64 x.k) ∧ w.cell? ⟨b, o + i * 5 + 1, none⟩ = some (.string x.wd) ∧ w.cell? ⟨b, o + i * 5 + 2, none⟩ = some (.slice x.A x.n x.c) ∧ w.cell? ⟨b, o + i * 5 + 3, none⟩ = some (.int .i64 x.cnt) ∧ w.cell? ⟨b, o + i * 5 + 4, none⟩ = some (.slice x.B x.m x.e) := by
 obtain ⟨b, o, x, rfl, hb, hx, hc⟩ := elem_at Sc.cells_len (by omega) h hi
 exact ⟨b, o, x, rfl, hb, hx, hc 0 _ rfl, hc 1 _ rfl, hc 2 _ rfl, hc 3 _ rfl, hc 4 _ rfl⟩
theorem Sc.one (xs : List Sc) : ∀ u ∈ mcells xs, u.oneCell' = true := by
 intro u hu
 obtain ⟨x, _, hx⟩ := List.mem_flatMap.1 hu
 simp [Sc.cells] at hx
 rcases hx with rfl | rfl | rfl | rfl | rfl <;> rfl
/-- How many names a kind needs. -/
def need (k : Int) : Nat := if k = 2 ∨ k = 3 then 0 else if k = 6 then 2 else 1
/-- A slice of names. -/
def Nm (w : World) (K : Nat → Prop) (A : Option Addr) (n : Nat) : Prop := ∃ xs : List ByteArray, (∀ y ∈ xs, y.size ≤ 1000) ∧ RdK w K 1 A n (tcells xs)
/-- A statement of depth d at most. -/
def Sv : Nat → World → (Nat → Prop) → Sc → Prop
 | 0, _, _, _ => False
 | d + 1, w, K, x => need x.k ≤ x.n ∧ x.n ≤ 4 ∧ x.n ≤ x.c ∧ x.m ≤ 10 ∧ x.wd.size ≤ 1000 ∧ Nm w K x.A x.n ∧ ∃ ys : List Sc, RdK w K 5 x.B x.m (mcells ys) ∧ ∀ y ∈ ys, Sv d w K y
/-- A slice of them. -/
def Ss (d : Nat) (w : World) (K : Nat → Prop) (A : Option Addr) (m : Nat) : Prop := m ≤ 10 ∧ ∃ ys : List Sc, RdK w K 5 A m (mcells ys) ∧ ∀ y ∈ ys, Sv d w K y
section
variable {w w' : World} {K K' : Nat → Prop}
theorem Nm.keep {A : Option Addr} {n : Nat} (h : Nm w K A n) (hk : ∀ b, K b → w'.heap[b]? = w.heap[b]?) (hK : ∀ b, K b → K' b) : Nm w' K' A n := by
 obtain ⟨xs, h1, h2⟩ := h
 exact ⟨xs, h1, h2.keep hk hK⟩
theorem Sv.keep (hk : ∀ b, K b → w'.heap[b]? = w.heap[b]?) (hK : ∀ b, K b → K' b) : ∀ {d : Nat} {x : Sc}, Sv d w K x → Sv d w' K' x
 | 0, _, h => h
 | d + 1, x, h => by
  obtain ⟨h1, h2, h2', h3, h4, h5, ys, h6, h7⟩ := h
  exact ⟨h1, h2, h2', h3, h4, h5.keep hk hK, ys, h6.keep hk hK, fun y hy => Sv.keep hk hK (h7 y hy)⟩
theorem Ss.keep {d : Nat} {A : Option Addr} {m : Nat} (h : Ss d w K A m) (hk : ∀ b, K b → w'.heap[b]? = w.heap[b]?) (hK : ∀ b, K b → K' b) : Ss d w' K' A m := by
 obtain ⟨h0, ys, h1, h2⟩ := h
 exact ⟨h0, ys, h1.keep hk hK, fun y hy => Sv.keep hk hK (h2 y hy)⟩
theorem Sv.body {d : Nat} {x : Sc} (h : Sv (d + 1) w K x) : Ss d w K x.B x.m := by
 obtain ⟨_, _, _, h3, _, _, ys, h6, h7⟩ := h
 exact ⟨h3, ys, h6, h7⟩
/-- A statement without a body. -/
theorem Sv.leaf {d : Nat} {k cnt : Int} {wd : ByteArray} {A : Option Addr} {n c : Nat} (h1 : need k ≤ n) (h2 : n ≤ 4) (h3 : n ≤ c) (h4 : wd.size ≤ 1000) (h5 : Nm w K A n) : Sv (d + 1) w K ⟨k, wd, A, n, c, cnt, none, 0, 0⟩ :=
 ⟨h1, h2, h3, Nat.zero_le _, h4, h5, [], ⟨rfl, fun h => absurd h (Nat.lt_irrefl 0)⟩, by simp⟩
theorem Nm.none : Nm w K none 0 := ⟨[], by simp, rfl, fun h => absurd h (by decide)⟩
theorem Sv.mk {d : Nat} {k cnt : Int} {wd : ByteArray} {A B : Option Addr} {n c m e : Nat} (h1 : need k ≤ n) (h2 : n ≤ 4) (h3 : n ≤ c) (h4 : wd.size ≤ 1000) (h5 : Nm w K A n) (h6 : Ss d w K B m) : Sv (d + 1) w K ⟨k, wd, A, n, c, cnt, B, m, e⟩ := by
 obtain ⟨h7, ys, h8, h9⟩ := h6
 exact ⟨h1, h2, h3, h7, h4, h5, ys, h8, h9⟩
end
/-! ### append -/
theorem Tryz.infoStmt : (Tryz.prog.info? 69).map (fun i => (i.zero, i.size, i.bytes)) = some (some (.agg #[.int .i64 0, .string ⟨#[]⟩, .slice none 0 0, .int .i64 0, .slice none 0 0]), 5, 80) := by kernel_rfl
set_option maxRecDepth 100000 in
theorem run_appM {w : World} {ty B : Nat} (v : Value) (n : Nat) (xs : List Sc) (hown : w.ownsRow B 69 5 v n (mcells xs)) (hB : B ≤ w.heap.size)
  (A : Option Addr) (m c : Nat) (ys : List Sc) (hr : Rd w w.heap.size 5 A m (mcells ys)) (hn : n + m ≤ 1000000) :
  ∃ v' w', (Builtin.append_ #[51, 51] ty #[v, .slice A m c]).run Tryz.prog w = .ok v' w' ∧ w'.ownsRow B 69 5 v' (n + m) (mcells (xs ++ ys)) ∧ w.grownBy w' v.ownBlock ∧
   (v'.ownBlock = v.ownBlock ∨ v'.ownBlock = some w.heap.size) := by
 obtain ⟨i0, hi, hz0, hz1, hz2⟩ := info_parts Tryz.infoStmt
 have hbytes : (n + m) * 80 ≤ 140737488355328 := by omega
 have hcat : mcells (xs ++ ys) = mcells xs ++ mcells ys := List.flatMap_append
 rcases A with _ | ad
 ·have hm : m = 0 := by
   rcases Nat.eq_zero_or_pos m with h0 | h0
   ·exact h0
   ·obtain ⟨b, o, h, _⟩ := hr.2 h0
    cases h
  subst hm
  have hn0 : mcells ys = [] := List.eq_nil_of_length_eq_zero (by simpa using hr.1)
  refine ⟨v, w, ?_, by rw [hcat, hn0, List.append_nil]; exact hown, World.grownBy.refl w _, .inl rfl⟩
  rcases hown.2 with ⟨rfl, rfl⟩ | ⟨g, cap, cur, rfl, _, _, hnc, _⟩
  ·simp [Builtin.append_, run_underlying Tryz.underlying51, sizeOf, typeInfo, hi, Builtin.lenOf, Builtin.firstCells]
  ·simp [Builtin.append_, run_underlying Tryz.underlying51, sizeOf, typeInfo, hi, Builtin.lenOf, Builtin.firstCells, hnc, storeCells]
 ·have hcells : ∀ j u, (mcells ys)[j]? = some u → w.cell? (ad.add j) = some u := by
   intro j u hu
   rcases Nat.eq_zero_or_pos m with h0 | h0
   ·subst h0
    have hn0 : mcells ys = [] := List.eq_nil_of_length_eq_zero (by simpa using hr.1)
    rw [hn0] at hu
    simp at hu
   ·obtain ⟨b, o, h, _, hc⟩ := hr.2 h0
    injection h with h
    subst h
    have := hc j u hu
    by_cases hj : j = 0
    ·subst hj; exact this
    ·simpa [Addr.add, hj] using this
  obtain ⟨v', w', hrun, h2, h3, _, h5⟩ := run_append_own_at (P := Tryz.prog) w B 51 ty 69 i0 _ 5 80 Tryz.underlying51 hi hz0 hz1 hz2 rfl (by decide) v n _ hown ad m c _ hr.1 hcells (Sc.one ys) (by unfold maxLen; omega) hbytes hB
  exact ⟨v', w', hrun, by rw [hcat]; exact h2, h3, h5⟩
theorem wp_appM {w : World} {B : Nat} {o : Oper} {a : Act} {K : Act → World → Prop} {Q : Exit → Act → World → Prop} (s x : Operand)
  (ho : o.op = .call { callee := .builtin .append, args := #[s, x], argTypes := #[51, 51] })
  (v : Value) (n : Nat) (xs : List Sc) (hs : a.eval s = v) (hown : w.ownsRow B 69 5 v n (mcells xs)) (hB : B ≤ w.heap.size)
  (A : Option Addr) (m c : Nat) (ys : List Sc) (hx : a.eval x = .slice A m c) (hr : Rd w w.heap.size 5 A m (mcells ys)) (hn : n + m ≤ 1000000)
  (h : ∀ v' w', w'.ownsRow B 69 5 v' (n + m) (mcells (xs ++ ys)) → w.grownBy w' v.ownBlock → (v'.ownBlock = v.ownBlock ∨ v'.ownBlock = some w.heap.size) → K (a.put o.dst v') w') : o.wp Tryz.prog a w K Q := by
 obtain ⟨v', w', hrun, h2, h3, h4⟩ := run_appM (ty := o.type) v n xs hown hB A m c ys hr hn
 unfold Oper.wp execOp
 simp only [ho, resolve, invoke, builtin, Sem.run_bind, Sem.run_pure, Result.andThen_ok, List.map_toArray, List.map_cons, List.map_nil, hs, hx, hrun]
 exact h v' w' h2 h3 h4
theorem appStmS {w : World} {B : Nat} {ops : Array Oper} {rest : List Oper} {o : Oper} {a : Act} {Q : Exit → Act → World → Prop} (hgd : o.guard = none) (s x : Operand)
  (ho : o.op = .call { callee := .builtin .append, args := #[s, x], argTypes := #[51, 51] })
  (v : Value) (n : Nat) (xs : List Sc) (hs : a.eval s = v) (hown : w.ownsRow B 69 5 v n (mcells xs)) (hB : B ≤ w.heap.size)
  (A : Option Addr) (m c : Nat) (ys : List Sc) (hx : a.eval x = .slice A m c) (hr : Rd w w.heap.size 5 A m (mcells ys)) (hn : n + m ≤ 1000000)
  (h : ∀ v' w', w'.ownsRow B 69 5 v' (n + m) (mcells (xs ++ ys)) → w.grownBy w' v.ownBlock → (v'.ownBlock = v.ownBlock ∨ v'.ownBlock = some w.heap.size) → wpList Tryz.prog ops Q rest (a.put o.dst v') w') : wpList Tryz.prog ops Q (o :: rest) a w :=
 wpList_plain hgd fun _ hK => wp_appM s x ho v n xs hs hown hB A m c ys hx hr hn fun v' w' h2 h3 h4 => hK _ _ (h v' w' h2 h3 h4)
theorem stepStmS {w : World} {B : Nat} {ops : Array Oper} {o : Oper} {a : Act} {K : Act → World → Prop} {Q : Exit → Act → World → Prop} {E : Prop} (hgd : o.guard = none) (s x : Operand)
  (ho : o.op = .call { callee := .builtin .append, args := #[s, x], argTypes := #[51, 51] })
  (v : Value) (n : Nat) (xs : List Sc) (hs : a.eval s = v) (hown : w.ownsRow B 69 5 v n (mcells xs)) (hB : B ≤ w.heap.size)
  (A : Option Addr) (m c : Nat) (ys : List Sc) (hx : a.eval x = .slice A m c) (hr : Rd w w.heap.size 5 A m (mcells ys)) (hn : n + m ≤ 1000000)
  (h : ∀ v' w', w'.ownsRow B 69 5 v' (n + m) (mcells (xs ++ ys)) → w.grownBy w' v.ownBlock → (v'.ownBlock = v.ownBlock ∨ v'.ownBlock = some w.heap.size) → K (a.put o.dst v') w') :
  if Region.wanted o (yielded ops a.tmps) = true then Oper.wp Tryz.prog o a w K Q else E := by
 have hw : Region.wanted o (yielded ops a.tmps) = true := by simp [Region.wanted, hgd]
 rw [if_pos hw]
 exact wp_appM s x ho v n xs hs hown hB A m c ys hx hr hn h
end Go.Proofs.YtdjckjfclhjpcaaGreat
