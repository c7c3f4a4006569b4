/-
 Helper text (no claim of its own): a tableau being built. Printed by gen_tc.py.
-/
import Derived.Test.YtioimnplhmgbgaaGreatTbe
import Derived.Test.YtioimnplhmgbgaaGreatImg
namespace Go.Proofs.YtioimnplhmgbgaaGreat
open Go.ChangeShapes Go.WideShapes Go.ChangeAt Go.RowKit Go.Deep
set_option linter.unusedVariables false
theorem Tryz.sizeTableauR : (Tryz.prog.info? 31).map (·.size) = some 2 := by kernel_rfl
theorem retT {fn : Func} {p : Tmp} (hf : fn.results = #[.cell p 31]) {W : World} {q : Nat} {cs : Array Value} (hB : Blk W q 31 cs) (tmps : Array Value)
  (hp : tmps.getD p undef = .pointer (some ⟨q, 0, none⟩)) (hs : cs.size = 2) : (results fn tmps).run Tryz.prog W = .ok (.agg cs) W :=
 results_cell_row hf tmps _ q 31 _ (0, 0) _ hp hB Tryz.underlying31 rfl (by rw [hs]; exact Tryz.sizeTableauR)
def put2 (w : World) (g : Nat) (a b : Value) : World := (w.setCell ⟨g, 0, none⟩ a).setCell ⟨g, 1, none⟩ b
theorem Blk.put2 {w : World} {g t : Nat} {z0 z1 : Value} (h : Blk w g t #[z0, z1]) (a b : Value) : Blk (put2 w g a b) g t #[a, b] := (h.set_ 0 a).set_ 1 b
theorem ext_put2 {w0 w : World} (h : Ext w0 w) {g : Nat} (hg : w0.heap.size ≤ g) (a b : Value) : Ext w0 (put2 w g a b) := (h.setCell (p := ⟨g, 0, none⟩) hg a).setCell (p := ⟨g, 1, none⟩) hg b
theorem own_lc {w : World} {B e size n c : Nat} {A : Option Addr} {xs : List Value} (h : w.ownsRow B e size (.slice A n c) n xs) : n ≤ c := by
 rcases h.2 with ⟨h0, rfl⟩ | ⟨g, cap, cur, hv, _, _, hnc, _⟩
 ·omega
 ·injection hv with _ _ h3
  omega
/-- The tableau that is built: its header in block g, its rows in memory of their own behind it. -/
structure DT (W1 w : World) (g : Nat) (N : Int) (A : Option Addr) (len cap : Nat) (xs : List Pa) : Prop where
 b : Blk w g 31 #[.int .i64 N, .slice A len cap]
 o : w.ownsRow (g + 1) 66 4 (.slice A len cap) len (pcells xs)
 x : Ext W1 w
 s : W1.heap.size ≤ g
theorem DT.ext {W1 w w' : World} {g : Nat} {N : Int} {A : Option Addr} {len cap : Nat} {xs : List Pa} (h : DT W1 w g N A len cap xs) (hx : Ext w w') : DT W1 w' g N A len cap xs := ⟨h.b.ext hx, own_ext h.o hx, h.x.trans hx, h.s⟩
theorem DT.len_ {W1 w : World} {g : Nat} {N : Int} {A : Option Addr} {len cap : Nat} {xs : List Pa} (h : DT W1 w g N A len cap xs) : xs.length = len := (Rd.own h.o).len Pa.cells_len (by omega)
theorem DT.cap_ {W1 w : World} {g : Nat} {N : Int} {A : Option Addr} {len cap : Nat} {xs : List Pa} (h : DT W1 w g N A len cap xs) : len ≤ cap := own_lc h.o
theorem cut_sizeT {w : World} {B : Nat} (h : B ≤ w.heap.size) : ({ w with heap := w.heap.extract 0 B } : World).heap.size = B := by simp; omega
theorem cut_extT {w : World} {B : Nat} (h : B ≤ w.heap.size) : Ext ({ w with heap := w.heap.extract 0 B } : World) w := by
 refine ⟨rfl, rfl, rfl, by rw [cut_sizeT h]; exact h, fun k hk => ?_⟩
 rw [cut_sizeT h] at hk
 simp [Array.getElem?_extract]
 omega
/-- What an append leaves. -/
theorem DT.left {W1 w w' : World} {g : Nat} {N : Int} {A A' : Option Addr} {len cap c' : Nat} {xs : List Pa} {y : Pa} (D : DT W1 w g N A len cap xs) (hB : g + 1 ≤ w.heap.size)
  (h1 : w'.ownsRow (g + 1) 66 4 (.slice A' (len + 1) c') (len + 1) (pcells (xs ++ [y]))) (hgr : w.grownBy w' (Value.slice A len cap).ownBlock) :
  Blk w' g 31 #[.int .i64 N, .slice A len cap] ∧ DT W1 (w'.setCell ⟨g, 1, none⟩ (.slice A' (len + 1) c')) g N A' (len + 1) c' (xs ++ [y]) ∧ ∀ (k t : Nat) (cs : Array Value), k < g → Blk w k t cs → Blk (w'.setCell ⟨g, 1, none⟩ (.slice A' (len + 1) c')) k t cs := by
 have hne : ∀ k, (Value.slice A len cap).ownBlock = some k → g ≠ k := fun k hk => by have := (D.o.lt k hk).1; omega
 have hb' : Blk w' g 31 #[.int .i64 N, .slice A len cap] := D.b.grown hgr hne
 have hx' : Ext W1 w' := D.x.grown hgr (fun k hk => by have := (D.o.lt k hk).1; have := D.s; omega)
 refine ⟨hb', ⟨hb'.set_ 1 _, own_set h1 (p := ⟨g, 1, none⟩) (Nat.lt_succ_self g) _, hx'.setCell (p := ⟨g, 1, none⟩) D.s _, D.s⟩, fun k t cs hk hb => ?_⟩
 exact (hb.grown hgr (fun j hj => by have := (D.o.lt j hj).1; omega)).far (p := ⟨g, 1, none⟩) (show k ≠ g by omega) _
/-- append of one row, outside a drawn region. -/
theorem DT.app {W1 w : World} {g : Nat} {N : Int} {A : Option Addr} {len cap : Nat} {xs : List Pa} (D : DT W1 w g N A len cap xs) {ops : Array Oper} {rest : List Oper} {o : Oper} {a : Act} {Q : Exit → Act → World → Prop} (hgd : o.guard = none) (s x : Operand)
  (ho : o.op = .call { callee := .builtin .append, args := #[s, x], argTypes := #[29, 29] }) (hs : a.eval s = .slice A len cap)
  (y : Pa) (b : Nat) (hx : a.eval x = .slice (some ⟨b, 0, none⟩) 1 1) (hr : Rd w w.heap.size 4 (some ⟨b, 0, none⟩) 1 (pcells [y])) (hn : len ≤ 90000000)
  (h : ∀ A' c' w', (Blk w' g 31 #[.int .i64 N, .slice A len cap] ∧ DT W1 (w'.setCell ⟨g, 1, none⟩ (.slice A' (len + 1) c')) g N A' (len + 1) c' (xs ++ [y]) ∧ ∀ (k t : Nat) (cs : Array Value), k < g → Blk w k t cs → Blk (w'.setCell ⟨g, 1, none⟩ (.slice A' (len + 1) c')) k t cs) → wpList Tryz.prog ops Q rest (a.put o.dst (.slice A' (len + 1) c')) w') :
  wpList Tryz.prog ops Q (o :: rest) a w := by
 have hB : g + 1 ≤ w.heap.size := D.b.lt
 have hcs := cut_sizeT hB
 refine appPauliS (w0 := { w with heap := w.heap.extract 0 (g + 1) }) hgd s x ho _ len xs hs (by rw [hcs]; exact D.o) (cut_extT hB) _ 1 1 [y] hx hr (by omega) ?_
 intro v' w' h1 h2 h3 h4
 rw [hcs] at h1
 obtain ⟨A', c', rfl, _⟩ := own_slice h1
 exact h A' c' w' (D.left hB h1 h3)
/-- append of one row, in a region that draws its order. -/
theorem DT.step {W1 w : World} {g : Nat} {N : Int} {A : Option Addr} {len cap : Nat} {xs : List Pa} (D : DT W1 w g N A len cap xs) {ops : Array Oper} {o : Oper} {a : Act} {K : Act → World → Prop} {Q : Exit → Act → World → Prop} {E : Prop} (hgd : o.guard = none) (s x : Operand)
  (ho : o.op = .call { callee := .builtin .append, args := #[s, x], argTypes := #[29, 29] }) (hs : a.eval s = .slice A len cap)
  (y : Pa) (b : Nat) (hx : a.eval x = .slice (some ⟨b, 0, none⟩) 1 1) (hr : Rd w w.heap.size 4 (some ⟨b, 0, none⟩) 1 (pcells [y])) (hn : len ≤ 90000000)
  (h : ∀ A' c' w', (Blk w' g 31 #[.int .i64 N, .slice A len cap] ∧ DT W1 (w'.setCell ⟨g, 1, none⟩ (.slice A' (len + 1) c')) g N A' (len + 1) c' (xs ++ [y]) ∧ ∀ (k t : Nat) (cs : Array Value), k < g → Blk w k t cs → Blk (w'.setCell ⟨g, 1, none⟩ (.slice A' (len + 1) c')) k t cs) → K (a.put o.dst (.slice A' (len + 1) c')) w') :
  if Region.wanted o (yielded ops a.tmps) = true then Oper.wp Tryz.prog o a w K Q else E := by
 have hB : g + 1 ≤ w.heap.size := D.b.lt
 have hcs := cut_sizeT hB
 refine stepPauliS (w0 := { w with heap := w.heap.extract 0 (g + 1) }) hgd s x ho _ len xs hs (by rw [hcs]; exact D.o) (cut_extT hB) _ 1 1 [y] hx hr (by omega) ?_
 intro v' w' h1 h2 h3 h4
 rw [hcs] at h1
 obtain ⟨A', c', rfl, _⟩ := own_slice h1
 exact h A' c' w' (D.left hB h1 h3)
/-- A tableau that a call returned. -/
def TabOut (n : Int) (rs : List Pa) (v : Value) (w : World) : Prop := ∃ (A : Option Addr) (c : Nat), v = .agg #[.int .i64 n, .slice A rs.length c] ∧ Rd w w.heap.size 4 A rs.length (pcells rs) ∧ rs.length ≤ c
theorem DT.out {W1 w : World} {g : Nat} {N : Int} {A : Option Addr} {len cap : Nat} {xs : List Pa} (h : DT W1 w g N A len cap xs) : TabOut N xs (.agg #[.int .i64 N, .slice A len cap]) w := by
 have hl := h.len_
 have hr := Rd.own h.o
 have hc := h.cap_
 subst hl
 exact ⟨A, cap, rfl, hr, hc⟩
theorem TabOut.ext {n : Int} {rs : List Pa} {v : Value} {w w' : World} (h : TabOut n rs v w) (hx : Ext w w') : TabOut n rs v w' := by
 obtain ⟨A, c, hv, hr, hc⟩ := h
 exact ⟨A, c, hv, hr.ext hx, hc⟩
theorem TabOut.put {n : Int} {rs : List Pa} {N : Int} {A : Option Addr} {len cap : Nat} {xs : List Pa} {W1 w : World} {g r : Nat} (h : DT W1 w g N A len cap xs) (hr : r < g) (a b : Value) : TabOut N xs (.agg #[.int .i64 N, .slice A len cap]) (put2 w r a b) := by
 have hl := h.len_
 have ho := own_set (own_set h.o (p := ⟨r, 0, none⟩) (by show r < g + 1; omega) a) (p := ⟨r, 1, none⟩) (by show r < g + 1; omega) b
 have hrd := Rd.own ho
 have hc := h.cap_
 subst hl
 exact ⟨A, cap, rfl, hrd, hc⟩
/-- What a call returned: a tableau and true, or none and false. -/
def TabRes (n : Int) (t : Option (List Pa)) (e : Ending) (w : World) : Prop :=
 match t with
 | none => e = .returned (.tuple #[.agg #[.int .i64 0, .slice none 0 0], .bool false])
 | some rs => ∃ v, e = .returned (.tuple #[v, .bool true]) ∧ TabOut n rs v w
/-- The rows of the identity, the first k. -/
def idRow (n : Int) (k : Nat) : Pa := if (k : Int) < n then ⟨n, pw k, 0, 0⟩ else ⟨n, 0, pw ((k : Int) - n), 0⟩
def idL (n : Int) (k : Nat) : List Pa := (List.range k).map (idRow n)
theorem idL_succ (n : Int) (k : Nat) : idL n (k + 1) = idL n k ++ [idRow n k] := by unfold idL; rw [List.range_succ, List.map_append]; rfl
theorem idL_all {n : Int} (h1 : 1 ≤ n) (h4 : n ≤ 4) : idL n (2 * n.toNat) = idT n.toNat := by
 rcases (show n = 1 ∨ n = 2 ∨ n = 3 ∨ n = 4 by omega) with rfl | rfl | rfl | rfl <;> rfl
end Go.Proofs.YtioimnplhmgbgaaGreat
