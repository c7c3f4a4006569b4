/-
  Helper text (no claim of its own): Gate as records, slices of them, and the laws' own helpers on them (size, copy, comparison). Printed by gen_fam.py.
-/
import Derived.Test.YtaiaaomjphnbfaaDoorBase
namespace Go.Proofs.YtaiaaomjphnbfaaDoor
open Go.ChangeShapes Go.WideShapes Go.ChangeAt Go.RowKit Go.Deep

structure Gt where
  k : Int
  a : Int
  b : Int
  c : Int
def eqG (x y : Gt) : Bool := x.k == y.k && x.a == y.a && x.b == y.b && x.c == y.c
def Gt.ok (g : Gt) : Prop := I64 g.k ∧ I64 g.a ∧ I64 g.b ∧ I64 g.c
abbrev Gt.val (x : Gt) : Value := .agg #[.int .i64 x.k, .int .i64 x.a, .int .i64 x.b, .int .i64 x.c]
def Gt.cells (x : Gt) : List Value := [.int .i64 x.k, .int .i64 x.a, .int .i64 x.b, .int .i64 x.c]
abbrev gcells (xs : List Gt) : List Value := xs.flatMap Gt.cells
theorem Gt.cells_len (x : Gt) : x.cells.length = 4 := rfl
theorem gate_at {w : World} {B n i : Nat} {A : Option Addr} {xs : List Gt} (h : Rd w B 4 A n (gcells xs)) (hi : i < n) :
    ∃ b o x, A = some ⟨b, o, none⟩ ∧ b < B ∧ xs[i]? = some x ∧ w.cell? ⟨b, o + i * 4, none⟩ = some (.int .i64 x.k) ∧ w.cell? ⟨b, o + i * 4 + 1, none⟩ = some (.int .i64 x.a) ∧ w.cell? ⟨b, o + i * 4 + 2, none⟩ = some (.int .i64 x.b) ∧ w.cell? ⟨b, o + i * 4 + 3, none⟩ = some (.int .i64 x.c) := by
  obtain ⟨b, o, x, rfl, hb, hx, hc⟩ := elem_at Gt.cells_len (by omega) h hi
  exact ⟨b, o, x, rfl, hb, hx, hc 0 _ rfl, hc 1 _ rfl, hc 2 _ rfl, hc 3 _ rfl⟩


theorem Tryd.cellsLGate : Tryd.prog.cellsOf 57 = 4 := by kernel_rfl
theorem open_lgate {H : Type} {enc : TypeId × Value → H} {w : World} {spare : Nat → Bool} {held : Bool} (n : Nat) (cs : List Value) (x : DataW H × List MemPlace) (h : DataW.trod enc Tryd.prog w 0 spare held n 57 cs = some x) :
    ∃ g : Gt, cs = g.cells ∧ g.ok := by
  obtain ⟨ys, n', _, _, hl, hyl, hf⟩ := DataW.trod_struct Tryd.underlying57 h
  rw [Tryd.cellsLGate] at hl
  obtain ⟨c0, c1, c2, c3, rfl⟩ := len4 hl
  obtain ⟨_, h0⟩ := field_at hf hyl 0 _ rfl 3 0 1 rfl rfl Tryd.cellsInt
  obtain ⟨_, h1⟩ := field_at hf hyl 1 _ rfl 3 1 1 rfl rfl Tryd.cellsInt
  obtain ⟨_, h2⟩ := field_at hf hyl 2 _ rfl 3 2 1 rfl rfl Tryd.cellsInt
  obtain ⟨_, h3⟩ := field_at hf hyl 3 _ rfl 3 3 1 rfl rfl Tryd.cellsInt
  obtain ⟨k, e0, i0⟩ := open_cell_int Tryd.underlying3 h0
  obtain ⟨a, e1, i1⟩ := open_cell_int Tryd.underlying3 h1
  obtain ⟨b, e2, i2⟩ := open_cell_int Tryd.underlying3 h2
  obtain ⟨c, e3, i3⟩ := open_cell_int Tryd.underlying3 h3
  injection e0 with e0; injection e1 with e1; injection e2 with e2; injection e3 with e3
  subst e0 e1 e2 e3
  exact ⟨⟨k, a, b, c⟩, rfl, i0, i1, i2, i3⟩
set_option maxRecDepth 100000 in
/-- An argument of type laws.Gate. -/
theorem open_lgateV {H : Type} {enc : TypeId × Value → H} {w : World} {spare : Nat → Bool} {held : Bool} {base : Nat} {v : Value} {d : DataW H} {p : List MemPlace} (hv : Value.okWide Tryd.prog w .any base 57 v)
    (h : DataW.Trod enc Tryd.prog w 0 spare held 57 v d p) : ∃ g : Gt, v = g.val ∧ g.ok := by
  obtain ⟨cs, rfl, hsz⟩ := okWide_struct Tryd.underlying57 hv
  obtain ⟨n, hn⟩ := h
  obtain ⟨g, e, hg⟩ := open_lgate _ _ _ hn
  refine ⟨g, ?_, hg⟩
  obtain ⟨l⟩ := cs
  have e' : l = g.cells := e
  rw [e']; rfl
set_option maxRecDepth 100000 in
theorem toGate_ex (x : Gt) (w : World) :
    Calls Tryd.prog 42 #[x.val] w fun e w' => e = .returned x.val ∧ w' = ((w.alloc (.cells #[.int .i64 x.k, .int .i64 x.a, .int .i64 x.b, .int .i64 x.c] 57)).alloc (.cells #[.int .i64 x.k, .int .i64 x.a, .int .i64 x.b, .int .i64 x.c] 42)).alloc (.cells #[.int .i64 x.k, .int .i64 x.a, .int .i64 x.b, .int .i64 x.c] 42) := by
  go_enter Tryd.func42, Tryd.ntmps42
  go_wp2
  exact bodyPost_ret (v := .agg #[.int .i64 x.k, .int .i64 x.a, .int .i64 x.b, .int .i64 x.c]) (by simp [results, Tryd.results42, go_sem]) rfl ⟨rfl, rfl⟩
set_option maxRecDepth 100000 in
theorem toGate_any (x : Gt) (w : World) :
    Calls Tryd.prog 42 #[x.val] w fun e w' => e = .returned x.val ∧ Ext w w' := by
  go_enter Tryd.func42, Tryd.ntmps42
  go_wp2
  exact bodyPost_ret (v := .agg #[.int .i64 x.k, .int .i64 x.a, .int .i64 x.b, .int .i64 x.c]) (by simp [results, Tryd.results42, go_sem]) rfl ⟨rfl, (by repeat (first | exact Ext.refl _ | assumption | refine Ext.alloc ?_ _ | refine Ext.drewN ?_ _ | refine Ext.drew ?_))⟩

theorem Tryd.infoGate : (Tryd.prog.info? 42).map (fun i => (i.zero, i.size, i.bytes)) = some (some (.agg #[.int .i64 0, .int .i64 0, .int .i64 0, .int .i64 0]), 4, 32) := by kernel_rfl
theorem Gt.one (xs : List Gt) : ∀ u ∈ gcells xs, u.oneCell' = true := by
  intro u hu
  obtain ⟨x, _, hx⟩ := List.mem_flatMap.1 hu
  simp [Gt.cells] at hx
  rcases hx with rfl | rfl | rfl | rfl <;> rfl
set_option maxRecDepth 100000 in
set_option maxHeartbeats 1000000 in
theorem eqGate_any (x y : Gt) (w : World) :
    Calls Tryd.prog 51 #[x.val, y.val] w fun e w' => e = .returned (.bool (eqG x y)) ∧ Ext w w' := by
  go_enter Tryd.func51, Tryd.ntmps51
  go_wp2
  all_goals
    go_ret
    exact ⟨ret_bool (by simp_all [eqG]), (by repeat (first | exact Ext.refl _ | assumption | refine Ext.alloc ?_ _ | refine Ext.drewN ?_ _ | refine Ext.drew ?_))⟩

theorem eqG_self (x : Gt) : eqG x x = true := by simp [eqG]
end Go.Proofs.YtaiaaomjphnbfaaDoor
