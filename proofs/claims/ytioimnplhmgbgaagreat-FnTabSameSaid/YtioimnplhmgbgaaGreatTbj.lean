/-
 Helper text (no claim of its own): a gate on a tableau: plain facts. Printed by gen_tc.py.
-/
import Derived.Test.YtioimnplhmgbgaaGreatTbd
import Derived.Test.YtioimnplhmgbgaaGreatCjp
namespace Go.Proofs.YtioimnplhmgbgaaGreat
open Go.ChangeShapes Go.WideShapes Go.ChangeAt Go.RowKit Go.Deep
set_option linter.unusedVariables false
theorem tabG_no {n : Int} {rs : List Pa} {g : Gt} (h : vTab n rs = false) : tabG n rs g = none := by unfold tabG; rw [h]; rfl
theorem tabG_bad {n : Int} {rs : List Pa} {g : Gt} {k : Nat} {p : Pa} (hp : rs[k]? = some p) (h : cjOk p g = false) : tabG n rs g = none := by
 unfold tabG
 have : rs.all (fun p => cjOk p g) = false := by
  rw [List.all_eq_false]
  exact ⟨p, List.mem_of_getElem? hp, by simp [h]⟩
 rw [this, Bool.and_false]; rfl
theorem tabG_good {n : Int} {rs : List Pa} {g : Gt} {k : Nat} (hv : vTab n rs = true) (hk : rs.length = k) (h : (rs.take k).all (fun p => cjOk p g) = true) : tabG n rs g = some ((rs.take k).map fun p => cj p g) := by
 subst hk
 rw [List.take_length] at h ⊢
 unfold tabG; rw [hv, h]; rfl
theorem vTab_len {n : Int} {rs : List Pa} (h : vTab n rs = true) : (1 ≤ n ∧ n ≤ 4) ∧ (rs.length : Int) = 2 * n := by
 unfold vTab at h
 simp only [Bool.and_eq_true, decide_eq_true_eq, beq_iff_eq] at h
 exact ⟨⟨h.1.1.1, h.1.1.2⟩, h.1.2⟩
theorem map_snoc {α β : Type} (f : α → β) {xs : List α} {k : Nat} {x : α} (h : xs[k]? = some x) : (xs.take (k + 1)).map f = (xs.take k).map f ++ [f x] := by
 rw [List.take_add_one, h, List.map_append]; rfl
/-- What stands ahead of the tableau that is built. -/
def AG (w W : World) (A : Option Addr) (l c : Nat) (n : Int) (g : Gt) (q : Nat) : Prop :=
 Blk W w.heap.size 31 #[.int .i64 n, .slice A l c] ∧ Blk W (w.heap.size + 1) 52 #[.int .i64 g.k, .int .i64 g.a, .int .i64 g.b, .int .i64 g.c] ∧ Blk W (w.heap.size + 2) 31 #[.int .i64 0, .slice none 0 0] ∧ w.heap.size + 3 ≤ q
theorem AG.left {w W W' : World} {A : Option Addr} {l c q : Nat} {n : Int} {g : Gt} (h : AG w W A l c n g q) (hb : ∀ (k t : Nat) (cs : Array Value), k < q → Blk W k t cs → Blk W' k t cs) : AG w W' A l c n g q :=
 ⟨hb _ _ _ (by have := h.2.2.2; omega) h.1, hb _ _ _ (by have := h.2.2.2; omega) h.2.1, hb _ _ _ (by have := h.2.2.2; omega) h.2.2.1, h.2.2.2⟩
theorem AG.ext {w W W' : World} {A : Option Addr} {l c q : Nat} {n : Int} {g : Gt} (h : AG w W A l c n g q) (hx : Ext W W') : AG w W' A l c n g q := h.left (fun _ _ _ _ hb => hb.ext hx)
theorem tabRes_none {n : Int} {t : Option (List Pa)} {e : Ending} {w : World} (h : t = none) (he : e = .returned (.tuple #[.agg #[.int .i64 0, .slice none 0 0], .bool false])) : TabRes n t e w := by subst h; exact he
theorem tabRes_some {n : Int} {t : Option (List Pa)} {rs : List Pa} {e : Ending} {w : World} {v : Value} (h : t = some rs) (he : e = .returned (.tuple #[v, .bool true])) (ho : TabOut n rs v w) : TabRes n t e w := by subst h; exact ⟨v, he, ho⟩
end Go.Proofs.YtioimnplhmgbgaaGreat
