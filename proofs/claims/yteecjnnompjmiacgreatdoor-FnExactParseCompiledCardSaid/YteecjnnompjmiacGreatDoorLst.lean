/-
  Helper text (no claim of its own): the names of the gates, as the program's variable holds them.
-/
import Derived.Test.YteecjnnompjmiacGreatDoorBase
import Derived.Lib.LaidU8
namespace Go.Proofs.YteecjnnompjmiacGreatDoor
open Go.ChangeShapes Go.WideShapes Go.ChangeAt Go.RowKit Go.Deep
set_option linter.unusedVariables false
set_option linter.unusedSimpArgs false
def strData (l : List (List UInt8)) : DataW Unit := .slice (l.map fun s => .lit (.string s)) []
theorem strs_of_reads {P : Program} {w : World} {name : String} {g : Nat} {t e : TypeId} {l : List (List UInt8)} (hn : P.globalNamed name = some g) (hy : (P.globals[g]?).map (·.type) = some t)
    (ht : P.underlying t = some (.slice e)) (he : P.underlying e = some .string) (hc : P.cellsOf e = 1) (hl : 0 < l.length) (h : Lib.VarReads P w name (strData l)) :
    ∃ R o c, w.cell? ⟨g, 0, none⟩ = some (.slice (some ⟨R, o, none⟩) l.length c) ∧ ∀ j, j < l.length → w.cell? ⟨R, o + j, none⟩ = some (.string ⟨(l.getD j []).toArray⟩) := by
  obtain ⟨g', t', cs, fuel, p, hg, hty, hvar, hd⟩ := h
  obtain rfl := Option.some.inj (hn.symm.trans hg)
  obtain rfl := Option.some.inj (hy.symm.trans hty)
  rcases DataW.trod_slice ht hd with ⟨_, hx⟩ | ⟨a, len, cap, el, rs, m, rfl, hcs, hx, _, hlc, _, hel, helem, hsp, _⟩
  · cases hx
  have e0 := congrArg Prod.fst hx
  simp only [strData, DataW.slice.injEq] at e0
  obtain ⟨eE, eR⟩ := e0
  have hlen : len = l.length := by
    have := congrArg List.length eE
    simp at this
    omega
  have hcell : ∀ i, i < l.length → w.cell? (a.add i) = some (.string ⟨(l.getD i []).toArray⟩) := by
    intro i hi
    have h1 := helem i (by omega)
    rw [hc] at h1
    obtain ⟨b, hb⟩ : ∃ b, el[i]? = some b := ⟨el[i]'(by omega), List.getElem?_eq_getElem (by omega)⟩
    rw [hb] at h1
    obtain ⟨ce, hce, hte⟩ := Option.bind_eq_some_iff.1 h1
    obtain ⟨z, hz, hbz, _⟩ := DataW.trod_string he hte
    have hb1 : b.1 = .lit (.string (l.getD i [])) := by
      have := congrArg (·[i]?) eE
      simp [hb, hi, List.getD] at this
      have e2 : l.getD i [] = l[i] := by simp [List.getD, List.getElem?_eq_getElem hi]
      rw [e2]
      exact this.symm
    rw [hbz] at hb1
    simp only [DataW.lit.injEq, Lit.string.injEq] at hb1
    obtain ⟨_, _, hcc⟩ := World.cells?_some hce
    have := hcc 0 (by omega)
    rw [hz] at this
    simp only [Nat.mul_one] at this
    have e1 : (a.add i).add 0 = a.add i := by simp [Addr.add]
    rw [e1] at this
    rw [this, ← hb1]
    rfl
  obtain ⟨R, o, sR⟩ := a
  obtain rfl : sR = none := by
    have h00 := hcell 0 hl
    have : (Addr.add ⟨R, o, sR⟩ 0) = ⟨R, o, sR⟩ := by simp [Addr.add]
    rw [this] at h00
    exact Go.Proofs.cell_spot h00
  refine ⟨R, o, cap, ?_, fun j hj => ?_⟩
  · rw [World.var?_cell hg hvar 0, ← Array.getElem?_toList, hcs, hlen]
    rfl
  · have := hcell j hj
    by_cases h0 : j = 0
    · subst h0
      simpa [Addr.add] using this
    · simpa [Addr.add, h0] using this
theorem lt_cell {w : World} {a : Addr} {v : Value} (h : w.cell? a = some v) : a.block < w.heap.size := by
  rcases Nat.lt_or_ge a.block w.heap.size with h' | h'
  · exact h'
  · unfold World.cell? at h
    rw [Array.getElem?_eq_none h'] at h
    cases h
def gnl : List (List UInt8) := [[], [120], [121], [122], [104], [115], [115, 100], [116], [116, 100], [99, 120], [99, 122], [115, 119, 97, 112], [99, 99, 120]]
/-- The variable gateNames holds the names. -/
def GN (w : World) : Prop := ∃ R o c, w.cell? ⟨0, 0, none⟩ = some (.slice (some ⟨R, o, none⟩) 13 c) ∧ ∀ j, j < 13 → w.cell? ⟨R, o + j, none⟩ = some (.string ⟨(gnl.getD j []).toArray⟩)
theorem GN.ext {w w' : World} (h : GN w) (hx : Ext w w') : GN w' := by
  obtain ⟨R, o, c, h1, h2⟩ := h
  exact ⟨R, o, c, (hx.cell (lt_cell h1)).trans h1, fun j hj => (hx.cell (lt_cell (h2 j hj))).trans (h2 j hj)⟩
theorem gn_of_reads {w : World} (h : Lib.VarReads Tryz.prog w "loop.example/g00506/impl.gateNames" (strData gnl)) : GN w :=
  strs_of_reads (g := 0) (by kernel_rfl) (by kernel_rfl) Tryz.underlying31 Tryz.underlying9 (by kernel_rfl) (by decide) h
end Go.Proofs.YteecjnnompjmiacGreatDoor
