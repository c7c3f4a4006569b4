/-
  Helper text (no claim of its own): what the walks need of the package-level variables, and that it stands behind whatever leaves the old blocks alone.
-/
import Derived.Test.YteecjnnompjmiacGreatDoorFim
import Derived.Test.YteecjnnompjmiacGreatDoorLst
import Derived.Test.YteecjnnompjmiacGreatDoorSb
namespace Go.Proofs.YteecjnnompjmiacGreatDoor
open Go.ChangeShapes Go.WideShapes Go.ChangeAt Go.RowKit Go.Deep
set_option linter.unusedVariables false
/-- A variable of an interface type holds a value of it. -/
def ErrOk (name : String) (w : World) : Prop := ∃ g v, Tryz.prog.globalNamed name = some g ∧ w.cell? ⟨g, 0, none⟩ = some v ∧ (v = .nilIface ∨ ∃ te pe, v = .iface te pe)
theorem ErrOk.ext {name : String} {w w' : World} (h : ErrOk name w) (hx : Ext w w') : ErrOk name w' := by
  obtain ⟨g, v, hg, hc, hv⟩ := h
  exact ⟨g, v, hg, (hx.cell (p := ⟨g, 0, none⟩) (World.block_lt_of_cell? _ _ hc)).trans hc, hv⟩
theorem errOk_of_var {name : String} {g : Nat} {tp : TypeId} {p : Value} {w : World} (hg : Tryz.prog.globalNamed name = some g) (hvar : w.var? Tryz.prog name = some #[.iface tp p]) : ErrOk name w :=
  ⟨g, .iface tp p, hg, by have h0 := World.var?_cell hg hvar 0; simpa using h0, .inr ⟨tp, p, rfl⟩⟩
structure PW (w : World) : Prop where
  gn : GN w
  pow : Pow w
  max : MaxOk w
  es : ErrOk "strconv.ErrSyntax" w
  er : ErrOk "strconv.ErrRange" w
theorem pow_ext {w w' : World} (h : Pow w) (hx : Ext w w') : Pow w' := h.ext hx _ (by kernel_rfl : Tryz.prog.globalNamed "internal/strconv.uint64pow10" = some 6)
theorem PW.ext {w w' : World} (h : PW w) (hx : Ext w w') : PW w' := ⟨h.gn.ext hx, pow_ext h.pow hx, h.max.ext hx, h.es.ext hx, h.er.ext hx⟩
theorem bytesWorld_ext (w : World) (e : TypeId) (s : ByteArray) : Ext w (Lib.bytesWorld w e s) := Lib.bytesWorld_below w e s
/-- strconv.Atoi at every text: a number and an error or none. -/
def AtoiEnd (e : Ending) : Prop := ∃ (n : Int) (er : Value), e = .returned (.tuple #[.int .i64 n, er]) ∧ -9223372036854775808 ≤ n ∧ n ≤ 9223372036854775807 ∧ (er = .nilIface ∨ ∃ t p, er = .iface t p)
theorem atoi_any (s : ByteArray) (hs : s.size ≤ 2000000000000) (w : World) (hw : PW w) : Calls Tryz.prog 66 #[.string s] w fun e w' => AtoiEnd e ∧ Ext w w' := by
  cases h : Lib.atoiAll s.data.toList
  case ok v =>
    obtain ⟨b0, b1⟩ := Lib.atoiAll_bounds h
    refine (Tryz.strconv_Atoi_ok s (by omega) v h w).mono ?_
    rintro e w' ⟨rfl, hw'⟩
    refine ⟨⟨v, .nilIface, rfl, b0, b1, .inl rfl⟩, ?_⟩
    rcases hw' with rfl | ⟨t, rfl⟩
    · exact Ext.refl _
    · exact bytesWorld_ext _ _ _
  case range =>
    obtain ⟨g, v, hg, hc, hv⟩ := hw.er
    obtain ⟨b0, b1⟩ := Lib.atoiSat_bounds s.data.toList
    refine (Tryz.strconv_Atoi_range s (by omega) h v w (glob_cell hg hc (by kernel_rfl)) hv).mono ?_
    rintro e w' ⟨N, rfl, _, _, hb⟩
    exact ⟨⟨_, _, rfl, b0, b1, .inr ⟨_, _, rfl⟩⟩, hb⟩
  obtain ⟨g, v, hg, hc, hv⟩ := hw.es
  refine (Tryz.strconv_Atoi_syntax s (by omega) h v w (glob_cell hg hc (by kernel_rfl)) hv).mono ?_
  rintro e w' ⟨N, rfl, _, _, hb⟩
  exact ⟨⟨0, _, rfl, by omega, by omega, .inr ⟨_, _, rfl⟩⟩, hb⟩
end Go.Proofs.YteecjnnompjmiacGreatDoor
