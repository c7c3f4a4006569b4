/-
  DERIVED. GIVEN WITH THE SEED: THE CARDS: each row of YtaiaaomjphnbfaaDoorRows.lean that lists a variable, with what it lists TIED to the program's text (the seventh form; the later family's looks); each row that meets fmt, with fmt's text TOLD by the authors' own Lean function (tested against real Go, not proved from fmt's source: count such statements apart). THE CARD IS WHAT COUNTS. Prove the row's statement (the work); the ties are given (YtaiaaomjphnbfaaDoorTie.lean); close each card by the builder's one call (the guide's Derived/Test/ToyasCard.lean, 'card_holds'). Laid BY PROGRAM, IN A SANDBOX (cutbox-door.mjs). By AI agents, Wed Nov 11 2026. No macro, syntax, notation, axiom, sorry.
-/
import Derived.Test.YtaiaaomjphnbfaaDoorRows
import GoSem.ClaimSeven
namespace Go.Proofs.YtaiaaomjphnbfaaDoor
namespace Rows

/-- THE TIED CARD OF 'laws.FnExactFormatCompiled'. -/
def fnExactFormatCompiledCard : Claim7 := { stood := { row := fnExactFormatCompiledRow, standIns := [], harness := (true, "602b7905d4926290b094a8ffffc2dede4bc32577a0bc7b610b8d1415591b52eb"), looks := false }, kinds := [], alts := [], laidByText := true, laidKinds := [.data, .data, .data, .data], laidTests := true, laidLooks := .later }
def FnExactFormatCompiledCardSaid : Prop := Claim7.holds Tryd.pinned (.plain (OpenSpec.ofChange fnExactFormatCompiledSpec)) fnExactFormatCompiledCard

/-- THE SECOND FORM's CARD OF 'laws.FnExactFormatCompiled'. -/
def fnExactFormatCompiledUptoCard : Claim7 := { stood := { row := fnExactFormatCompiledUptoRow, standIns := [], harness := (true, "602b7905d4926290b094a8ffffc2dede4bc32577a0bc7b610b8d1415591b52eb"), looks := false }, kinds := [], alts := [], laidByText := true, laidKinds := [.data, .data, .data, .data], laidTests := true, laidLooks := .later }
def FnExactFormatCompiledUptoCardSaid : Prop := Claim7.holds Tryd.pinned (.plain (OpenSpec.upto fnExactFormatCompiledSpec)) fnExactFormatCompiledUptoCard
end Rows
end Go.Proofs.YtaiaaomjphnbfaaDoor
