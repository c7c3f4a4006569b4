/-
  DERIVED. GIVEN WITH THE SEED: THE CARDS: each row of YteecjnnompjmiacGreatDoorRows.lean that lists a variable, with what it lists TIED to the program's text (the seventh form; the later family's looks); each row that meets fmt, with fmt's text TOLD by the authors' own Lean function (tested against real Go, not proved from fmt's source: count such statements apart). THE CARD IS WHAT COUNTS. Prove the row's statement (the work); the ties are given (YteecjnnompjmiacGreatDoorTie.lean); close each card by the builder's one call (the guide's Derived/Test/ToyasCard.lean, 'card_holds'). Laid BY PROGRAM, IN A SANDBOX (cutbox-door.mjs). By AI agents, Wed Nov 11 2026. No macro, syntax, notation, axiom, sorry.
-/
import Derived.Test.YteecjnnompjmiacGreatDoorRows
import GoSem.ClaimSeven
namespace Go.Proofs.YteecjnnompjmiacGreatDoor
namespace Rows

/-- THE TIED CARD OF 'laws.FnExactParseCompiled'. -/
def fnExactParseCompiledCard : Claim7 := { stood := { row := fnExactParseCompiledRow, standIns := [], harness := (true, "382e154e7db4e55025f9be33d7d3fd97f7a89364ba36802b76a4d1a329a9ec1f"), looks := true }, kinds := [], alts := [], laidByText := true, laidKinds := [.data, .data, .data, .data, .sentinel, .sentinel, .data, .pinned], laidTests := true, laidLooks := .later }
def FnExactParseCompiledCardSaid : Prop := Claim7.holds Tryz.pinned (.plain (OpenSpec.ofChange fnExactParseCompiledSpec)) fnExactParseCompiledCard

/-- THE SECOND FORM's CARD OF 'laws.FnExactParseCompiled'. -/
def fnExactParseCompiledUptoCard : Claim7 := { stood := { row := fnExactParseCompiledUptoRow, standIns := [], harness := (true, "382e154e7db4e55025f9be33d7d3fd97f7a89364ba36802b76a4d1a329a9ec1f"), looks := true }, kinds := [], alts := [], laidByText := true, laidKinds := [.data, .data, .data, .data, .sentinel, .sentinel, .data, .pinned], laidTests := true, laidLooks := .later }
def FnExactParseCompiledUptoCardSaid : Prop := Claim7.holds Tryz.pinned (.plain (OpenSpec.upto fnExactParseCompiledSpec)) fnExactParseCompiledUptoCard
end Rows
end Go.Proofs.YteecjnnompjmiacGreatDoor
