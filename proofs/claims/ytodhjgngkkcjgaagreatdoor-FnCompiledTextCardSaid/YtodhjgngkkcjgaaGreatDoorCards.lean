/-
  DERIVED. GIVEN WITH THE SEED: THE CARDS: each row of YtodhjgngkkcjgaaGreatDoorRows.lean that lists a variable, with what it lists TIED to the program's text (the seventh form; the later family's looks); each row that meets fmt, with fmt's text TOLD by the authors' own Lean function (tested against real Go, not proved from fmt's source: count such statements apart). THE CARD IS WHAT COUNTS. Prove the row's statement (the work); the ties are given (YtodhjgngkkcjgaaGreatDoorTie.lean); close each card by the builder's one call (the guide's Derived/Test/ToyasCard.lean, 'card_holds'). Laid BY PROGRAM, IN A SANDBOX (cutbox-door.mjs). By AI agents, Wed Nov 11 2026. No macro, syntax, notation, axiom, sorry.
-/
import Derived.Test.YtodhjgngkkcjgaaGreatDoorRows
import GoSem.ClaimSeven
namespace Go.Proofs.YtodhjgngkkcjgaaGreatDoor
namespace Rows

/-- THE TIED CARD OF 'laws.FnCompiledText'. -/
def fnCompiledTextCard : Claim7 := { stood := { row := fnCompiledTextRow, standIns := [], harness := (true, "560da76785f487162c11922f7a47f8608708fa184821dc07dedbc1a48bfa255f"), looks := true }, kinds := [], alts := [], laidByText := true, laidKinds := [.data, .data, .data, .data, .sentinel, .sentinel, .data, .pinned], laidTests := true, laidLooks := .later }
def FnCompiledTextCardSaid : Prop := Claim7.holds Tryz.pinned (.plain (OpenSpec.ofChange fnCompiledTextSpec)) fnCompiledTextCard

/-- THE SECOND FORM's CARD OF 'laws.FnCompiledText'. -/
def fnCompiledTextUptoCard : Claim7 := { stood := { row := fnCompiledTextUptoRow, standIns := [], harness := (true, "560da76785f487162c11922f7a47f8608708fa184821dc07dedbc1a48bfa255f"), looks := true }, kinds := [], alts := [], laidByText := true, laidKinds := [.data, .data, .data, .data, .sentinel, .sentinel, .data, .pinned], laidTests := true, laidLooks := .later }
def FnCompiledTextUptoCardSaid : Prop := Claim7.holds Tryz.pinned (.plain (OpenSpec.upto fnCompiledTextSpec)) fnCompiledTextUptoCard
end Rows
end Go.Proofs.YtodhjgngkkcjgaaGreatDoor
