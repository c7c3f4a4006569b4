/-
  DERIVED. GIVEN WITH THE SEED: THE CARDS: each row of YtngpkboocpaikabDoorRows.lean that lists a variable, with what it lists TIED to the program's text (the seventh form; the later family's looks); each row that meets fmt, with fmt's text TOLD by the authors' own Lean function (tested against real Go, not proved from fmt's source: count such statements apart). THE CARD IS WHAT COUNTS. Prove the row's statement (the work); the ties are given (YtngpkboocpaikabDoorTie.lean); close each card by the builder's one call (the guide's Derived/Test/ToyasCard.lean, 'card_holds'). Laid BY PROGRAM, IN A SANDBOX (cutbox-door.mjs). By AI agents, Wed Nov 11 2026. No macro, syntax, notation, axiom, sorry.
-/
import Derived.Test.YtngpkboocpaikabDoorRows
import GoSem.ClaimSeven
namespace Go.Proofs.YtngpkboocpaikabDoor
namespace Rows

/-- THE TIED CARD OF 'laws.FnExactFormatReport'. -/
def fnExactFormatReportCard : Claim7 := { stood := { row := fnExactFormatReportRow, standIns := [], harness := (true, "e208a8753cecf910d6aea6f172fc92a22a0f478734a18d83a9d7af0a1e4ca8f6"), looks := false }, kinds := [], alts := [], laidByText := true, laidKinds := [.data, .data, .data], laidTests := true, laidLooks := .later }
def FnExactFormatReportCardSaid : Prop := Claim7.holds Tryd.pinned (.plain (OpenSpec.ofChange fnExactFormatReportSpec)) fnExactFormatReportCard

/-- THE SECOND FORM's CARD OF 'laws.FnExactFormatReport'. -/
def fnExactFormatReportUptoCard : Claim7 := { stood := { row := fnExactFormatReportUptoRow, standIns := [], harness := (true, "e208a8753cecf910d6aea6f172fc92a22a0f478734a18d83a9d7af0a1e4ca8f6"), looks := false }, kinds := [], alts := [], laidByText := true, laidKinds := [.data, .data, .data], laidTests := true, laidLooks := .later }
def FnExactFormatReportUptoCardSaid : Prop := Claim7.holds Tryd.pinned (.plain (OpenSpec.upto fnExactFormatReportSpec)) fnExactFormatReportUptoCard
end Rows
end Go.Proofs.YtngpkboocpaikabDoor
