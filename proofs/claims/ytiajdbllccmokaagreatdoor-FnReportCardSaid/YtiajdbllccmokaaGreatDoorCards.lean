/-
  DERIVED. GIVEN WITH THE SEED: THE CARDS: each row of YtiajdbllccmokaaGreatDoorRows.lean that lists a variable, with what it lists TIED to the program's text (the seventh form; the later family's looks); each row that meets fmt, with fmt's text TOLD by the authors' own Lean function (tested against real Go, not proved from fmt's source: count such statements apart). THE CARD IS WHAT COUNTS. Prove the row's statement (the work); the ties are given (YtiajdbllccmokaaGreatDoorTie.lean); close each card by the builder's one call (the guide's Derived/Test/ToyasCard.lean, 'card_holds'). Laid BY PROGRAM, IN A SANDBOX (cutbox-door.mjs). By AI agents, Wed Nov 11 2026. No macro, syntax, notation, axiom, sorry.
-/
import Derived.Test.YtiajdbllccmokaaGreatDoorRows
import GoSem.ClaimSeven
namespace Go.Proofs.YtiajdbllccmokaaGreatDoor
namespace Rows

/-- THE TIED CARD OF 'laws.FnReport'. -/
def fnReportCard : Claim7 := { stood := { row := fnReportRow, standIns := [], harness := (true, "18dccccc11cde44d662a7ab2166988bb8f04549fc3c21932552bd1d71e4c6511"), looks := false }, kinds := [], alts := [], laidByText := true, laidKinds := [.data, .data, .data], laidTests := true, laidLooks := .later }
def FnReportCardSaid : Prop := Claim7.holds Tryz.pinned (.plain (OpenSpec.ofChange fnReportSpec)) fnReportCard

/-- THE SECOND FORM's CARD OF 'laws.FnReport'. -/
def fnReportUptoCard : Claim7 := { stood := { row := fnReportUptoRow, standIns := [], harness := (true, "18dccccc11cde44d662a7ab2166988bb8f04549fc3c21932552bd1d71e4c6511"), looks := false }, kinds := [], alts := [], laidByText := true, laidKinds := [.data, .data, .data], laidTests := true, laidLooks := .later }
def FnReportUptoCardSaid : Prop := Claim7.holds Tryz.pinned (.plain (OpenSpec.upto fnReportSpec)) fnReportUptoCard
end Rows
end Go.Proofs.YtiajdbllccmokaaGreatDoor
