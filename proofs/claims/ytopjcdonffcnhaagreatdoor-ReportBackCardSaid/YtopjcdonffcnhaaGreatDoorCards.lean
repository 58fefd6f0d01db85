/-
  DERIVED. GIVEN WITH THE SEED: THE CARDS: each row of YtopjcdonffcnhaaGreatDoorRows.lean that lists a variable, with what it lists TIED to the program's text (the seventh form; the later family's looks); each row that meets fmt, with fmt's text TOLD by the authors' own Lean function (tested against real Go, not proved from fmt's source: count such statements apart). THE CARD IS WHAT COUNTS. Prove the row's statement (the work); the ties are given (YtopjcdonffcnhaaGreatDoorTie.lean); close each card by the builder's one call (the guide's Derived/Test/ToyasCard.lean, 'card_holds'). Laid BY PROGRAM, IN A SANDBOX (cutbox-door.mjs). By AI agents, Wed Nov 11 2026. No macro, syntax, notation, axiom, sorry.
-/
import Derived.Test.YtopjcdonffcnhaaGreatDoorRows
import GoSem.ClaimSeven
namespace Go.Proofs.YtopjcdonffcnhaaGreatDoor
namespace Rows

/-- THE TIED CARD OF 'dendronlaw29.ReportReads'. -/
def reportReadsCard : Claim7 := { stood := { row := reportReadsRow, standIns := [], harness := (true, "ed78950a43fa191898929f7a021aae0b0fb7a808c9fbe8596cdb08c8c462c7a8"), looks := true }, kinds := [], alts := [], laidByText := true, laidKinds := [.data], laidTests := true, laidLooks := .later }
def ReportReadsCardSaid : Prop := Claim7.holds Tryz.pinned (.plain (OpenSpec.ofChange reportReadsSpec)) reportReadsCard

/-- THE TIED CARD OF 'dendronlaw29.ReportOnly'. -/
def reportOnlyCard : Claim7 := { stood := { row := reportOnlyRow, standIns := [], harness := (true, "ed78950a43fa191898929f7a021aae0b0fb7a808c9fbe8596cdb08c8c462c7a8"), looks := true }, kinds := [], alts := [], laidByText := true, laidKinds := [.data], laidTests := true, laidLooks := .later }
def ReportOnlyCardSaid : Prop := Claim7.holds Tryz.pinned (.plain (OpenSpec.ofChange reportOnlySpec)) reportOnlyCard

/-- THE TIED CARD OF 'dendronlaw29.ReportBack'. -/
def reportBackCard : Claim7 := { stood := { row := reportBackRow, standIns := [], harness := (true, "ed78950a43fa191898929f7a021aae0b0fb7a808c9fbe8596cdb08c8c462c7a8"), looks := true }, kinds := [], alts := [], laidByText := true, laidKinds := [.data], laidTests := true, laidLooks := .later }
def ReportBackCardSaid : Prop := Claim7.holds Tryz.pinned (.plain (OpenSpec.ofChange reportBackSpec)) reportBackCard

/-- THE SECOND FORM's CARD OF 'dendronlaw29.ReportReads'. -/
def reportReadsUptoCard : Claim7 := { stood := { row := reportReadsUptoRow, standIns := [], harness := (true, "ed78950a43fa191898929f7a021aae0b0fb7a808c9fbe8596cdb08c8c462c7a8"), looks := true }, kinds := [], alts := [], laidByText := true, laidKinds := [.data], laidTests := true, laidLooks := .later }
def ReportReadsUptoCardSaid : Prop := Claim7.holds Tryz.pinned (.plain (OpenSpec.upto reportReadsSpec)) reportReadsUptoCard

/-- THE SECOND FORM's CARD OF 'dendronlaw29.ReportOnly'. -/
def reportOnlyUptoCard : Claim7 := { stood := { row := reportOnlyUptoRow, standIns := [], harness := (true, "ed78950a43fa191898929f7a021aae0b0fb7a808c9fbe8596cdb08c8c462c7a8"), looks := true }, kinds := [], alts := [], laidByText := true, laidKinds := [.data], laidTests := true, laidLooks := .later }
def ReportOnlyUptoCardSaid : Prop := Claim7.holds Tryz.pinned (.plain (OpenSpec.upto reportOnlySpec)) reportOnlyUptoCard

/-- THE SECOND FORM's CARD OF 'dendronlaw29.ReportBack'. -/
def reportBackUptoCard : Claim7 := { stood := { row := reportBackUptoRow, standIns := [], harness := (true, "ed78950a43fa191898929f7a021aae0b0fb7a808c9fbe8596cdb08c8c462c7a8"), looks := true }, kinds := [], alts := [], laidByText := true, laidKinds := [.data], laidTests := true, laidLooks := .later }
def ReportBackUptoCardSaid : Prop := Claim7.holds Tryz.pinned (.plain (OpenSpec.upto reportBackSpec)) reportBackUptoCard
end Rows
end Go.Proofs.YtopjcdonffcnhaaGreatDoor
