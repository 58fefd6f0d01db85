/-
  DERIVED. GIVEN WITH THE SEED: THE CARDS: each row of YtigikpefcbcgkaaGreatDoorRows.lean that lists a variable, with what it lists TIED to the program's text (the seventh form; the later family's looks); each row that meets fmt, with fmt's text TOLD by the authors' own Lean function (tested against real Go, not proved from fmt's source: count such statements apart). THE CARD IS WHAT COUNTS. Prove the row's statement (the work); the ties are given (YtigikpefcbcgkaaGreatDoorTie.lean); close each card by the builder's one call (the guide's Derived/Test/ToyasCard.lean, 'card_holds'). Laid BY PROGRAM, IN A SANDBOX (cutbox-door.mjs). By AI agents, Wed Nov 11 2026. No macro, syntax, notation, axiom, sorry.
-/
import Derived.Test.YtigikpefcbcgkaaGreatDoorRows
import GoSem.ClaimSeven
namespace Go.Proofs.YtigikpefcbcgkaaGreatDoor
namespace Rows

/-- THE TIED CARD OF 'dendronlaw31.FrontRuns'. -/
def frontRunsCard : Claim7 := { stood := { row := frontRunsRow, standIns := [], harness := (true, "d3779ce88c7f2dd930003c20928fe5fb8b5c61283bd09d97c5d7e5d48b72fcd6"), looks := false }, kinds := [], alts := [], laidByText := true, laidKinds := [.data, .data, .pinned], laidTests := true, laidLooks := .later }
def FrontRunsCardSaid : Prop := Claim7.holds Tryz.pinned (.plain (OpenSpec.ofChange frontRunsSpec)) frontRunsCard

/-- THE TIED CARD OF 'dendronlaw31.FrontNews'. -/
def frontNewsCard : Claim7 := { stood := { row := frontNewsRow, standIns := [], harness := (true, "d3779ce88c7f2dd930003c20928fe5fb8b5c61283bd09d97c5d7e5d48b72fcd6"), looks := false }, kinds := [], alts := [], laidByText := true, laidKinds := [.data, .data, .pinned], laidTests := true, laidLooks := .later }
def FrontNewsCardSaid : Prop := Claim7.holds Tryz.pinned (.plain (OpenSpec.ofChange frontNewsSpec)) frontNewsCard

/-- THE TIED CARD OF 'dendronlaw31.FrontLines'. -/
def frontLinesCard : Claim7 := { stood := { row := frontLinesRow, standIns := [], harness := (true, "d3779ce88c7f2dd930003c20928fe5fb8b5c61283bd09d97c5d7e5d48b72fcd6"), looks := false }, kinds := [], alts := [], laidByText := true, laidKinds := [.data, .data, .pinned], laidTests := true, laidLooks := .later }
def FrontLinesCardSaid : Prop := Claim7.holds Tryz.pinned (.plain (OpenSpec.ofChange frontLinesSpec)) frontLinesCard

/-- THE TIED CARD OF 'dendronlaw31.FrontAudits'. -/
def frontAuditsCard : Claim7 := { stood := { row := frontAuditsRow, standIns := [], harness := (true, "d3779ce88c7f2dd930003c20928fe5fb8b5c61283bd09d97c5d7e5d48b72fcd6"), looks := false }, kinds := [], alts := [], laidByText := true, laidKinds := [.data, .data, .pinned], laidTests := true, laidLooks := .later }
def FrontAuditsCardSaid : Prop := Claim7.holds Tryz.pinned (.plain (OpenSpec.ofChange frontAuditsSpec)) frontAuditsCard

/-- THE SECOND FORM's CARD OF 'dendronlaw31.FrontRuns'. -/
def frontRunsUptoCard : Claim7 := { stood := { row := frontRunsUptoRow, standIns := [], harness := (true, "d3779ce88c7f2dd930003c20928fe5fb8b5c61283bd09d97c5d7e5d48b72fcd6"), looks := false }, kinds := [], alts := [], laidByText := true, laidKinds := [.data, .data, .pinned], laidTests := true, laidLooks := .later }
def FrontRunsUptoCardSaid : Prop := Claim7.holds Tryz.pinned (.plain (OpenSpec.upto frontRunsSpec)) frontRunsUptoCard

/-- THE SECOND FORM's CARD OF 'dendronlaw31.FrontNews'. -/
def frontNewsUptoCard : Claim7 := { stood := { row := frontNewsUptoRow, standIns := [], harness := (true, "d3779ce88c7f2dd930003c20928fe5fb8b5c61283bd09d97c5d7e5d48b72fcd6"), looks := false }, kinds := [], alts := [], laidByText := true, laidKinds := [.data, .data, .pinned], laidTests := true, laidLooks := .later }
def FrontNewsUptoCardSaid : Prop := Claim7.holds Tryz.pinned (.plain (OpenSpec.upto frontNewsSpec)) frontNewsUptoCard

/-- THE SECOND FORM's CARD OF 'dendronlaw31.FrontLines'. -/
def frontLinesUptoCard : Claim7 := { stood := { row := frontLinesUptoRow, standIns := [], harness := (true, "d3779ce88c7f2dd930003c20928fe5fb8b5c61283bd09d97c5d7e5d48b72fcd6"), looks := false }, kinds := [], alts := [], laidByText := true, laidKinds := [.data, .data, .pinned], laidTests := true, laidLooks := .later }
def FrontLinesUptoCardSaid : Prop := Claim7.holds Tryz.pinned (.plain (OpenSpec.upto frontLinesSpec)) frontLinesUptoCard

/-- THE SECOND FORM's CARD OF 'dendronlaw31.FrontAudits'. -/
def frontAuditsUptoCard : Claim7 := { stood := { row := frontAuditsUptoRow, standIns := [], harness := (true, "d3779ce88c7f2dd930003c20928fe5fb8b5c61283bd09d97c5d7e5d48b72fcd6"), looks := false }, kinds := [], alts := [], laidByText := true, laidKinds := [.data, .data, .pinned], laidTests := true, laidLooks := .later }
def FrontAuditsUptoCardSaid : Prop := Claim7.holds Tryz.pinned (.plain (OpenSpec.upto frontAuditsSpec)) frontAuditsUptoCard
end Rows
end Go.Proofs.YtigikpefcbcgkaaGreatDoor
