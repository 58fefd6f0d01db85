/-
  DERIVED. GIVEN WITH THE SEED: THE CARDS: each row of YtopjcdonffcnhaaDoorRows.lean that lists a variable, with what it lists TIED to the program's text (the seventh form; the later family's looks); each row that meets fmt, with fmt's text TOLD by the authors' own Lean function (tested against real Go, not proved from fmt's source: count such statements apart). THE CARD IS WHAT COUNTS. Prove the row's statement (the work); the ties are given (YtopjcdonffcnhaaDoorTie.lean); close each card by the builder's one call (the guide's Derived/Test/ToyasCard.lean, 'card_holds'). Laid BY PROGRAM, IN A SANDBOX (cutbox-door.mjs). By AI agents, Wed Nov 11 2026. No macro, syntax, notation, axiom, sorry.
-/
import Derived.Test.YtopjcdonffcnhaaDoorRows
import GoSem.ClaimSeven
namespace Go.Proofs.YtopjcdonffcnhaaDoor
namespace Rows

/-- THE TIED CARD OF 'dendronlaw29.ReportWrites'. -/
def reportWritesCard : Claim7 := { stood := { row := reportWritesRow, standIns := [], harness := (true, "0475075ad09f608cb341bc9e1810d4587ab88e9c108fa769ecf564a304a461f9"), looks := false }, kinds := [], alts := [], laidByText := true, laidKinds := [.data], laidTests := true, laidLooks := .later }
def ReportWritesCardSaid : Prop := Claim7.holds Tryd.pinned (.plain (OpenSpec.ofChange reportWritesSpec)) reportWritesCard

/-- THE TIED CARD OF 'dendronlaw29.ReportUnlike'. -/
def reportUnlikeCard : Claim7 := { stood := { row := reportUnlikeRow, standIns := [], harness := (true, "0475075ad09f608cb341bc9e1810d4587ab88e9c108fa769ecf564a304a461f9"), looks := false }, kinds := [], alts := [], laidByText := true, laidKinds := [.data], laidTests := true, laidLooks := .later }
def ReportUnlikeCardSaid : Prop := Claim7.holds Tryd.pinned (.plain (OpenSpec.ofChange reportUnlikeSpec)) reportUnlikeCard

/-- THE TIED CARD OF 'dendronlaw29.ReportFinds'. -/
def reportFindsCard : Claim7 := { stood := { row := reportFindsRow, standIns := [], harness := (true, "0475075ad09f608cb341bc9e1810d4587ab88e9c108fa769ecf564a304a461f9"), looks := false }, kinds := [], alts := [], laidByText := true, laidKinds := [.data], laidTests := true, laidLooks := .later }
def ReportFindsCardSaid : Prop := Claim7.holds Tryd.pinned (.plain (OpenSpec.ofChange reportFindsSpec)) reportFindsCard

/-- THE TIED CARD OF 'dendronlaw29.ReportFaults'. -/
def reportFaultsCard : Claim7 := { stood := { row := reportFaultsRow, standIns := [], harness := (true, "0475075ad09f608cb341bc9e1810d4587ab88e9c108fa769ecf564a304a461f9"), looks := false }, kinds := [], alts := [], laidByText := true, laidKinds := [.data], laidTests := true, laidLooks := .later }
def ReportFaultsCardSaid : Prop := Claim7.holds Tryd.pinned (.plain (OpenSpec.ofChange reportFaultsSpec)) reportFaultsCard

/-- THE SECOND FORM's CARD OF 'dendronlaw29.ReportWrites'. -/
def reportWritesUptoCard : Claim7 := { stood := { row := reportWritesUptoRow, standIns := [], harness := (true, "0475075ad09f608cb341bc9e1810d4587ab88e9c108fa769ecf564a304a461f9"), looks := false }, kinds := [], alts := [], laidByText := true, laidKinds := [.data], laidTests := true, laidLooks := .later }
def ReportWritesUptoCardSaid : Prop := Claim7.holds Tryd.pinned (.plain (OpenSpec.upto reportWritesSpec)) reportWritesUptoCard

/-- THE SECOND FORM's CARD OF 'dendronlaw29.ReportUnlike'. -/
def reportUnlikeUptoCard : Claim7 := { stood := { row := reportUnlikeUptoRow, standIns := [], harness := (true, "0475075ad09f608cb341bc9e1810d4587ab88e9c108fa769ecf564a304a461f9"), looks := false }, kinds := [], alts := [], laidByText := true, laidKinds := [.data], laidTests := true, laidLooks := .later }
def ReportUnlikeUptoCardSaid : Prop := Claim7.holds Tryd.pinned (.plain (OpenSpec.upto reportUnlikeSpec)) reportUnlikeUptoCard

/-- THE SECOND FORM's CARD OF 'dendronlaw29.ReportFinds'. -/
def reportFindsUptoCard : Claim7 := { stood := { row := reportFindsUptoRow, standIns := [], harness := (true, "0475075ad09f608cb341bc9e1810d4587ab88e9c108fa769ecf564a304a461f9"), looks := false }, kinds := [], alts := [], laidByText := true, laidKinds := [.data], laidTests := true, laidLooks := .later }
def ReportFindsUptoCardSaid : Prop := Claim7.holds Tryd.pinned (.plain (OpenSpec.upto reportFindsSpec)) reportFindsUptoCard

/-- THE SECOND FORM's CARD OF 'dendronlaw29.ReportFaults'. -/
def reportFaultsUptoCard : Claim7 := { stood := { row := reportFaultsUptoRow, standIns := [], harness := (true, "0475075ad09f608cb341bc9e1810d4587ab88e9c108fa769ecf564a304a461f9"), looks := false }, kinds := [], alts := [], laidByText := true, laidKinds := [.data], laidTests := true, laidLooks := .later }
def ReportFaultsUptoCardSaid : Prop := Claim7.holds Tryd.pinned (.plain (OpenSpec.upto reportFaultsSpec)) reportFaultsUptoCard
end Rows
end Go.Proofs.YtopjcdonffcnhaaDoor
