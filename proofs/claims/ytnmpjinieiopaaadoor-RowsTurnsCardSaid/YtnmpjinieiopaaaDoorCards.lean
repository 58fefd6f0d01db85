/-
  DERIVED. GIVEN WITH THE SEED: THE CARDS: each row of YtnmpjinieiopaaaDoorRows.lean that lists a variable, with what it lists TIED to the program's text (the seventh form; the later family's looks); each row that meets fmt, with fmt's text TOLD by the authors' own Lean function (tested against real Go, not proved from fmt's source: count such statements apart). THE CARD IS WHAT COUNTS. Prove the row's statement (the work); the ties are given (YtnmpjinieiopaaaDoorTie.lean); close each card by the builder's one call (the guide's Derived/Test/ToyasCard.lean, 'card_holds'). Laid BY PROGRAM, IN A SANDBOX (cutbox-door.mjs). By AI agents, Wed Nov 11 2026. No macro, syntax, notation, axiom, sorry.
-/
import Derived.Test.YtnmpjinieiopaaaDoorRows
import GoSem.ClaimSeven
namespace Go.Proofs.YtnmpjinieiopaaaDoor
namespace Rows

/-- THE TIED CARD OF 'dendronlaw09.RowsReads'. -/
def rowsReadsCard : Claim7 := { stood := { row := rowsReadsRow, standIns := [], harness := (true, "afeecd45efabb0cd0b098daf6d07501e6b6ea67ec6eaf6a32bbab22257307d6c"), looks := false }, kinds := [], alts := [], laidByText := true, laidKinds := [.data], laidTests := true, laidLooks := .later }
def RowsReadsCardSaid : Prop := Claim7.holds Tryd.pinned (.plain (OpenSpec.ofChange rowsReadsSpec)) rowsReadsCard

/-- THE TIED CARD OF 'dendronlaw09.RowsSplits'. -/
def rowsSplitsCard : Claim7 := { stood := { row := rowsSplitsRow, standIns := [], harness := (true, "afeecd45efabb0cd0b098daf6d07501e6b6ea67ec6eaf6a32bbab22257307d6c"), looks := false }, kinds := [], alts := [], laidByText := true, laidKinds := [.data], laidTests := true, laidLooks := .later }
def RowsSplitsCardSaid : Prop := Claim7.holds Tryd.pinned (.plain (OpenSpec.ofChange rowsSplitsSpec)) rowsSplitsCard

/-- THE TIED CARD OF 'dendronlaw09.RowsTurns'. -/
def rowsTurnsCard : Claim7 := { stood := { row := rowsTurnsRow, standIns := [], harness := (true, "afeecd45efabb0cd0b098daf6d07501e6b6ea67ec6eaf6a32bbab22257307d6c"), looks := false }, kinds := [], alts := [], laidByText := true, laidKinds := [.data], laidTests := true, laidLooks := .later }
def RowsTurnsCardSaid : Prop := Claim7.holds Tryd.pinned (.plain (OpenSpec.ofChange rowsTurnsSpec)) rowsTurnsCard

/-- THE TIED CARD OF 'dendronlaw09.RowsSames'. -/
def rowsSamesCard : Claim7 := { stood := { row := rowsSamesRow, standIns := [], harness := (true, "afeecd45efabb0cd0b098daf6d07501e6b6ea67ec6eaf6a32bbab22257307d6c"), looks := false }, kinds := [], alts := [], laidByText := true, laidKinds := [.data], laidTests := true, laidLooks := .later }
def RowsSamesCardSaid : Prop := Claim7.holds Tryd.pinned (.plain (OpenSpec.ofChange rowsSamesSpec)) rowsSamesCard

/-- THE TIED CARD OF 'dendronlaw09.RowsCells'. -/
def rowsCellsCard : Claim7 := { stood := { row := rowsCellsRow, standIns := [], harness := (true, "afeecd45efabb0cd0b098daf6d07501e6b6ea67ec6eaf6a32bbab22257307d6c"), looks := false }, kinds := [], alts := [], laidByText := true, laidKinds := [.data], laidTests := true, laidLooks := .later }
def RowsCellsCardSaid : Prop := Claim7.holds Tryd.pinned (.plain (OpenSpec.ofChange rowsCellsSpec)) rowsCellsCard

/-- THE SECOND FORM's CARD OF 'dendronlaw09.RowsReads'. -/
def rowsReadsUptoCard : Claim7 := { stood := { row := rowsReadsUptoRow, standIns := [], harness := (true, "afeecd45efabb0cd0b098daf6d07501e6b6ea67ec6eaf6a32bbab22257307d6c"), looks := false }, kinds := [], alts := [], laidByText := true, laidKinds := [.data], laidTests := true, laidLooks := .later }
def RowsReadsUptoCardSaid : Prop := Claim7.holds Tryd.pinned (.plain (OpenSpec.upto rowsReadsSpec)) rowsReadsUptoCard

/-- THE SECOND FORM's CARD OF 'dendronlaw09.RowsSplits'. -/
def rowsSplitsUptoCard : Claim7 := { stood := { row := rowsSplitsUptoRow, standIns := [], harness := (true, "afeecd45efabb0cd0b098daf6d07501e6b6ea67ec6eaf6a32bbab22257307d6c"), looks := false }, kinds := [], alts := [], laidByText := true, laidKinds := [.data], laidTests := true, laidLooks := .later }
def RowsSplitsUptoCardSaid : Prop := Claim7.holds Tryd.pinned (.plain (OpenSpec.upto rowsSplitsSpec)) rowsSplitsUptoCard

/-- THE SECOND FORM's CARD OF 'dendronlaw09.RowsTurns'. -/
def rowsTurnsUptoCard : Claim7 := { stood := { row := rowsTurnsUptoRow, standIns := [], harness := (true, "afeecd45efabb0cd0b098daf6d07501e6b6ea67ec6eaf6a32bbab22257307d6c"), looks := false }, kinds := [], alts := [], laidByText := true, laidKinds := [.data], laidTests := true, laidLooks := .later }
def RowsTurnsUptoCardSaid : Prop := Claim7.holds Tryd.pinned (.plain (OpenSpec.upto rowsTurnsSpec)) rowsTurnsUptoCard

/-- THE SECOND FORM's CARD OF 'dendronlaw09.RowsSames'. -/
def rowsSamesUptoCard : Claim7 := { stood := { row := rowsSamesUptoRow, standIns := [], harness := (true, "afeecd45efabb0cd0b098daf6d07501e6b6ea67ec6eaf6a32bbab22257307d6c"), looks := false }, kinds := [], alts := [], laidByText := true, laidKinds := [.data], laidTests := true, laidLooks := .later }
def RowsSamesUptoCardSaid : Prop := Claim7.holds Tryd.pinned (.plain (OpenSpec.upto rowsSamesSpec)) rowsSamesUptoCard

/-- THE SECOND FORM's CARD OF 'dendronlaw09.RowsCells'. -/
def rowsCellsUptoCard : Claim7 := { stood := { row := rowsCellsUptoRow, standIns := [], harness := (true, "afeecd45efabb0cd0b098daf6d07501e6b6ea67ec6eaf6a32bbab22257307d6c"), looks := false }, kinds := [], alts := [], laidByText := true, laidKinds := [.data], laidTests := true, laidLooks := .later }
def RowsCellsUptoCardSaid : Prop := Claim7.holds Tryd.pinned (.plain (OpenSpec.upto rowsCellsSpec)) rowsCellsUptoCard
end Rows
end Go.Proofs.YtnmpjinieiopaaaDoor
