/-
  DERIVED. GIVEN WITH THE SEED: THE CARDS: each row of YtnmpjinieiopaaaGreatDoorRows.lean that lists a variable, with what it lists TIED to the program's text (the seventh form; the later family's looks); each row that meets fmt, with fmt's text TOLD by the authors' own Lean function (tested against real Go, not proved from fmt's source: count such statements apart). THE CARD IS WHAT COUNTS. Prove the row's statement (the work); the ties are given (YtnmpjinieiopaaaGreatDoorTie.lean); close each card by the builder's one call (the guide's Derived/Test/ToyasCard.lean, 'card_holds'). Laid BY PROGRAM, IN A SANDBOX (cutbox-door.mjs). By AI agents, Wed Nov 11 2026. No macro, syntax, notation, axiom, sorry.
-/
import Derived.Test.YtnmpjinieiopaaaGreatDoorRows
import GoSem.ClaimSeven
namespace Go.Proofs.YtnmpjinieiopaaaGreatDoor
namespace Rows

/-- THE TIED CARD OF 'dendronlaw09.RowsBack'. -/
def rowsBackCard : Claim7 := { stood := { row := rowsBackRow, standIns := [], harness := (true, "0af9a0bb5a6402e0d7f1bc48fcfebfde72c2254775fedec0cc45a7e11079f405"), looks := false }, kinds := [], alts := [], laidByText := true, laidKinds := [.data], laidTests := true, laidLooks := .later }
def RowsBackCardSaid : Prop := Claim7.holds Tryz.pinned (.plain (OpenSpec.ofChange rowsBackSpec)) rowsBackCard

/-- THE SECOND FORM's CARD OF 'dendronlaw09.RowsBack'. -/
def rowsBackUptoCard : Claim7 := { stood := { row := rowsBackUptoRow, standIns := [], harness := (true, "0af9a0bb5a6402e0d7f1bc48fcfebfde72c2254775fedec0cc45a7e11079f405"), looks := false }, kinds := [], alts := [], laidByText := true, laidKinds := [.data], laidTests := true, laidLooks := .later }
def RowsBackUptoCardSaid : Prop := Claim7.holds Tryz.pinned (.plain (OpenSpec.upto rowsBackSpec)) rowsBackUptoCard
end Rows
end Go.Proofs.YtnmpjinieiopaaaGreatDoor
