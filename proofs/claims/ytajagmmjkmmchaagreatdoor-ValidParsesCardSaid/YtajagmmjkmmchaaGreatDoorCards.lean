/-
  DERIVED. GIVEN WITH THE SEED: THE CARDS: each row of YtajagmmjkmmchaaGreatDoorRows.lean that lists a variable, with what it lists TIED to the program's text (the seventh form; the later family's looks); each row that meets fmt, with fmt's text TOLD by the authors' own Lean function (tested against real Go, not proved from fmt's source: count such statements apart). THE CARD IS WHAT COUNTS. Prove the row's statement (the work); the ties are given (YtajagmmjkmmchaaGreatDoorTie.lean); close each card by the builder's one call (the guide's Derived/Test/ToyasCard.lean, 'card_holds'). Laid BY PROGRAM, IN A SANDBOX (cutbox-door.mjs). By AI agents, Wed Nov 11 2026. No macro, syntax, notation, axiom, sorry.
-/
import Derived.Test.YtajagmmjkmmchaaGreatDoorRows
import GoSem.ClaimSeven
namespace Go.Proofs.YtajagmmjkmmchaaGreatDoor
namespace Rows

/-- THE TIED CARD OF 'dendronlaw08.ValidParses'. -/
def validParsesCard : Claim7 := { stood := { row := validParsesRow, standIns := [], harness := (true, "1ef0a46e270550bcb60d0fd942f58c717c644094775a15361c5ce63c540c6cf5"), looks := false }, kinds := [], alts := [], laidByText := true, laidKinds := [.data], laidTests := true, laidLooks := .later }
def ValidParsesCardSaid : Prop := Claim7.holds Tryz.pinned (.plain (OpenSpec.ofChange validParsesSpec)) validParsesCard

/-- THE SECOND FORM's CARD OF 'dendronlaw08.ValidParses'. -/
def validParsesUptoCard : Claim7 := { stood := { row := validParsesUptoRow, standIns := [], harness := (true, "1ef0a46e270550bcb60d0fd942f58c717c644094775a15361c5ce63c540c6cf5"), looks := false }, kinds := [], alts := [], laidByText := true, laidKinds := [.data], laidTests := true, laidLooks := .later }
def ValidParsesUptoCardSaid : Prop := Claim7.holds Tryz.pinned (.plain (OpenSpec.upto validParsesSpec)) validParsesUptoCard
end Rows
end Go.Proofs.YtajagmmjkmmchaaGreatDoor
