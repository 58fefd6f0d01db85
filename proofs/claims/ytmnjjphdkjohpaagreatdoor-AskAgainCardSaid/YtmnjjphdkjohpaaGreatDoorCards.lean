/-
  DERIVED. GIVEN WITH THE SEED: THE CARDS: each row of YtmnjjphdkjohpaaGreatDoorRows.lean that lists a variable, with what it lists TIED to the program's text (the seventh form; the later family's looks); each row that meets fmt, with fmt's text TOLD by the authors' own Lean function (tested against real Go, not proved from fmt's source: count such statements apart). THE CARD IS WHAT COUNTS. Prove the row's statement (the work); the ties are given (YtmnjjphdkjohpaaGreatDoorTie.lean); close each card by the builder's one call (the guide's Derived/Test/ToyasCard.lean, 'card_holds'). Laid BY PROGRAM, IN A SANDBOX (cutbox-door.mjs). By AI agents, Wed Nov 11 2026. No macro, syntax, notation, axiom, sorry.
-/
import Derived.Test.YtmnjjphdkjohpaaGreatDoorRows
import GoSem.ClaimSeven
namespace Go.Proofs.YtmnjjphdkjohpaaGreatDoor
namespace Rows

/-- THE TIED CARD OF 'dendronlaw28.AskBack'. -/
def askBackCard : Claim7 := { stood := { row := askBackRow, standIns := [], harness := (true, "f8fb3922a768421f12c09596d938f6b82266eb70bbdbbcbd73ae42fe81f49f95"), looks := false }, kinds := [], alts := [], laidByText := true, laidKinds := [.data], laidTests := true, laidLooks := .later }
def AskBackCardSaid : Prop := Claim7.holds Tryz.pinned (.plain (OpenSpec.ofChange askBackSpec)) askBackCard

/-- THE TIED CARD OF 'dendronlaw28.AskAgain'. -/
def askAgainCard : Claim7 := { stood := { row := askAgainRow, standIns := [], harness := (true, "f8fb3922a768421f12c09596d938f6b82266eb70bbdbbcbd73ae42fe81f49f95"), looks := false }, kinds := [], alts := [], laidByText := true, laidKinds := [.data], laidTests := true, laidLooks := .later }
def AskAgainCardSaid : Prop := Claim7.holds Tryz.pinned (.plain (OpenSpec.ofChange askAgainSpec)) askAgainCard

/-- THE SECOND FORM's CARD OF 'dendronlaw28.AskBack'. -/
def askBackUptoCard : Claim7 := { stood := { row := askBackUptoRow, standIns := [], harness := (true, "f8fb3922a768421f12c09596d938f6b82266eb70bbdbbcbd73ae42fe81f49f95"), looks := false }, kinds := [], alts := [], laidByText := true, laidKinds := [.data], laidTests := true, laidLooks := .later }
def AskBackUptoCardSaid : Prop := Claim7.holds Tryz.pinned (.plain (OpenSpec.upto askBackSpec)) askBackUptoCard

/-- THE SECOND FORM's CARD OF 'dendronlaw28.AskAgain'. -/
def askAgainUptoCard : Claim7 := { stood := { row := askAgainUptoRow, standIns := [], harness := (true, "f8fb3922a768421f12c09596d938f6b82266eb70bbdbbcbd73ae42fe81f49f95"), looks := false }, kinds := [], alts := [], laidByText := true, laidKinds := [.data], laidTests := true, laidLooks := .later }
def AskAgainUptoCardSaid : Prop := Claim7.holds Tryz.pinned (.plain (OpenSpec.upto askAgainSpec)) askAgainUptoCard
end Rows
end Go.Proofs.YtmnjjphdkjohpaaGreatDoor
