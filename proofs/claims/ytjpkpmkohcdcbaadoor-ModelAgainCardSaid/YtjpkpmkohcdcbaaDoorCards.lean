/-
  DERIVED. GIVEN WITH THE SEED: THE CARDS: each row of YtjpkpmkohcdcbaaDoorRows.lean that lists a variable, with what it lists TIED to the program's text (the seventh form; the later family's looks); each row that meets fmt, with fmt's text TOLD by the authors' own Lean function (tested against real Go, not proved from fmt's source: count such statements apart). THE CARD IS WHAT COUNTS. Prove the row's statement (the work); the ties are given (YtjpkpmkohcdcbaaDoorTie.lean); close each card by the builder's one call (the guide's Derived/Test/ToyasCard.lean, 'card_holds'). Laid BY PROGRAM, IN A SANDBOX (cutbox-door.mjs). By AI agents, Wed Nov 11 2026. No macro, syntax, notation, axiom, sorry.
-/
import Derived.Test.YtjpkpmkohcdcbaaDoorRows
import GoSem.ClaimSeven
namespace Go.Proofs.YtjpkpmkohcdcbaaDoor
namespace Rows

/-- THE TIED CARD OF 'dendronlaw07.ModelWrites'. -/
def modelWritesCard : Claim7 := { stood := { row := modelWritesRow, standIns := [], harness := (true, "91c2c1746e1ee1270f8e76014ae0157358ec6857473c96be7e44d25fec968fee"), looks := false }, kinds := [], alts := [], laidByText := true, laidKinds := [.data], laidTests := true, laidLooks := .later }
def ModelWritesCardSaid : Prop := Claim7.holds Tryd.pinned (.plain (OpenSpec.ofChange modelWritesSpec)) modelWritesCard

/-- THE TIED CARD OF 'dendronlaw07.ModelTidies'. -/
def modelTidiesCard : Claim7 := { stood := { row := modelTidiesRow, standIns := [], harness := (true, "91c2c1746e1ee1270f8e76014ae0157358ec6857473c96be7e44d25fec968fee"), looks := false }, kinds := [], alts := [], laidByText := true, laidKinds := [.data], laidTests := true, laidLooks := .later }
def ModelTidiesCardSaid : Prop := Claim7.holds Tryd.pinned (.plain (OpenSpec.ofChange modelTidiesSpec)) modelTidiesCard

/-- THE TIED CARD OF 'dendronlaw07.ModelBack'. -/
def modelBackCard : Claim7 := { stood := { row := modelBackRow, standIns := [], harness := (true, "91c2c1746e1ee1270f8e76014ae0157358ec6857473c96be7e44d25fec968fee"), looks := false }, kinds := [], alts := [], laidByText := true, laidKinds := [.data], laidTests := true, laidLooks := .later }
def ModelBackCardSaid : Prop := Claim7.holds Tryd.pinned (.plain (OpenSpec.ofChange modelBackSpec)) modelBackCard

/-- THE TIED CARD OF 'dendronlaw07.ModelReads'. -/
def modelReadsCard : Claim7 := { stood := { row := modelReadsRow, standIns := [], harness := (true, "91c2c1746e1ee1270f8e76014ae0157358ec6857473c96be7e44d25fec968fee"), looks := false }, kinds := [], alts := [], laidByText := true, laidKinds := [.data], laidTests := true, laidLooks := .later }
def ModelReadsCardSaid : Prop := Claim7.holds Tryd.pinned (.plain (OpenSpec.ofChange modelReadsSpec)) modelReadsCard

/-- THE TIED CARD OF 'dendronlaw07.ModelAgain'. -/
def modelAgainCard : Claim7 := { stood := { row := modelAgainRow, standIns := [], harness := (true, "91c2c1746e1ee1270f8e76014ae0157358ec6857473c96be7e44d25fec968fee"), looks := false }, kinds := [], alts := [], laidByText := true, laidKinds := [.data], laidTests := true, laidLooks := .later }
def ModelAgainCardSaid : Prop := Claim7.holds Tryd.pinned (.plain (OpenSpec.ofChange modelAgainSpec)) modelAgainCard

/-- THE SECOND FORM's CARD OF 'dendronlaw07.ModelWrites'. -/
def modelWritesUptoCard : Claim7 := { stood := { row := modelWritesUptoRow, standIns := [], harness := (true, "91c2c1746e1ee1270f8e76014ae0157358ec6857473c96be7e44d25fec968fee"), looks := false }, kinds := [], alts := [], laidByText := true, laidKinds := [.data], laidTests := true, laidLooks := .later }
def ModelWritesUptoCardSaid : Prop := Claim7.holds Tryd.pinned (.plain (OpenSpec.upto modelWritesSpec)) modelWritesUptoCard

/-- THE SECOND FORM's CARD OF 'dendronlaw07.ModelTidies'. -/
def modelTidiesUptoCard : Claim7 := { stood := { row := modelTidiesUptoRow, standIns := [], harness := (true, "91c2c1746e1ee1270f8e76014ae0157358ec6857473c96be7e44d25fec968fee"), looks := false }, kinds := [], alts := [], laidByText := true, laidKinds := [.data], laidTests := true, laidLooks := .later }
def ModelTidiesUptoCardSaid : Prop := Claim7.holds Tryd.pinned (.plain (OpenSpec.upto modelTidiesSpec)) modelTidiesUptoCard

/-- THE SECOND FORM's CARD OF 'dendronlaw07.ModelBack'. -/
def modelBackUptoCard : Claim7 := { stood := { row := modelBackUptoRow, standIns := [], harness := (true, "91c2c1746e1ee1270f8e76014ae0157358ec6857473c96be7e44d25fec968fee"), looks := false }, kinds := [], alts := [], laidByText := true, laidKinds := [.data], laidTests := true, laidLooks := .later }
def ModelBackUptoCardSaid : Prop := Claim7.holds Tryd.pinned (.plain (OpenSpec.upto modelBackSpec)) modelBackUptoCard

/-- THE SECOND FORM's CARD OF 'dendronlaw07.ModelReads'. -/
def modelReadsUptoCard : Claim7 := { stood := { row := modelReadsUptoRow, standIns := [], harness := (true, "91c2c1746e1ee1270f8e76014ae0157358ec6857473c96be7e44d25fec968fee"), looks := false }, kinds := [], alts := [], laidByText := true, laidKinds := [.data], laidTests := true, laidLooks := .later }
def ModelReadsUptoCardSaid : Prop := Claim7.holds Tryd.pinned (.plain (OpenSpec.upto modelReadsSpec)) modelReadsUptoCard

/-- THE SECOND FORM's CARD OF 'dendronlaw07.ModelAgain'. -/
def modelAgainUptoCard : Claim7 := { stood := { row := modelAgainUptoRow, standIns := [], harness := (true, "91c2c1746e1ee1270f8e76014ae0157358ec6857473c96be7e44d25fec968fee"), looks := false }, kinds := [], alts := [], laidByText := true, laidKinds := [.data], laidTests := true, laidLooks := .later }
def ModelAgainUptoCardSaid : Prop := Claim7.holds Tryd.pinned (.plain (OpenSpec.upto modelAgainSpec)) modelAgainUptoCard
end Rows
end Go.Proofs.YtjpkpmkohcdcbaaDoor
