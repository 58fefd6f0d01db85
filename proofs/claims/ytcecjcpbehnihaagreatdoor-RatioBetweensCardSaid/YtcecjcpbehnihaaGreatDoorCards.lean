/-
  DERIVED. GIVEN WITH THE SEED: THE CARDS: each row of YtcecjcpbehnihaaGreatDoorRows.lean that lists a variable, with what it lists TIED to the program's text (the seventh form; the later family's looks); each row that meets fmt, with fmt's text TOLD by the authors' own Lean function (tested against real Go, not proved from fmt's source: count such statements apart). THE CARD IS WHAT COUNTS. Prove the row's statement (the work); the ties are given (YtcecjcpbehnihaaGreatDoorTie.lean); close each card by the builder's one call (the guide's Derived/Test/ToyasCard.lean, 'card_holds'). Laid BY PROGRAM, IN A SANDBOX (cutbox-door.mjs). By AI agents, Wed Nov 11 2026. No macro, syntax, notation, axiom, sorry.
-/
import Derived.Test.YtcecjcpbehnihaaGreatDoorRows
import GoSem.ClaimSeven
namespace Go.Proofs.YtcecjcpbehnihaaGreatDoor
namespace Rows

/-- THE TIED CARD OF 'dendronlaw03.RatioMakes'. -/
def ratioMakesCard : Claim7 := { stood := { row := ratioMakesRow, standIns := [], harness := (true, "e8104d1947578af458a5f3a3f146165347cba02b168ca5353dadf4c9c655add8"), looks := false }, kinds := [], alts := [], laidByText := true, laidKinds := [.data], laidTests := true, laidLooks := .later }
def RatioMakesCardSaid : Prop := Claim7.holds Tryz.pinned (.plain (OpenSpec.ofChange ratioMakesSpec)) ratioMakesCard

/-- THE TIED CARD OF 'dendronlaw03.RatioRounds'. -/
def ratioRoundsCard : Claim7 := { stood := { row := ratioRoundsRow, standIns := [], harness := (true, "e8104d1947578af458a5f3a3f146165347cba02b168ca5353dadf4c9c655add8"), looks := false }, kinds := [], alts := [], laidByText := true, laidKinds := [.data], laidTests := true, laidLooks := .later }
def RatioRoundsCardSaid : Prop := Claim7.holds Tryz.pinned (.plain (OpenSpec.ofChange ratioRoundsSpec)) ratioRoundsCard

/-- THE TIED CARD OF 'dendronlaw03.RatioSimplest'. -/
def ratioSimplestCard : Claim7 := { stood := { row := ratioSimplestRow, standIns := [], harness := (true, "e8104d1947578af458a5f3a3f146165347cba02b168ca5353dadf4c9c655add8"), looks := false }, kinds := [], alts := [], laidByText := true, laidKinds := [.data], laidTests := true, laidLooks := .later }
def RatioSimplestCardSaid : Prop := Claim7.holds Tryz.pinned (.plain (OpenSpec.ofChange ratioSimplestSpec)) ratioSimplestCard

/-- THE TIED CARD OF 'dendronlaw03.RatioNears'. -/
def ratioNearsCard : Claim7 := { stood := { row := ratioNearsRow, standIns := [], harness := (true, "e8104d1947578af458a5f3a3f146165347cba02b168ca5353dadf4c9c655add8"), looks := false }, kinds := [], alts := [], laidByText := true, laidKinds := [.data], laidTests := true, laidLooks := .later }
def RatioNearsCardSaid : Prop := Claim7.holds Tryz.pinned (.plain (OpenSpec.ofChange ratioNearsSpec)) ratioNearsCard

/-- THE TIED CARD OF 'dendronlaw03.RatioReads'. -/
def ratioReadsCard : Claim7 := { stood := { row := ratioReadsRow, standIns := [], harness := (true, "e8104d1947578af458a5f3a3f146165347cba02b168ca5353dadf4c9c655add8"), looks := false }, kinds := [], alts := [], laidByText := true, laidKinds := [.data], laidTests := true, laidLooks := .later }
def RatioReadsCardSaid : Prop := Claim7.holds Tryz.pinned (.plain (OpenSpec.ofChange ratioReadsSpec)) ratioReadsCard

/-- THE TIED CARD OF 'dendronlaw03.RatioDecimals'. -/
def ratioDecimalsCard : Claim7 := { stood := { row := ratioDecimalsRow, standIns := [], harness := (true, "e8104d1947578af458a5f3a3f146165347cba02b168ca5353dadf4c9c655add8"), looks := false }, kinds := [], alts := [], laidByText := true, laidKinds := [.data], laidTests := true, laidLooks := .later }
def RatioDecimalsCardSaid : Prop := Claim7.holds Tryz.pinned (.plain (OpenSpec.ofChange ratioDecimalsSpec)) ratioDecimalsCard

/-- THE TIED CARD OF 'dendronlaw03.RatioTexts'. -/
def ratioTextsCard : Claim7 := { stood := { row := ratioTextsRow, standIns := [], harness := (true, "e8104d1947578af458a5f3a3f146165347cba02b168ca5353dadf4c9c655add8"), looks := false }, kinds := [], alts := [], laidByText := true, laidKinds := [.data], laidTests := true, laidLooks := .later }
def RatioTextsCardSaid : Prop := Claim7.holds Tryz.pinned (.plain (OpenSpec.ofChange ratioTextsSpec)) ratioTextsCard

/-- THE TIED CARD OF 'dendronlaw03.RatioSums'. -/
def ratioSumsCard : Claim7 := { stood := { row := ratioSumsRow, standIns := [], harness := (true, "e8104d1947578af458a5f3a3f146165347cba02b168ca5353dadf4c9c655add8"), looks := false }, kinds := [], alts := [], laidByText := true, laidKinds := [.data], laidTests := true, laidLooks := .later }
def RatioSumsCardSaid : Prop := Claim7.holds Tryz.pinned (.plain (OpenSpec.ofChange ratioSumsSpec)) ratioSumsCard

/-- THE TIED CARD OF 'dendronlaw03.RatioAll'. -/
def ratioAllCard : Claim7 := { stood := { row := ratioAllRow, standIns := [], harness := (true, "e8104d1947578af458a5f3a3f146165347cba02b168ca5353dadf4c9c655add8"), looks := false }, kinds := [], alts := [], laidByText := true, laidKinds := [.data], laidTests := true, laidLooks := .later }
def RatioAllCardSaid : Prop := Claim7.holds Tryz.pinned (.plain (OpenSpec.ofChange ratioAllSpec)) ratioAllCard

/-- THE TIED CARD OF 'dendronlaw03.RatioUnfolds'. -/
def ratioUnfoldsCard : Claim7 := { stood := { row := ratioUnfoldsRow, standIns := [], harness := (true, "e8104d1947578af458a5f3a3f146165347cba02b168ca5353dadf4c9c655add8"), looks := false }, kinds := [], alts := [], laidByText := true, laidKinds := [.data], laidTests := true, laidLooks := .later }
def RatioUnfoldsCardSaid : Prop := Claim7.holds Tryz.pinned (.plain (OpenSpec.ofChange ratioUnfoldsSpec)) ratioUnfoldsCard

/-- THE TIED CARD OF 'dendronlaw03.RatioForms'. -/
def ratioFormsCard : Claim7 := { stood := { row := ratioFormsRow, standIns := [], harness := (true, "e8104d1947578af458a5f3a3f146165347cba02b168ca5353dadf4c9c655add8"), looks := false }, kinds := [], alts := [], laidByText := true, laidKinds := [.data], laidTests := true, laidLooks := .later }
def RatioFormsCardSaid : Prop := Claim7.holds Tryz.pinned (.plain (OpenSpec.ofChange ratioFormsSpec)) ratioFormsCard

/-- THE TIED CARD OF 'dendronlaw03.RatioFolds'. -/
def ratioFoldsCard : Claim7 := { stood := { row := ratioFoldsRow, standIns := [], harness := (true, "e8104d1947578af458a5f3a3f146165347cba02b168ca5353dadf4c9c655add8"), looks := false }, kinds := [], alts := [], laidByText := true, laidKinds := [.data], laidTests := true, laidLooks := .later }
def RatioFoldsCardSaid : Prop := Claim7.holds Tryz.pinned (.plain (OpenSpec.ofChange ratioFoldsSpec)) ratioFoldsCard

/-- THE TIED CARD OF 'dendronlaw03.RatioBetweens'. -/
def ratioBetweensCard : Claim7 := { stood := { row := ratioBetweensRow, standIns := [], harness := (true, "e8104d1947578af458a5f3a3f146165347cba02b168ca5353dadf4c9c655add8"), looks := false }, kinds := [], alts := [], laidByText := true, laidKinds := [.data], laidTests := true, laidLooks := .later }
def RatioBetweensCardSaid : Prop := Claim7.holds Tryz.pinned (.plain (OpenSpec.ofChange ratioBetweensSpec)) ratioBetweensCard

/-- THE TIED CARD OF 'dendronlaw03.RatioPowers'. -/
def ratioPowersCard : Claim7 := { stood := { row := ratioPowersRow, standIns := [], harness := (true, "e8104d1947578af458a5f3a3f146165347cba02b168ca5353dadf4c9c655add8"), looks := false }, kinds := [], alts := [], laidByText := true, laidKinds := [.data], laidTests := true, laidLooks := .later }
def RatioPowersCardSaid : Prop := Claim7.holds Tryz.pinned (.plain (OpenSpec.ofChange ratioPowersSpec)) ratioPowersCard

/-- THE SECOND FORM's CARD OF 'dendronlaw03.RatioMakes'. -/
def ratioMakesUptoCard : Claim7 := { stood := { row := ratioMakesUptoRow, standIns := [], harness := (true, "e8104d1947578af458a5f3a3f146165347cba02b168ca5353dadf4c9c655add8"), looks := false }, kinds := [], alts := [], laidByText := true, laidKinds := [.data], laidTests := true, laidLooks := .later }
def RatioMakesUptoCardSaid : Prop := Claim7.holds Tryz.pinned (.plain (OpenSpec.upto ratioMakesSpec)) ratioMakesUptoCard

/-- THE SECOND FORM's CARD OF 'dendronlaw03.RatioRounds'. -/
def ratioRoundsUptoCard : Claim7 := { stood := { row := ratioRoundsUptoRow, standIns := [], harness := (true, "e8104d1947578af458a5f3a3f146165347cba02b168ca5353dadf4c9c655add8"), looks := false }, kinds := [], alts := [], laidByText := true, laidKinds := [.data], laidTests := true, laidLooks := .later }
def RatioRoundsUptoCardSaid : Prop := Claim7.holds Tryz.pinned (.plain (OpenSpec.upto ratioRoundsSpec)) ratioRoundsUptoCard

/-- THE SECOND FORM's CARD OF 'dendronlaw03.RatioSimplest'. -/
def ratioSimplestUptoCard : Claim7 := { stood := { row := ratioSimplestUptoRow, standIns := [], harness := (true, "e8104d1947578af458a5f3a3f146165347cba02b168ca5353dadf4c9c655add8"), looks := false }, kinds := [], alts := [], laidByText := true, laidKinds := [.data], laidTests := true, laidLooks := .later }
def RatioSimplestUptoCardSaid : Prop := Claim7.holds Tryz.pinned (.plain (OpenSpec.upto ratioSimplestSpec)) ratioSimplestUptoCard

/-- THE SECOND FORM's CARD OF 'dendronlaw03.RatioNears'. -/
def ratioNearsUptoCard : Claim7 := { stood := { row := ratioNearsUptoRow, standIns := [], harness := (true, "e8104d1947578af458a5f3a3f146165347cba02b168ca5353dadf4c9c655add8"), looks := false }, kinds := [], alts := [], laidByText := true, laidKinds := [.data], laidTests := true, laidLooks := .later }
def RatioNearsUptoCardSaid : Prop := Claim7.holds Tryz.pinned (.plain (OpenSpec.upto ratioNearsSpec)) ratioNearsUptoCard

/-- THE SECOND FORM's CARD OF 'dendronlaw03.RatioReads'. -/
def ratioReadsUptoCard : Claim7 := { stood := { row := ratioReadsUptoRow, standIns := [], harness := (true, "e8104d1947578af458a5f3a3f146165347cba02b168ca5353dadf4c9c655add8"), looks := false }, kinds := [], alts := [], laidByText := true, laidKinds := [.data], laidTests := true, laidLooks := .later }
def RatioReadsUptoCardSaid : Prop := Claim7.holds Tryz.pinned (.plain (OpenSpec.upto ratioReadsSpec)) ratioReadsUptoCard

/-- THE SECOND FORM's CARD OF 'dendronlaw03.RatioDecimals'. -/
def ratioDecimalsUptoCard : Claim7 := { stood := { row := ratioDecimalsUptoRow, standIns := [], harness := (true, "e8104d1947578af458a5f3a3f146165347cba02b168ca5353dadf4c9c655add8"), looks := false }, kinds := [], alts := [], laidByText := true, laidKinds := [.data], laidTests := true, laidLooks := .later }
def RatioDecimalsUptoCardSaid : Prop := Claim7.holds Tryz.pinned (.plain (OpenSpec.upto ratioDecimalsSpec)) ratioDecimalsUptoCard

/-- THE SECOND FORM's CARD OF 'dendronlaw03.RatioTexts'. -/
def ratioTextsUptoCard : Claim7 := { stood := { row := ratioTextsUptoRow, standIns := [], harness := (true, "e8104d1947578af458a5f3a3f146165347cba02b168ca5353dadf4c9c655add8"), looks := false }, kinds := [], alts := [], laidByText := true, laidKinds := [.data], laidTests := true, laidLooks := .later }
def RatioTextsUptoCardSaid : Prop := Claim7.holds Tryz.pinned (.plain (OpenSpec.upto ratioTextsSpec)) ratioTextsUptoCard

/-- THE SECOND FORM's CARD OF 'dendronlaw03.RatioSums'. -/
def ratioSumsUptoCard : Claim7 := { stood := { row := ratioSumsUptoRow, standIns := [], harness := (true, "e8104d1947578af458a5f3a3f146165347cba02b168ca5353dadf4c9c655add8"), looks := false }, kinds := [], alts := [], laidByText := true, laidKinds := [.data], laidTests := true, laidLooks := .later }
def RatioSumsUptoCardSaid : Prop := Claim7.holds Tryz.pinned (.plain (OpenSpec.upto ratioSumsSpec)) ratioSumsUptoCard

/-- THE SECOND FORM's CARD OF 'dendronlaw03.RatioAll'. -/
def ratioAllUptoCard : Claim7 := { stood := { row := ratioAllUptoRow, standIns := [], harness := (true, "e8104d1947578af458a5f3a3f146165347cba02b168ca5353dadf4c9c655add8"), looks := false }, kinds := [], alts := [], laidByText := true, laidKinds := [.data], laidTests := true, laidLooks := .later }
def RatioAllUptoCardSaid : Prop := Claim7.holds Tryz.pinned (.plain (OpenSpec.upto ratioAllSpec)) ratioAllUptoCard

/-- THE SECOND FORM's CARD OF 'dendronlaw03.RatioUnfolds'. -/
def ratioUnfoldsUptoCard : Claim7 := { stood := { row := ratioUnfoldsUptoRow, standIns := [], harness := (true, "e8104d1947578af458a5f3a3f146165347cba02b168ca5353dadf4c9c655add8"), looks := false }, kinds := [], alts := [], laidByText := true, laidKinds := [.data], laidTests := true, laidLooks := .later }
def RatioUnfoldsUptoCardSaid : Prop := Claim7.holds Tryz.pinned (.plain (OpenSpec.upto ratioUnfoldsSpec)) ratioUnfoldsUptoCard

/-- THE SECOND FORM's CARD OF 'dendronlaw03.RatioForms'. -/
def ratioFormsUptoCard : Claim7 := { stood := { row := ratioFormsUptoRow, standIns := [], harness := (true, "e8104d1947578af458a5f3a3f146165347cba02b168ca5353dadf4c9c655add8"), looks := false }, kinds := [], alts := [], laidByText := true, laidKinds := [.data], laidTests := true, laidLooks := .later }
def RatioFormsUptoCardSaid : Prop := Claim7.holds Tryz.pinned (.plain (OpenSpec.upto ratioFormsSpec)) ratioFormsUptoCard

/-- THE SECOND FORM's CARD OF 'dendronlaw03.RatioFolds'. -/
def ratioFoldsUptoCard : Claim7 := { stood := { row := ratioFoldsUptoRow, standIns := [], harness := (true, "e8104d1947578af458a5f3a3f146165347cba02b168ca5353dadf4c9c655add8"), looks := false }, kinds := [], alts := [], laidByText := true, laidKinds := [.data], laidTests := true, laidLooks := .later }
def RatioFoldsUptoCardSaid : Prop := Claim7.holds Tryz.pinned (.plain (OpenSpec.upto ratioFoldsSpec)) ratioFoldsUptoCard

/-- THE SECOND FORM's CARD OF 'dendronlaw03.RatioBetweens'. -/
def ratioBetweensUptoCard : Claim7 := { stood := { row := ratioBetweensUptoRow, standIns := [], harness := (true, "e8104d1947578af458a5f3a3f146165347cba02b168ca5353dadf4c9c655add8"), looks := false }, kinds := [], alts := [], laidByText := true, laidKinds := [.data], laidTests := true, laidLooks := .later }
def RatioBetweensUptoCardSaid : Prop := Claim7.holds Tryz.pinned (.plain (OpenSpec.upto ratioBetweensSpec)) ratioBetweensUptoCard

/-- THE SECOND FORM's CARD OF 'dendronlaw03.RatioPowers'. -/
def ratioPowersUptoCard : Claim7 := { stood := { row := ratioPowersUptoRow, standIns := [], harness := (true, "e8104d1947578af458a5f3a3f146165347cba02b168ca5353dadf4c9c655add8"), looks := false }, kinds := [], alts := [], laidByText := true, laidKinds := [.data], laidTests := true, laidLooks := .later }
def RatioPowersUptoCardSaid : Prop := Claim7.holds Tryz.pinned (.plain (OpenSpec.upto ratioPowersSpec)) ratioPowersUptoCard
end Rows
end Go.Proofs.YtcecjcpbehnihaaGreatDoor
