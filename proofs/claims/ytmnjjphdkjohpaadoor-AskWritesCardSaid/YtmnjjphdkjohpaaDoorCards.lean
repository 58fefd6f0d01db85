/-
  DERIVED. GIVEN WITH THE SEED: THE CARDS: each row of YtmnjjphdkjohpaaDoorRows.lean that lists a variable, with what it lists TIED to the program's text (the seventh form; the later family's looks); each row that meets fmt, with fmt's text TOLD by the authors' own Lean function (tested against real Go, not proved from fmt's source: count such statements apart). THE CARD IS WHAT COUNTS. Prove the row's statement (the work); the ties are given (YtmnjjphdkjohpaaDoorTie.lean); close each card by the builder's one call (the guide's Derived/Test/ToyasCard.lean, 'card_holds'). Laid BY PROGRAM, IN A SANDBOX (cutbox-door.mjs). By AI agents, Wed Nov 11 2026. No macro, syntax, notation, axiom, sorry.
-/
import Derived.Test.YtmnjjphdkjohpaaDoorRows
import GoSem.ClaimSeven
namespace Go.Proofs.YtmnjjphdkjohpaaDoor
namespace Rows

/-- THE TIED CARD OF 'dendronlaw28.AskParses'. -/
def askParsesCard : Claim7 := { stood := { row := askParsesRow, standIns := [], harness := (true, "99b84d5779e4515c5723b26d8d27d575dd64b29cf547b5b30a8fc2092f20b8b2"), looks := false }, kinds := [], alts := [], laidByText := true, laidKinds := [.data], laidTests := true, laidLooks := .later }
def AskParsesCardSaid : Prop := Claim7.holds Tryd.pinned (.plain (OpenSpec.ofChange askParsesSpec)) askParsesCard

/-- THE TIED CARD OF 'dendronlaw28.AskWords'. -/
def askWordsCard : Claim7 := { stood := { row := askWordsRow, standIns := [], harness := (true, "99b84d5779e4515c5723b26d8d27d575dd64b29cf547b5b30a8fc2092f20b8b2"), looks := false }, kinds := [], alts := [], laidByText := true, laidKinds := [.data], laidTests := true, laidLooks := .later }
def AskWordsCardSaid : Prop := Claim7.holds Tryd.pinned (.plain (OpenSpec.ofChange askWordsSpec)) askWordsCard

/-- THE TIED CARD OF 'dendronlaw28.AskCleans'. -/
def askCleansCard : Claim7 := { stood := { row := askCleansRow, standIns := [], harness := (true, "99b84d5779e4515c5723b26d8d27d575dd64b29cf547b5b30a8fc2092f20b8b2"), looks := false }, kinds := [], alts := [], laidByText := true, laidKinds := [.data], laidTests := true, laidLooks := .later }
def AskCleansCardSaid : Prop := Claim7.holds Tryd.pinned (.plain (OpenSpec.ofChange askCleansSpec)) askCleansCard

/-- THE TIED CARD OF 'dendronlaw28.AskWrites'. -/
def askWritesCard : Claim7 := { stood := { row := askWritesRow, standIns := [], harness := (true, "99b84d5779e4515c5723b26d8d27d575dd64b29cf547b5b30a8fc2092f20b8b2"), looks := false }, kinds := [], alts := [], laidByText := true, laidKinds := [.data], laidTests := true, laidLooks := .later }
def AskWritesCardSaid : Prop := Claim7.holds Tryd.pinned (.plain (OpenSpec.ofChange askWritesSpec)) askWritesCard

/-- THE SECOND FORM's CARD OF 'dendronlaw28.AskParses'. -/
def askParsesUptoCard : Claim7 := { stood := { row := askParsesUptoRow, standIns := [], harness := (true, "99b84d5779e4515c5723b26d8d27d575dd64b29cf547b5b30a8fc2092f20b8b2"), looks := false }, kinds := [], alts := [], laidByText := true, laidKinds := [.data], laidTests := true, laidLooks := .later }
def AskParsesUptoCardSaid : Prop := Claim7.holds Tryd.pinned (.plain (OpenSpec.upto askParsesSpec)) askParsesUptoCard

/-- THE SECOND FORM's CARD OF 'dendronlaw28.AskWords'. -/
def askWordsUptoCard : Claim7 := { stood := { row := askWordsUptoRow, standIns := [], harness := (true, "99b84d5779e4515c5723b26d8d27d575dd64b29cf547b5b30a8fc2092f20b8b2"), looks := false }, kinds := [], alts := [], laidByText := true, laidKinds := [.data], laidTests := true, laidLooks := .later }
def AskWordsUptoCardSaid : Prop := Claim7.holds Tryd.pinned (.plain (OpenSpec.upto askWordsSpec)) askWordsUptoCard

/-- THE SECOND FORM's CARD OF 'dendronlaw28.AskCleans'. -/
def askCleansUptoCard : Claim7 := { stood := { row := askCleansUptoRow, standIns := [], harness := (true, "99b84d5779e4515c5723b26d8d27d575dd64b29cf547b5b30a8fc2092f20b8b2"), looks := false }, kinds := [], alts := [], laidByText := true, laidKinds := [.data], laidTests := true, laidLooks := .later }
def AskCleansUptoCardSaid : Prop := Claim7.holds Tryd.pinned (.plain (OpenSpec.upto askCleansSpec)) askCleansUptoCard

/-- THE SECOND FORM's CARD OF 'dendronlaw28.AskWrites'. -/
def askWritesUptoCard : Claim7 := { stood := { row := askWritesUptoRow, standIns := [], harness := (true, "99b84d5779e4515c5723b26d8d27d575dd64b29cf547b5b30a8fc2092f20b8b2"), looks := false }, kinds := [], alts := [], laidByText := true, laidKinds := [.data], laidTests := true, laidLooks := .later }
def AskWritesUptoCardSaid : Prop := Claim7.holds Tryd.pinned (.plain (OpenSpec.upto askWritesSpec)) askWritesUptoCard
end Rows
end Go.Proofs.YtmnjjphdkjohpaaDoor
