/-
  DERIVED. GIVEN WITH THE SEED: THE CARDS: each row of YtajagmmjkmmchaaDoorRows.lean that lists a variable, with what it lists TIED to the program's text (the seventh form; the later family's looks); each row that meets fmt, with fmt's text TOLD by the authors' own Lean function (tested against real Go, not proved from fmt's source: count such statements apart). THE CARD IS WHAT COUNTS. Prove the row's statement (the work); the ties are given (YtajagmmjkmmchaaDoorTie.lean); close each card by the builder's one call (the guide's Derived/Test/ToyasCard.lean, 'card_holds'). Laid BY PROGRAM, IN A SANDBOX (cutbox-door.mjs). By AI agents, Wed Nov 11 2026. No macro, syntax, notation, axiom, sorry.
-/
import Derived.Test.YtajagmmjkmmchaaDoorRows
import GoSem.ClaimSeven
namespace Go.Proofs.YtajagmmjkmmchaaDoor
namespace Rows

/-- THE TIED CARD OF 'dendronlaw08.ValidChecks'. -/
def validChecksCard : Claim7 := { stood := { row := validChecksRow, standIns := [], harness := (true, "6d15b0acd5729eacff2c34323dd4ac201ca17747e3b230078a203a8320596211"), looks := false }, kinds := [], alts := [], laidByText := true, laidKinds := [.data], laidTests := true, laidLooks := .later }
def ValidChecksCardSaid : Prop := Claim7.holds Tryd.pinned (.plain (OpenSpec.ofChange validChecksSpec)) validChecksCard

/-- THE TIED CARD OF 'dendronlaw08.ValidTrees'. -/
def validTreesCard : Claim7 := { stood := { row := validTreesRow, standIns := [], harness := (true, "6d15b0acd5729eacff2c34323dd4ac201ca17747e3b230078a203a8320596211"), looks := false }, kinds := [], alts := [], laidByText := true, laidKinds := [.data], laidTests := true, laidLooks := .later }
def ValidTreesCardSaid : Prop := Claim7.holds Tryd.pinned (.plain (OpenSpec.ofChange validTreesSpec)) validTreesCard

/-- THE TIED CARD OF 'dendronlaw08.ValidUsed'. -/
def validUsedCard : Claim7 := { stood := { row := validUsedRow, standIns := [], harness := (true, "6d15b0acd5729eacff2c34323dd4ac201ca17747e3b230078a203a8320596211"), looks := false }, kinds := [], alts := [], laidByText := true, laidKinds := [.data], laidTests := true, laidLooks := .later }
def ValidUsedCardSaid : Prop := Claim7.holds Tryd.pinned (.plain (OpenSpec.ofChange validUsedSpec)) validUsedCard

/-- THE TIED CARD OF 'dendronlaw08.ValidLeaves'. -/
def validLeavesCard : Claim7 := { stood := { row := validLeavesRow, standIns := [], harness := (true, "6d15b0acd5729eacff2c34323dd4ac201ca17747e3b230078a203a8320596211"), looks := false }, kinds := [], alts := [], laidByText := true, laidKinds := [.data], laidTests := true, laidLooks := .later }
def ValidLeavesCardSaid : Prop := Claim7.holds Tryd.pinned (.plain (OpenSpec.ofChange validLeavesSpec)) validLeavesCard

/-- THE SECOND FORM's CARD OF 'dendronlaw08.ValidChecks'. -/
def validChecksUptoCard : Claim7 := { stood := { row := validChecksUptoRow, standIns := [], harness := (true, "6d15b0acd5729eacff2c34323dd4ac201ca17747e3b230078a203a8320596211"), looks := false }, kinds := [], alts := [], laidByText := true, laidKinds := [.data], laidTests := true, laidLooks := .later }
def ValidChecksUptoCardSaid : Prop := Claim7.holds Tryd.pinned (.plain (OpenSpec.upto validChecksSpec)) validChecksUptoCard

/-- THE SECOND FORM's CARD OF 'dendronlaw08.ValidTrees'. -/
def validTreesUptoCard : Claim7 := { stood := { row := validTreesUptoRow, standIns := [], harness := (true, "6d15b0acd5729eacff2c34323dd4ac201ca17747e3b230078a203a8320596211"), looks := false }, kinds := [], alts := [], laidByText := true, laidKinds := [.data], laidTests := true, laidLooks := .later }
def ValidTreesUptoCardSaid : Prop := Claim7.holds Tryd.pinned (.plain (OpenSpec.upto validTreesSpec)) validTreesUptoCard

/-- THE SECOND FORM's CARD OF 'dendronlaw08.ValidUsed'. -/
def validUsedUptoCard : Claim7 := { stood := { row := validUsedUptoRow, standIns := [], harness := (true, "6d15b0acd5729eacff2c34323dd4ac201ca17747e3b230078a203a8320596211"), looks := false }, kinds := [], alts := [], laidByText := true, laidKinds := [.data], laidTests := true, laidLooks := .later }
def ValidUsedUptoCardSaid : Prop := Claim7.holds Tryd.pinned (.plain (OpenSpec.upto validUsedSpec)) validUsedUptoCard

/-- THE SECOND FORM's CARD OF 'dendronlaw08.ValidLeaves'. -/
def validLeavesUptoCard : Claim7 := { stood := { row := validLeavesUptoRow, standIns := [], harness := (true, "6d15b0acd5729eacff2c34323dd4ac201ca17747e3b230078a203a8320596211"), looks := false }, kinds := [], alts := [], laidByText := true, laidKinds := [.data], laidTests := true, laidLooks := .later }
def ValidLeavesUptoCardSaid : Prop := Claim7.holds Tryd.pinned (.plain (OpenSpec.upto validLeavesSpec)) validLeavesUptoCard
end Rows
end Go.Proofs.YtajagmmjkmmchaaDoor
