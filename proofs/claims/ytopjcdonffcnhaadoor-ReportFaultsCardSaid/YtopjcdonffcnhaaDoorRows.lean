/-
  NARROWER THAN 'FOR EVERY INPUT', by the rows' own cells (each row's printed sentence says how): ReportWrites: laid · ReportUnlike: laid · ReportFinds: laid · ReportFaults: laid.
  DERIVED. THE GIVEN ROWS OF THIS SEAT. 4 by the template 'for every input the law returns true; each argument reads behind the call as it read before'; 0 by the template 'total and deterministic' (their statements: YtopjcdonffcnhaaDoorTotals.lean).
  GIVEN WITH THE SEED: the statements are not yours to turn. If you find one false, say at which input.
  Laid BY PROGRAM, IN A SANDBOX (cutbox-rows.mjs): the forced cells as the released guide's own fill.sh prints them over the translation 758468a156beae10… (all of the seat's roots in one cut). By AI agents, Wed Nov 11 2026. No macro, syntax, notation, axiom, sorry.
-/
import Derived.Test.YtopjcdonffcnhaaDoorChecked
import GoSem.Claim
import GoSem.ClaimJoined
import GoSem.ClaimMapViews
import Derived.JoinedTies
import Derived.KernelRfl
namespace Go.Proofs.YtopjcdonffcnhaaDoor
/- THE CELL 'sum', in the pinned program and in every row, IS THE sha256 OF THE DUMP (.gsa) THAT YtopjcdonffcnhaaDoorProg.lean LOADS. Nothing in Lean hashes anything: it is a label: what it is worth is what the hold of that sum in a sandbox is worth. -/
noncomputable def Tryd.pinned : Pinned := { name := "ytopjcdonffcnhaadoor", sum := "758468a156beae103ce60572668095a6e59bc5826016702cdd2ec685b061ea46", checked := Tryd.checked }
namespace Rows
def none {H : Type} : Left H := { results := [], args := [] }

/- WHAT THE LISTED PACKAGE-LEVEL VARIABLES READ AS WHEN THE CALL BEGINS. Each datum BY PROGRAM (the guide's laid-datum.mjs) off the statement by which the dump's own 'gosem.cut.vars' lays the variable. In a bare row this is a premise. The card (YtopjcdonffcnhaaDoorCards.lean) ties it to the program's text. -/
def laid_math_bits_deBruijn64tab {H : Type} : DataW H := .agg [.lit (.int .u8 0), .lit (.int .u8 1), .lit (.int .u8 56), .lit (.int .u8 2), .lit (.int .u8 57), .lit (.int .u8 49), .lit (.int .u8 28), .lit (.int .u8 3), .lit (.int .u8 61), .lit (.int .u8 58), .lit (.int .u8 42), .lit (.int .u8 50), .lit (.int .u8 38), .lit (.int .u8 29), .lit (.int .u8 17), .lit (.int .u8 4), .lit (.int .u8 62), .lit (.int .u8 47), .lit (.int .u8 59), .lit (.int .u8 36), .lit (.int .u8 45), .lit (.int .u8 43), .lit (.int .u8 51), .lit (.int .u8 22), .lit (.int .u8 53), .lit (.int .u8 39), .lit (.int .u8 33), .lit (.int .u8 30), .lit (.int .u8 24), .lit (.int .u8 18), .lit (.int .u8 12), .lit (.int .u8 5), .lit (.int .u8 63), .lit (.int .u8 55), .lit (.int .u8 48), .lit (.int .u8 27), .lit (.int .u8 60), .lit (.int .u8 41), .lit (.int .u8 37), .lit (.int .u8 16), .lit (.int .u8 46), .lit (.int .u8 35), .lit (.int .u8 44), .lit (.int .u8 21), .lit (.int .u8 52), .lit (.int .u8 32), .lit (.int .u8 23), .lit (.int .u8 11), .lit (.int .u8 54), .lit (.int .u8 26), .lit (.int .u8 40), .lit (.int .u8 15), .lit (.int .u8 34), .lit (.int .u8 20), .lit (.int .u8 31), .lit (.int .u8 10), .lit (.int .u8 25), .lit (.int .u8 14), .lit (.int .u8 19), .lit (.int .u8 9), .lit (.int .u8 13), .lit (.int .u8 8), .lit (.int .u8 7), .lit (.int .u8 6)]

/-- 'dendronlaw29.ReportWrites': WHATEVER THE INPUT: true; the input reads as it did. -/
def reportWritesSpec : ChangeSpec := { name := "reportWrites", fn := fun _ => fun
  | [d] => { results := [.lit (.bool true)], args := [d] }
  | _ => none }
def reportWritesRow : OpenClaim := { program := "ytopjcdonffcnhaadoor", sum := "758468a156beae103ce60572668095a6e59bc5826016702cdd2ec685b061ea46", func := "dendron/dendronlaw29.ReportWrites", spec := "reportWrites", inPlace := ["internal/abi.NoEscape"], named := ["math/bits.deBruijn64tab"], apart := false, laid := [("math/bits.deBruijn64tab", laid_math_bits_deBruijn64tab)] }
def ReportWritesSaid : Prop := reportWritesRow.holds Tryd.pinned (OpenSpec.ofChange reportWritesSpec)

/-- ITS FALSE NEIGHBOUR: 'it returns false'. Refute it at one input. -/
def reportWritesWrong : ChangeSpec := { name := "reportWrites", fn := fun _ => fun
  | [d] => { results := [.lit (.bool false)], args := [d] }
  | _ => none }
def ReportWritesWrongFalsely : Prop := reportWritesRow.holds Tryd.pinned (OpenSpec.ofChange reportWritesWrong)

/-- 'dendronlaw29.ReportUnlike': WHATEVER THE INPUT: true; the input reads as it did. -/
def reportUnlikeSpec : ChangeSpec := { name := "reportUnlike", fn := fun _ => fun
  | [d1, d2] => { results := [.lit (.bool true)], args := [d1, d2] }
  | _ => none }
def reportUnlikeRow : OpenClaim := { program := "ytopjcdonffcnhaadoor", sum := "758468a156beae103ce60572668095a6e59bc5826016702cdd2ec685b061ea46", func := "dendron/dendronlaw29.ReportUnlike", spec := "reportUnlike", inPlace := ["internal/abi.NoEscape"], named := ["math/bits.deBruijn64tab"], apart := false, laid := [("math/bits.deBruijn64tab", laid_math_bits_deBruijn64tab)] }
def ReportUnlikeSaid : Prop := reportUnlikeRow.holds Tryd.pinned (OpenSpec.ofChange reportUnlikeSpec)

/-- ITS FALSE NEIGHBOUR: 'it returns false'. Refute it at one input. -/
def reportUnlikeWrong : ChangeSpec := { name := "reportUnlike", fn := fun _ => fun
  | [d1, d2] => { results := [.lit (.bool false)], args := [d1, d2] }
  | _ => none }
def ReportUnlikeWrongFalsely : Prop := reportUnlikeRow.holds Tryd.pinned (OpenSpec.ofChange reportUnlikeWrong)

/-- 'dendronlaw29.ReportFinds': WHATEVER THE INPUT: true; the input reads as it did. -/
def reportFindsSpec : ChangeSpec := { name := "reportFinds", fn := fun _ => fun
  | [d1, d2] => { results := [.lit (.bool true)], args := [d1, d2] }
  | _ => none }
def reportFindsRow : OpenClaim := { program := "ytopjcdonffcnhaadoor", sum := "758468a156beae103ce60572668095a6e59bc5826016702cdd2ec685b061ea46", func := "dendron/dendronlaw29.ReportFinds", spec := "reportFinds", inPlace := ["internal/abi.NoEscape"], named := ["math/bits.deBruijn64tab"], apart := false, laid := [("math/bits.deBruijn64tab", laid_math_bits_deBruijn64tab)] }
def ReportFindsSaid : Prop := reportFindsRow.holds Tryd.pinned (OpenSpec.ofChange reportFindsSpec)

/-- ITS FALSE NEIGHBOUR: 'it returns false'. Refute it at one input. -/
def reportFindsWrong : ChangeSpec := { name := "reportFinds", fn := fun _ => fun
  | [d1, d2] => { results := [.lit (.bool false)], args := [d1, d2] }
  | _ => none }
def ReportFindsWrongFalsely : Prop := reportFindsRow.holds Tryd.pinned (OpenSpec.ofChange reportFindsWrong)

/-- 'dendronlaw29.ReportFaults': WHATEVER THE INPUT: true; the input reads as it did. -/
def reportFaultsSpec : ChangeSpec := { name := "reportFaults", fn := fun _ => fun
  | [d1, d2] => { results := [.lit (.bool true)], args := [d1, d2] }
  | _ => none }
def reportFaultsRow : OpenClaim := { program := "ytopjcdonffcnhaadoor", sum := "758468a156beae103ce60572668095a6e59bc5826016702cdd2ec685b061ea46", func := "dendron/dendronlaw29.ReportFaults", spec := "reportFaults", inPlace := ["internal/abi.NoEscape"], named := ["math/bits.deBruijn64tab"], apart := false, laid := [("math/bits.deBruijn64tab", laid_math_bits_deBruijn64tab)] }
def ReportFaultsSaid : Prop := reportFaultsRow.holds Tryd.pinned (OpenSpec.ofChange reportFaultsSpec)

/-- ITS FALSE NEIGHBOUR: 'it returns false'. Refute it at one input. -/
def reportFaultsWrong : ChangeSpec := { name := "reportFaults", fn := fun _ => fun
  | [d1, d2] => { results := [.lit (.bool false)], args := [d1, d2] }
  | _ => none }
def ReportFaultsWrongFalsely : Prop := reportFaultsRow.holds Tryd.pinned (OpenSpec.ofChange reportFaultsWrong)

/- THE SECOND FORM. 'bulk': how many values and letters a reading holds, each counted each time it is reached (what is shared counts as often as it is met; a slice's spare places count too). A statement '..UptoSaid' is the law's where the arguments, and the package variables that the reading takes, are together of bulk at most 1048576: NARROWER than '..Said'. Prove '..Said' where nothing that the law and all that it calls make is longer than what came in: it says more and counts as full. Else prove '..UptoSaid'. A law counts once. -/
mutual
def uptoBulk {H : Type} : DataW H → Nat
  | .lit (.string bytes) => bytes.length + 1
  | .lit _ => 1
  | .nil => 1
  | .ptr d => uptoBulk d + 1
  | .slice elems spare => uptoBulkAll elems + uptoBulkAll spare + 1
  | .agg parts => uptoBulkAll parts + 1
  | .iface _ d => uptoBulk d + 1
  | .map entries => uptoBulkEntries entries + 1
  | .held _ => 1
def uptoBulkAll {H : Type} : List (DataW H) → Nat
  | [] => 0
  | d :: r => uptoBulk d + uptoBulkAll r
def uptoBulkEntries {H : Type} : List (Lit × DataW H) → Nat
  | [] => 0
  | x :: r => uptoBulkEntry x + uptoBulkEntries r
def uptoBulkEntry {H : Type} : Lit × DataW H → Nat
  | (.string bytes, d) => bytes.length + uptoBulk d + 1
  | (_, d) => uptoBulk d + 1
 end
def uptoSmall : (H : Type) → List (DataW H) → Bool := fun _ ds => decide (uptoBulkAll ds ≤ 1048576)
def OpenSpec.upto (s : _root_.Go.ChangeSpec) : _root_.Go.OpenSpec := { _root_.Go.OpenSpec.ofChange s with cond := some uptoSmall }

/-- 'dendronlaw29.ReportWrites', WHERE WHAT IT READS IS OF BULK AT MOST 1048576: true; the input reads as it did. -/
def reportWritesUptoRow : OpenClaim := { program := "ytopjcdonffcnhaadoor", sum := "758468a156beae103ce60572668095a6e59bc5826016702cdd2ec685b061ea46", func := "dendron/dendronlaw29.ReportWrites", spec := "reportWrites", inPlace := ["internal/abi.NoEscape"], named := ["math/bits.deBruijn64tab"], apart := false, laid := [("math/bits.deBruijn64tab", laid_math_bits_deBruijn64tab)], narrowed := true }
def ReportWritesUptoSaid : Prop := reportWritesUptoRow.holds Tryd.pinned (OpenSpec.upto reportWritesSpec)

/-- 'dendronlaw29.ReportUnlike', WHERE WHAT IT READS IS OF BULK AT MOST 1048576: true; the input reads as it did. -/
def reportUnlikeUptoRow : OpenClaim := { program := "ytopjcdonffcnhaadoor", sum := "758468a156beae103ce60572668095a6e59bc5826016702cdd2ec685b061ea46", func := "dendron/dendronlaw29.ReportUnlike", spec := "reportUnlike", inPlace := ["internal/abi.NoEscape"], named := ["math/bits.deBruijn64tab"], apart := false, laid := [("math/bits.deBruijn64tab", laid_math_bits_deBruijn64tab)], narrowed := true }
def ReportUnlikeUptoSaid : Prop := reportUnlikeUptoRow.holds Tryd.pinned (OpenSpec.upto reportUnlikeSpec)

/-- 'dendronlaw29.ReportFinds', WHERE WHAT IT READS IS OF BULK AT MOST 1048576: true; the input reads as it did. -/
def reportFindsUptoRow : OpenClaim := { program := "ytopjcdonffcnhaadoor", sum := "758468a156beae103ce60572668095a6e59bc5826016702cdd2ec685b061ea46", func := "dendron/dendronlaw29.ReportFinds", spec := "reportFinds", inPlace := ["internal/abi.NoEscape"], named := ["math/bits.deBruijn64tab"], apart := false, laid := [("math/bits.deBruijn64tab", laid_math_bits_deBruijn64tab)], narrowed := true }
def ReportFindsUptoSaid : Prop := reportFindsUptoRow.holds Tryd.pinned (OpenSpec.upto reportFindsSpec)

/-- 'dendronlaw29.ReportFaults', WHERE WHAT IT READS IS OF BULK AT MOST 1048576: true; the input reads as it did. -/
def reportFaultsUptoRow : OpenClaim := { program := "ytopjcdonffcnhaadoor", sum := "758468a156beae103ce60572668095a6e59bc5826016702cdd2ec685b061ea46", func := "dendron/dendronlaw29.ReportFaults", spec := "reportFaults", inPlace := ["internal/abi.NoEscape"], named := ["math/bits.deBruijn64tab"], apart := false, laid := [("math/bits.deBruijn64tab", laid_math_bits_deBruijn64tab)], narrowed := true }
def ReportFaultsUptoSaid : Prop := reportFaultsUptoRow.holds Tryd.pinned (OpenSpec.upto reportFaultsSpec)

end Rows
end Go.Proofs.YtopjcdonffcnhaaDoor
