/-
  NARROWER THAN 'FOR EVERY INPUT', by the rows' own cells (each row's printed sentence says how): RatioMakes: laid · RatioRounds: laid · RatioSimplest: laid · RatioNears: laid · RatioReads: laid · RatioDecimals: laid · RatioTexts: laid · RatioSums: laid · RatioAll: laid · RatioUnfolds: laid · RatioForms: laid · RatioFolds: laid · RatioBetweens: laid · RatioPowers: laid.
  DERIVED. THE GIVEN ROWS OF THIS SEAT. 14 by the template 'for every input the law returns true; each argument reads behind the call as it read before'; 0 by the template 'total and deterministic' (their statements: YtcecjcpbehnihaaGreatDoorTotals.lean).
  GIVEN WITH THE SEED: the statements are not yours to turn. If you find one false, say at which input.
  Laid BY PROGRAM, IN A SANDBOX (cutbox-rows.mjs): the forced cells as the released guide's own fill.sh prints them over the translation 36ba957193d8226a… (all of the seat's roots in one cut). By AI agents, Wed Nov 11 2026. No macro, syntax, notation, axiom, sorry.
-/
import Derived.Test.YtcecjcpbehnihaaGreatDoorChecked
import GoSem.Claim
import GoSem.ClaimJoined
import GoSem.ClaimMapViews
import Derived.JoinedTies
import Derived.KernelRfl
namespace Go.Proofs.YtcecjcpbehnihaaGreatDoor
/- THE CELL 'sum', in the pinned program and in every row, IS THE sha256 OF THE DUMP (.gsa) THAT YtcecjcpbehnihaaGreatDoorProg.lean LOADS. Nothing in Lean hashes anything: it is a label: what it is worth is what the hold of that sum in a sandbox is worth. -/
noncomputable def Tryz.pinned : Pinned := { name := "ytcecjcpbehnihaagreatdoor", sum := "36ba957193d8226abdcdc4e57a71884550cc00b82f3ccd40c067238a4dce4c92", checked := Tryz.checked }
namespace Rows
def none {H : Type} : Left H := { results := [], args := [] }

/- WHAT THE LISTED PACKAGE-LEVEL VARIABLES READ AS WHEN THE CALL BEGINS. Each datum BY PROGRAM (the guide's laid-datum.mjs) off the statement by which the dump's own 'gosem.cut.vars' lays the variable. In a bare row this is a premise. The card (YtcecjcpbehnihaaGreatDoorCards.lean) ties it to the program's text. -/
def laid_math_bits_deBruijn64tab {H : Type} : DataW H := .agg [.lit (.int .u8 0), .lit (.int .u8 1), .lit (.int .u8 56), .lit (.int .u8 2), .lit (.int .u8 57), .lit (.int .u8 49), .lit (.int .u8 28), .lit (.int .u8 3), .lit (.int .u8 61), .lit (.int .u8 58), .lit (.int .u8 42), .lit (.int .u8 50), .lit (.int .u8 38), .lit (.int .u8 29), .lit (.int .u8 17), .lit (.int .u8 4), .lit (.int .u8 62), .lit (.int .u8 47), .lit (.int .u8 59), .lit (.int .u8 36), .lit (.int .u8 45), .lit (.int .u8 43), .lit (.int .u8 51), .lit (.int .u8 22), .lit (.int .u8 53), .lit (.int .u8 39), .lit (.int .u8 33), .lit (.int .u8 30), .lit (.int .u8 24), .lit (.int .u8 18), .lit (.int .u8 12), .lit (.int .u8 5), .lit (.int .u8 63), .lit (.int .u8 55), .lit (.int .u8 48), .lit (.int .u8 27), .lit (.int .u8 60), .lit (.int .u8 41), .lit (.int .u8 37), .lit (.int .u8 16), .lit (.int .u8 46), .lit (.int .u8 35), .lit (.int .u8 44), .lit (.int .u8 21), .lit (.int .u8 52), .lit (.int .u8 32), .lit (.int .u8 23), .lit (.int .u8 11), .lit (.int .u8 54), .lit (.int .u8 26), .lit (.int .u8 40), .lit (.int .u8 15), .lit (.int .u8 34), .lit (.int .u8 20), .lit (.int .u8 31), .lit (.int .u8 10), .lit (.int .u8 25), .lit (.int .u8 14), .lit (.int .u8 19), .lit (.int .u8 9), .lit (.int .u8 13), .lit (.int .u8 8), .lit (.int .u8 7), .lit (.int .u8 6)]

/-- 'dendronlaw03.RatioMakes': WHATEVER THE INPUT: true; the input reads as it did. -/
def ratioMakesSpec : ChangeSpec := { name := "ratioMakes", fn := fun _ => fun
  | [d1, d2, d3, d4] => { results := [.lit (.bool true)], args := [d1, d2, d3, d4] }
  | _ => none }
def ratioMakesRow : OpenClaim := { program := "ytcecjcpbehnihaagreatdoor", sum := "36ba957193d8226abdcdc4e57a71884550cc00b82f3ccd40c067238a4dce4c92", func := "dendron/dendronlaw03.RatioMakes", spec := "ratioMakes", inPlace := ["internal/bytealg.IndexByteString", "internal/bytealg.IndexString", "internal/abi.NoEscape", "internal/bytealg.MakeNoZero"], recurses := true, named := ["math/bits.deBruijn64tab", "internal/bytealg.MaxLen"], apart := false, laid := [("math/bits.deBruijn64tab", laid_math_bits_deBruijn64tab)] }
def RatioMakesSaid : Prop := ratioMakesRow.holds Tryz.pinned (OpenSpec.ofChange ratioMakesSpec)

/-- ITS FALSE NEIGHBOUR: 'it returns false'. Refute it at one input. -/
def ratioMakesWrong : ChangeSpec := { name := "ratioMakes", fn := fun _ => fun
  | [d1, d2, d3, d4] => { results := [.lit (.bool false)], args := [d1, d2, d3, d4] }
  | _ => none }
def RatioMakesWrongFalsely : Prop := ratioMakesRow.holds Tryz.pinned (OpenSpec.ofChange ratioMakesWrong)

/-- 'dendronlaw03.RatioRounds': WHATEVER THE INPUT: true; the input reads as it did. -/
def ratioRoundsSpec : ChangeSpec := { name := "ratioRounds", fn := fun _ => fun
  | [d] => { results := [.lit (.bool true)], args := [d] }
  | _ => none }
def ratioRoundsRow : OpenClaim := { program := "ytcecjcpbehnihaagreatdoor", sum := "36ba957193d8226abdcdc4e57a71884550cc00b82f3ccd40c067238a4dce4c92", func := "dendron/dendronlaw03.RatioRounds", spec := "ratioRounds", inPlace := ["internal/bytealg.IndexByteString", "internal/bytealg.IndexString", "internal/abi.NoEscape", "internal/bytealg.MakeNoZero"], recurses := true, named := ["math/bits.deBruijn64tab", "internal/bytealg.MaxLen"], apart := false, laid := [("math/bits.deBruijn64tab", laid_math_bits_deBruijn64tab)] }
def RatioRoundsSaid : Prop := ratioRoundsRow.holds Tryz.pinned (OpenSpec.ofChange ratioRoundsSpec)

/-- ITS FALSE NEIGHBOUR: 'it returns false'. Refute it at one input. -/
def ratioRoundsWrong : ChangeSpec := { name := "ratioRounds", fn := fun _ => fun
  | [d] => { results := [.lit (.bool false)], args := [d] }
  | _ => none }
def RatioRoundsWrongFalsely : Prop := ratioRoundsRow.holds Tryz.pinned (OpenSpec.ofChange ratioRoundsWrong)

/-- 'dendronlaw03.RatioSimplest': WHATEVER THE INPUT: true; the input reads as it did. -/
def ratioSimplestSpec : ChangeSpec := { name := "ratioSimplest", fn := fun _ => fun
  | [d1, d2] => { results := [.lit (.bool true)], args := [d1, d2] }
  | _ => none }
def ratioSimplestRow : OpenClaim := { program := "ytcecjcpbehnihaagreatdoor", sum := "36ba957193d8226abdcdc4e57a71884550cc00b82f3ccd40c067238a4dce4c92", func := "dendron/dendronlaw03.RatioSimplest", spec := "ratioSimplest", inPlace := ["internal/bytealg.IndexByteString", "internal/bytealg.IndexString", "internal/abi.NoEscape", "internal/bytealg.MakeNoZero"], recurses := true, named := ["math/bits.deBruijn64tab", "internal/bytealg.MaxLen"], apart := false, laid := [("math/bits.deBruijn64tab", laid_math_bits_deBruijn64tab)] }
def RatioSimplestSaid : Prop := ratioSimplestRow.holds Tryz.pinned (OpenSpec.ofChange ratioSimplestSpec)

/-- ITS FALSE NEIGHBOUR: 'it returns false'. Refute it at one input. -/
def ratioSimplestWrong : ChangeSpec := { name := "ratioSimplest", fn := fun _ => fun
  | [d1, d2] => { results := [.lit (.bool false)], args := [d1, d2] }
  | _ => none }
def RatioSimplestWrongFalsely : Prop := ratioSimplestRow.holds Tryz.pinned (OpenSpec.ofChange ratioSimplestWrong)

/-- 'dendronlaw03.RatioNears': WHATEVER THE INPUT: true; the input reads as it did. -/
def ratioNearsSpec : ChangeSpec := { name := "ratioNears", fn := fun _ => fun
  | [d1, d2] => { results := [.lit (.bool true)], args := [d1, d2] }
  | _ => none }
def ratioNearsRow : OpenClaim := { program := "ytcecjcpbehnihaagreatdoor", sum := "36ba957193d8226abdcdc4e57a71884550cc00b82f3ccd40c067238a4dce4c92", func := "dendron/dendronlaw03.RatioNears", spec := "ratioNears", inPlace := ["internal/bytealg.IndexByteString", "internal/bytealg.IndexString", "internal/abi.NoEscape", "internal/bytealg.MakeNoZero"], recurses := true, named := ["internal/bytealg.MaxLen", "math/bits.deBruijn64tab"], apart := false, laid := [("math/bits.deBruijn64tab", laid_math_bits_deBruijn64tab)] }
def RatioNearsSaid : Prop := ratioNearsRow.holds Tryz.pinned (OpenSpec.ofChange ratioNearsSpec)

/-- ITS FALSE NEIGHBOUR: 'it returns false'. Refute it at one input. -/
def ratioNearsWrong : ChangeSpec := { name := "ratioNears", fn := fun _ => fun
  | [d1, d2] => { results := [.lit (.bool false)], args := [d1, d2] }
  | _ => none }
def RatioNearsWrongFalsely : Prop := ratioNearsRow.holds Tryz.pinned (OpenSpec.ofChange ratioNearsWrong)

/-- 'dendronlaw03.RatioReads': WHATEVER THE INPUT: true; the input reads as it did. -/
def ratioReadsSpec : ChangeSpec := { name := "ratioReads", fn := fun _ => fun
  | [d] => { results := [.lit (.bool true)], args := [d] }
  | _ => none }
def ratioReadsRow : OpenClaim := { program := "ytcecjcpbehnihaagreatdoor", sum := "36ba957193d8226abdcdc4e57a71884550cc00b82f3ccd40c067238a4dce4c92", func := "dendron/dendronlaw03.RatioReads", spec := "ratioReads", inPlace := ["internal/bytealg.IndexByteString", "internal/bytealg.IndexString", "internal/abi.NoEscape", "internal/bytealg.MakeNoZero"], recurses := true, named := ["internal/bytealg.MaxLen", "math/bits.deBruijn64tab"], apart := false, laid := [("math/bits.deBruijn64tab", laid_math_bits_deBruijn64tab)] }
def RatioReadsSaid : Prop := ratioReadsRow.holds Tryz.pinned (OpenSpec.ofChange ratioReadsSpec)

/-- ITS FALSE NEIGHBOUR: 'it returns false'. Refute it at one input. -/
def ratioReadsWrong : ChangeSpec := { name := "ratioReads", fn := fun _ => fun
  | [d] => { results := [.lit (.bool false)], args := [d] }
  | _ => none }
def RatioReadsWrongFalsely : Prop := ratioReadsRow.holds Tryz.pinned (OpenSpec.ofChange ratioReadsWrong)

/-- 'dendronlaw03.RatioDecimals': WHATEVER THE INPUT: true; the input reads as it did. -/
def ratioDecimalsSpec : ChangeSpec := { name := "ratioDecimals", fn := fun _ => fun
  | [d1, d2] => { results := [.lit (.bool true)], args := [d1, d2] }
  | _ => none }
def ratioDecimalsRow : OpenClaim := { program := "ytcecjcpbehnihaagreatdoor", sum := "36ba957193d8226abdcdc4e57a71884550cc00b82f3ccd40c067238a4dce4c92", func := "dendron/dendronlaw03.RatioDecimals", spec := "ratioDecimals", inPlace := ["internal/bytealg.IndexByteString", "internal/bytealg.IndexString", "internal/abi.NoEscape", "internal/bytealg.MakeNoZero"], recurses := true, named := ["internal/bytealg.MaxLen", "math/bits.deBruijn64tab"], apart := false, laid := [("math/bits.deBruijn64tab", laid_math_bits_deBruijn64tab)] }
def RatioDecimalsSaid : Prop := ratioDecimalsRow.holds Tryz.pinned (OpenSpec.ofChange ratioDecimalsSpec)

/-- ITS FALSE NEIGHBOUR: 'it returns false'. Refute it at one input. -/
def ratioDecimalsWrong : ChangeSpec := { name := "ratioDecimals", fn := fun _ => fun
  | [d1, d2] => { results := [.lit (.bool false)], args := [d1, d2] }
  | _ => none }
def RatioDecimalsWrongFalsely : Prop := ratioDecimalsRow.holds Tryz.pinned (OpenSpec.ofChange ratioDecimalsWrong)

/-- 'dendronlaw03.RatioTexts': WHATEVER THE INPUT: true; the input reads as it did. -/
def ratioTextsSpec : ChangeSpec := { name := "ratioTexts", fn := fun _ => fun
  | [d] => { results := [.lit (.bool true)], args := [d] }
  | _ => none }
def ratioTextsRow : OpenClaim := { program := "ytcecjcpbehnihaagreatdoor", sum := "36ba957193d8226abdcdc4e57a71884550cc00b82f3ccd40c067238a4dce4c92", func := "dendron/dendronlaw03.RatioTexts", spec := "ratioTexts", inPlace := ["internal/bytealg.IndexByteString", "internal/bytealg.IndexString", "internal/abi.NoEscape", "internal/bytealg.MakeNoZero"], recurses := true, named := ["math/bits.deBruijn64tab", "internal/bytealg.MaxLen"], apart := false, laid := [("math/bits.deBruijn64tab", laid_math_bits_deBruijn64tab)] }
def RatioTextsSaid : Prop := ratioTextsRow.holds Tryz.pinned (OpenSpec.ofChange ratioTextsSpec)

/-- ITS FALSE NEIGHBOUR: 'it returns false'. Refute it at one input. -/
def ratioTextsWrong : ChangeSpec := { name := "ratioTexts", fn := fun _ => fun
  | [d] => { results := [.lit (.bool false)], args := [d] }
  | _ => none }
def RatioTextsWrongFalsely : Prop := ratioTextsRow.holds Tryz.pinned (OpenSpec.ofChange ratioTextsWrong)

/-- 'dendronlaw03.RatioSums': WHATEVER THE INPUT: true; the input reads as it did. -/
def ratioSumsSpec : ChangeSpec := { name := "ratioSums", fn := fun _ => fun
  | [d1, d2] => { results := [.lit (.bool true)], args := [d1, d2] }
  | _ => none }
def ratioSumsRow : OpenClaim := { program := "ytcecjcpbehnihaagreatdoor", sum := "36ba957193d8226abdcdc4e57a71884550cc00b82f3ccd40c067238a4dce4c92", func := "dendron/dendronlaw03.RatioSums", spec := "ratioSums", inPlace := ["internal/bytealg.IndexByteString", "internal/bytealg.IndexString", "internal/abi.NoEscape", "internal/bytealg.MakeNoZero"], recurses := true, named := ["math/bits.deBruijn64tab", "internal/bytealg.MaxLen"], apart := false, laid := [("math/bits.deBruijn64tab", laid_math_bits_deBruijn64tab)] }
def RatioSumsSaid : Prop := ratioSumsRow.holds Tryz.pinned (OpenSpec.ofChange ratioSumsSpec)

/-- ITS FALSE NEIGHBOUR: 'it returns false'. Refute it at one input. -/
def ratioSumsWrong : ChangeSpec := { name := "ratioSums", fn := fun _ => fun
  | [d1, d2] => { results := [.lit (.bool false)], args := [d1, d2] }
  | _ => none }
def RatioSumsWrongFalsely : Prop := ratioSumsRow.holds Tryz.pinned (OpenSpec.ofChange ratioSumsWrong)

/-- 'dendronlaw03.RatioAll': WHATEVER THE INPUT: true; the input reads as it did. -/
def ratioAllSpec : ChangeSpec := { name := "ratioAll", fn := fun _ => fun
  | [d] => { results := [.lit (.bool true)], args := [d] }
  | _ => none }
def ratioAllRow : OpenClaim := { program := "ytcecjcpbehnihaagreatdoor", sum := "36ba957193d8226abdcdc4e57a71884550cc00b82f3ccd40c067238a4dce4c92", func := "dendron/dendronlaw03.RatioAll", spec := "ratioAll", inPlace := ["internal/bytealg.IndexByteString", "internal/bytealg.IndexString", "internal/abi.NoEscape", "internal/bytealg.MakeNoZero"], recurses := true, named := ["math/bits.deBruijn64tab", "internal/bytealg.MaxLen"], apart := false, laid := [("math/bits.deBruijn64tab", laid_math_bits_deBruijn64tab)] }
def RatioAllSaid : Prop := ratioAllRow.holds Tryz.pinned (OpenSpec.ofChange ratioAllSpec)

/-- ITS FALSE NEIGHBOUR: 'it returns false'. Refute it at one input. -/
def ratioAllWrong : ChangeSpec := { name := "ratioAll", fn := fun _ => fun
  | [d] => { results := [.lit (.bool false)], args := [d] }
  | _ => none }
def RatioAllWrongFalsely : Prop := ratioAllRow.holds Tryz.pinned (OpenSpec.ofChange ratioAllWrong)

/-- 'dendronlaw03.RatioUnfolds': WHATEVER THE INPUT: true; the input reads as it did. -/
def ratioUnfoldsSpec : ChangeSpec := { name := "ratioUnfolds", fn := fun _ => fun
  | [d] => { results := [.lit (.bool true)], args := [d] }
  | _ => none }
def ratioUnfoldsRow : OpenClaim := { program := "ytcecjcpbehnihaagreatdoor", sum := "36ba957193d8226abdcdc4e57a71884550cc00b82f3ccd40c067238a4dce4c92", func := "dendron/dendronlaw03.RatioUnfolds", spec := "ratioUnfolds", inPlace := ["internal/bytealg.IndexByteString", "internal/bytealg.IndexString", "internal/abi.NoEscape", "internal/bytealg.MakeNoZero"], recurses := true, named := ["math/bits.deBruijn64tab", "internal/bytealg.MaxLen"], apart := false, laid := [("math/bits.deBruijn64tab", laid_math_bits_deBruijn64tab)] }
def RatioUnfoldsSaid : Prop := ratioUnfoldsRow.holds Tryz.pinned (OpenSpec.ofChange ratioUnfoldsSpec)

/-- ITS FALSE NEIGHBOUR: 'it returns false'. Refute it at one input. -/
def ratioUnfoldsWrong : ChangeSpec := { name := "ratioUnfolds", fn := fun _ => fun
  | [d] => { results := [.lit (.bool false)], args := [d] }
  | _ => none }
def RatioUnfoldsWrongFalsely : Prop := ratioUnfoldsRow.holds Tryz.pinned (OpenSpec.ofChange ratioUnfoldsWrong)

/-- 'dendronlaw03.RatioForms': WHATEVER THE INPUT: true; the input reads as it did. -/
def ratioFormsSpec : ChangeSpec := { name := "ratioForms", fn := fun _ => fun
  | [d] => { results := [.lit (.bool true)], args := [d] }
  | _ => none }
def ratioFormsRow : OpenClaim := { program := "ytcecjcpbehnihaagreatdoor", sum := "36ba957193d8226abdcdc4e57a71884550cc00b82f3ccd40c067238a4dce4c92", func := "dendron/dendronlaw03.RatioForms", spec := "ratioForms", inPlace := ["internal/bytealg.IndexByteString", "internal/bytealg.IndexString", "internal/abi.NoEscape", "internal/bytealg.MakeNoZero"], recurses := true, named := ["math/bits.deBruijn64tab", "internal/bytealg.MaxLen"], apart := false, laid := [("math/bits.deBruijn64tab", laid_math_bits_deBruijn64tab)] }
def RatioFormsSaid : Prop := ratioFormsRow.holds Tryz.pinned (OpenSpec.ofChange ratioFormsSpec)

/-- ITS FALSE NEIGHBOUR: 'it returns false'. Refute it at one input. -/
def ratioFormsWrong : ChangeSpec := { name := "ratioForms", fn := fun _ => fun
  | [d] => { results := [.lit (.bool false)], args := [d] }
  | _ => none }
def RatioFormsWrongFalsely : Prop := ratioFormsRow.holds Tryz.pinned (OpenSpec.ofChange ratioFormsWrong)

/-- 'dendronlaw03.RatioFolds': WHATEVER THE INPUT: true; the input reads as it did. -/
def ratioFoldsSpec : ChangeSpec := { name := "ratioFolds", fn := fun _ => fun
  | [d] => { results := [.lit (.bool true)], args := [d] }
  | _ => none }
def ratioFoldsRow : OpenClaim := { program := "ytcecjcpbehnihaagreatdoor", sum := "36ba957193d8226abdcdc4e57a71884550cc00b82f3ccd40c067238a4dce4c92", func := "dendron/dendronlaw03.RatioFolds", spec := "ratioFolds", inPlace := ["internal/bytealg.IndexByteString", "internal/bytealg.IndexString", "internal/abi.NoEscape", "internal/bytealg.MakeNoZero"], recurses := true, named := ["math/bits.deBruijn64tab", "internal/bytealg.MaxLen"], apart := false, laid := [("math/bits.deBruijn64tab", laid_math_bits_deBruijn64tab)] }
def RatioFoldsSaid : Prop := ratioFoldsRow.holds Tryz.pinned (OpenSpec.ofChange ratioFoldsSpec)

/-- ITS FALSE NEIGHBOUR: 'it returns false'. Refute it at one input. -/
def ratioFoldsWrong : ChangeSpec := { name := "ratioFolds", fn := fun _ => fun
  | [d] => { results := [.lit (.bool false)], args := [d] }
  | _ => none }
def RatioFoldsWrongFalsely : Prop := ratioFoldsRow.holds Tryz.pinned (OpenSpec.ofChange ratioFoldsWrong)

/-- 'dendronlaw03.RatioBetweens': WHATEVER THE INPUT: true; the input reads as it did. -/
def ratioBetweensSpec : ChangeSpec := { name := "ratioBetweens", fn := fun _ => fun
  | [d1, d2, d3] => { results := [.lit (.bool true)], args := [d1, d2, d3] }
  | _ => none }
def ratioBetweensRow : OpenClaim := { program := "ytcecjcpbehnihaagreatdoor", sum := "36ba957193d8226abdcdc4e57a71884550cc00b82f3ccd40c067238a4dce4c92", func := "dendron/dendronlaw03.RatioBetweens", spec := "ratioBetweens", inPlace := ["internal/bytealg.IndexByteString", "internal/bytealg.IndexString", "internal/abi.NoEscape", "internal/bytealg.MakeNoZero"], recurses := true, named := ["internal/bytealg.MaxLen", "math/bits.deBruijn64tab"], apart := false, laid := [("math/bits.deBruijn64tab", laid_math_bits_deBruijn64tab)] }
def RatioBetweensSaid : Prop := ratioBetweensRow.holds Tryz.pinned (OpenSpec.ofChange ratioBetweensSpec)

/-- ITS FALSE NEIGHBOUR: 'it returns false'. Refute it at one input. -/
def ratioBetweensWrong : ChangeSpec := { name := "ratioBetweens", fn := fun _ => fun
  | [d1, d2, d3] => { results := [.lit (.bool false)], args := [d1, d2, d3] }
  | _ => none }
def RatioBetweensWrongFalsely : Prop := ratioBetweensRow.holds Tryz.pinned (OpenSpec.ofChange ratioBetweensWrong)

/-- 'dendronlaw03.RatioPowers': WHATEVER THE INPUT: true; the input reads as it did. -/
def ratioPowersSpec : ChangeSpec := { name := "ratioPowers", fn := fun _ => fun
  | [d1, d2] => { results := [.lit (.bool true)], args := [d1, d2] }
  | _ => none }
def ratioPowersRow : OpenClaim := { program := "ytcecjcpbehnihaagreatdoor", sum := "36ba957193d8226abdcdc4e57a71884550cc00b82f3ccd40c067238a4dce4c92", func := "dendron/dendronlaw03.RatioPowers", spec := "ratioPowers", inPlace := ["internal/bytealg.IndexByteString", "internal/bytealg.IndexString", "internal/abi.NoEscape", "internal/bytealg.MakeNoZero"], recurses := true, named := ["internal/bytealg.MaxLen", "math/bits.deBruijn64tab"], apart := false, laid := [("math/bits.deBruijn64tab", laid_math_bits_deBruijn64tab)] }
def RatioPowersSaid : Prop := ratioPowersRow.holds Tryz.pinned (OpenSpec.ofChange ratioPowersSpec)

/-- ITS FALSE NEIGHBOUR: 'it returns false'. Refute it at one input. -/
def ratioPowersWrong : ChangeSpec := { name := "ratioPowers", fn := fun _ => fun
  | [d1, d2] => { results := [.lit (.bool false)], args := [d1, d2] }
  | _ => none }
def RatioPowersWrongFalsely : Prop := ratioPowersRow.holds Tryz.pinned (OpenSpec.ofChange ratioPowersWrong)

/- THE SECOND FORM. 'bulk': how many values and letters a reading holds, each counted each time it is reached (what is shared counts as often as it is met; a slice's spare places count too). A statement '..UptoSaid' is the law's where the arguments, and the package variables that the reading takes, are together of bulk at most 1048576: NARROWER than '..Said'. Prove '..Said' where nothing that the law and all that it calls make is longer than what came in: it says more and counts as full. Else prove '..UptoSaid'. A law counts once. -/
mutual
def uptoBulk {H : Type} : DataW H → Nat
  | .lit (.string bytes) => bytes.length + 1
  | .lit _ => 1
  | .nil => 1
  | .ptr d => uptoBulk d + 1
  | .slice elems spare => uptoBulkAll elems + uptoBulkAll spare + 1
  | .agg parts => uptoBulkAll parts + 1
  | .iface _ d => uptoBulk d + 1
  | .map entries => uptoBulkEntries entries + 1
  | .held _ => 1
def uptoBulkAll {H : Type} : List (DataW H) → Nat
  | [] => 0
  | d :: r => uptoBulk d + uptoBulkAll r
def uptoBulkEntries {H : Type} : List (Lit × DataW H) → Nat
  | [] => 0
  | x :: r => uptoBulkEntry x + uptoBulkEntries r
def uptoBulkEntry {H : Type} : Lit × DataW H → Nat
  | (.string bytes, d) => bytes.length + uptoBulk d + 1
  | (_, d) => uptoBulk d + 1
 end
def uptoSmall : (H : Type) → List (DataW H) → Bool := fun _ ds => decide (uptoBulkAll ds ≤ 1048576)
def OpenSpec.upto (s : _root_.Go.ChangeSpec) : _root_.Go.OpenSpec := { _root_.Go.OpenSpec.ofChange s with cond := some uptoSmall }

/-- 'dendronlaw03.RatioMakes', WHERE WHAT IT READS IS OF BULK AT MOST 1048576: true; the input reads as it did. -/
def ratioMakesUptoRow : OpenClaim := { program := "ytcecjcpbehnihaagreatdoor", sum := "36ba957193d8226abdcdc4e57a71884550cc00b82f3ccd40c067238a4dce4c92", func := "dendron/dendronlaw03.RatioMakes", spec := "ratioMakes", inPlace := ["internal/bytealg.IndexByteString", "internal/bytealg.IndexString", "internal/abi.NoEscape", "internal/bytealg.MakeNoZero"], recurses := true, named := ["math/bits.deBruijn64tab", "internal/bytealg.MaxLen"], apart := false, laid := [("math/bits.deBruijn64tab", laid_math_bits_deBruijn64tab)], narrowed := true }
def RatioMakesUptoSaid : Prop := ratioMakesUptoRow.holds Tryz.pinned (OpenSpec.upto ratioMakesSpec)

/-- 'dendronlaw03.RatioRounds', WHERE WHAT IT READS IS OF BULK AT MOST 1048576: true; the input reads as it did. -/
def ratioRoundsUptoRow : OpenClaim := { program := "ytcecjcpbehnihaagreatdoor", sum := "36ba957193d8226abdcdc4e57a71884550cc00b82f3ccd40c067238a4dce4c92", func := "dendron/dendronlaw03.RatioRounds", spec := "ratioRounds", inPlace := ["internal/bytealg.IndexByteString", "internal/bytealg.IndexString", "internal/abi.NoEscape", "internal/bytealg.MakeNoZero"], recurses := true, named := ["math/bits.deBruijn64tab", "internal/bytealg.MaxLen"], apart := false, laid := [("math/bits.deBruijn64tab", laid_math_bits_deBruijn64tab)], narrowed := true }
def RatioRoundsUptoSaid : Prop := ratioRoundsUptoRow.holds Tryz.pinned (OpenSpec.upto ratioRoundsSpec)

/-- 'dendronlaw03.RatioSimplest', WHERE WHAT IT READS IS OF BULK AT MOST 1048576: true; the input reads as it did. -/
def ratioSimplestUptoRow : OpenClaim := { program := "ytcecjcpbehnihaagreatdoor", sum := "36ba957193d8226abdcdc4e57a71884550cc00b82f3ccd40c067238a4dce4c92", func := "dendron/dendronlaw03.RatioSimplest", spec := "ratioSimplest", inPlace := ["internal/bytealg.IndexByteString", "internal/bytealg.IndexString", "internal/abi.NoEscape", "internal/bytealg.MakeNoZero"], recurses := true, named := ["math/bits.deBruijn64tab", "internal/bytealg.MaxLen"], apart := false, laid := [("math/bits.deBruijn64tab", laid_math_bits_deBruijn64tab)], narrowed := true }
def RatioSimplestUptoSaid : Prop := ratioSimplestUptoRow.holds Tryz.pinned (OpenSpec.upto ratioSimplestSpec)

/-- 'dendronlaw03.RatioNears', WHERE WHAT IT READS IS OF BULK AT MOST 1048576: true; the input reads as it did. -/
def ratioNearsUptoRow : OpenClaim := { program := "ytcecjcpbehnihaagreatdoor", sum := "36ba957193d8226abdcdc4e57a71884550cc00b82f3ccd40c067238a4dce4c92", func := "dendron/dendronlaw03.RatioNears", spec := "ratioNears", inPlace := ["internal/bytealg.IndexByteString", "internal/bytealg.IndexString", "internal/abi.NoEscape", "internal/bytealg.MakeNoZero"], recurses := true, named := ["internal/bytealg.MaxLen", "math/bits.deBruijn64tab"], apart := false, laid := [("math/bits.deBruijn64tab", laid_math_bits_deBruijn64tab)], narrowed := true }
def RatioNearsUptoSaid : Prop := ratioNearsUptoRow.holds Tryz.pinned (OpenSpec.upto ratioNearsSpec)

/-- 'dendronlaw03.RatioReads', WHERE WHAT IT READS IS OF BULK AT MOST 1048576: true; the input reads as it did. -/
def ratioReadsUptoRow : OpenClaim := { program := "ytcecjcpbehnihaagreatdoor", sum := "36ba957193d8226abdcdc4e57a71884550cc00b82f3ccd40c067238a4dce4c92", func := "dendron/dendronlaw03.RatioReads", spec := "ratioReads", inPlace := ["internal/bytealg.IndexByteString", "internal/bytealg.IndexString", "internal/abi.NoEscape", "internal/bytealg.MakeNoZero"], recurses := true, named := ["internal/bytealg.MaxLen", "math/bits.deBruijn64tab"], apart := false, laid := [("math/bits.deBruijn64tab", laid_math_bits_deBruijn64tab)], narrowed := true }
def RatioReadsUptoSaid : Prop := ratioReadsUptoRow.holds Tryz.pinned (OpenSpec.upto ratioReadsSpec)

/-- 'dendronlaw03.RatioDecimals', WHERE WHAT IT READS IS OF BULK AT MOST 1048576: true; the input reads as it did. -/
def ratioDecimalsUptoRow : OpenClaim := { program := "ytcecjcpbehnihaagreatdoor", sum := "36ba957193d8226abdcdc4e57a71884550cc00b82f3ccd40c067238a4dce4c92", func := "dendron/dendronlaw03.RatioDecimals", spec := "ratioDecimals", inPlace := ["internal/bytealg.IndexByteString", "internal/bytealg.IndexString", "internal/abi.NoEscape", "internal/bytealg.MakeNoZero"], recurses := true, named := ["internal/bytealg.MaxLen", "math/bits.deBruijn64tab"], apart := false, laid := [("math/bits.deBruijn64tab", laid_math_bits_deBruijn64tab)], narrowed := true }
def RatioDecimalsUptoSaid : Prop := ratioDecimalsUptoRow.holds Tryz.pinned (OpenSpec.upto ratioDecimalsSpec)

/-- 'dendronlaw03.RatioTexts', WHERE WHAT IT READS IS OF BULK AT MOST 1048576: true; the input reads as it did. -/
def ratioTextsUptoRow : OpenClaim := { program := "ytcecjcpbehnihaagreatdoor", sum := "36ba957193d8226abdcdc4e57a71884550cc00b82f3ccd40c067238a4dce4c92", func := "dendron/dendronlaw03.RatioTexts", spec := "ratioTexts", inPlace := ["internal/bytealg.IndexByteString", "internal/bytealg.IndexString", "internal/abi.NoEscape", "internal/bytealg.MakeNoZero"], recurses := true, named := ["math/bits.deBruijn64tab", "internal/bytealg.MaxLen"], apart := false, laid := [("math/bits.deBruijn64tab", laid_math_bits_deBruijn64tab)], narrowed := true }
def RatioTextsUptoSaid : Prop := ratioTextsUptoRow.holds Tryz.pinned (OpenSpec.upto ratioTextsSpec)

/-- 'dendronlaw03.RatioSums', WHERE WHAT IT READS IS OF BULK AT MOST 1048576: true; the input reads as it did. -/
def ratioSumsUptoRow : OpenClaim := { program := "ytcecjcpbehnihaagreatdoor", sum := "36ba957193d8226abdcdc4e57a71884550cc00b82f3ccd40c067238a4dce4c92", func := "dendron/dendronlaw03.RatioSums", spec := "ratioSums", inPlace := ["internal/bytealg.IndexByteString", "internal/bytealg.IndexString", "internal/abi.NoEscape", "internal/bytealg.MakeNoZero"], recurses := true, named := ["math/bits.deBruijn64tab", "internal/bytealg.MaxLen"], apart := false, laid := [("math/bits.deBruijn64tab", laid_math_bits_deBruijn64tab)], narrowed := true }
def RatioSumsUptoSaid : Prop := ratioSumsUptoRow.holds Tryz.pinned (OpenSpec.upto ratioSumsSpec)

/-- 'dendronlaw03.RatioAll', WHERE WHAT IT READS IS OF BULK AT MOST 1048576: true; the input reads as it did. -/
def ratioAllUptoRow : OpenClaim := { program := "ytcecjcpbehnihaagreatdoor", sum := "36ba957193d8226abdcdc4e57a71884550cc00b82f3ccd40c067238a4dce4c92", func := "dendron/dendronlaw03.RatioAll", spec := "ratioAll", inPlace := ["internal/bytealg.IndexByteString", "internal/bytealg.IndexString", "internal/abi.NoEscape", "internal/bytealg.MakeNoZero"], recurses := true, named := ["math/bits.deBruijn64tab", "internal/bytealg.MaxLen"], apart := false, laid := [("math/bits.deBruijn64tab", laid_math_bits_deBruijn64tab)], narrowed := true }
def RatioAllUptoSaid : Prop := ratioAllUptoRow.holds Tryz.pinned (OpenSpec.upto ratioAllSpec)

/-- 'dendronlaw03.RatioUnfolds', WHERE WHAT IT READS IS OF BULK AT MOST 1048576: true; the input reads as it did. -/
def ratioUnfoldsUptoRow : OpenClaim := { program := "ytcecjcpbehnihaagreatdoor", sum := "36ba957193d8226abdcdc4e57a71884550cc00b82f3ccd40c067238a4dce4c92", func := "dendron/dendronlaw03.RatioUnfolds", spec := "ratioUnfolds", inPlace := ["internal/bytealg.IndexByteString", "internal/bytealg.IndexString", "internal/abi.NoEscape", "internal/bytealg.MakeNoZero"], recurses := true, named := ["math/bits.deBruijn64tab", "internal/bytealg.MaxLen"], apart := false, laid := [("math/bits.deBruijn64tab", laid_math_bits_deBruijn64tab)], narrowed := true }
def RatioUnfoldsUptoSaid : Prop := ratioUnfoldsUptoRow.holds Tryz.pinned (OpenSpec.upto ratioUnfoldsSpec)

/-- 'dendronlaw03.RatioForms', WHERE WHAT IT READS IS OF BULK AT MOST 1048576: true; the input reads as it did. -/
def ratioFormsUptoRow : OpenClaim := { program := "ytcecjcpbehnihaagreatdoor", sum := "36ba957193d8226abdcdc4e57a71884550cc00b82f3ccd40c067238a4dce4c92", func := "dendron/dendronlaw03.RatioForms", spec := "ratioForms", inPlace := ["internal/bytealg.IndexByteString", "internal/bytealg.IndexString", "internal/abi.NoEscape", "internal/bytealg.MakeNoZero"], recurses := true, named := ["math/bits.deBruijn64tab", "internal/bytealg.MaxLen"], apart := false, laid := [("math/bits.deBruijn64tab", laid_math_bits_deBruijn64tab)], narrowed := true }
def RatioFormsUptoSaid : Prop := ratioFormsUptoRow.holds Tryz.pinned (OpenSpec.upto ratioFormsSpec)

/-- 'dendronlaw03.RatioFolds', WHERE WHAT IT READS IS OF BULK AT MOST 1048576: true; the input reads as it did. -/
def ratioFoldsUptoRow : OpenClaim := { program := "ytcecjcpbehnihaagreatdoor", sum := "36ba957193d8226abdcdc4e57a71884550cc00b82f3ccd40c067238a4dce4c92", func := "dendron/dendronlaw03.RatioFolds", spec := "ratioFolds", inPlace := ["internal/bytealg.IndexByteString", "internal/bytealg.IndexString", "internal/abi.NoEscape", "internal/bytealg.MakeNoZero"], recurses := true, named := ["math/bits.deBruijn64tab", "internal/bytealg.MaxLen"], apart := false, laid := [("math/bits.deBruijn64tab", laid_math_bits_deBruijn64tab)], narrowed := true }
def RatioFoldsUptoSaid : Prop := ratioFoldsUptoRow.holds Tryz.pinned (OpenSpec.upto ratioFoldsSpec)

/-- 'dendronlaw03.RatioBetweens', WHERE WHAT IT READS IS OF BULK AT MOST 1048576: true; the input reads as it did. -/
def ratioBetweensUptoRow : OpenClaim := { program := "ytcecjcpbehnihaagreatdoor", sum := "36ba957193d8226abdcdc4e57a71884550cc00b82f3ccd40c067238a4dce4c92", func := "dendron/dendronlaw03.RatioBetweens", spec := "ratioBetweens", inPlace := ["internal/bytealg.IndexByteString", "internal/bytealg.IndexString", "internal/abi.NoEscape", "internal/bytealg.MakeNoZero"], recurses := true, named := ["internal/bytealg.MaxLen", "math/bits.deBruijn64tab"], apart := false, laid := [("math/bits.deBruijn64tab", laid_math_bits_deBruijn64tab)], narrowed := true }
def RatioBetweensUptoSaid : Prop := ratioBetweensUptoRow.holds Tryz.pinned (OpenSpec.upto ratioBetweensSpec)

/-- 'dendronlaw03.RatioPowers', WHERE WHAT IT READS IS OF BULK AT MOST 1048576: true; the input reads as it did. -/
def ratioPowersUptoRow : OpenClaim := { program := "ytcecjcpbehnihaagreatdoor", sum := "36ba957193d8226abdcdc4e57a71884550cc00b82f3ccd40c067238a4dce4c92", func := "dendron/dendronlaw03.RatioPowers", spec := "ratioPowers", inPlace := ["internal/bytealg.IndexByteString", "internal/bytealg.IndexString", "internal/abi.NoEscape", "internal/bytealg.MakeNoZero"], recurses := true, named := ["internal/bytealg.MaxLen", "math/bits.deBruijn64tab"], apart := false, laid := [("math/bits.deBruijn64tab", laid_math_bits_deBruijn64tab)], narrowed := true }
def RatioPowersUptoSaid : Prop := ratioPowersUptoRow.holds Tryz.pinned (OpenSpec.upto ratioPowersSpec)

end Rows
end Go.Proofs.YtcecjcpbehnihaaGreatDoor
