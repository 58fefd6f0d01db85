/- What methods of the library do, told. No condition. -/
import Derived.Test.YtajagmmjkmmchaaDoorDIc
import Derived.Test.YtajagmmjkmmchaaDoorFn
import Derived.Test.YtajagmmjkmmchaaDoorProg
import Derived.ProofKit
import Derived.Laws.Externs
import Derived.Laws.Entries
set_option linter.all false
namespace Go.DI
open Go.Lib
open Go Go.RowKit Go.Proofs
set_option linter.unusedVariables false
instance : Tabs := ⟨[(0, tab_deBruijn64tab.map fun x => .int .u8 x)], 999999, 5⟩
end Go.DI
