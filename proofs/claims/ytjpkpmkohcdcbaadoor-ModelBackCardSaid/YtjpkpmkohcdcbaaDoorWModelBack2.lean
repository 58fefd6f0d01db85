/- The code of the functions does what is told of it, part 2. No condition. -/
import Derived.Test.YtjpkpmkohcdcbaaDoorWModelBack1
set_option linter.all false
namespace Go.DI
open Go Go.RowKit Go.Proofs
set_option linter.unusedVariables false
set_option maxRecDepth 20000
def c42 (x : Bool × List Int) : List Dat := [.bool x.1, L78 x.2]
def L42 (xs : List (Bool × List Int)) : Dat := fr 2 c42 (false, []) xs
def Z42 (xs : List (Bool × List Int)) : Sup := .r xs.length (enc c42 (false, []) xs)
def O42 (k : RK) (xs : List (Bool × List Int)) : Ob := .row k 42 2 xs.length (enc c42 (false, []) xs)

def c40 (x : List Int) : List Dat := [L78 x]
def L40 (xs : List (List Int)) : Dat := fr 1 c40 [] xs
def Z40 (xs : List (List Int)) : Sup := .r xs.length (enc c40 [] xs)
def O40 (k : RK) (xs : List (List Int)) : Ob := .row k 40 1 xs.length (enc c40 [] xs)

end Go.DI
