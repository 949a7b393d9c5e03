/- More words of the mirrors: the greater and the lesser, bounds of a slice with a capacity. -/
import Derived.Test.YtjdffpglgkefmaaGreatMir
set_option linter.unusedVariables false
namespace Go.Sx
open Go

def mxI (a b : Int) : Int := if a < b then b else a
def mnI (a b : Int) : Int := if b < a then b else a
def mxU (a b : BitVec 64) : BitVec 64 := if a < b then b else a
def mnU (a b : BitVec 64) : BitVec 64 := if b < a then b else a
def sli3G {α : Type} (l : List α) (lo hi : Int) : Option Unit := if 0 ≤ lo ∧ lo ≤ hi ∧ hi ≤ l.length then some () else none
end Go.Sx
