/- Mirrors: Co. Printed by mx.py. -/
import Derived.Test.YtecempahccgijaaMirE
import Derived.Test.YtecempahccgijaaPln
import Derived.Test.YtecempahccgijaaWvM
set_option linter.unusedVariables false
set_option maxRecDepth 100000
namespace Go.Sx
open Go Go.RowKit
noncomputable section


/-- headend/headendlaw03.CoverCovers -/
def law03_CoverCovers (p0 : TScheme) (p1 : List Int) : Option (Bool) := Option.bind (appG 8 [] p1) fun l1 => (Option.bind (cover_Cover p0 l1) fun x2 => (Option.bind (ref03_Cover p0 p1) fun x3 => (Option.bind (ref03_SameSubsets x2.1 x3.1) fun x4 => ((bif x4 then (if x2.2 = x3.2 then Option.bind (ref03_SameInts l1 p1) fun x5 => ((some x5)) else (some false)) else (some false))))))
end
end Go.Sx
