/- Mirrors: Se. Printed by mx.py. -/
import Derived.Test.YtecempahccgijaaMirE
import Derived.Test.YtecempahccgijaaPln
import Derived.Test.YtecempahccgijaaCbM
set_option linter.unusedVariables false
set_option maxRecDepth 100000
namespace Go.Sx
open Go Go.RowKit


/-- headend/headendlaw03.CoverSeals -/
def law03_CoverSeals (p0 : W2) (p1 : TScheme) (p2 : List TSubset) (p3 : W2) : Option (Bool) := Option.bind (appG 16 [] p2) fun l1 => (Option.bind (cover_Seal p0 p1 l1 p3) fun x2 => (Option.bind (ref03_Seal p0 p1 p2 p3) fun x3 => (Option.bind (ref03_SameHeader x2.1 x3.1) fun x4 => ((bif x4 then (if x2.2 = x3.2 then Option.bind (ref03_SameSubsets l1 p2) fun x5 => ((some x5)) else (some false)) else (some false))))))
end Go.Sx
