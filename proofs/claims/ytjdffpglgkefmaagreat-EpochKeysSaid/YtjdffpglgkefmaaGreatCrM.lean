/- Mirrors: Cr. Printed by mx.py. -/
import Derived.Test.YtjdffpglgkefmaaGreatMirE
import Derived.Test.YtjdffpglgkefmaaGreatPln
import Derived.Test.YtjdffpglgkefmaaGreatCaM
set_option linter.unusedVariables false
set_option maxRecDepth 100000
namespace Go.Sx
open Go Go.RowKit


/-- headend/headendref03.Valid -/
def ref03_Valid (p0 : TScheme) : Option (Bool) := (if 1#8 ≤ p0.Kind then (if p0.Kind ≤ 3#8 then (if (0 : Int) ≤ p0.Depth then (if p0.Depth ≤ 6 then (if p0.Degree = 0 then (some (decide (p0.Group = (TGroup.mk 0#64 0#64 0#64)))) else (some false)) else (some false)) else (some false)) else (some false)) else (some false))

/-- headend/headendref03.Check -/
def ref03_Check (p0 : TScheme) : Option (Int) := Option.bind (ref03_Valid p0) fun x1 => ((bif (!x1) then (some 30) else (some 0)))
end Go.Sx
