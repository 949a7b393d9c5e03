/- Mirrors: Ky. Printed by mx.py. -/
import Derived.Test.YtjdffpglgkefmaaGreatMirE
import Derived.Test.YtjdffpglgkefmaaGreatPln
import Derived.Test.YtjdffpglgkefmaaGreatWe5M
set_option linter.unusedVariables false
set_option maxRecDepth 100000
namespace Go.Sx
open Go Go.RowKit


/-- headend/headendlaw05.EpochKeys -/
def law05_EpochKeys (p0 : W2) (p1 : TScheme) (p2 : Int) (p3 : Int) : Option (Bool) := Option.bind (epoch_Secret p0 p1 p3) fun x1 => (Option.bind (ref05_Secret p0 p1 p3) fun x2 => (Option.bind (epoch_Session p0 p2) fun x3 => (Option.bind (ref05_Session p0 p2) fun x4 => ((if x3 = x4 then Option.bind (epoch_Word x3 p3) fun x5 => (Option.bind (ref05_Word x3 p3) fun x6 => ((if x5 = x6 then Option.bind (epoch_CheckScheme p1) fun x7 => (Option.bind (ref05_CheckScheme p1) fun x8 => ((if x7 = x8 then Option.bind (ref05_SameSecret x1.1 x2.1) fun x9 => ((bif x9 then (some (decide (x1.2 = x2.2))) else (some false))) else (some false)))) else (some false)))) else (some false))))))
end Go.Sx
