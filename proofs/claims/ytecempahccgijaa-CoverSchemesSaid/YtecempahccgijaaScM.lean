/- Mirrors: Sc. Printed by mx.py. -/
import Derived.Test.YtecempahccgijaaMirE
import Derived.Test.YtecempahccgijaaPln
import Derived.Test.YtecempahccgijaaClM
set_option linter.unusedVariables false
set_option maxRecDepth 100000
namespace Go.Sx
open Go Go.RowKit


def law03_CoverSchemes_J1 (p0 : TScheme) (p1 : TSubset) (a3 : Bool) : Option (Bool) := (bif a3 then (some false) else Option.bind (cover_Members p0 p1) fun x4 => (Option.bind (ref03_Members p0 p1) fun x5 => (Option.bind (ref03_SameInts x4.1 x5.1) fun x6 => ((bif x6 then (some (decide (x4.2 = x5.2))) else (some false))))))

/-- headend/headendlaw03.CoverSchemes -/
def law03_CoverSchemes (p0 : TScheme) (p1 : TSubset) : Option (Bool) := Option.bind (cover_Storage p0) fun x1 => (Option.bind (ref03_Storage p0) fun x2 => ((if x1.1 ≠ x2.1 then (law03_CoverSchemes_J1 p0 p1 true) else (if x1.2 ≠ x2.2 then (law03_CoverSchemes_J1 p0 p1 true) else Option.bind (cover_Check p0) fun x7 => (Option.bind (ref03_Check p0) fun x8 => ((law03_CoverSchemes_J1 p0 p1 (decide (x7 ≠ x8)))))))))
end Go.Sx
