/- Mirrors: Ps. Printed by mx.py. -/
import Derived.Test.YtkdghilkigojgaaMirE
import Derived.Test.YtkdghilkigojgaaPln
import Derived.Test.YtkdghilkigojgaaPaM
set_option linter.unusedVariables false
set_option maxRecDepth 100000
namespace Go.Sx
open Go Go.RowKit


/-- headend/headendlaw04.PolySecrets -/
def law04_PolySecrets (p0 : W2) (p1 : TScheme) (p2 : Int) : Option (Bool) := Option.bind (poly_Secret p0 p1 p2) fun x1 => (Option.bind (ref04_Secret p0 p1 p2) fun x2 => (Option.bind (ref03_SameSecret x1.1 x2.1) fun x3 => ((bif x3 then (some (decide (x1.2 = x2.2))) else (some false)))))
end Go.Sx
