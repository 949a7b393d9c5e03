/- Mirrors: Pe. Printed by mx.py. -/
import Derived.Test.YtkdghilkigojgaaMirE
import Derived.Test.YtkdghilkigojgaaPln
import Derived.Test.YtkdghilkigojgaaPbM
set_option linter.unusedVariables false
set_option maxRecDepth 100000
namespace Go.Sx
open Go Go.RowKit


/-- headend/headendlaw04.PolySeals -/
def law04_PolySeals (p0 : W2) (p1 : TScheme) (p2 : List Int) (p3 : W2) (p4 : BitVec 64) : Option (Bool) := Option.bind (appG 8 [] p2) fun l1 => (Option.bind (poly_Seal p0 p1 l1 p3 p4) fun x2 => (Option.bind (ref04_Seal p0 p1 p2 p3 p4) fun x3 => (Option.bind (ref03_SameHeader x2.1 x3.1) fun x4 => ((bif x4 then (if x2.2 = x3.2 then Option.bind (ref03_SameInts l1 p2) fun x5 => ((some x5)) else (some false)) else (some false))))))
end Go.Sx
