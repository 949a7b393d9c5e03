/- Mirrors: Qc. Printed by mx.py. -/
import Derived.Test.YtkdghilkigojgaaMirE
import Derived.Test.YtkdghilkigojgaaPln
import Derived.Test.YtkdghilkigojgaaXwM
set_option linter.unusedVariables false
set_option maxRecDepth 100000
namespace Go.Sx
open Go Go.RowKit


def law04_PolyShares_J1 (p0 : W2) (p1 : TScheme) (p2 : Int) (x1 : Bool) (x2 : TSecret × Int) (a3 : Bool) : Option (Bool) := (bif a3 then (bif x1 then (if x2.2 = 30 then (some true) else (some (decide (x2.2 = 2)))) else (some false)) else Option.bind (poly_Coefficients p0 p1) fun x4 => (Option.bind (poly_Value p1 x4.1 ((wd p2) + 1#64)) fun x5 => ((bif x1 then (if x2.2 = 0 then (if x4.2 = 0 then (if x5.2 = 0 then (if x2.1.Receiver = p2 then (if (x2.1.Labels.length : Int) = 0 then (some (decide (x2.1.Share = (TPoint.mk ((wd p2) + 1#64) x5.1)))) else (some false)) else (some false)) else (some false)) else (some false)) else (some false)) else (some false)))))

/-- headend/headendlaw04.PolyShares -/
def law04_PolyShares (p0 : W2) (p1 : TScheme) (p2 : Int) : Option (Bool) := Option.bind (law04_alive) fun x1 => (Option.bind (poly_Secret p0 p1 p2) fun x2 => (Option.bind (ref04_Valid p1) fun x6 => ((bif (!x6) then (law04_PolyShares_J1 p0 p1 p2 x1 x2 true) else (if p2 < 0 then (law04_PolyShares_J1 p0 p1 p2 x1 x2 true) else Option.bind (shG p1.Depth) fun n7 => ((law04_PolyShares_J1 p0 p1 p2 x1 x2 (decide (shlI 1 n7 ≤ p2)))))))))
end Go.Sx
