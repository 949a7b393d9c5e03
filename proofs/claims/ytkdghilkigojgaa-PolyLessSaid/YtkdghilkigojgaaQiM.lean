/- Mirrors: Qi. Printed by mx.py. -/
import Derived.Test.YtkdghilkigojgaaMirE
import Derived.Test.YtkdghilkigojgaaPln
import Derived.Test.YtkdghilkigojgaaXlM
set_option linter.unusedVariables false
set_option maxRecDepth 100000
namespace Go.Sx
open Go Go.RowKit


def law04_PolyLess_J1 (p0 : TPunctured) (p1 : Int) (p2 : Int) (x1 : Bool) (x2 : TPunctured × Int) (a3 : Bool) : Option (Bool) := (bif a3 then (bif x1 then (if x2.2 = 8 then (some true) else (some (decide (x2.2 = 2)))) else (some false)) else Option.bind (poly_Evaluate x2.1 p1) fun x4 => (Option.bind (poly_Evaluate p0 p2) fun x5 => (Option.bind (poly_Evaluate x2.1 p2) fun x6 => ((bif x1 then (if x2.2 = 0 then Option.bind (poly_CheckPunctured x2.1) fun x7 => ((if x7 = 0 then (if x4.2 = 6 then (if p2 = p1 then (some true) else (if x5.2 = x6.2 then (some (decide (x5.1 = x6.1))) else (some false))) else (some false)) else (some false))) else (some false)) else (some false))))))

/-- headend/headendlaw04.PolyLess -/
def law04_PolyLess (p0 : TPunctured) (p1 : Int) (p2 : Int) : Option (Bool) := Option.bind (law04_alive) fun x1 => (Option.bind (poly_Puncture p0 p1) fun x2 => (Option.bind (ref04_ValidPunctured p0) fun x8 => ((bif (!x8) then (law04_PolyLess_J1 p0 p1 p2 x1 x2 true) else (if p1 < 0 then (law04_PolyLess_J1 p0 p1 p2 x1 x2 true) else Option.bind (shG p0.Depth) fun n9 => ((law04_PolyLess_J1 p0 p1 p2 x1 x2 (decide (shlI 1 n9 ≤ p1)))))))))
end Go.Sx
