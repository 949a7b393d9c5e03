/- Mirrors: Sz. Printed by mx.py. -/
import Derived.Test.YtecempahccgijaaMirE
import Derived.Test.YtecempahccgijaaPln
import Derived.Test.YtecempahccgijaaAlM
set_option linter.unusedVariables false
set_option maxRecDepth 100000
namespace Go.Sx
open Go Go.RowKit
noncomputable section


def law03_CoverSizes_J1 (p0 : Int) (p1 : List Int) (x1 : Bool) (a2 : Bool) : Option (Bool) := (bif a2 then (some x1) else Option.bind (law03_of 1#8 p0) fun x3 => (Option.bind (cover_Cover x3 p1) fun x4 => (Option.bind (law03_of 2#8 p0) fun x5 => (Option.bind (cover_Cover x5 p1) fun x6 => (Option.bind (law03_of 3#8 p0) fun x7 => (Option.bind (cover_Cover x7 p1) fun x8 => ((bif x1 then (if x4.2 = 0 then (if x6.2 = 0 then (if x8.2 = 0 then (if (x4.1.length : Int) ≤ w64 ((p1.length : Int) * p0) then (if (x6.1.length : Int) ≤ w64 ((w64 (2 * (p1.length : Int))) - 1) then (if (x6.1.length : Int) ≤ (x4.1.length : Int) then (if (x8.1.length : Int) ≤ w64 (2 * (x6.1.length : Int)) then (some (decide ((x8.1.length : Int) ≤ (x4.1.length : Int)))) else (some false)) else (some false)) else (some false)) else (some false)) else (some false)) else (some false)) else (some false)) else (some false)))))))))

/-- headend/headendlaw03.CoverSizes -/
def law03_CoverSizes (p0 : Int) (p1 : List Int) : Option (Bool) := Option.bind (law03_alive) fun x1 => ((if p0 < 0 then (law03_CoverSizes_J1 p0 p1 x1 true) else (if (6 : Int) < p0 then (law03_CoverSizes_J1 p0 p1 x1 true) else Option.bind (ref03_IsList p0 p1) fun x9 => ((bif (!x9) then (law03_CoverSizes_J1 p0 p1 x1 true) else (law03_CoverSizes_J1 p0 p1 x1 (decide ((p1.length : Int) = 0))))))))
end
end Go.Sx
