/- Mirrors: Kw. Printed by mx.py. -/
import Derived.Test.YtecempahccgijaaMirE
import Derived.Test.YtecempahccgijaaPln
import Derived.Test.YtecempahccgijaaWKwM
set_option linter.unusedVariables false
set_option maxRecDepth 100000
namespace Go.Sx
open Go Go.RowKit
noncomputable section


def law03_CoverKnows_L2 (p0 : TScheme) (p1 : List Int) (p2 : TSubset) (x1 : Bool) (x2 : Bool × Int) (rec2 : (Bool × Int) → Option (Bool)) (s2 : Bool × Int) : Option (Bool) := match s2 with | (a6, a7) => (if a7 < (p1.length : Int) then Option.bind (getI p1 a7) fun y8 => (Option.bind (law03_member p0 [p2] y8) fun x9 => ((bif (!x9.2) then (some false) else (bif a6 then (rec2 (true, w64 (a7 + 1))) else (rec2 (x9.1, w64 (a7 + 1))))))) else (bif x1 then (if x2.2 = 0 then (some (x2.1 == a6)) else (some false)) else (some false)))

def law03_CoverKnows_J1 (p0 : TScheme) (p1 : List Int) (p2 : TSubset) (x1 : Bool) (x2 : Bool × Int) (a3 : Bool) : Option (Bool) := (bif a3 then (bif x1 then (bif (!x2.1) then (some (decide (x2.2 ≠ 0))) else (some false)) else (some false)) else (fixN (law03_CoverKnows_L2 p0 p1 p2 x1 x2) FUEL (false, 0)))

/-- headend/headendlaw03.CoverKnows -/
def law03_CoverKnows (p0 : TScheme) (p1 : List Int) (p2 : TSubset) : Option (Bool) := Option.bind (law03_alive) fun x1 => (Option.bind (cover_Knows p0 p1 p2) fun x2 => (Option.bind (ref03_Valid p0) fun x10 => ((bif (!x10) then (law03_CoverKnows_J1 p0 p1 p2 x1 x2 true) else Option.bind (ref03_IsList p0.Depth p1) fun x11 => ((bif (!x11) then (law03_CoverKnows_J1 p0 p1 p2 x1 x2 true) else Option.bind (ref03_IsSubset p0 p2) fun x12 => ((law03_CoverKnows_J1 p0 p1 p2 x1 x2 (!x12)))))))))
end
end Go.Sx
