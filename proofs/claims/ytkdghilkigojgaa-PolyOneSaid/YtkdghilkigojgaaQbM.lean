/- Mirrors: Qb. Printed by mx.py. -/
import Derived.Test.YtkdghilkigojgaaMirE
import Derived.Test.YtkdghilkigojgaaPln
import Derived.Test.YtkdghilkigojgaaXwM
set_option linter.unusedVariables false
set_option maxRecDepth 100000
namespace Go.Sx
open Go Go.RowKit


def law04_PolyOne_L2 (p0 : TScheme) (p1 : List (BitVec 64)) (p2 : List (BitVec 64)) (x1 : Bool) (rec2 : (List TPoint × Int) → Option (Bool)) (s2 : List TPoint × Int) : Option (Bool) := match s2 with | (a6, a8) => (if a8 < (p2.length : Int) then Option.bind (getI p2 a8) fun y9 => (Option.bind (poly_Value p0 p1 y9) fun x10 => (Option.bind (getI p2 a8) fun y11 => ((bif ((decide (x10.2 = 0)) != (decide (y11 < p0.Group.Q))) then (some false) else Option.bind (getI p2 a8) fun y12 => (Option.bind (appG 16 a6 [(TPoint.mk y12 x10.1)]) fun l13 => ((rec2 (l13, w64 (a8 + 1))))))))) else Option.bind (ref04_Right p0.Group.Q a6) fun x14 => ((bif (!x14) then (some x1) else Option.bind (poly_Interpolate p0 a6) fun x15 => ((bif x1 then Option.bind (law04_words x15.1 x15.2 p1) fun x16 => ((some x16)) else (some false))))))

def law04_PolyOne_J1 (p0 : TScheme) (p1 : List (BitVec 64)) (p2 : List (BitVec 64)) (x1 : Bool) (a2 : Bool) : Option (Bool) := (bif a2 then (some x1) else (fixN (law04_PolyOne_L2 p0 p1 p2 x1) FUEL ([], 0)))

/-- headend/headendlaw04.PolyOne -/
def law04_PolyOne (p0 : TScheme) (p1 : List (BitVec 64)) (p2 : List (BitVec 64)) : Option (Bool) := Option.bind (law04_alive) fun x1 => (Option.bind (ref04_Valid p0) fun x17 => ((bif (!x17) then (law04_PolyOne_J1 p0 p1 p2 x1 true) else Option.bind (ref04_Polynomial p0 p1) fun x18 => ((bif (!x18) then (law04_PolyOne_J1 p0 p1 p2 x1 true) else (law04_PolyOne_J1 p0 p1 p2 x1 (decide ((p2.length : Int) ≠ w64 (p0.Degree + 1)))))))))
end Go.Sx
