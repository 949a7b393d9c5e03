/- Mirrors: Qa. Printed by mx.py. -/
import Derived.Test.YtkdghilkigojgaaMirE
import Derived.Test.YtkdghilkigojgaaPln
import Derived.Test.YtkdghilkigojgaaXlM
set_option linter.unusedVariables false
set_option maxRecDepth 100000
namespace Go.Sx
open Go Go.RowKit


def law04_PolyLie_J4 (a6 : Int) (rec3 : (Int) → Option (Bool)) (a9 : Bool) : Option (Bool) := (bif a9 then (some false) else (rec3 (w64 (a6 + 1))))

def law04_PolyLie_L3 (p0 : TScheme) (p1 : List TPoint) (x1 : Bool) (x2 : List (BitVec 64) × Int) (rec3 : (Int) → Option (Bool)) (a6 : Int) : Option (Bool) := (if a6 < (p1.length : Int) then Option.bind (getI p1 a6) fun y7 => (Option.bind (poly_Value p0 x2.1 y7.X) fun x8 => ((if x8.2 ≠ 0 then (law04_PolyLie_J4 a6 rec3 true) else Option.bind (getI p1 a6) fun y10 => ((law04_PolyLie_J4 a6 rec3 (decide (x8.1 ≠ y10.Y))))))) else (some x1))

def law04_PolyLie_J2 (p0 : TScheme) (p1 : List TPoint) (x1 : Bool) (x2 : List (BitVec 64) × Int) (a4 : Bool) : Option (Bool) := (bif a4 then (some false) else (fixN (law04_PolyLie_L3 p0 p1 x1 x2) FUEL 0))

def law04_PolyLie_J1 (p0 : TScheme) (p1 : List TPoint) (x1 : Bool) (x2 : List (BitVec 64) × Int) (a3 : Bool) : Option (Bool) := (bif a3 then (bif x1 then (some (decide (x2.2 ≠ 0))) else (some false)) else (if x2.2 ≠ 0 then (law04_PolyLie_J2 p0 p1 x1 x2 true) else (law04_PolyLie_J2 p0 p1 x1 x2 (decide ((x2.1.length : Int) ≠ w64 (p0.Degree + 1))))))

/-- headend/headendlaw04.PolyLie -/
def law04_PolyLie (p0 : TScheme) (p1 : List TPoint) : Option (Bool) := Option.bind (law04_alive) fun x1 => (Option.bind (poly_Interpolate p0 p1) fun x2 => (Option.bind (ref04_Valid p0) fun x11 => ((bif (!x11) then (law04_PolyLie_J1 p0 p1 x1 x2 true) else (if (p1.length : Int) ≠ w64 (p0.Degree + 1) then (law04_PolyLie_J1 p0 p1 x1 x2 true) else Option.bind (ref04_Right p0.Group.Q p1) fun x12 => ((law04_PolyLie_J1 p0 p1 x1 x2 (!x12))))))))
end Go.Sx
