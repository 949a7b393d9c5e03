/- Mirrors: Qf. Printed by mx.py. -/
import Derived.Test.YtkdghilkigojgaaMirE
import Derived.Test.YtkdghilkigojgaaPln
import Derived.Test.YtkdghilkigojgaaXwM
set_option linter.unusedVariables false
set_option maxRecDepth 100000
namespace Go.Sx
open Go Go.RowKit


def law04_PolyMask_J3 (a9 : Int) (rec2 : (Int) → Option (Bool)) (a12 : Bool) : Option (Bool) := (bif a12 then (some false) else (rec2 (w64 (a9 + 1))))

def law04_PolyMask_L2 (p1 : TScheme) (p3 : W2) (x1 : Bool) (x2 : THeader × Int) (x5 : BitVec 64 × Int) (rec2 : (Int) → Option (Bool)) (a9 : Int) : Option (Bool) := (if a9 < (x2.1.Points.length : Int) then Option.bind (getI x2.1.Points a9) fun y10 => (Option.bind (number_PowMod y10.Y p1.Group.Q p1.Group.P) fun x11 => ((if x11.2 ≠ 0 then (law04_PolyMask_J3 a9 rec2 true) else (law04_PolyMask_J3 a9 rec2 (decide (x11.1 ≠ 1#64)))))) else (bif x1 then (if x2.1.Box = encr (drv k0 (un8 42#8) x5.1) p3 then (some (decide (x2.1.Check = drv p3 (un8 53#8) 0#64))) else (some false)) else (some false)))

def law04_PolyMask_J1 (p1 : TScheme) (p3 : W2) (x1 : Bool) (x2 : THeader × Int) (x5 : BitVec 64 × Int) (a7 : Bool) : Option (Bool) := (bif a7 then (some false) else (fixN (law04_PolyMask_L2 p1 p3 x1 x2 x5) FUEL 0))

/-- headend/headendlaw04.PolyMask -/
def law04_PolyMask (p0 : W2) (p1 : TScheme) (p2 : List Int) (p3 : W2) (p4 : BitVec 64) : Option (Bool) := Option.bind (law04_alive) fun x1 => (Option.bind (poly_Seal p0 p1 p2 p3 p4) fun x2 => ((if x2.2 ≠ 0 then (some x1) else Option.bind (poly_Coefficients p0 p1) fun x3 => (Option.bind (poly_Value p1 x3.1 0#64) fun x4 => (Option.bind (number_PowMod x2.1.Base x4.1 p1.Group.P) fun x5 => (Option.bind (number_PowMod x2.1.Base p1.Group.Q p1.Group.P) fun x6 => ((if x3.2 ≠ 0 then (law04_PolyMask_J1 p1 p3 x1 x2 x5 true) else (if x4.2 ≠ 0 then (law04_PolyMask_J1 p1 p3 x1 x2 x5 true) else (if x5.2 ≠ 0 then (law04_PolyMask_J1 p1 p3 x1 x2 x5 true) else (if x6.2 ≠ 0 then (law04_PolyMask_J1 p1 p3 x1 x2 x5 true) else (if x6.1 ≠ 1#64 then (law04_PolyMask_J1 p1 p3 x1 x2 x5 true) else (if x2.1.Base < 2#64 then (law04_PolyMask_J1 p1 p3 x1 x2 x5 true) else (law04_PolyMask_J1 p1 p3 x1 x2 x5 (decide ((x2.1.Items.length : Int) ≠ 0))))))))))))))))
end Go.Sx
