/- Mirrors: Pv. Printed by mx.py. -/
import Derived.Test.YtkdghilkigojgaaMirE
import Derived.Test.YtkdghilkigojgaaPln
import Derived.Test.YtkdghilkigojgaaPdM
set_option linter.unusedVariables false
set_option maxRecDepth 100000
namespace Go.Sx
open Go Go.RowKit


def law04_PolyValues_L4 (p4 : List TPoint) (l8 : List TPoint) (rec4 : (Int) → Option (Bool)) (a13 : Int) : Option (Bool) := (if a13 < (p4.length : Int) then Option.bind (getI l8 a13) fun y14 => (Option.bind (getI p4 a13) fun y15 => ((if y14 ≠ y15 then (some false) else (rec4 (w64 (a13 + 1)))))) else (some true))

def law04_PolyValues_J3 (p4 : List TPoint) (l8 : List TPoint) (a11 : Bool) : Option (Bool) := (bif a11 then (some false) else (fixN (law04_PolyValues_L4 p4 l8) FUEL 0))

def law04_PolyValues_J2 (p1 : TScheme) (p4 : List TPoint) (a7 : Bool) : Option (Bool) := (bif a7 then (some false) else Option.bind (appG 16 [] p4) fun l8 => (Option.bind (poly_Interpolate p1 l8) fun x9 => (Option.bind (ref04_Interpolate p1 p4) fun x10 => (Option.bind (ref04_SameWords x9.1 x10.1) fun x16 => ((bif (!x16) then (law04_PolyValues_J3 p4 l8 true) else (law04_PolyValues_J3 p4 l8 (decide (x9.2 ≠ x10.2)))))))))

def law04_PolyValues_J1 (p1 : TScheme) (p2 : List (BitVec 64)) (p3 : BitVec 64) (p4 : List TPoint) (a3 : Bool) : Option (Bool) := (bif a3 then (some false) else Option.bind (appG 8 [] p2) fun l4 => (Option.bind (poly_Value p1 l4 p3) fun x5 => (Option.bind (ref04_Value p1 p2 p3) fun x6 => ((if x5.1 ≠ x6.1 then (law04_PolyValues_J2 p1 p4 true) else (if x5.2 ≠ x6.2 then (law04_PolyValues_J2 p1 p4 true) else Option.bind (ref04_SameWords l4 p2) fun x17 => ((law04_PolyValues_J2 p1 p4 (!x17)))))))))

/-- headend/headendlaw04.PolyValues -/
def law04_PolyValues (p0 : W2) (p1 : TScheme) (p2 : List (BitVec 64)) (p3 : BitVec 64) (p4 : List TPoint) : Option (Bool) := Option.bind (poly_Coefficients p0 p1) fun x1 => (Option.bind (ref04_Coefficients p0 p1) fun x2 => (Option.bind (ref04_SameWords x1.1 x2.1) fun x18 => ((bif (!x18) then (law04_PolyValues_J1 p1 p2 p3 p4 true) else (if x1.2 ≠ x2.2 then (law04_PolyValues_J1 p1 p2 p3 p4 true) else Option.bind (poly_Check p1) fun x19 => (Option.bind (ref04_Check p1) fun x20 => ((law04_PolyValues_J1 p1 p2 p3 p4 (decide (x19 ≠ x20))))))))))
end Go.Sx
