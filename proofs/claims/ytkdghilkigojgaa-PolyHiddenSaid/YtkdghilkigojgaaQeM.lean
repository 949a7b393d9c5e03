/- Mirrors: Qe. Printed by mx.py. -/
import Derived.Test.YtkdghilkigojgaaMirE
import Derived.Test.YtkdghilkigojgaaPln
import Derived.Test.YtkdghilkigojgaaXwM
set_option linter.unusedVariables false
set_option maxRecDepth 100000
namespace Go.Sx
open Go Go.RowKit


def law04_PolyHidden_J6 (a20 : Int) (rec5 : (Int) → Option (Bool)) (a24 : Bool) : Option (Bool) := (bif a24 then (some false) else (rec5 (w64 (a20 + 1))))

def law04_PolyHidden_J9 (a27 : Int) (rec7 : (Int) → Option (Bool)) (a33 : Bool) : Option (Bool) := (bif a33 then (some false) else (rec7 (w64 (a27 + 1))))

def law04_PolyHidden_J8 (p1 : TScheme) (x16 : List (BitVec 64) × Int) (a27 : Int) (rec7 : (Int) → Option (Bool)) (a29 : TSecret) (a31 : Int) : Option (Bool) := Option.bind (poly_Value p1 x16.1 a29.Share.X) fun x32 => ((if a31 ≠ 0 then (law04_PolyHidden_J9 a27 rec7 true) else (if x32.2 ≠ 0 then (law04_PolyHidden_J9 a27 rec7 true) else (law04_PolyHidden_J9 a27 rec7 (decide (x32.1 ≠ a29.Share.Y))))))

def law04_PolyHidden_L7 (p0 : W2) (p1 : TScheme) (p2 : List Int) (p5 : BitVec 64) (p6 : BitVec 64) (x1 : Bool) (x3 : THeader × Int) (x16 : List (BitVec 64) × Int) (rec7 : (Int) → Option (Bool)) (a27 : Int) : Option (Bool) := (if a27 < (p2.length : Int) then Option.bind (getI p2 a27) fun y34 => (Option.bind (poly_Secret p0 p1 y34) fun x35 => ((law04_PolyHidden_J8 p1 x16 a27 rec7 x35.1 x35.2))) else Option.bind (number_PowMod x3.1.Base p5 p1.Group.P) fun x37 => (Option.bind (number_PowMod x3.1.Base p6 p1.Group.P) fun x38 => ((bif x1 then (if x37.2 = 0 then (if x38.2 = 0 then (some ((decide (x37.1 = x38.1)) == (decide (p5 = p6)))) else (some false)) else (some false)) else (some false)))))

def law04_PolyHidden_L5 (p0 : W2) (p1 : TScheme) (p2 : List Int) (p5 : BitVec 64) (p6 : BitVec 64) (x1 : Bool) (x3 : THeader × Int) (x16 : List (BitVec 64) × Int) (rec5 : (Int) → Option (Bool)) (a20 : Int) : Option (Bool) := (if a20 < (x3.1.Points.length : Int) then Option.bind (getI x3.1.Points a20) fun y21 => (Option.bind (poly_Value p1 x16.1 y21.X) fun x22 => (Option.bind (number_PowMod x3.1.Base x22.1 p1.Group.P) fun x23 => ((if x22.2 ≠ 0 then (law04_PolyHidden_J6 a20 rec5 true) else (if x23.2 ≠ 0 then (law04_PolyHidden_J6 a20 rec5 true) else Option.bind (getI x3.1.Points a20) fun y25 => ((law04_PolyHidden_J6 a20 rec5 (decide (x23.1 ≠ y25.Y))))))))) else (fixN (law04_PolyHidden_L7 p0 p1 p2 p5 p6 x1 x3 x16) FUEL 0))

def law04_PolyHidden_J4 (p0 : W2) (p1 : TScheme) (p2 : List Int) (p5 : BitVec 64) (p6 : BitVec 64) (x1 : Bool) (x3 : THeader × Int) (x16 : List (BitVec 64) × Int) (a18 : Bool) : Option (Bool) := (bif a18 then (some false) else (fixN (law04_PolyHidden_L5 p0 p1 p2 p5 p6 x1 x3 x16) FUEL 0))

def law04_PolyHidden_L3 (p0 : W2) (p1 : TScheme) (p2 : List Int) (p5 : BitVec 64) (p6 : BitVec 64) (x1 : Bool) (x3 : THeader × Int) (x4 : List (BitVec 64) × Int) (rec3 : (List TPoint × Int) → Option (Bool)) (s3 : List TPoint × Int) : Option (Bool) := match s3 with | (a9, a11) => (if a11 < (x3.1.Points.length : Int) then Option.bind (getI x3.1.Points a11) fun y12 => (Option.bind (poly_Value p1 x4.1 y12.X) fun x13 => ((if x13.2 ≠ 0 then (some false) else Option.bind (getI x3.1.Points a11) fun y14 => (Option.bind (appG 16 a9 [(TPoint.mk y14.X x13.1)]) fun l15 => ((rec3 (l15, w64 (a11 + 1)))))))) else Option.bind (poly_Interpolate p1 a9) fun x16 => (Option.bind (poly_Value p1 x16.1 0#64) fun x17 => ((if x16.2 ≠ 0 then (law04_PolyHidden_J4 p0 p1 p2 p5 p6 x1 x3 x16 true) else (if x17.2 ≠ 0 then (law04_PolyHidden_J4 p0 p1 p2 p5 p6 x1 x3 x16 true) else (law04_PolyHidden_J4 p0 p1 p2 p5 p6 x1 x3 x16 (decide (x17.1 ≠ p5))))))))

def law04_PolyHidden_J2 (p0 : W2) (p1 : TScheme) (p2 : List Int) (p5 : BitVec 64) (p6 : BitVec 64) (x1 : Bool) (x3 : THeader × Int) (x4 : List (BitVec 64) × Int) (a5 : Bool) : Option (Bool) := (bif a5 then (some false) else (fixN (law04_PolyHidden_L3 p0 p1 p2 p5 p6 x1 x3 x4) FUEL ([(TPoint.mk 0#64 p5)], 0)))

def law04_PolyHidden_J1 (p0 : W2) (p1 : TScheme) (p2 : List Int) (p3 : W2) (p4 : BitVec 64) (p5 : BitVec 64) (p6 : BitVec 64) (x1 : Bool) (a2 : Bool) : Option (Bool) := (bif a2 then (some x1) else Option.bind (poly_Seal p0 p1 p2 p3 p4) fun x3 => (Option.bind (poly_Coefficients p0 p1) fun x4 => ((if x3.2 ≠ 0 then (law04_PolyHidden_J2 p0 p1 p2 p5 p6 x1 x3 x4 true) else (if x4.2 ≠ 0 then (law04_PolyHidden_J2 p0 p1 p2 p5 p6 x1 x3 x4 true) else (law04_PolyHidden_J2 p0 p1 p2 p5 p6 x1 x3 x4 (decide ((x3.1.Points.length : Int) ≠ p1.Degree))))))))

/-- headend/headendlaw04.PolyHidden -/
def law04_PolyHidden (p0 : W2) (p1 : TScheme) (p2 : List Int) (p3 : W2) (p4 : BitVec 64) (p5 : BitVec 64) (p6 : BitVec 64) : Option (Bool) := Option.bind (law04_alive) fun x1 => (Option.bind (ref04_Valid p1) fun x39 => ((bif (!x39) then (law04_PolyHidden_J1 p0 p1 p2 p3 p4 p5 p6 x1 true) else Option.bind (ref03_IsList p1.Depth p2) fun x40 => ((bif (!x40) then (law04_PolyHidden_J1 p0 p1 p2 p3 p4 p5 p6 x1 true) else (if p1.Degree < (p2.length : Int) then (law04_PolyHidden_J1 p0 p1 p2 p3 p4 p5 p6 x1 true) else (if p1.Group.Q ≤ p5 then (law04_PolyHidden_J1 p0 p1 p2 p3 p4 p5 p6 x1 true) else (law04_PolyHidden_J1 p0 p1 p2 p3 p4 p5 p6 x1 (decide (p1.Group.Q ≤ p6))))))))))
end Go.Sx
