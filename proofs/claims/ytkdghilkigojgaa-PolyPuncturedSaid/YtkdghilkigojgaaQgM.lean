/- Mirrors: Qg. Printed by mx.py. -/
import Derived.Test.YtkdghilkigojgaaMirE
import Derived.Test.YtkdghilkigojgaaPln
import Derived.Test.YtkdghilkigojgaaWe
import Derived.Test.YtkdghilkigojgaaXlM
set_option linter.unusedVariables false
set_option maxRecDepth 100000
namespace Go.Sx
open Go Go.RowKit


def law04_punctured_J3 (a5 : Int) (rec1 : (Int × TPunctured) → Option (TPunctured × Bool)) (a9 : TPunctured) (a12 : Bool) : Option (TPunctured × Bool) := (bif a12 then (some ((TPunctured.mk 0 []), false)) else (rec1 (w64 (a5 + 1), a9)))

def law04_punctured_J2 (a5 : Int) (rec1 : (Int × TPunctured) → Option (TPunctured × Bool)) (a9 : TPunctured) (a11 : Int) : Option (TPunctured × Bool) := (if a11 ≠ 0 then (law04_punctured_J3 a5 rec1 a9 true) else Option.bind (poly_CheckPunctured a9) fun x13 => ((law04_punctured_J3 a5 rec1 a9 (decide (x13 ≠ 0)))))

def law04_punctured_L1 (p1 : Int) (p2 : List (BitVec 8)) (rec1 : (Int × TPunctured) → Option (TPunctured × Bool)) (s1 : Int × TPunctured) : Option (TPunctured × Bool) := match s1 with | (a5, a6) => (if a5 < (p2.length : Int) then Option.bind (getI p2 a5) fun y14 => (Option.bind (shG p1) fun n15 => (Option.bind (remI (un8 y14) (shlI 1 n15)) fun x16 => (Option.bind (poly_Puncture a6 x16) fun x17 => ((law04_punctured_J2 a5 rec1 x17.1 x17.2))))) else (some (a6, true)))

/-- headend/headendlaw04.punctured -/
def law04_punctured (p0 : W2) (p1 : Int) (p2 : List (BitVec 8)) : Option (TPunctured × Bool) := Option.bind (poly_Full p0 p1) fun x1 => ((if x1.2 ≠ 0 then (some ((TPunctured.mk 0 []), false)) else (fixN (law04_punctured_L1 p1 p2) FUEL (0, x1.1))))

def law04_has_L1 (p0 : List (BitVec 8)) (p1 : Int) (p2 : Int) (rec1 : (Int) → Option (Bool)) (a2 : Int) : Option (Bool) := (if a2 < (p0.length : Int) then Option.bind (getI p0 a2) fun y3 => (Option.bind (shG p1) fun n4 => (Option.bind (remI (un8 y3) (shlI 1 n4)) fun x5 => ((if x5 = p2 then (some true) else (rec1 (w64 (a2 + 1))))))) else (some false))

/-- headend/headendlaw04.has -/
def law04_has (p0 : List (BitVec 8)) (p1 : Int) (p2 : Int) : Option (Bool) := (fixN (law04_has_L1 p0 p1 p2) FUEL 0)

def law04_PolyPunctured_J5 (p1 : Int) (p2 : List (BitVec 8)) (p3 : Int) (x1 : Bool) (x13 : W2 × Int) (x14 : W2 × Int) (a15 : Bool) : Option (Bool) := (bif a15 then (bif x1 then (if x13.2 = 2 then (some (decide (x14.2 = 2))) else (some false)) else (some false)) else Option.bind (law04_has p2 p1 p3) fun x16 => ((bif x16 then (bif x1 then (if x13.2 = 6 then (some (decide (x14.2 = 0))) else (some false)) else (some false)) else (bif x1 then (if x13.2 = 0 then (if x14.2 = 0 then (some (decide (x13.1 = x14.1))) else (some false)) else (some false)) else (some false)))))

def law04_PolyPunctured_J4 (p1 : Int) (p2 : List (BitVec 8)) (p3 : Int) (x1 : Bool) (x3 : TPunctured × Bool) (x4 : TPunctured × Int) (a12 : Bool) : Option (Bool) := (bif a12 then (some false) else Option.bind (poly_Evaluate x3.1 p3) fun x13 => (Option.bind (poly_Evaluate x4.1 p3) fun x14 => ((if p3 < 0 then (law04_PolyPunctured_J5 p1 p2 p3 x1 x13 x14 true) else Option.bind (shG p1) fun n17 => ((law04_PolyPunctured_J5 p1 p2 p3 x1 x13 x14 (decide (shlI 1 n17 ≤ p3))))))))

def law04_PolyPunctured_L3 (p1 : Int) (p2 : List (BitVec 8)) (p3 : Int) (x1 : Bool) (x3 : TPunctured × Bool) (x4 : TPunctured × Int) (rec3 : (Int × Int) → Option (Bool)) (s3 : Int × Int) : Option (Bool) := match s3 with | (a8, a9) => Option.bind (shG p1) fun n10 => ((if a9 < shlI 1 n10 then Option.bind (law04_has p2 p1 a9) fun x11 => ((bif x11 then (rec3 (w64 (a8 + 1), w64 (a9 + 1))) else (rec3 (a8, w64 (a9 + 1))))) else (if mxI (w64 (a8 * p1)) 1 < (x3.1.Labels.length : Int) then (law04_PolyPunctured_J4 p1 p2 p3 x1 x3 x4 true) else (if a8 = 0 then (law04_PolyPunctured_J4 p1 p2 p3 x1 x3 x4 (decide ((x3.1.Labels.length : Int) ≠ 1))) else (law04_PolyPunctured_J4 p1 p2 p3 x1 x3 x4 false)))))

def law04_PolyPunctured_J2 (p1 : Int) (p2 : List (BitVec 8)) (p3 : Int) (x1 : Bool) (x3 : TPunctured × Bool) (x4 : TPunctured × Int) (a5 : Bool) : Option (Bool) := (bif a5 then (some false) else (fixN (law04_PolyPunctured_L3 p1 p2 p3 x1 x3 x4) FUEL (0, 0)))

def law04_PolyPunctured_J1 (p0 : W2) (p1 : Int) (p2 : List (BitVec 8)) (p3 : Int) (x1 : Bool) (a2 : Bool) : Option (Bool) := (bif a2 then (some x1) else Option.bind (law04_punctured p0 p1 p2) fun x3 => (Option.bind (poly_Full p0 p1) fun x4 => ((bif (!x3.2) then (law04_PolyPunctured_J2 p1 p2 p3 x1 x3 x4 true) else (law04_PolyPunctured_J2 p1 p2 p3 x1 x3 x4 (decide (x4.2 ≠ 0)))))))

/-- headend/headendlaw04.PolyPunctured -/
def law04_PolyPunctured (p0 : W2) (p1 : Int) (p2 : List (BitVec 8)) (p3 : Int) : Option (Bool) := Option.bind (law04_alive) fun x1 => ((if p1 < 0 then (law04_PolyPunctured_J1 p0 p1 p2 p3 x1 true) else (if (6 : Int) < p1 then (law04_PolyPunctured_J1 p0 p1 p2 p3 x1 true) else (law04_PolyPunctured_J1 p0 p1 p2 p3 x1 (decide ((300 : Int) < (p2.length : Int)))))))
end Go.Sx
