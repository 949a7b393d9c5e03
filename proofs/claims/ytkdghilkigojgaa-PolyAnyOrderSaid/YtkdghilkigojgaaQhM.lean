/- Mirrors: Qh. Printed by mx.py. -/
import Derived.Test.YtkdghilkigojgaaMirE
import Derived.Test.YtkdghilkigojgaaPln
import Derived.Test.YtkdghilkigojgaaXlM
set_option linter.unusedVariables false
set_option maxRecDepth 100000
namespace Go.Sx
open Go Go.RowKit


def law04_punctured_J3 (a5 : Int) (rec1 : (Int × TPunctured) → Option (TPunctured × Bool)) (a9 : TPunctured) (a12 : Bool) : Option (TPunctured × Bool) := (bif a12 then (some ((TPunctured.mk 0 []), false)) else (rec1 (w64 (a5 + 1), a9)))

def law04_punctured_J2 (a5 : Int) (rec1 : (Int × TPunctured) → Option (TPunctured × Bool)) (a9 : TPunctured) (a11 : Int) : Option (TPunctured × Bool) := (if a11 ≠ 0 then (law04_punctured_J3 a5 rec1 a9 true) else Option.bind (poly_CheckPunctured a9) fun x13 => ((law04_punctured_J3 a5 rec1 a9 (decide (x13 ≠ 0)))))

def law04_punctured_L1 (p1 : Int) (p2 : List (BitVec 8)) (rec1 : (Int × TPunctured) → Option (TPunctured × Bool)) (s1 : Int × TPunctured) : Option (TPunctured × Bool) := match s1 with | (a5, a6) => (if a5 < (p2.length : Int) then Option.bind (getI p2 a5) fun y14 => (Option.bind (shG p1) fun n15 => (Option.bind (remI (un8 y14) (shlI 1 n15)) fun x16 => (Option.bind (poly_Puncture a6 x16) fun x17 => ((law04_punctured_J2 a5 rec1 x17.1 x17.2))))) else (some (a6, true)))

/-- headend/headendlaw04.punctured -/
def law04_punctured (p0 : W2) (p1 : Int) (p2 : List (BitVec 8)) : Option (TPunctured × Bool) := Option.bind (poly_Full p0 p1) fun x1 => ((if x1.2 ≠ 0 then (some ((TPunctured.mk 0 []), false)) else (fixN (law04_punctured_L1 p1 p2) FUEL (0, x1.1))))

def law04_PolyAnyOrder_J1 (p0 : W2) (p1 : Int) (p2 : List (BitVec 8)) (p3 : BitVec 8) (p4 : BitVec 8) (x1 : Bool) (a2 : Bool) : Option (Bool) := (bif a2 then (some x1) else Option.bind (appG 1 [] p2) fun l3 => (Option.bind (remI (un8 p3) (l3.length : Int)) fun x4 => (Option.bind (remI (un8 p4) (l3.length : Int)) fun x5 => (Option.bind (getI l3 x5) fun y6 => (Option.bind (getI l3 x4) fun y7 => (Option.bind (getI l3 x4) fun y8 => (Option.bind (getI (l3.set x4.toNat y6) x5) fun y9 => (Option.bind (getI p2 x5) fun y10 => (Option.bind (appG 1 ((l3.set x4.toNat y6).set x5.toNat y7) [y10]) fun l11 => (Option.bind (law04_punctured p0 p1 p2) fun x12 => (Option.bind (law04_punctured p0 p1 l11) fun x13 => ((bif x1 then (bif x12.2 then (bif x13.2 then Option.bind (ref04_SamePunctured x12.1 x13.1) fun x14 => ((some x14)) else (some false)) else (some false)) else (some false))))))))))))))

/-- headend/headendlaw04.PolyAnyOrder -/
def law04_PolyAnyOrder (p0 : W2) (p1 : Int) (p2 : List (BitVec 8)) (p3 : BitVec 8) (p4 : BitVec 8) : Option (Bool) := Option.bind (law04_alive) fun x1 => ((if p1 < 0 then (law04_PolyAnyOrder_J1 p0 p1 p2 p3 p4 x1 true) else (if (6 : Int) < p1 then (law04_PolyAnyOrder_J1 p0 p1 p2 p3 p4 x1 true) else (if (p2.length : Int) = 0 then (law04_PolyAnyOrder_J1 p0 p1 p2 p3 p4 x1 true) else (law04_PolyAnyOrder_J1 p0 p1 p2 p3 p4 x1 (decide ((300 : Int) < (p2.length : Int))))))))
end Go.Sx
