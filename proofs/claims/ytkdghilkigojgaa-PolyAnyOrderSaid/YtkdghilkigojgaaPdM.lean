/- Mirrors: Pd. Printed by mx.py. -/
import Derived.Test.YtkdghilkigojgaaMirE
import Derived.Test.YtkdghilkigojgaaPln
import Derived.Test.YtkdghilkigojgaaWe
import Derived.Test.YtkdghilkigojgaaPkM
set_option linter.unusedVariables false
set_option maxRecDepth 100000
namespace Go.Sx
open Go Go.RowKit


/-- headend/poly.Coefficients -/
def poly_Coefficients (p0 : W2) (p1 : TScheme) : Option (List (BitVec 64) × Int) := Option.bind (poly_valid p1) fun x1 => ((bif (!x1) then (some ([], 30)) else Option.bind (poly_secret p0 p1) fun x2 => ((some (x2, 0)))))

/-- headend/headendref04.Coefficients -/
def ref04_Coefficients (p0 : W2) (p1 : TScheme) : Option (List (BitVec 64) × Int) := Option.bind (ref04_Valid p1) fun x1 => ((bif (!x1) then (some ([], 30)) else Option.bind (ref04_CoefficientsOf p0 p1) fun x2 => ((some (x2, 0)))))

def ref04_SameWords_L1 (p0 : List (BitVec 64)) (p1 : List (BitVec 64)) (rec1 : (Int) → Option (Bool)) (a2 : Int) : Option (Bool) := (if a2 < (p0.length : Int) then Option.bind (getI p0 a2) fun y3 => (Option.bind (getI p1 a2) fun y4 => ((if y3 ≠ y4 then (some false) else (rec1 (w64 (a2 + 1)))))) else (some true))

/-- headend/headendref04.SameWords -/
def ref04_SameWords (p0 : List (BitVec 64)) (p1 : List (BitVec 64)) : Option (Bool) := (if (p0.length : Int) ≠ (p1.length : Int) then (some false) else (fixN (ref04_SameWords_L1 p0 p1) FUEL 0))

/-- headend/poly.Check -/
def poly_Check (p0 : TScheme) : Option (Int) := Option.bind (poly_valid p0) fun x1 => ((bif (!x1) then (some 30) else (some 0)))

/-- headend/headendref04.Check -/
def ref04_Check (p0 : TScheme) : Option (Int) := Option.bind (ref04_Valid p0) fun x1 => ((bif (!x1) then (some 30) else (some 0)))

def slices_Max_6ac0_L1 (p0 : List (BitVec 64)) (rec1 : (BitVec 64 × Int) → Option (BitVec 64)) (s1 : BitVec 64 × Int) : Option (BitVec 64) := match s1 with | (a4, a5) => (if a5 < (p0.length : Int) then Option.bind (getI p0 a5) fun y6 => ((rec1 (mxU a4 y6, w64 (a5 + 1)))) else (some a4))

/-- slices.Max[[]uint64,uint64] -/
def slices_Max_6ac0 (p0 : List (BitVec 64)) : Option (BitVec 64) := (if (p0.length : Int) < 1 then none else Option.bind (getI p0 0) fun y1 => ((fixN (slices_Max_6ac0_L1 p0) FUEL (y1, 1))))

def poly_Value_J1 (p0 : TScheme) (p1 : List (BitVec 64)) (p2 : BitVec 64) (a2 : Bool) : Option (BitVec 64 × Int) := (bif a2 then (some (0#64, 2)) else Option.bind (poly_polynomial_at p1 p0.Group.Q p2) fun x3 => ((some (x3, 0))))

/-- headend/poly.Value -/
def poly_Value (p0 : TScheme) (p1 : List (BitVec 64)) (p2 : BitVec 64) : Option (BitVec 64 × Int) := Option.bind (poly_valid p0) fun x1 => ((bif (!x1) then (some (0#64, 30)) else (if (p1.length : Int) ≠ w64 (p0.Degree + 1) then (poly_Value_J1 p0 p1 p2 true) else Option.bind (slices_Max_6ac0 p1) fun x4 => ((if p0.Group.Q ≤ x4 then (poly_Value_J1 p0 p1 p2 true) else (poly_Value_J1 p0 p1 p2 (decide (p0.Group.Q ≤ p2))))))))

def ref04_Polynomial_L1 (p0 : TScheme) (p1 : List (BitVec 64)) (rec1 : (Int) → Option (Bool)) (a2 : Int) : Option (Bool) := (if a2 < (p1.length : Int) then Option.bind (getI p1 a2) fun y3 => ((if p0.Group.Q ≤ y3 then (some false) else (rec1 (w64 (a2 + 1))))) else (some true))

/-- headend/headendref04.Polynomial -/
def ref04_Polynomial (p0 : TScheme) (p1 : List (BitVec 64)) : Option (Bool) := (if (p1.length : Int) ≠ w64 (p0.Degree + 1) then (some false) else (fixN (ref04_Polynomial_L1 p0 p1) FUEL 0))

def ref04_Value_J1 (p0 : TScheme) (p1 : List (BitVec 64)) (p2 : BitVec 64) (a2 : Bool) : Option (BitVec 64 × Int) := (bif a2 then (some (0#64, 2)) else Option.bind (ref04_ValueOf p0.Group.Q p1 p2) fun x3 => ((some (x3, 0))))

/-- headend/headendref04.Value -/
def ref04_Value (p0 : TScheme) (p1 : List (BitVec 64)) (p2 : BitVec 64) : Option (BitVec 64 × Int) := Option.bind (ref04_Valid p0) fun x1 => ((bif (!x1) then (some (0#64, 30)) else Option.bind (ref04_Polynomial p0 p1) fun x4 => ((bif (!x4) then (ref04_Value_J1 p0 p1 p2 true) else (ref04_Value_J1 p0 p1 p2 (decide (p0.Group.Q ≤ p2)))))))

/-- headend/poly.Interpolate$1 -/
def poly_Interpolate_1 (p0 : TPoint) (p1 : TScheme) : Option (Bool) := (if p1.Group.Q ≤ p0.X then (some true) else (some (decide (p1.Group.Q ≤ p0.Y))))

def slices_IndexFunc_7a5d_poly_Interpolate_1_L1 (p0 : List TPoint) (p1_0 : TScheme) (rec1 : (Int) → Option (Int)) (a2 : Int) : Option (Int) := (if a2 < (p0.length : Int) then Option.bind (getI p0 a2) fun y3 => (Option.bind (poly_Interpolate_1 y3 p1_0) fun x4 => ((bif x4 then (some a2) else (rec1 (w64 (a2 + 1)))))) else (some (-1)))

/-- slices.IndexFunc[[]headend/api.Point,headend/api.Point] -/
def slices_IndexFunc_7a5d_poly_Interpolate_1 (p0 : List TPoint) (p1_0 : TScheme) : Option (Int) := (fixN (slices_IndexFunc_7a5d_poly_Interpolate_1_L1 p0 p1_0) FUEL 0)

/-- slices.ContainsFunc[[]headend/api.Point,headend/api.Point] -/
def slices_ContainsFunc_9e39_poly_Interpolate_1 (p0 : List TPoint) (p1_0 : TScheme) : Option (Bool) := Option.bind (slices_IndexFunc_7a5d_poly_Interpolate_1 p0 p1_0) fun x1 => ((some (decide ((0 : Int) ≤ x1))))

/-- slices.Backward[[]uint64,uint64] -/
def slices_Backward_f243 (p0 : List (BitVec 64)) : Option (List (BitVec 64)) := (some p0)

def slices_Backward_1_c271_L1 (p1 : List (BitVec 64)) (rec1 : (Int) → Option (List (Int × BitVec 64))) (a2 : Int) : Option (List (Int × BitVec 64)) := (if (0 : Int) ≤ a2 then Option.bind (getI p1 a2) fun y3 => ((yl (a2, y3) ((rec1 (w64 (a2 - 1)))))) else (some []))

/-- slices.Backward[[]uint64,uint64]$1: what it yields -/
def slices_Backward_1_c271 (p1 : List (BitVec 64)) : Option (List (Int × BitVec 64)) := (fixN (slices_Backward_1_c271_L1 p1) FUEL (w64 ((p1.length : Int) - 1)))

def poly_Interpolate_L4 (p0 : TScheme) (p1 : List TPoint) (a17 : Int) (rec3 : (List (BitVec 64) × Int) → Option (List (BitVec 64) × Int)) (rec4 : (List (BitVec 64) × Int) → Option (List (BitVec 64) × Int)) (s4 : List (BitVec 64) × Int) : Option (List (BitVec 64) × Int) := match s4 with | (a21, a23) => (if a17 ≤ a23 then Option.bind (getI a21 a23) fun y24 => (Option.bind (getI a21 (w64 (a23 - 1))) fun y25 => (Option.bind (getI p1 a23) fun y26 => (Option.bind (getI p1 (w64 (a23 - a17))) fun y27 => (Option.bind (poly_field_sub p0.Group.Q y24 y25) fun x28 => (Option.bind (poly_field_sub p0.Group.Q y26.X y27.X) fun x29 => (Option.bind (poly_field_div p0.Group.Q x28 x29) fun x30 => (Option.bind (getI a21 a23) fun y31 => ((rec4 (a21.set a23.toNat x30, w64 (a23 - 1))))))))))) else (rec3 (a21, w64 (a17 + 1))))

def poly_Interpolate_L6 (p0 : TScheme) (p1 : List TPoint) (nx5 : (List (BitVec 64)) → Option (List (BitVec 64) × Int)) (e39 : Int) (e40 : BitVec 64) (rec6 : (Int × List (BitVec 64)) → Option (List (BitVec 64) × Int)) (s6 : Int × List (BitVec 64)) : Option (List (BitVec 64) × Int) := match s6 with | (a44, a45) => (if (0 : Int) < a44 then Option.bind (getI a45 (w64 (a44 - 1))) fun y47 => (Option.bind (getI a45 a44) fun y48 => (Option.bind (getI p1 e39) fun y49 => (Option.bind (poly_field_mul p0.Group.Q [y48, y49.X]) fun x50 => (Option.bind (poly_field_sub p0.Group.Q y47 x50) fun x51 => (Option.bind (getI a45 a44) fun y52 => ((rec6 (w64 (a44 - 1), a45.set a44.toNat x51)))))))) else Option.bind (getI a45 0) fun y53 => (Option.bind (getI p1 e39) fun y54 => (Option.bind (poly_field_mul p0.Group.Q [y53, y54.X]) fun x55 => (Option.bind (poly_field_sub p0.Group.Q e40 x55) fun x56 => (Option.bind (getI a45 0) fun y57 => ((nx5 (a45.set (0 : Int).toNat x56))))))))

def poly_Interpolate_D5  (s : List (BitVec 64)) : Option (List (BitVec 64) × Int) := match s with | a37 => (some (a37, 0))

def poly_Interpolate_R5 (p0 : TScheme) (p1 : List TPoint) (ee : Int × BitVec 64) (nx5 : (List (BitVec 64)) → Option (List (BitVec 64) × Int)) (s : List (BitVec 64)) : Option (List (BitVec 64) × Int) := match ee with | (e39, e40) => match s with | a37 => (fixN (poly_Interpolate_L6 p0 p1 nx5 e39 e40) FUEL (w64 ((a37.length : Int) - 1), a37))

def poly_Interpolate_L3 (p0 : TScheme) (p1 : List TPoint) (rec3 : (List (BitVec 64) × Int) → Option (List (BitVec 64) × Int)) (s3 : List (BitVec 64) × Int) : Option (List (BitVec 64) × Int) := match s3 with | (a15, a17) => (if a17 < (a15.length : Int) then (fixN (poly_Interpolate_L4 p0 p1 a17 rec3) FUEL (a15, w64 ((a15.length : Int) - 1))) else Option.bind (mkL 8 (a15.length : Int) 0#64) fun l32 => (Option.bind (slices_Backward_f243 a15) fun x33 => (Option.bind (slices_Backward_1_c271 x33) fun l34 => ((itL (poly_Interpolate_R5 p0 p1) poly_Interpolate_D5 l34 l32)))))

def poly_Interpolate_L2 (p0 : TScheme) (p1 : List TPoint) (rec2 : (List (BitVec 64) × Int) → Option (List (BitVec 64) × Int)) (s2 : List (BitVec 64) × Int) : Option (List (BitVec 64) × Int) := match s2 with | (a7, a9) => (if a9 < (p1.length : Int) then Option.bind (getI p1 a9) fun y10 => (Option.bind (getI a7 a9) fun y11 => ((rec2 (a7.set a9.toNat y10.Y, w64 (a9 + 1))))) else (fixN (poly_Interpolate_L3 p0 p1) FUEL (a7, 1)))

def poly_Interpolate_J1 (p0 : TScheme) (p1 : List TPoint) (a2 : Bool) : Option (List (BitVec 64) × Int) := (bif a2 then (some ([], 2)) else Option.bind (mkL 8 (p1.length : Int) 0#64) fun l3 => ((fixN (poly_Interpolate_L2 p0 p1) FUEL (l3, 0))))

/-- headend/poly.Interpolate -/
def poly_Interpolate (p0 : TScheme) (p1 : List TPoint) : Option (List (BitVec 64) × Int) := Option.bind (poly_valid p0) fun x1 => ((bif (!x1) then (some ([], 30)) else (if (p1.length : Int) ≠ w64 (p0.Degree + 1) then (poly_Interpolate_J1 p0 p1 true) else Option.bind (slices_ContainsFunc_9e39_poly_Interpolate_1 p1 p0) fun x58 => ((bif x58 then (poly_Interpolate_J1 p0 p1 true) else Option.bind (poly_distinct p1) fun x59 => ((poly_Interpolate_J1 p0 p1 (!x59))))))))

def ref04_Right_L3 (p1 : List TPoint) (a2 : Int) (rec1 : (Int) → Option (Bool)) (rec3 : (Int) → Option (Bool)) (a5 : Int) : Option (Bool) := (if a5 < a2 then Option.bind (getI p1 a5) fun y6 => (Option.bind (getI p1 a2) fun y7 => ((if y6.X = y7.X then (some false) else (rec3 (w64 (a5 + 1)))))) else (rec1 (w64 (a2 + 1))))

def ref04_Right_J2 (p1 : List TPoint) (a2 : Int) (rec1 : (Int) → Option (Bool)) (a3 : Bool) : Option (Bool) := (bif a3 then (some false) else (fixN (ref04_Right_L3 p1 a2 rec1) FUEL 0))

def ref04_Right_L1 (p0 : BitVec 64) (p1 : List TPoint) (rec1 : (Int) → Option (Bool)) (a2 : Int) : Option (Bool) := (if a2 < (p1.length : Int) then Option.bind (getI p1 a2) fun y8 => ((if p0 ≤ y8.X then (ref04_Right_J2 p1 a2 rec1 true) else Option.bind (getI p1 a2) fun y9 => ((ref04_Right_J2 p1 a2 rec1 (decide (p0 ≤ y9.Y)))))) else (some true))

/-- headend/headendref04.Right -/
def ref04_Right (p0 : BitVec 64) (p1 : List TPoint) : Option (Bool) := (fixN (ref04_Right_L1 p0 p1) FUEL 0)

def ref04_linear_L1 (p0 : BitVec 64) (p1 : List (BitVec 64)) (p2 : BitVec 64) (rec1 : (List (BitVec 64) × Int) → Option (List (BitVec 64))) (s1 : List (BitVec 64) × Int) : Option (List (BitVec 64)) := match s1 with | (a5, a7) => (if a7 < (p1.length : Int) then Option.bind (getI a5 (w64 (a7 + 1))) fun y8 => (Option.bind (getI p1 a7) fun y9 => (Option.bind (remU (y8 + y9) p0) fun x10 => (Option.bind (getI a5 (w64 (a7 + 1))) fun y11 => (Option.bind (getI (a5.set (w64 (a7 + 1)).toNat x10) a7) fun y12 => (Option.bind (getI p1 a7) fun y13 => (Option.bind (remU (y13 * p2) p0) fun x14 => (Option.bind (ref04_minus p0 y12 x14) fun x15 => (Option.bind (getI (a5.set (w64 (a7 + 1)).toNat x10) a7) fun y16 => ((rec1 ((a5.set (w64 (a7 + 1)).toNat x10).set a7.toNat x15, w64 (a7 + 1)))))))))))) else (some a5))

/-- headend/headendref04.linear -/
def ref04_linear (p0 : BitVec 64) (p1 : List (BitVec 64)) (p2 : BitVec 64) : Option (List (BitVec 64)) := Option.bind (mkL 8 (w64 ((p1.length : Int) + 1)) 0#64) fun l1 => ((fixN (ref04_linear_L1 p0 p1 p2) FUEL (l1, 0)))

def ref04_Lie_L3 (p0 : BitVec 64) (a14 : Int) (rec2 : (List (BitVec 64) × Int) → Option (List (BitVec 64))) (x18 : BitVec 64 × Bool) (rec3 : (List (BitVec 64) × Int) → Option (List (BitVec 64))) (s3 : List (BitVec 64) × Int) : Option (List (BitVec 64)) := match s3 with | (a24, a26) => (if a26 < (a24.length : Int) then Option.bind (getI a24 a26) fun y27 => (Option.bind (remU (y27 * x18.1) p0) fun x28 => (Option.bind (getI a24 a26) fun y29 => ((rec3 (a24.set a26.toNat x28, w64 (a26 + 1)))))) else (rec2 (a24, w64 (a14 + 1))))

def ref04_Lie_L4 (p0 : BitVec 64) (a7 : Int) (rec1 : (List (BitVec 64) × Int) → Option (List (BitVec 64))) (a12 : List (BitVec 64)) (rec4 : (List (BitVec 64) × Int) → Option (List (BitVec 64))) (s4 : List (BitVec 64) × Int) : Option (List (BitVec 64)) := match s4 with | (a33, a35) => (if a35 < (a12.length : Int) then Option.bind (getI a33 a35) fun y36 => (Option.bind (getI a12 a35) fun y37 => (Option.bind (remU (y36 + y37) p0) fun x38 => (Option.bind (getI a33 a35) fun y39 => ((rec4 (a33.set a35.toNat x38, w64 (a35 + 1))))))) else (rec1 (a33, w64 (a7 + 1))))

def ref04_Lie_L2 (p0 : BitVec 64) (p1 : List TPoint) (a5 : List (BitVec 64)) (a7 : Int) (rec1 : (List (BitVec 64) × Int) → Option (List (BitVec 64))) (rec2 : (List (BitVec 64) × Int) → Option (List (BitVec 64))) (s2 : List (BitVec 64) × Int) : Option (List (BitVec 64)) := match s2 with | (a12, a14) => (if a14 < (p1.length : Int) then (if a14 = a7 then (rec2 (a12, w64 (a14 + 1))) else Option.bind (getI p1 a7) fun y15 => (Option.bind (getI p1 a14) fun y16 => (Option.bind (ref04_minus p0 y15.X y16.X) fun x17 => (Option.bind (ref01_Inverse x17 p0) fun x18 => (Option.bind (getI p1 a14) fun y19 => (Option.bind (ref04_linear p0 a12 y19.X) fun x20 => ((fixN (ref04_Lie_L3 p0 a14 rec2 x18) FUEL (x20, 0))))))))) else (fixN (ref04_Lie_L4 p0 a7 rec1 a12) FUEL (a5, 0)))

def ref04_Lie_L1 (p0 : BitVec 64) (p1 : List TPoint) (rec1 : (List (BitVec 64) × Int) → Option (List (BitVec 64))) (s1 : List (BitVec 64) × Int) : Option (List (BitVec 64)) := match s1 with | (a5, a7) => (if a7 < (p1.length : Int) then Option.bind (getI p1 a7) fun y8 => ((fixN (ref04_Lie_L2 p0 p1 a5 a7 rec1) FUEL ([y8.Y], 0))) else (some a5))

/-- headend/headendref04.Lie -/
def ref04_Lie (p0 : BitVec 64) (p1 : List TPoint) : Option (List (BitVec 64)) := Option.bind (mkL 8 (p1.length : Int) 0#64) fun l1 => ((fixN (ref04_Lie_L1 p0 p1) FUEL (l1, 0)))

def ref04_Interpolate_J1 (p0 : TScheme) (p1 : List TPoint) (a2 : Bool) : Option (List (BitVec 64) × Int) := (bif a2 then (some ([], 2)) else Option.bind (ref04_Lie p0.Group.Q p1) fun x3 => ((some (x3, 0))))

/-- headend/headendref04.Interpolate -/
def ref04_Interpolate (p0 : TScheme) (p1 : List TPoint) : Option (List (BitVec 64) × Int) := Option.bind (ref04_Valid p0) fun x1 => ((bif (!x1) then (some ([], 30)) else (if (p1.length : Int) ≠ w64 (p0.Degree + 1) then (ref04_Interpolate_J1 p0 p1 true) else Option.bind (ref04_Right p0.Group.Q p1) fun x4 => ((ref04_Interpolate_J1 p0 p1 (!x4))))))
end Go.Sx
