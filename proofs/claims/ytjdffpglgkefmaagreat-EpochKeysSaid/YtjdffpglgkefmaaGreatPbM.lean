/- Mirrors: Pb. Printed by mx.py. -/
import Derived.Test.YtjdffpglgkefmaaGreatMirE
import Derived.Test.YtjdffpglgkefmaaGreatPln
import Derived.Test.YtjdffpglgkefmaaGreatPkM
set_option linter.unusedVariables false
set_option maxRecDepth 100000
namespace Go.Sx
open Go Go.RowKit
noncomputable section


/-- headend/poly.Seal$1 -/
def poly_Seal_1 (p0 : BitVec 64) (p1 : TScheme) (p2 : THeader) (p3 : List (BitVec 64)) (p4 : BitVec 64) : Option (BitVec 64) := Option.bind (poly_polynomial_at p3 p4 p0) fun x1 => (Option.bind (poly_power p1 p2.Base x1) fun x2 => ((some x2)))

def poly_Seal_J2 (a3 : Int) (rec1 : (Int) → Option (THeader × Int)) (a5 : Bool) : Option (THeader × Int) := (bif a5 then (some ((THeader.mk [] 0#64 [] k0 k0), 2)) else (rec1 (w64 (a3 + 1))))

def poly_Seal_L6 (p1 : TScheme) (p3 : W2) (a9 : List (BitVec 64)) (a14 : BitVec 64) (rec6 : (Int × List TPoint) → Option (THeader × Int)) (s6 : Int × List TPoint) : Option (THeader × Int) := match s6 with | (a30, a31) => (if (a31.length : Int) < p1.Degree then Option.bind (poly_Seal_1 (wd a30) p1 (THeader.mk [] a14 a31 k0 (drv p3 (un8 53#8) 0#64)) a9 p1.Group.Q) fun x33 => (Option.bind (appG 16 a31 [(TPoint.mk (wd a30) x33)]) fun l34 => ((rec6 (w64 (a30 + 1), l34)))) else Option.bind (poly_Seal_1 0#64 p1 (THeader.mk [] a14 a31 k0 (drv p3 (un8 53#8) 0#64)) a9 p1.Group.Q) fun x35 => (Option.bind (poly_maskKey x35) fun x36 => ((some ((THeader.mk [] a14 a31 (encr x36 p3) (drv p3 (un8 53#8) 0#64)), 0)))))

def poly_Seal_L5 (p1 : TScheme) (p2 : List Int) (p3 : W2) (a9 : List (BitVec 64)) (a14 : BitVec 64) (rec5 : (Int × List TPoint) → Option (THeader × Int)) (s5 : Int × List TPoint) : Option (THeader × Int) := match s5 with | (a20, a21) => (if a20 < (p2.length : Int) then Option.bind (getI p2 a20) fun y23 => (Option.bind (poly_Seal_1 (wd (w64 (y23 + 1))) p1 (THeader.mk [] a14 a21 k0 (drv p3 (un8 53#8) 0#64)) a9 p1.Group.Q) fun x24 => (Option.bind (appG 16 a21 [(TPoint.mk (wd (w64 (y23 + 1))) x24)]) fun l25 => ((rec5 (w64 (a20 + 1), l25))))) else Option.bind (shG p1.Depth) fun n26 => ((fixN (poly_Seal_L6 p1 p3 a9 a14) FUEL (w64 ((shlI 1 n26) + 1), a21))))

def poly_Seal_J4 (p1 : TScheme) (p2 : List Int) (p3 : W2) (a9 : List (BitVec 64)) (a14 : BitVec 64) : Option (THeader × Int) := (fixN (poly_Seal_L5 p1 p2 p3 a9 a14) FUEL (0, []))

def poly_Seal_J3 (p0 : W2) (p1 : TScheme) (p2 : List Int) (p3 : W2) (p4 : BitVec 64) (a9 : List (BitVec 64)) : Option (THeader × Int) := Option.bind (cipher_Number (drv p0 (un8 41#8) p4) 0#64 (p1.Group.Q - 1#64)) fun x12 => (Option.bind (poly_power p1 p1.Group.G (1#64 + x12)) fun x37 => ((poly_Seal_J4 p1 p2 p3 a9 x37)))

def poly_Seal_L1 (p0 : W2) (p1 : TScheme) (p2 : List Int) (p3 : W2) (p4 : BitVec 64) (rec1 : (Int) → Option (THeader × Int)) (a3 : Int) : Option (THeader × Int) := (if a3 < (p2.length : Int) then Option.bind (getI p2 a3) fun y4 => ((if y4 < 0 then (poly_Seal_J2 a3 rec1 true) else Option.bind (shG p1.Depth) fun n6 => ((if shlI 1 n6 ≤ y4 then (poly_Seal_J2 a3 rec1 true) else (if (0 : Int) < a3 then Option.bind (getI p2 (w64 (a3 - 1))) fun y7 => ((poly_Seal_J2 a3 rec1 (decide (y4 ≤ y7)))) else (poly_Seal_J2 a3 rec1 false)))))) else (if p1.Degree < (p2.length : Int) then (some ((THeader.mk [] 0#64 [] k0 k0), 4)) else Option.bind (poly_secret p0 p1) fun x39 => ((poly_Seal_J3 p0 p1 p2 p3 p4 x39))))

/-- headend/poly.Seal -/
def poly_Seal (p0 : W2) (p1 : TScheme) (p2 : List Int) (p3 : W2) (p4 : BitVec 64) : Option (THeader × Int) := Option.bind (poly_valid p1) fun x1 => ((bif (!x1) then (some ((THeader.mk [] 0#64 [] k0 k0), 30)) else (fixN (poly_Seal_L1 p0 p1 p2 p3 p4) FUEL 0)))

def ref04_SealOf_J3 (p1 : TScheme) (x1 : List (BitVec 64)) (a4 : BitVec 64) (a10 : Int) (a11 : List TPoint) (rec2 : (Int × List TPoint) → Option (THeader)) (a14 : BitVec 64) : Option (THeader) := Option.bind (ref04_ValueOf p1.Group.Q x1 a14) fun x15 => (Option.bind (ref01_Power a4 x15 p1.Group.P) fun x16 => (Option.bind (appG 16 a11 [(TPoint.mk a14 x16)]) fun l17 => ((rec2 (w64 (a10 + 1), l17)))))

def ref04_SealOf_L2 (p1 : TScheme) (p2 : List Int) (p3 : W2) (x1 : List (BitVec 64)) (a4 : BitVec 64) (rec2 : (Int × List TPoint) → Option (THeader)) (s2 : Int × List TPoint) : Option (THeader) := match s2 with | (a10, a11) => (if a10 < p1.Degree then Option.bind (ref03_Receivers p1.Depth) fun x13 => ((if a10 < (p2.length : Int) then Option.bind (getI p2 a10) fun y18 => ((ref04_SealOf_J3 p1 x1 a4 a10 a11 rec2 ((wd y18) + 1#64))) else (ref04_SealOf_J3 p1 x1 a4 a10 a11 rec2 (wd (w64 ((w64 ((w64 (x13 + 1)) + a10)) - (p2.length : Int))))))) else Option.bind (ref04_ValueOf p1.Group.Q x1 0#64) fun x19 => (Option.bind (ref01_Power a4 x19 p1.Group.P) fun x20 => (Option.bind (ref04_MaskKey x20) fun x21 => ((some (THeader.mk [] a4 a11 (encr x21 p3) (drv p3 (un8 53#8) 0#64)))))))

def ref04_SealOf_J1 (p1 : TScheme) (p2 : List Int) (p3 : W2) (x1 : List (BitVec 64)) (a4 : BitVec 64) : Option (THeader) := (fixN (ref04_SealOf_L2 p1 p2 p3 x1 a4) FUEL (0, []))

/-- headend/headendref04.SealOf -/
def ref04_SealOf (p0 : W2) (p1 : TScheme) (p2 : List Int) (p3 : W2) (p4 : BitVec 64) : Option (THeader) := Option.bind (ref04_CoefficientsOf p0 p1) fun x1 => (Option.bind (ref02_Number (drv p0 (un8 41#8) p4) 0#64 (p1.Group.Q - 1#64)) fun x2 => (Option.bind (ref01_Power p1.Group.G (1#64 + x2) p1.Group.P) fun x22 => ((ref04_SealOf_J1 p1 p2 p3 x1 x22))))

/-- headend/headendref04.Seal -/
def ref04_Seal (p0 : W2) (p1 : TScheme) (p2 : List Int) (p3 : W2) (p4 : BitVec 64) : Option (THeader × Int) := Option.bind (ref04_Valid p1) fun x1 => ((bif (!x1) then (some ((THeader.mk [] 0#64 [] k0 k0), 30)) else Option.bind (ref03_IsList p1.Depth p2) fun x2 => ((bif (!x2) then (some ((THeader.mk [] 0#64 [] k0 k0), 2)) else (if p1.Degree < (p2.length : Int) then (some ((THeader.mk [] 0#64 [] k0 k0), 4)) else Option.bind (ref04_SealOf p0 p1 p2 p3 p4) fun x3 => ((some (x3, 0))))))))
end
end Go.Sx
