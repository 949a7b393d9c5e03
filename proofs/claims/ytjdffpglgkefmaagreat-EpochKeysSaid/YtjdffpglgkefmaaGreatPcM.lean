/- Mirrors: Pc. Printed by mx.py. -/
import Derived.Test.YtjdffpglgkefmaaGreatMirE
import Derived.Test.YtjdffpglgkefmaaGreatPln
import Derived.Test.YtjdffpglgkefmaaGreatPbM
set_option linter.unusedVariables false
set_option maxRecDepth 100000
namespace Go.Sx
open Go Go.RowKit
noncomputable section


/-- slices.Clone[[]headend/api.Point,headend/api.Point] -/
def slices_Clone_3bad (p0 : List TPoint) : Option (List TPoint) := Option.bind (appG 16 [] p0) fun l1 => ((some l1))

def poly_fits_J2 (p0 : TScheme) (p1 : TSecret) (a2 : Bool) : Option (Bool) := (bif a2 then (some (decide (p1.Share.Y < p0.Group.Q))) else (some false))

def poly_fits_L4 (p0 : TScheme) (p1 : TSecret) (a3 : List TPoint) (a5 : Int) (rec4 : (Bool × Int) → Option (Bool)) (s4 : Bool × Int) : Option (Bool) := match s4 with | (a8, a9) => (if a9 < a5 then Option.bind (getI a3 a9) fun y10 => ((bif (!a8) then (poly_fits_J2 p0 p1 a8) else (if 1#64 ≤ y10.X then (if y10.X < p0.Group.Q then (if 1#64 ≤ y10.Y then (rec4 (decide (y10.Y < p0.Group.P), w64 (a9 + 1))) else (rec4 (false, w64 (a9 + 1)))) else (rec4 (false, w64 (a9 + 1)))) else (rec4 (false, w64 (a9 + 1)))))) else (poly_fits_J2 p0 p1 a8))

def poly_fits_J3 (p0 : TScheme) (p1 : TSecret) (a1 : Bool) (a3 : List TPoint) (a5 : Int) : Option (Bool) := (fixN (poly_fits_L4 p0 p1 a3 a5) FUEL (a1, 0))

def poly_fits_J1 (p0 : TScheme) (p1 : TSecret) (p2 : THeader) (a1 : Bool) : Option (Bool) := Option.bind (slices_Clone_3bad p2.Points) fun x11 => (Option.bind (appG 16 x11 [(TPoint.mk p1.Share.X 1#64)]) fun l12 => ((poly_fits_J3 p0 p1 a1 l12 (l12.length : Int))))

/-- headend/poly.fits -/
def poly_fits (p0 : TScheme) (p1 : TSecret) (p2 : THeader) : Option (Bool) := (if (p2.Items.length : Int) = 0 then (if 1#64 ≤ p2.Base then (if p2.Base < p0.Group.P then (if (p2.Points.length : Int) = p0.Degree then Option.bind (poly_distinct p2.Points) fun x15 => ((poly_fits_J1 p0 p1 p2 x15)) else (poly_fits_J1 p0 p1 p2 false)) else (poly_fits_J1 p0 p1 p2 false)) else (poly_fits_J1 p0 p1 p2 false)) else (poly_fits_J1 p0 p1 p2 false))

def poly_Open_L2 (p0 : TScheme) (l4 : List TPoint) (a8 : BitVec 64) (a9 : Int) (rec1 : (BitVec 64 × Int) → Option (W2 × Int)) (y10 : TPoint) (rec2 : (BitVec 64 × BitVec 64 × Int) → Option (W2 × Int)) (s2 : BitVec 64 × BitVec 64 × Int) : Option (W2 × Int) := match s2 with | (a14, a15, a16) => (if a16 < (l4.length : Int) then Option.bind (getI l4 a16) fun y17 => ((if a16 ≠ a9 then Option.bind (poly_field_mul p0.Group.Q [a14, y17.X]) fun x18 => (Option.bind (poly_field_sub p0.Group.Q y17.X y10.X) fun x19 => (Option.bind (poly_field_mul p0.Group.Q [a15, x19]) fun x20 => ((rec2 (x18, x20, w64 (a16 + 1)))))) else (rec2 (a14, a15, w64 (a16 + 1))))) else Option.bind (poly_field_div p0.Group.Q a14 a15) fun x21 => (Option.bind (poly_power p0 y10.Y x21) fun x22 => (Option.bind (poly_field_mul p0.Group.P [a8, x22]) fun x23 => ((rec1 (x23, w64 (a9 + 1)))))))

def poly_Open_J3 (p2 : THeader) (a25 : W2) : Option (W2 × Int) := (if drv a25 (un8 53#8) 0#64 ≠ p2.Check then (some (k0, 6)) else (some (a25, 0)))

def poly_Open_L1 (p0 : TScheme) (p2 : THeader) (l4 : List TPoint) (rec1 : (BitVec 64 × Int) → Option (W2 × Int)) (s1 : BitVec 64 × Int) : Option (W2 × Int) := match s1 with | (a8, a9) => (if a9 < (l4.length : Int) then Option.bind (getI l4 a9) fun y10 => ((fixN (poly_Open_L2 p0 l4 a8 a9 rec1 y10) FUEL (1#64, 1#64, 0))) else Option.bind (poly_maskKey a8) fun x26 => ((poly_Open_J3 p2 (decr x26 p2.Box))))

/-- headend/poly.Open -/
def poly_Open (p0 : TScheme) (p1 : TSecret) (p2 : THeader) : Option (W2 × Int) := Option.bind (poly_valid p0) fun x1 => ((bif (!x1) then (some (k0, 30)) else Option.bind (poly_fits p0 p1 p2) fun x2 => ((bif (!x2) then (some (k0, 8)) else Option.bind (poly_power p0 p2.Base p1.Share.Y) fun x3 => (Option.bind (appG 16 [(TPoint.mk p1.Share.X x3)] p2.Points) fun l4 => (Option.bind (poly_distinct l4) fun x5 => ((bif (!x5) then (some (k0, 6)) else (fixN (poly_Open_L1 p0 p2 l4) FUEL (1#64, 0))))))))))

def ref04_ValidHeader_L4 (p1 : THeader) (a3 : Int) (rec2 : (Int) → Option (Bool)) (y4 : TPoint) (rec4 : (Int) → Option (Bool)) (a7 : Int) : Option (Bool) := (if a7 < a3 then Option.bind (getI p1.Points a7) fun y8 => ((if y8.X = y4.X then (some false) else (rec4 (w64 (a7 + 1))))) else (rec2 (w64 (a3 + 1))))

def ref04_ValidHeader_J3 (p1 : THeader) (a3 : Int) (rec2 : (Int) → Option (Bool)) (y4 : TPoint) (a5 : Bool) : Option (Bool) := (bif a5 then (some false) else (fixN (ref04_ValidHeader_L4 p1 a3 rec2 y4) FUEL 0))

def ref04_ValidHeader_L2 (p0 : TScheme) (p1 : THeader) (rec2 : (Int) → Option (Bool)) (a3 : Int) : Option (Bool) := (if a3 < (p1.Points.length : Int) then Option.bind (getI p1.Points a3) fun y4 => ((if y4.X < 1#64 then (ref04_ValidHeader_J3 p1 a3 rec2 y4 true) else (if p0.Group.Q ≤ y4.X then (ref04_ValidHeader_J3 p1 a3 rec2 y4 true) else (if y4.Y < 1#64 then (ref04_ValidHeader_J3 p1 a3 rec2 y4 true) else (ref04_ValidHeader_J3 p1 a3 rec2 y4 (decide (p0.Group.P ≤ y4.Y))))))) else (some true))

def ref04_ValidHeader_J1 (p0 : TScheme) (p1 : THeader) (a1 : Bool) : Option (Bool) := (bif a1 then (some false) else (fixN (ref04_ValidHeader_L2 p0 p1) FUEL 0))

/-- headend/headendref04.ValidHeader -/
def ref04_ValidHeader (p0 : TScheme) (p1 : THeader) : Option (Bool) := (if (p1.Items.length : Int) ≠ 0 then (ref04_ValidHeader_J1 p0 p1 true) else (if p1.Base < 1#64 then (ref04_ValidHeader_J1 p0 p1 true) else (if p0.Group.P ≤ p1.Base then (ref04_ValidHeader_J1 p0 p1 true) else (ref04_ValidHeader_J1 p0 p1 (decide ((p1.Points.length : Int) ≠ p0.Degree))))))

def ref04_factor_L1 (p0 : BitVec 64) (p1 : List (BitVec 64)) (p2 : Int) (rec1 : (BitVec 64 × Int) → Option (BitVec 64)) (s1 : BitVec 64 × Int) : Option (BitVec 64) := match s1 with | (a3, a4) => (if a4 < (p1.length : Int) then (if a4 = p2 then (rec1 (a3, w64 (a4 + 1))) else Option.bind (getI p1 a4) fun y5 => (Option.bind (getI p1 p2) fun y6 => (Option.bind (ref04_minus p0 y5 y6) fun x7 => (Option.bind (ref01_Inverse x7 p0) fun x8 => (Option.bind (getI p1 a4) fun y9 => (Option.bind (remU (a3 * y9) p0) fun x10 => (Option.bind (remU (x10 * x8.1) p0) fun x11 => ((rec1 (x11, w64 (a4 + 1))))))))))) else (some a3))

/-- headend/headendref04.factor -/
def ref04_factor (p0 : BitVec 64) (p1 : List (BitVec 64)) (p2 : Int) : Option (BitVec 64) := (fixN (ref04_factor_L1 p0 p1 p2) FUEL (1#64, 0))

def ref04_Open_J4 (p2 : THeader) (a28 : W2) : Option (W2 × Int) := (if drv a28 (un8 53#8) 0#64 ≠ p2.Check then (some (k0, 6)) else (some (a28, 0)))

def ref04_Open_L3 (p0 : TScheme) (p2 : THeader) (a9 : List (BitVec 64)) (a11 : List (BitVec 64)) (rec3 : (BitVec 64 × Int) → Option (W2 × Int)) (s3 : BitVec 64 × Int) : Option (W2 × Int) := match s3 with | (a21, a22) => (if a22 < (a9.length : Int) then Option.bind (getI a11 a22) fun y23 => (Option.bind (ref04_factor p0.Group.Q a9 a22) fun x24 => (Option.bind (ref01_Power y23 x24 p0.Group.P) fun x25 => (Option.bind (remU (a21 * x25) p0.Group.P) fun x26 => ((rec3 (x26, w64 (a22 + 1))))))) else Option.bind (ref04_MaskKey a21) fun x29 => (Option.bind (ref02_Decrypt x29 p2.Box) fun x30 => ((ref04_Open_J4 p2 x30))))

def ref04_Open_L2 (p0 : TScheme) (p1 : TSecret) (p2 : THeader) (rec2 : (List (BitVec 64) × List (BitVec 64) × Int) → Option (W2 × Int)) (s2 : List (BitVec 64) × List (BitVec 64) × Int) : Option (W2 × Int) := match s2 with | (a9, a11, a13) => (if a13 < (p2.Points.length : Int) then Option.bind (getI p2.Points a13) fun y14 => ((if y14.X = p1.Share.X then (some (k0, 6)) else Option.bind (getI p2.Points a13) fun y15 => (Option.bind (appG 8 a9 [y15.X]) fun l16 => (Option.bind (getI p2.Points a13) fun y17 => (Option.bind (appG 8 a11 [y17.Y]) fun l18 => ((rec2 (l16, l18, w64 (a13 + 1))))))))) else (fixN (ref04_Open_L3 p0 p2 a9 a11) FUEL (1#64, 0)))

def ref04_Open_J1 (p0 : TScheme) (p1 : TSecret) (p2 : THeader) (a2 : Bool) : Option (W2 × Int) := (bif a2 then (some (k0, 8)) else Option.bind (ref01_Power p2.Base p1.Share.Y p0.Group.P) fun x3 => ((fixN (ref04_Open_L2 p0 p1 p2) FUEL ([p1.Share.X], [x3], 0))))

/-- headend/headendref04.Open -/
def ref04_Open (p0 : TScheme) (p1 : TSecret) (p2 : THeader) : Option (W2 × Int) := Option.bind (ref04_Valid p0) fun x1 => ((bif (!x1) then (some (k0, 30)) else Option.bind (ref04_ValidHeader p0 p2) fun x34 => ((bif (!x34) then (ref04_Open_J1 p0 p1 p2 true) else (if p1.Share.X < 1#64 then (ref04_Open_J1 p0 p1 p2 true) else (if p0.Group.Q ≤ p1.Share.X then (ref04_Open_J1 p0 p1 p2 true) else (ref04_Open_J1 p0 p1 p2 (decide (p0.Group.Q ≤ p1.Share.Y)))))))))
end
end Go.Sx
