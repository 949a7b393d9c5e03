/- Mirrors: Pk. Printed by mx.py. -/
import Derived.Test.YtjdffpglgkefmaaGreatMirE
import Derived.Test.YtjdffpglgkefmaaGreatPln
import Derived.Test.YtjdffpglgkefmaaGreatPaM
set_option linter.unusedVariables false
set_option maxRecDepth 100000
namespace Go.Sx
open Go Go.RowKit
noncomputable section


/-- headend/number.modulus -/
def number_modulus (p0 : BitVec 64) : Option (Bool) := (if 1#64 ≤ p0 then (some (decide (p0 < 4294967296#64))) else (some false))

/-- headend/number.PowMod -/
def number_PowMod (p0 : BitVec 64) (p1 : BitVec 64) (p2 : BitVec 64) : Option (BitVec 64 × Int) := Option.bind (number_modulus p2) fun x1 => ((bif (!x1) then (some (0#64, 2)) else Option.bind (number_power p0 p1 p2) fun x2 => ((some (x2, 0)))))

/-- headend/poly.power -/
def poly_power (p0 : TScheme) (p1 : BitVec 64) (p2 : BitVec 64) : Option (BitVec 64) := Option.bind (number_PowMod p1 p2 p0.Group.P) fun x1 => ((some x1.1))

/-- headend/poly.maskKey -/
def poly_maskKey (p0 : BitVec 64) : Option (W2) := (some (drv k0 (un8 42#8) p0))

/-- headend/headendref04.MaskKey -/
def ref04_MaskKey (p0 : BitVec 64) : Option (W2) := (some (drv k0 (un8 42#8) p0))

/-- headend/poly.distinct$1 -/
def poly_distinct_1 (p0 : TPoint) (p1 : TPoint) : Option (Bool) := (some (decide (p0.X = p1.X)))

def slices_IndexFunc_7a5d_poly_distinct_1_L1 (p0 : List TPoint) (p1_0 : TPoint) (rec1 : (Int) → Option (Int)) (a2 : Int) : Option (Int) := (if a2 < (p0.length : Int) then Option.bind (getI p0 a2) fun y3 => (Option.bind (poly_distinct_1 y3 p1_0) fun x4 => ((bif x4 then (some a2) else (rec1 (w64 (a2 + 1)))))) else (some (-1)))

/-- slices.IndexFunc[[]headend/api.Point,headend/api.Point] -/
def slices_IndexFunc_7a5d_poly_distinct_1 (p0 : List TPoint) (p1_0 : TPoint) : Option (Int) := (fixN (slices_IndexFunc_7a5d_poly_distinct_1_L1 p0 p1_0) FUEL 0)

/-- slices.ContainsFunc[[]headend/api.Point,headend/api.Point] -/
def slices_ContainsFunc_9e39_poly_distinct_1 (p0 : List TPoint) (p1_0 : TPoint) : Option (Bool) := Option.bind (slices_IndexFunc_7a5d_poly_distinct_1 p0 p1_0) fun x1 => ((some (decide ((0 : Int) ≤ x1))))

def poly_distinct_L1 (p0 : List TPoint) (rec1 : (Int) → Option (Bool)) (a2 : Int) : Option (Bool) := (if a2 < (p0.length : Int) then Option.bind (getI p0 a2) fun y3 => (Option.bind (sliG p0 0 a2) fun l4 => (Option.bind (slices_ContainsFunc_9e39_poly_distinct_1 l4 y3) fun x5 => ((bif x5 then (some false) else (rec1 (w64 (a2 + 1))))))) else (some true))

/-- headend/poly.distinct -/
def poly_distinct (p0 : List TPoint) : Option (Bool) := (fixN (poly_distinct_L1 p0) FUEL 0)

/-- headend/headendref04.minus -/
def ref04_minus (p0 : BitVec 64) (p1 : BitVec 64) (p2 : BitVec 64) : Option (BitVec 64) := Option.bind (remU p2 p0) fun x1 => (Option.bind (remU ((p1 + p0) - x1) p0) fun x2 => ((some x2)))

def ref01_Inverse_L1 (p1 : BitVec 64) (rec1 : (BitVec 64 × BitVec 64 × BitVec 64 × BitVec 64) → Option (BitVec 64 × Bool)) (s1 : BitVec 64 × BitVec 64 × BitVec 64 × BitVec 64) : Option (BitVec 64 × Bool) := match s1 with | (a7, a8, a9, a10) => (if a9 ≠ 0#64 then Option.bind (quoU a7 a9) fun x11 => (Option.bind (remU x11 p1) fun x12 => (Option.bind (remU (x12 * a10) p1) fun x13 => (Option.bind (remU (a8 + (p1 - x13)) p1) fun x14 => ((rec1 (a9, a10, a7 - (x11 * a9), x14)))))) else (some (a8, decide (a7 = 1#64))))

/-- headend/headendref01.Inverse -/
def ref01_Inverse (p0 : BitVec 64) (p1 : BitVec 64) : Option (BitVec 64 × Bool) := Option.bind (remU p0 p1) fun x1 => (Option.bind (remU 1#64 p1) fun x2 => ((fixN (ref01_Inverse_L1 p1) FUEL (x1, x2, p1, 0#64))))

/-- (headend/poly.field).sub -/
def poly_field_sub (p0 : BitVec 64) (p1 : BitVec 64) (p2 : BitVec 64) : Option (BitVec 64) := Option.bind (remU ((p1 + p0) - p2) p0) fun x1 => ((some x1))

def number_InvMod_L1 (p1 : BitVec 64) (rec1 : (Int × Int × Int × Int) → Option (BitVec 64 × Int)) (s1 : Int × Int × Int × Int) : Option (BitVec 64 × Int) := match s1 with | (a7, a8, a9, a10) => (if a8 ≠ 0 then Option.bind (quoI a7 a8) fun x11 => ((rec1 (a8, w64 (a7 - (w64 (x11 * a8))), a10, w64 (a9 - (w64 (x11 * a10)))))) else (if a7 ≠ 1 then (some (0#64, 10)) else Option.bind (remI a9 (w64 (un p1))) fun x12 => (Option.bind (remI (w64 (x12 + (w64 (un p1)))) (w64 (un p1))) fun x13 => ((some (wd x13, 0))))))

/-- headend/number.InvMod -/
def number_InvMod (p0 : BitVec 64) (p1 : BitVec 64) : Option (BitVec 64 × Int) := Option.bind (number_modulus p1) fun x1 => ((bif (!x1) then (some (0#64, 2)) else Option.bind (remU p0 p1) fun x2 => ((fixN (number_InvMod_L1 p1) FUEL (w64 (un p1), w64 (un x2), 0, 1)))))

/-- (headend/poly.field).div -/
def poly_field_div (p0 : BitVec 64) (p1 : BitVec 64) (p2 : BitVec 64) : Option (BitVec 64) := Option.bind (number_InvMod p2 p0) fun x1 => (Option.bind (poly_field_mul p0 [p1, x1.1]) fun x2 => ((some x2)))
end
end Go.Sx
