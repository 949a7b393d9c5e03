/- Mirrors: Pa. Printed by mx.py. -/
import Derived.Test.YtjdffpglgkefmaaGreatMirE
import Derived.Test.YtjdffpglgkefmaaGreatPln
import Derived.Test.YtjdffpglgkefmaaGreatCcM
set_option linter.unusedVariables false
set_option maxRecDepth 100000
namespace Go.Sx
open Go Go.RowKit
noncomputable section
structure Tcipher_pair where
  x : BitVec 64
  y : BitVec 64
deriving DecidableEq, Inhabited
def Tcipher_pair.cs (x : Tcipher_pair)  : List Value := [wv x.x, wv x.y]
theorem Tcipher_pair.cs_ones (x : Tcipher_pair)   : ones (Tcipher_pair.cs x ) = true := by simp only [Tcipher_pair.cs, List.cons_append, List.nil_append, kb, ones, one_int, one_bool, one_str, cond_true]
theorem Tcipher_pair.cs_inj {x y : Tcipher_pair} (h : Tcipher_pair.cs x = Tcipher_pair.cs y) : x = y := by
  have h0 : x.x = y.x := cu_inj (congrArg (fun l => l[0]?) h)
  have h1 : x.y = y.y := cu_inj (congrArg (fun l => l[1]?) h)
  cases x; cases y; simp only at *; subst h0; subst h1; rfl
theorem Tcipher_pair.ws (l : List Tcipher_pair) : Ws 2 (l.map Tcipher_pair.cs) := ws_map l (fun _ => rfl) (fun _ => rfl)

def number_prime_L2 (p0 : BitVec 64) (rec2 : (BitVec 64) → Option (Bool)) (a3 : BitVec 64) : Option (Bool) := (if a3 * a3 ≤ p0 then Option.bind (remU p0 a3) fun x4 => ((if x4 = 0#64 then (some false) else (rec2 (a3 + 1#64)))) else (some true))

def number_prime_J1 (p0 : BitVec 64) (a1 : Bool) : Option (Bool) := (bif a1 then (some false) else (fixN (number_prime_L2 p0) FUEL 2#64))

/-- headend/number.prime -/
def number_prime (p0 : BitVec 64) : Option (Bool) := (if p0 < 2#64 then (number_prime_J1 p0 true) else (number_prime_J1 p0 (decide (1048575#64 < p0))))

def number_power_L1 (p2 : BitVec 64) (rec1 : (BitVec 64 × BitVec 64 × BitVec 64) → Option (BitVec 64)) (s1 : BitVec 64 × BitVec 64 × BitVec 64) : Option (BitVec 64) := match s1 with | (a6, a7, a8) => (if 0#64 < a7 then (if a7 &&& 1#64 = 1#64 then Option.bind (remU (a8 * a6) p2) fun x9 => (Option.bind (remU (a6 * a6) p2) fun x10 => (Option.bind (shG (un 1#64)) fun n11 => ((rec1 (x10, a7 >>> n11, x9))))) else Option.bind (remU (a6 * a6) p2) fun x12 => (Option.bind (shG (un 1#64)) fun n13 => ((rec1 (x12, a7 >>> n13, a8))))) else (some a8))

/-- headend/number.power -/
def number_power (p0 : BitVec 64) (p1 : BitVec 64) (p2 : BitVec 64) : Option (BitVec 64) := Option.bind (remU 1#64 p2) fun x1 => (Option.bind (remU p0 p2) fun x2 => ((fixN (number_power_L1 p2) FUEL (x2, p1, x1))))

def number_CheckGroup_J1 (a1 : Bool) : Option (Int) := (bif a1 then (some 13) else (some 0))

/-- headend/number.CheckGroup -/
def number_CheckGroup (p0 : TGroup) : Option (Int) := Option.bind (number_prime p0.P) fun x2 => ((bif (!x2) then (number_CheckGroup_J1 true) else Option.bind (number_prime p0.Q) fun x3 => ((bif (!x3) then (number_CheckGroup_J1 true) else Option.bind (remU (p0.P - 1#64) p0.Q) fun x4 => ((if x4 ≠ 0#64 then (number_CheckGroup_J1 true) else (if p0.G < 2#64 then (number_CheckGroup_J1 true) else (if p0.P ≤ p0.G then (number_CheckGroup_J1 true) else Option.bind (number_power p0.G p0.Q p0.P) fun x5 => ((number_CheckGroup_J1 (decide (x5 ≠ 1#64))))))))))))

/-- headend/poly.valid -/
def poly_valid (p0 : TScheme) : Option (Bool) := (if p0.Kind = 4#8 then (if (0 : Int) ≤ p0.Depth then (if p0.Depth ≤ 6 then (if (1 : Int) ≤ p0.Degree then (if p0.Degree ≤ 8 then Option.bind (number_CheckGroup p0.Group) fun x1 => ((if x1 = 0 then Option.bind (shG p0.Depth) fun n2 => ((some (decide (wd (w64 ((shlI 1 n2) + p0.Degree)) < p0.Group.Q)))) else (some false))) else (some false)) else (some false)) else (some false)) else (some false)) else (some false))

def cipher_wordsOf_L1 (p0 : W2) (rec1 : (Int × BitVec 64 × BitVec 64) → Option (Tcipher_pair)) (s1 : Int × BitVec 64 × BitVec 64) : Option (Tcipher_pair) := match s1 with | (a4, a5, a6) => (if a4 < 8 then Option.bind (shG (un 8#64)) fun n7 => (Option.bind (getI (kby p0) a4) fun y8 => (Option.bind (shG (un 8#64)) fun n9 => (Option.bind (getI (kby p0) (w64 (8 + a4))) fun y10 => ((rec1 (w64 (a4 + 1), (a5 <<< n7) ||| (y8.setWidth 64), (a6 <<< n9) ||| (y10.setWidth 64))))))) else (some (Tcipher_pair.mk a5 a6)))

/-- headend/cipher.wordsOf -/
def cipher_wordsOf (p0 : W2) : Option (Tcipher_pair) := (fixN (cipher_wordsOf_L1 p0) FUEL (0, 0#64, 0#64))

/-- headend/cipher.Number -/
def cipher_Number (p0 : W2) (p1 : BitVec 64) (p2 : BitVec 64) : Option (BitVec 64) := (if p2 = 0#64 then (some 0#64) else Option.bind (cipher_wordsOf (drv p0 (un8 3#8) p1)) fun x1 => (Option.bind (remU x1.x p2) fun x2 => ((some x2))))

def poly_secret_L1 (p0 : W2) (p1 : TScheme) (l1 : List (BitVec 64)) (rec1 : (List (BitVec 64) × Int) → Option (List (BitVec 64))) (s1 : List (BitVec 64) × Int) : Option (List (BitVec 64)) := match s1 with | (a5, a7) => (if a7 < (l1.length : Int) then Option.bind (cipher_Number (drv p0 (un8 40#8) 0#64) (wd a7) p1.Group.Q) fun x8 => (Option.bind (getI a5 a7) fun y9 => ((rec1 (a5.set a7.toNat x8, w64 (a7 + 1))))) else (some a5))

/-- headend/poly.secret -/
def poly_secret (p0 : W2) (p1 : TScheme) : Option (List (BitVec 64)) := Option.bind (mkL 8 (w64 (p1.Degree + 1)) 0#64) fun l1 => ((fixN (poly_secret_L1 p0 p1 l1) FUEL (l1, 0)))

/-- slices.Backward[headend/poly.polynomial,uint64] -/
def slices_Backward_dc0b (p0 : List (BitVec 64)) : Option (List (BitVec 64)) := (some p0)

def slices_Backward_1_20b1_L1 (p1 : List (BitVec 64)) (rec1 : (Int) → Option (List (Int × BitVec 64))) (a2 : Int) : Option (List (Int × BitVec 64)) := (if (0 : Int) ≤ a2 then Option.bind (getI p1 a2) fun y3 => ((yl (a2, y3) ((rec1 (w64 (a2 - 1)))))) else (some []))

/-- slices.Backward[headend/poly.polynomial,uint64]$1: what it yields -/
def slices_Backward_1_20b1 (p1 : List (BitVec 64)) : Option (List (Int × BitVec 64)) := (fixN (slices_Backward_1_20b1_L1 p1) FUEL (w64 ((p1.length : Int) - 1)))

def poly_field_mul_L1 (p0 : BitVec 64) (p1 : List (BitVec 64)) (rec1 : (BitVec 64 × Int) → Option (BitVec 64)) (s1 : BitVec 64 × Int) : Option (BitVec 64) := match s1 with | (a3, a4) => (if a4 < (p1.length : Int) then Option.bind (getI p1 a4) fun y5 => (Option.bind (remU (a3 * y5) p0) fun x6 => ((rec1 (x6, w64 (a4 + 1))))) else (some a3))

/-- (headend/poly.field).mul -/
def poly_field_mul (p0 : BitVec 64) (p1 : List (BitVec 64)) : Option (BitVec 64) := (fixN (poly_field_mul_L1 p0 p1) FUEL (1#64, 0))

def poly_polynomial_at_D1  (s : BitVec 64) : Option (BitVec 64) := match s with | a4 => (some a4)

def poly_polynomial_at_R1 (p1 : BitVec 64) (p2 : BitVec 64) (ee : Int × BitVec 64) (nx1 : (BitVec 64) → Option (BitVec 64)) (s : BitVec 64) : Option (BitVec 64) := match ee with | (e5, e6) => match s with | a4 => Option.bind (poly_field_mul p1 [a4, p2]) fun x7 => (Option.bind (remU (x7 + e6) p1) fun x8 => ((nx1 x8)))

/-- (headend/poly.polynomial).at -/
def poly_polynomial_at (p0 : List (BitVec 64)) (p1 : BitVec 64) (p2 : BitVec 64) : Option (BitVec 64) := Option.bind (slices_Backward_dc0b p0) fun x1 => (Option.bind (slices_Backward_1_20b1 x1) fun l2 => ((itL (poly_polynomial_at_R1 p1 p2) poly_polynomial_at_D1 l2 0#64)))

def poly_Secret_J1 (p0 : W2) (p1 : TScheme) (p2 : Int) (a2 : Bool) : Option (TSecret × Int) := (bif a2 then (some ((TSecret.mk 0 [] (TPoint.mk 0#64 0#64)), 2)) else Option.bind (poly_secret p0 p1) fun x3 => (Option.bind (poly_polynomial_at x3 p1.Group.Q ((wd p2) + 1#64)) fun x4 => ((some ((TSecret.mk p2 [] (TPoint.mk ((wd p2) + 1#64) x4)), 0)))))

/-- headend/poly.Secret -/
def poly_Secret (p0 : W2) (p1 : TScheme) (p2 : Int) : Option (TSecret × Int) := Option.bind (poly_valid p1) fun x1 => ((bif (!x1) then (some ((TSecret.mk 0 [] (TPoint.mk 0#64 0#64)), 30)) else (if p2 < 0 then (poly_Secret_J1 p0 p1 p2 true) else Option.bind (shG p1.Depth) fun n5 => ((poly_Secret_J1 p0 p1 p2 (decide (shlI 1 n5 ≤ p2)))))))

def ref01_IsPrime_L1 (p0 : BitVec 64) (rec1 : (BitVec 64) → Option (Bool)) (a2 : BitVec 64) : Option (Bool) := (if a2 * a2 ≤ p0 then Option.bind (remU p0 a2) fun x3 => ((if x3 = 0#64 then (some false) else (rec1 (a2 + 1#64)))) else (some (decide (2#64 ≤ p0))))

/-- headend/headendref01.IsPrime -/
def ref01_IsPrime (p0 : BitVec 64) : Option (Bool) := (fixN (ref01_IsPrime_L1 p0) FUEL 2#64)

def ref01_Power_J2 (p2 : BitVec 64) (a6 : BitVec 64) (a8 : BitVec 64) (rec1 : (BitVec 64 × BitVec 64 × BitVec 64) → Option (BitVec 64)) (a9 : BitVec 64) : Option (BitVec 64) := Option.bind (remU (a8 * a8) p2) fun x10 => (Option.bind (quoU a6 2#64) fun x11 => ((rec1 (x11, a9, x10))))

def ref01_Power_L1 (p2 : BitVec 64) (rec1 : (BitVec 64 × BitVec 64 × BitVec 64) → Option (BitVec 64)) (s1 : BitVec 64 × BitVec 64 × BitVec 64) : Option (BitVec 64) := match s1 with | (a6, a7, a8) => (if 0#64 < a6 then Option.bind (remU a6 2#64) fun x12 => ((if x12 = 1#64 then Option.bind (remU (a7 * a8) p2) fun x13 => ((ref01_Power_J2 p2 a6 a8 rec1 x13)) else (ref01_Power_J2 p2 a6 a8 rec1 a7))) else (some a7))

/-- headend/headendref01.Power -/
def ref01_Power (p0 : BitVec 64) (p1 : BitVec 64) (p2 : BitVec 64) : Option (BitVec 64) := Option.bind (remU 1#64 p2) fun x1 => (Option.bind (remU p0 p2) fun x2 => ((fixN (ref01_Power_L1 p2) FUEL (p1, x1, x2))))

def ref01_ValidGroup_J1 (p0 : TGroup) (a1 : Bool) : Option (Bool) := (bif a1 then (some false) else (if 2#64 ≤ p0.G then (if p0.G < p0.P then Option.bind (ref01_Power p0.G p0.Q p0.P) fun x2 => ((some (decide (x2 = 1#64)))) else (some false)) else (some false)))

/-- headend/headendref01.ValidGroup -/
def ref01_ValidGroup (p0 : TGroup) : Option (Bool) := (if 1048575#64 < p0.P then (ref01_ValidGroup_J1 p0 true) else Option.bind (ref01_IsPrime p0.P) fun x3 => ((bif (!x3) then (ref01_ValidGroup_J1 p0 true) else (if 1048575#64 < p0.Q then (ref01_ValidGroup_J1 p0 true) else Option.bind (ref01_IsPrime p0.Q) fun x4 => ((bif (!x4) then (ref01_ValidGroup_J1 p0 true) else Option.bind (remU (p0.P - 1#64) p0.Q) fun x5 => ((ref01_ValidGroup_J1 p0 (decide (x5 ≠ 0#64))))))))))

def ref04_Valid_J1 (p0 : TScheme) (a1 : Bool) : Option (Bool) := (bif a1 then (some false) else Option.bind (ref03_Receivers p0.Depth) fun x2 => ((some (decide (wd (w64 (x2 + p0.Degree)) < p0.Group.Q)))))

/-- headend/headendref04.Valid -/
def ref04_Valid (p0 : TScheme) : Option (Bool) := (if p0.Kind ≠ 4#8 then (ref04_Valid_J1 p0 true) else (if p0.Depth < 0 then (ref04_Valid_J1 p0 true) else (if (6 : Int) < p0.Depth then (ref04_Valid_J1 p0 true) else (if p0.Degree < 1 then (ref04_Valid_J1 p0 true) else (if (8 : Int) < p0.Degree then (ref04_Valid_J1 p0 true) else Option.bind (ref01_ValidGroup p0.Group) fun x3 => ((ref04_Valid_J1 p0 (!x3))))))))

/-- headend/headendref02.Number -/
def ref02_Number (p0 : W2) (p1 : BitVec 64) (p2 : BitVec 64) : Option (BitVec 64) := (if p2 = 0#64 then (some 0#64) else Option.bind (ref02_Value (((kby (drv p0 (un8 3#8) p1)).take 8).drop 0)) fun x1 => (Option.bind (remU x1 p2) fun x2 => ((some x2))))

def ref04_CoefficientsOf_L1 (p0 : W2) (p1 : TScheme) (rec1 : (List (BitVec 64) × Int) → Option (List (BitVec 64))) (s1 : List (BitVec 64) × Int) : Option (List (BitVec 64)) := match s1 with | (a4, a6) => (if a6 ≤ p1.Degree then Option.bind (ref02_Number (drv p0 (un8 40#8) 0#64) (wd a6) p1.Group.Q) fun x7 => (Option.bind (appG 8 a4 [x7]) fun l8 => ((rec1 (l8, w64 (a6 + 1))))) else (some a4))

/-- headend/headendref04.CoefficientsOf -/
def ref04_CoefficientsOf (p0 : W2) (p1 : TScheme) : Option (List (BitVec 64)) := (fixN (ref04_CoefficientsOf_L1 p0 p1) FUEL ([], 0))

def ref04_ValueOf_L1 (p0 : BitVec 64) (p1 : List (BitVec 64)) (p2 : BitVec 64) (rec1 : (BitVec 64 × BitVec 64 × Int) → Option (BitVec 64)) (s1 : BitVec 64 × BitVec 64 × Int) : Option (BitVec 64) := match s1 with | (a4, a5, a6) => (if a6 < (p1.length : Int) then Option.bind (getI p1 a6) fun y7 => (Option.bind (remU (a4 + (y7 * a5)) p0) fun x8 => (Option.bind (remU (a5 * p2) p0) fun x9 => ((rec1 (x8, x9, w64 (a6 + 1)))))) else (some a4))

/-- headend/headendref04.ValueOf -/
def ref04_ValueOf (p0 : BitVec 64) (p1 : List (BitVec 64)) (p2 : BitVec 64) : Option (BitVec 64) := (fixN (ref04_ValueOf_L1 p0 p1 p2) FUEL (0#64, 1#64, 0))

/-- headend/headendref04.SecretOf -/
def ref04_SecretOf (p0 : W2) (p1 : TScheme) (p2 : Int) : Option (TSecret) := Option.bind (ref04_CoefficientsOf p0 p1) fun x1 => (Option.bind (ref04_ValueOf p1.Group.Q x1 ((wd p2) + 1#64)) fun x2 => ((some (TSecret.mk p2 [] (TPoint.mk ((wd p2) + 1#64) x2)))))

def ref04_Secret_J1 (p0 : W2) (p1 : TScheme) (p2 : Int) (a2 : Bool) : Option (TSecret × Int) := (bif a2 then (some ((TSecret.mk 0 [] (TPoint.mk 0#64 0#64)), 2)) else Option.bind (ref04_SecretOf p0 p1 p2) fun x3 => ((some (x3, 0))))

/-- headend/headendref04.Secret -/
def ref04_Secret (p0 : W2) (p1 : TScheme) (p2 : Int) : Option (TSecret × Int) := Option.bind (ref04_Valid p1) fun x1 => ((bif (!x1) then (some ((TSecret.mk 0 [] (TPoint.mk 0#64 0#64)), 30)) else (if p2 < 0 then (ref04_Secret_J1 p0 p1 p2 true) else Option.bind (ref03_Receivers p1.Depth) fun x4 => ((ref04_Secret_J1 p0 p1 p2 (decide (x4 ≤ p2)))))))

/-- headend/poly.Check -/
def poly_Check (p0 : TScheme) : Option (Int) := Option.bind (poly_valid p0) fun x1 => ((bif (!x1) then (some 30) else (some 0)))

/-- headend/headendref04.Check -/
def ref04_Check (p0 : TScheme) : Option (Int) := Option.bind (ref04_Valid p0) fun x1 => ((bif (!x1) then (some 30) else (some 0)))
end
end Go.Sx
