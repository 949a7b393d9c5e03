/- Mirrors: Pb. Printed by mx.py. -/
import Derived.Test.YtkdghilkigojgaaMirE
import Derived.Test.YtkdghilkigojgaaPln
import Derived.Test.YtkdghilkigojgaaPaM
set_option linter.unusedVariables false
set_option maxRecDepth 100000
namespace Go.Sx
open Go Go.RowKit
structure TSubset where
  Node : Int
  Minus : Int
deriving DecidableEq, Inhabited
def TSubset.cs (x : TSubset)  : List Value := [.int .i64 x.Node, .int .i64 x.Minus]
theorem TSubset.cs_ones (x : TSubset)   : ones (TSubset.cs x ) = true := by simp only [TSubset.cs, List.cons_append, List.nil_append, kb, ones, one_int, one_bool, one_str, cond_true]
theorem TSubset.cs_inj {x y : TSubset} (h : TSubset.cs x = TSubset.cs y) : x = y := by
  have h0 : x.Node = y.Node := ci_inj (congrArg (fun l => l[0]?) h)
  have h1 : x.Minus = y.Minus := ci_inj (congrArg (fun l => l[1]?) h)
  cases x; cases y; simp only at *; subst h0; subst h1; rfl
theorem TSubset.ws (l : List TSubset) : Ws 2 (l.map TSubset.cs) := ws_map l (fun _ => rfl) (fun _ => rfl)
structure TItem where
  Subset : TSubset
  Box : W2
deriving DecidableEq, Inhabited
def TItem.cs (x : TItem)  : List Value := [.int .i64 x.Subset.Node, .int .i64 x.Subset.Minus] ++ (kb x.Box)
theorem TItem.cs_ones (x : TItem)   : ones (TItem.cs x ) = true := by simp only [TItem.cs, List.cons_append, List.nil_append, kb, ones, one_int, one_bool, one_str, cond_true]
theorem TItem.cs_inj {x y : TItem} (h : TItem.cs x = TItem.cs y) : x = y := by
  have h0 : x.Subset = y.Subset := TSubset.cs_inj (congrArg (fun l => (l.drop 0).take 2) h)
  have h1 : x.Box = y.Box := kb_inj (congrArg (fun l => (l.drop 2).take 16) h)
  cases x; cases y; simp only at *; subst h0; subst h1; rfl
theorem TItem.ws (l : List TItem) : Ws 18 (l.map TItem.cs) := ws_map l (fun _ => rfl) (fun _ => rfl)
structure THeader where
  Items : List TItem
  Base : BitVec 64
  Points : List TPoint
  Box : W2
  Check : W2
deriving DecidableEq, Inhabited
def THeader.cs (x : THeader) (v0 : Value) (v1 : Value) : List Value := [v0, wv x.Base, v1] ++ (kb x.Box ++ (kb x.Check))
theorem THeader.cs_ones (x : THeader) (v0 : Value) (v1 : Value) (h0 : oneB v0 = true) (h1 : oneB v1 = true) : ones (THeader.cs x v0 v1) = true := by simp only [THeader.cs, List.cons_append, List.nil_append, kb, ones, one_int, one_bool, one_str, cond_true, h0, h1]

/-- headend/number.modulus -/
def number_modulus (p0 : BitVec 64) : Option (Bool) := (if 1#64 ≤ p0 then (some (decide (p0 < 4294967296#64))) else (some false))

/-- headend/number.PowMod -/
def number_PowMod (p0 : BitVec 64) (p1 : BitVec 64) (p2 : BitVec 64) : Option (BitVec 64 × Int) := Option.bind (number_modulus p2) fun x1 => ((bif (!x1) then (some (0#64, 2)) else Option.bind (number_power p0 p1 p2) fun x2 => ((some (x2, 0)))))

/-- headend/poly.power -/
def poly_power (p0 : TScheme) (p1 : BitVec 64) (p2 : BitVec 64) : Option (BitVec 64) := Option.bind (number_PowMod p1 p2 p0.Group.P) fun x1 => ((some x1.1))

/-- headend/poly.Seal$1 -/
def poly_Seal_1 (p0 : BitVec 64) (p1 : TScheme) (p2 : THeader) (p3 : List (BitVec 64)) (p4 : BitVec 64) : Option (BitVec 64) := Option.bind (poly_polynomial_at p3 p4 p0) fun x1 => (Option.bind (poly_power p1 p2.Base x1) fun x2 => ((some x2)))

/-- headend/poly.maskKey -/
def poly_maskKey (p0 : BitVec 64) : Option (W2) := (some (drv k0 (un8 42#8) p0))

def poly_Seal_J2 (a3 : Int) (rec1 : (Int) → Option (THeader × Int)) (a5 : Bool) : Option (THeader × Int) := (bif a5 then (some ((THeader.mk [] 0#64 [] k0 k0), 2)) else (rec1 (w64 (a3 + 1))))

def poly_Seal_L6 (p1 : TScheme) (p3 : W2) (a9 : List (BitVec 64)) (a14 : BitVec 64) (rec6 : (Int × List TPoint) → Option (THeader × Int)) (s6 : Int × List TPoint) : Option (THeader × Int) := match s6 with | (a30, a31) => (if (a31.length : Int) < p1.Degree then Option.bind (poly_Seal_1 (wd a30) p1 (THeader.mk [] a14 a31 k0 (drv p3 (un8 53#8) 0#64)) a9 p1.Group.Q) fun x33 => (Option.bind (appG 16 a31 [(TPoint.mk (wd a30) x33)]) fun l34 => ((rec6 (w64 (a30 + 1), l34)))) else Option.bind (poly_Seal_1 0#64 p1 (THeader.mk [] a14 a31 k0 (drv p3 (un8 53#8) 0#64)) a9 p1.Group.Q) fun x35 => (Option.bind (poly_maskKey x35) fun x36 => ((some ((THeader.mk [] a14 a31 (encr x36 p3) (drv p3 (un8 53#8) 0#64)), 0)))))

def poly_Seal_L5 (p1 : TScheme) (p2 : List Int) (p3 : W2) (a9 : List (BitVec 64)) (a14 : BitVec 64) (rec5 : (Int × List TPoint) → Option (THeader × Int)) (s5 : Int × List TPoint) : Option (THeader × Int) := match s5 with | (a20, a21) => (if a20 < (p2.length : Int) then Option.bind (getI p2 a20) fun y23 => (Option.bind (poly_Seal_1 (wd (w64 (y23 + 1))) p1 (THeader.mk [] a14 a21 k0 (drv p3 (un8 53#8) 0#64)) a9 p1.Group.Q) fun x24 => (Option.bind (appG 16 a21 [(TPoint.mk (wd (w64 (y23 + 1))) x24)]) fun l25 => ((rec5 (w64 (a20 + 1), l25))))) else Option.bind (shG p1.Depth) fun n26 => ((fixN (poly_Seal_L6 p1 p3 a9 a14) FUEL (w64 ((shlI 1 n26) + 1), a21))))

def poly_Seal_J4 (p1 : TScheme) (p2 : List Int) (p3 : W2) (a9 : List (BitVec 64)) (a14 : BitVec 64) : Option (THeader × Int) := (fixN (poly_Seal_L5 p1 p2 p3 a9 a14) FUEL (0, []))

def poly_Seal_J3 (p0 : W2) (p1 : TScheme) (p2 : List Int) (p3 : W2) (p4 : BitVec 64) (a9 : List (BitVec 64)) : Option (THeader × Int) := Option.bind (cipher_Number (drv p0 (un8 41#8) p4) 0#64 (p1.Group.Q - 1#64)) fun x12 => (Option.bind (poly_power p1 p1.Group.G (1#64 + x12)) fun x37 => ((poly_Seal_J4 p1 p2 p3 a9 x37)))

def poly_Seal_L1 (p0 : W2) (p1 : TScheme) (p2 : List Int) (p3 : W2) (p4 : BitVec 64) (rec1 : (Int) → Option (THeader × Int)) (a3 : Int) : Option (THeader × Int) := (if a3 < (p2.length : Int) then Option.bind (getI p2 a3) fun y4 => ((if y4 < 0 then (poly_Seal_J2 a3 rec1 true) else Option.bind (shG p1.Depth) fun n6 => ((if shlI 1 n6 ≤ y4 then (poly_Seal_J2 a3 rec1 true) else (if (0 : Int) < a3 then Option.bind (getI p2 (w64 (a3 - 1))) fun y7 => ((poly_Seal_J2 a3 rec1 (decide (y4 ≤ y7)))) else (poly_Seal_J2 a3 rec1 false)))))) else (if p1.Degree < (p2.length : Int) then (some ((THeader.mk [] 0#64 [] k0 k0), 4)) else Option.bind (poly_secret p0 p1) fun x39 => ((poly_Seal_J3 p0 p1 p2 p3 p4 x39))))

/-- headend/poly.Seal -/
def poly_Seal (p0 : W2) (p1 : TScheme) (p2 : List Int) (p3 : W2) (p4 : BitVec 64) : Option (THeader × Int) := Option.bind (poly_valid p1) fun x1 => ((bif (!x1) then (some ((THeader.mk [] 0#64 [] k0 k0), 30)) else (fixN (poly_Seal_L1 p0 p1 p2 p3 p4) FUEL 0)))

def ref03_IsList_J2 (a2 : Int) (rec1 : (Int) → Option (Bool)) (a3 : Bool) : Option (Bool) := (bif a3 then (some false) else (rec1 (w64 (a2 + 1))))

def ref03_IsList_L1 (p0 : Int) (p1 : List Int) (rec1 : (Int) → Option (Bool)) (a2 : Int) : Option (Bool) := (if a2 < (p1.length : Int) then Option.bind (getI p1 a2) fun y4 => ((if y4 < 0 then (ref03_IsList_J2 a2 rec1 true) else Option.bind (getI p1 a2) fun y5 => (Option.bind (ref03_Receivers p0) fun x6 => ((if x6 ≤ y5 then (ref03_IsList_J2 a2 rec1 true) else (if (0 : Int) < a2 then Option.bind (getI p1 a2) fun y7 => (Option.bind (getI p1 (w64 (a2 - 1))) fun y8 => ((ref03_IsList_J2 a2 rec1 (decide (y7 ≤ y8))))) else (ref03_IsList_J2 a2 rec1 false))))))) else (some true))

/-- headend/headendref03.IsList -/
def ref03_IsList (p0 : Int) (p1 : List Int) : Option (Bool) := (fixN (ref03_IsList_L1 p0 p1) FUEL 0)

/-- headend/headendref04.MaskKey -/
def ref04_MaskKey (p0 : BitVec 64) : Option (W2) := (some (drv k0 (un8 42#8) p0))

def ref04_SealOf_J3 (p1 : TScheme) (x1 : List (BitVec 64)) (a4 : BitVec 64) (a10 : Int) (a11 : List TPoint) (rec2 : (Int × List TPoint) → Option (THeader)) (a14 : BitVec 64) : Option (THeader) := Option.bind (ref04_ValueOf p1.Group.Q x1 a14) fun x15 => (Option.bind (ref01_Power a4 x15 p1.Group.P) fun x16 => (Option.bind (appG 16 a11 [(TPoint.mk a14 x16)]) fun l17 => ((rec2 (w64 (a10 + 1), l17)))))

def ref04_SealOf_L2 (p1 : TScheme) (p2 : List Int) (p3 : W2) (x1 : List (BitVec 64)) (a4 : BitVec 64) (rec2 : (Int × List TPoint) → Option (THeader)) (s2 : Int × List TPoint) : Option (THeader) := match s2 with | (a10, a11) => (if a10 < p1.Degree then Option.bind (ref03_Receivers p1.Depth) fun x13 => ((if a10 < (p2.length : Int) then Option.bind (getI p2 a10) fun y18 => ((ref04_SealOf_J3 p1 x1 a4 a10 a11 rec2 ((wd y18) + 1#64))) else (ref04_SealOf_J3 p1 x1 a4 a10 a11 rec2 (wd (w64 ((w64 ((w64 (x13 + 1)) + a10)) - (p2.length : Int))))))) else Option.bind (ref04_ValueOf p1.Group.Q x1 0#64) fun x19 => (Option.bind (ref01_Power a4 x19 p1.Group.P) fun x20 => (Option.bind (ref04_MaskKey x20) fun x21 => ((some (THeader.mk [] a4 a11 (encr x21 p3) (drv p3 (un8 53#8) 0#64)))))))

def ref04_SealOf_J1 (p1 : TScheme) (p2 : List Int) (p3 : W2) (x1 : List (BitVec 64)) (a4 : BitVec 64) : Option (THeader) := (fixN (ref04_SealOf_L2 p1 p2 p3 x1 a4) FUEL (0, []))

/-- headend/headendref04.SealOf -/
def ref04_SealOf (p0 : W2) (p1 : TScheme) (p2 : List Int) (p3 : W2) (p4 : BitVec 64) : Option (THeader) := Option.bind (ref04_CoefficientsOf p0 p1) fun x1 => (Option.bind (ref02_Number (drv p0 (un8 41#8) p4) 0#64 (p1.Group.Q - 1#64)) fun x2 => (Option.bind (ref01_Power p1.Group.G (1#64 + x2) p1.Group.P) fun x22 => ((ref04_SealOf_J1 p1 p2 p3 x1 x22))))

/-- headend/headendref04.Seal -/
def ref04_Seal (p0 : W2) (p1 : TScheme) (p2 : List Int) (p3 : W2) (p4 : BitVec 64) : Option (THeader × Int) := Option.bind (ref04_Valid p1) fun x1 => ((bif (!x1) then (some ((THeader.mk [] 0#64 [] k0 k0), 30)) else Option.bind (ref03_IsList p1.Depth p2) fun x2 => ((bif (!x2) then (some ((THeader.mk [] 0#64 [] k0 k0), 2)) else (if p1.Degree < (p2.length : Int) then (some ((THeader.mk [] 0#64 [] k0 k0), 4)) else Option.bind (ref04_SealOf p0 p1 p2 p3 p4) fun x3 => ((some (x3, 0))))))))

def ref03_SameHeader_L3 (p0 : THeader) (p1 : THeader) (rec3 : (Int) → Option (Bool)) (a7 : Int) : Option (Bool) := (if a7 < (p0.Points.length : Int) then Option.bind (getI p0.Points a7) fun y8 => (Option.bind (getI p1.Points a7) fun y9 => ((if y8 ≠ y9 then (some false) else (rec3 (w64 (a7 + 1)))))) else (some true))

def ref03_SameHeader_L2 (p0 : THeader) (p1 : THeader) (rec2 : (Int) → Option (Bool)) (a3 : Int) : Option (Bool) := (if a3 < (p0.Items.length : Int) then Option.bind (getI p0.Items a3) fun y4 => (Option.bind (getI p1.Items a3) fun y5 => ((if y4 ≠ y5 then (some false) else (rec2 (w64 (a3 + 1)))))) else (fixN (ref03_SameHeader_L3 p0 p1) FUEL 0))

def ref03_SameHeader_J1 (p0 : THeader) (p1 : THeader) (a1 : Bool) : Option (Bool) := (bif a1 then (some false) else (fixN (ref03_SameHeader_L2 p0 p1) FUEL 0))

/-- headend/headendref03.SameHeader -/
def ref03_SameHeader (p0 : THeader) (p1 : THeader) : Option (Bool) := (if (p0.Items.length : Int) ≠ (p1.Items.length : Int) then (ref03_SameHeader_J1 p0 p1 true) else (if (p0.Points.length : Int) ≠ (p1.Points.length : Int) then (ref03_SameHeader_J1 p0 p1 true) else (if p0.Base ≠ p1.Base then (ref03_SameHeader_J1 p0 p1 true) else (if p0.Box ≠ p1.Box then (ref03_SameHeader_J1 p0 p1 true) else (ref03_SameHeader_J1 p0 p1 (decide (p0.Check ≠ p1.Check)))))))

def ref03_SameInts_L1 (p0 : List Int) (p1 : List Int) (rec1 : (Int) → Option (Bool)) (a2 : Int) : Option (Bool) := (if a2 < (p0.length : Int) then Option.bind (getI p0 a2) fun y3 => (Option.bind (getI p1 a2) fun y4 => ((if y3 ≠ y4 then (some false) else (rec1 (w64 (a2 + 1)))))) else (some true))

/-- headend/headendref03.SameInts -/
def ref03_SameInts (p0 : List Int) (p1 : List Int) : Option (Bool) := (if (p0.length : Int) ≠ (p1.length : Int) then (some false) else (fixN (ref03_SameInts_L1 p0 p1) FUEL 0))
end Go.Sx
