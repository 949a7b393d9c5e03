/- Mirrors: Pk. Printed by mx.py. -/
import Derived.Test.YtkdghilkigojgaaMirE
import Derived.Test.YtkdghilkigojgaaPln
import Derived.Test.YtkdghilkigojgaaPaM
set_option linter.unusedVariables false
set_option maxRecDepth 100000
namespace Go.Sx
open Go Go.RowKit
structure TSubset where
  Node : Int
  Minus : Int
deriving DecidableEq, Inhabited
def TSubset.cs (x : TSubset)  : List Value := [.int .i64 x.Node, .int .i64 x.Minus]
theorem TSubset.cs_ones (x : TSubset)   : ones (TSubset.cs x ) = true := by simp only [TSubset.cs, List.cons_append, List.nil_append, kb, ones, one_int, one_bool, one_str, cond_true]
theorem TSubset.cs_inj {x y : TSubset} (h : TSubset.cs x = TSubset.cs y) : x = y := by
  have h0 : x.Node = y.Node := ci_inj (congrArg (fun l => l[0]?) h)
  have h1 : x.Minus = y.Minus := ci_inj (congrArg (fun l => l[1]?) h)
  cases x; cases y; simp only at *; subst h0; subst h1; rfl
theorem TSubset.ws (l : List TSubset) : Ws 2 (l.map TSubset.cs) := ws_map l (fun _ => rfl) (fun _ => rfl)
structure TItem where
  Subset : TSubset
  Box : W2
deriving DecidableEq, Inhabited
def TItem.cs (x : TItem)  : List Value := [.int .i64 x.Subset.Node, .int .i64 x.Subset.Minus] ++ (kb x.Box)
theorem TItem.cs_ones (x : TItem)   : ones (TItem.cs x ) = true := by simp only [TItem.cs, List.cons_append, List.nil_append, kb, ones, one_int, one_bool, one_str, cond_true]
theorem TItem.cs_inj {x y : TItem} (h : TItem.cs x = TItem.cs y) : x = y := by
  have h0 : x.Subset = y.Subset := TSubset.cs_inj (congrArg (fun l => (l.drop 0).take 2) h)
  have h1 : x.Box = y.Box := kb_inj (congrArg (fun l => (l.drop 2).take 16) h)
  cases x; cases y; simp only at *; subst h0; subst h1; rfl
theorem TItem.ws (l : List TItem) : Ws 18 (l.map TItem.cs) := ws_map l (fun _ => rfl) (fun _ => rfl)
structure THeader where
  Items : List TItem
  Base : BitVec 64
  Points : List TPoint
  Box : W2
  Check : W2
deriving DecidableEq, Inhabited
def THeader.cs (x : THeader) (v0 : Value) (v1 : Value) : List Value := [v0, wv x.Base, v1] ++ (kb x.Box ++ (kb x.Check))
theorem THeader.cs_ones (x : THeader) (v0 : Value) (v1 : Value) (h0 : oneB v0 = true) (h1 : oneB v1 = true) : ones (THeader.cs x v0 v1) = true := by simp only [THeader.cs, List.cons_append, List.nil_append, kb, ones, one_int, one_bool, one_str, cond_true, h0, h1]
structure TPunctured where
  Depth : Int
  Labels : List TLabel
deriving DecidableEq, Inhabited
def TPunctured.cs (x : TPunctured) (v0 : Value) : List Value := [.int .i64 x.Depth, v0]
theorem TPunctured.cs_ones (x : TPunctured) (v0 : Value) (h0 : oneB v0 = true) : ones (TPunctured.cs x v0) = true := by simp only [TPunctured.cs, List.cons_append, List.nil_append, kb, ones, one_int, one_bool, one_str, cond_true, h0]

/-- headend/number.modulus -/
def number_modulus (p0 : BitVec 64) : Option (Bool) := (if 1#64 ≤ p0 then (some (decide (p0 < 4294967296#64))) else (some false))

/-- headend/number.PowMod -/
def number_PowMod (p0 : BitVec 64) (p1 : BitVec 64) (p2 : BitVec 64) : Option (BitVec 64 × Int) := Option.bind (number_modulus p2) fun x1 => ((bif (!x1) then (some (0#64, 2)) else Option.bind (number_power p0 p1 p2) fun x2 => ((some (x2, 0)))))

/-- headend/poly.power -/
def poly_power (p0 : TScheme) (p1 : BitVec 64) (p2 : BitVec 64) : Option (BitVec 64) := Option.bind (number_PowMod p1 p2 p0.Group.P) fun x1 => ((some x1.1))

/-- headend/poly.maskKey -/
def poly_maskKey (p0 : BitVec 64) : Option (W2) := (some (drv k0 (un8 42#8) p0))

/-- headend/headendref04.MaskKey -/
def ref04_MaskKey (p0 : BitVec 64) : Option (W2) := (some (drv k0 (un8 42#8) p0))

def ref03_SameHeader_L3 (p0 : THeader) (p1 : THeader) (rec3 : (Int) → Option (Bool)) (a7 : Int) : Option (Bool) := (if a7 < (p0.Points.length : Int) then Option.bind (getI p0.Points a7) fun y8 => (Option.bind (getI p1.Points a7) fun y9 => ((if y8 ≠ y9 then (some false) else (rec3 (w64 (a7 + 1)))))) else (some true))

def ref03_SameHeader_L2 (p0 : THeader) (p1 : THeader) (rec2 : (Int) → Option (Bool)) (a3 : Int) : Option (Bool) := (if a3 < (p0.Items.length : Int) then Option.bind (getI p0.Items a3) fun y4 => (Option.bind (getI p1.Items a3) fun y5 => ((if y4 ≠ y5 then (some false) else (rec2 (w64 (a3 + 1)))))) else (fixN (ref03_SameHeader_L3 p0 p1) FUEL 0))

def ref03_SameHeader_J1 (p0 : THeader) (p1 : THeader) (a1 : Bool) : Option (Bool) := (bif a1 then (some false) else (fixN (ref03_SameHeader_L2 p0 p1) FUEL 0))

/-- headend/headendref03.SameHeader -/
def ref03_SameHeader (p0 : THeader) (p1 : THeader) : Option (Bool) := (if (p0.Items.length : Int) ≠ (p1.Items.length : Int) then (ref03_SameHeader_J1 p0 p1 true) else (if (p0.Points.length : Int) ≠ (p1.Points.length : Int) then (ref03_SameHeader_J1 p0 p1 true) else (if p0.Base ≠ p1.Base then (ref03_SameHeader_J1 p0 p1 true) else (if p0.Box ≠ p1.Box then (ref03_SameHeader_J1 p0 p1 true) else (ref03_SameHeader_J1 p0 p1 (decide (p0.Check ≠ p1.Check)))))))

def ref03_SameInts_L1 (p0 : List Int) (p1 : List Int) (rec1 : (Int) → Option (Bool)) (a2 : Int) : Option (Bool) := (if a2 < (p0.length : Int) then Option.bind (getI p0 a2) fun y3 => (Option.bind (getI p1 a2) fun y4 => ((if y3 ≠ y4 then (some false) else (rec1 (w64 (a2 + 1)))))) else (some true))

/-- headend/headendref03.SameInts -/
def ref03_SameInts (p0 : List Int) (p1 : List Int) : Option (Bool) := (if (p0.length : Int) ≠ (p1.length : Int) then (some false) else (fixN (ref03_SameInts_L1 p0 p1) FUEL 0))

/-- headend/poly.distinct$1 -/
def poly_distinct_1 (p0 : TPoint) (p1 : TPoint) : Option (Bool) := (some (decide (p0.X = p1.X)))

def slices_IndexFunc_7a5d_poly_distinct_1_L1 (p0 : List TPoint) (p1_0 : TPoint) (rec1 : (Int) → Option (Int)) (a2 : Int) : Option (Int) := (if a2 < (p0.length : Int) then Option.bind (getI p0 a2) fun y3 => (Option.bind (poly_distinct_1 y3 p1_0) fun x4 => ((bif x4 then (some a2) else (rec1 (w64 (a2 + 1)))))) else (some (-1)))

/-- slices.IndexFunc[[]headend/api.Point,headend/api.Point] -/
def slices_IndexFunc_7a5d_poly_distinct_1 (p0 : List TPoint) (p1_0 : TPoint) : Option (Int) := (fixN (slices_IndexFunc_7a5d_poly_distinct_1_L1 p0 p1_0) FUEL 0)

/-- slices.ContainsFunc[[]headend/api.Point,headend/api.Point] -/
def slices_ContainsFunc_9e39_poly_distinct_1 (p0 : List TPoint) (p1_0 : TPoint) : Option (Bool) := Option.bind (slices_IndexFunc_7a5d_poly_distinct_1 p0 p1_0) fun x1 => ((some (decide ((0 : Int) ≤ x1))))

def poly_distinct_L1 (p0 : List TPoint) (rec1 : (Int) → Option (Bool)) (a2 : Int) : Option (Bool) := (if a2 < (p0.length : Int) then Option.bind (getI p0 a2) fun y3 => (Option.bind (sliG p0 0 a2) fun l4 => (Option.bind (slices_ContainsFunc_9e39_poly_distinct_1 l4 y3) fun x5 => ((bif x5 then (some false) else (rec1 (w64 (a2 + 1))))))) else (some true))

/-- headend/poly.distinct -/
def poly_distinct (p0 : List TPoint) : Option (Bool) := (fixN (poly_distinct_L1 p0) FUEL 0)

/-- headend/headendref04.minus -/
def ref04_minus (p0 : BitVec 64) (p1 : BitVec 64) (p2 : BitVec 64) : Option (BitVec 64) := Option.bind (remU p2 p0) fun x1 => (Option.bind (remU ((p1 + p0) - x1) p0) fun x2 => ((some x2)))

def ref01_Inverse_L1 (p1 : BitVec 64) (rec1 : (BitVec 64 × BitVec 64 × BitVec 64 × BitVec 64) → Option (BitVec 64 × Bool)) (s1 : BitVec 64 × BitVec 64 × BitVec 64 × BitVec 64) : Option (BitVec 64 × Bool) := match s1 with | (a7, a8, a9, a10) => (if a9 ≠ 0#64 then Option.bind (quoU a7 a9) fun x11 => (Option.bind (remU x11 p1) fun x12 => (Option.bind (remU (x12 * a10) p1) fun x13 => (Option.bind (remU (a8 + (p1 - x13)) p1) fun x14 => ((rec1 (a9, a10, a7 - (x11 * a9), x14)))))) else (some (a8, decide (a7 = 1#64))))

/-- headend/headendref01.Inverse -/
def ref01_Inverse (p0 : BitVec 64) (p1 : BitVec 64) : Option (BitVec 64 × Bool) := Option.bind (remU p0 p1) fun x1 => (Option.bind (remU 1#64 p1) fun x2 => ((fixN (ref01_Inverse_L1 p1) FUEL (x1, x2, p1, 0#64))))

/-- (headend/poly.field).sub -/
def poly_field_sub (p0 : BitVec 64) (p1 : BitVec 64) (p2 : BitVec 64) : Option (BitVec 64) := Option.bind (remU ((p1 + p0) - p2) p0) fun x1 => ((some x1))

def number_InvMod_L1 (p1 : BitVec 64) (rec1 : (Int × Int × Int × Int) → Option (BitVec 64 × Int)) (s1 : Int × Int × Int × Int) : Option (BitVec 64 × Int) := match s1 with | (a7, a8, a9, a10) => (if a8 ≠ 0 then Option.bind (quoI a7 a8) fun x11 => ((rec1 (a8, w64 (a7 - (w64 (x11 * a8))), a10, w64 (a9 - (w64 (x11 * a10)))))) else (if a7 ≠ 1 then (some (0#64, 10)) else Option.bind (remI a9 (w64 (un p1))) fun x12 => (Option.bind (remI (w64 (x12 + (w64 (un p1)))) (w64 (un p1))) fun x13 => ((some (wd x13, 0))))))

/-- headend/number.InvMod -/
def number_InvMod (p0 : BitVec 64) (p1 : BitVec 64) : Option (BitVec 64 × Int) := Option.bind (number_modulus p1) fun x1 => ((bif (!x1) then (some (0#64, 2)) else Option.bind (remU p0 p1) fun x2 => ((fixN (number_InvMod_L1 p1) FUEL (w64 (un p1), w64 (un x2), 0, 1)))))

/-- (headend/poly.field).div -/
def poly_field_div (p0 : BitVec 64) (p1 : BitVec 64) (p2 : BitVec 64) : Option (BitVec 64) := Option.bind (number_InvMod p2 p0) fun x1 => (Option.bind (poly_field_mul p0 [p1, x1.1]) fun x2 => ((some x2)))
end Go.Sx
