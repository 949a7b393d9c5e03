/- Mirrors: OHb. Printed by mx.py. -/
import Derived.Test.YtecempahccgijaaMirE
import Derived.Test.YtecempahccgijaaPln
import Derived.Test.YtecempahccgijaaWHbM
set_option linter.unusedVariables false
set_option maxRecDepth 100000
namespace Go.Sx
open Go Go.RowKit
noncomputable section
structure Tcover_source where
  b : List (BitVec 8)
deriving DecidableEq, Inhabited
def Tcover_source.cs (x : Tcover_source) (v0 : Value) : List Value := [v0]
theorem Tcover_source.cs_ones (x : Tcover_source) (v0 : Value) (h0 : oneB v0 = true) : ones (Tcover_source.cs x v0) = true := by simp only [Tcover_source.cs, List.cons_append, List.nil_append, kb, ones, one_int, one_bool, one_str, cond_true, h0]

def cover_put_L1 (p1 : BitVec 64) (rec1 : (List (BitVec 8) × Int) → Option (List (BitVec 8))) (s1 : List (BitVec 8) × Int) : Option (List (BitVec 8)) := match s1 with | (a4, a6) => (if (0 : Int) ≤ a6 then Option.bind (shG a6) fun n7 => (Option.bind (appG 1 a4 [(p1 >>> n7).setWidth 8]) fun l8 => ((rec1 (l8, w64 (a6 - 8))))) else (some a4))

/-- headend/cover.put -/
def cover_put (p0 : List (BitVec 8)) (p1 : BitVec 64) : Option (List (BitVec 8)) := (fixN (cover_put_L1 p1) FUEL (p0, 56))

def cover_Encode_J3 (a5 : List (BitVec 8)) (a7 : Int) (rec2 : (List (BitVec 8) × Int) → Option (List (BitVec 8) × Int)) (y8 : TItem) (a9 : Bool) : Option (List (BitVec 8) × Int) := (bif a9 then (some ([], 2)) else Option.bind (appG 1 a5 [wd8 y8.Subset.Node, wd8 y8.Subset.Minus]) fun l10 => (Option.bind (appG 1 l10 (kby y8.Box)) fun l11 => ((rec2 (l11, w64 (a7 + 1))))))

def cover_Encode_L5 (p0 : THeader) (rec5 : (List (BitVec 8) × Int) → Option (List (BitVec 8) × Int)) (s5 : List (BitVec 8) × Int) : Option (List (BitVec 8) × Int) := match s5 with | (a17, a19) => (if a19 < (p0.Points.length : Int) then Option.bind (getI p0.Points a19) fun y20 => (Option.bind (cover_put a17 y20.X) fun x21 => (Option.bind (cover_put x21 y20.Y) fun x22 => ((rec5 (x22, w64 (a19 + 1)))))) else Option.bind (appG 1 a17 (kby p0.Box)) fun l23 => (Option.bind (appG 1 l23 (kby p0.Check)) fun l24 => ((some (l24, 0)))))

def cover_Encode_J4 (p0 : THeader) (a12 : List (BitVec 8)) : Option (List (BitVec 8) × Int) := (fixN (cover_Encode_L5 p0) FUEL (a12, 0))

def cover_Encode_L2 (p0 : THeader) (rec2 : (List (BitVec 8) × Int) → Option (List (BitVec 8) × Int)) (s2 : List (BitVec 8) × Int) : Option (List (BitVec 8) × Int) := match s2 with | (a5, a7) => (if a7 < (p0.Items.length : Int) then Option.bind (getI p0.Items a7) fun y8 => ((if bitI .andNot y8.Subset.Node 255 ≠ 0 then (cover_Encode_J3 a5 a7 rec2 y8 true) else (cover_Encode_J3 a5 a7 rec2 y8 (decide (bitI .andNot y8.Subset.Minus 255 ≠ 0))))) else Option.bind (cover_put a5 p0.Base) fun x25 => (Option.bind (appG 1 x25 [wd8 (p0.Points.length : Int)]) fun l26 => ((cover_Encode_J4 p0 l26))))

def cover_Encode_J1 (p0 : THeader) (a1 : Bool) : Option (List (BitVec 8) × Int) := (bif a1 then (some ([], 4)) else (fixN (cover_Encode_L2 p0) FUEL ([wd8 (p0.Items.length : Int)], 0)))

/-- headend/cover.Encode -/
def cover_Encode (p0 : THeader) : Option (List (BitVec 8) × Int) := (if (64 : Int) < (p0.Items.length : Int) then (cover_Encode_J1 p0 true) else (cover_Encode_J1 p0 (decide ((8 : Int) < (p0.Points.length : Int)))))

/-- (*headend/cover.source).take -/
def cover_source_take (p0 : Tcover_source) (p1 : Int) : Option (List (BitVec 8) × Tcover_source) := Option.bind (mkL 1 p1 0#8) fun l1 => (Option.bind (sliG p0.b (copyN l1 p0.b) (p0.b.length : Int)) fun l2 => ((some (copyL l1 p0.b, (Tcover_source.mk l2)))))

/-- (*headend/cover.source).byte -/
def cover_source_byte (p0 : Tcover_source) : Option (Int × Tcover_source) := Option.bind (cover_source_take p0 1) fun x1 => (Option.bind (getI x1.1 0) fun y2 => ((some (un8 y2, x1.2))))

/-- (*headend/cover.source).key -/
def cover_source_key (p0 : Tcover_source) : Option (W2 × Tcover_source) := Option.bind (cover_source_take p0 16) fun x1 => (Option.bind (keyG x1.1) fun x2 => ((some (x2, x1.2))))

def cover_source_uint_L1 (x1 : List (BitVec 8) × Tcover_source) (rec1 : (BitVec 64 × Int) → Option (BitVec 64 × Tcover_source)) (s1 : BitVec 64 × Int) : Option (BitVec 64 × Tcover_source) := match s1 with | (a4, a5) => (if a5 < (x1.1.length : Int) then Option.bind (getI x1.1 a5) fun y6 => (Option.bind (shG (un 8#64)) fun n7 => ((rec1 ((a4 <<< n7) ||| (y6.setWidth 64), w64 (a5 + 1))))) else (some (a4, x1.2)))

/-- (*headend/cover.source).uint -/
def cover_source_uint (p0 : Tcover_source) : Option (BitVec 64 × Tcover_source) := Option.bind (cover_source_take p0 8) fun x1 => ((fixN (cover_source_uint_L1 x1) FUEL (0#64, 0)))

/-- bytes.Equal -/
def bytes_Equal (p0 : List (BitVec 8)) (p1 : List (BitVec 8)) : Option (Bool) := (some (decide (p0 = p1)))

def cover_Decode_J3 (a10 : List TItem) (x16 : BitVec 64 × Tcover_source) (a26 : List TPoint) (x31 : W2 × Tcover_source) (x32 : W2 × Tcover_source) (a34 : Bool) : Option (THeader × Int) := (bif a34 then (some ((THeader.mk [] 0#64 [] k0 k0), 12)) else (some ((THeader.mk a10 x16.1 a26 x31.1 x32.1), 0)))

def cover_Decode_L2 (p0 : List (BitVec 8)) (a10 : List TItem) (x16 : BitVec 64 × Tcover_source) (x17 : Int × Tcover_source) (rec2 : (Int × Tcover_source × List TPoint) → Option (THeader × Int)) (s2 : Int × Tcover_source × List TPoint) : Option (THeader × Int) := match s2 with | (a23, a24, a26) => (if a23 < x17.1 then Option.bind (cover_source_uint a24) fun x28 => (Option.bind (cover_source_uint x28.2) fun x29 => (Option.bind (appG 16 a26 [(TPoint.mk x28.1 x29.1)]) fun l30 => ((rec2 (w64 (a23 + 1), x29.2, l30))))) else Option.bind (cover_source_key a24) fun x31 => (Option.bind (cover_source_key x31.2) fun x32 => (Option.bind (cover_Encode (THeader.mk a10 x16.1 a26 x31.1 x32.1)) fun x33 => ((if x33.2 ≠ 0 then (cover_Decode_J3 a10 x16 a26 x31 x32 true) else Option.bind (bytes_Equal x33.1 p0) fun x35 => ((cover_Decode_J3 a10 x16 a26 x31 x32 (!x35))))))))

def cover_Decode_L1 (p0 : List (BitVec 8)) (x1 : Int × Tcover_source) (rec1 : (Int × Tcover_source × List TItem) → Option (THeader × Int)) (s1 : Int × Tcover_source × List TItem) : Option (THeader × Int) := match s1 with | (a7, a8, a10) => (if a7 < x1.1 then Option.bind (cover_source_byte a8) fun x12 => (Option.bind (cover_source_byte x12.2) fun x13 => (Option.bind (cover_source_key x13.2) fun x14 => (Option.bind (appG 32 a10 [(TItem.mk (TSubset.mk x12.1 x13.1) x14.1)]) fun l15 => ((rec1 (w64 (a7 + 1), x14.2, l15)))))) else Option.bind (cover_source_uint a8) fun x16 => (Option.bind (cover_source_byte x16.2) fun x17 => ((fixN (cover_Decode_L2 p0 a10 x16 x17) FUEL (0, x17.2, [])))))

/-- headend/cover.Decode -/
def cover_Decode (p0 : List (BitVec 8)) : Option (THeader × Int) := Option.bind (cover_source_byte (Tcover_source.mk p0)) fun x1 => ((fixN (cover_Decode_L1 p0 x1) FUEL (0, x1.2, [])))
end
end Go.Sx
