/- Mirrors: Hd. Printed by mx.py. -/
import Derived.Test.YtecempahccgijaaMirE
import Derived.Test.YtecempahccgijaaPln
set_option linter.unusedVariables false
set_option maxRecDepth 100000
namespace Go.Sx
open Go Go.RowKit
structure TSubset where
  Node : Int
  Minus : Int
deriving DecidableEq, Inhabited
def TSubset.cs (x : TSubset)  : List Value := [.int .i64 x.Node, .int .i64 x.Minus]
theorem TSubset.cs_ones (x : TSubset)   : ones (TSubset.cs x ) = true := by simp only [TSubset.cs, List.cons_append, List.nil_append, kb, ones, one_int, one_bool, one_str, cond_true]
theorem TSubset.cs_inj {x y : TSubset} (h : TSubset.cs x = TSubset.cs y) : x = y := by
  have h0 : x.Node = y.Node := ci_inj (congrArg (fun l => l[0]?) h)
  have h1 : x.Minus = y.Minus := ci_inj (congrArg (fun l => l[1]?) h)
  cases x; cases y; simp only at *; subst h0; subst h1; rfl
theorem TSubset.ws (l : List TSubset) : Ws 2 (l.map TSubset.cs) := ws_map l (fun _ => rfl) (fun _ => rfl)
structure TItem where
  Subset : TSubset
  Box : W2
deriving DecidableEq, Inhabited
def TItem.cs (x : TItem)  : List Value := [.int .i64 x.Subset.Node, .int .i64 x.Subset.Minus] ++ (kb x.Box)
theorem TItem.cs_ones (x : TItem)   : ones (TItem.cs x ) = true := by simp only [TItem.cs, List.cons_append, List.nil_append, kb, ones, one_int, one_bool, one_str, cond_true]
theorem TItem.cs_inj {x y : TItem} (h : TItem.cs x = TItem.cs y) : x = y := by
  have h0 : x.Subset = y.Subset := TSubset.cs_inj (congrArg (fun l => (l.drop 0).take 2) h)
  have h1 : x.Box = y.Box := kb_inj (congrArg (fun l => (l.drop 2).take 16) h)
  cases x; cases y; simp only at *; subst h0; subst h1; rfl
theorem TItem.ws (l : List TItem) : Ws 18 (l.map TItem.cs) := ws_map l (fun _ => rfl) (fun _ => rfl)
structure TPoint where
  X : BitVec 64
  Y : BitVec 64
deriving DecidableEq, Inhabited
def TPoint.cs (x : TPoint)  : List Value := [wv x.X, wv x.Y]
theorem TPoint.cs_ones (x : TPoint)   : ones (TPoint.cs x ) = true := by simp only [TPoint.cs, List.cons_append, List.nil_append, kb, ones, one_int, one_bool, one_str, cond_true]
theorem TPoint.cs_inj {x y : TPoint} (h : TPoint.cs x = TPoint.cs y) : x = y := by
  have h0 : x.X = y.X := cu_inj (congrArg (fun l => l[0]?) h)
  have h1 : x.Y = y.Y := cu_inj (congrArg (fun l => l[1]?) h)
  cases x; cases y; simp only at *; subst h0; subst h1; rfl
theorem TPoint.ws (l : List TPoint) : Ws 2 (l.map TPoint.cs) := ws_map l (fun _ => rfl) (fun _ => rfl)
structure THeader where
  Items : List TItem
  Base : BitVec 64
  Points : List TPoint
  Box : W2
  Check : W2
deriving DecidableEq, Inhabited
def THeader.cs (x : THeader) (v0 : Value) (v1 : Value) : List Value := [v0, wv x.Base, v1] ++ (kb x.Box ++ (kb x.Check))
theorem THeader.cs_ones (x : THeader) (v0 : Value) (v1 : Value) (h0 : oneB v0 = true) (h1 : oneB v1 = true) : ones (THeader.cs x v0 v1) = true := by simp only [THeader.cs, List.cons_append, List.nil_append, kb, ones, one_int, one_bool, one_str, cond_true, h0, h1]
structure Tcover_source where
  b : List (BitVec 8)
deriving DecidableEq, Inhabited
def Tcover_source.cs (x : Tcover_source) (v0 : Value) : List Value := [v0]
theorem Tcover_source.cs_ones (x : Tcover_source) (v0 : Value) (h0 : oneB v0 = true) : ones (Tcover_source.cs x v0) = true := by simp only [Tcover_source.cs, List.cons_append, List.nil_append, kb, ones, one_int, one_bool, one_str, cond_true, h0]

/-- headend/headendref03.TwinHeader -/
def ref03_TwinHeader (p0 : THeader) : Option (THeader) := Option.bind (appG 32 [] p0.Items) fun l1 => (Option.bind (appG 16 [] p0.Points) fun l2 => ((some (THeader.mk l1 p0.Base l2 p0.Box p0.Check))))

def cover_put_L1 (p1 : BitVec 64) (rec1 : (List (BitVec 8) × Int) → Option (List (BitVec 8))) (s1 : List (BitVec 8) × Int) : Option (List (BitVec 8)) := match s1 with | (a4, a6) => (if (0 : Int) ≤ a6 then Option.bind (shG a6) fun n7 => (Option.bind (appG 1 a4 [(p1 >>> n7).setWidth 8]) fun l8 => ((rec1 (l8, w64 (a6 - 8))))) else (some a4))

/-- headend/cover.put -/
def cover_put (p0 : List (BitVec 8)) (p1 : BitVec 64) : Option (List (BitVec 8)) := (fixN (cover_put_L1 p1) FUEL (p0, 56))

def cover_Encode_J3 (a5 : List (BitVec 8)) (a7 : Int) (rec2 : (List (BitVec 8) × Int) → Option (List (BitVec 8) × Int)) (y8 : TItem) (a9 : Bool) : Option (List (BitVec 8) × Int) := (bif a9 then (some ([], 2)) else Option.bind (appG 1 a5 [wd8 y8.Subset.Node, wd8 y8.Subset.Minus]) fun l10 => (Option.bind (appG 1 l10 (kby y8.Box)) fun l11 => ((rec2 (l11, w64 (a7 + 1))))))

def cover_Encode_L5 (p0 : THeader) (rec5 : (List (BitVec 8) × Int) → Option (List (BitVec 8) × Int)) (s5 : List (BitVec 8) × Int) : Option (List (BitVec 8) × Int) := match s5 with | (a17, a19) => (if a19 < (p0.Points.length : Int) then Option.bind (getI p0.Points a19) fun y20 => (Option.bind (cover_put a17 y20.X) fun x21 => (Option.bind (cover_put x21 y20.Y) fun x22 => ((rec5 (x22, w64 (a19 + 1)))))) else Option.bind (appG 1 a17 (kby p0.Box)) fun l23 => (Option.bind (appG 1 l23 (kby p0.Check)) fun l24 => ((some (l24, 0)))))

def cover_Encode_J4 (p0 : THeader) (a12 : List (BitVec 8)) : Option (List (BitVec 8) × Int) := (fixN (cover_Encode_L5 p0) FUEL (a12, 0))

def cover_Encode_L2 (p0 : THeader) (rec2 : (List (BitVec 8) × Int) → Option (List (BitVec 8) × Int)) (s2 : List (BitVec 8) × Int) : Option (List (BitVec 8) × Int) := match s2 with | (a5, a7) => (if a7 < (p0.Items.length : Int) then Option.bind (getI p0.Items a7) fun y8 => ((if bitI .andNot y8.Subset.Node 255 ≠ 0 then (cover_Encode_J3 a5 a7 rec2 y8 true) else (cover_Encode_J3 a5 a7 rec2 y8 (decide (bitI .andNot y8.Subset.Minus 255 ≠ 0))))) else Option.bind (cover_put a5 p0.Base) fun x25 => (Option.bind (appG 1 x25 [wd8 (p0.Points.length : Int)]) fun l26 => ((cover_Encode_J4 p0 l26))))

def cover_Encode_J1 (p0 : THeader) (a1 : Bool) : Option (List (BitVec 8) × Int) := (bif a1 then (some ([], 4)) else (fixN (cover_Encode_L2 p0) FUEL ([wd8 (p0.Items.length : Int)], 0)))

/-- headend/cover.Encode -/
def cover_Encode (p0 : THeader) : Option (List (BitVec 8) × Int) := (if (64 : Int) < (p0.Items.length : Int) then (cover_Encode_J1 p0 true) else (cover_Encode_J1 p0 (decide ((8 : Int) < (p0.Points.length : Int)))))

def ref02_Bytes_L1 (p1 : Int) (rec1 : (BitVec 64 × List (BitVec 8) × Int) → Option (List (BitVec 8))) (s1 : BitVec 64 × List (BitVec 8) × Int) : Option (List (BitVec 8)) := match s1 with | (a5, a6, a8) => (if a8 < p1 then Option.bind (remU a5 256#64) fun x9 => (Option.bind (appG 1 [x9.setWidth 8] a6) fun l10 => (Option.bind (quoU a5 256#64) fun x11 => ((rec1 (x11, l10, w64 (a8 + 1)))))) else (some a6))

/-- headend/headendref02.Bytes -/
def ref02_Bytes (p0 : BitVec 64) (p1 : Int) : Option (List (BitVec 8)) := (fixN (ref02_Bytes_L1 p1) FUEL (p0, [], 0))

def ref03_Encode_J3 (a5 : List (BitVec 8)) (a7 : Int) (rec2 : (List (BitVec 8) × Int) → Option (List (BitVec 8) × Int)) (y8 : TItem) (a9 : Bool) : Option (List (BitVec 8) × Int) := (bif a9 then (some ([], 2)) else Option.bind (appG 1 a5 [wd8 y8.Subset.Node, wd8 y8.Subset.Minus]) fun l10 => (Option.bind (appG 1 l10 (kby y8.Box)) fun l11 => ((rec2 (l11, w64 (a7 + 1))))))

def ref03_Encode_L4 (p0 : THeader) (rec4 : (List (BitVec 8) × Int) → Option (List (BitVec 8) × Int)) (s4 : List (BitVec 8) × Int) : Option (List (BitVec 8) × Int) := match s4 with | (a18, a20) => (if a20 < (p0.Points.length : Int) then Option.bind (getI p0.Points a20) fun y21 => (Option.bind (ref02_Bytes y21.X 8) fun x22 => (Option.bind (appG 1 a18 x22) fun l23 => (Option.bind (getI p0.Points a20) fun y24 => (Option.bind (ref02_Bytes y24.Y 8) fun x25 => (Option.bind (appG 1 l23 x25) fun l26 => ((rec4 (l26, w64 (a20 + 1))))))))) else Option.bind (appG 1 a18 (kby p0.Box)) fun l27 => (Option.bind (appG 1 l27 (kby p0.Check)) fun l28 => ((some (l28, 0)))))

def ref03_Encode_L2 (p0 : THeader) (rec2 : (List (BitVec 8) × Int) → Option (List (BitVec 8) × Int)) (s2 : List (BitVec 8) × Int) : Option (List (BitVec 8) × Int) := match s2 with | (a5, a7) => (if a7 < (p0.Items.length : Int) then Option.bind (getI p0.Items a7) fun y8 => ((if y8.Subset.Node < 0 then (ref03_Encode_J3 a5 a7 rec2 y8 true) else (if (255 : Int) < y8.Subset.Node then (ref03_Encode_J3 a5 a7 rec2 y8 true) else (if y8.Subset.Minus < 0 then (ref03_Encode_J3 a5 a7 rec2 y8 true) else (ref03_Encode_J3 a5 a7 rec2 y8 (decide ((255 : Int) < y8.Subset.Minus))))))) else Option.bind (ref02_Bytes p0.Base 8) fun x12 => (Option.bind (appG 1 a5 x12) fun l13 => (Option.bind (appG 1 l13 [wd8 (p0.Points.length : Int)]) fun l14 => ((fixN (ref03_Encode_L4 p0) FUEL (l14, 0))))))

def ref03_Encode_J1 (p0 : THeader) (a1 : Bool) : Option (List (BitVec 8) × Int) := (bif a1 then (some ([], 4)) else (fixN (ref03_Encode_L2 p0) FUEL ([wd8 (p0.Items.length : Int)], 0)))

/-- headend/headendref03.Encode -/
def ref03_Encode (p0 : THeader) : Option (List (BitVec 8) × Int) := (if (64 : Int) < (p0.Items.length : Int) then (ref03_Encode_J1 p0 true) else (ref03_Encode_J1 p0 (decide ((8 : Int) < (p0.Points.length : Int)))))

def ref03_SameHeader_L3 (p0 : THeader) (p1 : THeader) (rec3 : (Int) → Option (Bool)) (a7 : Int) : Option (Bool) := (if a7 < (p0.Points.length : Int) then Option.bind (getI p0.Points a7) fun y8 => (Option.bind (getI p1.Points a7) fun y9 => ((if y8 ≠ y9 then (some false) else (rec3 (w64 (a7 + 1)))))) else (some true))

def ref03_SameHeader_L2 (p0 : THeader) (p1 : THeader) (rec2 : (Int) → Option (Bool)) (a3 : Int) : Option (Bool) := (if a3 < (p0.Items.length : Int) then Option.bind (getI p0.Items a3) fun y4 => (Option.bind (getI p1.Items a3) fun y5 => ((if y4 ≠ y5 then (some false) else (rec2 (w64 (a3 + 1)))))) else (fixN (ref03_SameHeader_L3 p0 p1) FUEL 0))

def ref03_SameHeader_J1 (p0 : THeader) (p1 : THeader) (a1 : Bool) : Option (Bool) := (bif a1 then (some false) else (fixN (ref03_SameHeader_L2 p0 p1) FUEL 0))

/-- headend/headendref03.SameHeader -/
def ref03_SameHeader (p0 : THeader) (p1 : THeader) : Option (Bool) := (if (p0.Items.length : Int) ≠ (p1.Items.length : Int) then (ref03_SameHeader_J1 p0 p1 true) else (if (p0.Points.length : Int) ≠ (p1.Points.length : Int) then (ref03_SameHeader_J1 p0 p1 true) else (if p0.Base ≠ p1.Base then (ref03_SameHeader_J1 p0 p1 true) else (if p0.Box ≠ p1.Box then (ref03_SameHeader_J1 p0 p1 true) else (ref03_SameHeader_J1 p0 p1 (decide (p0.Check ≠ p1.Check)))))))

/-- (*headend/cover.source).take -/
def cover_source_take (p0 : Tcover_source) (p1 : Int) : Option (List (BitVec 8) × Tcover_source) := Option.bind (mkL 1 p1 0#8) fun l1 => (Option.bind (sliG p0.b (copyN l1 p0.b) (p0.b.length : Int)) fun l2 => ((some (copyL l1 p0.b, (Tcover_source.mk l2)))))

/-- (*headend/cover.source).byte -/
def cover_source_byte (p0 : Tcover_source) : Option (Int × Tcover_source) := Option.bind (cover_source_take p0 1) fun x1 => (Option.bind (getI x1.1 0) fun y2 => ((some (un8 y2, x1.2))))

/-- (*headend/cover.source).key -/
def cover_source_key (p0 : Tcover_source) : Option (W2 × Tcover_source) := Option.bind (cover_source_take p0 16) fun x1 => (Option.bind (keyG x1.1) fun x2 => ((some (x2, x1.2))))

def cover_source_uint_L1 (x1 : List (BitVec 8) × Tcover_source) (rec1 : (BitVec 64 × Int) → Option (BitVec 64 × Tcover_source)) (s1 : BitVec 64 × Int) : Option (BitVec 64 × Tcover_source) := match s1 with | (a4, a5) => (if a5 < (x1.1.length : Int) then Option.bind (getI x1.1 a5) fun y6 => (Option.bind (shG (un 8#64)) fun n7 => ((rec1 ((a4 <<< n7) ||| (y6.setWidth 64), w64 (a5 + 1))))) else (some (a4, x1.2)))

/-- (*headend/cover.source).uint -/
def cover_source_uint (p0 : Tcover_source) : Option (BitVec 64 × Tcover_source) := Option.bind (cover_source_take p0 8) fun x1 => ((fixN (cover_source_uint_L1 x1) FUEL (0#64, 0)))

/-- bytes.Equal -/
def bytes_Equal (p0 : List (BitVec 8)) (p1 : List (BitVec 8)) : Option (Bool) := (some (decide (p0 = p1)))

def cover_Decode_J3 (a10 : List TItem) (x16 : BitVec 64 × Tcover_source) (a26 : List TPoint) (x31 : W2 × Tcover_source) (x32 : W2 × Tcover_source) (a34 : Bool) : Option (THeader × Int) := (bif a34 then (some ((THeader.mk [] 0#64 [] k0 k0), 12)) else (some ((THeader.mk a10 x16.1 a26 x31.1 x32.1), 0)))

def cover_Decode_L2 (p0 : List (BitVec 8)) (a10 : List TItem) (x16 : BitVec 64 × Tcover_source) (x17 : Int × Tcover_source) (rec2 : (Int × Tcover_source × List TPoint) → Option (THeader × Int)) (s2 : Int × Tcover_source × List TPoint) : Option (THeader × Int) := match s2 with | (a23, a24, a26) => (if a23 < x17.1 then Option.bind (cover_source_uint a24) fun x28 => (Option.bind (cover_source_uint x28.2) fun x29 => (Option.bind (appG 16 a26 [(TPoint.mk x28.1 x29.1)]) fun l30 => ((rec2 (w64 (a23 + 1), x29.2, l30))))) else Option.bind (cover_source_key a24) fun x31 => (Option.bind (cover_source_key x31.2) fun x32 => (Option.bind (cover_Encode (THeader.mk a10 x16.1 a26 x31.1 x32.1)) fun x33 => ((if x33.2 ≠ 0 then (cover_Decode_J3 a10 x16 a26 x31 x32 true) else Option.bind (bytes_Equal x33.1 p0) fun x35 => ((cover_Decode_J3 a10 x16 a26 x31 x32 (!x35))))))))

def cover_Decode_L1 (p0 : List (BitVec 8)) (x1 : Int × Tcover_source) (rec1 : (Int × Tcover_source × List TItem) → Option (THeader × Int)) (s1 : Int × Tcover_source × List TItem) : Option (THeader × Int) := match s1 with | (a7, a8, a10) => (if a7 < x1.1 then Option.bind (cover_source_byte a8) fun x12 => (Option.bind (cover_source_byte x12.2) fun x13 => (Option.bind (cover_source_key x13.2) fun x14 => (Option.bind (appG 32 a10 [(TItem.mk (TSubset.mk x12.1 x13.1) x14.1)]) fun l15 => ((rec1 (w64 (a7 + 1), x14.2, l15)))))) else Option.bind (cover_source_uint a8) fun x16 => (Option.bind (cover_source_byte x16.2) fun x17 => ((fixN (cover_Decode_L2 p0 a10 x16 x17) FUEL (0, x17.2, [])))))

/-- headend/cover.Decode -/
def cover_Decode (p0 : List (BitVec 8)) : Option (THeader × Int) := Option.bind (cover_source_byte (Tcover_source.mk p0)) fun x1 => ((fixN (cover_Decode_L1 p0 x1) FUEL (0, x1.2, [])))

def ref03_at_L1 (p0 : List (BitVec 8)) (p1 : Int) (p2 : Int) (rec1 : (List (BitVec 8) × Int) → Option (List (BitVec 8))) (s1 : List (BitVec 8) × Int) : Option (List (BitVec 8)) := match s1 with | (a4, a6) => (if a6 < p2 then (if w64 (p1 + a6) < (p0.length : Int) then Option.bind (getI p0 (w64 (p1 + a6))) fun y7 => (Option.bind (appG 1 a4 [y7]) fun l8 => ((rec1 (l8, w64 (a6 + 1))))) else Option.bind (appG 1 a4 [0#8]) fun l9 => ((rec1 (l9, w64 (a6 + 1))))) else (some a4))

/-- headend/headendref03.at -/
def ref03_at (p0 : List (BitVec 8)) (p1 : Int) (p2 : Int) : Option (List (BitVec 8)) := (fixN (ref03_at_L1 p0 p1 p2) FUEL ([], 0))

def ref03_key_L1 (p0 : List (BitVec 8)) (rec1 : (Int × W2) → Option (W2)) (s1 : Int × W2) : Option (W2) := match s1 with | (a3, a4) => (if a3 < 16 then Option.bind (getI p0 a3) fun y5 => (Option.bind (getI (kby a4) a3) fun y6 => (Option.bind (kset a4 a3 y5) fun x7 => ((rec1 (w64 (a3 + 1), x7))))) else (some a4))

/-- headend/headendref03.key -/
def ref03_key (p0 : List (BitVec 8)) : Option (W2) := (fixN (ref03_key_L1 p0) FUEL (0, k0))

def ref02_Value_L1 (p0 : List (BitVec 8)) (rec1 : (BitVec 64 × Int) → Option (BitVec 64)) (s1 : BitVec 64 × Int) : Option (BitVec 64) := match s1 with | (a3, a4) => (if a4 < (p0.length : Int) then Option.bind (getI p0 a4) fun y5 => ((rec1 ((256#64 * a3) + (y5.setWidth 64), w64 (a4 + 1)))) else (some a3))

/-- headend/headendref02.Value -/
def ref02_Value (p0 : List (BitVec 8)) : Option (BitVec 64) := (fixN (ref02_Value_L1 p0) FUEL (0#64, 0))

def ref03_Decode_J3 (a9 : List TItem) (x18 : BitVec 64) (a27 : List TPoint) (x35 : W2) (x37 : W2) (a39 : Bool) : Option (THeader × Int) := (bif a39 then (some ((THeader.mk [] 0#64 [] k0 k0), 12)) else (some ((THeader.mk a9 x18 a27 x35 x37), 0)))

def ref03_Decode_L2 (p0 : List (BitVec 8)) (a9 : List TItem) (x18 : BitVec 64) (rec2 : (Int × Int × List TPoint) → Option (THeader × Int)) (s2 : Int × Int × List TPoint) : Option (THeader × Int) := match s2 with | (a25, a26, a27) => (if (0 : Int) < a26 then Option.bind (ref03_at p0 a25 8) fun x29 => (Option.bind (ref02_Value x29) fun x30 => (Option.bind (ref03_at p0 (w64 (a25 + 8)) 8) fun x31 => (Option.bind (ref02_Value x31) fun x32 => (Option.bind (appG 16 a27 [(TPoint.mk x30 x32)]) fun l33 => ((rec2 (w64 (a25 + 16), w64 (a26 - 1), l33))))))) else Option.bind (ref03_at p0 a25 16) fun x34 => (Option.bind (ref03_key x34) fun x35 => (Option.bind (ref03_at p0 (w64 (a25 + 16)) 16) fun x36 => (Option.bind (ref03_key x36) fun x37 => (Option.bind (ref03_Encode (THeader.mk a9 x18 a27 x35 x37)) fun x38 => ((if x38.2 ≠ 0 then (ref03_Decode_J3 a9 x18 a27 x35 x37 true) else (ref03_Decode_J3 a9 x18 a27 x35 x37 (decide (x38.1 ≠ p0))))))))))

def ref03_Decode_L1 (p0 : List (BitVec 8)) (rec1 : (Int × Int × List TItem) → Option (THeader × Int)) (s1 : Int × Int × List TItem) : Option (THeader × Int) := match s1 with | (a7, a8, a9) => (if (0 : Int) < a8 then Option.bind (ref03_at p0 a7 18) fun x11 => (Option.bind (getI x11 0) fun y12 => (Option.bind (getI x11 1) fun y13 => (Option.bind (sliG x11 2 (x11.length : Int)) fun l14 => (Option.bind (ref03_key l14) fun x15 => (Option.bind (appG 32 a9 [(TItem.mk (TSubset.mk (un8 y12) (un8 y13)) x15)]) fun l16 => ((rec1 (w64 (a7 + 18), w64 (a8 - 1), l16)))))))) else Option.bind (ref03_at p0 a7 8) fun x17 => (Option.bind (ref02_Value x17) fun x18 => (Option.bind (ref03_at p0 (w64 (a7 + 8)) 1) fun x19 => (Option.bind (getI x19 0) fun y20 => ((fixN (ref03_Decode_L2 p0 a9 x18) FUEL (w64 (a7 + 9), un8 y20, [])))))))

/-- headend/headendref03.Decode -/
def ref03_Decode (p0 : List (BitVec 8)) : Option (THeader × Int) := Option.bind (ref03_at p0 0 1) fun x1 => (Option.bind (getI x1 0) fun y2 => ((fixN (ref03_Decode_L1 p0) FUEL (1, un8 y2, []))))

def law03_CoverHeaders_J1 (p1 : List (BitVec 8)) (l2 : List (BitVec 8)) (a5 : Bool) : Option (Bool) := (bif a5 then (some false) else Option.bind (cover_Decode l2) fun x6 => (Option.bind (ref03_Decode p1) fun x7 => (Option.bind (ref03_SameHeader x6.1 x7.1) fun x8 => ((bif x8 then (if x6.2 = x7.2 then (some (decide (l2 = p1))) else (some false)) else (some false))))))

/-- headend/headendlaw03.CoverHeaders -/
def law03_CoverHeaders (p0 : THeader) (p1 : List (BitVec 8)) : Option (Bool) := Option.bind (ref03_TwinHeader p0) fun x1 => (Option.bind (appG 1 [] p1) fun l2 => (Option.bind (cover_Encode x1) fun x3 => (Option.bind (ref03_Encode p0) fun x4 => ((if x3.1 ≠ x4.1 then (law03_CoverHeaders_J1 p1 l2 true) else (if x3.2 ≠ x4.2 then (law03_CoverHeaders_J1 p1 l2 true) else Option.bind (ref03_SameHeader x1 p0) fun x9 => ((law03_CoverHeaders_J1 p1 l2 (!x9)))))))))
end Go.Sx
