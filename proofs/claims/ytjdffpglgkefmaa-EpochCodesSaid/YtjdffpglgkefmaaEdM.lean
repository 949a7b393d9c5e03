/- Mirrors: Ed. Printed by mx.py. -/
import Derived.Test.YtjdffpglgkefmaaMirE
import Derived.Test.YtjdffpglgkefmaaPln
import Derived.Test.YtjdffpglgkefmaaEaM
set_option linter.unusedVariables false
set_option maxRecDepth 100000
namespace Go.Sx
open Go Go.RowKit
structure Tepoch_reader where
  b : List (BitVec 8)
  short : Bool
deriving DecidableEq, Inhabited
def Tepoch_reader.cs (x : Tepoch_reader) (v0 : Value) : List Value := [v0, .bool x.short]
theorem Tepoch_reader.cs_ones (x : Tepoch_reader) (v0 : Value) (h0 : oneB v0 = true) : ones (Tepoch_reader.cs x v0) = true := by simp only [Tepoch_reader.cs, List.cons_append, List.nil_append, kb, ones, one_int, one_bool, one_str, cond_true, h0]

/-- (*headend/epoch.reader).take -/
def epoch_reader_take (p0 : Tepoch_reader) (p1 : Int) : Option (List (BitVec 8) × Tepoch_reader) := (if (p0.b.length : Int) < p1 then Option.bind (mkL 1 p1 0#8) fun l1 => ((some (l1, (Tepoch_reader.mk [] true)))) else Option.bind (sliG p0.b 0 p1) fun l2 => (Option.bind (sliG p0.b p1 (p0.b.length : Int)) fun l3 => ((some (l2, (Tepoch_reader.mk l3 p0.short))))))

def epoch_reader_number_L1 (x1 : List (BitVec 8) × Tepoch_reader) (rec1 : (BitVec 64 × Int) → Option (BitVec 64 × Tepoch_reader)) (s1 : BitVec 64 × Int) : Option (BitVec 64 × Tepoch_reader) := match s1 with | (a4, a5) => (if a5 < (x1.1.length : Int) then Option.bind (getI x1.1 a5) fun y6 => (Option.bind (shG (un 8#64)) fun n7 => ((rec1 ((a4 <<< n7) ||| (y6.setWidth 64), w64 (a5 + 1))))) else (some (a4, x1.2)))

/-- (*headend/epoch.reader).number -/
def epoch_reader_number (p0 : Tepoch_reader) (p1 : Int) : Option (BitVec 64 × Tepoch_reader) := Option.bind (epoch_reader_take p0 p1) fun x1 => ((fixN (epoch_reader_number_L1 x1) FUEL (0#64, 0)))

/-- (*headend/epoch.reader).small -/
def epoch_reader_small (p0 : Tepoch_reader) : Option (Int × Tepoch_reader) := Option.bind (epoch_reader_number p0 1) fun x1 => ((some (w64 (un x1.1), x1.2)))

/-- slices.Clone[[]byte,byte] -/
def slices_Clone_4733 (p0 : List (BitVec 8)) : Option (List (BitVec 8)) := Option.bind (appG 1 [] p0) fun l1 => ((some l1))

/-- (*headend/epoch.reader).key -/
def epoch_reader_key (p0 : Tepoch_reader) : Option (W2 × Tepoch_reader) := Option.bind (epoch_reader_take p0 16) fun x1 => (Option.bind (keyG x1.1) fun x2 => ((some (x2, x1.2))))

/-- (*headend/epoch.reader).item -/
def epoch_reader_item (p0 : Tepoch_reader) : Option (TItem × Tepoch_reader) := Option.bind (epoch_reader_small p0) fun x1 => (Option.bind (epoch_reader_small x1.2) fun x2 => (Option.bind (epoch_reader_key x2.2) fun x3 => ((some ((TItem.mk (TSubset.mk x1.1 x2.1) x3.1), x3.2)))))

/-- (*headend/epoch.reader).point -/
def epoch_reader_point (p0 : Tepoch_reader) : Option (TPoint × Tepoch_reader) := Option.bind (epoch_reader_number p0 8) fun x1 => (Option.bind (epoch_reader_number x1.2 8) fun x2 => ((some ((TPoint.mk x1.1 x2.1), x2.2))))

def epoch_Decode_J2 (x1 : Int × Tepoch_reader) (a4 : Int) (a5 : List TItem) (a6 : BitVec 64) (a7 : List TPoint) (a8 : W2) (a9 : W2) (a10 : BitVec 8) (a11 : BitVec 64) (a12 : List (BitVec 8)) (x16 : W2 × Tepoch_reader) (a17 : Bool) : Option (TPacket × Int) := (bif a17 then (some ((TPacket.mk 0#8 0 (THeader.mk [] 0#64 [] k0 k0) 0#8 0#64 [] k0), 8)) else (some ((TPacket.mk (wd8 x1.1) a4 (THeader.mk a5 a6 a7 a8 a9) a10 a11 a12 x16.1), 0)))

def epoch_Decode_J1 (x1 : Int × Tepoch_reader) (a2 : Tepoch_reader) (a4 : Int) (a5 : List TItem) (a6 : BitVec 64) (a7 : List TPoint) (a8 : W2) (a9 : W2) (a10 : BitVec 8) (a11 : BitVec 64) (a12 : List (BitVec 8)) : Option (TPacket × Int) := Option.bind (epoch_reader_key a2) fun x16 => ((bif x16.2.short then (epoch_Decode_J2 x1 a4 a5 a6 a7 a8 a9 a10 a11 a12 x16 true) else (if (0 : Int) < (x16.2.b.length : Int) then (epoch_Decode_J2 x1 a4 a5 a6 a7 a8 a9 a10 a11 a12 x16 true) else Option.bind (epoch_CheckPacket (TPacket.mk (wd8 x1.1) a4 (THeader.mk a5 a6 a7 a8 a9) a10 a11 a12 x16.1)) fun x18 => ((epoch_Decode_J2 x1 a4 a5 a6 a7 a8 a9 a10 a11 a12 x16 (decide (x18 ≠ 0)))))))

def epoch_Decode_L4 (x1 : Int × Tepoch_reader) (x24 : BitVec 64 × Tepoch_reader) (x36 : BitVec 64 × Tepoch_reader) (x37 : Int × Tepoch_reader) (rec4 : (List TPoint × Int × Tepoch_reader) → Option (TPacket × Int)) (s4 : List TPoint × Int × Tepoch_reader) : Option (TPacket × Int) := match s4 with | (a43, a45, a46) => (if a45 < x37.1 then (bif a46.short then Option.bind (epoch_reader_key a46) fun x48 => (Option.bind (epoch_reader_key x48.2) fun x49 => ((epoch_Decode_J1 x1 x49.2 (w64 (un x24.1)) [] x36.1 [] x48.1 x49.1 0#8 0#64 []))) else Option.bind (epoch_reader_point a46) fun x50 => (Option.bind (appG 16 a43 [x50.1]) fun l51 => ((rec4 (l51, w64 (a45 + 1), x50.2))))) else Option.bind (epoch_reader_key a46) fun x52 => (Option.bind (epoch_reader_key x52.2) fun x53 => ((epoch_Decode_J1 x1 x53.2 (w64 (un x24.1)) [] x36.1 a43 x52.1 x53.1 0#8 0#64 []))))

def epoch_Decode_L5 (x1 : Int × Tepoch_reader) (x24 : BitVec 64 × Tepoch_reader) (a31 : List TItem) (x56 : BitVec 64 × Tepoch_reader) (x57 : Int × Tepoch_reader) (rec5 : (List TPoint × Int × Tepoch_reader) → Option (TPacket × Int)) (s5 : List TPoint × Int × Tepoch_reader) : Option (TPacket × Int) := match s5 with | (a63, a65, a66) => (if a65 < x57.1 then (bif a66.short then Option.bind (epoch_reader_key a66) fun x68 => (Option.bind (epoch_reader_key x68.2) fun x69 => ((epoch_Decode_J1 x1 x69.2 (w64 (un x24.1)) a31 x56.1 [] x68.1 x69.1 0#8 0#64 []))) else Option.bind (epoch_reader_point a66) fun x70 => (Option.bind (appG 16 a63 [x70.1]) fun l71 => ((rec5 (l71, w64 (a65 + 1), x70.2))))) else Option.bind (epoch_reader_key a66) fun x72 => (Option.bind (epoch_reader_key x72.2) fun x73 => ((epoch_Decode_J1 x1 x73.2 (w64 (un x24.1)) a31 x56.1 a63 x72.1 x73.1 0#8 0#64 []))))

def epoch_Decode_L3 (x1 : Int × Tepoch_reader) (x24 : BitVec 64 × Tepoch_reader) (x25 : Int × Tepoch_reader) (rec3 : (List TItem × Int × Tepoch_reader) → Option (TPacket × Int)) (s3 : List TItem × Int × Tepoch_reader) : Option (TPacket × Int) := match s3 with | (a31, a33, a34) => (if a33 < x25.1 then (bif a34.short then Option.bind (epoch_reader_number a34 8) fun x36 => (Option.bind (epoch_reader_small x36.2) fun x37 => ((fixN (epoch_Decode_L4 x1 x24 x36 x37) FUEL ([], 0, x37.2)))) else Option.bind (epoch_reader_item a34) fun x54 => (Option.bind (appG 32 a31 [x54.1]) fun l55 => ((rec3 (l55, w64 (a33 + 1), x54.2))))) else Option.bind (epoch_reader_number a34 8) fun x56 => (Option.bind (epoch_reader_small x56.2) fun x57 => ((fixN (epoch_Decode_L5 x1 x24 a31 x56 x57) FUEL ([], 0, x57.2)))))

/-- headend/epoch.Decode -/
def epoch_Decode (p0 : List (BitVec 8)) : Option (TPacket × Int) := Option.bind (epoch_reader_small (Tepoch_reader.mk p0 false)) fun x1 => ((if wd8 x1.1 = 2#8 then Option.bind (epoch_reader_small x1.2) fun x19 => (Option.bind (epoch_reader_number x19.2 8) fun x20 => (Option.bind (epoch_reader_number x20.2 2) fun x21 => (Option.bind (epoch_reader_take x21.2 (w64 (un x21.1))) fun x22 => (Option.bind (slices_Clone_4733 x22.1) fun x23 => ((epoch_Decode_J1 x1 x22.2 0 [] 0#64 [] k0 k0 (wd8 x19.1) x20.1 x23)))))) else Option.bind (epoch_reader_number x1.2 8) fun x24 => ((if 1099511627776#64 < x24.1 then (some ((TPacket.mk 0#8 0 (THeader.mk [] 0#64 [] k0 k0) 0#8 0#64 [] k0), 8)) else Option.bind (epoch_reader_small x24.2) fun x25 => ((fixN (epoch_Decode_L3 x1 x24 x25) FUEL ([], 0, x25.2)))))))
end Go.Sx
