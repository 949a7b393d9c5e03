/- Mirrors: Er. Printed by mx.py. -/
import Derived.Test.YtjdffpglgkefmaaMirE
import Derived.Test.YtjdffpglgkefmaaPln
import Derived.Test.YtjdffpglgkefmaaEdM
set_option linter.unusedVariables false
set_option maxRecDepth 100000
namespace Go.Sx
open Go Go.RowKit
structure TLabel where
  Node : Int
  Minus : Int
  Key : W2
deriving DecidableEq, Inhabited
def TLabel.cs (x : TLabel)  : List Value := [.int .i64 x.Node, .int .i64 x.Minus] ++ (kb x.Key)
theorem TLabel.cs_ones (x : TLabel)   : ones (TLabel.cs x ) = true := by simp only [TLabel.cs, List.cons_append, List.nil_append, kb, ones, one_int, one_bool, one_str, cond_true]
theorem TLabel.cs_inj {x y : TLabel} (h : TLabel.cs x = TLabel.cs y) : x = y := by
  have h0 : x.Node = y.Node := ci_inj (congrArg (fun l => l[0]?) h)
  have h1 : x.Minus = y.Minus := ci_inj (congrArg (fun l => l[1]?) h)
  have h2 : x.Key = y.Key := kb_inj (congrArg (fun l => (l.drop 2).take 16) h)
  cases x; cases y; simp only at *; subst h0; subst h1; subst h2; rfl
theorem TLabel.ws (l : List TLabel) : Ws 18 (l.map TLabel.cs) := ws_map l (fun _ => rfl) (fun _ => rfl)
structure TSecret where
  Receiver : Int
  Labels : List TLabel
  Share : TPoint
deriving DecidableEq, Inhabited
def TSecret.cs (x : TSecret) (v0 : Value) : List Value := [.int .i64 x.Receiver, v0, wv x.Share.X, wv x.Share.Y]
theorem TSecret.cs_ones (x : TSecret) (v0 : Value) (h0 : oneB v0 = true) : ones (TSecret.cs x v0) = true := by simp only [TSecret.cs, List.cons_append, List.nil_append, kb, ones, one_int, one_bool, one_str, cond_true, h0]

/-- headend/headendref05.blank -/
def ref05_blank (p0 : THeader) : Option (Bool) := (if (p0.Items.length : Int) = 0 then (if (p0.Points.length : Int) = 0 then (if p0.Base = 0#64 then (if p0.Box = k0 then (some (decide (p0.Check = k0))) else (some false)) else (some false)) else (some false)) else (some false))

/-- headend/headendref05.Tick -/
def ref05_Tick (p0 : Int) : Option (Bool) := (if (0 : Int) ≤ p0 then (some (decide (p0 ≤ 1099511627776))) else (some false))

def ref05_ValidPacket_J3 (a4 : Int) (rec2 : (Int) → Option (Bool)) (a6 : Bool) : Option (Bool) := (bif a6 then (some false) else (rec2 (w64 (a4 + 1))))

def ref05_ValidPacket_L2 (p0 : TPacket) (rec2 : (Int) → Option (Bool)) (a4 : Int) : Option (Bool) := (if a4 < (p0.Head.Items.length : Int) then Option.bind (getI p0.Head.Items a4) fun y5 => ((if y5.Subset.Node < 0 then (ref05_ValidPacket_J3 a4 rec2 true) else (if (127 : Int) < y5.Subset.Node then (ref05_ValidPacket_J3 a4 rec2 true) else (if y5.Subset.Minus < 0 then (ref05_ValidPacket_J3 a4 rec2 true) else (ref05_ValidPacket_J3 a4 rec2 (decide ((127 : Int) < y5.Subset.Minus))))))) else (some true))

def ref05_ValidPacket_J1 (p0 : TPacket) (a2 : Bool) : Option (Bool) := (bif a2 then (some false) else (fixN (ref05_ValidPacket_L2 p0) FUEL 0))

/-- headend/headendref05.ValidPacket -/
def ref05_ValidPacket (p0 : TPacket) : Option (Bool) := (if p0.Kind = 2#8 then (if p0.Low ≤ 3#8 then (if (p0.Data.length : Int) ≤ 256 then (if p0.Epoch = 0 then Option.bind (ref05_blank p0.Head) fun x1 => ((some x1)) else (some false)) else (some false)) else (some false)) else (if p0.Kind ≠ 1#8 then (ref05_ValidPacket_J1 p0 true) else Option.bind (ref05_Tick p0.Epoch) fun x7 => ((bif (!x7) then (ref05_ValidPacket_J1 p0 true) else (if p0.Low ≠ 0#8 then (ref05_ValidPacket_J1 p0 true) else (if p0.Number ≠ 0#64 then (ref05_ValidPacket_J1 p0 true) else (if (0 : Int) < (p0.Data.length : Int) then (ref05_ValidPacket_J1 p0 true) else (if (64 : Int) < (p0.Head.Items.length : Int) then (ref05_ValidPacket_J1 p0 true) else (ref05_ValidPacket_J1 p0 (decide ((8 : Int) < (p0.Head.Points.length : Int))))))))))))

def ref05_number_L1 (p1 : BitVec 64) (rec1 : (List (BitVec 8) × Int) → Option (List (BitVec 8))) (s1 : List (BitVec 8) × Int) : Option (List (BitVec 8)) := match s1 with | (a4, a6) => (if (0 : Int) ≤ a6 then Option.bind (shG (un (wd (w64 (8 * a6))))) fun n7 => (Option.bind (appG 1 a4 [(p1 >>> n7).setWidth 8]) fun l8 => ((rec1 (l8, w64 (a6 - 1))))) else (some a4))

/-- headend/headendref05.number -/
def ref05_number (p0 : List (BitVec 8)) (p1 : BitVec 64) (p2 : Int) : Option (List (BitVec 8)) := (fixN (ref05_number_L1 p1) FUEL (p0, w64 (p2 - 1)))

def ref05_Body_L2 (p0 : TPacket) (rec2 : (List (BitVec 8) × Int) → Option (List (BitVec 8))) (s2 : List (BitVec 8) × Int) : Option (List (BitVec 8)) := match s2 with | (a21, a23) => (if a23 < (p0.Head.Points.length : Int) then Option.bind (getI p0.Head.Points a23) fun y24 => (Option.bind (ref05_number a21 y24.X 8) fun x25 => (Option.bind (getI p0.Head.Points a23) fun y26 => (Option.bind (ref05_number x25 y26.Y 8) fun x27 => ((rec2 (x27, w64 (a23 + 1))))))) else Option.bind (appG 1 a21 (kby p0.Head.Box)) fun l28 => (Option.bind (appG 1 l28 (kby p0.Head.Check)) fun l29 => ((some l29))))

def ref05_Body_L1 (p0 : TPacket) (rec1 : (List (BitVec 8) × Int) → Option (List (BitVec 8))) (s1 : List (BitVec 8) × Int) : Option (List (BitVec 8)) := match s1 with | (a10, a12) => (if a12 < (p0.Head.Items.length : Int) then Option.bind (getI p0.Head.Items a12) fun y13 => (Option.bind (appG 1 a10 [wd8 y13.Subset.Node, wd8 y13.Subset.Minus]) fun l14 => (Option.bind (appG 1 l14 (kby y13.Box)) fun l15 => ((rec1 (l15, w64 (a12 + 1)))))) else Option.bind (ref05_number a10 p0.Head.Base 8) fun x16 => (Option.bind (appG 1 x16 [wd8 (p0.Head.Points.length : Int)]) fun l17 => ((fixN (ref05_Body_L2 p0) FUEL (l17, 0)))))

/-- headend/headendref05.Body -/
def ref05_Body (p0 : TPacket) : Option (List (BitVec 8)) := (if p0.Kind = 2#8 then Option.bind (appG 1 [p0.Kind] [p0.Low]) fun l1 => (Option.bind (ref05_number l1 p0.Number 8) fun x2 => (Option.bind (ref05_number x2 (wd (p0.Data.length : Int)) 2) fun x3 => (Option.bind (appG 1 x3 p0.Data) fun l4 => ((some l4))))) else Option.bind (ref05_number [p0.Kind] (wd p0.Epoch) 8) fun x5 => (Option.bind (appG 1 x5 [wd8 (p0.Head.Items.length : Int)]) fun l6 => ((fixN (ref05_Body_L1 p0) FUEL (l6, 0)))))

/-- headend/headendref05.Bytes -/
def ref05_Bytes (p0 : TPacket) : Option (List (BitVec 8)) := Option.bind (ref05_Body p0) fun x1 => (Option.bind (appG 1 x1 (kby p0.Mac)) fun l2 => ((some l2)))

/-- headend/headendref05.Encode -/
def ref05_Encode (p0 : TPacket) : Option (List (BitVec 8) × Int) := Option.bind (ref05_ValidPacket p0) fun x1 => ((bif (!x1) then (some ([], 8)) else Option.bind (ref05_Bytes p0) fun x2 => ((some (x2, 0)))))

def ref05_at_L1 (p0 : List (BitVec 8)) (p1 : Int) (p2 : Int) (rec1 : (BitVec 64 × Int) → Option (BitVec 64)) (s1 : BitVec 64 × Int) : Option (BitVec 64) := match s1 with | (a3, a4) => (if a4 < p2 then Option.bind (getI p0 (w64 (p1 + a4))) fun y5 => ((rec1 ((256#64 * a3) + (y5.setWidth 64), w64 (a4 + 1)))) else (some a3))

/-- headend/headendref05.at -/
def ref05_at (p0 : List (BitVec 8)) (p1 : Int) (p2 : Int) : Option (BitVec 64) := (if (p0.length : Int) < w64 (p1 + p2) then (some 0#64) else (fixN (ref05_at_L1 p0 p1 p2) FUEL (0#64, 0)))

def ref05_key_J2 (p0 : List (BitVec 8)) (p1 : Int) (a3 : Int) (a4 : W2) (rec1 : (Int × W2) → Option (W2)) (a5 : Bool) : Option (W2) := (bif a5 then Option.bind (getI p0 (w64 (p1 + a3))) fun y6 => (Option.bind (getI (kby a4) a3) fun y7 => (Option.bind (kset a4 a3 y6) fun x8 => ((rec1 (w64 (a3 + 1), x8))))) else (some a4))

def ref05_key_L1 (p0 : List (BitVec 8)) (p1 : Int) (rec1 : (Int × W2) → Option (W2)) (s1 : Int × W2) : Option (W2) := match s1 with | (a3, a4) => (if a3 < 16 then (ref05_key_J2 p0 p1 a3 a4 rec1 (decide (w64 (p1 + 16) ≤ (p0.length : Int)))) else (ref05_key_J2 p0 p1 a3 a4 rec1 false))

/-- headend/headendref05.key -/
def ref05_key (p0 : List (BitVec 8)) (p1 : Int) : Option (W2) := (fixN (ref05_key_L1 p0 p1) FUEL (0, k0))

def ref05_read_J1 (p0 : List (BitVec 8)) (x1 : BitVec 64) (x2 : BitVec 64) (x3 : BitVec 64) (x4 : BitVec 64) (a5 : List (BitVec 8)) : Option (TPacket) := Option.bind (ref05_key p0 (w64 (12 + (w64 (un x4))))) fun x7 => ((some (TPacket.mk (x1.setWidth 8) 0 (THeader.mk [] 0#64 [] k0 k0) (x2.setWidth 8) x3 a5 x7)))

def ref05_read_L4 (p0 : List (BitVec 8)) (x1 : BitVec 64) (a10 : Int) (a17 : List TItem) (x24 : BitVec 64) (x25 : BitVec 64) (rec4 : (Int × Int × List TPoint) → Option (TPacket)) (s4 : Int × Int × List TPoint) : Option (TPacket) := match s4 with | (a30, a31, a32) => (if a31 < w64 (un x25) then Option.bind (ref05_at p0 a30 8) fun x34 => (Option.bind (ref05_at p0 (w64 (a30 + 8)) 8) fun x35 => (Option.bind (appG 16 a32 [(TPoint.mk x34 x35)]) fun l36 => ((rec4 (w64 (a30 + 16), w64 (a31 + 1), l36))))) else Option.bind (ref05_key p0 a30) fun x37 => (Option.bind (ref05_key p0 (w64 (a30 + 16))) fun x38 => (Option.bind (ref05_key p0 (w64 (a30 + 32))) fun x39 => ((some (TPacket.mk (x1.setWidth 8) a10 (THeader.mk a17 x24 a32 x37 x38) 0#8 0#64 [] x39))))))

def ref05_read_L3 (p0 : List (BitVec 8)) (x1 : BitVec 64) (a10 : Int) (rec3 : (Int × Int × List TItem) → Option (TPacket)) (s3 : Int × Int × List TItem) : Option (TPacket) := match s3 with | (a15, a16, a17) => Option.bind (ref05_at p0 9 1) fun x19 => ((if a16 < w64 (un x19) then Option.bind (ref05_at p0 a15 1) fun x20 => (Option.bind (ref05_at p0 (w64 (a15 + 1)) 1) fun x21 => (Option.bind (ref05_key p0 (w64 (a15 + 2))) fun x22 => (Option.bind (appG 32 a17 [(TItem.mk (TSubset.mk (w64 (un x20)) (w64 (un x21))) x22)]) fun l23 => ((rec3 (w64 (a15 + 18), w64 (a16 + 1), l23)))))) else Option.bind (ref05_at p0 a15 8) fun x24 => (Option.bind (ref05_at p0 (w64 (a15 + 8)) 1) fun x25 => ((fixN (ref05_read_L4 p0 x1 a10 a17 x24 x25) FUEL (w64 (a15 + 9), 0, []))))))

def ref05_read_J2 (p0 : List (BitVec 8)) (x1 : BitVec 64) (a10 : Int) : Option (TPacket) := (fixN (ref05_read_L3 p0 x1 a10) FUEL (10, 0, []))

/-- headend/headendref05.read -/
def ref05_read (p0 : List (BitVec 8)) : Option (TPacket) := Option.bind (ref05_at p0 0 1) fun x1 => ((if x1.setWidth 8 = 2#8 then Option.bind (ref05_at p0 1 1) fun x2 => (Option.bind (ref05_at p0 2 8) fun x3 => (Option.bind (ref05_at p0 10 2) fun x4 => ((if w64 (12 + (w64 (un x4))) ≤ (p0.length : Int) then Option.bind (sliG p0 12 (w64 (12 + (w64 (un x4))))) fun l8 => (Option.bind (appG 1 [] l8) fun l9 => ((ref05_read_J1 p0 x1 x2 x3 x4 l9))) else (ref05_read_J1 p0 x1 x2 x3 x4 []))))) else Option.bind (ref05_at p0 1 8) fun x40 => ((if x40 ≤ 1099511627776#64 then Option.bind (ref05_at p0 1 8) fun x41 => ((ref05_read_J2 p0 x1 (w64 (un x41)))) else (ref05_read_J2 p0 x1 0)))))

def ref05_Decode_J1 (x1 : TPacket) (a2 : Bool) : Option (TPacket × Int) := (bif a2 then (some ((TPacket.mk 0#8 0 (THeader.mk [] 0#64 [] k0 k0) 0#8 0#64 [] k0), 8)) else (some (x1, 0)))

/-- headend/headendref05.Decode -/
def ref05_Decode (p0 : List (BitVec 8)) : Option (TPacket × Int) := Option.bind (ref05_read p0) fun x1 => (Option.bind (ref05_ValidPacket x1) fun x3 => ((bif (!x3) then (ref05_Decode_J1 x1 true) else Option.bind (ref05_Bytes x1) fun x4 => ((ref05_Decode_J1 x1 (decide (x4 ≠ p0)))))))

def ref05_SameHeader_L3 (p0 : THeader) (p1 : THeader) (rec3 : (Int) → Option (Bool)) (a7 : Int) : Option (Bool) := (if a7 < (p0.Points.length : Int) then Option.bind (getI p0.Points a7) fun y8 => (Option.bind (getI p1.Points a7) fun y9 => ((if y8 ≠ y9 then (some false) else (rec3 (w64 (a7 + 1)))))) else (some true))

def ref05_SameHeader_L2 (p0 : THeader) (p1 : THeader) (rec2 : (Int) → Option (Bool)) (a3 : Int) : Option (Bool) := (if a3 < (p0.Items.length : Int) then Option.bind (getI p0.Items a3) fun y4 => (Option.bind (getI p1.Items a3) fun y5 => ((if y4 ≠ y5 then (some false) else (rec2 (w64 (a3 + 1)))))) else (fixN (ref05_SameHeader_L3 p0 p1) FUEL 0))

def ref05_SameHeader_J1 (p0 : THeader) (p1 : THeader) (a1 : Bool) : Option (Bool) := (bif a1 then (some false) else (fixN (ref05_SameHeader_L2 p0 p1) FUEL 0))

/-- headend/headendref05.SameHeader -/
def ref05_SameHeader (p0 : THeader) (p1 : THeader) : Option (Bool) := (if (p0.Items.length : Int) ≠ (p1.Items.length : Int) then (ref05_SameHeader_J1 p0 p1 true) else (if (p0.Points.length : Int) ≠ (p1.Points.length : Int) then (ref05_SameHeader_J1 p0 p1 true) else (if p0.Base ≠ p1.Base then (ref05_SameHeader_J1 p0 p1 true) else (if p0.Box ≠ p1.Box then (ref05_SameHeader_J1 p0 p1 true) else (ref05_SameHeader_J1 p0 p1 (decide (p0.Check ≠ p1.Check)))))))

/-- headend/headendref05.SamePacket -/
def ref05_SamePacket (p0 : TPacket) (p1 : TPacket) : Option (Bool) := (if p0.Kind = p1.Kind then (if p0.Epoch = p1.Epoch then Option.bind (ref05_SameHeader p0.Head p1.Head) fun x1 => ((bif x1 then (if p0.Low = p1.Low then (if p0.Number = p1.Number then (if p0.Data = p1.Data then (some (decide (p0.Mac = p1.Mac))) else (some false)) else (some false)) else (some false)) else (some false))) else (some false)) else (some false))

/-- headend/headendref05.Great -/
def ref05_Great (p0 : TSecret) (p1 : TPacket) : Option (Bool) := (if (100 : Int) < (p0.Labels.length : Int) then (some true) else (if (100 : Int) < (p1.Head.Items.length : Int) then (some true) else (if (50 : Int) < (p1.Head.Points.length : Int) then (some true) else (some (decide ((1000 : Int) < (p1.Data.length : Int)))))))
end Go.Sx
