/- Mirrors: Ea. Printed by mx.py. -/
import Derived.Test.YtjdffpglgkefmaaMirE
import Derived.Test.YtjdffpglgkefmaaPln
import Derived.Test.YtjdffpglgkefmaaWe
set_option linter.unusedVariables false
set_option maxRecDepth 100000
namespace Go.Sx
open Go Go.RowKit
structure TSubset where
  Node : Int
  Minus : Int
deriving DecidableEq, Inhabited
def TSubset.cs (x : TSubset)  : List Value := [.int .i64 x.Node, .int .i64 x.Minus]
theorem TSubset.cs_ones (x : TSubset)   : ones (TSubset.cs x ) = true := by simp only [TSubset.cs, List.cons_append, List.nil_append, kb, ones, one_int, one_bool, one_str, cond_true]
theorem TSubset.cs_inj {x y : TSubset} (h : TSubset.cs x = TSubset.cs y) : x = y := by
  have h0 : x.Node = y.Node := ci_inj (congrArg (fun l => l[0]?) h)
  have h1 : x.Minus = y.Minus := ci_inj (congrArg (fun l => l[1]?) h)
  cases x; cases y; simp only at *; subst h0; subst h1; rfl
theorem TSubset.ws (l : List TSubset) : Ws 2 (l.map TSubset.cs) := ws_map l (fun _ => rfl) (fun _ => rfl)
structure TItem where
  Subset : TSubset
  Box : W2
deriving DecidableEq, Inhabited
def TItem.cs (x : TItem)  : List Value := [.int .i64 x.Subset.Node, .int .i64 x.Subset.Minus] ++ (kb x.Box)
theorem TItem.cs_ones (x : TItem)   : ones (TItem.cs x ) = true := by simp only [TItem.cs, List.cons_append, List.nil_append, kb, ones, one_int, one_bool, one_str, cond_true]
theorem TItem.cs_inj {x y : TItem} (h : TItem.cs x = TItem.cs y) : x = y := by
  have h0 : x.Subset = y.Subset := TSubset.cs_inj (congrArg (fun l => (l.drop 0).take 2) h)
  have h1 : x.Box = y.Box := kb_inj (congrArg (fun l => (l.drop 2).take 16) h)
  cases x; cases y; simp only at *; subst h0; subst h1; rfl
theorem TItem.ws (l : List TItem) : Ws 18 (l.map TItem.cs) := ws_map l (fun _ => rfl) (fun _ => rfl)
structure TPoint where
  X : BitVec 64
  Y : BitVec 64
deriving DecidableEq, Inhabited
def TPoint.cs (x : TPoint)  : List Value := [wv x.X, wv x.Y]
theorem TPoint.cs_ones (x : TPoint)   : ones (TPoint.cs x ) = true := by simp only [TPoint.cs, List.cons_append, List.nil_append, kb, ones, one_int, one_bool, one_str, cond_true]
theorem TPoint.cs_inj {x y : TPoint} (h : TPoint.cs x = TPoint.cs y) : x = y := by
  have h0 : x.X = y.X := cu_inj (congrArg (fun l => l[0]?) h)
  have h1 : x.Y = y.Y := cu_inj (congrArg (fun l => l[1]?) h)
  cases x; cases y; simp only at *; subst h0; subst h1; rfl
theorem TPoint.ws (l : List TPoint) : Ws 2 (l.map TPoint.cs) := ws_map l (fun _ => rfl) (fun _ => rfl)
structure THeader where
  Items : List TItem
  Base : BitVec 64
  Points : List TPoint
  Box : W2
  Check : W2
deriving DecidableEq, Inhabited
def THeader.cs (x : THeader) (v0 : Value) (v1 : Value) : List Value := [v0, wv x.Base, v1] ++ (kb x.Box ++ (kb x.Check))
theorem THeader.cs_ones (x : THeader) (v0 : Value) (v1 : Value) (h0 : oneB v0 = true) (h1 : oneB v1 = true) : ones (THeader.cs x v0 v1) = true := by simp only [THeader.cs, List.cons_append, List.nil_append, kb, ones, one_int, one_bool, one_str, cond_true, h0, h1]
structure TPacket where
  Kind : BitVec 8
  Epoch : Int
  Head : THeader
  Low : BitVec 8
  Number : BitVec 64
  Data : List (BitVec 8)
  Mac : W2
deriving DecidableEq, Inhabited
def TPacket.cs (x : TPacket) (v0 : Value) (v1 : Value) (v2 : Value) : List Value := [bv x.Kind, .int .i64 x.Epoch, v0, wv x.Head.Base, v1] ++ (kb x.Head.Box ++ (kb x.Head.Check ++ ([bv x.Low, wv x.Number, v2] ++ (kb x.Mac))))
theorem TPacket.cs_ones (x : TPacket) (v0 : Value) (v1 : Value) (v2 : Value) (h0 : oneB v0 = true) (h1 : oneB v1 = true) (h2 : oneB v2 = true) : ones (TPacket.cs x v0 v1 v2) = true := by simp only [TPacket.cs, List.cons_append, List.nil_append, kb, ones, one_int, one_bool, one_str, cond_true, h0, h1, h2]
structure Tepoch_writer where
  out : List (BitVec 8)
deriving DecidableEq, Inhabited
def Tepoch_writer.cs (x : Tepoch_writer) (v0 : Value) : List Value := [v0]
theorem Tepoch_writer.cs_ones (x : Tepoch_writer) (v0 : Value) (h0 : oneB v0 = true) : ones (Tepoch_writer.cs x v0) = true := by simp only [Tepoch_writer.cs, List.cons_append, List.nil_append, kb, ones, one_int, one_bool, one_str, cond_true, h0]

/-- headend/epoch.isTick -/
def epoch_isTick (p0 : Int) : Option (Bool) := (if (0 : Int) ≤ p0 then (some (decide (p0 ≤ 1099511627776))) else (some false))

/-- headend/epoch.CheckPacket$1 -/
def epoch_CheckPacket_1 (p0 : TItem) : Option (Bool) := (if mnI p0.Subset.Node p0.Subset.Minus < 0 then (some true) else (some (decide ((127 : Int) < mxI p0.Subset.Node p0.Subset.Minus))))

def slices_IndexFunc_c205_epoch_CheckPacket_1_L1 (p0 : List TItem) (rec1 : (Int) → Option (Int)) (a2 : Int) : Option (Int) := (if a2 < (p0.length : Int) then Option.bind (getI p0 a2) fun y3 => (Option.bind (epoch_CheckPacket_1 y3) fun x4 => ((bif x4 then (some a2) else (rec1 (w64 (a2 + 1)))))) else (some (-1)))

/-- slices.IndexFunc[[]headend/api.Item,headend/api.Item] -/
def slices_IndexFunc_c205_epoch_CheckPacket_1 (p0 : List TItem) : Option (Int) := (fixN (slices_IndexFunc_c205_epoch_CheckPacket_1_L1 p0) FUEL 0)

/-- slices.ContainsFunc[[]headend/api.Item,headend/api.Item] -/
def slices_ContainsFunc_9968_epoch_CheckPacket_1 (p0 : List TItem) : Option (Bool) := Option.bind (slices_IndexFunc_c205_epoch_CheckPacket_1 p0) fun x1 => ((some (decide ((0 : Int) ≤ x1))))

def epoch_CheckPacket_J2 (a2 : Bool) : Option (Int) := (bif (!a2) then (some 8) else (some 0))

def epoch_CheckPacket_J1 (p0 : TPacket) (a1 : Bool) : Option (Int) := (if p0.Kind = 1#8 then Option.bind (epoch_isTick p0.Epoch) fun x3 => ((bif x3 then (if p0.Low = 0#8 then (if p0.Number = 0#64 then (if (p0.Data.length : Int) = 0 then (if (p0.Head.Items.length : Int) ≤ 64 then (if (p0.Head.Points.length : Int) ≤ 8 then Option.bind (slices_ContainsFunc_9968_epoch_CheckPacket_1 p0.Head.Items) fun x4 => ((epoch_CheckPacket_J2 (!x4))) else (epoch_CheckPacket_J2 false)) else (epoch_CheckPacket_J2 false)) else (epoch_CheckPacket_J2 false)) else (epoch_CheckPacket_J2 false)) else (epoch_CheckPacket_J2 false)) else (epoch_CheckPacket_J2 false))) else (if p0.Kind = 2#8 then (if p0.Epoch = 0 then (if p0.Low < 4#8 then (if (p0.Data.length : Int) ≤ 256 then (epoch_CheckPacket_J2 a1) else (epoch_CheckPacket_J2 false)) else (epoch_CheckPacket_J2 false)) else (epoch_CheckPacket_J2 false)) else (epoch_CheckPacket_J2 false)))

/-- headend/epoch.CheckPacket -/
def epoch_CheckPacket (p0 : TPacket) : Option (Int) := (if (p0.Head.Items.length : Int) = 0 then (if (p0.Head.Points.length : Int) = 0 then (if p0.Head.Base = 0#64 then (if p0.Head.Box = k0 then (epoch_CheckPacket_J1 p0 (decide (p0.Head.Check = k0))) else (epoch_CheckPacket_J1 p0 false)) else (epoch_CheckPacket_J1 p0 false)) else (epoch_CheckPacket_J1 p0 false)) else (epoch_CheckPacket_J1 p0 false))

def epoch_writer_put_L1 (p1 : BitVec 64) (rec1 : (Int × List (BitVec 8)) → Option (Tepoch_writer)) (s1 : Int × List (BitVec 8)) : Option (Tepoch_writer) := match s1 with | (a4, a5) => (if (0 : Int) ≤ a4 then Option.bind (shG (w64 (8 * a4))) fun n7 => (Option.bind (appG 1 a5 [(p1 >>> n7).setWidth 8]) fun l8 => ((rec1 (w64 (a4 - 1), l8)))) else (some (Tepoch_writer.mk a5)))

/-- (*headend/epoch.writer).put -/
def epoch_writer_put (p0 : Tepoch_writer) (p1 : BitVec 64) (p2 : Int) : Option (Tepoch_writer) := (fixN (epoch_writer_put_L1 p1) FUEL (w64 (p2 - 1), p0.out))

/-- (*headend/epoch.writer).key -/
def epoch_writer_key (p0 : Tepoch_writer) (p1 : W2) : Option (Tepoch_writer) := Option.bind (appG 1 p0.out (kby p1)) fun l1 => ((some (Tepoch_writer.mk l1)))

def epoch_body_L2 (p0 : TPacket) (rec2 : (Int × Tepoch_writer) → Option (List (BitVec 8))) (s2 : Int × Tepoch_writer) : Option (List (BitVec 8)) := match s2 with | (a23, a24) => (if a23 < (p0.Head.Points.length : Int) then Option.bind (getI p0.Head.Points a23) fun y26 => (Option.bind (epoch_writer_put a24 y26.X 8) fun x27 => (Option.bind (epoch_writer_put x27 y26.Y 8) fun x28 => ((rec2 (w64 (a23 + 1), x28))))) else Option.bind (epoch_writer_key a24 p0.Head.Box) fun x29 => (Option.bind (epoch_writer_key x29 p0.Head.Check) fun x30 => ((some x30.out))))

def epoch_body_L1 (p0 : TPacket) (rec1 : (Int × Tepoch_writer) → Option (List (BitVec 8))) (s1 : Int × Tepoch_writer) : Option (List (BitVec 8)) := match s1 with | (a11, a12) => (if a11 < (p0.Head.Items.length : Int) then Option.bind (getI p0.Head.Items a11) fun y14 => (Option.bind (epoch_writer_put a12 (wd y14.Subset.Node) 1) fun x15 => (Option.bind (epoch_writer_put x15 (wd y14.Subset.Minus) 1) fun x16 => (Option.bind (epoch_writer_key x16 y14.Box) fun x17 => ((rec1 (w64 (a11 + 1), x17)))))) else Option.bind (epoch_writer_put a12 p0.Head.Base 8) fun x18 => (Option.bind (epoch_writer_put x18 (wd (p0.Head.Points.length : Int)) 1) fun x19 => ((fixN (epoch_body_L2 p0) FUEL (0, x19)))))

/-- headend/epoch.body -/
def epoch_body (p0 : TPacket) : Option (List (BitVec 8)) := Option.bind (epoch_writer_put (Tepoch_writer.mk []) (p0.Kind.setWidth 64) 1) fun x1 => ((if p0.Kind = 2#8 then Option.bind (epoch_writer_put x1 (p0.Low.setWidth 64) 1) fun x2 => (Option.bind (epoch_writer_put x2 p0.Number 8) fun x3 => (Option.bind (epoch_writer_put x3 (wd (p0.Data.length : Int)) 2) fun x4 => (Option.bind (appG 1 x4.out p0.Data) fun l5 => ((some l5))))) else Option.bind (epoch_writer_put x1 (wd p0.Epoch) 8) fun x6 => (Option.bind (epoch_writer_put x6 (wd (p0.Head.Items.length : Int)) 1) fun x7 => ((fixN (epoch_body_L1 p0) FUEL (0, x7))))))

/-- headend/epoch.Encode -/
def epoch_Encode (p0 : TPacket) : Option (List (BitVec 8) × Int) := Option.bind (epoch_CheckPacket p0) fun x1 => ((if x1 ≠ 0 then (some ([], x1)) else Option.bind (epoch_body p0) fun x2 => (Option.bind (appG 1 x2 (kby p0.Mac)) fun l3 => ((some (l3, 0))))))
end Go.Sx
