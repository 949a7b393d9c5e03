/- Mirrors: Ec. Printed by mx.py. -/
import Derived.Test.YtjdffpglgkefmaaMirE
import Derived.Test.YtjdffpglgkefmaaPln
import Derived.Test.YtjdffpglgkefmaaErM
set_option linter.unusedVariables false
set_option maxRecDepth 100000
namespace Go.Sx
open Go Go.RowKit


/-- headend/headendref05.CheckPacket -/
def ref05_CheckPacket (p0 : TPacket) : Option (Int) := Option.bind (ref05_ValidPacket p0) fun x1 => ((bif (!x1) then (some 8) else (some 0)))

def law05_EpochCodes_L4 (p0 : TPacket) (p1 : List (BitVec 8)) (l2 : List (BitVec 8)) (x3 : List (BitVec 8) × Int) (x4 : List (BitVec 8) × Int) (a7 : Bool) (rec4 : (List (BitVec 8) × Int) → Option (Bool)) (s4 : List (BitVec 8) × Int) : Option (Bool) := match s4 with | (a19, a21) => (if a21 < (x3.1.length : Int) then Option.bind (getI a19 a21) fun y22 => (Option.bind (getI a19 a21) fun y23 => ((rec4 (a19.set a21.toNat (y22 + 1#8), w64 (a21 + 1))))) else Option.bind (ref05_Encode p0) fun x24 => ((bif a7 then (if l2 = p1 then (some (decide (x24.1 = x4.1))) else (some false)) else (some false))))

def law05_EpochCodes_L3 (p0 : TPacket) (p1 : List (BitVec 8)) (l2 : List (BitVec 8)) (x3 : List (BitVec 8) × Int) (x4 : List (BitVec 8) × Int) (x5 : TPacket × Int) (a7 : Bool) (rec3 : (Int × List (BitVec 8)) → Option (Bool)) (s3 : Int × List (BitVec 8)) : Option (Bool) := match s3 with | (a11, a12) => (if a11 < (x5.1.Data.length : Int) then Option.bind (getI a12 a11) fun y14 => (Option.bind (getI a12 a11) fun y15 => ((rec3 (w64 (a11 + 1), a12.set a11.toNat (y14 + 1#8))))) else (fixN (law05_EpochCodes_L4 p0 p1 l2 x3 x4 a7) FUEL (x3.1, 0)))

def law05_EpochCodes_J2 (p0 : TPacket) (p1 : List (BitVec 8)) (l2 : List (BitVec 8)) (x3 : List (BitVec 8) × Int) (x4 : List (BitVec 8) × Int) (x5 : TPacket × Int) (a7 : Bool) : Option (Bool) := (fixN (law05_EpochCodes_L3 p0 p1 l2 x3 x4 x5 a7) FUEL (0, x5.1.Data))

def law05_EpochCodes_J1 (p0 : TPacket) (p1 : List (BitVec 8)) (a1 : Bool) : Option (Bool) := (bif a1 then (some true) else Option.bind (appG 1 [] p1) fun l2 => (Option.bind (epoch_Encode p0) fun x3 => (Option.bind (ref05_Encode p0) fun x4 => (Option.bind (epoch_Decode l2) fun x5 => (Option.bind (ref05_Decode p1) fun x6 => (Option.bind (epoch_CheckPacket p0) fun x25 => (Option.bind (ref05_CheckPacket p0) fun x26 => ((if x25 = x26 then (if x3.1 = x4.1 then (if x3.2 = x4.2 then Option.bind (ref05_SamePacket x5.1 x6.1) fun x27 => ((bif x27 then (law05_EpochCodes_J2 p0 p1 l2 x3 x4 x5 (decide (x5.2 = x6.2))) else (law05_EpochCodes_J2 p0 p1 l2 x3 x4 x5 false))) else (law05_EpochCodes_J2 p0 p1 l2 x3 x4 x5 false)) else (law05_EpochCodes_J2 p0 p1 l2 x3 x4 x5 false)) else (law05_EpochCodes_J2 p0 p1 l2 x3 x4 x5 false))))))))))

/-- headend/headendlaw05.EpochCodes -/
def law05_EpochCodes (p0 : TPacket) (p1 : List (BitVec 8)) : Option (Bool) := Option.bind (ref05_Great (TSecret.mk 0 [] (TPoint.mk 0#64 0#64)) p0) fun x28 => ((bif x28 then (law05_EpochCodes_J1 p0 p1 true) else (law05_EpochCodes_J1 p0 p1 (decide ((3000 : Int) < (p1.length : Int))))))
end Go.Sx
