/- Mirrors: St. Printed by mx.py. -/
import Derived.Test.YtecempahccgijaaMirE
import Derived.Test.YtecempahccgijaaPln
import Derived.Test.YtecempahccgijaaWStM
set_option linter.unusedVariables false
set_option maxRecDepth 100000
namespace Go.Sx
open Go Go.RowKit
noncomputable section


def law03_CoverStores_J7 (a16 : Int) (rec6 : (Int) → Option (Bool)) (a17 : Bool) : Option (Bool) := (bif a17 then (some false) else (rec6 (w64 (a16 + 1))))

def law03_CoverStores_L8 (a7 : TSecret) (a12 : Int) (rec4 : (Int) → Option (Bool)) (y13 : TLabel) (rec8 : (Bool × Int) → Option (Bool)) (s8 : Bool × Int) : Option (Bool) := match s8 with | (a22, a23) => (if a23 < (a7.Labels.length : Int) then (bif a22 then (rec8 (true, w64 (a23 + 1))) else Option.bind (getI a7.Labels a23) fun y24 => ((rec8 (decide (y24 = y13), w64 (a23 + 1))))) else (bif (!a22) then (some false) else (rec4 (w64 (a12 + 1)))))

def law03_CoverStores_L6 (p1 : TScheme) (x2 : TSecret × Int) (a7 : TSecret) (a12 : Int) (rec4 : (Int) → Option (Bool)) (y13 : TLabel) (rec6 : (Int) → Option (Bool)) (a16 : Int) : Option (Bool) := (if a16 < a12 then Option.bind (getI x2.1.Labels a16) fun y18 => ((if y18.Node = y13.Node then Option.bind (getI x2.1.Labels a16) fun y19 => ((law03_CoverStores_J7 a16 rec6 (decide (y19.Minus = y13.Minus)))) else (law03_CoverStores_J7 a16 rec6 false))) else (fixN (law03_CoverStores_L8 a7 a12 rec4 y13) FUEL (decide (p1.Kind ≠ 3#8), 0)))

def law03_CoverStores_J5 (p1 : TScheme) (x2 : TSecret × Int) (a7 : TSecret) (a12 : Int) (rec4 : (Int) → Option (Bool)) (y13 : TLabel) (a14 : Bool) : Option (Bool) := (bif a14 then (some false) else (fixN (law03_CoverStores_L6 p1 x2 a7 a12 rec4 y13) FUEL 0))

def law03_CoverStores_L4 (p1 : TScheme) (p2 : Int) (x1 : Bool) (x2 : TSecret × Int) (a7 : TSecret) (a9 : Int) (n10 : Nat) (rec4 : (Int) → Option (Bool)) (a12 : Int) : Option (Bool) := (if a12 < (x2.1.Labels.length : Int) then Option.bind (getI x2.1.Labels a12) fun y13 => ((if y13.Node < 1 then (law03_CoverStores_J5 p1 x2 a7 a12 rec4 y13 true) else Option.bind (ref03_Below (w64 ((shlI 1 n10) + p2)) y13.Node) fun x25 => ((bif (!x25) then (law03_CoverStores_J5 p1 x2 a7 a12 rec4 y13 true) else (if y13.Minus ≠ 0 then Option.bind (ref03_Below (w64 ((shlI 1 n10) + p2)) y13.Minus) fun x26 => ((law03_CoverStores_J5 p1 x2 a7 a12 rec4 y13 x26)) else (law03_CoverStores_J5 p1 x2 a7 a12 rec4 y13 false)))))) else (bif x1 then (some (decide (a9 = 0))) else (some false)))

def law03_CoverStores_J3 (p1 : TScheme) (p2 : Int) (x1 : Bool) (x2 : TSecret × Int) (a7 : TSecret) (a9 : Int) : Option (Bool) := Option.bind (shG p1.Depth) fun n10 => ((fixN (law03_CoverStores_L4 p1 p2 x1 x2 a7 a9 n10) FUEL 0))

def law03_CoverStores_J2 (p0 : W2) (p1 : TScheme) (p2 : Int) (x1 : Bool) (x2 : TSecret × Int) (a5 : Bool) : Option (Bool) := (bif a5 then (some false) else Option.bind (law03_of 2#8 p1.Depth) fun x27 => (Option.bind (cover_Secret p0 x27 p2) fun x28 => ((law03_CoverStores_J3 p1 p2 x1 x2 x28.1 x28.2))))

def law03_CoverStores_J1 (p0 : W2) (p1 : TScheme) (p2 : Int) (x1 : Bool) (x2 : TSecret × Int) (x3 : Int × Int) (a4 : Bool) : Option (Bool) := (bif a4 then (bif x1 then (some (decide (x2.2 ≠ 0))) else (some false)) else (if x2.2 ≠ 0 then (law03_CoverStores_J2 p0 p1 p2 x1 x2 true) else (if x3.2 ≠ 0 then (law03_CoverStores_J2 p0 p1 p2 x1 x2 true) else (if (x2.1.Labels.length : Int) ≠ x3.1 then (law03_CoverStores_J2 p0 p1 p2 x1 x2 true) else (if x2.1.Receiver ≠ p2 then (law03_CoverStores_J2 p0 p1 p2 x1 x2 true) else (law03_CoverStores_J2 p0 p1 p2 x1 x2 (decide (x2.1.Share ≠ (TPoint.mk 0#64 0#64)))))))))

/-- headend/headendlaw03.CoverStores -/
def law03_CoverStores (p0 : W2) (p1 : TScheme) (p2 : Int) : Option (Bool) := Option.bind (law03_alive) fun x1 => (Option.bind (cover_Secret p0 p1 p2) fun x2 => (Option.bind (cover_Storage p1) fun x3 => (Option.bind (ref03_Valid p1) fun x32 => ((bif (!x32) then (law03_CoverStores_J1 p0 p1 p2 x1 x2 x3 true) else (if p2 < 0 then (law03_CoverStores_J1 p0 p1 p2 x1 x2 x3 true) else Option.bind (shG p1.Depth) fun n33 => ((law03_CoverStores_J1 p0 p1 p2 x1 x2 x3 (decide (shlI 1 n33 ≤ p2))))))))))
end
end Go.Sx
