/- Mirrors: Ex. Printed by mx.py. -/
import Derived.Test.YtecempahccgijaaMirE
import Derived.Test.YtecempahccgijaaPln
import Derived.Test.YtecempahccgijaaAlM
set_option linter.unusedVariables false
set_option maxRecDepth 100000
namespace Go.Sx
open Go Go.RowKit
noncomputable section


def law03_CoverExact_J5 (x22 : List Int × Int) (a27 : List Bool) (a29 : Int) (rec4 : (List Bool × Int) → Option (Bool)) (a30 : Bool) : Option (Bool) := (bif a30 then (some false) else Option.bind (getI x22.1 a29) fun y31 => (Option.bind (getI a27 y31) fun y32 => ((rec4 (a27.set y31.toNat true, w64 (a29 + 1))))))

def law03_CoverExact_L4 (a20 : Int) (rec2 : (List Bool × Int) → Option (Bool)) (x22 : List Int × Int) (rec4 : (List Bool × Int) → Option (Bool)) (s4 : List Bool × Int) : Option (Bool) := match s4 with | (a27, a29) => (if a29 < (x22.1.length : Int) then Option.bind (getI x22.1 a29) fun y33 => ((if y33 < 0 then (law03_CoverExact_J5 x22 a27 a29 rec4 true) else Option.bind (getI x22.1 a29) fun y34 => ((if (a27.length : Int) ≤ y34 then (law03_CoverExact_J5 x22 a27 a29 rec4 true) else Option.bind (getI x22.1 a29) fun y35 => (Option.bind (getI a27 y35) fun y36 => ((law03_CoverExact_J5 x22 a27 a29 rec4 y36))))))) else (rec2 (a27, w64 (a20 + 1))))

def law03_CoverExact_J3 (a18 : List Bool) (a20 : Int) (rec2 : (List Bool × Int) → Option (Bool)) (x22 : List Int × Int) (a23 : Bool) : Option (Bool) := (bif a23 then (some false) else (fixN (law03_CoverExact_L4 a20 rec2 x22) FUEL (a18, 0)))

def law03_CoverExact_L6 (x1 : Bool) (x2 : List TSubset × Int) (a18 : List Bool) (rec6 : (Int) → Option (Bool)) (a40 : Int) : Option (Bool) := (if a40 < (a18.length : Int) then Option.bind (getI a18 a40) fun y41 => ((bif (!y41) then (some false) else (rec6 (w64 (a40 + 1))))) else (bif x1 then (some (decide (x2.2 = 0))) else (some false)))

def law03_CoverExact_L2 (p0 : TScheme) (x1 : Bool) (x2 : List TSubset × Int) (rec2 : (List Bool × Int) → Option (Bool)) (s2 : List Bool × Int) : Option (Bool) := match s2 with | (a18, a20) => (if a20 < (x2.1.length : Int) then Option.bind (getI x2.1 a20) fun y21 => (Option.bind (cover_Members p0 y21) fun x22 => ((if x22.2 ≠ 0 then (law03_CoverExact_J3 a18 a20 rec2 x22 true) else (if (x22.1.length : Int) = 0 then (law03_CoverExact_J3 a18 a20 rec2 x22 true) else (if (0 : Int) < a20 then Option.bind (getI x2.1 a20) fun y37 => (Option.bind (getI x2.1 (w64 (a20 - 1))) fun y38 => ((law03_CoverExact_J3 a18 a20 rec2 x22 (decide (y37.Node ≤ y38.Node))))) else (law03_CoverExact_J3 a18 a20 rec2 x22 false)))))) else (fixN (law03_CoverExact_L6 x1 x2 a18) FUEL 0))

def law03_CoverExact_L1 (p0 : TScheme) (p1 : List Int) (x1 : Bool) (x2 : List TSubset × Int) (rec1 : (List Bool × Int) → Option (Bool)) (s1 : List Bool × Int) : Option (Bool) := match s1 with | (a10, a12) => (if a12 < (p1.length : Int) then Option.bind (getI p1 a12) fun y13 => (Option.bind (getI a10 y13) fun y14 => ((rec1 (a10.set y13.toNat true, w64 (a12 + 1))))) else (fixN (law03_CoverExact_L2 p0 x1 x2) FUEL (a10, 0)))

/-- headend/headendlaw03.CoverExact -/
def law03_CoverExact (p0 : TScheme) (p1 : List Int) : Option (Bool) := Option.bind (law03_alive) fun x1 => (Option.bind (cover_Cover p0 p1) fun x2 => (Option.bind (ref03_Valid p0) fun x3 => ((bif (!x3) then (bif x1 then (some (decide (x2.2 = 30))) else (some false)) else Option.bind (ref03_IsList p0.Depth p1) fun x4 => ((bif (!x4) then (bif x1 then (some (decide (x2.2 = 2))) else (some false)) else Option.bind (shG p0.Depth) fun n5 => (Option.bind (mkL 1 (shlI 1 n5) false) fun l6 => ((fixN (law03_CoverExact_L1 p0 p1 x1 x2) FUEL (l6, 0))))))))))
end
end Go.Sx
