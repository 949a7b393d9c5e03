/- Mirrors: On. Printed by mx.py. -/
import Derived.Test.YtecempahccgijaaMirE
import Derived.Test.YtecempahccgijaaPln
import Derived.Test.YtecempahccgijaaAlM
set_option linter.unusedVariables false
set_option maxRecDepth 100000
namespace Go.Sx
open Go Go.RowKit
noncomputable section


def law03_CoverOne_L3 (p1 : List Int) (a6 : List Int) (a8 : Int) (rec2 : (List Int × Int) → Option (Bool)) (rec3 : (Bool × Int) → Option (Bool)) (s3 : Bool × Int) : Option (Bool) := match s3 with | (a12, a13) => (if a13 < (p1.length : Int) then (bif a12 then (rec3 (true, w64 (a13 + 1))) else Option.bind (getI p1 a13) fun y14 => ((rec3 (decide (y14 = a8), w64 (a13 + 1))))) else (bif a12 then Option.bind (appG 8 a6 [a8]) fun l15 => ((rec2 (l15, w64 (a8 + 1)))) else (rec2 (a6, w64 (a8 + 1)))))

def law03_CoverOne_J6 (a20 : Int) (rec5 : (Int) → Option (Bool)) (a24 : Bool) : Option (Bool) := (bif a24 then (some false) else (rec5 (w64 (a20 + 1))))

def law03_CoverOne_L5 (p0 : TScheme) (p2 : Int) (x1 : Bool) (x16 : List TSubset × Int) (x17 : List TSubset × Int) (rec5 : (Int) → Option (Bool)) (a20 : Int) : Option (Bool) := Option.bind (shG p0.Depth) fun n21 => ((if a20 < shlI 1 n21 then Option.bind (law03_member p0 x16.1 a20) fun x22 => (Option.bind (law03_member p0 x17.1 a20) fun x23 => ((bif (!x22.2) then (law03_CoverOne_J6 a20 rec5 true) else (bif (!x23.2) then (law03_CoverOne_J6 a20 rec5 true) else (bif x22.1 then (law03_CoverOne_J6 a20 rec5 (x23.1 != (decide (a20 ≠ p2)))) else (law03_CoverOne_J6 a20 rec5 (x23.1 != false))))))) else (some x1)))

def law03_CoverOne_J4 (p0 : TScheme) (p2 : Int) (x1 : Bool) (x16 : List TSubset × Int) (x17 : List TSubset × Int) (a18 : Bool) : Option (Bool) := (bif a18 then (some false) else (fixN (law03_CoverOne_L5 p0 p2 x1 x16 x17) FUEL 0))

def law03_CoverOne_L2 (p0 : TScheme) (p1 : List Int) (p2 : Int) (x1 : Bool) (rec2 : (List Int × Int) → Option (Bool)) (s2 : List Int × Int) : Option (Bool) := match s2 with | (a6, a8) => Option.bind (shG p0.Depth) fun n9 => ((if a8 < shlI 1 n9 then (fixN (law03_CoverOne_L3 p1 a6 a8 rec2) FUEL (decide (a8 = p2), 0)) else Option.bind (cover_Cover p0 p1) fun x16 => (Option.bind (cover_Cover p0 a6) fun x17 => ((if x16.2 ≠ 0 then (law03_CoverOne_J4 p0 p2 x1 x16 x17 true) else (law03_CoverOne_J4 p0 p2 x1 x16 x17 (decide (x17.2 ≠ 0))))))))

def law03_CoverOne_J1 (p0 : TScheme) (p1 : List Int) (p2 : Int) (x1 : Bool) (a2 : Bool) : Option (Bool) := (bif a2 then (some x1) else (fixN (law03_CoverOne_L2 p0 p1 p2 x1) FUEL ([], 0)))

/-- headend/headendlaw03.CoverOne -/
def law03_CoverOne (p0 : TScheme) (p1 : List Int) (p2 : Int) : Option (Bool) := Option.bind (law03_alive) fun x1 => (Option.bind (ref03_Valid p0) fun x25 => ((bif (!x25) then (law03_CoverOne_J1 p0 p1 p2 x1 true) else Option.bind (ref03_IsList p0.Depth p1) fun x26 => ((bif (!x26) then (law03_CoverOne_J1 p0 p1 p2 x1 true) else (if p2 < 0 then (law03_CoverOne_J1 p0 p1 p2 x1 true) else Option.bind (shG p0.Depth) fun n27 => ((law03_CoverOne_J1 p0 p1 p2 x1 (decide (shlI 1 n27 ≤ p2))))))))))
end
end Go.Sx
