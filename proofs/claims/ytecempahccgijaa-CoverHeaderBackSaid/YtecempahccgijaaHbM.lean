/- Mirrors: Hb. Printed by mx.py. -/
import Derived.Test.YtecempahccgijaaMirE
import Derived.Test.YtecempahccgijaaPln
import Derived.Test.YtecempahccgijaaOHbM
set_option linter.unusedVariables false
set_option maxRecDepth 100000
namespace Go.Sx
open Go Go.RowKit
noncomputable section


def law03_CoverHeaderBack_J1 (p1 : List (BitVec 8)) (x1 : Bool) : Option (Bool) := Option.bind (cover_Decode p1) fun x3 => ((if x3.2 ≠ 0 then (bif x1 then (some (decide (x3.2 = 12))) else (some false)) else Option.bind (cover_Encode x3.1) fun x4 => ((bif x1 then (if x4.2 = 0 then (some (decide (x4.1 = p1))) else (some false)) else (some false)))))

def law03_CoverHeaderBack_J3 (p1 : List (BitVec 8)) (p2 : Int) (x1 : Bool) (x2 : List (BitVec 8) × Int) (a7 : Bool) : Option (Bool) := (bif a7 then Option.bind (sliG x2.1 0 p2) fun l8 => (Option.bind (cover_Decode l8) fun x9 => ((if x9.2 ≠ 12 then (some false) else (law03_CoverHeaderBack_J1 p1 x1)))) else (law03_CoverHeaderBack_J1 p1 x1))

def law03_CoverHeaderBack_J2 (p1 : List (BitVec 8)) (p2 : Int) (x1 : Bool) (x2 : List (BitVec 8) × Int) (a6 : Bool) : Option (Bool) := (bif a6 then (some false) else (if (0 : Int) ≤ p2 then (law03_CoverHeaderBack_J3 p1 p2 x1 x2 (decide (p2 < (x2.1.length : Int)))) else (law03_CoverHeaderBack_J3 p1 p2 x1 x2 false)))

def law03_CoverHeaderBack_J4 (p1 : List (BitVec 8)) (x1 : Bool) (a11 : Bool) : Option (Bool) := (bif a11 then (some false) else (law03_CoverHeaderBack_J1 p1 x1))

/-- headend/headendlaw03.CoverHeaderBack -/
def law03_CoverHeaderBack (p0 : THeader) (p1 : List (BitVec 8)) (p2 : Int) : Option (Bool) := Option.bind (law03_alive) fun x1 => (Option.bind (cover_Encode p0) fun x2 => ((if x2.2 = 0 then Option.bind (cover_Decode x2.1) fun x5 => ((if x5.2 ≠ 0 then (law03_CoverHeaderBack_J2 p1 p2 x1 x2 true) else Option.bind (ref03_SameHeader p0 x5.1) fun x10 => ((bif (!x10) then (law03_CoverHeaderBack_J2 p1 p2 x1 x2 true) else (law03_CoverHeaderBack_J2 p1 p2 x1 x2 (decide ((x2.1.length : Int) ≠ w64 ((w64 (42 + (w64 (18 * (p0.Items.length : Int))))) + (w64 (16 * (p0.Points.length : Int))))))))))) else (if x2.2 ≠ 4 then (if x2.2 ≠ 2 then (law03_CoverHeaderBack_J4 p1 x1 true) else (if (p0.Items.length : Int) = 0 then (law03_CoverHeaderBack_J4 p1 x1 (decide ((p0.Points.length : Int) = 0))) else (law03_CoverHeaderBack_J4 p1 x1 false))) else (if (p0.Items.length : Int) = 0 then (law03_CoverHeaderBack_J4 p1 x1 (decide ((p0.Points.length : Int) = 0))) else (law03_CoverHeaderBack_J4 p1 x1 false))))))
end
end Go.Sx
