/- Mirrors: Sd. Printed by mx.py. -/
import Derived.Test.YtecempahccgijaaMirE
import Derived.Test.YtecempahccgijaaPln
import Derived.Test.YtecempahccgijaaWSdM
set_option linter.unusedVariables false
set_option maxRecDepth 100000
namespace Go.Sx
open Go Go.RowKit
noncomputable section


def law03_CoverSealed_J4 (p3 : W2) (x1 : Bool) (x10 : W2 × Int) (x11 : Bool × Bool) (a12 : Bool) : Option (Bool) := (bif a12 then (some false) else (bif (!x11.1) then (bif x1 then (if x10.2 = 6 then (some (decide (x10.1 = k0))) else (some false)) else (some false)) else (bif x1 then (if x10.2 = 0 then (some (decide (x10.1 = p3))) else (some false)) else (some false))))

def law03_CoverSealed_J3 (p0 : W2) (p1 : TScheme) (p2 : List TSubset) (p3 : W2) (p4 : Int) (x1 : Bool) (x2 : THeader × Int) (a8 : Bool) : Option (Bool) := (bif a8 then (bif x1 then (some (decide (x2.2 = 0))) else (some false)) else Option.bind (cover_Secret p0 p1 p4) fun x9 => (Option.bind (cover_Open p1 x9.1 x2.1) fun x10 => (Option.bind (law03_member p1 p2 p4) fun x11 => ((if x2.2 ≠ 0 then (law03_CoverSealed_J4 p3 x1 x10 x11 true) else (if x9.2 ≠ 0 then (law03_CoverSealed_J4 p3 x1 x10 x11 true) else (law03_CoverSealed_J4 p3 x1 x10 x11 (!x11.2))))))))

def law03_CoverSealed_L2 (p0 : W2) (p1 : TScheme) (p2 : List TSubset) (p3 : W2) (p4 : Int) (x1 : Bool) (x2 : THeader × Int) (rec2 : (Int) → Option (Bool)) (a5 : Int) : Option (Bool) := (if a5 < (p2.length : Int) then Option.bind (getI p2 a5) fun y6 => (Option.bind (ref03_IsSubset p1 y6) fun x7 => ((bif (!x7) then (bif x1 then (some (decide (x2.2 = 31))) else (some false)) else (rec2 (w64 (a5 + 1)))))) else (if p4 < 0 then (law03_CoverSealed_J3 p0 p1 p2 p3 p4 x1 x2 true) else Option.bind (shG p1.Depth) fun n13 => ((law03_CoverSealed_J3 p0 p1 p2 p3 p4 x1 x2 (decide (shlI 1 n13 ≤ p4))))))

def law03_CoverSealed_J1 (p0 : W2) (p1 : TScheme) (p2 : List TSubset) (p3 : W2) (p4 : Int) (x1 : Bool) (x2 : THeader × Int) (a3 : Bool) : Option (Bool) := (bif a3 then (bif x1 then (if x2.2 = 30 then (some true) else (some (decide (x2.2 = 4)))) else (some false)) else (fixN (law03_CoverSealed_L2 p0 p1 p2 p3 p4 x1 x2) FUEL 0))

/-- headend/headendlaw03.CoverSealed -/
def law03_CoverSealed (p0 : W2) (p1 : TScheme) (p2 : List TSubset) (p3 : W2) (p4 : Int) : Option (Bool) := Option.bind (law03_alive) fun x1 => (Option.bind (cover_Seal p0 p1 p2 p3) fun x2 => (Option.bind (ref03_Valid p1) fun x14 => ((bif (!x14) then (law03_CoverSealed_J1 p0 p1 p2 p3 p4 x1 x2 true) else (law03_CoverSealed_J1 p0 p1 p2 p3 p4 x1 x2 (decide ((64 : Int) < (p2.length : Int))))))))
end
end Go.Sx
