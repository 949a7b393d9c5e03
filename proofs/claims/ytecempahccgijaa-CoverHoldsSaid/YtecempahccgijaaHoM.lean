/- Mirrors: Ho. Printed by mx.py. -/
import Derived.Test.YtecempahccgijaaMirE
import Derived.Test.YtecempahccgijaaPln
import Derived.Test.YtecempahccgijaaWHoM
set_option linter.unusedVariables false
set_option maxRecDepth 100000
namespace Go.Sx
open Go Go.RowKit
noncomputable section


def law03_CoverHolds_J2 (p1 : TScheme) (x1 : Bool) (x4 : W2 × Int) (x5 : W2 × Int) (x6 : Int × Int) (x8 : Bool × Bool) (a9 : Bool) : Option (Bool) := (bif a9 then (some false) else (bif (!x8.1) then (bif x1 then (if x5.2 = 6 then (some (decide (x6.2 = 6))) else (some false)) else (some false)) else (bif x1 then (if x5.2 = 0 then (if x5.1 = x4.1 then (if x6.2 = 0 then (if (0 : Int) ≤ x6.1 then (some (decide (x6.1 ≤ p1.Depth))) else (some false)) else (some false)) else (some false)) else (some false)) else (some false))))

def law03_CoverHolds_J1 (p0 : W2) (p1 : TScheme) (p2 : Int) (p3 : TSubset) (x1 : Bool) (x2 : TSecret × Int) (a3 : Bool) : Option (Bool) := (bif a3 then (bif x1 then (if x2.2 = 30 then (some true) else (some (decide (x2.2 = 2)))) else (some false)) else Option.bind (cover_SubsetKey p0 p1 p3) fun x4 => (Option.bind (cover_Find p1 x2.1 p3) fun x5 => (Option.bind (cover_Work p1 p2 p3) fun x6 => (Option.bind (ref03_IsSubset p1 p3) fun x7 => ((bif (!x7) then (bif x1 then (if x2.2 = 0 then (if x4.2 = 31 then (if x5.2 = 31 then (some (decide (x6.2 = 31))) else (some false)) else (some false)) else (some false)) else (some false)) else Option.bind (law03_member p1 [p3] p2) fun x8 => ((if x2.2 ≠ 0 then (law03_CoverHolds_J2 p1 x1 x4 x5 x6 x8 true) else (if x4.2 ≠ 0 then (law03_CoverHolds_J2 p1 x1 x4 x5 x6 x8 true) else (law03_CoverHolds_J2 p1 x1 x4 x5 x6 x8 (!x8.2)))))))))))

/-- headend/headendlaw03.CoverHolds -/
def law03_CoverHolds (p0 : W2) (p1 : TScheme) (p2 : Int) (p3 : TSubset) : Option (Bool) := Option.bind (law03_alive) fun x1 => (Option.bind (cover_Secret p0 p1 p2) fun x2 => (Option.bind (ref03_Valid p1) fun x10 => ((bif (!x10) then (law03_CoverHolds_J1 p0 p1 p2 p3 x1 x2 true) else (if p2 < 0 then (law03_CoverHolds_J1 p0 p1 p2 p3 x1 x2 true) else Option.bind (shG p1.Depth) fun n11 => ((law03_CoverHolds_J1 p0 p1 p2 p3 x1 x2 (decide (shlI 1 n11 ≤ p2)))))))))
end
end Go.Sx
