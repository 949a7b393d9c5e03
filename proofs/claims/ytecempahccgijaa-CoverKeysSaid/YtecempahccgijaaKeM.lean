/- Mirrors: Ke. Printed by mx.py. -/
import Derived.Test.YtecempahccgijaaMirE
import Derived.Test.YtecempahccgijaaPln
import Derived.Test.YtecempahccgijaaClM
set_option linter.unusedVariables false
set_option maxRecDepth 100000
namespace Go.Sx
open Go Go.RowKit


def law03_CoverKeys_J3 (p1 : TScheme) (p3 : TSubset) (p5 : List Int) (a10 : Bool) : Option (Bool) := (bif a10 then (some false) else Option.bind (cover_Knows p1 p5 p3) fun x11 => (Option.bind (ref03_Knows p1 p5 p3) fun x12 => ((bif (x11.1 == x12.1) then (some (decide (x11.2 = x12.2))) else (some false)))))

def law03_CoverKeys_J2 (p1 : TScheme) (p3 : TSubset) (p4 : Int) (p5 : List Int) (a7 : Bool) : Option (Bool) := (bif a7 then (some false) else Option.bind (cover_Work p1 p4 p3) fun x8 => (Option.bind (ref03_Work p1 p4 p3) fun x9 => ((if x8.1 ≠ x9.1 then (law03_CoverKeys_J3 p1 p3 p5 true) else (law03_CoverKeys_J3 p1 p3 p5 (decide (x8.2 ≠ x9.2)))))))

def law03_CoverKeys_J1 (p1 : TScheme) (p2 : TSecret) (p3 : TSubset) (p4 : Int) (p5 : List Int) (x1 : TSecret) (a4 : Bool) : Option (Bool) := (bif a4 then (some false) else Option.bind (cover_Find p1 x1 p3) fun x5 => (Option.bind (ref03_Find p1 p2 p3) fun x6 => ((if x5.1 ≠ x6.1 then (law03_CoverKeys_J2 p1 p3 p4 p5 true) else (if x5.2 ≠ x6.2 then (law03_CoverKeys_J2 p1 p3 p4 p5 true) else Option.bind (ref03_SameSecret x1 p2) fun x13 => ((law03_CoverKeys_J2 p1 p3 p4 p5 (!x13))))))))

/-- headend/headendlaw03.CoverKeys -/
def law03_CoverKeys (p0 : W2) (p1 : TScheme) (p2 : TSecret) (p3 : TSubset) (p4 : Int) (p5 : List Int) : Option (Bool) := Option.bind (ref03_TwinSecret p2) fun x1 => (Option.bind (cover_SubsetKey p0 p1 p3) fun x2 => (Option.bind (ref03_SubsetKey p0 p1 p3) fun x3 => ((if x2.1 ≠ x3.1 then (law03_CoverKeys_J1 p1 p2 p3 p4 p5 x1 true) else (law03_CoverKeys_J1 p1 p2 p3 p4 p5 x1 (decide (x2.2 ≠ x3.2)))))))
end Go.Sx
