/- Mirrors: Sr. Printed by mx.py. -/
import Derived.Test.YtecempahccgijaaMirE
import Derived.Test.YtecempahccgijaaPln
import Derived.Test.YtecempahccgijaaClM
set_option linter.unusedVariables false
set_option maxRecDepth 100000
namespace Go.Sx
open Go Go.RowKit


def law03_CoverSecrets_L2 (p0 : W2) (p1 : TScheme) (p2 : Int) (x2 : TSecret × Int) (rec2 : (Int × List TLabel) → Option (Bool)) (s2 : Int × List TLabel) : Option (Bool) := match s2 with | (a7, a8) => (if a7 < (a8.length : Int) then Option.bind (getI a8 a7) fun y10 => (Option.bind (getI a8 a7) fun y11 => ((rec2 (w64 (a7 + 1), a8.set a7.toNat (TLabel.mk (w64 (y10.Node + 1)) y11.Minus y11.Key))))) else Option.bind (cover_Secret p0 p1 p2) fun x12 => (Option.bind (ref03_SameSecret x12.1 x2.1) fun x13 => ((some x13))))

def law03_CoverSecrets_J1 (p0 : W2) (p1 : TScheme) (p2 : Int) (x1 : TSecret × Int) (x2 : TSecret × Int) (a3 : Bool) : Option (Bool) := (bif a3 then (some false) else (fixN (law03_CoverSecrets_L2 p0 p1 p2 x2) FUEL (0, x1.1.Labels)))

/-- headend/headendlaw03.CoverSecrets -/
def law03_CoverSecrets (p0 : W2) (p1 : TScheme) (p2 : Int) : Option (Bool) := Option.bind (cover_Secret p0 p1 p2) fun x1 => (Option.bind (ref03_Secret p0 p1 p2) fun x2 => (Option.bind (ref03_SameSecret x1.1 x2.1) fun x14 => ((bif (!x14) then (law03_CoverSecrets_J1 p0 p1 p2 x1 x2 true) else (law03_CoverSecrets_J1 p0 p1 p2 x1 x2 (decide (x1.2 ≠ x2.2)))))))
end Go.Sx
