/- Mirrors: Pn. Printed by mx.py. -/
import Derived.Test.YtkdghilkigojgaaMirE
import Derived.Test.YtkdghilkigojgaaPln
import Derived.Test.YtkdghilkigojgaaPcM
set_option linter.unusedVariables false
set_option maxRecDepth 100000
namespace Go.Sx
open Go Go.RowKit


def law04_PolyOpens_J1 (p0 : TScheme) (p1 : TSecret) (p2 : THeader) (a2 : TSecret) (a5 : THeader) : Option (Bool) := Option.bind (poly_Open p0 a2 a5) fun x8 => (Option.bind (ref04_Open p0 p1 p2) fun x9 => ((if x8.1 = x9.1 then (if x8.2 = x9.2 then Option.bind (ref03_SameSecret a2 p1) fun x10 => ((bif x10 then Option.bind (ref03_SameHeader a5 p2) fun x11 => ((some x11)) else (some false))) else (some false)) else (some false))))

/-- headend/headendlaw04.PolyOpens -/
def law04_PolyOpens (p0 : TScheme) (p1 : TSecret) (p2 : THeader) : Option (Bool) := Option.bind (ref03_TwinSecret p1) fun x12 => (Option.bind (ref03_TwinHeader p2) fun x13 => ((law04_PolyOpens_J1 p0 p1 p2 x12 x13)))
end Go.Sx
