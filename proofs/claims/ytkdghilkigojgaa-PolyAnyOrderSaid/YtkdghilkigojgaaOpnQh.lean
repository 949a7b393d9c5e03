/- How the arguments' types are opened. Printed by rows2.py. -/
import Derived.Test.YtkdghilkigojgaaOpn
import Derived.Test.YtkdghilkigojgaaRows
import Derived.KernelRfl
import Derived.Test.YtkdghilkigojgaaQhM
set_option linter.unusedVariables false
set_option linter.unusedSimpArgs false
set_option maxRecDepth 100000
namespace Go.Sx
open Go Go.RowKit Go.Proofs

end Go.Sx
