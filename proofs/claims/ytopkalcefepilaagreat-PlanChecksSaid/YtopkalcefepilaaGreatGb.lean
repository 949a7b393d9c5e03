/- Walks that follow mirrors: Gb. Printed by mx.py. -/
import Derived.Test.YtopkalcefepilaaGreatGk
import Derived.Test.YtopkalcefepilaaGreatZd
set_option linter.unusedVariables false
set_option linter.unusedSimpArgs false
set_option maxRecDepth 100000
set_option maxHeartbeats 2000000
namespace Go.Proofs.YtopkalcefepilaaGreat.Mx
open Go Go.RowKit Go.Sx
end Go.Proofs.YtopkalcefepilaaGreat.Mx
