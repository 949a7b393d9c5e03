/- PolySeals on the mirrors: sealed headers are the document's. -/
import Derived.Test.YtkdghilkigojgaaOpnPe
import Derived.Test.YtkdghilkigojgaaPse
set_option linter.unusedVariables false
set_option linter.unusedSimpArgs false
set_option maxRecDepth 100000
namespace Go.Sx
open Go Po

theorem law04_PolySeals_ok (p0 : W2) (p1 : TScheme) (p2 : List Int) (p3 : W2) (p4 : BitVec 64) (h1 : TScheme.ok p1) (h2 : ∀ a ∈ p2, I64 a) (h3 : p2.length * 8 ≤ 140737488351232) : law04_PolySeals p0 p1 p2 p3 p4 = some true := by
  obtain ⟨r, e1, e2, e3, e4⟩ := seal_same p0 p1 p2 (by omega) p3 p4
  unfold law04_PolySeals
  rw [appG_some (by simp; omega), bind_some, List.nil_append, e1, e2, bind_some, bind_some, sameH_self _ (by rw [e3]; simp) (by omega), bind_some, sameI_self p2 (by omega)]
  simp
end Go.Sx
