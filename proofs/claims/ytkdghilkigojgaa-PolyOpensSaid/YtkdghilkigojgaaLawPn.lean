/- PolyOpens on the mirrors: opening any header with any share is the document's. -/
import Derived.Test.YtkdghilkigojgaaOpnPn
import Derived.Test.YtkdghilkigojgaaPos
set_option linter.unusedVariables false
set_option linter.unusedSimpArgs false
set_option maxRecDepth 100000
namespace Go.Sx
open Go Po

theorem law04_PolyOpens_ok (p0 : TScheme) (p1 : TSecret) (p2 : THeader) (h0 : TScheme.ok p0) (h1 : TSecret.ok p1) (h2 : THeader.ok p2) : law04_PolyOpens p0 p1 p2 = some true := by
  obtain ⟨a1, a2, a3⟩ := h1
  obtain ⟨⟨b1, b2⟩, b3⟩ := h2
  obtain ⟨r, e1, e2⟩ := open_same p0 p1 p2 b3
  unfold law04_PolyOpens ref03_TwinSecret ref03_TwinHeader law04_PolyOpens_J1
  rw [appG_some (by simp; omega), bind_some, List.nil_append, bind_some, appG_some (by simp; omega), bind_some, List.nil_append, appG_some (by simp; omega), bind_some, List.nil_append, bind_some, e1, e2, bind_some, bind_some, if_pos rfl, if_pos rfl, Po.sameC_self p1 (by omega), bind_some, cond_true, sameH_self p2 (by omega) (by omega)]
  rfl
end Go.Sx
