/- PolyValues on the mirrors: schemes, polynomials and interpolation are the document's. -/
import Derived.Test.YtkdghilkigojgaaOpnPv
import Derived.Test.YtkdghilkigojgaaPz2
set_option linter.unusedVariables false
set_option linter.unusedSimpArgs false
set_option maxRecDepth 100000
namespace Go.Sx
open Go Po

theorem law04_PolyValues_ok (p0 : W2) (p1 : TScheme) (p2 : List (BitVec 64)) (p3 : BitVec 64) (p4 : List TPoint) (h1 : TScheme.ok p1) (h2 : p2.length * 8 ≤ 140737488351232) (h4 : p4.length * 16 ≤ 140737488351232) : law04_PolyValues p0 p1 p2 p3 p4 = some true := by
  obtain ⟨a, a1, a2, a3⟩ := coef_same p0 p1
  obtain ⟨b, b1, b2⟩ := check_same p1
  obtain ⟨c, c1, c2⟩ := value_same p1 p2 p3 (by omega)
  obtain ⟨e, e1, e2, e3⟩ := interp_same p1 p4 (by omega)
  unfold law04_PolyValues law04_PolyValues_J1 law04_PolyValues_J2 law04_PolyValues_J3
  rw [a1, a2, bind_some, bind_some, sameW_self _ a3, bind_some]
  simp only [Bool.not_true, cond_false]
  rw [if_neg (by simp), b1, b2, bind_some, bind_some, decide_eq_false (by simp), cond_false, appG_some (by simp; omega), bind_some, List.nil_append, c1, c2, bind_some, bind_some, if_neg (by simp), if_neg (by simp), sameW_self _ (by omega), bind_some]
  simp only [Bool.not_true, cond_false]
  rw [appG_some (by simp; omega), bind_some, List.nil_append, e1, e2, bind_some, bind_some, sameW_self _ e3, bind_some]
  simp only [Bool.not_true, cond_false]
  rw [decide_eq_false (by simp), cond_false]
  exact same_go p4.length _ _ (by omega) (fun rec j hj => by simp only [law04_PolyValues_L4]; rw [if_pos (by omega), getI_some hj, bind_some, bind_some, if_neg (by simp), w64_nat (by omega)]) (fun rec => by simp only [law04_PolyValues_L4]; rw [if_neg (by omega)])
end Go.Sx
