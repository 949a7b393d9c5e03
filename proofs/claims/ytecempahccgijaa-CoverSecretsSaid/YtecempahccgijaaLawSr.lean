/- CoverSecrets on the mirrors: secrets are the document's, in new memory. -/
import Derived.Test.YtecempahccgijaaOpnSr
import Derived.Test.YtecempahccgijaaSecN
set_option linter.unusedVariables false
set_option linter.unusedSimpArgs false
namespace Go.Sx
open Go

/-- the law -/
theorem law03_CoverSecrets_ok (p0 : W2) (p1 : TScheme) (p2 : Int) (h1 : TScheme.ok p1) (h2 : I64 p2) : law03_CoverSecrets p0 p1 p2 = some true := by
  obtain ⟨e1, e2, e3⟩ := Secret_eq p0 p1 p2
  unfold law03_CoverSecrets law03_CoverSecrets_J1
  rw [e1, e2, bind_some, bind_some, sameC_self' _ (by omega), bind_some]
  simp only [Bool.not_true, cond_false, ne_eq, not_true_eq_false, decide_false]
  refine fix_run (law03_CoverSecrets_L2 p0 p1 p2 (secP p0 p1 p2)) (fun j s => s.1 = (j : Int) ∧ s.2.length = (secP p0 p1 p2).1.Labels.length) (secP p0 p1 p2).1.Labels.length (some true) ?_ ?_ (secP p0 p1 p2).1.Labels.length 0 FUEL _ (by omega) (fuel_lt (by omega)) ⟨rfl, rfl⟩
  · rintro j ⟨i, l⟩ hj ⟨h1, h2⟩
    simp only at h1 h2
    subst h1
    refine ⟨(((j + 1 : Nat) : Int), l.set j (TLabel.mk (w64 (l[j].Node + 1)) l[j].Minus l[j].Key)), ⟨rfl, by simpa using h2⟩, fun rec => ?_⟩
    simp only [law03_CoverSecrets_L2]
    rw [if_pos (by omega), getI_some (by omega), bind_some, bind_some, w64_nat (by omega), Int.toNat_natCast]
  · rintro ⟨i, l⟩ ⟨h1, h2⟩ rec
    simp only at h1 h2
    subst h1
    simp only [law03_CoverSecrets_L2]
    rw [if_neg (by omega), e1, bind_some, sameC_self' _ (by omega), bind_some]
end Go.Sx
