/- CoverKeys on the mirrors: keys, Find, Work and Knows are the document's. -/
import Derived.Test.YtecempahccgijaaOpnKe
import Derived.Test.YtecempahccgijaaKn
set_option linter.unusedVariables false
set_option linter.unusedSimpArgs false
namespace Go.Sx
open Go

theorem SubsetKey_eq (root : W2) (s : TScheme) (x : TSubset) : ∃ r, cover_SubsetKey root s x = some r ∧ ref03_SubsetKey root s x = some r := by
  unfold cover_SubsetKey ref03_SubsetKey
  rw [valid_eq, bind_some]
  cases hv : vldB s with
  | false => rw [enter1n s hv]; exact ⟨_, rfl, rfl⟩
  | true =>
    obtain ⟨d, hd, h6⟩ := vld_depth hv
    simp only [Bool.not_true, cond_false]
    rcases sub_cases hv hd h6 x with ⟨f0, f1, f2⟩ | ⟨f0, f1, f2, f3, n, m, rfl, f5, f6⟩
    · rw [f0, f1, bind_some, bind_some]; exact ⟨_, rfl, rfl⟩
    · obtain ⟨k, e1, e2⟩ := key_eq2 root s _ f3
      rw [f0, f1, bind_some, bind_some, if_neg (by simp)]
      simp only [Bool.not_true, cond_false]
      rw [e1, e2, bind_some]; exact ⟨_, rfl, rfl⟩
theorem Find_eq (s : TScheme) (c : TSecret) (hc : c.Labels.length < 4611686018427387904) (hok : ∀ l ∈ c.Labels, LblI l) (x : TSubset) : ∃ r, cover_Find s c x = some r ∧ ref03_Find s c x = some r := by
  unfold cover_Find ref03_Find
  rw [valid_eq, bind_some]
  cases hv : vldB s with
  | false => rw [enter1n s hv]; exact ⟨_, rfl, rfl⟩
  | true =>
    obtain ⟨d, hd, h6⟩ := vld_depth hv
    simp only [Bool.not_true, cond_false]
    rcases sub_cases hv hd h6 x with ⟨f0, f1, f2⟩ | ⟨f0, f1, f2, f3, n, m, rfl, f5, f6⟩
    · rw [f0, f1, bind_some, bind_some]; exact ⟨_, rfl, rfl⟩
    · obtain ⟨k, e1, e2⟩ := find_eq s c hc hok _ f3
      rw [f0, f1, bind_some, bind_some, if_neg (by simp)]
      simp only [Bool.not_true, cond_false]
      rw [e1, e2, bind_some]
      cases k.2 <;> exact ⟨_, rfl, rfl⟩
/-- the law -/
theorem law03_CoverKeys_ok (p0 : W2) (p1 : TScheme) (p2 : TSecret) (p3 : TSubset) (p4 : Int) (p5 : List Int) (h1 : TScheme.ok p1) (h2 : TSecret.ok p2) (h3 : TSubset.ok p3) (h4 : I64 p4) (h5 : ∀ a ∈ p5, I64 a) (h5l : p5.length * 8 ≤ 140737488351232) : law03_CoverKeys p0 p1 p2 p3 p4 p5 = some true := by
  obtain ⟨_, hl, hll⟩ := h2
  unfold law03_CoverKeys ref03_TwinSecret law03_CoverKeys_J1 law03_CoverKeys_J2 law03_CoverKeys_J3
  rw [appG_some (by simp; omega), bind_some, bind_some]
  simp only [List.nil_append]
  obtain ⟨r1, a1, b1⟩ := SubsetKey_eq p0 p1 p3
  obtain ⟨r2, a2, b2⟩ := Find_eq p1 p2 (by omega) (fun l h => hl l h) p3
  obtain ⟨r3, a3, b3⟩ := Work_eq p1 p4 p3
  obtain ⟨r4, a4, b4⟩ := Knows_eq p1 p5 (by omega) p3
  rw [a1, b1, bind_some, bind_some, if_neg (by simp), decide_eq_false (by simp), cond_false, a2, b2, bind_some, bind_some, if_neg (by simp), if_neg (by simp), sameC_self' p2 (by omega), bind_some]
  simp only [Bool.not_true, cond_false]
  rw [a3, b3, bind_some, bind_some, if_neg (by simp), decide_eq_false (by simp), cond_false, a4, b4, bind_some, bind_some]
  simp
end Go.Sx
