/- PolySecrets on the mirrors: secrets are the document's. -/
import Derived.Test.YtkdghilkigojgaaOpnPs
import Derived.Test.YtkdghilkigojgaaVp
set_option linter.unusedVariables false
set_option linter.unusedSimpArgs false
set_option maxRecDepth 100000
namespace Go.Sx
open Go

theorem sameC_self (p : TSecret) (hl : p.Labels.length < 4611686018427387904) : ref03_SameSecret p p = some true := by
  unfold ref03_SameSecret ref03_SameSecret_J1
  rw [if_neg (by simp), if_neg (by simp), decide_eq_false (by simp), cond_false]
  refine fix_go _ (fun j x => x = (j : Int)) p.Labels.length _ (by omega) rfl ?_ ?_
  · rintro j _ hj rfl
    refine ⟨_, rfl, fun rec => ?_⟩
    simp only [ref03_SameSecret_L2]
    rw [if_pos (by omega), getI_some hj, bind_some, bind_some, if_neg (by simp), w64_nat (by omega)]
  · rintro _ rfl rec
    simp only [ref03_SameSecret_L2]
    rw [if_neg (by omega)]
theorem psecret_eq (root : W2) (s : TScheme) (u : Int) : ∃ r, poly_Secret root s u = some r ∧ ref04_Secret root s u = some r ∧ r.1.Labels = [] := by
  unfold poly_Secret ref04_Secret
  rcases valid_eq s with ⟨e1, e2⟩ | ⟨e1, e2, d, t, p, q, g, h⟩
  · rw [e1, e2]; exact ⟨_, rfl, rfl, rfl⟩
  · have h64 := pow_le64 h.d6
    obtain ⟨q1, q2⟩ := h.qb
    rw [e1, e2, bind_some, bind_some]
    simp only [Bool.not_true, cond_false]
    unfold poly_Secret_J1 ref04_Secret_J1
    by_cases hn : u < 0
    · rw [if_pos hn, if_pos hn]; exact ⟨_, rfl, rfl, rfl⟩
    · rw [if_neg hn, if_neg hn, h.depth, shG_nat, bind_some, recv_eq h.d6, bind_some, shl1 h.d6]
      by_cases hg : ((2 ^ d : Nat) : Int) ≤ u
      · rw [decide_eq_true hg]; exact ⟨_, rfl, rfl, rfl⟩
      · rw [decide_eq_false hg, cond_false, cond_false]
        obtain ⟨n, rfl⟩ : ∃ n : Nat, u = (n : Int) := ⟨u.toNat, by omega⟩
        unfold ref04_SecretOf
        have hb := h.big
        have hcl : (cfs root q t).length = t + 1 := by simp [cfs]
        have ht := h.t8
        rw [secret_eq h, rsecret_eq h, bind_some, bind_some, h.grp, wd_nat, show (1#64) = bn 1 from rfl, bn_add]
        simp only
        rw [at_eq q1 q2 (by omega) _ (cfs_lt (by omega)) (by omega), value_of_eq q1 q2 (by omega) _ (cfs_lt (by omega)) (by omega), bind_some, bind_some]
        exact ⟨_, rfl, rfl, rfl⟩
theorem law04_PolySecrets_ok (p0 : W2) (p1 : TScheme) (p2 : Int) (h1 : TScheme.ok p1) (h2 : I64 p2) : law04_PolySecrets p0 p1 p2 = some true := by
  obtain ⟨r, e1, e2, e3⟩ := psecret_eq p0 p1 p2
  unfold law04_PolySecrets
  rw [e1, e2, bind_some, bind_some, sameC_self _ (by rw [e3]; simp), bind_some]
  simp
end Go.Sx
