/- CoverSizes on the mirrors: bounds of the covers of the three schemes. -/
import Derived.Test.YtecempahccgijaaOpnSz
import Derived.Test.YtecempahccgijaaCz
set_option linter.unusedVariables false
set_option linter.unusedSimpArgs false
set_option maxRecDepth 100000
namespace Go.Sx
open Go

theorem of_valid {k : BitVec 8} (hk : k = 1#8 ∨ k = 2#8 ∨ k = 3#8) {d : Nat} (h6 : d ≤ 6) : vldB (TScheme.mk k (d : Int) 0 (TGroup.mk 0#64 0#64 0#64)) = true := by
  unfold vldB
  apply decide_eq_true
  refine ⟨?_, ?_, by simp only; omega, by simp only; omega, rfl, rfl⟩ <;> rcases hk with rfl | rfl | rfl <;> (simp only; decide)
theorem law03_CoverSizes_ok (p0 : Int) (p1 : List Int) (h0 : I64 p0) (h1 : ∀ a ∈ p1, I64 a) (h1l : p1.length * 8 ≤ 140737488351232) : law03_CoverSizes p0 p1 = some true := by
  have hl : p1.length < 4611686018427387904 := by omega
  have hj1 : law03_CoverSizes_J1 p0 p1 true true = some true := rfl
  unfold law03_CoverSizes
  rw [alive_eq, bind_some]
  by_cases hn : p0 < 0
  · rw [if_pos hn]; exact hj1
  · rw [if_neg hn]
    by_cases hg : (6 : Int) < p0
    · rw [if_pos hg]; exact hj1
    · rw [if_neg hg]
      obtain ⟨d, rfl⟩ : ∃ d : Nat, p0 = (d : Int) := ⟨p0.toNat, by omega⟩
      have h6 : d ≤ 6 := by omega
      rw [rlist_eq h6 p1 hl, bind_some]
      cases hb : lstB d p1 with
      | false => exact hj1
      | true =>
        simp only [Bool.not_true, cond_false]
        by_cases hz : (p1.length : Int) = 0
        · rw [decide_eq_true hz]; exact hj1
        · rw [decide_eq_false hz]
          have hR := rcv_of h6 hb
          have hne : rcvL p1 ≠ [] := by
            intro e
            have : (rcvL p1).length = p1.length := by simp [rcvL]
            rw [e] at this; simp at this; omega
          have hrl : (rcvL p1).length = p1.length := by simp [rcvL]
          have s1 := size1 hR hne
          have s2 := size2 hR hne
          have s3 := size3 hR hne
          have s4 := size_le1 (k := 2#8) hR (by decide) hne
          have s5 := size_le1 (k := 3#8) hR (by decide) hne
          have b1 := cov_len (k := 1#8) (R := rcvL p1) h6
          have hq : ∀ k, (covQ k d (rcvL p1)) = covN k d (rcvL p1) := fun k => if_neg hne
          have hmul : p1.length * d ≤ p1.length * 6 := Nat.mul_le_mul_left _ h6
          rw [hrl] at s1 s2
          unfold law03_CoverSizes_J1 law03_of
          simp only [cond_false, bind_some]
          rw [pcover_eq _ p1 (by omega), pcover_eq _ p1 (by omega), pcover_eq _ p1 (by omega)]
          rw [covP_eq (of_valid (.inl rfl) h6) rfl hb, covP_eq (of_valid (.inr (.inl rfl)) h6) rfl hb, covP_eq (of_valid (.inr (.inr rfl)) h6) rfl hb, bind_some, bind_some, bind_some]
          simp only [hq, List.length_map, cond_true, if_true]
          have hpm : (p1.length : Int) * (d : Int) = ((p1.length * d : Nat) : Int) := by rw [Int.natCast_mul]
          rw [hpm, w64_id (n := ((p1.length * d : Nat) : Int)) (by omega) (by omega), w64_id (n := 2 * (p1.length : Int)) (by omega) (by omega), w64_id (n := 2 * (p1.length : Int) - 1) (by omega) (by omega), w64_id (by omega) (by omega)]
          rw [if_pos (by omega), if_pos (by omega), if_pos (by omega), if_pos (by omega), decide_eq_true (by omega)]
end Go.Sx
