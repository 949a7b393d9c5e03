/- CoverHolds on the mirrors: a secret leads to a key exactly for members. -/
import Derived.Test.YtecempahccgijaaOpnHo
import Derived.Test.YtecempahccgijaaPr
set_option linter.unusedVariables false
set_option linter.unusedSimpArgs false
set_option maxRecDepth 100000
namespace Go.Sx
open Go

theorem law03_CoverHolds_ok (p0 : W2) (p1 : TScheme) (p2 : Int) (p3 : TSubset) (h1 : TScheme.ok p1) (h2 : I64 p2) (h3 : TSubset.ok p3) : law03_CoverHolds p0 p1 p2 p3 = some true := by
  unfold law03_CoverHolds
  have hj1 : ∀ e : Int, e = 30 ∨ e = 2 → ∀ c, law03_CoverHolds_J1 p0 p1 p2 p3 true (c, e) true = some true := by
    rintro e (rfl | rfl) c <;> rfl
  rw [alive_eq, bind_some, (Secret_eq p0 p1 p2).1, bind_some, valid_eq, bind_some]
  cases hv : vldB p1 with
  | false =>
    have : secP p0 p1 p2 = (sec0, 30) := by unfold secP; rw [hv]; rfl
    rw [this]; exact hj1 30 (.inl rfl) sec0
  | true =>
    obtain ⟨d, hd, h6⟩ := vld_depth hv
    have h64 := pow_le64 h6
    simp only [Bool.not_true, cond_false]
    by_cases hr : 0 ≤ p2 ∧ p2 < ((2 ^ d : Nat) : Int)
    · obtain ⟨u, rfl⟩ : ∃ u : Nat, p2 = (u : Int) := ⟨p2.toNat, by omega⟩
      have hu : u < 2 ^ d := by omega
      rw [if_neg (by omega), hd, shG_nat, bind_some, shl1 h6, decide_eq_false (by omega), secP_eq hv hd hu]
      unfold law03_CoverHolds_J1 cover_SubsetKey cover_Find
      rw [cond_false]
      rcases sub_cases hv hd h6 p3 with ⟨f0, f1, f2⟩ | ⟨f0, f1, f2, f3, n, m, rfl, f5, f6⟩
      · rw [f0, f1, (pwork_val hv hd h6 hu p3).1 f2]; rfl
      · have hm := member_ok hv hd h6 hu [(n, m)] (by simp [f6]) (by simp)
        simp only [List.map_cons, List.map_nil, mkS, List.any_cons, List.any_nil, Bool.or_false] at hm
        rw [f0, f1, (pwork_val hv hd h6 hu _).2 n m rfl f6]
        simp only [bind_some, ne_eq, not_true_eq_false, if_false]
        rw [pkey_eq h6 f6, pfind_eq hv hd h6 hu f6]
        simp only [bind_some]
        cases hb : memB (2 ^ d + u) n m with
        | false =>
          have hw : (wrkN p1 d u n m) = (0, 6) := by
            rw [led_mem h6 hu f6] at hb
            unfold wrkN
            cases hl : ledN p1 d u n m with
            | none => rfl
            | some a => rw [hl] at hb; cases hb
          rw [hm, hw, hb]
          rfl
        | true =>
          obtain ⟨w1, w2, w3⟩ := wrk_bd hv hd h6 hu f6 hb
          rw [hm, hb]
          simp only [if_true, Bool.not_true, cond_false, bind_some]
          unfold law03_CoverHolds_J2
          simp only [Bool.not_true, cond_false, cond_true]
          simp [w1, w2, hd, w3]
    · have : secP p0 p1 p2 = (sec0, 2) := by unfold secP; rw [hv, hd, Int.toNat_natCast, if_neg hr]; rfl
      rw [this]
      by_cases hn : p2 < 0
      · rw [if_pos hn]; exact hj1 2 (.inr rfl) sec0
      · rw [if_neg hn, hd, shG_nat, bind_some, shl1 h6, decide_eq_true (by omega)]; exact hj1 2 (.inr rfl) sec0
end Go.Sx
