/- CoverKnows on the mirrors: a coalition knows a key exactly if it has a member. -/
import Derived.Test.YtecempahccgijaaOpnKw
import Derived.Test.YtecempahccgijaaPq
set_option linter.unusedVariables false
set_option linter.unusedSimpArgs false
set_option maxRecDepth 100000
namespace Go.Sx
open Go

theorem law03_CoverKnows_ok (p0 : TScheme) (p1 : List Int) (p2 : TSubset) (h0 : TScheme.ok p0) (h1 : ∀ a ∈ p1, I64 a) (h1l : p1.length * 8 ≤ 140737488351232) (h2 : TSubset.ok p2) : law03_CoverKnows p0 p1 p2 = some true := by
  have hl : p1.length < 4611686018427387904 := by omega
  unfold law03_CoverKnows law03_CoverKnows_J1
  rw [alive_eq, bind_some, valid_eq]
  cases hv : vldB p0 with
  | false =>
    rw [(knows_no p0 p1 hl p2).1 hv, bind_some, bind_some]; rfl
  | true =>
    obtain ⟨d, hd, h6⟩ := vld_depth hv
    rw [hd, rlist_eq h6 p1 hl]
    cases hb : lstB d p1 with
    | false => rw [(knows_no p0 p1 hl p2).2.1 d hv hd h6 hb, bind_some, bind_some, bind_some]; rfl
    | true =>
      rcases sub_cases hv hd h6 p2 with ⟨_, f1, f2⟩ | ⟨_, f1, f2, f3, n, m, rfl, f5, f6⟩
      · rw [(knows_no p0 p1 hl p2).2.2 d hv hd h6 hb f2, bind_some, bind_some, bind_some, f1]; rfl
      · rw [knows_val hv hd h6 hb hl f6, bind_some, bind_some, bind_some, f1, bind_some]
        simp only [Bool.not_true, cond_false]
        refine fix_go _ (fun j x => x = ((p1.take j).any (fun a => memB (2 ^ d + a.toNat) n m), (j : Int))) p1.length _ (by omega) (by simp) ?_ ?_
        · rintro j _ hj rfl
          refine ⟨_, rfl, fun rec => ?_⟩
          obtain ⟨u, hu, hu2⟩ := lst_mem hb (List.getElem_mem hj)
          have hm := member_ok hv hd h6 hu2 [(n, m)] (by simp [f6]) (by simp)
          simp only [List.map_cons, List.map_nil, mkS, List.any_cons, List.any_nil, Bool.or_false] at hm
          simp only [law03_CoverKnows_L2]
          rw [if_pos (by omega), getI_some hj, bind_some, hu, hm, bind_some, any_take _ _ _ hj, hu, Int.toNat_natCast, w64_nat (by omega)]
          simp only [Bool.not_true, cond_false]
          cases (p1.take j).any (fun a => memB (2 ^ d + a.toNat) n m) <;> rfl
        · rintro _ rfl rec
          simp only [law03_CoverKnows_L2]
          rw [if_neg (by omega), List.take_length, cond_true]; simp
end Go.Sx
