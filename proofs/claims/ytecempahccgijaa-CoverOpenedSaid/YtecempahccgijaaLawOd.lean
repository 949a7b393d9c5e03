/- CoverOpened on the mirrors: the stage's theorem. -/
import Derived.Test.YtecempahccgijaaOpnOd
import Derived.Test.YtecempahccgijaaPr
set_option linter.unusedVariables false
set_option linter.unusedSimpArgs false
set_option maxRecDepth 100000
namespace Go.Sx
open Go

theorem law03_CoverOpened_ok (p0 : W2) (p1 : TScheme) (p2 : List Int) (p3 : W2) (p4 : Int) (h1 : TScheme.ok p1) (h2 : ∀ a ∈ p2, I64 a) (h2l : p2.length * 8 ≤ 140737488351232) (h4 : I64 p4) : law03_CoverOpened p0 p1 p2 p3 p4 = some true := by
  have hl : p2.length < 4611686018427387904 := by omega
  unfold law03_CoverOpened
  have hj1 : law03_CoverOpened_J1 p0 p1 p2 p3 p4 true true = some true := rfl
  rw [alive_eq, bind_some, valid_eq, bind_some]
  cases hv : vldB p1 with
  | false => exact hj1
  | true =>
    obtain ⟨d, hd, h6⟩ := vld_depth hv
    have h64 := pow_le64 h6
    simp only [Bool.not_true, cond_false]
    rw [hd, rlist_eq h6 p2 hl, bind_some]
    cases hb : lstB d p2 with
    | false => exact hj1
    | true =>
      simp only [Bool.not_true, cond_false]
      by_cases hn : p4 < 0
      · rw [if_pos hn]; exact hj1
      · rw [if_neg hn, shG_nat, bind_some, shl1 h6]
        by_cases hg : ((2 ^ d : Nat) : Int) ≤ p4
        · rw [decide_eq_true hg]; exact hj1
        · rw [decide_eq_false hg]
          obtain ⟨u, rfl⟩ : ∃ u : Nat, p4 = (u : Int) := ⟨p4.toNat, by omega⟩
          have hu : u < 2 ^ d := by omega
          have hR := rcv_of h6 hb
          have hcl := covQ_len64 hR p1.Kind
          have hsub := fun y (hy : y ∈ covQ p1.Kind d (rcvL p2)) => covQ_sub hR hy
          unfold law03_CoverOpened_J1
          rw [cond_false, pcover_eq p1 p2 (by omega), bind_some, covP_eq hv hd hb]
          simp only
          rw [pseal_eq hv hd h6 _ hsub (by omega), bind_some, (Secret_eq p0 p1 _).1, bind_some, secP_eq hv hd hu]
          simp only
          rw [popen_eq hv hd h6 hu _ hsub (by omega), bind_some, if_neg (by simp), if_neg (by simp), if_neg (by simp), decide_eq_false (by simp [hdrS]), covQ_any hR p1.Kind hu]
          unfold law03_CoverOpened_J2
          rw [cond_false]
          have hno := fun y (hy : y ∈ covQ p1.Kind d (rcvL p2)) a (ha : a ∈ p2) => show memB (2 ^ d + a.toNat) y.1 y.2 = false from by
            obtain ⟨w, rfl, hw⟩ := lst_mem hb ha
            rw [Int.toNat_natCast]
            have := covQ_any hR p1.Kind hw
            rw [decide_eq_false (by simpa using (rcv_mem hb).2 ha), List.any_eq_false] at this
            simpa using this y hy
          generalize covQ p1.Kind d (rcvL p2) = Q at *
          refine fix_go _ (fun j x => x = (j : Int)) Q.length _ (by omega) rfl ?_ ?_
          · rintro j _ hj rfl
            refine ⟨_, rfl, fun rec => ?_⟩
            simp only [law03_CoverOpened_L3]
            rw [if_pos (by simp [hdrS]; omega), show getI (hdrS p0 p3 p1.Kind Q).Items (j : Int) = some (itmS p0 p3 p1.Kind Q[j]) from by unfold hdrS; rw [getI_some (by simpa using hj), List.getElem_map], bind_some, show (itmS p0 p3 p1.Kind Q[j]).Subset = ⟨(Q[j].1 : Int), (Q[j].2 : Int)⟩ from rfl, knows_val hv hd h6 hb hl (hsub _ (List.getElem_mem hj)), bind_some, if_neg (by simp), List.any_eq_false.2 (fun a ha => by rw [hno _ (List.getElem_mem hj) a ha]; simp)]
            unfold law03_CoverOpened_J4
            rw [cond_false, w64_nat (by omega)]
          · rintro _ rfl rec
            simp only [law03_CoverOpened_L3]
            rw [if_neg (by simp [hdrS])]
            obtain ⟨X, hX, hX1, hX2⟩ : ∃ X, (if decide (u ∉ rcvL p2) = true then (p3, (0 : Int)) else (k0, 6)) = X ∧ ((u : Int) ∈ p2 → X = (k0, 6)) ∧ ((u : Int) ∉ p2 → X = (p3, 0)) := ⟨_, rfl, fun h => by rw [if_neg (by simpa using (rcv_mem hb).2 h)], fun h => by rw [if_pos (by simpa using fun h' => h ((rcv_mem hb).1 h'))]⟩
            rw [hX]
            have p1' := fix_itL p2 (law03_CoverOpened_L5 p2 p3 (u : Int) true X) (fun j (_ : Unit) => (j : Int)) (fun a nx s' => bif decide (a = (u : Int)) then some true else nx s') (fun _ => bif decide ((u : Int) ∈ p2) then some false else some true)
              (fun rec j hj _ => by
                simp only [law03_CoverOpened_L5]
                rw [if_pos (by omega), getI_some hj, bind_some, w64_nat (by omega)]
                by_cases he : p2[j] = (u : Int)
                · rw [if_pos he, decide_eq_true he, hX1 (he ▸ List.getElem_mem hj)]; simp
                · rw [if_neg he, decide_eq_false he]; rfl)
              (fun rec _ => by
                simp only [law03_CoverOpened_L5]
                rw [if_neg (by omega)]
                by_cases hm : (u : Int) ∈ p2
                · rw [decide_eq_true hm, hX1 hm]; simp
                · rw [decide_eq_false hm, hX2 hm]; simp) (f := FUEL) (fuel_lt (by omega)) ()
            rw [show ((0 : Nat) : Int) = 0 from rfl] at p1'
            rw [p1', itL_find (fun a : Int => decide (a = (u : Int))) (fun _ _ => some true) _ _ _ _ (fun a _ nx s => rfl)]
            cases hf : p2.find? (fun a : Int => decide (a = (u : Int))) with
            | some a => rfl
            | none =>
              have : (u : Int) ∉ p2 := fun h => by have := (List.find?_eq_none.1 hf) _ h; simp at this
              rw [decide_eq_false this]; rfl
end Go.Sx
