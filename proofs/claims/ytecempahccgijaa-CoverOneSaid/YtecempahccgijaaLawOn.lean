/- CoverOne on the mirrors: one receiver more that is revoked. -/
import Derived.Test.YtecempahccgijaaOpnOn
import Derived.Test.YtecempahccgijaaPq
set_option linter.unusedVariables false
set_option linter.unusedSimpArgs false
set_option maxRecDepth 100000
namespace Go.Sx
open Go

theorem lst_of {d : Nat} {l : List Int} (h1 : ∀ a ∈ l, 0 ≤ a ∧ a < ((2 ^ d : Nat) : Int)) (h2 : l.Pairwise (· < ·)) : lstB d l = true := by
  unfold lstB
  rw [List.all_eq_true]
  intro j hj
  have hj := List.mem_range.1 hj
  rw [getD_some hj, decide_eq_true (h1 _ (List.getElem_mem hj)), Bool.true_and]
  by_cases h0 : j = 0
  · simp [h0]
  · rw [getD_some (j := j - 1) (by omega)]
    have := (List.pairwise_iff_getElem.1 h2) (j - 1) j (by omega) hj (by omega)
    simp [this]
theorem any_eq_mem {l : List Int} {u : Int} : (l.any fun a => decide (a = u)) = decide (u ∈ l) := by
  rw [Bool.eq_iff_iff, List.any_eq_true, decide_eq_true_eq]
  constructor
  · rintro ⟨a, ha, he⟩; have := of_decide_eq_true he; subst this; exact ha
  · intro h; exact ⟨u, h, by simp⟩
theorem law03_CoverOne_ok (p0 : TScheme) (p1 : List Int) (p2 : Int) (h0 : TScheme.ok p0) (h1 : ∀ a ∈ p1, I64 a) (h1l : p1.length * 8 ≤ 140737488351232) (h2 : I64 p2) : law03_CoverOne p0 p1 p2 = some true := by
  have hl : p1.length < 4611686018427387904 := by omega
  unfold law03_CoverOne
  have hj1 : law03_CoverOne_J1 p0 p1 p2 true true = some true := rfl
  rw [alive_eq, bind_some, valid_eq, bind_some]
  cases hv : vldB p0 with
  | false => exact hj1
  | true =>
    obtain ⟨d, hd, h6⟩ := vld_depth hv
    have h64 := pow_le64 h6
    simp only [Bool.not_true, cond_false]
    rw [hd, rlist_eq h6 p1 hl, bind_some]
    cases hb : lstB d p1 with
    | false => exact hj1
    | true =>
      simp only [Bool.not_true, cond_false]
      by_cases hn : p2 < 0
      · rw [if_pos hn]; exact hj1
      · rw [if_neg hn, shG_nat, bind_some, shl1 h6]
        by_cases hg : ((2 ^ d : Nat) : Int) ≤ p2
        · rw [decide_eq_true hg]; exact hj1
        · rw [decide_eq_false hg]
          obtain ⟨u, rfl⟩ : ∃ u : Nat, p2 = (u : Int) := ⟨p2.toNat, by omega⟩
          have hu : u < 2 ^ d := by omega
          unfold law03_CoverOne_J1
          rw [cond_false]
          have hR := rcv_of h6 hb
          have hcl := covQ_len h6 p0.Kind (rcvL p1)
          refine fix_go _ (fun j x => x = (((List.range j).filter (fun v => decide (v = u ∨ (v : Int) ∈ p1))).map (fun v : Nat => (v : Int)), (j : Int))) (2 ^ d) _ (by omega) (by simp) ?_ ?_
          · rintro j _ hj rfl
            refine ⟨_, rfl, fun rec => ?_⟩
            simp only [law03_CoverOne_L2]
            rw [hd, shG_nat, bind_some, shl1 h6, if_pos (by omega)]
            have hlen : (((List.range j).filter (fun v => decide (v = u ∨ (v : Int) ∈ p1))).map (fun v : Nat => (v : Int))).length ≤ j := by
              rw [List.length_map]; exact Nat.le_trans (List.length_filter_le _ _) (by simp)
            have hnext : ((List.range (j + 1)).filter (fun v => decide (v = u ∨ (v : Int) ∈ p1))).map (fun v : Nat => (v : Int)) = ((List.range j).filter (fun v => decide (v = u ∨ (v : Int) ∈ p1))).map (fun v : Nat => (v : Int)) ++ (if decide (j = u ∨ (j : Int) ∈ p1) then [(j : Int)] else []) := by
              rw [List.range_succ, List.filter_append, List.map_append]
              congr 1
              by_cases hc : j = u ∨ (j : Int) ∈ p1
              · rw [List.filter_cons, if_pos (by simpa using hc), if_pos (by simpa using hc)]; rfl
              · rw [List.filter_cons, if_neg (by simpa using hc), if_neg (by simpa using hc)]; rfl
            rw [hnext]
            generalize ((List.range j).filter (fun v => decide (v = u ∨ (v : Int) ∈ p1))).map (fun v : Nat => (v : Int)) = ac at *
            refine fix_go _ (fun i x => x = (decide ((j : Int) = (u : Int)) || (p1.take i).any (fun a => decide (a = (j : Int))), (i : Int))) p1.length _ (by omega) (by simp) ?_ ?_
            · rintro i _ hi rfl
              refine ⟨_, rfl, fun rec3 => ?_⟩
              simp only [law03_CoverOne_L3]
              rw [if_pos (by omega), getI_some hi, bind_some, any_take _ _ _ hi, w64_nat (by omega)]
              generalize (p1.take i).any (fun a => decide (a = (j : Int))) = b1
              cases decide ((j : Int) = (u : Int)) <;> cases b1 <;> rfl
            · rintro _ rfl rec3
              simp only [law03_CoverOne_L3]
              rw [if_neg (by omega), List.take_length, any_eq_mem, w64_nat (by omega), show (decide ((j : Int) = (u : Int)) || decide ((j : Int) ∈ p1)) = decide (j = u ∨ (j : Int) ∈ p1) from by rw [← Bool.decide_or]; exact decide_eq_decide.2 (or_congr (by omega) Iff.rfl)]
              cases decide (j = u ∨ (j : Int) ∈ p1) with
              | true => rw [cond_true, appG_some (by simp; omega), bind_some]; rfl
              | false => rw [cond_false]; simp
          · rintro _ rfl rec
            simp only [law03_CoverOne_L2]
            have hmm : ∀ a, a ∈ ((List.range (2 ^ d)).filter (fun v => decide (v = u ∨ (v : Int) ∈ p1))).map (fun v : Nat => (v : Int)) ↔ ∃ v : Nat, a = (v : Int) ∧ v < 2 ^ d ∧ (v = u ∨ (v : Int) ∈ p1) := by
              intro a
              rw [List.mem_map]
              constructor
              · rintro ⟨v, hv, rfl⟩
                obtain ⟨a1, a2⟩ := List.mem_filter.1 hv
                exact ⟨v, rfl, List.mem_range.1 a1, of_decide_eq_true a2⟩
              · rintro ⟨v, rfl, a1, a2⟩; exact ⟨v, List.mem_filter.2 ⟨List.mem_range.2 a1, decide_eq_true a2⟩, rfl⟩
            have hpw : (((List.range (2 ^ d)).filter (fun v => decide (v = u ∨ (v : Int) ∈ p1))).map (fun v : Nat => (v : Int))).Pairwise (· < ·) := by
              rw [List.pairwise_map]
              exact (List.pairwise_lt_range.filter _).imp fun h => by omega
            have hlen : (((List.range (2 ^ d)).filter (fun v => decide (v = u ∨ (v : Int) ∈ p1))).map (fun v : Nat => (v : Int))).length ≤ 2 ^ d := by
              rw [List.length_map]; exact Nat.le_trans (List.length_filter_le _ _) (by simp)
            generalize ((List.range (2 ^ d)).filter (fun v => decide (v = u ∨ (v : Int) ∈ p1))).map (fun v : Nat => (v : Int)) = more at *
            have hb2 : lstB d more = true := lst_of (fun a ha => by obtain ⟨v, rfl, a1, _⟩ := (hmm a).1 ha; omega) hpw
            have hR2 := rcv_of h6 hb2
            have hcl2 := covQ_len h6 p0.Kind (rcvL more)
            rw [hd, shG_nat, bind_some, shl1 h6, if_neg (by omega), pcover_eq p0 p1 (by omega), pcover_eq p0 more (by omega), bind_some, bind_some, covP_eq hv hd hb, covP_eq hv hd hb2, if_neg (by simp)]
            unfold law03_CoverOne_J4
            rw [decide_eq_false (by simp), cond_false]
            refine fix_go _ (fun j x => x = (j : Int)) (2 ^ d) _ (by omega) rfl ?_ ?_
            · rintro j _ hj rfl
              refine ⟨_, rfl, fun rec5 => ?_⟩
              simp only [law03_CoverOne_L5]
              rw [hd, shG_nat, bind_some, shl1 h6, if_pos (by omega), member_ok hv hd h6 hj _ (fun y hy => covQ_sub hR hy) (by omega), member_ok hv hd h6 hj _ (fun y hy => covQ_sub hR2 hy) (by omega), bind_some, bind_some, covQ_any hR p0.Kind hj, covQ_any hR2 p0.Kind hj]
              have e1 : (j ∈ rcvL p1) ↔ (j : Int) ∈ p1 := rcv_mem hb
              have e2 : (j ∈ rcvL more) ↔ (j = u ∨ (j : Int) ∈ p1) := by
                rw [rcv_mem hb2, hmm]
                constructor
                · rintro ⟨v, hv, a1, a2⟩
                  obtain rfl : j = v := by omega
                  exact a2
                · intro h; exact ⟨j, rfl, hj, h⟩
              simp only [Bool.not_true, cond_false, e1, e2]
              unfold law03_CoverOne_J6
              rw [w64_nat (by omega)]
              by_cases c1 : (j : Int) ∈ p1
              · simp [c1]
              · by_cases c2 : j = u
                · subst c2; simp [c1]
                · have c3 : (j : Int) ≠ (u : Int) := by omega
                  simp [c1, c2, c3]
            · rintro _ rfl rec5
              simp only [law03_CoverOne_L5]
              rw [hd, shG_nat, bind_some, shl1 h6, if_neg (by omega)]
end Go.Sx
