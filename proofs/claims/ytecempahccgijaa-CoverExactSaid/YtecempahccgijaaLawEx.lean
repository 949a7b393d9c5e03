/- CoverExact on the mirrors: a cover divides exactly the receivers that are not revoked. -/
import Derived.Test.YtecempahccgijaaOpnEx
import Derived.Test.YtecempahccgijaaPq
set_option linter.unusedVariables false
set_option linter.unusedSimpArgs false
set_option maxRecDepth 100000
namespace Go.Sx
open Go

/-- a list of truths, as a function -/
def tru (N : Nat) (p : Nat → Bool) : List Bool := (List.range N).map p
theorem tru_len {N : Nat} {p : Nat → Bool} : (tru N p).length = N := by simp [tru]
theorem tru_get {N u : Nat} {p : Nat → Bool} (h : u < N) : getI (tru N p) (u : Int) = some (p u) := by
  rw [getI_some (by rw [tru_len]; exact h)]; simp [tru]
theorem tru_set {N u : Nat} {p : Nat → Bool} : (tru N p).set u true = tru N fun v => p v || decide (v = u) := by
  apply List.ext_getElem
  · simp [tru]
  · intro i h1 h2
    rw [List.getElem_set]
    simp only [tru, List.getElem_map, List.getElem_range]
    by_cases h : u = i
    · rw [if_pos h, decide_eq_true h.symm, Bool.or_true]
    · rw [if_neg h, decide_eq_false (fun e => h e.symm), Bool.or_false]
theorem tru_ext {N : Nat} {p q : Nat → Bool} (h : ∀ v, v < N → p v = q v) : tru N p = tru N q := List.map_congr_left fun v hv => h v (List.mem_range.1 hv)
theorem law03_CoverExact_ok (p0 : TScheme) (p1 : List Int) (h0 : TScheme.ok p0) (h1 : ∀ a ∈ p1, I64 a) (h1l : p1.length * 8 ≤ 140737488351232) : law03_CoverExact p0 p1 = some true := by
  unfold law03_CoverExact
  rw [alive_eq, bind_some, pcover_eq p0 p1 (by omega), bind_some, valid_eq, bind_some]
  cases hv : vldB p0 with
  | false => simp only [covP, hv]; rfl
  | true =>
    obtain ⟨d, hd, h6⟩ := vld_depth hv
    simp only [Bool.not_true, cond_false]
    rw [hd, rlist_eq h6 p1 (by omega), bind_some]
    cases hb : lstB d p1 with
    | false => simp only [covP, hv, hd, Int.toNat_natCast, hb]; rfl
    | true =>
      simp only [Bool.not_true, cond_false]
      have h64 := pow_le64 h6
      have hp := Nat.two_pow_pos d
      have hR := rcv_of h6 hb
      have hcl := covQ_len h6 p0.Kind (rcvL p1)
      rw [shG_nat, bind_some, shl1 h6, mkL, if_pos (by omega), bind_some, covP_eq hv hd hb, Int.toNat_natCast]
      rw [show List.replicate (2 ^ d) false = tru (2 ^ d) (fun v => (p1.take 0).any fun a => decide (v = a.toNat)) from by
        apply List.ext_getElem
        · simp [tru]
        · intro i h1 h2; simp [tru]]
      refine fix_go _ (fun j x => x = (tru (2 ^ d) (fun v => (p1.take j).any fun a => decide (v = a.toNat)), (j : Int))) p1.length _ (by omega) rfl ?_ ?_
      · rintro j _ hj rfl
        refine ⟨_, rfl, fun rec => ?_⟩
        obtain ⟨u, hu, hu2⟩ := lst_mem hb (List.getElem_mem hj)
        simp only [law03_CoverExact_L1]
        rw [if_pos (by omega), getI_some hj, bind_some, hu, tru_get hu2, bind_some, Int.toNat_natCast, tru_set, w64_nat (by omega)]
        congr 3
        funext v
        rw [any_take _ _ _ hj, hu, Int.toNat_natCast]
      · rintro _ rfl rec
        simp only [law03_CoverExact_L1]
        rw [if_neg (by omega), List.take_length]
        have hq : (fun v => p1.any fun a => decide (v = a.toNat)) = fun v => (decide (v ∈ rcvL p1) || ((covQ p0.Kind d (rcvL p1)).take 0).any fun y => memB (2 ^ d + v) y.1 y.2) := by
          funext v
          rw [List.take_zero, List.any_nil, Bool.or_false, Bool.eq_iff_iff, List.any_eq_true, decide_eq_true_eq, rcvL, List.mem_map]
          constructor
          · rintro ⟨a, ha, he⟩; exact ⟨a, ha, (of_decide_eq_true he).symm⟩
          · rintro ⟨a, ha, he⟩; exact ⟨a, ha, decide_eq_true he.symm⟩
        rw [hq]
        refine fix_go _ (fun j x => x = (tru (2 ^ d) (fun v => (decide (v ∈ rcvL p1) || ((covQ p0.Kind d (rcvL p1)).take j).any fun y => memB (2 ^ d + v) y.1 y.2)), (j : Int))) (covQ p0.Kind d (rcvL p1)).length _ (by omega) rfl ?_ ?_
        · rintro j _ hj rfl
          refine ⟨_, rfl, fun rec2 => ?_⟩
          have hmem := List.getElem_mem hj
          have hs := covQ_sub hR hmem
          have hasc : Asc (covQ p0.Kind d (rcvL p1)) := covQ_asc
          have hany := fun u hu => covQ_any (u := u) hR p0.Kind hu
          have huq := fun y' (hy' : y' ∈ covQ p0.Kind d (rcvL p1)) u hu => covQ_uniq (u := u) hR hmem hy' hu
          simp only [law03_CoverExact_L2, List.length_map]
          rw [if_pos (by omega), getI_some (by simpa using hj), bind_some, List.getElem_map, show mkS (covQ p0.Kind d (rcvL p1))[j] = ⟨((covQ p0.Kind d (rcvL p1))[j].1 : Int), ((covQ p0.Kind d (rcvL p1))[j].2 : Int)⟩ from rfl, pmembers_eq hv hd h6 hs, bind_some, if_neg (by simp)]
          obtain ⟨u0, hu0, hm0⟩ := sub_mem h6 hs
          have hnz := List.length_pos_of_mem (memL_get.2 ⟨u0, rfl, hu0, hm0⟩)
          rw [if_neg (by simp only; omega)]
          have hJ : ∀ K : Bool → Option Bool, (if (0 : Int) < (j : Int) then Option.bind (some (TSubset.mk ((covQ p0.Kind d (rcvL p1))[j].1 : Int) ((covQ p0.Kind d (rcvL p1))[j].2 : Int))) fun y37 => Option.bind (getI ((covQ p0.Kind d (rcvL p1)).map mkS) (w64 ((j : Int) - 1))) fun y38 => K (decide (y37.Node ≤ y38.Node)) else K false) = K false := by
            intro K
            by_cases hj0 : j = 0
            · rw [if_neg (by omega)]
            · have hlt := (List.pairwise_iff_getElem.1 hasc) (j - 1) j (by omega) hj (by omega)
              rw [if_pos (by omega), bind_some, w64_id (by omega) (by omega), show ((j : Int) - 1) = ((j - 1 : Nat) : Int) from by omega, getI_some (by simp; omega), bind_some, List.getElem_map, decide_eq_false (by simp only [mkS]; omega)]
          refine (hJ (law03_CoverExact_J3 _ _ _ _)).trans ?_
          clear hJ
          unfold law03_CoverExact_J3
          rw [cond_false]
          generalize hcq : covQ p0.Kind d (rcvL p1) = Q at *
          have hnd : (memL d Q[j].1 Q[j].2).Nodup := by
            unfold memL
            rw [List.Nodup, List.pairwise_map]
            exact (List.nodup_range.filter _).imp fun h e => h (by omega)
          have hml := memL_len (d := d) (n := Q[j].1) (m := Q[j].2) h6
          have hfresh : ∀ u, u < 2 ^ d → memB (2 ^ d + u) Q[j].1 Q[j].2 = true → (decide (u ∈ rcvL p1) || (Q.take j).any fun y => memB (2 ^ d + u) y.1 y.2) = false := by
            intro u hu hm
            have h1 := hany u hu
            rw [List.any_eq_true.2 ⟨_, hmem, hm⟩] at h1
            have h2 : u ∉ rcvL p1 := of_decide_eq_true h1.symm
            rw [decide_eq_false h2, Bool.false_or, List.any_eq_false]
            intro y hy hmy
            obtain ⟨i, hi, rfl⟩ := List.getElem_of_mem hy
            rw [List.getElem_take] at hmy
            rw [List.length_take] at hi
            have := huq Q[i] (List.getElem_mem (by omega)) u hu hm hmy
            have hlt := (List.pairwise_iff_getElem.1 hasc) i j (by omega) hj (by omega)
            rw [this] at hlt; omega
          generalize hp' : (fun v => (decide (v ∈ rcvL p1) || (Q.take j).any fun y => memB (2 ^ d + v) y.1 y.2)) = P at *
          have hP : ∀ u, u < 2 ^ d → memB (2 ^ d + u) Q[j].1 Q[j].2 = true → P u = false := fun u hu hm => by rw [← hp']; exact hfresh u hu hm
          refine fix_go _ (fun i x => x = (tru (2 ^ d) (fun v => (P v || ((memL d Q[j].1 Q[j].2).take i).any fun a => decide (v = a.toNat))), (i : Int))) (memL d Q[j].1 Q[j].2).length _ (by omega) (by simp) ?_ ?_
          · rintro i _ hi rfl
            refine ⟨_, rfl, fun rec4 => ?_⟩
            obtain ⟨w, hw, hw2, hw3⟩ := memL_get.1 (List.getElem_mem hi)
            simp only [law03_CoverExact_L4]
            have hf : (P w || ((memL d Q[j].1 Q[j].2).take i).any fun a => decide (w = a.toNat)) = false := by
              rw [hP w hw2 hw3, Bool.false_or, List.any_eq_false]
              intro a ha hc
              obtain ⟨i', hi', rfl⟩ := List.getElem_of_mem ha
              rw [List.getElem_take] at hc
              rw [List.length_take] at hi'
              obtain ⟨w', e1, e2, e3⟩ := memL_get.1 (List.getElem_mem (l := memL d Q[j].1 Q[j].2) (n := i') (by omega))
              rw [e1, Int.toNat_natCast] at hc
              have : w = w' := of_decide_eq_true hc
              have heq : (memL d Q[j].1 Q[j].2)[i'] = (memL d Q[j].1 Q[j].2)[i] := by rw [e1, hw, this]
              exact (List.pairwise_iff_getElem.1 hnd) i' i (by omega) hi (by omega) heq
            rw [if_pos (by omega), getI_some hi, bind_some, hw, if_neg (by omega), bind_some, if_neg (by rw [tru_len]; omega), bind_some, tru_get hw2, bind_some, hf]
            unfold law03_CoverExact_J5
            rw [cond_false, getI_some hi, bind_some, hw, tru_get hw2, bind_some, Int.toNat_natCast, tru_set, w64_nat (by omega)]
            congr 3
            funext v
            rw [any_take _ _ _ hi, hw, Int.toNat_natCast, Bool.or_assoc]
          · rintro _ rfl rec4
            simp only [law03_CoverExact_L4]
            rw [if_neg (by omega), List.take_length, w64_nat (by omega)]
            congr 2
            rw [← hp']
            apply tru_ext
            intro v hvl
            rw [any_take _ _ _ hj, ← Bool.or_assoc]
            congr 1
            rw [Bool.eq_iff_iff, List.any_eq_true]
            constructor
            · rintro ⟨a, ha, hc⟩
              obtain ⟨w, rfl, hw2, hw3⟩ := memL_get.1 ha
              rw [Int.toNat_natCast] at hc
              have : v = w := of_decide_eq_true hc
              rw [this]; exact hw3
            · intro hm; exact ⟨_, memL_get.2 ⟨v, rfl, hvl, hm⟩, by simp⟩
        · rintro _ rfl rec2
          simp only [law03_CoverExact_L2, List.length_map]
          rw [if_neg (by omega), List.take_length]
          refine fix_go _ (fun j x => x = (j : Int)) (2 ^ d) _ (by omega) rfl ?_ ?_
          · rintro j _ hj rfl
            refine ⟨_, rfl, fun rec => ?_⟩
            simp only [law03_CoverExact_L6]
            rw [if_pos (by rw [tru_len]; omega), tru_get hj, bind_some, covQ_any hR p0.Kind hj, w64_nat (by omega)]
            by_cases hm : j ∈ rcvL p1
            · rw [decide_eq_true hm]; rfl
            · rw [decide_eq_true hm, Bool.or_true]; rfl
          · rintro _ rfl rec
            simp only [law03_CoverExact_L6]
            rw [if_neg (by rw [tru_len]; omega)]; rfl
end Go.Sx
