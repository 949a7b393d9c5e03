/- CoverStores on the mirrors: what a secret contains. -/
import Derived.Test.YtecempahccgijaaOpnSt
import Derived.Test.YtecempahccgijaaPr
set_option linter.unusedVariables false
set_option linter.unusedSimpArgs false
set_option maxRecDepth 100000
namespace Go.Sx
open Go

/-- what holds of the labels of a receiver -/
def stB (k : BitVec 8) (d u : Nat) : Bool :=
  decide ((labN k d u).length = (labN k d 0).length) && (labN k d u).all (fun x => decide (1 ≤ x.1) && belowB (2 ^ d + u) x.1 && (decide (x.2 = 0) || !belowB (2 ^ d + u) x.2)) && decide (labN k d u).Nodup && (decide (k ≠ 3#8) || (labN k d u).all fun x => decide (x ∈ labN 2#8 d u))
theorem st_1 : ∀ d : Fin 7, (List.range (2 ^ d.1)).all (fun u => stB 1#8 d.1 u) = true := by decide +kernel
theorem st_2 : ∀ d : Fin 7, (List.range (2 ^ d.1)).all (fun u => stB 2#8 d.1 u) = true := by decide +kernel
theorem st_3 : ∀ d : Fin 7, (List.range (2 ^ d.1)).all (fun u => stB 3#8 d.1 u) = true := by decide +kernel
theorem st_all {k : BitVec 8} {d u : Nat} (h1 : 1#8 ≤ k) (h3 : k ≤ 3#8) (hd : d ≤ 6) (hu : u < 2 ^ d) : stB k d u = true := by
  rcases kind_cases h1 h3 with rfl | rfl | rfl
  · exact List.all_eq_true.1 (st_1 ⟨d, by omega⟩) u (List.mem_range.2 hu)
  · exact List.all_eq_true.1 (st_2 ⟨d, by omega⟩) u (List.mem_range.2 hu)
  · exact List.all_eq_true.1 (st_3 ⟨d, by omega⟩) u (List.mem_range.2 hu)
theorem count_eq' : ∀ (l : List (Int × Int)) (k : Nat), k + l.length < 1000 → itL cover_Storage_R1 cover_Storage_D1 l (k : Int) = some (((k + l.length : Nat) : Int), 0)
  | [], k, _ => by rw [itL_nil]; simp [cover_Storage_D1]
  | a :: l, k, h => by
    rw [List.length_cons] at h
    rw [itL_cons]; simp only [cover_Storage_R1]
    rw [w64_nat (by omega), count_eq' l (k + 1) (by omega), List.length_cons]
    congr 3; omega
theorem pstorage_eq {s : TScheme} {d : Nat} (hv : vldB s = true) (hd : s.Depth = (d : Int)) (h6 : d ≤ 6) : cover_Storage s = some (((labN s.Kind d 0).length : Int), 0) := by
  unfold cover_Storage
  rw [enter0, bind_some]
  have ht : treeI s = ⟨s.Kind, (d : Int), (strd d : Int)⟩ := by unfold treeI; rw [hd, Int.toNat_natCast]
  obtain ⟨e1, e2, e3, _⟩ := labels_eq (u := 0) hv hd h6 (Nat.two_pow_pos d)
  rw [if_pos hv]
  simp only [cover_tree_labels]
  rw [if_neg (by simp), bind_some, ht]
  rw [show ((0 : Nat) : Int) = 0 from rfl] at e1 e2
  simp only
  rw [e1, bind_some]
  have hl : (labI s.Kind d 0).length = (labN s.Kind d 0).length := by simp [labI]
  have := count_eq' (labI s.Kind d 0) 0 (by rw [hl]; omega)
  rw [show ((0 : Nat) : Int) = 0 from rfl] at this
  rw [this, hl, Nat.zero_add]
theorem pstorage_some (s : TScheme) : ∃ r, cover_Storage s = some r := by
  cases hv : vldB s with
  | false => unfold cover_Storage; rw [enter0, bind_some, hv]; exact ⟨_, rfl⟩
  | true => obtain ⟨d, hd, h6⟩ := vld_depth hv; exact ⟨_, pstorage_eq hv hd h6⟩
theorem law03_CoverStores_ok (p0 : W2) (p1 : TScheme) (p2 : Int) (h1 : TScheme.ok p1) (h2 : I64 p2) : law03_CoverStores p0 p1 p2 = some true := by
  unfold law03_CoverStores
  obtain ⟨x3, hx3⟩ := pstorage_some p1
  have hj1 : ∀ e : Int, e ≠ 0 → ∀ c, law03_CoverStores_J1 p0 p1 p2 true (c, e) x3 true = some true := by
    intro e he c; unfold law03_CoverStores_J1; simp [he]
  rw [alive_eq, bind_some, (Secret_eq p0 p1 p2).1, bind_some, hx3, bind_some, valid_eq, bind_some]
  cases hv : vldB p1 with
  | false =>
    have : secP p0 p1 p2 = (sec0, 30) := by unfold secP; rw [hv]; rfl
    rw [this]; exact hj1 30 (by decide) sec0
  | true =>
    obtain ⟨d, hd, h6⟩ := vld_depth hv
    have h64 := pow_le64 h6
    simp only [Bool.not_true, cond_false]
    by_cases hr : 0 ≤ p2 ∧ p2 < ((2 ^ d : Nat) : Int)
    · obtain ⟨u, rfl⟩ : ∃ u : Nat, p2 = (u : Int) := ⟨p2.toNat, by omega⟩
      have hu : u < 2 ^ d := by omega
      have hs3 := pstorage_eq hv hd h6
      rw [hx3] at hs3
      obtain rfl := Option.some.inj hs3
      have hkk := vld_kind hv
      have hst := st_all hkk.1 hkk.2 h6 hu
      unfold stB at hst
      rw [Bool.and_eq_true, Bool.and_eq_true, Bool.and_eq_true, decide_eq_true_eq, decide_eq_true_eq, List.all_eq_true] at hst
      obtain ⟨⟨⟨t1, t2⟩, t3⟩, t4⟩ := hst
      obtain ⟨e1, e2, e3, e4⟩ := labels_eq hv hd h6 hu
      have hv2 : vldB (TScheme.mk 2#8 (d : Int) 0 (TGroup.mk 0#64 0#64 0#64)) = true := by
        unfold vldB; apply decide_eq_true
        exact ⟨by simp only; decide, by simp only; decide, by simp only; omega, by simp only; omega, rfl, rfl⟩
      have e3' : (labN 2#8 d u).length ≤ 100 := (labels_eq (s := TScheme.mk 2#8 (d : Int) 0 (TGroup.mk 0#64 0#64 0#64)) hv2 rfl h6 hu).2.2.1
      rw [if_neg (by omega), hd, shG_nat, bind_some, shl1 h6, decide_eq_false (by omega), secP_eq hv hd hu]
      have hslen : (secN p0 p1.Kind d u).length = (labN p1.Kind d u).length := by simp [secN]
      have hslen2 : (secN p0 2#8 d u).length = (labN 2#8 d u).length := by simp [secN]
      unfold law03_CoverStores_J1
      rw [cond_false, if_neg (by simp), if_neg (by simp), if_neg (by simp only; omega), if_neg (by simp), decide_eq_false (by simp)]
      unfold law03_CoverStores_J2 law03_of
      rw [cond_false, bind_some, hd, (Secret_eq p0 _ _).1, bind_some, secP_eq (s := TScheme.mk 2#8 (d : Int) 0 (TGroup.mk 0#64 0#64 0#64)) hv2 rfl hu]
      simp only
      unfold law03_CoverStores_J3
      rw [hd, shG_nat, bind_some]
      refine fix_go _ (fun j x => x = (j : Int)) (labN p1.Kind d u).length _ (by omega) rfl ?_ ?_
      · rintro i _ hi rfl
        refine ⟨_, rfl, fun rec4 => ?_⟩
        have hil : i < (secN p0 p1.Kind d u).length := by omega
        have hg : ∀ j (hj : j < (labN p1.Kind d u).length), (secN p0 p1.Kind d u)[j]'(by omega) = lbl p0 p1.Kind (labN p1.Kind d u)[j] := fun j hj => by simp [secN]
        have hx := t2 _ (List.getElem_mem hi)
        rw [Bool.and_eq_true, Bool.and_eq_true, decide_eq_true_eq, Bool.or_eq_true, decide_eq_true_eq] at hx
        obtain ⟨⟨x1, x2⟩, x3⟩ := hx
        have hok := e4 _ (List.getElem_mem hi)
        simp only [law03_CoverStores_L4]
        rw [if_pos (by omega), getI_some hil, bind_some, hg i hi, show (lbl p0 p1.Kind (labN p1.Kind d u)[i]).Node = ((labN p1.Kind d u)[i].1 : Int) from rfl, show (lbl p0 p1.Kind (labN p1.Kind d u)[i]).Minus = ((labN p1.Kind d u)[i].2 : Int) from rfl, if_neg (by omega), shl1 h6, w64_id (by omega) (by omega), show ((2 ^ d : Nat) : Int) + (u : Int) = ((2 ^ d + u : Nat) : Int) from by omega, rbelow_eq (by omega) x1 (by omega), bind_some, x2]
        simp only [Bool.not_true, cond_false]
        have hJ : ∀ K : Bool → Option Bool, (if ((labN p1.Kind d u)[i].2 : Int) ≠ 0 then Option.bind (ref03_Below ((2 ^ d + u : Nat) : Int) ((labN p1.Kind d u)[i].2 : Int)) fun x26 => K x26 else K false) = K false := by
          intro K
          by_cases h0 : (labN p1.Kind d u)[i].2 = 0
          · rw [if_neg (by omega)]
          · rw [if_pos (by omega), rbelow_eq (by omega) (by omega) (by omega), bind_some]
            have := x3.resolve_left h0
            rw [Bool.not_eq_true'] at this
            rw [this]
        refine (hJ (law03_CoverStores_J5 p1 _ _ _ _ _)).trans ?_
        clear hJ
        unfold law03_CoverStores_J5
        rw [cond_false]
        refine fix_go _ (fun j x => x = (j : Int)) i _ (by omega) rfl ?_ ?_
        · rintro j _ hj rfl
          refine ⟨_, rfl, fun rec6 => ?_⟩
          simp only [law03_CoverStores_L6]
          rw [if_pos (by omega), getI_some (show j < (secN p0 p1.Kind d u).length by omega), bind_some, bind_some, hg j (by omega), show (lbl p0 p1.Kind (labN p1.Kind d u)[i]).Node = ((labN p1.Kind d u)[i].1 : Int) from rfl, show (lbl p0 p1.Kind (labN p1.Kind d u)[i]).Minus = ((labN p1.Kind d u)[i].2 : Int) from rfl, show (lbl p0 p1.Kind (labN p1.Kind d u)[j]).Node = ((labN p1.Kind d u)[j].1 : Int) from rfl, show (lbl p0 p1.Kind (labN p1.Kind d u)[j]).Minus = ((labN p1.Kind d u)[j].2 : Int) from rfl]
          unfold law03_CoverStores_J7
          rw [w64_nat (by omega)]
          by_cases hn : ((labN p1.Kind d u)[j].1 : Int) = ((labN p1.Kind d u)[i].1 : Int)
          · rw [if_pos hn]
            have hne := (List.pairwise_iff_getElem.1 t3) j i (by omega) hi hj
            rw [decide_eq_false (fun hm => hne (Prod.ext (by omega) (by omega)))]; rfl
          · rw [if_neg hn]; rfl
        · rintro _ rfl rec6
          simp only [law03_CoverStores_L6]
          rw [if_neg (by omega)]
          refine fix_go _ (fun j x => x = (decide (p1.Kind ≠ 3#8) || ((secN p0 2#8 d u).take j).any (fun a => decide (a = lbl p0 p1.Kind (labN p1.Kind d u)[i])), (j : Int))) (secN p0 2#8 d u).length _ (by omega) (by simp) ?_ ?_
          · rintro j _ hj rfl
            refine ⟨_, rfl, fun rec8 => ?_⟩
            simp only [law03_CoverStores_L8]
            rw [if_pos (by omega), getI_some hj, bind_some, any_take _ _ _ hj, w64_nat (by omega)]
            generalize ((secN p0 2#8 d u).take j).any (fun a => decide (a = lbl p0 p1.Kind (labN p1.Kind d u)[i])) = b1
            cases decide (p1.Kind ≠ 3#8) <;> cases b1 <;> rfl
          · rintro _ rfl rec8
            simp only [law03_CoverStores_L8]
            rw [if_neg (by omega), List.take_length, w64_nat (by omega)]
            have : (decide (p1.Kind ≠ 3#8) || (secN p0 2#8 d u).any (fun a => decide (a = lbl p0 p1.Kind (labN p1.Kind d u)[i]))) = true := by
              rw [Bool.or_eq_true] at t4 ⊢
              rcases t4 with t4 | t4
              · exact .inl t4
              · by_cases hk : p1.Kind = 3#8
                · refine .inr (List.any_eq_true.2 ⟨lbl p0 2#8 (labN p1.Kind d u)[i], ?_, ?_⟩)
                  · unfold secN
                    exact List.mem_map.2 ⟨_, of_decide_eq_true (List.all_eq_true.1 t4 _ (List.getElem_mem hi)), rfl⟩
                  · apply decide_eq_true
                    generalize (labN p1.Kind d u)[i] = x
                    unfold lbl keyN
                    rw [hk]; simp
                · exact .inl (by simpa using hk)
            rw [this]; rfl
      · rintro _ rfl rec4
        simp only [law03_CoverStores_L4]
        rw [if_neg (by omega)]; rfl
    · have : secP p0 p1 p2 = (sec0, 2) := by unfold secP; rw [hv, hd, Int.toNat_natCast, if_neg hr]; rfl
      rw [this]
      by_cases hn : p2 < 0
      · rw [if_pos hn]; exact hj1 2 (by decide) sec0
      · rw [if_neg hn, hd, shG_nat, bind_some, shl1 h6, decide_eq_true (by omega)]; exact hj1 2 (by decide) sec0
end Go.Sx
