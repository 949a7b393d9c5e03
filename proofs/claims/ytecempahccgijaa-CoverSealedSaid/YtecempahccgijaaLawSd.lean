/- CoverSealed on the mirrors: any header is opened by exactly the members. -/
import Derived.Test.YtecempahccgijaaOpnSd
import Derived.Test.YtecempahccgijaaPr
set_option linter.unusedVariables false
set_option linter.unusedSimpArgs false
set_option maxRecDepth 100000
namespace Go.Sx
open Go

/-- entering with something that is no subset -/
theorem enter_bad {s : TScheme} (hv : vldB s = true) : ∀ (l : List TSubset) (hlen : l.length < 4611686018427387904), (∃ x ∈ l, cover_tree_subset (treeI s) x = some false) → (∀ x ∈ l, ∃ b, cover_tree_subset (treeI s) x = some b) → cover_enter s l = some (Tcover_tree.mk 0#8 0 0, 31) := by
  intro l hlen hx hall
  unfold cover_enter
  rw [treeOf_eq, bind_some, if_pos hv]
  simp only [Bool.not_true, cond_false]
  have p1 := fix_itL l (cover_enter_L1 l (treeI s, true)) (fun j (_ : Unit) => (j : Int)) (fun x nx s' => bif decide (cover_tree_subset (treeI s) x = some false) then some (Tcover_tree.mk 0#8 0 0, 31) else nx s') (fun _ => some (treeI s, 0))
    (fun rec j hj _ => by
      simp only [cover_enter_L1]
      obtain ⟨b, hb⟩ := hall _ (List.getElem_mem hj)
      rw [if_pos (by omega), getI_some hj, bind_some, hb, bind_some, w64_nat (by omega)]
      cases b <;> rfl)
    (fun rec _ => by simp only [cover_enter_L1]; rw [if_neg (by omega)]) (f := FUEL) (fuel_lt (by omega)) ()
  rw [show ((0 : Nat) : Int) = 0 from rfl] at p1
  rw [p1, itL_find (fun x : TSubset => decide (cover_tree_subset (treeI s) x = some false)) (fun _ _ => some (Tcover_tree.mk 0#8 0 0, 31)) _ _ _ _ (fun a _ nx s => rfl)]
  cases hf : l.find? (fun x : TSubset => decide (cover_tree_subset (treeI s) x = some false)) with
  | some a => rfl
  | none => obtain ⟨x, h1, h2⟩ := hx; have := (List.find?_eq_none.1 hf) x h1; simp [h2] at this
theorem law03_CoverSealed_ok (p0 : W2) (p1 : TScheme) (p2 : List TSubset) (p3 : W2) (p4 : Int) (h1 : TScheme.ok p1) (h2 : ∀ a ∈ p2, TSubset.ok a) (h2l : p2.length * 16 ≤ 140737488351232) (h4 : I64 p4) : law03_CoverSealed p0 p1 p2 p3 p4 = some true := by
  have hl : p2.length < 4611686018427387904 := by omega
  unfold law03_CoverSealed
  rw [alive_eq, bind_some, valid_eq]
  cases hv : vldB p1 with
  | false =>
    have : cover_Seal p0 p1 p2 p3 = some (THeader.mk [] 0#64 [] k0 k0, 30) := by unfold cover_Seal; rw [check_eq, hv]; rfl
    rw [this]; rfl
  | true =>
    obtain ⟨d, hd, h6⟩ := vld_depth hv
    have h64 := pow_le64 h6
    by_cases hg : (64 : Int) < (p2.length : Int)
    · have : cover_Seal p0 p1 p2 p3 = some (THeader.mk [] 0#64 [] k0 k0, 4) := by unfold cover_Seal; rw [check_eq, hv, bind_some, if_pos rfl, if_neg (by simp), if_pos hg]
      rw [this, bind_some, bind_some, decide_eq_true hg]; rfl
    · rw [decide_eq_false hg]
      have hcase : ∀ x ∈ p2, (ref03_IsSubset p1 x = some false ∧ cover_tree_subset (treeI p1) x = some false) ∨ (ref03_IsSubset p1 x = some true ∧ ∃ y : Nat × Nat, x = mkS y ∧ subP p1.Kind d y.1 y.2 = true) := by
        intro x hx
        rcases sub_cases hv hd h6 x with ⟨_, f1, f2⟩ | ⟨_, f1, f2, f3, n, m, e, f5, f6⟩
        · exact .inl ⟨f1, f2⟩
        · exact .inr ⟨f1, (n, m), e, f6⟩
      by_cases hbad : ∃ x ∈ p2, cover_tree_subset (treeI p1) x = some false
      · have : cover_Seal p0 p1 p2 p3 = some (THeader.mk [] 0#64 [] k0 k0, 31) := by
          unfold cover_Seal
          rw [check_eq, hv, bind_some, if_pos rfl, if_neg (by simp), if_neg hg, enter_bad hv p2 hl hbad (fun x hx => by obtain ⟨b, hb, _⟩ := subset_eq p1 hv x; exact ⟨b, hb⟩), bind_some, if_pos (by simp)]
        rw [this, bind_some, bind_some]
        unfold law03_CoverSealed_J1
        simp only [Bool.not_true, cond_false]
        have p1' := fix_itL p2 (law03_CoverSealed_L2 p0 p1 p2 p3 p4 true (THeader.mk [] 0#64 [] k0 k0, 31)) (fun j (_ : Unit) => (j : Int)) (fun x nx s' => bif decide (ref03_IsSubset p1 x = some false) then some true else nx s') (fun _ => law03_CoverSealed_L2 p0 p1 p2 p3 p4 true (THeader.mk [] 0#64 [] k0 k0, 31) (fun _ => none) (p2.length : Int))
          (fun rec j hj _ => by
            simp only [law03_CoverSealed_L2]
            rw [if_pos (by omega), getI_some hj, bind_some, w64_nat (by omega)]
            rcases hcase _ (List.getElem_mem hj) with ⟨f1, _⟩ | ⟨f1, _⟩
            · rw [f1, bind_some]; rfl
            · rw [f1, bind_some]; rfl)
          (fun rec _ => by simp only [law03_CoverSealed_L2, Int.lt_irrefl, if_false]) (f := FUEL) (fuel_lt (by omega)) ()
        rw [show ((0 : Nat) : Int) = 0 from rfl] at p1'
        rw [p1', itL_find (fun x : TSubset => decide (ref03_IsSubset p1 x = some false)) (fun _ _ => some true) _ _ _ _ (fun a _ nx s => rfl)]
        cases hf : p2.find? (fun x : TSubset => decide (ref03_IsSubset p1 x = some false)) with
        | some a => rfl
        | none =>
          obtain ⟨x, q1, q2⟩ := hbad
          have hn := (List.find?_eq_none.1 hf) x q1
          rcases hcase x q1 with ⟨f1, _⟩ | ⟨f1, y, e, f6⟩
          · simp [f1] at hn
          · rw [e, show mkS y = ⟨(y.1 : Int), (y.2 : Int)⟩ from rfl, (sub_true hv hd h6 f6).2.2.1] at q2; cases q2
      · have hgood : ∀ x ∈ p2, ref03_IsSubset p1 x = some true ∧ ∃ y : Nat × Nat, x = mkS y ∧ subP p1.Kind d y.1 y.2 = true := fun x hx => by
          rcases hcase x hx with ⟨_, f2⟩ | h
          · exact absurd ⟨x, hx, f2⟩ hbad
          · exact h
        obtain ⟨l, hl1, hl2⟩ : ∃ l : List (Nat × Nat), p2 = l.map mkS ∧ ∀ y ∈ l, subP p1.Kind d y.1 y.2 = true := by
          clear hcase hbad hg hl h2l h2
          induction p2 with
          | nil => exact ⟨[], rfl, by simp⟩
          | cons x t ih =>
            obtain ⟨l, e, hs⟩ := ih (fun x hx => hgood x (by simp [hx]))
            obtain ⟨_, y, ey, hy⟩ := hgood x (by simp)
            exact ⟨y :: l, by rw [ey, e]; rfl, by intro z hz; rcases List.mem_cons.1 hz with rfl | hz; exact hy; exact hs z hz⟩
        have hlen : l.length = p2.length := by rw [hl1, List.length_map]
        have hseal := pseal_eq hv hd h6 l hl2 (by omega) p0 p3
        rw [← hl1] at hseal
        rw [hseal, bind_some, bind_some]
        unfold law03_CoverSealed_J1
        simp only [Bool.not_true, cond_false]
        refine fix_go _ (fun j x => x = (j : Int)) p2.length _ (by omega) rfl ?_ ?_
        · rintro j _ hj rfl
          refine ⟨_, rfl, fun rec => ?_⟩
          simp only [law03_CoverSealed_L2]
          rw [if_pos (by omega), getI_some hj, bind_some, (hgood _ (List.getElem_mem hj)).1, bind_some, w64_nat (by omega)]; rfl
        · rintro _ rfl rec
          simp only [law03_CoverSealed_L2]
          rw [if_neg (by omega)]
          unfold law03_CoverSealed_J3
          by_cases hn : p4 < 0
          · rw [if_pos hn]; rfl
          · rw [if_neg hn, hd, shG_nat, bind_some, shl1 h6]
            by_cases hr : ((2 ^ d : Nat) : Int) ≤ p4
            · rw [decide_eq_true hr]; rfl
            · rw [decide_eq_false hr, cond_false]
              obtain ⟨u, rfl⟩ : ∃ u : Nat, p4 = (u : Int) := ⟨p4.toNat, by omega⟩
              have hu : u < 2 ^ d := by omega
              have hm := member_ok hv hd h6 hu l hl2 (by omega)
              rw [← hl1] at hm
              rw [(Secret_eq p0 p1 _).1, bind_some, secP_eq hv hd hu]
              simp only
              rw [popen_eq hv hd h6 hu l hl2 (by omega), bind_some, hm, bind_some, if_neg (by simp), if_neg (by simp)]
              unfold law03_CoverSealed_J4
              cases l.any (fun y => memB (2 ^ d + u) y.1 y.2) <;> simp
end Go.Sx
