/- Work and Knows: the mirrors of both sides come to the same. -/
import Derived.Test.YtecempahccgijaaFd
set_option linter.unusedVariables false
set_option linter.unusedSimpArgs false
namespace Go.Sx
open Go

theorem range_find {α : Type} (p : α → Bool) (l : List α) (q : Nat → Bool) (hq : ∀ j (h : j < l.length), q j = p l[j]) : (∃ j, ∃ h : j < l.length, (List.range l.length).find? q = some j ∧ l.find? p = some l[j]) ∨ ((List.range l.length).find? q = none ∧ l.find? p = none) := by
  cases hf : (List.range l.length).find? q with
  | none =>
    rw [List.find?_eq_none] at hf
    refine .inr ⟨rfl, List.find?_eq_none.2 fun x hx => ?_⟩
    obtain ⟨j, hj, rfl⟩ := List.mem_iff_getElem.1 hx
    rw [← hq j hj]; exact hf j (by simpa using hj)
  | some j =>
    have hm := List.mem_of_find?_eq_some hf
    have hj : j < l.length := by simpa using hm
    refine .inl ⟨j, hj, rfl, ?_⟩
    rw [List.find?_eq_some_iff_append] at hf ⊢
    obtain ⟨h1, a1, bs, h2, h3⟩ := hf
    refine ⟨by rw [← hq j hj]; exact h1, l.take j, l.drop (j + 1), ?_, ?_⟩
    · rw [← List.drop_eq_getElem_cons hj, List.take_append_drop]
    · intro a ha
      obtain ⟨i, hi, rfl⟩ := List.mem_iff_getElem.1 ha
      have hi' : i < j := by simp at hi; omega
      rw [List.getElem_take, ← hq i (by omega)]
      have has : a1.length = j := by
        have h4 : (List.range l.length)[a1.length]? = some j := by rw [h2]; simp
        rw [List.getElem?_range (by
          have : a1.length < (List.range l.length).length := by rw [h2]; simp
          simpa using this)] at h4
        exact Option.some.inj h4
      have h5 : i ∈ a1 := by
        have h6 : (List.range l.length)[i]? = some i := List.getElem?_range (by omega)
        rw [h2, List.getElem?_append_left (by omega)] at h6
        exact List.mem_of_getElem? h6
      exact h3 i h5
section
variable {s : TScheme} {d u n m : Nat}
/-- the first label that leads to a subset -/
def ledN (s : TScheme) (d u n m : Nat) : Option (Nat × Nat) := (labN s.Kind d u).find? (ldN s.Kind n m)
theorem known_eq (hv : vldB s = true) (hd : s.Depth = (d : Int)) (h6 : d ≤ 6) (hu : u < 2 ^ d) (hs : subP s.Kind d n m = true) :
    (∃ (j : Nat) (a : Nat × Nat), ref03_Known s (u : Int) ⟨(n : Int), (m : Int)⟩ = some (j : Int) ∧ ledN s d u n m = some a ∧ getI (labS s.Kind d u) (j : Int) = some ⟨(a.1 : Int), (a.2 : Int)⟩) ∨ (ref03_Known s (u : Int) ⟨(n : Int), (m : Int)⟩ = some (-1) ∧ ledN s d u n m = none) := by
  obtain ⟨e1, e2, e3, e4⟩ := labels_eq hv hd h6 hu
  have hls : (labS s.Kind d u).length = (labN s.Kind d u).length := by simp [labS]
  unfold ref03_Known ledN
  rw [e2, bind_some]
  have := fix_range (labN s.Kind d u).length (ref03_Known_L1 s ⟨(n : Int), (m : Int)⟩ (labS s.Kind d u)) (fun j (_ : Unit) => (j : Int)) (fun (j : Nat) nx s' => bif ((labN s.Kind d u)[j]?.map (ldN s.Kind n m)).getD false then some (j : Int) else nx s') (fun _ => some (-1))
    (fun rec j hj _ => by
      have hj' : j < (labS s.Kind d u).length := by omega
      have hg : (labS s.Kind d u)[j] = TSubset.mk ((labN s.Kind d u)[j].1 : Int) ((labN s.Kind d u)[j].2 : Int) := by simp [labS]
      have hok := e4 _ (List.getElem_mem hj)
      simp only [ref03_Known_L1]
      rw [if_pos (by omega), getI_some hj', bind_some, bind_some, hg]
      simp only
      rw [(leads_plain h6 hs ⟨hok.1.2.1, hok.1.2.2⟩ k0).2, bind_some, w64_nat (by omega), List.getElem?_eq_getElem hj, Option.map_some, Option.getD_some])
    (fun rec _ => by simp only [ref03_Known_L1]; rw [if_neg (by omega)]) (f := FUEL) (fuel_lt (by omega)) ()
  rw [show ((0 : Nat) : Int) = 0 from rfl] at this
  rw [this, itL_find (fun (j : Nat) => ((labN s.Kind d u)[j]?.map (ldN s.Kind n m)).getD false) (fun (j : Nat) _ => some (j : Int)) _ _ _ _ (fun a _ nx s => rfl)]
  rcases range_find (ldN s.Kind n m) (labN s.Kind d u) (fun j => ((labN s.Kind d u)[j]?.map (ldN s.Kind n m)).getD false) (fun j hj => by simp only [List.getElem?_eq_getElem hj, Option.map_some, Option.getD_some]) with ⟨j, hj, h1, h2⟩ | ⟨h1, h2⟩
  · rw [h1, h2]
    refine .inl ⟨j, _, rfl, rfl, ?_⟩
    rw [getI_some (by omega)]; simp [labS]
  · rw [h1, h2]; exact .inr ⟨rfl, rfl⟩
theorem led_mem (h6 : d ≤ 6) (hu : u < 2 ^ d) (hs : subP s.Kind d n m = true) : memB (2 ^ d + u) n m = (ledN s d u n m).isSome := by
  rw [← lead_mem h6 hu hs]
  unfold ledN
  rw [Bool.eq_iff_iff, List.find?_isSome, List.any_eq_true]
/-- how many derivations, plainly -/
def wrkN (s : TScheme) (d u n m : Nat) : Int × Int := match ledN s d u n m with
  | some a => if a.2 = 0 then (0, 0) else (((Nat.log2 m - Nat.log2 a.2 + 1 : Nat) : Int), 0)
  | none => (0, 6)
theorem pwork_eq (hv : vldB s = true) (hd : s.Depth = (d : Int)) (h6 : d ≤ 6) (hu : u < 2 ^ d) (hs : subP s.Kind d n m = true) :
    itL (cover_Work_R1 ⟨(n : Int), (m : Int)⟩ (treeI s, 0)) cover_Work_D1 (labI s.Kind d u) 0 = some (wrkN s d u n m) := by
  obtain ⟨e1, e2, e3, e4⟩ := labels_eq hv hd h6 hu
  obtain ⟨hn1, hn2, hm2, _⟩ := subP_bd h6 hs
  unfold labI
  rw [itL_map, itL_find (ldN s.Kind n m) (fun a _ => if a.2 = 0 then some (0, 0) else some (((Nat.log2 m - Nat.log2 a.2 + 1 : Nat) : Int), 0)) _ _ _ _ (fun a ha nx s' => by
    have hok := e4 a ha
    simp only [cover_Work_R1]
    rw [(leads_plain h6 hs ⟨hok.1.2.1, hok.1.2.2⟩ k0).1, bind_some]
    cases hl : ldN s.Kind n m a with
    | false => rfl
    | true =>
      simp only [Bool.not_true, cond_false, cond_true]
      by_cases h0 : a.2 = 0
      · rw [if_pos (by omega), if_pos h0]; rfl
      · rw [if_neg (by omega), if_neg h0]
        unfold ldN at hl
        by_cases hk : s.Kind = 1#8 ∨ m = 0
        · rw [if_pos hk, decide_eq_true_eq] at hl
          rcases hk with hk | hk
          · exact absurd (lab1 hk a ha) h0
          · omega
        · rw [if_neg hk] at hl
          simp only [Bool.and_eq_true, decide_eq_true_eq] at hl
          have hm1 : 1 ≤ m := by rw [not_or] at hk; omega
          have hll := below_log hm1 hl.2
          have l62 := log2_le62 (n := m) (by omega)
          rw [level_eq hm1 (by omega), level_eq (by omega) (by omega), bind_some, bind_some, w64_id (n := (Nat.log2 m : Int) - _) (by omega) (by omega), w64_id (by omega) (by omega)]
          unfold cover_Work_X1_0
          simp only
          congr 2; omega)]
  unfold wrkN ledN
  cases (labN s.Kind d u).find? (ldN s.Kind n m) with
  | none => rfl
  | some a =>
    simp only
    split <;> rfl
theorem Work_eq (s : TScheme) (u : Int) (x : TSubset) : ∃ r, cover_Work s u x = some r ∧ ref03_Work s u x = some r := by
  unfold cover_Work ref03_Work
  rw [enter0, valid_eq, bind_some, bind_some]
  cases hv : vldB s with
  | false => exact ⟨_, rfl, rfl⟩
  | true =>
    obtain ⟨d, hd, h6⟩ := vld_depth hv
    have ht : treeI s = ⟨s.Kind, (d : Int), (strd d : Int)⟩ := by unfold treeI; rw [hd, Int.toNat_natCast]
    simp only [if_true, Bool.not_true, cond_false]
    rw [if_neg (by simp), hd, rreceiver_eq h6]
    have e0 : cover_tree_receiver (treeI s) u = some (decide (0 ≤ u ∧ u < ((2 ^ d : Nat) : Int))) := by rw [ht]; exact receiver_eq h6
    rw [e0, bind_some, bind_some]
    by_cases hu : 0 ≤ u ∧ u < ((2 ^ d : Nat) : Int)
    · rw [decide_eq_true hu]
      simp only [Bool.not_true, cond_false]
      obtain ⟨w, hw⟩ : ∃ w : Nat, u = (w : Int) := ⟨u.toNat, by omega⟩
      subst hw
      have hu' : w < 2 ^ d := by omega
      rcases sub_cases hv hd h6 x with ⟨_, f1, f2⟩ | ⟨_, f1, f2, f3, n, m, rfl, f5, f6⟩
      · rw [f1, f2, bind_some, bind_some]; exact ⟨_, rfl, rfl⟩
      · rw [f1, f2, bind_some, bind_some]
        simp only [Bool.not_true, cond_false]
        obtain ⟨e1, e2, e3, e4⟩ := labels_eq hv hd h6 hu'
        unfold cover_tree_labels
        rw [bind_some]
        simp only
        have e1' : cover_tree_labels_1 (treeI s) (w : Int) = some (labI s.Kind d w) := by rw [ht]; exact e1
        have h64 := pow_le64 h6
        rw [e1', bind_some, pwork_eq hv hd h6 hu' f6, rhas_eq hd h6 (by omega) f5, bind_some, led_mem h6 hu' f6]
        unfold wrkN
        cases hl : ledN s d w n m with
        | none => exact ⟨_, rfl, rfl⟩
        | some a =>
          simp only [Option.isSome_some, Bool.not_true, cond_false]
          have ham : a ∈ labN s.Kind d w := List.mem_of_find?_eq_some hl
          have hal : ldN s.Kind n m a = true := List.find?_some hl
          have hok := e4 a ham
          have hj : ∀ b : Bool, b = decide (s.Kind = 1#8 ∨ m = 0) → ref03_Work_J1 s (w : Int) ⟨(n : Int), (m : Int)⟩ b = some (if a.2 = 0 then ((0 : Int), (0 : Int)) else (((Nat.log2 m - Nat.log2 a.2 + 1 : Nat) : Int), 0)) := by
            intro b hb
            unfold ref03_Work_J1
            unfold ldN at hal
            by_cases hk : s.Kind = 1#8 ∨ m = 0
            · rw [hb, decide_eq_true hk, cond_true]
              rw [if_pos hk, decide_eq_true_eq] at hal
              have : a.2 = 0 := by
                rcases hk with hk | hk
                · exact lab1 hk a ham
                · omega
              rw [if_pos this]
            · rw [hb, decide_eq_false hk, cond_false]
              rw [if_neg hk] at hal
              simp only [Bool.and_eq_true, decide_eq_true_eq] at hal
              have hm1 : 1 ≤ m := by rw [not_or] at hk; omega
              rcases known_eq hv hd h6 hu' f6 with ⟨j, a', g1, g2, g3⟩ | ⟨g1, g2⟩
              · rw [hl] at g2
                obtain rfl := Option.some.inj g2
                rw [e2, bind_some, g1, bind_some, g3, bind_some, if_neg (by omega)]
                unfold ref03_Work_J2
                obtain ⟨k, q1, q2⟩ := below_split0 hm1 hal.2
                have hkl := le_log q2 f5.2.2.2.2
                have := rpath_eq (w := m) (k := k) (by have := f5.2.2.2.2; omega) q2 (by omega)
                rw [← q1] at this
                simp only
                rw [this, bind_some]
                have hlg := log2_div m k q2
                rw [← q1] at hlg
                simp only [List.length_cons, List.length_map, pathN_len]
                congr 3; omega
              · rw [hl] at g2; cases g2
          refine ⟨_, rfl, ?_⟩
          by_cases hk : s.Kind = 1#8
          · rw [if_pos hk, hj true (by simp [hk])]
          · rw [if_neg hk, hj _ (by apply decide_eq_decide.2; simp only [hk, false_or]; omega)]
    · rw [decide_eq_false hu]; exact ⟨_, rfl, rfl⟩
end
/-! lists of receivers -/
/-- whether numbers are receivers, in ascending order -/
def lstB (d : Nat) (l : List Int) : Bool := (List.range l.length).all fun j => decide (0 ≤ l.getD j 0 ∧ l.getD j 0 < ((2 ^ d : Nat) : Int)) && (decide (j = 0) || decide (l.getD (j - 1) 0 < l.getD j 0))
theorem getD_some {l : List Int} {j : Nat} (h : j < l.length) : l.getD j 0 = l[j] := by simp [List.getD, h]
theorem all_itL {σ : Type} (p : Nat → Bool) : ∀ (l : List Nat) (F : Nat → (σ → Option Bool) → σ → Option Bool) (s : σ), (∀ a ∈ l, ∀ nx s, F a nx s = bif p a then nx s else some false) → itL F (fun _ => some true) l s = some (l.all p)
  | [], F, s, _ => rfl
  | a :: l, F, s, h => by
    rw [itL_cons, h a (by simp), List.all_cons]
    cases p a with
    | false => rfl
    | true => rw [cond_true, Bool.true_and]; exact all_itL p l F s (fun b hb => h b (by simp [hb]))
theorem list_eq {kd : BitVec 8} {d : Nat} {st : Int} (h6 : d ≤ 6) (l : List Int) (hl : l.length < 4611686018427387904) : cover_tree_list ⟨kd, (d : Int), st⟩ l = some (lstB d l) := by
  unfold cover_tree_list lstB
  have := fix_range l.length (cover_tree_list_L1 ⟨kd, (d : Int), st⟩ l) (fun j (_ : Unit) => (j : Int)) (fun j nx s => bif decide (0 ≤ l.getD j 0 ∧ l.getD j 0 < ((2 ^ d : Nat) : Int)) && (decide (j = 0) || decide (l.getD (j - 1) 0 < l.getD j 0)) then nx s else some false) (fun _ => some true)
    (fun rec j hj _ => by
      simp only [cover_tree_list_L1, cover_tree_list_J2]
      rw [if_pos (by omega), getI_some hj, bind_some, receiver_eq h6, bind_some, getD_some hj, w64_nat (by omega)]
      by_cases h : 0 ≤ l[j] ∧ l[j] < ((2 ^ d : Nat) : Int)
      · rw [decide_eq_true h]
        simp only [Bool.not_true, cond_false, Bool.true_and]
        by_cases h0 : j = 0
        · rw [if_neg (by omega), decide_eq_true h0]; rfl
        · have hj1 : j - 1 < l.length := by omega
          rw [if_pos (by omega), w64_id (by omega) (by omega), show (j : Int) - 1 = ((j - 1 : Nat) : Int) from by omega, getI_some hj1, bind_some, decide_eq_false h0, Bool.false_or, getD_some hj1]
          by_cases h1 : l[j] ≤ l[j - 1]
          · rw [decide_eq_true h1, decide_eq_false (by omega)]; rfl
          · rw [decide_eq_false h1, decide_eq_true (by omega)]; rfl
      · rw [decide_eq_false h]; rfl)
    (fun rec _ => by simp only [cover_tree_list_L1]; rw [if_neg (by omega)]) (f := FUEL) (fuel_lt (by omega)) ()
  rw [show ((0 : Nat) : Int) = 0 from rfl] at this
  rw [this]
  exact all_itL _ _ _ _ (fun a _ nx s => rfl)
theorem rlist_eq {d : Nat} (h6 : d ≤ 6) (l : List Int) (hl : l.length < 4611686018427387904) : ref03_IsList (d : Int) l = some (lstB d l) := by
  unfold ref03_IsList lstB
  have := fix_range l.length (ref03_IsList_L1 (d : Int) l) (fun j (_ : Unit) => (j : Int)) (fun j nx s => bif decide (0 ≤ l.getD j 0 ∧ l.getD j 0 < ((2 ^ d : Nat) : Int)) && (decide (j = 0) || decide (l.getD (j - 1) 0 < l.getD j 0)) then nx s else some false) (fun _ => some true)
    (fun rec j hj _ => by
      simp only [ref03_IsList_L1, ref03_IsList_J2]
      rw [if_pos (by omega), getI_some hj, bind_some, bind_some, recv_eq h6, bind_some, getD_some hj, w64_nat (by omega)]
      by_cases h : 0 ≤ l[j]
      · rw [if_neg (by omega)]
        by_cases h2 : l[j] < ((2 ^ d : Nat) : Int)
        · rw [if_neg (by omega), decide_eq_true ⟨h, h2⟩]
          simp only [Bool.true_and]
          by_cases h0 : j = 0
          · rw [if_neg (by omega), decide_eq_true h0]; rfl
          · have hj1 : j - 1 < l.length := by omega
            rw [if_pos (by omega), bind_some, w64_id (by omega) (by omega), show (j : Int) - 1 = ((j - 1 : Nat) : Int) from by omega, getI_some hj1, bind_some, decide_eq_false h0, Bool.false_or, getD_some hj1]
            by_cases h1 : l[j] ≤ l[j - 1]
            · rw [decide_eq_true h1, decide_eq_false (by omega)]; rfl
            · rw [decide_eq_false h1, decide_eq_true (by omega)]; rfl
        · rw [if_pos (by omega), decide_eq_false (by omega)]; rfl
      · rw [if_pos (by omega), decide_eq_false (by omega)]; rfl)
    (fun rec _ => by simp only [ref03_IsList_L1]; rw [if_neg (by omega)]) (f := FUEL) (fuel_lt (by omega)) ()
  rw [show ((0 : Nat) : Int) = 0 from rfl] at this
  rw [this]
  exact all_itL _ _ _ _ (fun a _ nx s => rfl)
theorem lst_mem {d : Nat} {l : List Int} (h : lstB d l = true) {a : Int} (ha : a ∈ l) : ∃ u : Nat, a = (u : Int) ∧ u < 2 ^ d := by
  obtain ⟨j, hj, rfl⟩ := List.mem_iff_getElem.1 ha
  have := List.all_eq_true.1 h j (by simpa using hj)
  rw [Bool.and_eq_true, decide_eq_true_eq, getD_some hj] at this
  exact ⟨l[j].toNat, by omega, by omega⟩
/-- whether a receiver has a label that leads to a subset -/
def kwB (s : TScheme) (d n m : Nat) (a : Int) : Bool := (ledN s d a.toNat n m).isSome
theorem knows1_eq {s : TScheme} {d n m u : Nat} (hv : vldB s = true) (hd : s.Depth = (d : Int)) (h6 : d ≤ 6) (hu : u < 2 ^ d) (hs : subP s.Kind d n m = true) : cover_Knows_1 (u : Int) (treeI s) ⟨(n : Int), (m : Int)⟩ = some (kwB s d n m (u : Int)) := by
  have ht : treeI s = ⟨s.Kind, (d : Int), (strd d : Int)⟩ := by unfold treeI; rw [hd, Int.toNat_natCast]
  obtain ⟨e1, e2, e3, e4⟩ := labels_eq hv hd h6 hu
  unfold cover_Knows_1 cover_tree_labels kwB ledN
  rw [bind_some]
  simp only
  have e1' : cover_tree_labels_1 (treeI s) (u : Int) = some (labI s.Kind d u) := by rw [ht]; exact e1
  rw [e1', bind_some, labI, itL_map, itL_find (ldN s.Kind n m) (fun a _ => some true) _ _ _ _ (fun a ha nx s' => by
    have hok := e4 a ha
    simp only [cover_Knows_1_R1, cover_Knows_1_X1_0]
    rw [(leads_plain h6 hs ⟨hok.1.2.1, hok.1.2.2⟩ k0).1, bind_some]), Int.toNat_natCast]
  cases (labN s.Kind d u).find? (ldN s.Kind n m) with
  | none => rfl
  | some a => rfl
theorem Knows_eq (s : TScheme) (l : List Int) (hl : l.length < 4611686018427387904) (x : TSubset) : ∃ r, cover_Knows s l x = some r ∧ ref03_Knows s l x = some r := by
  unfold cover_Knows ref03_Knows
  rw [enter0, valid_eq, bind_some, bind_some]
  cases hv : vldB s with
  | false => exact ⟨_, rfl, rfl⟩
  | true =>
    obtain ⟨d, hd, h6⟩ := vld_depth hv
    have ht : treeI s = ⟨s.Kind, (d : Int), (strd d : Int)⟩ := by unfold treeI; rw [hd, Int.toNat_natCast]
    simp only [if_true, Bool.not_true, cond_false]
    rw [if_neg (by simp), hd, rlist_eq h6 l hl]
    have e0 : cover_tree_list (treeI s) l = some (lstB d l) := by rw [ht]; exact list_eq h6 l hl
    rw [e0, bind_some, bind_some]
    cases hb : lstB d l with
    | false => exact ⟨_, rfl, rfl⟩
    | true =>
      simp only [Bool.not_true, cond_false]
      rcases sub_cases hv hd h6 x with ⟨_, f1, f2⟩ | ⟨_, f1, f2, f3, n, m, rfl, f5, f6⟩
      · rw [f1, f2, bind_some, bind_some]; exact ⟨_, rfl, rfl⟩
      · rw [f1, f2, bind_some, bind_some]
        simp only [Bool.not_true, cond_false]
        unfold slices_ContainsFunc_5954_cover_Knows_1 slices_IndexFunc_7bbb_cover_Knows_1
        have p1 := fix_range l.length (slices_IndexFunc_7bbb_cover_Knows_1_L1 l (treeI s) ⟨(n : Int), (m : Int)⟩) (fun j (_ : Unit) => (j : Int)) (fun (j : Nat) nx s' => bif kwB s d n m (l.getD j 0) then some (j : Int) else nx s') (fun _ => some (-1))
          (fun rec j hj _ => by
            simp only [slices_IndexFunc_7bbb_cover_Knows_1_L1]
            obtain ⟨u, hu, hu2⟩ := lst_mem hb (List.getElem_mem hj)
            rw [if_pos (by omega), getI_some hj, bind_some, getD_some hj, hu, knows1_eq hv hd h6 hu2 f6, bind_some, w64_nat (by omega)])
          (fun rec _ => by simp only [slices_IndexFunc_7bbb_cover_Knows_1_L1]; rw [if_neg (by omega)]) (f := FUEL) (fuel_lt (by omega)) ()
        have p2 := fix_range l.length (ref03_Knows_L1 s l ⟨(n : Int), (m : Int)⟩) (fun j (_ : Unit) => (j : Int)) (fun j nx s' => bif kwB s d n m (l.getD j 0) then some (true, 0) else nx s') (fun _ => some (false, 0))
          (fun rec j hj _ => by
            simp only [ref03_Knows_L1]
            obtain ⟨u, hu, hu2⟩ := lst_mem hb (List.getElem_mem hj)
            rw [if_pos (by omega), getI_some hj, bind_some, getD_some hj, hu, w64_nat (by omega)]
            unfold kwB
            rw [Int.toNat_natCast]
            rcases known_eq hv hd h6 hu2 f6 with ⟨i, a, g1, g2, _⟩ | ⟨g1, g2⟩
            · rw [g1, g2, bind_some, if_pos (by omega)]; rfl
            · rw [g1, g2, bind_some, if_neg (by omega)]; rfl)
          (fun rec _ => by simp only [ref03_Knows_L1]; rw [if_neg (by omega)]) (f := FUEL) (fuel_lt (by omega)) ()
        rw [show ((0 : Nat) : Int) = 0 from rfl] at p1 p2
        rw [p1, p2, itL_find (fun (j : Nat) => kwB s d n m (l.getD j 0)) (fun (j : Nat) _ => some (j : Int)) _ _ _ _ (fun a _ nx s => rfl), itL_find (fun (j : Nat) => kwB s d n m (l.getD j 0)) (fun (j : Nat) _ => some (true, (0 : Int))) _ _ _ _ (fun a _ nx s => rfl)]
        cases (List.range l.length).find? (fun j => kwB s d n m (l.getD j 0)) with
        | none => exact ⟨_, rfl, rfl⟩
        | some j =>
          simp only
          rw [bind_some, bind_some, decide_eq_true (by omega)]; exact ⟨_, rfl, rfl⟩
end Go.Sx
