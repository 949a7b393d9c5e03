/- Lists of receivers, plainly; things compared with themselves. -/
import Derived.Test.YtkdghilkigojgaaPbM
import Derived.Test.YtkdghilkigojgaaVp
set_option linter.unusedVariables false
set_option linter.unusedSimpArgs false
set_option maxRecDepth 100000
namespace Go.Sx.Po
open Go

/-- whether numbers are receivers, in ascending order -/
def lstB (d : Nat) (l : List Int) : Bool := (List.range l.length).all fun j => decide (0 ≤ l.getD j 0 ∧ l.getD j 0 < ((2 ^ d : Nat) : Int)) && (decide (j = 0) || decide (l.getD (j - 1) 0 < l.getD j 0))
theorem getD_some {l : List Int} {j : Nat} (h : j < l.length) : l.getD j 0 = l[j] := by simp [List.getD, h]
/-- a loop that leaves at the first element without a property -/
theorem all_itL {R : Type} (p : Nat → Bool) (D E : Option R) : ∀ (l : List Nat) (F : Nat → (Unit → Option R) → Unit → Option R), (∀ a ∈ l, ∀ nx s, F a nx s = bif p a then nx s else E) → itL F (fun _ => D) l () = bif l.all p then D else E
  | [], F, h => rfl
  | a :: l, F, h => by
    rw [itL_cons, h a (by simp), List.all_cons]
    cases p a with
    | false => rfl
    | true => rw [cond_true, Bool.true_and]; exact all_itL p D E l F (fun b hb => h b (by simp [hb]))
theorem rlist_eq {d : Nat} (h6 : d ≤ 6) (l : List Int) (hl : l.length < 4611686018427387904) : ref03_IsList (d : Int) l = some (lstB d l) := by
  unfold ref03_IsList lstB
  have := fix_range l.length (ref03_IsList_L1 (d : Int) l) (fun j (_ : Unit) => (j : Int)) (fun j nx s => bif decide (0 ≤ l.getD j 0 ∧ l.getD j 0 < ((2 ^ d : Nat) : Int)) && (decide (j = 0) || decide (l.getD (j - 1) 0 < l.getD j 0)) then nx s else some false) (fun _ => some true)
    (fun rec j hj _ => by
      simp only [ref03_IsList_L1, ref03_IsList_J2]
      rw [if_pos (by omega), getI_some hj, bind_some, bind_some, recv_eq h6, bind_some, getD_some hj, w64_nat (by omega)]
      by_cases h : 0 ≤ l[j]
      · rw [if_neg (by omega)]
        by_cases h2 : l[j] < ((2 ^ d : Nat) : Int)
        · rw [if_neg (by omega), decide_eq_true ⟨h, h2⟩]
          simp only [Bool.true_and]
          by_cases h0 : j = 0
          · rw [if_neg (by omega), decide_eq_true h0]; rfl
          · have hj1 : j - 1 < l.length := by omega
            rw [if_pos (by omega), bind_some, w64_id (by omega) (by omega), show (j : Int) - 1 = ((j - 1 : Nat) : Int) from by omega, getI_some hj1, bind_some, decide_eq_false h0, Bool.false_or, getD_some hj1]
            by_cases h1 : l[j] ≤ l[j - 1]
            · rw [decide_eq_true h1, decide_eq_false (by omega)]; rfl
            · rw [decide_eq_false h1, decide_eq_true (by omega)]; rfl
        · rw [if_pos (by omega), decide_eq_false (by omega)]; rfl
      · rw [if_pos (by omega), decide_eq_false (by omega)]; rfl)
    (fun rec _ => by simp only [ref03_IsList_L1]; rw [if_neg (by omega)]) (f := FUEL) (fuel_lt (by omega)) ()
  rw [show ((0 : Nat) : Int) = 0 from rfl] at this
  rw [this, all_itL _ (some true) (some false) _ _ (fun a _ nx s => rfl)]
  cases (List.range l.length).all _ <;> rfl
theorem lst_all {d : Nat} {l : List Int} (h : lstB d l = true) {j : Nat} (hj : j < l.length) : (0 ≤ l[j] ∧ l[j] < ((2 ^ d : Nat) : Int)) ∧ (j = 0 ∨ l.getD (j - 1) 0 < l[j]) := by
  have := List.all_eq_true.1 h j (by simpa using hj)
  rw [Bool.and_eq_true, decide_eq_true_eq, getD_some hj, Bool.or_eq_true, decide_eq_true_eq, decide_eq_true_eq] at this
  exact this
/-- the receivers of a list, as numbers -/
theorem lst_nat {d : Nat} {l : List Int} (h : lstB d l = true) : ∃ ln : List Nat, l = ln.map (fun n : Nat => (n : Int)) ∧ (∀ n ∈ ln, n < 2 ^ d) ∧ ln.Pairwise (· < ·) := by
  refine ⟨l.map Int.toNat, ?_, ?_, ?_⟩
  · rw [List.map_map]
    apply List.ext_getElem
    · simp
    · intro i h1 h2
      have := (lst_all h h1).1.1
      simp only [List.getElem_map, Function.comp_apply]; omega
  · intro n hn
    obtain ⟨a, ha, rfl⟩ := List.mem_map.1 hn
    obtain ⟨j, hj, rfl⟩ := List.mem_iff_getElem.1 ha
    have := (lst_all h hj).1; omega
  · rw [List.pairwise_iff_getElem]
    have key : ∀ (m i : Nat) (h2 : i + m + 1 < l.length), l[i] < l[i + m + 1] := by
      intro m
      induction m with
      | zero =>
        intro i h2
        have := (lst_all h h2).2
        rw [getD_some (by omega)] at this
        simp only [Nat.add_zero, Nat.add_sub_cancel] at this ⊢
        omega
      | succ m ih =>
        intro i h2
        have h3 := ih i (by omega)
        have := (lst_all h h2).2
        rw [getD_some (by omega)] at this
        have e : l[i + (m + 1) + 1 - 1]'(by omega) = l[i + m + 1]'(by omega) := by congr 1
        rw [e] at this
        omega
    intro i j hi hj hij
    simp only [List.length_map] at hi hj
    simp only [List.getElem_map]
    have h1 := (lst_all h hi).1
    have h2 := key (j - i - 1) i (by omega)
    have e : l[i + (j - i - 1) + 1]'(by omega) = l[j] := by congr 1; omega
    rw [e] at h2
    omega
theorem lst_of {d : Nat} {ln : List Nat} (h1 : ∀ n ∈ ln, n < 2 ^ d) (h2 : ln.Pairwise (· < ·)) : lstB d (ln.map fun n : Nat => (n : Int)) = true := by
  unfold lstB
  rw [List.all_eq_true]
  intro j hj
  have hj' : j < ln.length := by simpa using hj
  have hl : j < (ln.map fun n : Nat => (n : Int)).length := by simpa using hj'
  rw [getD_some hl, List.getElem_map]
  have ha := h1 _ (List.getElem_mem hj')
  rw [Bool.and_eq_true, decide_eq_true_eq, Bool.or_eq_true, decide_eq_true_eq, decide_eq_true_eq]
  refine ⟨by omega, ?_⟩
  by_cases h0 : j = 0
  · exact .inl h0
  · right
    rw [getD_some (by simp; omega), List.getElem_map]
    have := (List.pairwise_iff_getElem.1 h2) (j - 1) j (by omega) hj' (by omega)
    omega
/-! the same -/
theorem same_go {R : Type} (n : Nat) (F : (Int → Option R) → Int → Option R) (r : Option R) (hn : n < 4611686018427387904) (h1 : ∀ rec (j : Nat), j < n → F rec (j : Int) = rec ((j + 1 : Nat) : Int)) (h2 : ∀ rec, F rec (n : Int) = r) : fixN F FUEL 0 = r :=
  fix_go F (fun j s => s = (j : Int)) n r (by omega) rfl (fun j s hj hs => ⟨_, rfl, fun rec => by rw [hs]; exact h1 rec j hj⟩) (fun s hs rec => by rw [hs]; exact h2 rec)
theorem sameI_self (l : List Int) (hl : l.length < 4611686018427387904) : ref03_SameInts l l = some true := by
  unfold ref03_SameInts
  rw [if_neg (by simp)]
  exact same_go l.length _ _ hl (fun rec j hj => by simp only [ref03_SameInts_L1]; rw [if_pos (by omega), getI_some hj, bind_some, bind_some, if_neg (by simp), w64_nat (by omega)]) (fun rec => by simp only [ref03_SameInts_L1]; rw [if_neg (by omega)])
theorem sameH_self (p : THeader) (hi : p.Items.length < 4611686018427387904) (hp : p.Points.length < 4611686018427387904) : ref03_SameHeader p p = some true := by
  unfold ref03_SameHeader ref03_SameHeader_J1
  rw [if_neg (by simp), if_neg (by simp), if_neg (by simp), if_neg (by simp), decide_eq_false (by simp), cond_false]
  have h3 : fixN (ref03_SameHeader_L3 p p) FUEL 0 = some true := same_go p.Points.length _ _ hp (fun rec j hj => by simp only [ref03_SameHeader_L3]; rw [if_pos (by omega), getI_some hj, bind_some, bind_some, if_neg (by simp), w64_nat (by omega)]) (fun rec => by simp only [ref03_SameHeader_L3]; rw [if_neg (by omega)])
  exact same_go p.Items.length _ _ hi (fun rec j hj => by simp only [ref03_SameHeader_L2]; rw [if_pos (by omega), getI_some hj, bind_some, bind_some, if_neg (by simp), w64_nat (by omega)]) (fun rec => by simp only [ref03_SameHeader_L2]; rw [if_neg (by omega)]; exact h3)
end Go.Sx.Po
