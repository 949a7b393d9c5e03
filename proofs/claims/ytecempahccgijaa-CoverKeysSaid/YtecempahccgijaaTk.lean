/- Keys: the mirrors of both sides come to the same. -/
import Derived.Test.YtecempahccgijaaTs
set_option linter.unusedVariables false
set_option linter.unusedSimpArgs false
namespace Go.Sx
open Go

/-- the label of a child -/
def stp (k : W2) (n : Nat) : W2 := if n % 2 = 1 then drv k (un8 32#8) 0#64 else drv k (un8 31#8) 0#64
theorem desc_eq : ∀ (l : List Nat) (k : W2), itL cover_descend_R1 cover_descend_D1 (l.map Int.ofNat) k = some (l.foldl stp k)
  | [], k => rfl
  | a :: l, k => by
    rw [List.map_cons, itL_cons]
    simp only [cover_descend_R1, cover_descend_J2]
    rw [show (Int.ofNat a) = (a : Int) from rfl, show (2 : Int) = ((2 : Nat) : Int) from rfl, rem_nat a 2 (by omega), bind_some, List.foldl_cons]
    unfold stp
    by_cases h : a % 2 = 1
    · rw [if_pos (by omega), if_pos h]; exact desc_eq l _
    · rw [if_neg (by omega), if_neg h]; exact desc_eq l _
theorem descend_eq {w k : Nat} (key : W2) (hw : w < 9223372036854775808) (hk : 2 ^ k ≤ w) (hk2 : k ≤ 64) : cover_descend key ((w / 2 ^ k : Nat) : Int) (w : Int) = some ((pathN w k).foldl stp key) := by
  unfold cover_descend cover_path
  rw [bind_some]
  simp only
  rw [path_eq hw hk hk2, bind_some, desc_eq]
theorem step_eq (k : W2) (n : Nat) : ref03_step k (n : Int) = some (stp k n) := by
  unfold ref03_step stp
  rw [show (2 : Int) = ((2 : Nat) : Int) from rfl, rem_nat n 2 (by omega), bind_some]
  by_cases h : n % 2 = 1
  · rw [if_neg (by omega), if_pos h]
  · rw [if_pos (by omega), if_neg h]
theorem down_loop (v : Int) (l : List Nat) (hl : l.length ≤ 1000) : ∀ (r : List Nat) (j f : Nat) (k : W2), j + r.length = l.length → l.drop j = r → r.length < f → fixN (ref03_down_L1 (v :: l.map Int.ofNat)) f (((j + 1 : Nat) : Int), k) = some (r.foldl stp k)
  | r, j, 0, k, _, _, h => by omega
  | [], j, f + 1, k, hj, hr, _ => by
    rw [fix_step]; simp only [ref03_down_L1]
    rw [if_neg (by simp at hj ⊢; omega)]; rfl
  | a :: r, j, f + 1, k, hj, hr, hf => by
    rw [fix_step]; simp only [ref03_down_L1]
    have hjl : j < l.length := by simp at hj; omega
    have ha : l[j] = a := by
      have := List.drop_eq_getElem_cons hjl; rw [hr] at this; exact (List.cons.inj this).1.symm
    have hr' : l.drop (j + 1) = r := by
      have := List.drop_eq_getElem_cons hjl; rw [hr] at this; exact (List.cons.inj this).2.symm
    have hg : getI (v :: l.map Int.ofNat) ((j + 1 : Nat) : Int) = some (a : Int) := by
      rw [getI_some (by simp; omega)]
      simp only [List.getElem_cons_succ, List.getElem_map, ha]; rfl
    rw [if_pos (by simp; omega), hg, bind_some, step_eq, bind_some, w64_id (by simp at hj; omega) (by simp at hj; omega), show ((j + 1 : Nat) : Int) + 1 = ((j + 1 + 1 : Nat) : Int) from by omega, List.foldl_cons]
    exact down_loop v l hl r (j + 1) f _ (by simp at hj ⊢; omega) hr' (by simp at hf; omega)
theorem down_eq {w k : Nat} (key : W2) (hw : w < 9223372036854775808) (hk : 2 ^ k ≤ w) (hk2 : k ≤ 64) : ref03_down key ((w / 2 ^ k : Nat) : Int) (w : Int) = some ((pathN w k).foldl stp key) := by
  unfold ref03_down
  rw [rpath_eq hw hk hk2, bind_some]
  exact down_loop _ (pathN w k) (by rw [pathN_len]; omega) (pathN w k) 0 FUEL key (by omega) rfl (fuel_lt (by rw [pathN_len]; omega))
/-- the key of a subset -/
theorem key_eq2 (root : W2) (s : TScheme) (x : TSubset) (h : SubOk s x) : ∃ k, cover_tree_key (treeI s) root x = some k ∧ ref03_KeyOf root s x = some k := by
  unfold cover_tree_key ref03_KeyOf cover_nodeKey ref03_label
  have ht : (treeI s).kind = s.Kind := rfl
  rw [ht]
  by_cases h1 : s.Kind = 1#8
  · rw [if_pos h1, if_pos h1]; exact ⟨_, rfl, rfl⟩
  · rw [if_neg h1, if_neg h1]
    by_cases h2 : x.Minus = 0
    · rw [if_pos h2, if_pos h2]; exact ⟨_, rfl, rfl⟩
    · rw [if_neg h2, if_neg h2]
      rcases h.2 with h3 | h3 | ⟨m, n, k, hm, hn, hk, hk2, hm2, hk3, hn1⟩
      · exact absurd h3 h1
      · exact absurd h3 h2
      · rw [hm, hn, hk, bind_some, descend_eq _ (by omega) hk2 (by omega), down_eq _ (by omega) hk2 (by omega), bind_some, bind_some]
        exact ⟨_, rfl, rfl⟩
end Go.Sx
