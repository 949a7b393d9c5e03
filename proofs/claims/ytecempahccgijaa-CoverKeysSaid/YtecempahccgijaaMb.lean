/- Members of subsets: the mirrors of both sides come to the same. -/
import Derived.Test.YtecempahccgijaaTs
import Derived.Test.YtecempahccgijaaFx
set_option linter.unusedVariables false
set_option linter.unusedSimpArgs false
namespace Go.Sx
open Go

/-- whether a leaf is below Node and not below Minus -/
def memB (leaf : Nat) (v w : Nat) : Bool := belowB leaf v && (decide (w = 0) || !belowB leaf w)
/-- a subset's nodes as numbers -/
def SubN (s : TScheme) (x : TSubset) (n m : Nat) : Prop := x.Node = (n : Int) ∧ x.Minus = (m : Int) ∧ 1 ≤ n ∧ n < 128 ∧ m < 128
theorem subB_minus (s : TScheme) (hv : vldB s = true) (x : TSubset) (h : ref03_IsSubset s x = some true) : ∃ n m : Nat, SubN s x n m := by
  obtain ⟨d, hd, h6⟩ := vld_depth hv
  unfold ref03_IsSubset at h
  rw [hd, node_eq h6, bind_some] at h
  cases h1 : hasN d x.Node with
  | false => rw [h1] at h; simp at h
  | true =>
    obtain ⟨n, hn, hn1, hn2⟩ := hasN_nat h6 h1
    rw [h1] at h
    simp only [Bool.not_true, cond_false] at h
    by_cases hm : x.Minus = 0
    · exact ⟨n, 0, hn, by simpa using hm, hn1, hn2, by omega⟩
    · by_cases hk : s.Kind = 1#8
      · rw [if_pos hk, decide_eq_false hm] at h; simp at h
      · rw [if_neg hk, if_neg hm, node_eq h6, bind_some] at h
        cases h2 : hasN d x.Minus with
        | false => rw [h2] at h; simp [ref03_IsSubset_J1] at h
        | true =>
          obtain ⟨m, hm1, hm2, hm3⟩ := hasN_nat h6 h2
          exact ⟨n, m, hn, hm1, hn1, hn2, hm3⟩
theorem below0 (a : Int) : cover_node_below a 0 = some false := by
  unfold cover_node_below cover_node_below_J1
  by_cases h : a < 1
  · rw [if_pos h]; rfl
  · rw [if_neg h, if_pos (by omega)]; rfl
theorem leaf_eq {k : BitVec 8} {d u : Nat} {st : Int} (h : d ≤ 6) (hu : u < 128) : cover_tree_leaf ⟨k, (d : Int), st⟩ (u : Int) = some ((2 ^ d + u : Nat) : Int) := by
  have := pow_le64 h
  unfold cover_tree_leaf
  rw [size_eq h, bind_some]
  generalize 2 ^ d = m at *
  rw [w64_id (by omega) (by omega)]; congr 1
theorem member_eq {kd : BitVec 8} {d u n m : Nat} {st : Int} (h6 : d ≤ 6) (hu : u < 128) {x : TSubset} {s : TScheme} (hx : SubN s x n m) : cover_tree_member ⟨kd, (d : Int), st⟩ x (u : Int) = some (memB (2 ^ d + u) n m) := by
  obtain ⟨hn, hm, hn1, hn2, hm2⟩ := hx
  have h64 := pow_le64 h6
  have hp := Nat.two_pow_pos d
  unfold cover_tree_member memB
  rw [leaf_eq h6 hu, bind_some, hn, below_eq (by omega) hn1 (by omega) (by omega), bind_some]
  cases belowB (2 ^ d + u) n with
  | false => rfl
  | true =>
    rw [cond_true, hm]
    by_cases hm0 : m = 0
    · subst hm0; rw [show ((0 : Nat) : Int) = 0 from rfl, below0, bind_some]; rfl
    · rw [below_eq (by omega) (by omega) (by omega) (by omega), bind_some, decide_eq_false hm0]; rfl
theorem rhas_eq {s : TScheme} {d u n m : Nat} (hd : s.Depth = (d : Int)) (h6 : d ≤ 6) (hu : u < 128) {x : TSubset} (hx : SubN s x n m) : ref03_Has s x (u : Int) = some (memB (2 ^ d + u) n m) := by
  obtain ⟨hn, hm, hn1, hn2, hm2⟩ := hx
  have h64 := pow_le64 h6
  have hp := Nat.two_pow_pos d
  unfold ref03_Has memB
  rw [hd, recv_eq h6, bind_some]
  have e : w64 (((2 ^ d : Nat) : Int) + (u : Int)) = ((2 ^ d + u : Nat) : Int) := by
    generalize 2 ^ d = q at *
    rw [w64_id (by omega) (by omega)]; omega
  rw [e, hn, rbelow_eq (by omega) hn1 (by omega), bind_some]
  cases belowB (2 ^ d + u) n with
  | false => rfl
  | true =>
    rw [cond_true, hm]
    by_cases hm0 : m = 0
    · subst hm0; rw [if_pos (by simp)]; rfl
    · rw [if_neg (by omega), rbelow_eq (by omega) (by omega) (by omega), bind_some, decide_eq_false hm0]; rfl
/-- the members -/
def memL (d n m : Nat) : List Int := ((List.range (2 ^ d)).filter fun u => memB (2 ^ d + u) n m).map fun u : Nat => (u : Int)
theorem members_eq {kd : BitVec 8} {d n m : Nat} {st : Int} (h6 : d ≤ 6) {x : TSubset} {s : TScheme} (hx : SubN s x n m) : cover_tree_members ⟨kd, (d : Int), st⟩ x = some (memL d n m) := by
  have h64 := pow_le64 h6
  unfold cover_tree_members
  rw [size_eq h6, bind_some]
  have := fix_range (2 ^ d) (cover_tree_members_L1 ⟨kd, (d : Int), st⟩ x ((2 ^ d : Nat) : Int)) (fun j (s : List Int) => (s, (j : Int)))
    (fun j nx s => bif memB (2 ^ d + j) n m then Option.bind (appG 8 s [(j : Int)]) nx else nx s) (fun s => some s)
    (fun rec j hj s => by
      simp only [cover_tree_members_L1]
      rw [if_pos (by omega), member_eq h6 (by omega) hx, bind_some, w64_nat (by omega)])
    (fun rec s => by simp only [cover_tree_members_L1]; rw [if_neg (by omega)]) (f := FUEL) (fuel_lt (by omega)) ([] : List Int)
  rw [show ((0 : Nat) : Int) = 0 from rfl] at this
  rw [this]
  exact (itL_app 8 0 (fun u => memB (2 ^ d + u) n m) (fun u : Nat => (u : Int)) _ _ _ _ (fun a _ nx s => rfl) (by simp; omega)).trans (by simp [memL])
theorem rmembers_eq {s : TScheme} {d n m : Nat} (hd : s.Depth = (d : Int)) (h6 : d ≤ 6) {x : TSubset} (hx : SubN s x n m) : ref03_MembersOf s x = some (memL d n m) := by
  have h64 := pow_le64 h6
  unfold ref03_MembersOf
  have := fix_range (2 ^ d) (ref03_MembersOf_L1 s x) (fun j (s : List Int) => (s, (j : Int)))
    (fun j nx s => bif memB (2 ^ d + j) n m then Option.bind (appG 8 s [(j : Int)]) nx else nx s) (fun s => some s)
    (fun rec j hj s' => by
      simp only [ref03_MembersOf_L1]
      rw [hd, recv_eq h6, bind_some, if_pos (by omega), rhas_eq hd h6 (by omega) hx, bind_some, w64_nat (by omega)])
    (fun rec s' => by simp only [ref03_MembersOf_L1]; rw [hd, recv_eq h6, bind_some, if_neg (by omega)]) (f := FUEL) (fuel_lt (by omega)) ([] : List Int)
  rw [show ((0 : Nat) : Int) = 0 from rfl] at this
  rw [this]
  exact (itL_app 8 0 (fun u => memB (2 ^ d + u) n m) (fun u : Nat => (u : Int)) _ _ _ _ (fun a _ nx s => rfl) (by simp; omega)).trans (by simp [memL])
theorem memL_len {d n m : Nat} (h6 : d ≤ 6) : (memL d n m).length ≤ 64 := by
  have := pow_le64 h6
  unfold memL
  rw [List.length_map]
  exact Nat.le_trans (List.length_filter_le _ _) (by simpa using this)
/-! both sides' way in -/
theorem enter0 (s : TScheme) : cover_enter s ([] : List TSubset) = some (if vldB s then (treeI s, 0) else (Tcover_tree.mk 0#8 0 0, 30)) := by
  unfold cover_enter
  rw [treeOf_eq, bind_some]
  cases hv : vldB s with
  | false => rfl
  | true => rfl
theorem enter1 (s : TScheme) (hv : vldB s = true) (x : TSubset) : ∃ b, cover_enter s [x] = some (if b then (treeI s, 0) else (Tcover_tree.mk 0#8 0 0, 31)) ∧ ref03_IsSubset s x = some b ∧ cover_tree_subset (treeI s) x = some b ∧ (b = true → SubOk s x ∧ ∃ n m, SubN s x n m) := by
  obtain ⟨b, e1, e2, e3⟩ := subset_eq s hv x
  refine ⟨b, ?_, e2, e1, fun h => ⟨e3 h, subB_minus s hv x (h ▸ e2)⟩⟩
  unfold cover_enter
  rw [treeOf_eq, bind_some, if_pos hv]
  show fixN (cover_enter_L1 [x] (treeI s, true)) (18446744073709551614 + 1 + 1) 0 = _
  rw [fix_step]; simp only [cover_enter_L1]
  rw [if_pos (by simp), show getI [x] 0 = some x from rfl, bind_some, e1, bind_some]
  cases b with
  | false => rfl
  | true => rfl
theorem enter1n (s : TScheme) (hv : vldB s = false) (x : TSubset) : cover_enter s [x] = some (Tcover_tree.mk 0#8 0 0, 30) := by
  unfold cover_enter
  rw [treeOf_eq, bind_some, hv]; rfl
theorem Members_eq (s : TScheme) (x : TSubset) : ∃ r, cover_Members s x = some r ∧ ref03_Members s x = some r ∧ r.1.length ≤ 64 := by
  unfold cover_Members ref03_Members
  rw [valid_eq, bind_some]
  cases hv : vldB s with
  | false => rw [enter1n s hv]; exact ⟨_, rfl, rfl, by simp⟩
  | true =>
    obtain ⟨b, e1, e2, _, e4⟩ := enter1 s hv x
    obtain ⟨d, hd, h6⟩ := vld_depth hv
    simp only [Bool.not_true, cond_false]
    rw [e1, e2, bind_some, bind_some]
    cases b with
    | false => exact ⟨_, rfl, rfl, by simp⟩
    | true =>
      obtain ⟨_, n, m, hx⟩ := e4 rfl
      have ht : treeI s = ⟨s.Kind, (d : Int), (strd d : Int)⟩ := by unfold treeI; rw [hd, Int.toNat_natCast]
      simp only [if_true, Bool.not_true, cond_false]
      rw [if_neg (by simp), ht, members_eq h6 hx, rmembers_eq hd h6 hx, bind_some]
      exact ⟨_, rfl, rfl, memL_len h6⟩
theorem sameI_self (l : List Int) (hl : l.length < 4611686018427387904) : ref03_SameInts l l = some true := by
  unfold ref03_SameInts
  rw [if_neg (by simp)]
  have := fix_itL l (ref03_SameInts_L1 l l) (fun j (_ : Unit) => (j : Int)) (fun _ nx s => nx s) (fun _ => some true)
    (fun rec j hj s => by simp only [ref03_SameInts_L1]; rw [if_pos (by omega), getI_some hj, bind_some, bind_some, if_neg (by simp), w64_nat (by omega)])
    (fun rec s => by simp only [ref03_SameInts_L1]; rw [if_neg (by omega)]) (f := FUEL) (fuel_lt (by omega)) ()
  rw [show ((0 : Nat) : Int) = 0 from rfl] at this
  rw [this]
  have hc : ∀ (l : List Int), itL (fun _ nx s => nx s) (fun (_ : Unit) => some true) l () = some true := by
    intro l
    induction l with
    | nil => rfl
    | cons a l ih => rw [itL_cons]; exact ih
  exact hc l
end Go.Sx
