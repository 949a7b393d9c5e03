/- merged by mg.py: Tr Ts Tk Same Mb Lb SecN -/
import Derived.Test.YtecempahccgijaaCbM
import Derived.Test.YtecempahccgijaaPl
import Derived.Test.YtecempahccgijaaCrM
import Derived.Test.YtecempahccgijaaFx
import Derived.Test.YtecempahccgijaaClM
import Derived.Test.YtecempahccgijaaFy
section
/- Trees of receivers, plainly: levels, below, paths; the mirrors of both sides come to the same. -/
set_option linter.unusedVariables false
set_option linter.unusedSimpArgs false
namespace Go.Sx
open Go

theorem log2_div (n k : Nat) (h : 2 ^ k ≤ n) : Nat.log2 n = Nat.log2 (n / 2 ^ k) + k := by
  induction k generalizing n with
  | zero => simp
  | succ k ih =>
    have h2 : 2 ^ k ≤ n / 2 := by rw [Nat.le_div_iff_mul_le (by omega)]; rw [Nat.pow_succ] at h; omega
    have h1 : 2 ≤ n := by have : 0 < 2 ^ k := Nat.two_pow_pos k; rw [Nat.pow_succ] at h; omega
    rw [Nat.log2_def, if_pos h1, ih (n / 2) h2, Nat.div_div_eq_div_mul, Nat.pow_succ, Nat.mul_comm 2]; omega
theorem log2_half {n : Nat} (h : 2 ≤ n) : Nat.log2 n = Nat.log2 (n / 2) + 1 := by rw [Nat.log2_def, if_pos h]
theorem log2_mono {m n : Nat} (h : m ≤ n) : Nat.log2 m ≤ Nat.log2 n := by
  rcases Nat.eq_zero_or_pos m with h0 | h0
  · subst h0; rw [Nat.log2_zero]; omega
  · exact (Nat.le_log2 (by omega)).2 (Nat.le_trans (Nat.log2_self_le (by omega)) h)
theorem log2_le62 {n : Nat} (h : n < 9223372036854775808) : Nat.log2 n ≤ 62 := by
  rcases Nat.eq_zero_or_pos n with h0 | h0
  · subst h0; rw [Nat.log2_zero]; omega
  · have : Nat.log2 n < 63 := (Nat.log2_lt (by omega)).2 (by omega)
    omega
theorem un_wdn {n : Nat} (h : n < 9223372036854775808) : un (wd (n : Int)) = (n : Int) := un_wd _ (by omega) (by omega)
theorem lg_nat {n : Nat} (h : 1 ≤ n) : lg (n : Int) = (Nat.log2 n : Int) + 1 := by unfold lg; rw [Int.toNat_natCast, if_neg (by omega)]
theorem level_eq {n : Nat} (h1 : 1 ≤ n) (h : n < 9223372036854775808) : cover_node_level (n : Int) = some (Nat.log2 n : Int) := by
  have := log2_le62 h
  unfold cover_node_level
  rw [un_wdn h, lg_nat h1, w64_id (by omega) (by omega), Int.add_sub_cancel]
theorem quo2 (n : Nat) (h : n < 9223372036854775808) : quoI (n : Int) 2 = some ((n / 2 : Nat) : Int) := by
  unfold quoI
  rw [if_neg (by decide), show (n : Int).tdiv 2 = ((n / 2 : Nat) : Int) from by rw [Int.tdiv_eq_ediv_of_nonneg (by omega)]; omega, w64_id (by omega) (by omega)]
theorem rlevel_loop : ∀ (f n k : Nat), n < 9223372036854775808 → Nat.log2 n < f → k + Nat.log2 n ≤ 1000 → fixN ref03_Level_L1 f ((n : Int), (k : Int)) = some ((k + Nat.log2 n : Nat) : Int)
  | 0, n, k, _, h, _ => by omega
  | f + 1, n, k, h, hf, hk => by
    rw [fix_step]; simp only [ref03_Level_L1]
    by_cases h2 : 2 ≤ n
    · have hh := log2_half h2
      rw [if_pos (by omega), quo2 n h, bind_some, w64_id (by omega) (by omega)]
      have := rlevel_loop f (n / 2) (k + 1) (by omega) (by omega) (by omega)
      rw [show (k : Int) + 1 = ((k + 1 : Nat) : Int) from by omega, this, hh]; congr 2; omega
    · rw [if_neg (by omega)]
      have : Nat.log2 n = 0 := by rw [Nat.log2_def, if_neg (by omega)]
      rw [this, Nat.add_zero]
theorem rlevel_eq {n : Nat} (h : n < 9223372036854775808) : ref03_Level (n : Int) = some (Nat.log2 n : Int) := by
  have := log2_le62 h
  have := rlevel_loop FUEL n 0 h (fuel_lt (by omega)) (by omega)
  unfold ref03_Level
  rw [show (0 : Int) = ((0 : Nat) : Int) from rfl, this, Nat.zero_add]
/-- whether a node is below another one -/
def belowB (w v : Nat) : Bool := decide (Nat.log2 v ≤ Nat.log2 w ∧ w / 2 ^ (Nat.log2 w - Nat.log2 v) = v)
theorem belowB_step {w v : Nat} (hv : 1 ≤ v) (h : v < w) : belowB w v = belowB (w / 2) v := by
  have hh := log2_half (n := w) (by omega)
  have hm := log2_mono (Nat.le_of_lt h)
  unfold belowB
  by_cases hl : Nat.log2 v ≤ Nat.log2 (w / 2)
  · have e : Nat.log2 w - Nat.log2 v = (Nat.log2 (w / 2) - Nat.log2 v) + 1 := by omega
    have e2 : w / 2 ^ (Nat.log2 w - Nat.log2 v) = w / 2 / 2 ^ (Nat.log2 (w / 2) - Nat.log2 v) := by rw [e, Nat.div_div_eq_div_mul, Nat.pow_succ, Nat.mul_comm 2]
    rw [e2]
    apply decide_eq_decide.2
    constructor
    · rintro ⟨_, h2⟩; exact ⟨hl, h2⟩
    · rintro ⟨_, h2⟩; exact ⟨hm, h2⟩
  · rw [decide_eq_false (p := _ ∧ w / 2 / 2 ^ _ = v) (fun hc => hl hc.1)]
    apply decide_eq_false
    rintro ⟨_, h2⟩
    rw [show Nat.log2 w - Nat.log2 v = 0 from by omega, Nat.pow_zero, Nat.div_one] at h2
    omega
theorem belowB_le {w v : Nat} (hw : 1 ≤ w) (h : w ≤ v) : belowB w v = decide (w = v) := by
  unfold belowB
  by_cases e : w = v
  · subst e; simp
  · rw [decide_eq_false e]
    apply decide_eq_false
    rintro ⟨h1, h2⟩
    have := log2_mono h
    rw [show Nat.log2 w - Nat.log2 v = 0 from by omega, Nat.pow_zero, Nat.div_one] at h2
    exact e h2
theorem shr_nat (n k : Nat) (hk : k ≤ 64) : shrI (n : Int) k = ((n / 2 ^ k : Nat) : Int) := by
  unfold shrI
  rw [Nat.min_eq_left hk, Int.natCast_ediv, Int.natCast_pow]; rfl
theorem below_eq {w v : Nat} (hw : 1 ≤ w) (hv : 1 ≤ v) (hw2 : w < 9223372036854775808) (hv2 : v < 9223372036854775808) : cover_node_below (w : Int) (v : Int) = some (belowB w v) := by
  have l1 := log2_le62 hw2
  have l2 := log2_le62 hv2
  unfold cover_node_below cover_node_below_J1
  rw [if_neg (by omega), if_neg (by omega), level_eq hw hw2, bind_some, level_eq hv hv2, bind_some]
  by_cases h : Nat.log2 w < Nat.log2 v
  · rw [decide_eq_true (by omega)]
    unfold belowB
    rw [decide_eq_false (by omega)]; rfl
  · rw [decide_eq_false (by omega)]
    simp only [cond_false]
    rw [bind_some, bind_some, w64_id (by omega) (by omega)]
    have : shG ((Nat.log2 w : Int) - (Nat.log2 v : Int)) = some (Nat.log2 w - Nat.log2 v) := by unfold shG; rw [if_pos (by omega)]; congr 1; omega
    rw [this, bind_some, shr_nat _ _ (by omega)]
    unfold belowB
    congr 1
    apply decide_eq_decide.2
    constructor
    · intro h3; exact ⟨by omega, by omega⟩
    · intro h3; omega
theorem rbelow_loop {v : Nat} (hv : 1 ≤ v) : ∀ (f w : Nat), 1 ≤ w → w < 9223372036854775808 → Nat.log2 w < f → fixN (ref03_Below_L1 (v : Int)) f (w : Int) = some (belowB w v)
  | 0, w, _, _, h => by omega
  | f + 1, w, hw, hw2, hf => by
    rw [fix_step]; simp only [ref03_Below_L1]
    by_cases h : v < w
    · have hh := log2_half (n := w) (by omega)
      rw [if_pos (by omega), quo2 w hw2, bind_some, rbelow_loop hv f (w / 2) (by omega) (by omega) (by omega), belowB_step hv h]
    · rw [if_neg (by omega), belowB_le hw (by omega)]
      congr 1
      apply decide_eq_decide.2; omega
theorem rbelow_eq {w v : Nat} (hw : 1 ≤ w) (hv : 1 ≤ v) (hw2 : w < 9223372036854775808) : ref03_Below (w : Int) (v : Int) = some (belowB w v) := by
  have := log2_le62 hw2
  exact rbelow_loop hv FUEL w hw hw2 (fuel_lt (by omega))
/-! sizes -/
def strd (d : Nat) : Nat := if d ≤ 1 then 1 else if d ≤ 4 then 2 else 3
theorem strd_pos (d : Nat) : 1 ≤ strd d := by unfold strd; split; omega; split <;> omega
theorem recv_fin : ∀ d : Fin 7, ref03_Receivers (d.1 : Int) = some ((2 ^ d.1 : Nat) : Int) := by decide +kernel
theorem recv_eq {d : Nat} (h : d ≤ 6) : ref03_Receivers (d : Int) = some ((2 ^ d : Nat) : Int) := recv_fin ⟨d, by omega⟩
theorem stride_fin : ∀ d : Fin 7, ref03_Stride (d.1 : Int) = some ((strd d.1 : Nat) : Int) := by decide +kernel
theorem rstride_eq {d : Nat} (h : d ≤ 6) : ref03_Stride (d : Int) = some ((strd d : Nat) : Int) := stride_fin ⟨d, by omega⟩
theorem pow_le64 {d : Nat} (h : d ≤ 6) : 2 ^ d ≤ 64 := Nat.le_trans (Nat.pow_le_pow_right (by omega) h) (by decide)
theorem shl1 {d : Nat} (h : d ≤ 6) : shlI 1 d = ((2 ^ d : Nat) : Int) := by
  have := pow_le64 h
  unfold shlI
  rw [Nat.min_eq_left (by omega), Int.one_mul, show (2 : Int) ^ d = ((2 ^ d : Nat) : Int) from by rw [Int.natCast_pow]; rfl]
  generalize 2 ^ d = m at *
  exact w64_id (by omega) (by omega)
theorem shG_nat (n : Nat) : shG (n : Int) = some n := by unfold shG; rw [if_pos (by omega)]; rfl
theorem size_eq {k : BitVec 8} {d : Nat} {st : Int} (h : d ≤ 6) : cover_tree_size ⟨k, (d : Int), st⟩ = some ((2 ^ d : Nat) : Int) := by
  unfold cover_tree_size
  rw [shG_nat, bind_some, shl1 h]
def hasN (d : Nat) (v : Int) : Bool := decide (1 ≤ v ∧ v < 2 * (2 ^ d : Nat))
theorem has_eq {k : BitVec 8} {d : Nat} {st v : Int} (h : d ≤ 6) : cover_tree_has ⟨k, (d : Int), st⟩ v = some (hasN d v) := by
  have := pow_le64 h
  unfold cover_tree_has hasN
  by_cases h1 : 1 ≤ v
  · rw [if_pos h1, size_eq h, bind_some]
    generalize 2 ^ d = m at *
    rw [w64_id (by omega) (by omega)]
    congr 1; apply decide_eq_decide.2; omega
  · rw [if_neg h1]; congr 1; symm; apply decide_eq_false; omega
theorem node_eq {d : Nat} {v : Int} (h : d ≤ 6) : ref03_Node (d : Int) v = some (hasN d v) := by
  have := pow_le64 h
  unfold ref03_Node hasN
  by_cases h1 : 1 ≤ v
  · rw [if_pos h1, recv_eq h, bind_some]
    generalize 2 ^ d = m at *
    rw [w64_id (by omega) (by omega)]
    congr 1; apply decide_eq_decide.2; omega
  · rw [if_neg h1]; congr 1; symm; apply decide_eq_false; omega
theorem hasN_nat {d : Nat} {v : Int} (hd : d ≤ 6) (h : hasN d v = true) : ∃ n : Nat, v = (n : Int) ∧ 1 ≤ n ∧ n < 128 := by
  have := pow_le64 hd
  unfold hasN at h
  generalize 2 ^ d = m at *
  have := of_decide_eq_true h
  exact ⟨v.toNat, by omega, by omega, by omega⟩
/-! special nodes -/
def spcl (d v : Nat) : Bool := decide (Nat.log2 v % strd d = 0)
theorem rem_nat (a b : Nat) (hb : 1 ≤ b) : remI (a : Int) (b : Int) = some ((a % b : Nat) : Int) := by
  unfold remI
  rw [if_neg (by omega), Int.tmod_eq_emod_of_nonneg (by omega), Int.natCast_emod]
theorem special_eq {k : BitVec 8} {d v : Nat} (hv : 1 ≤ v) (hv2 : v < 9223372036854775808) : cover_tree_special ⟨k, (d : Int), (strd d : Int)⟩ (v : Int) = some (spcl d v) := by
  unfold cover_tree_special spcl
  rw [level_eq hv hv2, bind_some, rem_nat _ _ (strd_pos d), bind_some]
  congr 1; apply decide_eq_decide.2; omega
theorem rspecial_eq {d v : Nat} (hd : d ≤ 6) (hv2 : v < 9223372036854775808) : ref03_Special (d : Int) (v : Int) = some (spcl d v) := by
  unfold ref03_Special spcl
  rw [rlevel_eq hv2, bind_some, rstride_eq hd, bind_some, rem_nat _ _ (strd_pos d), bind_some]
  congr 1; apply decide_eq_decide.2; omega
/-! paths -/
/-- the k nodes down to w -/
def pathN (w : Nat) : Nat → List Nat
  | 0 => []
  | k + 1 => w / 2 ^ k :: pathN w k
theorem pathN_snoc (w k : Nat) : pathN w (k + 1) = pathN (w / 2) k ++ [w] := by
  induction k with
  | zero => simp [pathN]
  | succ k ih => rw [pathN, ih, pathN, List.cons_append, Nat.div_div_eq_div_mul, Nat.pow_succ, Nat.mul_comm 2]
theorem pathN_len (w k : Nat) : (pathN w k).length = k := by
  induction k with
  | zero => rfl
  | succ k ih => simp [pathN, ih]
theorem pathN_bd {w k n : Nat} (hk : 2 ^ k ≤ w) (h : n ∈ pathN w k) : 1 ≤ n ∧ n ≤ w := by
  induction k with
  | zero => cases h
  | succ k ih =>
    have hk' : 2 ^ k ≤ w := by rw [Nat.pow_succ] at hk; omega
    rcases List.mem_cons.1 h with rfl | h
    · exact ⟨(Nat.le_div_iff_mul_le (Nat.two_pow_pos k)).2 (by omega), Nat.div_le_self _ _⟩
    · exact ih hk' h
theorem log2_divk {w k : Nat} (hk : 2 ^ k ≤ w) : Nat.log2 (w / 2 ^ k) = Nat.log2 w - k := by have := log2_div w k hk; omega
theorem div_pos' {w k : Nat} (hk : 2 ^ k ≤ w) : 1 ≤ w / 2 ^ k := (Nat.le_div_iff_mul_le (Nat.two_pow_pos k)).2 (by omega)
theorem toward_eq {w k : Nat} (hk : 2 ^ (k + 1) ≤ w) (hw : w < 9223372036854775808) : cover_node_toward ((w / 2 ^ (k + 1) : Nat) : Int) (w : Int) = some ((w / 2 ^ k : Nat) : Int) := by
  have hp := Nat.two_pow_pos (k + 1)
  have l1 := log2_le62 hw
  have hl := log2_div w (k + 1) hk
  unfold cover_node_toward
  rw [level_eq (by omega) hw, bind_some, level_eq (div_pos' hk) (Nat.lt_of_le_of_lt (Nat.div_le_self _ _) hw), bind_some, w64_id (n := (Nat.log2 w : Int) - (Nat.log2 (w / 2 ^ (k + 1)) : Int)) (by omega) (by omega), w64_id (by omega) (by omega)]
  rw [show (Nat.log2 w : Int) - (Nat.log2 (w / 2 ^ (k + 1)) : Int) - 1 = ((k : Nat) : Int) from by omega, shG_nat, bind_some, shr_nat _ _ (by omega)]
theorem path_loop {w : Nat} (hw : w < 9223372036854775808) : ∀ (k f : Nat), k < f → 2 ^ k ≤ w → fixN (cover_path_1_L1 (w : Int)) f ((w / 2 ^ k : Nat) : Int) = some ((pathN w k).map Int.ofNat)
  | k, 0, h, _ => by omega
  | 0, f + 1, _, _ => by
    rw [fix_step]; simp only [cover_path_1_L1]
    rw [if_neg (by simp)]; rfl
  | k + 1, f + 1, h, hk => by
    rw [fix_step]; simp only [cover_path_1_L1]
    have h1 : w / 2 ^ (k + 1) < w := Nat.div_lt_self (by have := Nat.two_pow_pos (k + 1); omega) (Nat.one_lt_two_pow (by omega))
    rw [if_pos (by omega), toward_eq hk hw, bind_some, path_loop hw k f (by omega) (by rw [Nat.pow_succ] at hk; omega)]
    rfl
theorem path_eq {w k : Nat} (hw : w < 9223372036854775808) (hk : 2 ^ k ≤ w) (hk2 : k ≤ 64) : cover_path_1 ((w / 2 ^ k : Nat) : Int) (w : Int) = some ((pathN w k).map Int.ofNat) := path_loop hw k FUEL (fuel_lt (by omega)) hk
theorem divk_ne {w j k : Nat} (hk : 2 ^ k ≤ w) (hj : j < k) : w / 2 ^ j ≠ w / 2 ^ k := fun e => by
  have h1 := log2_divk hk
  have h2 := log2_divk (w := w) (k := j) (Nat.le_trans (Nat.pow_le_pow_right (by omega) (by omega)) hk)
  have h3 := log2_div w k hk
  rw [e] at h2; omega
theorem rpath_loop {w k : Nat} (hw : w < 9223372036854775808) (hk : 2 ^ k ≤ w) (hk2 : k ≤ 64) : ∀ (m j f : Nat), j + m = k → m < f → fixN (ref03_Path_L1 ((w / 2 ^ k : Nat) : Int)) f (((w / 2 ^ j : Nat) : Int), (pathN w j).map Int.ofNat) = some (((w / 2 ^ k : Nat) : Int) :: (pathN w k).map Int.ofNat)
  | m, j, 0, _, h => by omega
  | 0, j, f + 1, hj, _ => by
    obtain rfl : j = k := by omega
    rw [fix_step]; simp only [ref03_Path_L1]
    rw [if_neg (by simp), appG_some (by simp [pathN_len]; omega), bind_some]; rfl
  | m + 1, j, f + 1, hj, hf => by
    rw [fix_step]; simp only [ref03_Path_L1]
    have hne := divk_ne hk (show j < k by omega)
    have hlt : w / 2 ^ j < 9223372036854775808 := Nat.lt_of_le_of_lt (Nat.div_le_self _ _) hw
    rw [if_pos (by omega), appG_some (by simp [pathN_len]; omega), bind_some, quo2 _ hlt, bind_some, Nat.div_div_eq_div_mul, ← Nat.pow_succ]
    exact rpath_loop hw hk hk2 m (j + 1) f (by omega) (by omega)
theorem rpath_eq {w k : Nat} (hw : w < 9223372036854775808) (hk : 2 ^ k ≤ w) (hk2 : k ≤ 64) : ref03_Path ((w / 2 ^ k : Nat) : Int) (w : Int) = some (((w / 2 ^ k : Nat) : Int) :: (pathN w k).map Int.ofNat) := by
  have := rpath_loop hw hk hk2 k 0 FUEL (by omega) (fuel_lt (by omega))
  rw [Nat.pow_zero, Nat.div_one] at this
  exact this
end Go.Sx

end
section
/- Schemes and subsets: the mirrors of both sides come to the same. -/
set_option linter.unusedVariables false
set_option linter.unusedSimpArgs false
namespace Go.Sx
open Go

def zG : TGroup := TGroup.mk 0#64 0#64 0#64
def vldB (s : TScheme) : Bool := decide (1#8 ≤ s.Kind ∧ s.Kind ≤ 3#8 ∧ 0 ≤ s.Depth ∧ s.Depth ≤ 6 ∧ s.Degree = 0 ∧ s.Group = zG)
theorem valid_eq (s : TScheme) : ref03_Valid s = some (vldB s) := by
  unfold ref03_Valid vldB zG
  by_cases h1 : 1#8 ≤ s.Kind
  · by_cases h2 : s.Kind ≤ 3#8
    · by_cases h3 : 0 ≤ s.Depth
      · by_cases h4 : s.Depth ≤ 6
        · by_cases h5 : s.Degree = 0
          · simp [h1, h2, h3, h4, h5]
          · simp [h1, h2, h3, h4, h5]
        · simp [h1, h2, h3, h4]
      · simp [h1, h2, h3]
    · simp [h1, h2]
  · simp [h1]
theorem vld_depth {s : TScheme} (h : vldB s = true) : ∃ d : Nat, s.Depth = (d : Int) ∧ d ≤ 6 := by
  unfold vldB at h
  have := of_decide_eq_true h
  exact ⟨s.Depth.toNat, by omega, by omega⟩
theorem treeOf_step (s : TScheme) (n : Nat) (a : Int) : fixN (cover_treeOf_L2 s) (n + 1) a = if w64 (a * a) < s.Depth then fixN (cover_treeOf_L2 s) n (w64 (a + 1)) else some (Tcover_tree.mk s.Kind s.Depth a, true) := rfl
theorem treeOf_loop (s : TScheme) {d : Nat} (hd : s.Depth = (d : Int)) (h : d ≤ 6) : fixN (cover_treeOf_L2 s) FUEL 1 = some (Tcover_tree.mk s.Kind (d : Int) (strd d : Int), true) := by
  have e1 : w64 (1 * 1) = 1 := by decide
  have e2 : w64 (1 + 1) = 2 := by decide
  have e3 : w64 (2 * 2) = 4 := by decide
  have e4 : w64 (2 + 1) = 3 := by decide
  have e5 : w64 (3 * 3) = 9 := by decide
  rw [show FUEL = 18446744073709551613 + 3 from rfl, treeOf_step, e1, e2, hd]
  unfold strd
  by_cases h1 : d ≤ 1
  · rw [if_neg (by omega), if_pos h1, ← hd]; rfl
  · rw [if_pos (by omega), if_neg h1, show 18446744073709551613 + 2 = 18446744073709551614 + 1 from rfl, treeOf_step, e3, e4, hd]
    by_cases h2 : d ≤ 4
    · rw [if_neg (by omega), if_pos h2, ← hd]; rfl
    · rw [if_pos (by omega), if_neg h2, show 18446744073709551614 = 18446744073709551613 + 1 from rfl, treeOf_step, e5, hd, if_neg (by omega), ← hd]; rfl
def treeI (s : TScheme) : Tcover_tree := Tcover_tree.mk s.Kind s.Depth (strd s.Depth.toNat : Int)
theorem treeOf_eq (s : TScheme) : cover_treeOf s = some (if vldB s then (treeI s, true) else (Tcover_tree.mk 0#8 0 0, false)) := by
  unfold cover_treeOf cover_treeOf_J1
  by_cases hv : vldB s = true
  · rw [if_pos hv]
    obtain ⟨d, hd, h6⟩ := vld_depth hv
    unfold vldB at hv
    obtain ⟨h1, h2, h3, h4, h5, h7⟩ := of_decide_eq_true hv
    have hs : s = TScheme.mk s.Kind s.Depth 0 (TGroup.mk 0#64 0#64 0#64) := by cases s; simp only at *; rw [h5, h7]; rfl
    rw [if_neg (by rw [BitVec.not_lt]; exact h1), if_neg (by rw [BitVec.not_lt]; exact h2), if_neg (by omega), if_neg (by omega), decide_eq_false (by simpa using hs)]
    simp only [cond_false]
    rw [treeOf_loop s hd h6]
    unfold treeI
    rw [hd, Int.toNat_natCast]
  · rw [if_neg hv]
    have hn : ¬ (1#8 ≤ s.Kind ∧ s.Kind ≤ 3#8 ∧ 0 ≤ s.Depth ∧ s.Depth ≤ 6 ∧ s.Degree = 0 ∧ s.Group = zG) := fun h => hv (by unfold vldB; exact decide_eq_true h)
    by_cases h1 : s.Kind < 1#8
    · rw [if_pos h1]; rfl
    · rw [if_neg h1]
      by_cases h2 : 3#8 < s.Kind
      · rw [if_pos h2]; rfl
      · rw [if_neg h2]
        by_cases h3 : s.Depth < 0
        · rw [if_pos h3]; rfl
        · rw [if_neg h3]
          by_cases h4 : (6 : Int) < s.Depth
          · rw [if_pos h4]; rfl
          · rw [if_neg h4, decide_eq_true (p := s ≠ _)]
            · rfl
            · intro hs
              refine hn ⟨BitVec.not_lt.1 h1, BitVec.not_lt.1 h2, by omega, by omega, ?_, ?_⟩
              · rw [hs]
              · rw [hs]; rfl
/-! the first special node -/
def fstS (d : Nat) (l : List Nat) : Nat := (l.find? (spcl d)).getD 0
theorem first_eq {k : BitVec 8} {d : Nat} : ∀ (l : List Nat), (∀ n ∈ l, 1 ≤ n ∧ n < 9223372036854775808) →
    itL (cover_first_cover_path_1_cover_tree_special_R1 ⟨k, (d : Int), (strd d : Int)⟩) cover_first_cover_path_1_cover_tree_special_D1 (l.map Int.ofNat) 0 = some ((fstS d l : Nat) : Int)
  | [], _ => rfl
  | a :: l, h => by
    rw [List.map_cons, itL_cons]
    simp only [cover_first_cover_path_1_cover_tree_special_R1]
    have ha := h a (by simp)
    rw [show (Int.ofNat a) = (a : Int) from rfl, special_eq ha.1 ha.2, bind_some]
    unfold fstS
    rw [List.find?_cons]
    cases hs : spcl d a with
    | true => rfl
    | false => exact first_eq l (fun n hn => h n (by simp [hn]))
theorem between_loop {d : Nat} (hd : d ≤ 6) (v m : Nat) (l : List Nat) (hl : l.length ≤ 64) (hb : ∀ n ∈ l, n < 9223372036854775808) : ∀ (r : List Nat) (j f : Nat), j + r.length = l.length → l.drop j = r → r.length < f →
    fixN (ref03_between_L1 (d : Int) ((v : Int) :: (l ++ [m]).map Int.ofNat)) f ((j + 1 : Nat) : Int) = some ((fstS d r : Nat) : Int)
  | r, j, 0, _, _, h => by omega
  | [], j, f + 1, hj, hr, _ => by
    rw [fix_step]; simp only [ref03_between_L1]
    rw [w64_id (by simp; omega) (by simp; omega), if_neg (by simp; simp at hj; omega)]; rfl
  | a :: r, j, f + 1, hj, hr, hf => by
    rw [fix_step]; simp only [ref03_between_L1]
    have hjl : j < l.length := by simp at hj; omega
    have ha : l[j] = a := by
      have := List.drop_eq_getElem_cons hjl; rw [hr] at this; exact (List.cons.inj this).1.symm
    have hr' : l.drop (j + 1) = r := by
      have := List.drop_eq_getElem_cons hjl; rw [hr] at this; exact (List.cons.inj this).2.symm
    have hg : getI ((v : Int) :: (l ++ [m]).map Int.ofNat) ((j + 1 : Nat) : Int) = some (a : Int) := by
      rw [getI_some (by simp; omega)]
      simp only [List.map_append, List.getElem_cons_succ, List.getElem_append_left (show j < (l.map Int.ofNat).length by simpa using hjl), List.getElem_map, ha]; rfl
    rw [w64_id (by simp; omega) (by simp; omega), if_pos (by simp; omega), hg, bind_some, rspecial_eq hd (hb a (by rw [← ha]; exact List.getElem_mem hjl)), bind_some]
    unfold fstS
    rw [List.find?_cons]
    cases hs : spcl d a with
    | true => rfl
    | false =>
      simp only [cond_false]
      rw [w64_id (by simp at hj; omega) (by simp at hj; omega), show ((j + 1 : Nat) : Int) + 1 = ((j + 1 + 1 : Nat) : Int) from by omega]
      exact between_loop hd v m l hl hb r (j + 1) f (by simp at hj ⊢; omega) hr' (by simp at hf; omega)
theorem below_split {m n : Nat} (hm : 1 ≤ m) (hn : 1 ≤ n) (h : belowB m n = true) (hne : m ≠ n) : ∃ k, Nat.log2 m - Nat.log2 n = k + 1 ∧ n = m / 2 ^ (k + 1) ∧ 2 ^ (k + 1) ≤ m := by
  unfold belowB at h
  obtain ⟨h1, h2⟩ := of_decide_eq_true h
  have h3 : Nat.log2 m - Nat.log2 n ≠ 0 := fun e => by rw [e, Nat.pow_zero, Nat.div_one] at h2; exact hne h2
  refine ⟨Nat.log2 m - Nat.log2 n - 1, by omega, ?_, ?_⟩
  · rw [show Nat.log2 m - Nat.log2 n - 1 + 1 = Nat.log2 m - Nat.log2 n from by omega]; exact h2.symm
  · rw [show Nat.log2 m - Nat.log2 n - 1 + 1 = Nat.log2 m - Nat.log2 n from by omega]
    exact Nat.le_trans (Nat.pow_le_pow_right (by omega) (by omega)) (Nat.log2_self_le (by omega))
theorem half_pow {m k : Nat} (h : 2 ^ (k + 1) ≤ m) : 2 ^ k ≤ m / 2 := by rw [Nat.le_div_iff_mul_le (by omega)]; rw [Nat.pow_succ] at h; omega
theorem cut_eq {kd : BitVec 8} {d m k : Nat} (hm : m < 128) (hk : 2 ^ (k + 1) ≤ m) (hk2 : k ≤ 60) : cover_tree_cut ⟨kd, (d : Int), (strd d : Int)⟩ ((m / 2 ^ (k + 1) : Nat) : Int) (m : Int) = some ((fstS d (pathN (m / 2) k) : Nat) : Int) := by
  unfold cover_tree_cut cover_path cover_first_cover_path_1_cover_tree_special
  rw [show shG (un 1#64) = some 1 from by decide, bind_some, bind_some, shr_nat _ _ (by omega), Nat.pow_one]
  simp only
  have e : m / 2 ^ (k + 1) = m / 2 / 2 ^ k := by rw [Nat.div_div_eq_div_mul, Nat.pow_succ, Nat.mul_comm 2]
  have hp := half_pow hk
  rw [e, path_eq (by omega) hp (by omega), bind_some, first_eq _ (fun n hn => by have := pathN_bd hp hn; omega), bind_some]
theorem between_eq {d m k : Nat} (hd : d ≤ 6) (hm : m < 128) (hk : 2 ^ (k + 1) ≤ m) (hk2 : k ≤ 60) : ref03_between (d : Int) ((m / 2 ^ (k + 1) : Nat) : Int) (m : Int) = some ((fstS d (pathN (m / 2) k) : Nat) : Int) := by
  have hp := half_pow hk
  unfold ref03_between
  rw [rpath_eq (by omega) hk (by omega), bind_some, pathN_snoc]
  have := between_loop hd (m / 2 ^ (k + 1)) m (pathN (m / 2) k) (by rw [pathN_len]; omega) (fun n hn => by have := pathN_bd hp hn; omega) (pathN (m / 2) k) 0 FUEL (by omega) rfl (fuel_lt (by rw [pathN_len]; omega))
  exact this
theorem le_log {m k : Nat} (h : 2 ^ k ≤ m) (hm : m < 128) : k ≤ 6 := by
  have h1 := (Nat.le_log2 (n := m) (by have := Nat.two_pow_pos k; omega)).2 h
  have h2 : Nat.log2 m < 7 := (Nat.log2_lt (by have := Nat.two_pow_pos k; omega)).2 (by omega)
  omega
/-- what a subset is known to be -/
def SubOk (s : TScheme) (x : TSubset) : Prop := hasN s.Depth.toNat x.Node = true ∧ (s.Kind = 1#8 ∨ x.Minus = 0 ∨ (∃ m n k : Nat, x.Minus = (m : Int) ∧ x.Node = (n : Int) ∧ n = m / 2 ^ (k + 1) ∧ 2 ^ (k + 1) ≤ m ∧ m < 128 ∧ k ≤ 6 ∧ 1 ≤ n))
theorem subset_eq (s : TScheme) (hv : vldB s = true) (x : TSubset) : ∃ b, cover_tree_subset (treeI s) x = some b ∧ ref03_IsSubset s x = some b ∧ (b = true → SubOk s x) := by
  obtain ⟨d, hd, h6⟩ := vld_depth hv
  have ht : treeI s = ⟨s.Kind, (d : Int), (strd d : Int)⟩ := by unfold treeI; rw [hd, Int.toNat_natCast]
  rw [ht]
  unfold cover_tree_subset ref03_IsSubset
  rw [hd, has_eq h6, node_eq h6, bind_some, bind_some]
  have hno : false = true → SubOk s x := fun h => by cases h
  cases h1 : hasN d x.Node with
  | false => exact ⟨false, rfl, rfl, hno⟩
  | true =>
    have hsd : hasN s.Depth.toNat x.Node = true := by rw [hd, Int.toNat_natCast]; exact h1
    simp only [Bool.not_true, cond_false]
    obtain ⟨n, hn, hn1, hn2⟩ := hasN_nat h6 h1
    by_cases hk : s.Kind = 1#8
    · rw [if_pos hk, if_pos hk]
      unfold cover_tree_subset_J1
      rw [cond_true]
      by_cases hm : x.Minus = 0
      · rw [if_pos hm, if_pos hk]; exact ⟨true, rfl, by rw [decide_eq_true hm], fun _ => ⟨hsd, .inl hk⟩⟩
      · rw [if_neg hm]; exact ⟨false, rfl, by rw [decide_eq_false hm], hno⟩
    · rw [if_neg hk, if_neg hk]
      unfold cover_tree_subset_J1
      by_cases hm : x.Minus = 0
      · rw [decide_eq_true hm, cond_true, if_pos hm, if_neg hk, if_pos hm]
        exact ⟨_, rfl, rfl, fun _ => ⟨hsd, .inr (.inl hm)⟩⟩
      · rw [decide_eq_false hm, cond_false, if_neg hm, has_eq h6, node_eq h6, bind_some, bind_some]
        have hf : ∃ b, cover_tree_subset_J2 ⟨s.Kind, (d : Int), (strd d : Int)⟩ x true = some b ∧ ref03_IsSubset_J1 s x true = some b ∧ (b = true → SubOk s x) := ⟨false, rfl, rfl, hno⟩
        cases h2 : hasN d x.Minus with
        | false => exact hf
        | true =>
          rw [Bool.not_true, cond_false, cond_false]
          obtain ⟨m, hm1, hm2, hm3⟩ := hasN_nat h6 h2
          by_cases he : x.Minus = x.Node
          · rw [if_pos he, if_pos he]; exact hf
          · have e1 : cover_node_below x.Minus x.Node = some (belowB m n) := by rw [hm1, hn]; exact below_eq hm2 hn1 (by omega) (by omega)
            have e2 : ref03_Below x.Minus x.Node = some (belowB m n) := by rw [hm1, hn]; exact rbelow_eq hm2 hn1 (by omega)
            rw [if_neg he, if_neg he, e1, e2, bind_some, bind_some]
            cases h3 : belowB m n with
            | false => exact hf
            | true =>
              obtain ⟨k, hk0, hk1, hk2⟩ := below_split hm2 hn1 h3 (by omega)
              have hkl := le_log hk2 hm3
              have hok : ∀ b : Bool, b = true → SubOk s x := fun b _ => ⟨hsd, .inr (.inr ⟨m, n, k, hm1, hn, hk1, hk2, hm3, by omega, hn1⟩)⟩
              unfold cover_tree_subset_J2 ref03_IsSubset_J1
              rw [Bool.not_true, cond_false, cond_false]
              by_cases hk3 : s.Kind = 2#8
              · rw [if_pos hk3, if_pos hk3]; exact ⟨true, rfl, rfl, hok true⟩
              · have e3 : cover_tree_special ⟨s.Kind, (d : Int), (strd d : Int)⟩ x.Node = some (spcl d n) := by rw [hn]; exact special_eq hn1 (by omega)
                have e4 : ref03_Special s.Depth x.Node = some (spcl d n) := by rw [hn, hd]; exact rspecial_eq h6 (by omega)
                rw [if_neg hk3, if_neg hk3, e3, e4, bind_some, bind_some]
                cases hs : spcl d n with
                | true => exact ⟨true, rfl, rfl, hok true⟩
                | false =>
                  rw [cond_false, cond_false]
                  have e5 : cover_tree_cut ⟨s.Kind, (d : Int), (strd d : Int)⟩ x.Node x.Minus = some ((fstS d (pathN (m / 2) k) : Nat) : Int) := by rw [hn, hm1, hk1]; exact cut_eq hm3 hk2 (by omega)
                  have e6 : ref03_between s.Depth x.Node x.Minus = some ((fstS d (pathN (m / 2) k) : Nat) : Int) := by rw [hn, hm1, hd, hk1]; exact between_eq h6 hm3 hk2 (by omega)
                  rw [e5, e6, bind_some]
                  exact ⟨_, rfl, rfl, hok _⟩
end Go.Sx

end
section
/- Keys: the mirrors of both sides come to the same. -/
set_option linter.unusedVariables false
set_option linter.unusedSimpArgs false
namespace Go.Sx
open Go

/-- the label of a child -/
def stp (k : W2) (n : Nat) : W2 := if n % 2 = 1 then drv k (un8 32#8) 0#64 else drv k (un8 31#8) 0#64
theorem desc_eq : ∀ (l : List Nat) (k : W2), itL cover_descend_R1 cover_descend_D1 (l.map Int.ofNat) k = some (l.foldl stp k)
  | [], k => rfl
  | a :: l, k => by
    rw [List.map_cons, itL_cons]
    simp only [cover_descend_R1, cover_descend_J2]
    rw [show (Int.ofNat a) = (a : Int) from rfl, show (2 : Int) = ((2 : Nat) : Int) from rfl, rem_nat a 2 (by omega), bind_some, List.foldl_cons]
    unfold stp
    by_cases h : a % 2 = 1
    · rw [if_pos (by omega), if_pos h]; exact desc_eq l _
    · rw [if_neg (by omega), if_neg h]; exact desc_eq l _
theorem descend_eq {w k : Nat} (key : W2) (hw : w < 9223372036854775808) (hk : 2 ^ k ≤ w) (hk2 : k ≤ 64) : cover_descend key ((w / 2 ^ k : Nat) : Int) (w : Int) = some ((pathN w k).foldl stp key) := by
  unfold cover_descend cover_path
  rw [bind_some]
  simp only
  rw [path_eq hw hk hk2, bind_some, desc_eq]
theorem step_eq (k : W2) (n : Nat) : ref03_step k (n : Int) = some (stp k n) := by
  unfold ref03_step stp
  rw [show (2 : Int) = ((2 : Nat) : Int) from rfl, rem_nat n 2 (by omega), bind_some]
  by_cases h : n % 2 = 1
  · rw [if_neg (by omega), if_pos h]
  · rw [if_pos (by omega), if_neg h]
theorem down_loop (v : Int) (l : List Nat) (hl : l.length ≤ 1000) : ∀ (r : List Nat) (j f : Nat) (k : W2), j + r.length = l.length → l.drop j = r → r.length < f → fixN (ref03_down_L1 (v :: l.map Int.ofNat)) f (((j + 1 : Nat) : Int), k) = some (r.foldl stp k)
  | r, j, 0, k, _, _, h => by omega
  | [], j, f + 1, k, hj, hr, _ => by
    rw [fix_step]; simp only [ref03_down_L1]
    rw [if_neg (by simp at hj ⊢; omega)]; rfl
  | a :: r, j, f + 1, k, hj, hr, hf => by
    rw [fix_step]; simp only [ref03_down_L1]
    have hjl : j < l.length := by simp at hj; omega
    have ha : l[j] = a := by
      have := List.drop_eq_getElem_cons hjl; rw [hr] at this; exact (List.cons.inj this).1.symm
    have hr' : l.drop (j + 1) = r := by
      have := List.drop_eq_getElem_cons hjl; rw [hr] at this; exact (List.cons.inj this).2.symm
    have hg : getI (v :: l.map Int.ofNat) ((j + 1 : Nat) : Int) = some (a : Int) := by
      rw [getI_some (by simp; omega)]
      simp only [List.getElem_cons_succ, List.getElem_map, ha]; rfl
    rw [if_pos (by simp; omega), hg, bind_some, step_eq, bind_some, w64_id (by simp at hj; omega) (by simp at hj; omega), show ((j + 1 : Nat) : Int) + 1 = ((j + 1 + 1 : Nat) : Int) from by omega, List.foldl_cons]
    exact down_loop v l hl r (j + 1) f _ (by simp at hj ⊢; omega) hr' (by simp at hf; omega)
theorem down_eq {w k : Nat} (key : W2) (hw : w < 9223372036854775808) (hk : 2 ^ k ≤ w) (hk2 : k ≤ 64) : ref03_down key ((w / 2 ^ k : Nat) : Int) (w : Int) = some ((pathN w k).foldl stp key) := by
  unfold ref03_down
  rw [rpath_eq hw hk hk2, bind_some]
  exact down_loop _ (pathN w k) (by rw [pathN_len]; omega) (pathN w k) 0 FUEL key (by omega) rfl (fuel_lt (by rw [pathN_len]; omega))
/-- the key of a subset -/
theorem key_eq2 (root : W2) (s : TScheme) (x : TSubset) (h : SubOk s x) : ∃ k, cover_tree_key (treeI s) root x = some k ∧ ref03_KeyOf root s x = some k := by
  unfold cover_tree_key ref03_KeyOf cover_nodeKey ref03_label
  have ht : (treeI s).kind = s.Kind := rfl
  rw [ht]
  by_cases h1 : s.Kind = 1#8
  · rw [if_pos h1, if_pos h1]; exact ⟨_, rfl, rfl⟩
  · rw [if_neg h1, if_neg h1]
    by_cases h2 : x.Minus = 0
    · rw [if_pos h2, if_pos h2]; exact ⟨_, rfl, rfl⟩
    · rw [if_neg h2, if_neg h2]
      rcases h.2 with h3 | h3 | ⟨m, n, k, hm, hn, hk, hk2, hm2, hk3, hn1⟩
      · exact absurd h3 h1
      · exact absurd h3 h2
      · rw [hm, hn, hk, bind_some, descend_eq _ (by omega) hk2 (by omega), down_eq _ (by omega) hk2 (by omega), bind_some, bind_some]
        exact ⟨_, rfl, rfl⟩
end Go.Sx

end
section
/- Comparisons with oneself. -/
set_option linter.unusedVariables false
set_option linter.unusedSimpArgs false
namespace Go.Sx
open Go

/-! the same header -/
theorem same3 (p : THeader) (hn : p.Points.length < 4611686018427387904) : ∀ (m i fuel : Nat), p.Points.length - i = m → i ≤ p.Points.length → m < fuel → fixN (ref03_SameHeader_L3 p p) fuel (i : Int) = some true
  | m, i, 0, _, _, hf => by omega
  | 0, i, fuel + 1, hm, hi, hf => by rw [fix_step]; simp only [ref03_SameHeader_L3]; rw [if_neg (by omega)]
  | m + 1, i, fuel + 1, hm, hi, hf => by
    rw [fix_step]; simp only [ref03_SameHeader_L3]
    rw [if_pos (by omega), getI_some (by omega), bind_some, bind_some, if_neg (by simp), w64_id (by omega) (by omega)]
    exact same3 p hn m (i + 1) fuel (by omega) (by omega) (by omega)
theorem same2 (p : THeader) (hi' : p.Items.length < 4611686018427387904) (hn : p.Points.length < 4611686018427387904) : ∀ (m i fuel : Nat), p.Items.length - i = m → i ≤ p.Items.length → m < fuel → fixN (ref03_SameHeader_L2 p p) fuel (i : Int) = some true
  | m, i, 0, _, _, hf => by omega
  | 0, i, fuel + 1, hm, hi, hf => by
    rw [fix_step]; simp only [ref03_SameHeader_L2]; rw [if_neg (by omega)]
    exact same3 p hn _ 0 FUEL rfl (by omega) (fuel_lt (by omega))
  | m + 1, i, fuel + 1, hm, hi, hf => by
    rw [fix_step]; simp only [ref03_SameHeader_L2]
    rw [if_pos (by omega), getI_some (by omega), bind_some, bind_some, if_neg (by simp), w64_id (by omega) (by omega)]
    exact same2 p hi' hn m (i + 1) fuel (by omega) (by omega) (by omega)
theorem same_self (p : THeader) (hi : p.Items.length < 4611686018427387904) (hn : p.Points.length < 4611686018427387904) : ref03_SameHeader p p = some true := by
  unfold ref03_SameHeader ref03_SameHeader_J1
  simp only [ne_eq, not_true_eq_false, if_false, decide_false, cond_false]
  exact same2 p hi hn _ 0 FUEL rfl (by omega) (fuel_lt (by omega))
theorem sameS_loop (l : List TSubset) (hl : l.length < 4611686018427387904) : ∀ (m i fuel : Nat), l.length - i = m → i ≤ l.length → m < fuel → fixN (ref03_SameSubsets_L1 l l) fuel (i : Int) = some true
  | m, i, 0, _, _, hf => by omega
  | 0, i, fuel + 1, hm, hi, hf => by rw [fix_step]; simp only [ref03_SameSubsets_L1]; rw [if_neg (by omega)]
  | m + 1, i, fuel + 1, hm, hi, hf => by
    rw [fix_step]; simp only [ref03_SameSubsets_L1]
    rw [if_pos (by omega), getI_some (by omega), bind_some, bind_some, if_neg (by simp), w64_id (by omega) (by omega)]
    exact sameS_loop l hl m (i + 1) fuel (by omega) (by omega) (by omega)
theorem sameS_self (l : List TSubset) (hl : l.length < 4611686018427387904) : ref03_SameSubsets l l = some true := by
  unfold ref03_SameSubsets
  rw [if_neg (by simp)]
  exact sameS_loop l hl _ 0 FUEL rfl (by omega) (fuel_lt (by omega))
end Go.Sx

end
section
/- Members of subsets: the mirrors of both sides come to the same. -/
set_option linter.unusedVariables false
set_option linter.unusedSimpArgs false
namespace Go.Sx
open Go

/-- whether a leaf is below Node and not below Minus -/
def memB (leaf : Nat) (v w : Nat) : Bool := belowB leaf v && (decide (w = 0) || !belowB leaf w)
/-- a subset's nodes as numbers -/
def SubN (s : TScheme) (x : TSubset) (n m : Nat) : Prop := x.Node = (n : Int) ∧ x.Minus = (m : Int) ∧ 1 ≤ n ∧ n < 128 ∧ m < 128
theorem subB_minus (s : TScheme) (hv : vldB s = true) (x : TSubset) (h : ref03_IsSubset s x = some true) : ∃ n m : Nat, SubN s x n m := by
  obtain ⟨d, hd, h6⟩ := vld_depth hv
  unfold ref03_IsSubset at h
  rw [hd, node_eq h6, bind_some] at h
  cases h1 : hasN d x.Node with
  | false => rw [h1] at h; simp at h
  | true =>
    obtain ⟨n, hn, hn1, hn2⟩ := hasN_nat h6 h1
    rw [h1] at h
    simp only [Bool.not_true, cond_false] at h
    by_cases hm : x.Minus = 0
    · exact ⟨n, 0, hn, by simpa using hm, hn1, hn2, by omega⟩
    · by_cases hk : s.Kind = 1#8
      · rw [if_pos hk, decide_eq_false hm] at h; simp at h
      · rw [if_neg hk, if_neg hm, node_eq h6, bind_some] at h
        cases h2 : hasN d x.Minus with
        | false => rw [h2] at h; simp [ref03_IsSubset_J1] at h
        | true =>
          obtain ⟨m, hm1, hm2, hm3⟩ := hasN_nat h6 h2
          exact ⟨n, m, hn, hm1, hn1, hn2, hm3⟩
theorem below0 (a : Int) : cover_node_below a 0 = some false := by
  unfold cover_node_below cover_node_below_J1
  by_cases h : a < 1
  · rw [if_pos h]; rfl
  · rw [if_neg h, if_pos (by omega)]; rfl
theorem leaf_eq {k : BitVec 8} {d u : Nat} {st : Int} (h : d ≤ 6) (hu : u < 128) : cover_tree_leaf ⟨k, (d : Int), st⟩ (u : Int) = some ((2 ^ d + u : Nat) : Int) := by
  have := pow_le64 h
  unfold cover_tree_leaf
  rw [size_eq h, bind_some]
  generalize 2 ^ d = m at *
  rw [w64_id (by omega) (by omega)]; congr 1
theorem member_eq {kd : BitVec 8} {d u n m : Nat} {st : Int} (h6 : d ≤ 6) (hu : u < 128) {x : TSubset} {s : TScheme} (hx : SubN s x n m) : cover_tree_member ⟨kd, (d : Int), st⟩ x (u : Int) = some (memB (2 ^ d + u) n m) := by
  obtain ⟨hn, hm, hn1, hn2, hm2⟩ := hx
  have h64 := pow_le64 h6
  have hp := Nat.two_pow_pos d
  unfold cover_tree_member memB
  rw [leaf_eq h6 hu, bind_some, hn, below_eq (by omega) hn1 (by omega) (by omega), bind_some]
  cases belowB (2 ^ d + u) n with
  | false => rfl
  | true =>
    rw [cond_true, hm]
    by_cases hm0 : m = 0
    · subst hm0; rw [show ((0 : Nat) : Int) = 0 from rfl, below0, bind_some]; rfl
    · rw [below_eq (by omega) (by omega) (by omega) (by omega), bind_some, decide_eq_false hm0]; rfl
theorem rhas_eq {s : TScheme} {d u n m : Nat} (hd : s.Depth = (d : Int)) (h6 : d ≤ 6) (hu : u < 128) {x : TSubset} (hx : SubN s x n m) : ref03_Has s x (u : Int) = some (memB (2 ^ d + u) n m) := by
  obtain ⟨hn, hm, hn1, hn2, hm2⟩ := hx
  have h64 := pow_le64 h6
  have hp := Nat.two_pow_pos d
  unfold ref03_Has memB
  rw [hd, recv_eq h6, bind_some]
  have e : w64 (((2 ^ d : Nat) : Int) + (u : Int)) = ((2 ^ d + u : Nat) : Int) := by
    generalize 2 ^ d = q at *
    rw [w64_id (by omega) (by omega)]; omega
  rw [e, hn, rbelow_eq (by omega) hn1 (by omega), bind_some]
  cases belowB (2 ^ d + u) n with
  | false => rfl
  | true =>
    rw [cond_true, hm]
    by_cases hm0 : m = 0
    · subst hm0; rw [if_pos (by simp)]; rfl
    · rw [if_neg (by omega), rbelow_eq (by omega) (by omega) (by omega), bind_some, decide_eq_false hm0]; rfl
/-- the members -/
def memL (d n m : Nat) : List Int := ((List.range (2 ^ d)).filter fun u => memB (2 ^ d + u) n m).map fun u : Nat => (u : Int)
theorem members_eq {kd : BitVec 8} {d n m : Nat} {st : Int} (h6 : d ≤ 6) {x : TSubset} {s : TScheme} (hx : SubN s x n m) : cover_tree_members ⟨kd, (d : Int), st⟩ x = some (memL d n m) := by
  have h64 := pow_le64 h6
  unfold cover_tree_members
  rw [size_eq h6, bind_some]
  have := fix_range (2 ^ d) (cover_tree_members_L1 ⟨kd, (d : Int), st⟩ x ((2 ^ d : Nat) : Int)) (fun j (s : List Int) => (s, (j : Int)))
    (fun j nx s => bif memB (2 ^ d + j) n m then Option.bind (appG 8 s [(j : Int)]) nx else nx s) (fun s => some s)
    (fun rec j hj s => by
      simp only [cover_tree_members_L1]
      rw [if_pos (by omega), member_eq h6 (by omega) hx, bind_some, w64_nat (by omega)])
    (fun rec s => by simp only [cover_tree_members_L1]; rw [if_neg (by omega)]) (f := FUEL) (fuel_lt (by omega)) ([] : List Int)
  rw [show ((0 : Nat) : Int) = 0 from rfl] at this
  rw [this]
  exact (itL_app 8 0 (fun u => memB (2 ^ d + u) n m) (fun u : Nat => (u : Int)) _ _ _ _ (fun a _ nx s => rfl) (by simp; omega)).trans (by simp [memL])
theorem rmembers_eq {s : TScheme} {d n m : Nat} (hd : s.Depth = (d : Int)) (h6 : d ≤ 6) {x : TSubset} (hx : SubN s x n m) : ref03_MembersOf s x = some (memL d n m) := by
  have h64 := pow_le64 h6
  unfold ref03_MembersOf
  have := fix_range (2 ^ d) (ref03_MembersOf_L1 s x) (fun j (s : List Int) => (s, (j : Int)))
    (fun j nx s => bif memB (2 ^ d + j) n m then Option.bind (appG 8 s [(j : Int)]) nx else nx s) (fun s => some s)
    (fun rec j hj s' => by
      simp only [ref03_MembersOf_L1]
      rw [hd, recv_eq h6, bind_some, if_pos (by omega), rhas_eq hd h6 (by omega) hx, bind_some, w64_nat (by omega)])
    (fun rec s' => by simp only [ref03_MembersOf_L1]; rw [hd, recv_eq h6, bind_some, if_neg (by omega)]) (f := FUEL) (fuel_lt (by omega)) ([] : List Int)
  rw [show ((0 : Nat) : Int) = 0 from rfl] at this
  rw [this]
  exact (itL_app 8 0 (fun u => memB (2 ^ d + u) n m) (fun u : Nat => (u : Int)) _ _ _ _ (fun a _ nx s => rfl) (by simp; omega)).trans (by simp [memL])
theorem memL_len {d n m : Nat} (h6 : d ≤ 6) : (memL d n m).length ≤ 64 := by
  have := pow_le64 h6
  unfold memL
  rw [List.length_map]
  exact Nat.le_trans (List.length_filter_le _ _) (by simpa using this)
/-! both sides' way in -/
theorem enter0 (s : TScheme) : cover_enter s ([] : List TSubset) = some (if vldB s then (treeI s, 0) else (Tcover_tree.mk 0#8 0 0, 30)) := by
  unfold cover_enter
  rw [treeOf_eq, bind_some]
  cases hv : vldB s with
  | false => rfl
  | true => rfl
theorem enter1 (s : TScheme) (hv : vldB s = true) (x : TSubset) : ∃ b, cover_enter s [x] = some (if b then (treeI s, 0) else (Tcover_tree.mk 0#8 0 0, 31)) ∧ ref03_IsSubset s x = some b ∧ cover_tree_subset (treeI s) x = some b ∧ (b = true → SubOk s x ∧ ∃ n m, SubN s x n m) := by
  obtain ⟨b, e1, e2, e3⟩ := subset_eq s hv x
  refine ⟨b, ?_, e2, e1, fun h => ⟨e3 h, subB_minus s hv x (h ▸ e2)⟩⟩
  unfold cover_enter
  rw [treeOf_eq, bind_some, if_pos hv]
  show fixN (cover_enter_L1 [x] (treeI s, true)) (18446744073709551614 + 1 + 1) 0 = _
  rw [fix_step]; simp only [cover_enter_L1]
  rw [if_pos (by simp), show getI [x] 0 = some x from rfl, bind_some, e1, bind_some]
  cases b with
  | false => rfl
  | true => rfl
theorem enter1n (s : TScheme) (hv : vldB s = false) (x : TSubset) : cover_enter s [x] = some (Tcover_tree.mk 0#8 0 0, 30) := by
  unfold cover_enter
  rw [treeOf_eq, bind_some, hv]; rfl
theorem Members_eq (s : TScheme) (x : TSubset) : ∃ r, cover_Members s x = some r ∧ ref03_Members s x = some r ∧ r.1.length ≤ 64 := by
  unfold cover_Members ref03_Members
  rw [valid_eq, bind_some]
  cases hv : vldB s with
  | false => rw [enter1n s hv]; exact ⟨_, rfl, rfl, by simp⟩
  | true =>
    obtain ⟨b, e1, e2, _, e4⟩ := enter1 s hv x
    obtain ⟨d, hd, h6⟩ := vld_depth hv
    simp only [Bool.not_true, cond_false]
    rw [e1, e2, bind_some, bind_some]
    cases b with
    | false => exact ⟨_, rfl, rfl, by simp⟩
    | true =>
      obtain ⟨_, n, m, hx⟩ := e4 rfl
      have ht : treeI s = ⟨s.Kind, (d : Int), (strd d : Int)⟩ := by unfold treeI; rw [hd, Int.toNat_natCast]
      simp only [if_true, Bool.not_true, cond_false]
      rw [if_neg (by simp), ht, members_eq h6 hx, rmembers_eq hd h6 hx, bind_some]
      exact ⟨_, rfl, rfl, memL_len h6⟩
theorem sameI_self (l : List Int) (hl : l.length < 4611686018427387904) : ref03_SameInts l l = some true := by
  unfold ref03_SameInts
  rw [if_neg (by simp)]
  have := fix_itL l (ref03_SameInts_L1 l l) (fun j (_ : Unit) => (j : Int)) (fun _ nx s => nx s) (fun _ => some true)
    (fun rec j hj s => by simp only [ref03_SameInts_L1]; rw [if_pos (by omega), getI_some hj, bind_some, bind_some, if_neg (by simp), w64_nat (by omega)])
    (fun rec s => by simp only [ref03_SameInts_L1]; rw [if_neg (by omega)]) (f := FUEL) (fuel_lt (by omega)) ()
  rw [show ((0 : Nat) : Int) = 0 from rfl] at this
  rw [this]
  have hc : ∀ (l : List Int), itL (fun _ nx s => nx s) (fun (_ : Unit) => some true) l () = some true := by
    intro l
    induction l with
    | nil => rfl
    | cons a l ih => rw [itL_cons]; exact ih
  exact hc l
end Go.Sx

end
section
/- Labels of a receiver's secret: the mirrors of both sides come to one plain list. -/
set_option linter.unusedVariables false
set_option linter.unusedSimpArgs false
set_option maxRecDepth 100000
namespace Go.Sx
open Go

/-- whether a node v and a node w strictly below it are a subset, in the kinds 2 and 3 -/
def subN (k : BitVec 8) (d v w : Nat) : Bool := decide (k = 2#8) || spcl d v || decide (fstS d (pathN (w / 2) (Nat.log2 w - Nat.log2 v - 1)) = 0)
/-- the labels at the nodes above a leaf, from the one j above it on -/
def labK (k : BitVec 8) (d leaf : Nat) : Nat → List (Nat × Nat)
  | 0 => []
  | j + 1 => ((pathN leaf (j + 1)).filter fun p => subN k d (leaf / 2 ^ (j + 1)) (p ^^^ 1)).map (fun p => (leaf / 2 ^ (j + 1), p ^^^ 1)) ++ labK k d leaf j
/-- the nodes of the labels of a receiver -/
def labN (k : BitVec 8) (d u : Nat) : List (Nat × Nat) := (1, 0) :: if k = 1#8 then (pathN (2 ^ d + u) d).map (fun p => (p, 0)) else labK k d (2 ^ d + u) d
def labI (k : BitVec 8) (d u : Nat) : List (Int × Int) := (labN k d u).map fun x => ((x.1 : Int), (x.2 : Int))
def labS (k : BitVec 8) (d u : Nat) : List TSubset := (labN k d u).map fun x => TSubset.mk (x.1 : Int) (x.2 : Int)
/-- what is checked of each: both mirrors; how many there are; their nodes; Minus below Node -/
def labB (k : BitVec 8) (d u : Nat) : Bool :=
  decide (cover_tree_labels_1 ⟨k, (d : Int), (strd d : Int)⟩ (u : Int) = some (labI k d u)) && decide (ref03_LabelsOf ⟨k, (d : Int), 0, zG⟩ (u : Int) = some (labS k d u)) && decide ((labN k d u).length ≤ 100) &&
    (labN k d u).all fun x => decide (1 ≤ x.1 ∧ x.1 < 128 ∧ x.2 < 128) && (decide (x.2 = 0) || (belowB x.2 x.1 && !decide (x.2 = x.1)))
theorem lab_11 : ∀ d : Fin 7, (List.range (2 ^ d.1)).all (fun u => labB 1#8 d.1 u) = true := by decide +kernel
theorem lab_2a : ∀ d : Fin 6, (List.range (2 ^ d.1)).all (fun u => labB 2#8 d.1 u) = true := by decide +kernel
theorem lab_2b : (List.range 64).all (fun u => labB 2#8 6 u) = true := by decide +kernel
theorem lab_3a : ∀ d : Fin 6, (List.range (2 ^ d.1)).all (fun u => labB 3#8 d.1 u) = true := by decide +kernel
theorem lab_3b : (List.range 64).all (fun u => labB 3#8 6 u) = true := by decide +kernel
theorem kind_cases {k : BitVec 8} (h1 : 1#8 ≤ k) (h3 : k ≤ 3#8) : k = 1#8 ∨ k = 2#8 ∨ k = 3#8 := by
  have a : 1 ≤ k.toNat := h1
  have b : k.toNat ≤ 3 := h3
  rcases (show k.toNat = 1 ∨ k.toNat = 2 ∨ k.toNat = 3 by omega) with h | h | h
  · exact .inl (BitVec.eq_of_toNat_eq h)
  · exact .inr (.inl (BitVec.eq_of_toNat_eq h))
  · exact .inr (.inr (BitVec.eq_of_toNat_eq h))
theorem lab_all {k : BitVec 8} {d u : Nat} (h1 : 1#8 ≤ k) (h3 : k ≤ 3#8) (hd : d ≤ 6) (hu : u < 2 ^ d) : labB k d u = true := by
  have key : ∀ {n : Nat} {f : Nat → Bool}, (List.range n).all f = true → u < n → f u = true := fun h hu => List.all_eq_true.1 h u (List.mem_range.2 hu)
  rcases kind_cases h1 h3 with rfl | rfl | rfl
  · exact key (lab_11 ⟨d, by omega⟩) hu
  · rcases Nat.lt_or_ge d 6 with h | h
    · exact key (lab_2a ⟨d, h⟩) hu
    · obtain rfl : d = 6 := by omega
      exact key lab_2b hu
  · rcases Nat.lt_or_ge d 6 with h | h
    · exact key (lab_3a ⟨d, h⟩) hu
    · obtain rfl : d = 6 := by omega
      exact key lab_3b hu
theorem vld_kind {s : TScheme} (h : vldB s = true) : 1#8 ≤ s.Kind ∧ s.Kind ≤ 3#8 := by
  unfold vldB at h
  have := of_decide_eq_true h
  exact ⟨this.1, this.2.1⟩
theorem vld_shape {s : TScheme} {d : Nat} (h : vldB s = true) (hd : s.Depth = (d : Int)) : s = ⟨s.Kind, (d : Int), 0, zG⟩ := by
  unfold vldB at h
  have := of_decide_eq_true h
  cases s; simp only at *; rw [hd, this.2.2.2.2.1, this.2.2.2.2.2]
theorem labels_eq {s : TScheme} {d u : Nat} (hv : vldB s = true) (hd : s.Depth = (d : Int)) (h6 : d ≤ 6) (hu : u < 2 ^ d) :
    cover_tree_labels_1 ⟨s.Kind, (d : Int), (strd d : Int)⟩ (u : Int) = some (labI s.Kind d u) ∧ ref03_LabelsOf s (u : Int) = some (labS s.Kind d u) ∧ (labN s.Kind d u).length ≤ 100 ∧
    ∀ x ∈ labN s.Kind d u, (1 ≤ x.1 ∧ x.1 < 128 ∧ x.2 < 128) ∧ (x.2 = 0 ∨ (belowB x.2 x.1 = true ∧ x.2 ≠ x.1)) := by
  obtain ⟨k1, k3⟩ := vld_kind hv
  have h := lab_all k1 k3 h6 hu
  unfold labB at h
  simp only [Bool.and_eq_true, decide_eq_true_eq, List.all_eq_true, Bool.or_eq_true, Bool.not_eq_true', decide_eq_false_iff_not] at h
  refine ⟨h.1.1.1, ?_, h.1.2, h.2⟩
  rw [vld_shape hv hd]; exact h.1.1.2
end Go.Sx

end
section
/- Secrets: the mirrors of both sides come to one plain list of labels. -/
set_option linter.unusedVariables false
set_option linter.unusedSimpArgs false
namespace Go.Sx
open Go

/-- the key of a label -/
def keyN (root : W2) (k : BitVec 8) (x : Nat × Nat) : W2 :=
  if x.2 = 0 then (if k = 1#8 then drv root (un8 30#8) (wd (x.1 : Int)) else drv root (un8 34#8) 0#64) else (pathN x.2 (Nat.log2 x.2 - Nat.log2 x.1)).foldl stp (drv root (un8 30#8) (wd (x.1 : Int)))
def lbl (root : W2) (k : BitVec 8) (x : Nat × Nat) : TLabel := TLabel.mk (x.1 : Int) (x.2 : Int) (keyN root k x)
def secN (root : W2) (k : BitVec 8) (d u : Nat) : List TLabel := (labN k d u).map (lbl root k)
def LabOk (x : Nat × Nat) : Prop := (1 ≤ x.1 ∧ x.1 < 128 ∧ x.2 < 128) ∧ (x.2 = 0 ∨ (belowB x.2 x.1 = true ∧ x.2 ≠ x.1))
theorem lab_split {x : Nat × Nat} (h : LabOk x) (h0 : x.2 ≠ 0) : ∃ k, Nat.log2 x.2 - Nat.log2 x.1 = k + 1 ∧ x.1 = x.2 / 2 ^ (k + 1) ∧ 2 ^ (k + 1) ≤ x.2 ∧ k ≤ 6 := by
  rcases h.2 with h2 | ⟨h2, h3⟩
  · exact absurd h2 h0
  · obtain ⟨k, e1, e2, e3⟩ := below_split (by omega) h.1.1 h2 h3
    have := le_log e3 h.1.2.2
    exact ⟨k, e1, e2, e3, by omega⟩
theorem psecret_eq {root : W2} {s : TScheme} {d u : Nat} (ui : Int) (h : ∀ x ∈ labN s.Kind d u, LabOk x) (hl : (labN s.Kind d u).length ≤ 100) :
    itL (cover_Secret_R1 root (treeI s, 0)) (cover_Secret_D1 ui) (labI s.Kind d u) [] = some (TSecret.mk ui (secN root s.Kind d u) (TPoint.mk 0#64 0#64), 0) := by
  unfold labI
  rw [itL_map]
  refine (itL_app 32 0 (fun _ => true) (lbl root s.Kind) _ _ _ _ (fun a ha nx l => ?_) (by simp; omega)).trans (by simp [cover_Secret_D1, secN, filter_tt])
  have hok := h a ha
  simp only [cover_Secret_R1, cover_Secret_J2, cond_true]
  by_cases h0 : a.2 = 0
  · rw [if_pos (by omega)]
    have : cover_tree_key (treeI s) root (TSubset.mk (a.1 : Int) 0) = some (keyN root s.Kind a) := by
      unfold cover_tree_key keyN cover_nodeKey
      rw [if_pos h0, show (treeI s).kind = s.Kind from rfl]
      by_cases hk : s.Kind = 1#8
      · rw [if_pos hk, if_pos hk]; rfl
      · rw [if_neg hk, if_neg hk, if_pos rfl]
    rw [this, bind_some]; rfl
  · rw [if_neg (by omega)]
    obtain ⟨k, e1, e2, e3, e4⟩ := lab_split hok h0
    unfold cover_nodeKey
    rw [bind_some]
    have : cover_descend (drv root (un8 30#8) (wd (a.1 : Int))) (a.1 : Int) (a.2 : Int) = some (keyN root s.Kind a) := by
      have := descend_eq (drv root (un8 30#8) (wd (a.1 : Int))) (w := a.2) (k := k + 1) (by have := hok.1.2.2; omega) e3 (by omega)
      rw [← e2] at this
      rw [this, keyN, if_neg h0, e1]
    rw [this, bind_some]; rfl
theorem keyOf_some {root : W2} {s : TScheme} {x : Nat × Nat} (h : LabOk x) (hk1 : s.Kind = 1#8 → x.2 = 0) : ∃ k, ref03_KeyOf root s (TSubset.mk (x.1 : Int) (x.2 : Int)) = some k ∧ (x.2 = 0 → k = keyN root s.Kind x) := by
  unfold ref03_KeyOf keyN
  by_cases hk : s.Kind = 1#8
  · rw [if_pos hk]; exact ⟨_, rfl, fun h0 => by rw [if_pos h0, if_pos hk]⟩
  · rw [if_neg hk]
    by_cases h0 : x.2 = 0
    · rw [if_pos (by simp [h0])]; exact ⟨_, rfl, fun _ => by rw [if_pos h0, if_neg hk]⟩
    · rw [if_neg (by simp only; omega)]
      obtain ⟨k, e1, e2, e3, e4⟩ := lab_split h h0
      unfold ref03_label
      have := down_eq (drv root (un8 30#8) (wd (x.1 : Int))) (w := x.2) (k := k + 1) (by have := h.1.2.2; omega) e3 (by omega)
      rw [← e2] at this
      simp only
      rw [this, bind_some, bind_some]
      exact ⟨_, rfl, fun h => absurd h h0⟩
theorem rlabel_eq {root : W2} {k' : BitVec 8} {x : Nat × Nat} (h : LabOk x) (h0 : x.2 ≠ 0) : ref03_label root (x.1 : Int) (x.2 : Int) = some (keyN root k' x) := by
  obtain ⟨k, e1, e2, e3, e4⟩ := lab_split h h0
  unfold ref03_label keyN
  have := down_eq (drv root (un8 30#8) (wd (x.1 : Int))) (w := x.2) (k := k + 1) (by have := h.1.2.2; omega) e3 (by omega)
  rw [← e2] at this
  rw [this, bind_some, if_neg h0, e1]
theorem lab1 {k : BitVec 8} {d u : Nat} (hk : k = 1#8) : ∀ x ∈ labN k d u, x.2 = 0 := by
  intro x hx
  unfold labN at hx
  rw [if_pos hk] at hx
  rcases List.mem_cons.1 hx with rfl | hx
  · rfl
  · obtain ⟨p, _, rfl⟩ := List.mem_map.1 hx; rfl
theorem rsecret_eq {root : W2} {s : TScheme} {d u : Nat} (ui : Int) (h : ∀ x ∈ labN s.Kind d u, LabOk x) (hl : (labN s.Kind d u).length ≤ 100) :
    fixN (ref03_SecretOf_L1 root s ui (labS s.Kind d u)) FUEL (0, []) = some (TSecret.mk ui (secN root s.Kind d u) (TPoint.mk 0#64 0#64)) := by
  have hls : (labS s.Kind d u).length = (labN s.Kind d u).length := by simp [labS]
  have := fix_itL (labN s.Kind d u) (ref03_SecretOf_L1 root s ui (labS s.Kind d u)) (fun j (acc : List TLabel) => ((j : Int), acc)) (fun a nx acc => Option.bind (appG 32 acc [lbl root s.Kind a]) nx) (fun acc => some (TSecret.mk ui acc (TPoint.mk 0#64 0#64)))
    (fun rec j hj acc => by
      have hj' : j < (labS s.Kind d u).length := by omega
      have hg : (labS s.Kind d u)[j] = TSubset.mk ((labN s.Kind d u)[j].1 : Int) ((labN s.Kind d u)[j].2 : Int) := by simp [labS]
      have hok := h _ (List.getElem_mem hj)
      obtain ⟨k, e1, e2⟩ := keyOf_some (root := root) (s := s) hok (fun hk => lab1 hk _ (List.getElem_mem hj))
      simp only [ref03_SecretOf_L1, ref03_SecretOf_J2, ref03_SecretOf_J3]
      rw [if_pos (by omega), getI_some hj', bind_some, hg, e1, bind_some, bind_some]
      simp only [bind_some]
      by_cases h0 : (labN s.Kind d u)[j].2 = 0
      · rw [if_neg (by omega), e2 h0, w64_nat (by omega)]; rfl
      · rw [if_pos (by omega), rlabel_eq (k' := s.Kind) hok h0, bind_some, w64_nat (by omega)]; rfl)
    (fun rec acc => by simp only [ref03_SecretOf_L1]; rw [if_neg (by omega)]) (f := FUEL) (fuel_lt (by omega)) ([] : List TLabel)
  rw [show ((0 : Nat) : Int) = 0 from rfl] at this
  rw [this]
  exact (itL_app 32 0 (fun _ => true) (lbl root s.Kind) _ _ _ _ (fun a _ nx l => rfl) (by simp; omega)).trans (by simp [secN, filter_tt])
theorem receiver_eq {k : BitVec 8} {d : Nat} {st u : Int} (h : d ≤ 6) : cover_tree_receiver ⟨k, (d : Int), st⟩ u = some (decide (0 ≤ u ∧ u < ((2 ^ d : Nat) : Int))) := by
  unfold cover_tree_receiver
  by_cases h0 : (0 : Int) ≤ u
  · rw [if_pos h0, size_eq h, bind_some]; congr 1; apply decide_eq_decide.2; omega
  · rw [if_neg h0]; congr 1; symm; apply decide_eq_false; omega
theorem rreceiver_eq {d : Nat} {u : Int} (h : d ≤ 6) : ref03_receiver (d : Int) u = some (decide (0 ≤ u ∧ u < ((2 ^ d : Nat) : Int))) := by
  unfold ref03_receiver
  by_cases h0 : (0 : Int) ≤ u
  · rw [if_pos h0, recv_eq h, bind_some]; congr 1; apply decide_eq_decide.2; omega
  · rw [if_neg h0]; congr 1; symm; apply decide_eq_false; omega
/-- secrets, plainly -/
def sec0 : TSecret := TSecret.mk 0 [] (TPoint.mk 0#64 0#64)
def secP (root : W2) (s : TScheme) (u : Int) : TSecret × Int :=
  if vldB s then (if 0 ≤ u ∧ u < ((2 ^ s.Depth.toNat : Nat) : Int) then (TSecret.mk u (secN root s.Kind s.Depth.toNat u.toNat) (TPoint.mk 0#64 0#64), 0) else (sec0, 2)) else (sec0, 30)
theorem Secret_eq (root : W2) (s : TScheme) (u : Int) : cover_Secret root s u = some (secP root s u) ∧ ref03_Secret root s u = some (secP root s u) ∧ (secP root s u).1.Labels.length ≤ 100 := by
  unfold cover_Secret ref03_Secret secP
  rw [enter0, valid_eq, bind_some, bind_some]
  cases hv : vldB s with
  | false => exact ⟨rfl, rfl, by simp [sec0]⟩
  | true =>
    obtain ⟨d, hd, h6⟩ := vld_depth hv
    have ht : treeI s = ⟨s.Kind, (d : Int), (strd d : Int)⟩ := by unfold treeI; rw [hd, Int.toNat_natCast]
    simp only [if_true, Bool.not_true, cond_false]
    rw [if_neg (by simp), hd, rreceiver_eq h6, Int.toNat_natCast]
    have e0 : cover_tree_receiver (treeI s) u = some (decide (0 ≤ u ∧ u < ((2 ^ d : Nat) : Int))) := by rw [ht]; exact receiver_eq h6
    rw [e0, bind_some, bind_some]
    by_cases hu : 0 ≤ u ∧ u < ((2 ^ d : Nat) : Int)
    · rw [decide_eq_true hu, if_pos hu]
      simp only [Bool.not_true, cond_false]
      obtain ⟨n, hn⟩ : ∃ n : Nat, u = (n : Int) := ⟨u.toNat, by omega⟩
      subst hn
      obtain ⟨e1, e2, e3, e4⟩ := labels_eq (u := n) hv hd h6 (by omega)
      unfold cover_tree_labels ref03_SecretOf
      rw [bind_some]
      simp only
      rw [Int.toNat_natCast, ht, e1, e2, bind_some, bind_some, ← ht, psecret_eq _ e4 e3, rsecret_eq _ e4 e3, bind_some]
      exact ⟨rfl, rfl, by simpa [secN] using e3⟩
    · rw [decide_eq_false hu, if_neg hu]; exact ⟨rfl, rfl, by simp [sec0]⟩
theorem sameC_self' (p : TSecret) (hl : p.Labels.length < 4611686018427387904) : ref03_SameSecret p p = some true := by
  unfold ref03_SameSecret ref03_SameSecret_J1
  simp only [ne_eq, not_true_eq_false, if_false, decide_false, cond_false]
  exact fix_run (ref03_SameSecret_L2 p p) (fun j s => s = (j : Int)) p.Labels.length (some true) (fun j s hj hs => ⟨((j + 1 : Nat) : Int), rfl, fun rec => by
      subst hs; simp only [ref03_SameSecret_L2]; rw [if_pos (by omega), getI_some hj, bind_some, bind_some, if_neg (by simp), w64_nat (by omega)]⟩)
    (fun s hs rec => by subst hs; simp only [ref03_SameSecret_L2]; rw [if_neg (by omega)]) p.Labels.length 0 FUEL 0 (by omega) (fuel_lt (by omega)) rfl
end Go.Sx

end
