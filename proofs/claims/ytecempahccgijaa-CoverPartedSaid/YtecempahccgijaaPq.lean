/- merged by mg.py: Tr Ts Tk Mb Lb SecN Tm Fd Kn Cv Cx Cp Alv Mm Kv -/
import Derived.Test.YtecempahccgijaaCbM
import Derived.Test.YtecempahccgijaaPl
import Derived.Test.YtecempahccgijaaFx
import Derived.Test.YtecempahccgijaaClM
import Derived.Test.YtecempahccgijaaFy
import Derived.Test.YtecempahccgijaaCcM
import Derived.Test.YtecempahccgijaaAlM
section
/- Trees of receivers, plainly: levels, below, paths; the mirrors of both sides come to the same. -/
set_option linter.unusedVariables false
set_option linter.unusedSimpArgs false
namespace Go.Sx
open Go

theorem log2_div (n k : Nat) (h : 2 ^ k ≤ n) : Nat.log2 n = Nat.log2 (n / 2 ^ k) + k := by
  induction k generalizing n with
  | zero => simp
  | succ k ih =>
    have h2 : 2 ^ k ≤ n / 2 := by rw [Nat.le_div_iff_mul_le (by omega)]; rw [Nat.pow_succ] at h; omega
    have h1 : 2 ≤ n := by have : 0 < 2 ^ k := Nat.two_pow_pos k; rw [Nat.pow_succ] at h; omega
    rw [Nat.log2_def, if_pos h1, ih (n / 2) h2, Nat.div_div_eq_div_mul, Nat.pow_succ, Nat.mul_comm 2]; omega
theorem log2_half {n : Nat} (h : 2 ≤ n) : Nat.log2 n = Nat.log2 (n / 2) + 1 := by rw [Nat.log2_def, if_pos h]
theorem log2_mono {m n : Nat} (h : m ≤ n) : Nat.log2 m ≤ Nat.log2 n := by
  rcases Nat.eq_zero_or_pos m with h0 | h0
  · subst h0; rw [Nat.log2_zero]; omega
  · exact (Nat.le_log2 (by omega)).2 (Nat.le_trans (Nat.log2_self_le (by omega)) h)
theorem log2_le62 {n : Nat} (h : n < 9223372036854775808) : Nat.log2 n ≤ 62 := by
  rcases Nat.eq_zero_or_pos n with h0 | h0
  · subst h0; rw [Nat.log2_zero]; omega
  · have : Nat.log2 n < 63 := (Nat.log2_lt (by omega)).2 (by omega)
    omega
theorem un_wdn {n : Nat} (h : n < 9223372036854775808) : un (wd (n : Int)) = (n : Int) := un_wd _ (by omega) (by omega)
theorem lg_nat {n : Nat} (h : 1 ≤ n) : lg (n : Int) = (Nat.log2 n : Int) + 1 := by unfold lg; rw [Int.toNat_natCast, if_neg (by omega)]
theorem level_eq {n : Nat} (h1 : 1 ≤ n) (h : n < 9223372036854775808) : cover_node_level (n : Int) = some (Nat.log2 n : Int) := by
  have := log2_le62 h
  unfold cover_node_level
  rw [un_wdn h, lg_nat h1, w64_id (by omega) (by omega), Int.add_sub_cancel]
theorem quo2 (n : Nat) (h : n < 9223372036854775808) : quoI (n : Int) 2 = some ((n / 2 : Nat) : Int) := by
  unfold quoI
  rw [if_neg (by decide), show (n : Int).tdiv 2 = ((n / 2 : Nat) : Int) from by rw [Int.tdiv_eq_ediv_of_nonneg (by omega)]; omega, w64_id (by omega) (by omega)]
theorem rlevel_loop : ∀ (f n k : Nat), n < 9223372036854775808 → Nat.log2 n < f → k + Nat.log2 n ≤ 1000 → fixN ref03_Level_L1 f ((n : Int), (k : Int)) = some ((k + Nat.log2 n : Nat) : Int)
  | 0, n, k, _, h, _ => by omega
  | f + 1, n, k, h, hf, hk => by
    rw [fix_step]; simp only [ref03_Level_L1]
    by_cases h2 : 2 ≤ n
    · have hh := log2_half h2
      rw [if_pos (by omega), quo2 n h, bind_some, w64_id (by omega) (by omega)]
      have := rlevel_loop f (n / 2) (k + 1) (by omega) (by omega) (by omega)
      rw [show (k : Int) + 1 = ((k + 1 : Nat) : Int) from by omega, this, hh]; congr 2; omega
    · rw [if_neg (by omega)]
      have : Nat.log2 n = 0 := by rw [Nat.log2_def, if_neg (by omega)]
      rw [this, Nat.add_zero]
theorem rlevel_eq {n : Nat} (h : n < 9223372036854775808) : ref03_Level (n : Int) = some (Nat.log2 n : Int) := by
  have := log2_le62 h
  have := rlevel_loop FUEL n 0 h (fuel_lt (by omega)) (by omega)
  unfold ref03_Level
  rw [show (0 : Int) = ((0 : Nat) : Int) from rfl, this, Nat.zero_add]
/-- whether a node is below another one -/
def belowB (w v : Nat) : Bool := decide (Nat.log2 v ≤ Nat.log2 w ∧ w / 2 ^ (Nat.log2 w - Nat.log2 v) = v)
theorem belowB_step {w v : Nat} (hv : 1 ≤ v) (h : v < w) : belowB w v = belowB (w / 2) v := by
  have hh := log2_half (n := w) (by omega)
  have hm := log2_mono (Nat.le_of_lt h)
  unfold belowB
  by_cases hl : Nat.log2 v ≤ Nat.log2 (w / 2)
  · have e : Nat.log2 w - Nat.log2 v = (Nat.log2 (w / 2) - Nat.log2 v) + 1 := by omega
    have e2 : w / 2 ^ (Nat.log2 w - Nat.log2 v) = w / 2 / 2 ^ (Nat.log2 (w / 2) - Nat.log2 v) := by rw [e, Nat.div_div_eq_div_mul, Nat.pow_succ, Nat.mul_comm 2]
    rw [e2]
    apply decide_eq_decide.2
    constructor
    · rintro ⟨_, h2⟩; exact ⟨hl, h2⟩
    · rintro ⟨_, h2⟩; exact ⟨hm, h2⟩
  · rw [decide_eq_false (p := _ ∧ w / 2 / 2 ^ _ = v) (fun hc => hl hc.1)]
    apply decide_eq_false
    rintro ⟨_, h2⟩
    rw [show Nat.log2 w - Nat.log2 v = 0 from by omega, Nat.pow_zero, Nat.div_one] at h2
    omega
theorem belowB_le {w v : Nat} (hw : 1 ≤ w) (h : w ≤ v) : belowB w v = decide (w = v) := by
  unfold belowB
  by_cases e : w = v
  · subst e; simp
  · rw [decide_eq_false e]
    apply decide_eq_false
    rintro ⟨h1, h2⟩
    have := log2_mono h
    rw [show Nat.log2 w - Nat.log2 v = 0 from by omega, Nat.pow_zero, Nat.div_one] at h2
    exact e h2
theorem shr_nat (n k : Nat) (hk : k ≤ 64) : shrI (n : Int) k = ((n / 2 ^ k : Nat) : Int) := by
  unfold shrI
  rw [Nat.min_eq_left hk, Int.natCast_ediv, Int.natCast_pow]; rfl
theorem below_eq {w v : Nat} (hw : 1 ≤ w) (hv : 1 ≤ v) (hw2 : w < 9223372036854775808) (hv2 : v < 9223372036854775808) : cover_node_below (w : Int) (v : Int) = some (belowB w v) := by
  have l1 := log2_le62 hw2
  have l2 := log2_le62 hv2
  unfold cover_node_below cover_node_below_J1
  rw [if_neg (by omega), if_neg (by omega), level_eq hw hw2, bind_some, level_eq hv hv2, bind_some]
  by_cases h : Nat.log2 w < Nat.log2 v
  · rw [decide_eq_true (by omega)]
    unfold belowB
    rw [decide_eq_false (by omega)]; rfl
  · rw [decide_eq_false (by omega)]
    simp only [cond_false]
    rw [bind_some, bind_some, w64_id (by omega) (by omega)]
    have : shG ((Nat.log2 w : Int) - (Nat.log2 v : Int)) = some (Nat.log2 w - Nat.log2 v) := by unfold shG; rw [if_pos (by omega)]; congr 1; omega
    rw [this, bind_some, shr_nat _ _ (by omega)]
    unfold belowB
    congr 1
    apply decide_eq_decide.2
    constructor
    · intro h3; exact ⟨by omega, by omega⟩
    · intro h3; omega
theorem rbelow_loop {v : Nat} (hv : 1 ≤ v) : ∀ (f w : Nat), 1 ≤ w → w < 9223372036854775808 → Nat.log2 w < f → fixN (ref03_Below_L1 (v : Int)) f (w : Int) = some (belowB w v)
  | 0, w, _, _, h => by omega
  | f + 1, w, hw, hw2, hf => by
    rw [fix_step]; simp only [ref03_Below_L1]
    by_cases h : v < w
    · have hh := log2_half (n := w) (by omega)
      rw [if_pos (by omega), quo2 w hw2, bind_some, rbelow_loop hv f (w / 2) (by omega) (by omega) (by omega), belowB_step hv h]
    · rw [if_neg (by omega), belowB_le hw (by omega)]
      congr 1
      apply decide_eq_decide.2; omega
theorem rbelow_eq {w v : Nat} (hw : 1 ≤ w) (hv : 1 ≤ v) (hw2 : w < 9223372036854775808) : ref03_Below (w : Int) (v : Int) = some (belowB w v) := by
  have := log2_le62 hw2
  exact rbelow_loop hv FUEL w hw hw2 (fuel_lt (by omega))
/-! sizes -/
def strd (d : Nat) : Nat := if d ≤ 1 then 1 else if d ≤ 4 then 2 else 3
theorem strd_pos (d : Nat) : 1 ≤ strd d := by unfold strd; split; omega; split <;> omega
theorem recv_fin : ∀ d : Fin 7, ref03_Receivers (d.1 : Int) = some ((2 ^ d.1 : Nat) : Int) := by decide +kernel
theorem recv_eq {d : Nat} (h : d ≤ 6) : ref03_Receivers (d : Int) = some ((2 ^ d : Nat) : Int) := recv_fin ⟨d, by omega⟩
theorem stride_fin : ∀ d : Fin 7, ref03_Stride (d.1 : Int) = some ((strd d.1 : Nat) : Int) := by decide +kernel
theorem rstride_eq {d : Nat} (h : d ≤ 6) : ref03_Stride (d : Int) = some ((strd d : Nat) : Int) := stride_fin ⟨d, by omega⟩
theorem pow_le64 {d : Nat} (h : d ≤ 6) : 2 ^ d ≤ 64 := Nat.le_trans (Nat.pow_le_pow_right (by omega) h) (by decide)
theorem shl1 {d : Nat} (h : d ≤ 6) : shlI 1 d = ((2 ^ d : Nat) : Int) := by
  have := pow_le64 h
  unfold shlI
  rw [Nat.min_eq_left (by omega), Int.one_mul, show (2 : Int) ^ d = ((2 ^ d : Nat) : Int) from by rw [Int.natCast_pow]; rfl]
  generalize 2 ^ d = m at *
  exact w64_id (by omega) (by omega)
theorem shG_nat (n : Nat) : shG (n : Int) = some n := by unfold shG; rw [if_pos (by omega)]; rfl
theorem size_eq {k : BitVec 8} {d : Nat} {st : Int} (h : d ≤ 6) : cover_tree_size ⟨k, (d : Int), st⟩ = some ((2 ^ d : Nat) : Int) := by
  unfold cover_tree_size
  rw [shG_nat, bind_some, shl1 h]
def hasN (d : Nat) (v : Int) : Bool := decide (1 ≤ v ∧ v < 2 * (2 ^ d : Nat))
theorem has_eq {k : BitVec 8} {d : Nat} {st v : Int} (h : d ≤ 6) : cover_tree_has ⟨k, (d : Int), st⟩ v = some (hasN d v) := by
  have := pow_le64 h
  unfold cover_tree_has hasN
  by_cases h1 : 1 ≤ v
  · rw [if_pos h1, size_eq h, bind_some]
    generalize 2 ^ d = m at *
    rw [w64_id (by omega) (by omega)]
    congr 1; apply decide_eq_decide.2; omega
  · rw [if_neg h1]; congr 1; symm; apply decide_eq_false; omega
theorem node_eq {d : Nat} {v : Int} (h : d ≤ 6) : ref03_Node (d : Int) v = some (hasN d v) := by
  have := pow_le64 h
  unfold ref03_Node hasN
  by_cases h1 : 1 ≤ v
  · rw [if_pos h1, recv_eq h, bind_some]
    generalize 2 ^ d = m at *
    rw [w64_id (by omega) (by omega)]
    congr 1; apply decide_eq_decide.2; omega
  · rw [if_neg h1]; congr 1; symm; apply decide_eq_false; omega
theorem hasN_nat {d : Nat} {v : Int} (hd : d ≤ 6) (h : hasN d v = true) : ∃ n : Nat, v = (n : Int) ∧ 1 ≤ n ∧ n < 128 := by
  have := pow_le64 hd
  unfold hasN at h
  generalize 2 ^ d = m at *
  have := of_decide_eq_true h
  exact ⟨v.toNat, by omega, by omega, by omega⟩
/-! special nodes -/
def spcl (d v : Nat) : Bool := decide (Nat.log2 v % strd d = 0)
theorem rem_nat (a b : Nat) (hb : 1 ≤ b) : remI (a : Int) (b : Int) = some ((a % b : Nat) : Int) := by
  unfold remI
  rw [if_neg (by omega), Int.tmod_eq_emod_of_nonneg (by omega), Int.natCast_emod]
theorem special_eq {k : BitVec 8} {d v : Nat} (hv : 1 ≤ v) (hv2 : v < 9223372036854775808) : cover_tree_special ⟨k, (d : Int), (strd d : Int)⟩ (v : Int) = some (spcl d v) := by
  unfold cover_tree_special spcl
  rw [level_eq hv hv2, bind_some, rem_nat _ _ (strd_pos d), bind_some]
  congr 1; apply decide_eq_decide.2; omega
theorem rspecial_eq {d v : Nat} (hd : d ≤ 6) (hv2 : v < 9223372036854775808) : ref03_Special (d : Int) (v : Int) = some (spcl d v) := by
  unfold ref03_Special spcl
  rw [rlevel_eq hv2, bind_some, rstride_eq hd, bind_some, rem_nat _ _ (strd_pos d), bind_some]
  congr 1; apply decide_eq_decide.2; omega
/-! paths -/
/-- the k nodes down to w -/
def pathN (w : Nat) : Nat → List Nat
  | 0 => []
  | k + 1 => w / 2 ^ k :: pathN w k
theorem pathN_snoc (w k : Nat) : pathN w (k + 1) = pathN (w / 2) k ++ [w] := by
  induction k with
  | zero => simp [pathN]
  | succ k ih => rw [pathN, ih, pathN, List.cons_append, Nat.div_div_eq_div_mul, Nat.pow_succ, Nat.mul_comm 2]
theorem pathN_len (w k : Nat) : (pathN w k).length = k := by
  induction k with
  | zero => rfl
  | succ k ih => simp [pathN, ih]
theorem pathN_bd {w k n : Nat} (hk : 2 ^ k ≤ w) (h : n ∈ pathN w k) : 1 ≤ n ∧ n ≤ w := by
  induction k with
  | zero => cases h
  | succ k ih =>
    have hk' : 2 ^ k ≤ w := by rw [Nat.pow_succ] at hk; omega
    rcases List.mem_cons.1 h with rfl | h
    · exact ⟨(Nat.le_div_iff_mul_le (Nat.two_pow_pos k)).2 (by omega), Nat.div_le_self _ _⟩
    · exact ih hk' h
theorem log2_divk {w k : Nat} (hk : 2 ^ k ≤ w) : Nat.log2 (w / 2 ^ k) = Nat.log2 w - k := by have := log2_div w k hk; omega
theorem div_pos' {w k : Nat} (hk : 2 ^ k ≤ w) : 1 ≤ w / 2 ^ k := (Nat.le_div_iff_mul_le (Nat.two_pow_pos k)).2 (by omega)
theorem toward_eq {w k : Nat} (hk : 2 ^ (k + 1) ≤ w) (hw : w < 9223372036854775808) : cover_node_toward ((w / 2 ^ (k + 1) : Nat) : Int) (w : Int) = some ((w / 2 ^ k : Nat) : Int) := by
  have hp := Nat.two_pow_pos (k + 1)
  have l1 := log2_le62 hw
  have hl := log2_div w (k + 1) hk
  unfold cover_node_toward
  rw [level_eq (by omega) hw, bind_some, level_eq (div_pos' hk) (Nat.lt_of_le_of_lt (Nat.div_le_self _ _) hw), bind_some, w64_id (n := (Nat.log2 w : Int) - (Nat.log2 (w / 2 ^ (k + 1)) : Int)) (by omega) (by omega), w64_id (by omega) (by omega)]
  rw [show (Nat.log2 w : Int) - (Nat.log2 (w / 2 ^ (k + 1)) : Int) - 1 = ((k : Nat) : Int) from by omega, shG_nat, bind_some, shr_nat _ _ (by omega)]
theorem path_loop {w : Nat} (hw : w < 9223372036854775808) : ∀ (k f : Nat), k < f → 2 ^ k ≤ w → fixN (cover_path_1_L1 (w : Int)) f ((w / 2 ^ k : Nat) : Int) = some ((pathN w k).map Int.ofNat)
  | k, 0, h, _ => by omega
  | 0, f + 1, _, _ => by
    rw [fix_step]; simp only [cover_path_1_L1]
    rw [if_neg (by simp)]; rfl
  | k + 1, f + 1, h, hk => by
    rw [fix_step]; simp only [cover_path_1_L1]
    have h1 : w / 2 ^ (k + 1) < w := Nat.div_lt_self (by have := Nat.two_pow_pos (k + 1); omega) (Nat.one_lt_two_pow (by omega))
    rw [if_pos (by omega), toward_eq hk hw, bind_some, path_loop hw k f (by omega) (by rw [Nat.pow_succ] at hk; omega)]
    rfl
theorem path_eq {w k : Nat} (hw : w < 9223372036854775808) (hk : 2 ^ k ≤ w) (hk2 : k ≤ 64) : cover_path_1 ((w / 2 ^ k : Nat) : Int) (w : Int) = some ((pathN w k).map Int.ofNat) := path_loop hw k FUEL (fuel_lt (by omega)) hk
theorem divk_ne {w j k : Nat} (hk : 2 ^ k ≤ w) (hj : j < k) : w / 2 ^ j ≠ w / 2 ^ k := fun e => by
  have h1 := log2_divk hk
  have h2 := log2_divk (w := w) (k := j) (Nat.le_trans (Nat.pow_le_pow_right (by omega) (by omega)) hk)
  have h3 := log2_div w k hk
  rw [e] at h2; omega
theorem rpath_loop {w k : Nat} (hw : w < 9223372036854775808) (hk : 2 ^ k ≤ w) (hk2 : k ≤ 64) : ∀ (m j f : Nat), j + m = k → m < f → fixN (ref03_Path_L1 ((w / 2 ^ k : Nat) : Int)) f (((w / 2 ^ j : Nat) : Int), (pathN w j).map Int.ofNat) = some (((w / 2 ^ k : Nat) : Int) :: (pathN w k).map Int.ofNat)
  | m, j, 0, _, h => by omega
  | 0, j, f + 1, hj, _ => by
    obtain rfl : j = k := by omega
    rw [fix_step]; simp only [ref03_Path_L1]
    rw [if_neg (by simp), appG_some (by simp [pathN_len]; omega), bind_some]; rfl
  | m + 1, j, f + 1, hj, hf => by
    rw [fix_step]; simp only [ref03_Path_L1]
    have hne := divk_ne hk (show j < k by omega)
    have hlt : w / 2 ^ j < 9223372036854775808 := Nat.lt_of_le_of_lt (Nat.div_le_self _ _) hw
    rw [if_pos (by omega), appG_some (by simp [pathN_len]; omega), bind_some, quo2 _ hlt, bind_some, Nat.div_div_eq_div_mul, ← Nat.pow_succ]
    exact rpath_loop hw hk hk2 m (j + 1) f (by omega) (by omega)
theorem rpath_eq {w k : Nat} (hw : w < 9223372036854775808) (hk : 2 ^ k ≤ w) (hk2 : k ≤ 64) : ref03_Path ((w / 2 ^ k : Nat) : Int) (w : Int) = some (((w / 2 ^ k : Nat) : Int) :: (pathN w k).map Int.ofNat) := by
  have := rpath_loop hw hk hk2 k 0 FUEL (by omega) (fuel_lt (by omega))
  rw [Nat.pow_zero, Nat.div_one] at this
  exact this
end Go.Sx

end
section
/- Schemes and subsets: the mirrors of both sides come to the same. -/
set_option linter.unusedVariables false
set_option linter.unusedSimpArgs false
namespace Go.Sx
open Go

def zG : TGroup := TGroup.mk 0#64 0#64 0#64
def vldB (s : TScheme) : Bool := decide (1#8 ≤ s.Kind ∧ s.Kind ≤ 3#8 ∧ 0 ≤ s.Depth ∧ s.Depth ≤ 6 ∧ s.Degree = 0 ∧ s.Group = zG)
theorem valid_eq (s : TScheme) : ref03_Valid s = some (vldB s) := by
  unfold ref03_Valid vldB zG
  by_cases h1 : 1#8 ≤ s.Kind
  · by_cases h2 : s.Kind ≤ 3#8
    · by_cases h3 : 0 ≤ s.Depth
      · by_cases h4 : s.Depth ≤ 6
        · by_cases h5 : s.Degree = 0
          · simp [h1, h2, h3, h4, h5]
          · simp [h1, h2, h3, h4, h5]
        · simp [h1, h2, h3, h4]
      · simp [h1, h2, h3]
    · simp [h1, h2]
  · simp [h1]
theorem vld_depth {s : TScheme} (h : vldB s = true) : ∃ d : Nat, s.Depth = (d : Int) ∧ d ≤ 6 := by
  unfold vldB at h
  have := of_decide_eq_true h
  exact ⟨s.Depth.toNat, by omega, by omega⟩
theorem treeOf_step (s : TScheme) (n : Nat) (a : Int) : fixN (cover_treeOf_L2 s) (n + 1) a = if w64 (a * a) < s.Depth then fixN (cover_treeOf_L2 s) n (w64 (a + 1)) else some (Tcover_tree.mk s.Kind s.Depth a, true) := rfl
theorem treeOf_loop (s : TScheme) {d : Nat} (hd : s.Depth = (d : Int)) (h : d ≤ 6) : fixN (cover_treeOf_L2 s) FUEL 1 = some (Tcover_tree.mk s.Kind (d : Int) (strd d : Int), true) := by
  have e1 : w64 (1 * 1) = 1 := by decide
  have e2 : w64 (1 + 1) = 2 := by decide
  have e3 : w64 (2 * 2) = 4 := by decide
  have e4 : w64 (2 + 1) = 3 := by decide
  have e5 : w64 (3 * 3) = 9 := by decide
  rw [show FUEL = 18446744073709551613 + 3 from rfl, treeOf_step, e1, e2, hd]
  unfold strd
  by_cases h1 : d ≤ 1
  · rw [if_neg (by omega), if_pos h1, ← hd]; rfl
  · rw [if_pos (by omega), if_neg h1, show 18446744073709551613 + 2 = 18446744073709551614 + 1 from rfl, treeOf_step, e3, e4, hd]
    by_cases h2 : d ≤ 4
    · rw [if_neg (by omega), if_pos h2, ← hd]; rfl
    · rw [if_pos (by omega), if_neg h2, show 18446744073709551614 = 18446744073709551613 + 1 from rfl, treeOf_step, e5, hd, if_neg (by omega), ← hd]; rfl
def treeI (s : TScheme) : Tcover_tree := Tcover_tree.mk s.Kind s.Depth (strd s.Depth.toNat : Int)
theorem treeOf_eq (s : TScheme) : cover_treeOf s = some (if vldB s then (treeI s, true) else (Tcover_tree.mk 0#8 0 0, false)) := by
  unfold cover_treeOf cover_treeOf_J1
  by_cases hv : vldB s = true
  · rw [if_pos hv]
    obtain ⟨d, hd, h6⟩ := vld_depth hv
    unfold vldB at hv
    obtain ⟨h1, h2, h3, h4, h5, h7⟩ := of_decide_eq_true hv
    have hs : s = TScheme.mk s.Kind s.Depth 0 (TGroup.mk 0#64 0#64 0#64) := by cases s; simp only at *; rw [h5, h7]; rfl
    rw [if_neg (by rw [BitVec.not_lt]; exact h1), if_neg (by rw [BitVec.not_lt]; exact h2), if_neg (by omega), if_neg (by omega), decide_eq_false (by simpa using hs)]
    simp only [cond_false]
    rw [treeOf_loop s hd h6]
    unfold treeI
    rw [hd, Int.toNat_natCast]
  · rw [if_neg hv]
    have hn : ¬ (1#8 ≤ s.Kind ∧ s.Kind ≤ 3#8 ∧ 0 ≤ s.Depth ∧ s.Depth ≤ 6 ∧ s.Degree = 0 ∧ s.Group = zG) := fun h => hv (by unfold vldB; exact decide_eq_true h)
    by_cases h1 : s.Kind < 1#8
    · rw [if_pos h1]; rfl
    · rw [if_neg h1]
      by_cases h2 : 3#8 < s.Kind
      · rw [if_pos h2]; rfl
      · rw [if_neg h2]
        by_cases h3 : s.Depth < 0
        · rw [if_pos h3]; rfl
        · rw [if_neg h3]
          by_cases h4 : (6 : Int) < s.Depth
          · rw [if_pos h4]; rfl
          · rw [if_neg h4, decide_eq_true (p := s ≠ _)]
            · rfl
            · intro hs
              refine hn ⟨BitVec.not_lt.1 h1, BitVec.not_lt.1 h2, by omega, by omega, ?_, ?_⟩
              · rw [hs]
              · rw [hs]; rfl
/-! the first special node -/
def fstS (d : Nat) (l : List Nat) : Nat := (l.find? (spcl d)).getD 0
theorem first_eq {k : BitVec 8} {d : Nat} : ∀ (l : List Nat), (∀ n ∈ l, 1 ≤ n ∧ n < 9223372036854775808) →
    itL (cover_first_cover_path_1_cover_tree_special_R1 ⟨k, (d : Int), (strd d : Int)⟩) cover_first_cover_path_1_cover_tree_special_D1 (l.map Int.ofNat) 0 = some ((fstS d l : Nat) : Int)
  | [], _ => rfl
  | a :: l, h => by
    rw [List.map_cons, itL_cons]
    simp only [cover_first_cover_path_1_cover_tree_special_R1]
    have ha := h a (by simp)
    rw [show (Int.ofNat a) = (a : Int) from rfl, special_eq ha.1 ha.2, bind_some]
    unfold fstS
    rw [List.find?_cons]
    cases hs : spcl d a with
    | true => rfl
    | false => exact first_eq l (fun n hn => h n (by simp [hn]))
theorem between_loop {d : Nat} (hd : d ≤ 6) (v m : Nat) (l : List Nat) (hl : l.length ≤ 64) (hb : ∀ n ∈ l, n < 9223372036854775808) : ∀ (r : List Nat) (j f : Nat), j + r.length = l.length → l.drop j = r → r.length < f →
    fixN (ref03_between_L1 (d : Int) ((v : Int) :: (l ++ [m]).map Int.ofNat)) f ((j + 1 : Nat) : Int) = some ((fstS d r : Nat) : Int)
  | r, j, 0, _, _, h => by omega
  | [], j, f + 1, hj, hr, _ => by
    rw [fix_step]; simp only [ref03_between_L1]
    rw [w64_id (by simp; omega) (by simp; omega), if_neg (by simp; simp at hj; omega)]; rfl
  | a :: r, j, f + 1, hj, hr, hf => by
    rw [fix_step]; simp only [ref03_between_L1]
    have hjl : j < l.length := by simp at hj; omega
    have ha : l[j] = a := by
      have := List.drop_eq_getElem_cons hjl; rw [hr] at this; exact (List.cons.inj this).1.symm
    have hr' : l.drop (j + 1) = r := by
      have := List.drop_eq_getElem_cons hjl; rw [hr] at this; exact (List.cons.inj this).2.symm
    have hg : getI ((v : Int) :: (l ++ [m]).map Int.ofNat) ((j + 1 : Nat) : Int) = some (a : Int) := by
      rw [getI_some (by simp; omega)]
      simp only [List.map_append, List.getElem_cons_succ, List.getElem_append_left (show j < (l.map Int.ofNat).length by simpa using hjl), List.getElem_map, ha]; rfl
    rw [w64_id (by simp; omega) (by simp; omega), if_pos (by simp; omega), hg, bind_some, rspecial_eq hd (hb a (by rw [← ha]; exact List.getElem_mem hjl)), bind_some]
    unfold fstS
    rw [List.find?_cons]
    cases hs : spcl d a with
    | true => rfl
    | false =>
      simp only [cond_false]
      rw [w64_id (by simp at hj; omega) (by simp at hj; omega), show ((j + 1 : Nat) : Int) + 1 = ((j + 1 + 1 : Nat) : Int) from by omega]
      exact between_loop hd v m l hl hb r (j + 1) f (by simp at hj ⊢; omega) hr' (by simp at hf; omega)
theorem below_split {m n : Nat} (hm : 1 ≤ m) (hn : 1 ≤ n) (h : belowB m n = true) (hne : m ≠ n) : ∃ k, Nat.log2 m - Nat.log2 n = k + 1 ∧ n = m / 2 ^ (k + 1) ∧ 2 ^ (k + 1) ≤ m := by
  unfold belowB at h
  obtain ⟨h1, h2⟩ := of_decide_eq_true h
  have h3 : Nat.log2 m - Nat.log2 n ≠ 0 := fun e => by rw [e, Nat.pow_zero, Nat.div_one] at h2; exact hne h2
  refine ⟨Nat.log2 m - Nat.log2 n - 1, by omega, ?_, ?_⟩
  · rw [show Nat.log2 m - Nat.log2 n - 1 + 1 = Nat.log2 m - Nat.log2 n from by omega]; exact h2.symm
  · rw [show Nat.log2 m - Nat.log2 n - 1 + 1 = Nat.log2 m - Nat.log2 n from by omega]
    exact Nat.le_trans (Nat.pow_le_pow_right (by omega) (by omega)) (Nat.log2_self_le (by omega))
theorem half_pow {m k : Nat} (h : 2 ^ (k + 1) ≤ m) : 2 ^ k ≤ m / 2 := by rw [Nat.le_div_iff_mul_le (by omega)]; rw [Nat.pow_succ] at h; omega
theorem cut_eq {kd : BitVec 8} {d m k : Nat} (hm : m < 128) (hk : 2 ^ (k + 1) ≤ m) (hk2 : k ≤ 60) : cover_tree_cut ⟨kd, (d : Int), (strd d : Int)⟩ ((m / 2 ^ (k + 1) : Nat) : Int) (m : Int) = some ((fstS d (pathN (m / 2) k) : Nat) : Int) := by
  unfold cover_tree_cut cover_path cover_first_cover_path_1_cover_tree_special
  rw [show shG (un 1#64) = some 1 from by decide, bind_some, bind_some, shr_nat _ _ (by omega), Nat.pow_one]
  simp only
  have e : m / 2 ^ (k + 1) = m / 2 / 2 ^ k := by rw [Nat.div_div_eq_div_mul, Nat.pow_succ, Nat.mul_comm 2]
  have hp := half_pow hk
  rw [e, path_eq (by omega) hp (by omega), bind_some, first_eq _ (fun n hn => by have := pathN_bd hp hn; omega), bind_some]
theorem between_eq {d m k : Nat} (hd : d ≤ 6) (hm : m < 128) (hk : 2 ^ (k + 1) ≤ m) (hk2 : k ≤ 60) : ref03_between (d : Int) ((m / 2 ^ (k + 1) : Nat) : Int) (m : Int) = some ((fstS d (pathN (m / 2) k) : Nat) : Int) := by
  have hp := half_pow hk
  unfold ref03_between
  rw [rpath_eq (by omega) hk (by omega), bind_some, pathN_snoc]
  have := between_loop hd (m / 2 ^ (k + 1)) m (pathN (m / 2) k) (by rw [pathN_len]; omega) (fun n hn => by have := pathN_bd hp hn; omega) (pathN (m / 2) k) 0 FUEL (by omega) rfl (fuel_lt (by rw [pathN_len]; omega))
  exact this
theorem le_log {m k : Nat} (h : 2 ^ k ≤ m) (hm : m < 128) : k ≤ 6 := by
  have h1 := (Nat.le_log2 (n := m) (by have := Nat.two_pow_pos k; omega)).2 h
  have h2 : Nat.log2 m < 7 := (Nat.log2_lt (by have := Nat.two_pow_pos k; omega)).2 (by omega)
  omega
/-- what a subset is known to be -/
def SubOk (s : TScheme) (x : TSubset) : Prop := hasN s.Depth.toNat x.Node = true ∧ (s.Kind = 1#8 ∨ x.Minus = 0 ∨ (∃ m n k : Nat, x.Minus = (m : Int) ∧ x.Node = (n : Int) ∧ n = m / 2 ^ (k + 1) ∧ 2 ^ (k + 1) ≤ m ∧ m < 128 ∧ k ≤ 6 ∧ 1 ≤ n))
theorem subset_eq (s : TScheme) (hv : vldB s = true) (x : TSubset) : ∃ b, cover_tree_subset (treeI s) x = some b ∧ ref03_IsSubset s x = some b ∧ (b = true → SubOk s x) := by
  obtain ⟨d, hd, h6⟩ := vld_depth hv
  have ht : treeI s = ⟨s.Kind, (d : Int), (strd d : Int)⟩ := by unfold treeI; rw [hd, Int.toNat_natCast]
  rw [ht]
  unfold cover_tree_subset ref03_IsSubset
  rw [hd, has_eq h6, node_eq h6, bind_some, bind_some]
  have hno : false = true → SubOk s x := fun h => by cases h
  cases h1 : hasN d x.Node with
  | false => exact ⟨false, rfl, rfl, hno⟩
  | true =>
    have hsd : hasN s.Depth.toNat x.Node = true := by rw [hd, Int.toNat_natCast]; exact h1
    simp only [Bool.not_true, cond_false]
    obtain ⟨n, hn, hn1, hn2⟩ := hasN_nat h6 h1
    by_cases hk : s.Kind = 1#8
    · rw [if_pos hk, if_pos hk]
      unfold cover_tree_subset_J1
      rw [cond_true]
      by_cases hm : x.Minus = 0
      · rw [if_pos hm, if_pos hk]; exact ⟨true, rfl, by rw [decide_eq_true hm], fun _ => ⟨hsd, .inl hk⟩⟩
      · rw [if_neg hm]; exact ⟨false, rfl, by rw [decide_eq_false hm], hno⟩
    · rw [if_neg hk, if_neg hk]
      unfold cover_tree_subset_J1
      by_cases hm : x.Minus = 0
      · rw [decide_eq_true hm, cond_true, if_pos hm, if_neg hk, if_pos hm]
        exact ⟨_, rfl, rfl, fun _ => ⟨hsd, .inr (.inl hm)⟩⟩
      · rw [decide_eq_false hm, cond_false, if_neg hm, has_eq h6, node_eq h6, bind_some, bind_some]
        have hf : ∃ b, cover_tree_subset_J2 ⟨s.Kind, (d : Int), (strd d : Int)⟩ x true = some b ∧ ref03_IsSubset_J1 s x true = some b ∧ (b = true → SubOk s x) := ⟨false, rfl, rfl, hno⟩
        cases h2 : hasN d x.Minus with
        | false => exact hf
        | true =>
          rw [Bool.not_true, cond_false, cond_false]
          obtain ⟨m, hm1, hm2, hm3⟩ := hasN_nat h6 h2
          by_cases he : x.Minus = x.Node
          · rw [if_pos he, if_pos he]; exact hf
          · have e1 : cover_node_below x.Minus x.Node = some (belowB m n) := by rw [hm1, hn]; exact below_eq hm2 hn1 (by omega) (by omega)
            have e2 : ref03_Below x.Minus x.Node = some (belowB m n) := by rw [hm1, hn]; exact rbelow_eq hm2 hn1 (by omega)
            rw [if_neg he, if_neg he, e1, e2, bind_some, bind_some]
            cases h3 : belowB m n with
            | false => exact hf
            | true =>
              obtain ⟨k, hk0, hk1, hk2⟩ := below_split hm2 hn1 h3 (by omega)
              have hkl := le_log hk2 hm3
              have hok : ∀ b : Bool, b = true → SubOk s x := fun b _ => ⟨hsd, .inr (.inr ⟨m, n, k, hm1, hn, hk1, hk2, hm3, by omega, hn1⟩)⟩
              unfold cover_tree_subset_J2 ref03_IsSubset_J1
              rw [Bool.not_true, cond_false, cond_false]
              by_cases hk3 : s.Kind = 2#8
              · rw [if_pos hk3, if_pos hk3]; exact ⟨true, rfl, rfl, hok true⟩
              · have e3 : cover_tree_special ⟨s.Kind, (d : Int), (strd d : Int)⟩ x.Node = some (spcl d n) := by rw [hn]; exact special_eq hn1 (by omega)
                have e4 : ref03_Special s.Depth x.Node = some (spcl d n) := by rw [hn, hd]; exact rspecial_eq h6 (by omega)
                rw [if_neg hk3, if_neg hk3, e3, e4, bind_some, bind_some]
                cases hs : spcl d n with
                | true => exact ⟨true, rfl, rfl, hok true⟩
                | false =>
                  rw [cond_false, cond_false]
                  have e5 : cover_tree_cut ⟨s.Kind, (d : Int), (strd d : Int)⟩ x.Node x.Minus = some ((fstS d (pathN (m / 2) k) : Nat) : Int) := by rw [hn, hm1, hk1]; exact cut_eq hm3 hk2 (by omega)
                  have e6 : ref03_between s.Depth x.Node x.Minus = some ((fstS d (pathN (m / 2) k) : Nat) : Int) := by rw [hn, hm1, hd, hk1]; exact between_eq h6 hm3 hk2 (by omega)
                  rw [e5, e6, bind_some]
                  exact ⟨_, rfl, rfl, hok _⟩
end Go.Sx

end
section
/- Keys: the mirrors of both sides come to the same. -/
set_option linter.unusedVariables false
set_option linter.unusedSimpArgs false
namespace Go.Sx
open Go

/-- the label of a child -/
def stp (k : W2) (n : Nat) : W2 := if n % 2 = 1 then drv k (un8 32#8) 0#64 else drv k (un8 31#8) 0#64
theorem desc_eq : ∀ (l : List Nat) (k : W2), itL cover_descend_R1 cover_descend_D1 (l.map Int.ofNat) k = some (l.foldl stp k)
  | [], k => rfl
  | a :: l, k => by
    rw [List.map_cons, itL_cons]
    simp only [cover_descend_R1, cover_descend_J2]
    rw [show (Int.ofNat a) = (a : Int) from rfl, show (2 : Int) = ((2 : Nat) : Int) from rfl, rem_nat a 2 (by omega), bind_some, List.foldl_cons]
    unfold stp
    by_cases h : a % 2 = 1
    · rw [if_pos (by omega), if_pos h]; exact desc_eq l _
    · rw [if_neg (by omega), if_neg h]; exact desc_eq l _
theorem descend_eq {w k : Nat} (key : W2) (hw : w < 9223372036854775808) (hk : 2 ^ k ≤ w) (hk2 : k ≤ 64) : cover_descend key ((w / 2 ^ k : Nat) : Int) (w : Int) = some ((pathN w k).foldl stp key) := by
  unfold cover_descend cover_path
  rw [bind_some]
  simp only
  rw [path_eq hw hk hk2, bind_some, desc_eq]
theorem step_eq (k : W2) (n : Nat) : ref03_step k (n : Int) = some (stp k n) := by
  unfold ref03_step stp
  rw [show (2 : Int) = ((2 : Nat) : Int) from rfl, rem_nat n 2 (by omega), bind_some]
  by_cases h : n % 2 = 1
  · rw [if_neg (by omega), if_pos h]
  · rw [if_pos (by omega), if_neg h]
theorem down_loop (v : Int) (l : List Nat) (hl : l.length ≤ 1000) : ∀ (r : List Nat) (j f : Nat) (k : W2), j + r.length = l.length → l.drop j = r → r.length < f → fixN (ref03_down_L1 (v :: l.map Int.ofNat)) f (((j + 1 : Nat) : Int), k) = some (r.foldl stp k)
  | r, j, 0, k, _, _, h => by omega
  | [], j, f + 1, k, hj, hr, _ => by
    rw [fix_step]; simp only [ref03_down_L1]
    rw [if_neg (by simp at hj ⊢; omega)]; rfl
  | a :: r, j, f + 1, k, hj, hr, hf => by
    rw [fix_step]; simp only [ref03_down_L1]
    have hjl : j < l.length := by simp at hj; omega
    have ha : l[j] = a := by
      have := List.drop_eq_getElem_cons hjl; rw [hr] at this; exact (List.cons.inj this).1.symm
    have hr' : l.drop (j + 1) = r := by
      have := List.drop_eq_getElem_cons hjl; rw [hr] at this; exact (List.cons.inj this).2.symm
    have hg : getI (v :: l.map Int.ofNat) ((j + 1 : Nat) : Int) = some (a : Int) := by
      rw [getI_some (by simp; omega)]
      simp only [List.getElem_cons_succ, List.getElem_map, ha]; rfl
    rw [if_pos (by simp; omega), hg, bind_some, step_eq, bind_some, w64_id (by simp at hj; omega) (by simp at hj; omega), show ((j + 1 : Nat) : Int) + 1 = ((j + 1 + 1 : Nat) : Int) from by omega, List.foldl_cons]
    exact down_loop v l hl r (j + 1) f _ (by simp at hj ⊢; omega) hr' (by simp at hf; omega)
theorem down_eq {w k : Nat} (key : W2) (hw : w < 9223372036854775808) (hk : 2 ^ k ≤ w) (hk2 : k ≤ 64) : ref03_down key ((w / 2 ^ k : Nat) : Int) (w : Int) = some ((pathN w k).foldl stp key) := by
  unfold ref03_down
  rw [rpath_eq hw hk hk2, bind_some]
  exact down_loop _ (pathN w k) (by rw [pathN_len]; omega) (pathN w k) 0 FUEL key (by omega) rfl (fuel_lt (by rw [pathN_len]; omega))
/-- the key of a subset -/
theorem key_eq2 (root : W2) (s : TScheme) (x : TSubset) (h : SubOk s x) : ∃ k, cover_tree_key (treeI s) root x = some k ∧ ref03_KeyOf root s x = some k := by
  unfold cover_tree_key ref03_KeyOf cover_nodeKey ref03_label
  have ht : (treeI s).kind = s.Kind := rfl
  rw [ht]
  by_cases h1 : s.Kind = 1#8
  · rw [if_pos h1, if_pos h1]; exact ⟨_, rfl, rfl⟩
  · rw [if_neg h1, if_neg h1]
    by_cases h2 : x.Minus = 0
    · rw [if_pos h2, if_pos h2]; exact ⟨_, rfl, rfl⟩
    · rw [if_neg h2, if_neg h2]
      rcases h.2 with h3 | h3 | ⟨m, n, k, hm, hn, hk, hk2, hm2, hk3, hn1⟩
      · exact absurd h3 h1
      · exact absurd h3 h2
      · rw [hm, hn, hk, bind_some, descend_eq _ (by omega) hk2 (by omega), down_eq _ (by omega) hk2 (by omega), bind_some, bind_some]
        exact ⟨_, rfl, rfl⟩
end Go.Sx

end
section
/- Members of subsets: the mirrors of both sides come to the same. -/
set_option linter.unusedVariables false
set_option linter.unusedSimpArgs false
namespace Go.Sx
open Go

/-- whether a leaf is below Node and not below Minus -/
def memB (leaf : Nat) (v w : Nat) : Bool := belowB leaf v && (decide (w = 0) || !belowB leaf w)
/-- a subset's nodes as numbers -/
def SubN (s : TScheme) (x : TSubset) (n m : Nat) : Prop := x.Node = (n : Int) ∧ x.Minus = (m : Int) ∧ 1 ≤ n ∧ n < 128 ∧ m < 128
theorem subB_minus (s : TScheme) (hv : vldB s = true) (x : TSubset) (h : ref03_IsSubset s x = some true) : ∃ n m : Nat, SubN s x n m := by
  obtain ⟨d, hd, h6⟩ := vld_depth hv
  unfold ref03_IsSubset at h
  rw [hd, node_eq h6, bind_some] at h
  cases h1 : hasN d x.Node with
  | false => rw [h1] at h; simp at h
  | true =>
    obtain ⟨n, hn, hn1, hn2⟩ := hasN_nat h6 h1
    rw [h1] at h
    simp only [Bool.not_true, cond_false] at h
    by_cases hm : x.Minus = 0
    · exact ⟨n, 0, hn, by simpa using hm, hn1, hn2, by omega⟩
    · by_cases hk : s.Kind = 1#8
      · rw [if_pos hk, decide_eq_false hm] at h; simp at h
      · rw [if_neg hk, if_neg hm, node_eq h6, bind_some] at h
        cases h2 : hasN d x.Minus with
        | false => rw [h2] at h; simp [ref03_IsSubset_J1] at h
        | true =>
          obtain ⟨m, hm1, hm2, hm3⟩ := hasN_nat h6 h2
          exact ⟨n, m, hn, hm1, hn1, hn2, hm3⟩
theorem below0 (a : Int) : cover_node_below a 0 = some false := by
  unfold cover_node_below cover_node_below_J1
  by_cases h : a < 1
  · rw [if_pos h]; rfl
  · rw [if_neg h, if_pos (by omega)]; rfl
theorem leaf_eq {k : BitVec 8} {d u : Nat} {st : Int} (h : d ≤ 6) (hu : u < 128) : cover_tree_leaf ⟨k, (d : Int), st⟩ (u : Int) = some ((2 ^ d + u : Nat) : Int) := by
  have := pow_le64 h
  unfold cover_tree_leaf
  rw [size_eq h, bind_some]
  generalize 2 ^ d = m at *
  rw [w64_id (by omega) (by omega)]; congr 1
theorem member_eq {kd : BitVec 8} {d u n m : Nat} {st : Int} (h6 : d ≤ 6) (hu : u < 128) {x : TSubset} {s : TScheme} (hx : SubN s x n m) : cover_tree_member ⟨kd, (d : Int), st⟩ x (u : Int) = some (memB (2 ^ d + u) n m) := by
  obtain ⟨hn, hm, hn1, hn2, hm2⟩ := hx
  have h64 := pow_le64 h6
  have hp := Nat.two_pow_pos d
  unfold cover_tree_member memB
  rw [leaf_eq h6 hu, bind_some, hn, below_eq (by omega) hn1 (by omega) (by omega), bind_some]
  cases belowB (2 ^ d + u) n with
  | false => rfl
  | true =>
    rw [cond_true, hm]
    by_cases hm0 : m = 0
    · subst hm0; rw [show ((0 : Nat) : Int) = 0 from rfl, below0, bind_some]; rfl
    · rw [below_eq (by omega) (by omega) (by omega) (by omega), bind_some, decide_eq_false hm0]; rfl
theorem rhas_eq {s : TScheme} {d u n m : Nat} (hd : s.Depth = (d : Int)) (h6 : d ≤ 6) (hu : u < 128) {x : TSubset} (hx : SubN s x n m) : ref03_Has s x (u : Int) = some (memB (2 ^ d + u) n m) := by
  obtain ⟨hn, hm, hn1, hn2, hm2⟩ := hx
  have h64 := pow_le64 h6
  have hp := Nat.two_pow_pos d
  unfold ref03_Has memB
  rw [hd, recv_eq h6, bind_some]
  have e : w64 (((2 ^ d : Nat) : Int) + (u : Int)) = ((2 ^ d + u : Nat) : Int) := by
    generalize 2 ^ d = q at *
    rw [w64_id (by omega) (by omega)]; omega
  rw [e, hn, rbelow_eq (by omega) hn1 (by omega), bind_some]
  cases belowB (2 ^ d + u) n with
  | false => rfl
  | true =>
    rw [cond_true, hm]
    by_cases hm0 : m = 0
    · subst hm0; rw [if_pos (by simp)]; rfl
    · rw [if_neg (by omega), rbelow_eq (by omega) (by omega) (by omega), bind_some, decide_eq_false hm0]; rfl
/-- the members -/
def memL (d n m : Nat) : List Int := ((List.range (2 ^ d)).filter fun u => memB (2 ^ d + u) n m).map fun u : Nat => (u : Int)
theorem members_eq {kd : BitVec 8} {d n m : Nat} {st : Int} (h6 : d ≤ 6) {x : TSubset} {s : TScheme} (hx : SubN s x n m) : cover_tree_members ⟨kd, (d : Int), st⟩ x = some (memL d n m) := by
  have h64 := pow_le64 h6
  unfold cover_tree_members
  rw [size_eq h6, bind_some]
  have := fix_range (2 ^ d) (cover_tree_members_L1 ⟨kd, (d : Int), st⟩ x ((2 ^ d : Nat) : Int)) (fun j (s : List Int) => (s, (j : Int)))
    (fun j nx s => bif memB (2 ^ d + j) n m then Option.bind (appG 8 s [(j : Int)]) nx else nx s) (fun s => some s)
    (fun rec j hj s => by
      simp only [cover_tree_members_L1]
      rw [if_pos (by omega), member_eq h6 (by omega) hx, bind_some, w64_nat (by omega)])
    (fun rec s => by simp only [cover_tree_members_L1]; rw [if_neg (by omega)]) (f := FUEL) (fuel_lt (by omega)) ([] : List Int)
  rw [show ((0 : Nat) : Int) = 0 from rfl] at this
  rw [this]
  exact (itL_app 8 0 (fun u => memB (2 ^ d + u) n m) (fun u : Nat => (u : Int)) _ _ _ _ (fun a _ nx s => rfl) (by simp; omega)).trans (by simp [memL])
theorem rmembers_eq {s : TScheme} {d n m : Nat} (hd : s.Depth = (d : Int)) (h6 : d ≤ 6) {x : TSubset} (hx : SubN s x n m) : ref03_MembersOf s x = some (memL d n m) := by
  have h64 := pow_le64 h6
  unfold ref03_MembersOf
  have := fix_range (2 ^ d) (ref03_MembersOf_L1 s x) (fun j (s : List Int) => (s, (j : Int)))
    (fun j nx s => bif memB (2 ^ d + j) n m then Option.bind (appG 8 s [(j : Int)]) nx else nx s) (fun s => some s)
    (fun rec j hj s' => by
      simp only [ref03_MembersOf_L1]
      rw [hd, recv_eq h6, bind_some, if_pos (by omega), rhas_eq hd h6 (by omega) hx, bind_some, w64_nat (by omega)])
    (fun rec s' => by simp only [ref03_MembersOf_L1]; rw [hd, recv_eq h6, bind_some, if_neg (by omega)]) (f := FUEL) (fuel_lt (by omega)) ([] : List Int)
  rw [show ((0 : Nat) : Int) = 0 from rfl] at this
  rw [this]
  exact (itL_app 8 0 (fun u => memB (2 ^ d + u) n m) (fun u : Nat => (u : Int)) _ _ _ _ (fun a _ nx s => rfl) (by simp; omega)).trans (by simp [memL])
theorem memL_len {d n m : Nat} (h6 : d ≤ 6) : (memL d n m).length ≤ 64 := by
  have := pow_le64 h6
  unfold memL
  rw [List.length_map]
  exact Nat.le_trans (List.length_filter_le _ _) (by simpa using this)
/-! both sides' way in -/
theorem enter0 (s : TScheme) : cover_enter s ([] : List TSubset) = some (if vldB s then (treeI s, 0) else (Tcover_tree.mk 0#8 0 0, 30)) := by
  unfold cover_enter
  rw [treeOf_eq, bind_some]
  cases hv : vldB s with
  | false => rfl
  | true => rfl
theorem enter1 (s : TScheme) (hv : vldB s = true) (x : TSubset) : ∃ b, cover_enter s [x] = some (if b then (treeI s, 0) else (Tcover_tree.mk 0#8 0 0, 31)) ∧ ref03_IsSubset s x = some b ∧ cover_tree_subset (treeI s) x = some b ∧ (b = true → SubOk s x ∧ ∃ n m, SubN s x n m) := by
  obtain ⟨b, e1, e2, e3⟩ := subset_eq s hv x
  refine ⟨b, ?_, e2, e1, fun h => ⟨e3 h, subB_minus s hv x (h ▸ e2)⟩⟩
  unfold cover_enter
  rw [treeOf_eq, bind_some, if_pos hv]
  show fixN (cover_enter_L1 [x] (treeI s, true)) (18446744073709551614 + 1 + 1) 0 = _
  rw [fix_step]; simp only [cover_enter_L1]
  rw [if_pos (by simp), show getI [x] 0 = some x from rfl, bind_some, e1, bind_some]
  cases b with
  | false => rfl
  | true => rfl
theorem enter1n (s : TScheme) (hv : vldB s = false) (x : TSubset) : cover_enter s [x] = some (Tcover_tree.mk 0#8 0 0, 30) := by
  unfold cover_enter
  rw [treeOf_eq, bind_some, hv]; rfl
theorem Members_eq (s : TScheme) (x : TSubset) : ∃ r, cover_Members s x = some r ∧ ref03_Members s x = some r ∧ r.1.length ≤ 64 := by
  unfold cover_Members ref03_Members
  rw [valid_eq, bind_some]
  cases hv : vldB s with
  | false => rw [enter1n s hv]; exact ⟨_, rfl, rfl, by simp⟩
  | true =>
    obtain ⟨b, e1, e2, _, e4⟩ := enter1 s hv x
    obtain ⟨d, hd, h6⟩ := vld_depth hv
    simp only [Bool.not_true, cond_false]
    rw [e1, e2, bind_some, bind_some]
    cases b with
    | false => exact ⟨_, rfl, rfl, by simp⟩
    | true =>
      obtain ⟨_, n, m, hx⟩ := e4 rfl
      have ht : treeI s = ⟨s.Kind, (d : Int), (strd d : Int)⟩ := by unfold treeI; rw [hd, Int.toNat_natCast]
      simp only [if_true, Bool.not_true, cond_false]
      rw [if_neg (by simp), ht, members_eq h6 hx, rmembers_eq hd h6 hx, bind_some]
      exact ⟨_, rfl, rfl, memL_len h6⟩
theorem sameI_self (l : List Int) (hl : l.length < 4611686018427387904) : ref03_SameInts l l = some true := by
  unfold ref03_SameInts
  rw [if_neg (by simp)]
  have := fix_itL l (ref03_SameInts_L1 l l) (fun j (_ : Unit) => (j : Int)) (fun _ nx s => nx s) (fun _ => some true)
    (fun rec j hj s => by simp only [ref03_SameInts_L1]; rw [if_pos (by omega), getI_some hj, bind_some, bind_some, if_neg (by simp), w64_nat (by omega)])
    (fun rec s => by simp only [ref03_SameInts_L1]; rw [if_neg (by omega)]) (f := FUEL) (fuel_lt (by omega)) ()
  rw [show ((0 : Nat) : Int) = 0 from rfl] at this
  rw [this]
  have hc : ∀ (l : List Int), itL (fun _ nx s => nx s) (fun (_ : Unit) => some true) l () = some true := by
    intro l
    induction l with
    | nil => rfl
    | cons a l ih => rw [itL_cons]; exact ih
  exact hc l
end Go.Sx

end
section
/- Labels of a receiver's secret: the mirrors of both sides come to one plain list. -/
set_option linter.unusedVariables false
set_option linter.unusedSimpArgs false
set_option maxRecDepth 100000
namespace Go.Sx
open Go

/-- whether a node v and a node w strictly below it are a subset, in the kinds 2 and 3 -/
def subN (k : BitVec 8) (d v w : Nat) : Bool := decide (k = 2#8) || spcl d v || decide (fstS d (pathN (w / 2) (Nat.log2 w - Nat.log2 v - 1)) = 0)
/-- the labels at the nodes above a leaf, from the one j above it on -/
def labK (k : BitVec 8) (d leaf : Nat) : Nat → List (Nat × Nat)
  | 0 => []
  | j + 1 => ((pathN leaf (j + 1)).filter fun p => subN k d (leaf / 2 ^ (j + 1)) (p ^^^ 1)).map (fun p => (leaf / 2 ^ (j + 1), p ^^^ 1)) ++ labK k d leaf j
/-- the nodes of the labels of a receiver -/
def labN (k : BitVec 8) (d u : Nat) : List (Nat × Nat) := (1, 0) :: if k = 1#8 then (pathN (2 ^ d + u) d).map (fun p => (p, 0)) else labK k d (2 ^ d + u) d
def labI (k : BitVec 8) (d u : Nat) : List (Int × Int) := (labN k d u).map fun x => ((x.1 : Int), (x.2 : Int))
def labS (k : BitVec 8) (d u : Nat) : List TSubset := (labN k d u).map fun x => TSubset.mk (x.1 : Int) (x.2 : Int)
/-- what is checked of each: both mirrors; how many there are; their nodes; Minus below Node -/
def labB (k : BitVec 8) (d u : Nat) : Bool :=
  decide (cover_tree_labels_1 ⟨k, (d : Int), (strd d : Int)⟩ (u : Int) = some (labI k d u)) && decide (ref03_LabelsOf ⟨k, (d : Int), 0, zG⟩ (u : Int) = some (labS k d u)) && decide ((labN k d u).length ≤ 100) &&
    (labN k d u).all fun x => decide (1 ≤ x.1 ∧ x.1 < 128 ∧ x.2 < 128) && (decide (x.2 = 0) || (belowB x.2 x.1 && !decide (x.2 = x.1)))
theorem lab_11 : ∀ d : Fin 7, (List.range (2 ^ d.1)).all (fun u => labB 1#8 d.1 u) = true := by decide +kernel
theorem lab_2a : ∀ d : Fin 6, (List.range (2 ^ d.1)).all (fun u => labB 2#8 d.1 u) = true := by decide +kernel
theorem lab_2b : (List.range 64).all (fun u => labB 2#8 6 u) = true := by decide +kernel
theorem lab_3a : ∀ d : Fin 6, (List.range (2 ^ d.1)).all (fun u => labB 3#8 d.1 u) = true := by decide +kernel
theorem lab_3b : (List.range 64).all (fun u => labB 3#8 6 u) = true := by decide +kernel
theorem kind_cases {k : BitVec 8} (h1 : 1#8 ≤ k) (h3 : k ≤ 3#8) : k = 1#8 ∨ k = 2#8 ∨ k = 3#8 := by
  have a : 1 ≤ k.toNat := h1
  have b : k.toNat ≤ 3 := h3
  rcases (show k.toNat = 1 ∨ k.toNat = 2 ∨ k.toNat = 3 by omega) with h | h | h
  · exact .inl (BitVec.eq_of_toNat_eq h)
  · exact .inr (.inl (BitVec.eq_of_toNat_eq h))
  · exact .inr (.inr (BitVec.eq_of_toNat_eq h))
theorem lab_all {k : BitVec 8} {d u : Nat} (h1 : 1#8 ≤ k) (h3 : k ≤ 3#8) (hd : d ≤ 6) (hu : u < 2 ^ d) : labB k d u = true := by
  have key : ∀ {n : Nat} {f : Nat → Bool}, (List.range n).all f = true → u < n → f u = true := fun h hu => List.all_eq_true.1 h u (List.mem_range.2 hu)
  rcases kind_cases h1 h3 with rfl | rfl | rfl
  · exact key (lab_11 ⟨d, by omega⟩) hu
  · rcases Nat.lt_or_ge d 6 with h | h
    · exact key (lab_2a ⟨d, h⟩) hu
    · obtain rfl : d = 6 := by omega
      exact key lab_2b hu
  · rcases Nat.lt_or_ge d 6 with h | h
    · exact key (lab_3a ⟨d, h⟩) hu
    · obtain rfl : d = 6 := by omega
      exact key lab_3b hu
theorem vld_kind {s : TScheme} (h : vldB s = true) : 1#8 ≤ s.Kind ∧ s.Kind ≤ 3#8 := by
  unfold vldB at h
  have := of_decide_eq_true h
  exact ⟨this.1, this.2.1⟩
theorem vld_shape {s : TScheme} {d : Nat} (h : vldB s = true) (hd : s.Depth = (d : Int)) : s = ⟨s.Kind, (d : Int), 0, zG⟩ := by
  unfold vldB at h
  have := of_decide_eq_true h
  cases s; simp only at *; rw [hd, this.2.2.2.2.1, this.2.2.2.2.2]
theorem labels_eq {s : TScheme} {d u : Nat} (hv : vldB s = true) (hd : s.Depth = (d : Int)) (h6 : d ≤ 6) (hu : u < 2 ^ d) :
    cover_tree_labels_1 ⟨s.Kind, (d : Int), (strd d : Int)⟩ (u : Int) = some (labI s.Kind d u) ∧ ref03_LabelsOf s (u : Int) = some (labS s.Kind d u) ∧ (labN s.Kind d u).length ≤ 100 ∧
    ∀ x ∈ labN s.Kind d u, (1 ≤ x.1 ∧ x.1 < 128 ∧ x.2 < 128) ∧ (x.2 = 0 ∨ (belowB x.2 x.1 = true ∧ x.2 ≠ x.1)) := by
  obtain ⟨k1, k3⟩ := vld_kind hv
  have h := lab_all k1 k3 h6 hu
  unfold labB at h
  simp only [Bool.and_eq_true, decide_eq_true_eq, List.all_eq_true, Bool.or_eq_true, Bool.not_eq_true', decide_eq_false_iff_not] at h
  refine ⟨h.1.1.1, ?_, h.1.2, h.2⟩
  rw [vld_shape hv hd]; exact h.1.1.2
end Go.Sx

end
section
/- Secrets: the mirrors of both sides come to one plain list of labels. -/
set_option linter.unusedVariables false
set_option linter.unusedSimpArgs false
namespace Go.Sx
open Go

/-- the key of a label -/
def keyN (root : W2) (k : BitVec 8) (x : Nat × Nat) : W2 :=
  if x.2 = 0 then (if k = 1#8 then drv root (un8 30#8) (wd (x.1 : Int)) else drv root (un8 34#8) 0#64) else (pathN x.2 (Nat.log2 x.2 - Nat.log2 x.1)).foldl stp (drv root (un8 30#8) (wd (x.1 : Int)))
def lbl (root : W2) (k : BitVec 8) (x : Nat × Nat) : TLabel := TLabel.mk (x.1 : Int) (x.2 : Int) (keyN root k x)
def secN (root : W2) (k : BitVec 8) (d u : Nat) : List TLabel := (labN k d u).map (lbl root k)
def LabOk (x : Nat × Nat) : Prop := (1 ≤ x.1 ∧ x.1 < 128 ∧ x.2 < 128) ∧ (x.2 = 0 ∨ (belowB x.2 x.1 = true ∧ x.2 ≠ x.1))
theorem lab_split {x : Nat × Nat} (h : LabOk x) (h0 : x.2 ≠ 0) : ∃ k, Nat.log2 x.2 - Nat.log2 x.1 = k + 1 ∧ x.1 = x.2 / 2 ^ (k + 1) ∧ 2 ^ (k + 1) ≤ x.2 ∧ k ≤ 6 := by
  rcases h.2 with h2 | ⟨h2, h3⟩
  · exact absurd h2 h0
  · obtain ⟨k, e1, e2, e3⟩ := below_split (by omega) h.1.1 h2 h3
    have := le_log e3 h.1.2.2
    exact ⟨k, e1, e2, e3, by omega⟩
theorem psecret_eq {root : W2} {s : TScheme} {d u : Nat} (ui : Int) (h : ∀ x ∈ labN s.Kind d u, LabOk x) (hl : (labN s.Kind d u).length ≤ 100) :
    itL (cover_Secret_R1 root (treeI s, 0)) (cover_Secret_D1 ui) (labI s.Kind d u) [] = some (TSecret.mk ui (secN root s.Kind d u) (TPoint.mk 0#64 0#64), 0) := by
  unfold labI
  rw [itL_map]
  refine (itL_app 32 0 (fun _ => true) (lbl root s.Kind) _ _ _ _ (fun a ha nx l => ?_) (by simp; omega)).trans (by simp [cover_Secret_D1, secN, filter_tt])
  have hok := h a ha
  simp only [cover_Secret_R1, cover_Secret_J2, cond_true]
  by_cases h0 : a.2 = 0
  · rw [if_pos (by omega)]
    have : cover_tree_key (treeI s) root (TSubset.mk (a.1 : Int) 0) = some (keyN root s.Kind a) := by
      unfold cover_tree_key keyN cover_nodeKey
      rw [if_pos h0, show (treeI s).kind = s.Kind from rfl]
      by_cases hk : s.Kind = 1#8
      · rw [if_pos hk, if_pos hk]; rfl
      · rw [if_neg hk, if_neg hk, if_pos rfl]
    rw [this, bind_some]; rfl
  · rw [if_neg (by omega)]
    obtain ⟨k, e1, e2, e3, e4⟩ := lab_split hok h0
    unfold cover_nodeKey
    rw [bind_some]
    have : cover_descend (drv root (un8 30#8) (wd (a.1 : Int))) (a.1 : Int) (a.2 : Int) = some (keyN root s.Kind a) := by
      have := descend_eq (drv root (un8 30#8) (wd (a.1 : Int))) (w := a.2) (k := k + 1) (by have := hok.1.2.2; omega) e3 (by omega)
      rw [← e2] at this
      rw [this, keyN, if_neg h0, e1]
    rw [this, bind_some]; rfl
theorem keyOf_some {root : W2} {s : TScheme} {x : Nat × Nat} (h : LabOk x) (hk1 : s.Kind = 1#8 → x.2 = 0) : ∃ k, ref03_KeyOf root s (TSubset.mk (x.1 : Int) (x.2 : Int)) = some k ∧ (x.2 = 0 → k = keyN root s.Kind x) := by
  unfold ref03_KeyOf keyN
  by_cases hk : s.Kind = 1#8
  · rw [if_pos hk]; exact ⟨_, rfl, fun h0 => by rw [if_pos h0, if_pos hk]⟩
  · rw [if_neg hk]
    by_cases h0 : x.2 = 0
    · rw [if_pos (by simp [h0])]; exact ⟨_, rfl, fun _ => by rw [if_pos h0, if_neg hk]⟩
    · rw [if_neg (by simp only; omega)]
      obtain ⟨k, e1, e2, e3, e4⟩ := lab_split h h0
      unfold ref03_label
      have := down_eq (drv root (un8 30#8) (wd (x.1 : Int))) (w := x.2) (k := k + 1) (by have := h.1.2.2; omega) e3 (by omega)
      rw [← e2] at this
      simp only
      rw [this, bind_some, bind_some]
      exact ⟨_, rfl, fun h => absurd h h0⟩
theorem rlabel_eq {root : W2} {k' : BitVec 8} {x : Nat × Nat} (h : LabOk x) (h0 : x.2 ≠ 0) : ref03_label root (x.1 : Int) (x.2 : Int) = some (keyN root k' x) := by
  obtain ⟨k, e1, e2, e3, e4⟩ := lab_split h h0
  unfold ref03_label keyN
  have := down_eq (drv root (un8 30#8) (wd (x.1 : Int))) (w := x.2) (k := k + 1) (by have := h.1.2.2; omega) e3 (by omega)
  rw [← e2] at this
  rw [this, bind_some, if_neg h0, e1]
theorem lab1 {k : BitVec 8} {d u : Nat} (hk : k = 1#8) : ∀ x ∈ labN k d u, x.2 = 0 := by
  intro x hx
  unfold labN at hx
  rw [if_pos hk] at hx
  rcases List.mem_cons.1 hx with rfl | hx
  · rfl
  · obtain ⟨p, _, rfl⟩ := List.mem_map.1 hx; rfl
theorem rsecret_eq {root : W2} {s : TScheme} {d u : Nat} (ui : Int) (h : ∀ x ∈ labN s.Kind d u, LabOk x) (hl : (labN s.Kind d u).length ≤ 100) :
    fixN (ref03_SecretOf_L1 root s ui (labS s.Kind d u)) FUEL (0, []) = some (TSecret.mk ui (secN root s.Kind d u) (TPoint.mk 0#64 0#64)) := by
  have hls : (labS s.Kind d u).length = (labN s.Kind d u).length := by simp [labS]
  have := fix_itL (labN s.Kind d u) (ref03_SecretOf_L1 root s ui (labS s.Kind d u)) (fun j (acc : List TLabel) => ((j : Int), acc)) (fun a nx acc => Option.bind (appG 32 acc [lbl root s.Kind a]) nx) (fun acc => some (TSecret.mk ui acc (TPoint.mk 0#64 0#64)))
    (fun rec j hj acc => by
      have hj' : j < (labS s.Kind d u).length := by omega
      have hg : (labS s.Kind d u)[j] = TSubset.mk ((labN s.Kind d u)[j].1 : Int) ((labN s.Kind d u)[j].2 : Int) := by simp [labS]
      have hok := h _ (List.getElem_mem hj)
      obtain ⟨k, e1, e2⟩ := keyOf_some (root := root) (s := s) hok (fun hk => lab1 hk _ (List.getElem_mem hj))
      simp only [ref03_SecretOf_L1, ref03_SecretOf_J2, ref03_SecretOf_J3]
      rw [if_pos (by omega), getI_some hj', bind_some, hg, e1, bind_some, bind_some]
      simp only [bind_some]
      by_cases h0 : (labN s.Kind d u)[j].2 = 0
      · rw [if_neg (by omega), e2 h0, w64_nat (by omega)]; rfl
      · rw [if_pos (by omega), rlabel_eq (k' := s.Kind) hok h0, bind_some, w64_nat (by omega)]; rfl)
    (fun rec acc => by simp only [ref03_SecretOf_L1]; rw [if_neg (by omega)]) (f := FUEL) (fuel_lt (by omega)) ([] : List TLabel)
  rw [show ((0 : Nat) : Int) = 0 from rfl] at this
  rw [this]
  exact (itL_app 32 0 (fun _ => true) (lbl root s.Kind) _ _ _ _ (fun a _ nx l => rfl) (by simp; omega)).trans (by simp [secN, filter_tt])
theorem receiver_eq {k : BitVec 8} {d : Nat} {st u : Int} (h : d ≤ 6) : cover_tree_receiver ⟨k, (d : Int), st⟩ u = some (decide (0 ≤ u ∧ u < ((2 ^ d : Nat) : Int))) := by
  unfold cover_tree_receiver
  by_cases h0 : (0 : Int) ≤ u
  · rw [if_pos h0, size_eq h, bind_some]; congr 1; apply decide_eq_decide.2; omega
  · rw [if_neg h0]; congr 1; symm; apply decide_eq_false; omega
theorem rreceiver_eq {d : Nat} {u : Int} (h : d ≤ 6) : ref03_receiver (d : Int) u = some (decide (0 ≤ u ∧ u < ((2 ^ d : Nat) : Int))) := by
  unfold ref03_receiver
  by_cases h0 : (0 : Int) ≤ u
  · rw [if_pos h0, recv_eq h, bind_some]; congr 1; apply decide_eq_decide.2; omega
  · rw [if_neg h0]; congr 1; symm; apply decide_eq_false; omega
/-- secrets, plainly -/
def sec0 : TSecret := TSecret.mk 0 [] (TPoint.mk 0#64 0#64)
def secP (root : W2) (s : TScheme) (u : Int) : TSecret × Int :=
  if vldB s then (if 0 ≤ u ∧ u < ((2 ^ s.Depth.toNat : Nat) : Int) then (TSecret.mk u (secN root s.Kind s.Depth.toNat u.toNat) (TPoint.mk 0#64 0#64), 0) else (sec0, 2)) else (sec0, 30)
theorem Secret_eq (root : W2) (s : TScheme) (u : Int) : cover_Secret root s u = some (secP root s u) ∧ ref03_Secret root s u = some (secP root s u) ∧ (secP root s u).1.Labels.length ≤ 100 := by
  unfold cover_Secret ref03_Secret secP
  rw [enter0, valid_eq, bind_some, bind_some]
  cases hv : vldB s with
  | false => exact ⟨rfl, rfl, by simp [sec0]⟩
  | true =>
    obtain ⟨d, hd, h6⟩ := vld_depth hv
    have ht : treeI s = ⟨s.Kind, (d : Int), (strd d : Int)⟩ := by unfold treeI; rw [hd, Int.toNat_natCast]
    simp only [if_true, Bool.not_true, cond_false]
    rw [if_neg (by simp), hd, rreceiver_eq h6, Int.toNat_natCast]
    have e0 : cover_tree_receiver (treeI s) u = some (decide (0 ≤ u ∧ u < ((2 ^ d : Nat) : Int))) := by rw [ht]; exact receiver_eq h6
    rw [e0, bind_some, bind_some]
    by_cases hu : 0 ≤ u ∧ u < ((2 ^ d : Nat) : Int)
    · rw [decide_eq_true hu, if_pos hu]
      simp only [Bool.not_true, cond_false]
      obtain ⟨n, hn⟩ : ∃ n : Nat, u = (n : Int) := ⟨u.toNat, by omega⟩
      subst hn
      obtain ⟨e1, e2, e3, e4⟩ := labels_eq (u := n) hv hd h6 (by omega)
      unfold cover_tree_labels ref03_SecretOf
      rw [bind_some]
      simp only
      rw [Int.toNat_natCast, ht, e1, e2, bind_some, bind_some, ← ht, psecret_eq _ e4 e3, rsecret_eq _ e4 e3, bind_some]
      exact ⟨rfl, rfl, by simpa [secN] using e3⟩
    · rw [decide_eq_false hu, if_neg hu]; exact ⟨rfl, rfl, by simp [sec0]⟩
theorem sameC_self' (p : TSecret) (hl : p.Labels.length < 4611686018427387904) : ref03_SameSecret p p = some true := by
  unfold ref03_SameSecret ref03_SameSecret_J1
  simp only [ne_eq, not_true_eq_false, if_false, decide_false, cond_false]
  exact fix_run (ref03_SameSecret_L2 p p) (fun j s => s = (j : Int)) p.Labels.length (some true) (fun j s hj hs => ⟨((j + 1 : Nat) : Int), rfl, fun rec => by
      subst hs; simp only [ref03_SameSecret_L2]; rw [if_pos (by omega), getI_some hj, bind_some, bind_some, if_neg (by simp), w64_nat (by omega)]⟩)
    (fun s hs rec => by subst hs; simp only [ref03_SameSecret_L2]; rw [if_neg (by omega)]) p.Labels.length 0 FUEL 0 (by omega) (fuel_lt (by omega)) rfl
end Go.Sx

end
section
/- Trees, plainly (no program in sight): nodes below nodes, siblings; which labels lead to a subset. -/
set_option linter.unusedVariables false
set_option linter.unusedSimpArgs false
set_option maxRecDepth 100000
namespace Go.Sx
open Go

theorem below_iff {w v : Nat} (hw : 1 ≤ w) : belowB w v = true ↔ ∃ k, 2 ^ k ≤ w ∧ v = w / 2 ^ k := by
  constructor
  · intro h
    unfold belowB at h
    obtain ⟨h1, h2⟩ := of_decide_eq_true h
    exact ⟨_, Nat.le_trans (Nat.pow_le_pow_right (by omega) (by omega)) (Nat.log2_self_le (by omega)), h2.symm⟩
  · rintro ⟨k, h1, rfl⟩
    unfold belowB
    have h2 := log2_divk h1
    have h3 := log2_div w k h1
    apply decide_eq_true
    refine ⟨by omega, ?_⟩
    rw [h2, show Nat.log2 w - (Nat.log2 w - k) = k from by omega]
theorem below_refl {w : Nat} (hw : 1 ≤ w) : belowB w w = true := (below_iff hw).2 ⟨0, by simpa using hw, by simp⟩
theorem below_pos {w v : Nat} (hw : 1 ≤ w) (h : belowB w v = true) : 1 ≤ v := by
  obtain ⟨k, h1, rfl⟩ := (below_iff hw).1 h
  exact div_pos' h1
theorem pow_div_le {w i j : Nat} (h : 2 ^ (i + j) ≤ w) : 2 ^ j ≤ w / 2 ^ i := by
  rw [Nat.le_div_iff_mul_le (Nat.two_pow_pos i), ← Nat.pow_add, Nat.add_comm]; exact h
theorem pow_div_le' {w i j : Nat} (h : 2 ^ j ≤ w / 2 ^ i) : 2 ^ (i + j) ≤ w := by
  rw [Nat.le_div_iff_mul_le (Nat.two_pow_pos i), ← Nat.pow_add, Nat.add_comm] at h; exact h
theorem below_trans {a b c : Nat} (ha : 1 ≤ a) (h1 : belowB a b = true) (h2 : belowB b c = true) : belowB a c = true := by
  have hb := below_pos ha h1
  obtain ⟨i, p1, rfl⟩ := (below_iff ha).1 h1
  obtain ⟨j, p2, rfl⟩ := (below_iff hb).1 h2
  exact (below_iff ha).2 ⟨i + j, pow_div_le' p2, by rw [Nat.div_div_eq_div_mul, ← Nat.pow_add]⟩
theorem below_log {w v : Nat} (hw : 1 ≤ w) (h : belowB w v = true) : Nat.log2 v ≤ Nat.log2 w := by
  unfold belowB at h
  exact (of_decide_eq_true h).1
theorem below_same {a b c : Nat} (ha : 1 ≤ a) (h1 : belowB a b = true) (h2 : belowB a c = true) (he : Nat.log2 b = Nat.log2 c) : b = c := by
  unfold belowB at h1 h2
  have p1 := (of_decide_eq_true h1).2
  have p2 := (of_decide_eq_true h2).2
  rw [he] at p1; rw [← p1, p2]
/-! siblings -/
theorem sib_fin : ∀ n : Fin 128, (n.1 ^^^ 1) / 2 = n.1 / 2 ∧ n.1 ^^^ 1 ≠ n.1 ∧ n.1 ^^^ 1 < 128 ∧ (2 ≤ n.1 → Nat.log2 (n.1 ^^^ 1) = Nat.log2 n.1 ∧ 2 ≤ n.1 ^^^ 1) ∧ n.1 ^^^ 1 ^^^ 1 = n.1 := by decide +kernel
theorem sib_two : ∀ n : Fin 128, ∀ b : Fin 2, (2 * (n.1 / 2) + b.1 = n.1 ∨ 2 * (n.1 / 2) + b.1 = n.1 ^^^ 1) := by decide +kernel
theorem sib_eq {a b : Nat} (hb : b < 128) (h : a / 2 = b / 2) (hne : a ≠ b) : a = b ^^^ 1 := by
  have := sib_two ⟨b, hb⟩ ⟨a % 2, Nat.mod_lt _ (by omega)⟩
  have h2 : 2 * (b / 2) + a % 2 = a := by rw [← h]; omega
  simp only [h2] at this
  rcases this with h3 | h3
  · exact absurd h3 hne
  · exact h3
theorem sib_half {n : Nat} (h : n < 128) : (n ^^^ 1) / 2 = n / 2 := (sib_fin ⟨n, h⟩).1
theorem sib_ne {n : Nat} (h : n < 128) : n ^^^ 1 ≠ n := (sib_fin ⟨n, h⟩).2.1
theorem sib_lt {n : Nat} (h : n < 128) : n ^^^ 1 < 128 := (sib_fin ⟨n, h⟩).2.2.1
theorem sib_log {n : Nat} (h : n < 128) (h2 : 2 ≤ n) : Nat.log2 (n ^^^ 1) = Nat.log2 n := ((sib_fin ⟨n, h⟩).2.2.2.1 h2).1
theorem sib_two_le {n : Nat} (h : n < 128) (h2 : 2 ≤ n) : 2 ≤ n ^^^ 1 := ((sib_fin ⟨n, h⟩).2.2.2.1 h2).2
theorem sib_sib {n : Nat} (h : n < 128) : n ^^^ 1 ^^^ 1 = n := (sib_fin ⟨n, h⟩).2.2.2.2
theorem bit_xor {n : Nat} (h : n < 128) : bitI .xor (n : Int) 1 = ((n ^^^ 1 : Nat) : Int) := by
  have : ∀ n : Fin 128, bitI .xor (n.1 : Int) 1 = ((n.1 ^^^ 1 : Nat) : Int) := by decide +kernel
  exact this ⟨n, h⟩
/-! paths -/
theorem pathN_mem {w k n : Nat} : n ∈ pathN w k ↔ ∃ j, j < k ∧ n = w / 2 ^ j := by
  induction k with
  | zero => simp [pathN]
  | succ k ih =>
    rw [pathN, List.mem_cons, ih]
    constructor
    · rintro (rfl | ⟨j, hj, rfl⟩)
      · exact ⟨k, by omega, rfl⟩
      · exact ⟨j, by omega, rfl⟩
    · rintro ⟨j, hj, rfl⟩
      rcases Nat.lt_or_ge j k with h | h
      · exact .inr ⟨j, h, rfl⟩
      · obtain rfl : j = k := by omega
        exact .inl rfl
theorem labK_mem {k : BitVec 8} {d leaf : Nat} {x : Nat × Nat} : ∀ {j : Nat}, x ∈ labK k d leaf j ↔ ∃ i t, i < j ∧ t ≤ i ∧ x = (leaf / 2 ^ (i + 1), (leaf / 2 ^ t) ^^^ 1) ∧ subN k d x.1 x.2 = true
  | 0 => by simp [labK]
  | j + 1 => by
    rw [labK, List.mem_append, labK_mem, List.mem_map]
    constructor
    · rintro (⟨p, hp, rfl⟩ | ⟨i, t, h1, h2, h3⟩)
      · rw [List.mem_filter, pathN_mem] at hp
        obtain ⟨⟨t, ht, rfl⟩, hs⟩ := hp
        exact ⟨j, t, by omega, by omega, rfl, hs⟩
      · exact ⟨i, t, by omega, h2, h3⟩
    · rintro ⟨i, t, h1, h2, rfl, h4⟩
      rcases Nat.lt_or_ge i j with h | h
      · exact .inr ⟨i, t, h, h2, rfl, h4⟩
      · obtain rfl : i = j := by omega
        exact .inl ⟨_, List.mem_filter.2 ⟨pathN_mem.2 ⟨t, by omega, rfl⟩, h4⟩, rfl⟩
/-- no special node strictly between -/
theorem fst0 {d : Nat} {l : List Nat} (hl : ∀ n ∈ l, 1 ≤ n) : fstS d l = 0 ↔ ∀ n ∈ l, spcl d n = false := by
  unfold fstS
  cases h : l.find? (spcl d) with
  | none =>
    rw [List.find?_eq_none] at h
    exact ⟨fun _ n hn => by simpa using h n hn, fun _ => rfl⟩
  | some a =>
    have h1 := List.find?_some h
    have h2 := List.mem_of_find?_eq_some h
    constructor
    · intro h0; simp at h0; have := hl a h2; omega
    · intro h0; rw [h0 a h2] at h1; cases h1
theorem subN_up {k : BitVec 8} {d n m i K : Nat} (hm : m < 128) (hK : 2 ^ K ≤ m) (hn : n = m / 2 ^ K) (hi : i < K) (h : subN k d n m = true) : subN k d n (m / 2 ^ i) = true := by
  unfold subN at h ⊢
  simp only [Bool.or_eq_true, decide_eq_true_eq] at h ⊢
  rcases h with h | h
  · exact .inl h
  · refine .inr ?_
    have hi2 : 2 ^ i ≤ m := Nat.le_trans (Nat.pow_le_pow_right (by omega) (by omega)) hK
    have l1 := log2_div m K hK
    have l2 := log2_div m i hi2
    rw [← hn] at l1
    have hp : ∀ a b, b + 1 ≤ Nat.log2 a → 1 ≤ a → ∀ x ∈ pathN (a / 2) b, 1 ≤ x := by
      intro a b hb ha x hx
      obtain ⟨j, hj, rfl⟩ := pathN_mem.1 hx
      rw [Nat.div_div_eq_div_mul, show 2 * 2 ^ j = 2 ^ (j + 1) from by rw [Nat.pow_succ, Nat.mul_comm]]
      exact div_pos' ((Nat.le_log2 (by omega)).1 (by omega))
    rw [fst0 (hp _ _ (by omega) (by have := Nat.two_pow_pos K; omega))] at h
    rw [fst0 (hp _ _ (by omega) (div_pos' hi2))]
    intro x hx
    obtain ⟨j, hj, rfl⟩ := pathN_mem.1 hx
    refine h _ (pathN_mem.2 ⟨i + j, by omega, ?_⟩)
    rw [Nat.div_div_eq_div_mul, Nat.div_div_eq_div_mul, Nat.div_div_eq_div_mul, Nat.pow_add]
    congr 1
    exact Nat.mul_left_comm _ _ _
/-- two paths that part: the nodes at which they do are siblings -/
theorem part_at {f g : Nat → Nat} : ∀ (k : Nat), f 0 = g 0 → f k ≠ g k → ∃ i, i < k ∧ f i = g i ∧ f (i + 1) ≠ g (i + 1)
  | 0, h, hk => absurd h hk
  | k + 1, h, hk => by
    by_cases hk' : f k = g k
    · exact ⟨k, by omega, hk', hk⟩
    · obtain ⟨i, h1, h2⟩ := part_at k h hk'
      exact ⟨i, by omega, h2⟩
/-- a leaf that is below n and not below m, which is strictly below n: a sibling of a node above the leaf is above m -/
theorem part_label {leaf n m K k d : Nat} (hl : leaf < 128) (hK : 2 ^ K ≤ leaf) (hn : n = leaf / 2 ^ K) (hk : 2 ^ (k + 1) ≤ m) (hm : m < 128) (hn2 : n = m / 2 ^ (k + 1)) (hle : Nat.log2 m ≤ Nat.log2 leaf) (hnb : belowB leaf m = false) :
    ∃ t i, t < K ∧ i ≤ k ∧ (leaf / 2 ^ t) ^^^ 1 = m / 2 ^ i := by
  have lp : 1 ≤ leaf := by have := Nat.two_pow_pos K; omega
  have l1 := log2_div leaf K hK
  have l2 := log2_div m (k + 1) hk
  rw [← hn] at l1; rw [← hn2] at l2
  have hKk : k + 1 ≤ K := by omega
  obtain ⟨i, hi, e1, e2⟩ := part_at (f := fun i => m / 2 ^ (k + 1 - i)) (g := fun i => leaf / 2 ^ (K - i)) (k + 1) (by simp only [Nat.sub_zero]; rw [← hn, ← hn2]) (by
    simp only [Nat.sub_self, Nat.pow_zero, Nat.div_one]
    intro e
    have : belowB leaf m = true := (below_iff lp).2 ⟨K - (k + 1), Nat.le_trans (Nat.pow_le_pow_right (by omega) (by omega)) hK, e⟩
    rw [this] at hnb; cases hnb)
  refine ⟨K - (i + 1), k + 1 - (i + 1), by omega, by omega, ?_⟩
  have hh : ∀ a b, a / 2 ^ (b + 1) = a / 2 ^ b / 2 := fun a b => by rw [Nat.pow_succ, Nat.div_div_eq_div_mul]
  have e3 : m / 2 ^ (k + 1 - (i + 1)) / 2 = leaf / 2 ^ (K - (i + 1)) / 2 := by
    rw [← hh, ← hh, show k + 1 - (i + 1) + 1 = k + 1 - i from by omega, show K - (i + 1) + 1 = K - i from by omega]; exact e1
  exact (sib_eq (Nat.lt_of_le_of_lt (Nat.div_le_self _ _) hl) e3 e2).symm
/-- whether a label leads to a subset, plainly -/
def ldN (k : BitVec 8) (n m : Nat) (a : Nat × Nat) : Bool := if k = 1#8 ∨ m = 0 then decide (a.1 = n ∧ a.2 = m) else decide (a.1 = n ∧ 1 ≤ a.2) && belowB a.2 n && belowB m a.2
/-- what a subset is, plainly -/
def subP (k : BitVec 8) (d n m : Nat) : Bool :=
  decide (1 ≤ n ∧ n < 2 ^ (d + 1)) && (if k = 1#8 then decide (m = 0) else if m = 0 then decide (n = 1) else decide (m < 2 ^ (d + 1) ∧ m ≠ n) && belowB m n && subN k d n m)
theorem leaf_log {d u : Nat} (hu : u < 2 ^ d) : Nat.log2 (2 ^ d + u) = d := by
  rw [Nat.log2_eq_iff (by have := Nat.two_pow_pos d; omega), Nat.pow_succ]; omega
theorem node_log {d n : Nat} (h1 : 1 ≤ n) (h : n < 2 ^ (d + 1)) : Nat.log2 n ≤ d := by
  have := (Nat.log2_lt (n := n) (k := d + 1) (by omega)).2 h; omega
theorem lead_mem {k : BitVec 8} {d u n m : Nat} (hd : d ≤ 6) (hu : u < 2 ^ d) (h : subP k d n m = true) : (labN k d u).any (ldN k n m) = memB (2 ^ d + u) n m := by
  have h64 := pow_le64 hd
  have hp := Nat.two_pow_pos d
  have hlog := leaf_log hu
  have hpow : 2 ^ (d + 1) = 2 * 2 ^ d := by rw [Nat.pow_succ, Nat.mul_comm]
  have lp : 1 ≤ 2 ^ d + u := by omega
  unfold subP at h
  simp only [Bool.and_eq_true, decide_eq_true_eq] at h
  obtain ⟨⟨hn1, hn2⟩, h⟩ := h
  -- a node above the leaf
  have anc : belowB (2 ^ d + u) n = true ↔ n = 1 ∨ n ∈ pathN (2 ^ d + u) d := by
    rw [below_iff lp, pathN_mem]
    constructor
    · rintro ⟨j, h1, rfl⟩
      have hj : j ≤ d := by have := log2_div _ _ h1; omega
      rcases Nat.lt_or_ge j d with hj2 | hj2
      · exact .inr ⟨j, hj2, rfl⟩
      · obtain rfl : j = d := by omega
        left
        rw [Nat.add_div_left _ hp, Nat.div_eq_of_lt hu]
    · rintro (rfl | ⟨j, hj, rfl⟩)
      · exact ⟨d, by omega, by rw [Nat.add_div_left _ hp, Nat.div_eq_of_lt hu]⟩
      · exact ⟨j, Nat.le_trans (Nat.pow_le_pow_right (by omega) (by omega)) (Nat.le_add_right _ _), rfl⟩
  by_cases hk : k = 1#8
  · rw [if_pos hk, decide_eq_true_eq] at h
    subst h
    unfold memB labN
    rw [if_pos hk, decide_eq_true rfl, Bool.true_or, Bool.and_true, Bool.eq_iff_iff, anc, List.any_cons, Bool.or_eq_true, List.any_map, List.any_eq_true]
    unfold ldN
    simp only [hk, true_or, if_true, decide_eq_true_eq, Function.comp, and_true]
    constructor
    · rintro (h | ⟨x, hx, rfl⟩)
      · exact .inl h.symm
      · exact .inr hx
    · rintro (h | h)
      · exact .inl h.symm
      · exact .inr ⟨n, h, rfl⟩
  · rw [if_neg hk] at h
    by_cases hm : m = 0
    · rw [if_pos hm, decide_eq_true_eq] at h
      subst hm; subst h
      unfold memB
      rw [decide_eq_true rfl, Bool.true_or, Bool.and_true, anc.2 (.inl rfl), List.any_eq_true]
      exact ⟨(1, 0), by simp [labN], by simp [ldN]⟩
    · rw [if_neg hm] at h
      simp only [Bool.and_eq_true, decide_eq_true_eq] at h
      obtain ⟨⟨⟨hm2, hne⟩, hb⟩, hs⟩ := h
      have hm1 : 1 ≤ m := by omega
      obtain ⟨j, hj1, hj2, hj3⟩ := below_split hm1 hn1 hb hne
      have hlm := node_log hm1 hm2
      unfold memB
      rw [decide_eq_false hm, Bool.false_or, Bool.eq_iff_iff, List.any_eq_true, Bool.and_eq_true, Bool.not_eq_true']
      have hld : ∀ a, ldN k n m a = true ↔ (a.1 = n ∧ 1 ≤ a.2) ∧ belowB a.2 n = true ∧ belowB m a.2 = true := fun a => by
        unfold ldN; rw [if_neg (by simp [hk, hm])]; simp only [Bool.and_eq_true, decide_eq_true_eq, and_assoc]
      constructor
      · rintro ⟨a, ha, hl⟩
        obtain ⟨⟨e1, e2⟩, e3, e4⟩ := (hld a).1 hl
        unfold labN at ha
        rw [if_neg hk] at ha
        rcases List.mem_cons.1 ha with rfl | ha
        · simp at e2
        · obtain ⟨i, t, h1, h2, h3, _⟩ := labK_mem.1 ha
          rw [h3] at e1 e2 e3 e4
          simp only at e1 e2 e3 e4
          have hi2 : 2 ^ (i + 1) ≤ 2 ^ d + u := Nat.le_trans (Nat.pow_le_pow_right (by omega) (by omega)) (Nat.le_add_right _ _)
          have ht2 : 2 ^ t ≤ 2 ^ d + u := Nat.le_trans (Nat.pow_le_pow_right (by omega) (by omega)) (Nat.le_add_right _ _)
          refine ⟨(below_iff lp).2 ⟨i + 1, hi2, e1.symm⟩, ?_⟩
          cases hc : belowB (2 ^ d + u) m with
          | false => rfl
          | true =>
            exfalso
            have hlt : (2 ^ d + u) / 2 ^ t < 128 := Nat.lt_of_le_of_lt (Nat.div_le_self _ _) (by omega)
            have lt1 := log2_div _ _ ht2
            have hp2 : 2 ≤ (2 ^ d + u) / 2 ^ t := by
              have hq : 2 ^ (t + 1) ≤ 2 ^ d + u := Nat.le_trans (Nat.pow_le_pow_right (by omega) (by omega)) hi2
              have := pow_div_le (i := t) (j := 1) hq
              simpa using this
            have h5 := below_trans lp hc e4
            have h6 : belowB (2 ^ d + u) ((2 ^ d + u) / 2 ^ t) = true := (below_iff lp).2 ⟨t, ht2, rfl⟩
            exact sib_ne hlt (below_same lp h5 h6 (sib_log hlt hp2))
      · rintro ⟨h1, h2⟩
        obtain ⟨K, hK1, hK2⟩ := (below_iff lp).1 h1
        obtain ⟨t, i, ht, hi, e⟩ := part_label (d := d) (by omega) hK1 hK2 hj3 (by omega) hj2 (by omega) h2
        have hKd := log2_div _ _ hK1
        have hi2 : 2 ^ i ≤ m := Nat.le_trans (Nat.pow_le_pow_right (by omega) (by omega)) hj3
        refine ⟨(n, m / 2 ^ i), ?_, (hld _).2 ⟨⟨rfl, div_pos' hi2⟩, ?_, (below_iff hm1).2 ⟨i, hi2, rfl⟩⟩⟩
        · unfold labN
          rw [if_neg hk]
          refine List.mem_cons_of_mem _ (labK_mem.2 ⟨K - 1, t, by omega, by omega, ?_, subN_up (by omega) hj3 hj2 (by omega) hs⟩)
          rw [show K - 1 + 1 = K from by omega, ← hK2, e]
        · refine (below_iff (div_pos' hi2)).2 ⟨j + 1 - i, ?_, ?_⟩
          · exact pow_div_le (by rw [show i + (j + 1 - i) = j + 1 from by omega]; exact hj3)
          · rw [Nat.div_div_eq_div_mul, ← Nat.pow_add, show i + (j + 1 - i) = j + 1 from by omega]; exact hj2
end Go.Sx

end
section
/- Labels that lead to subsets, and what is found by them: the mirrors of both sides come to the same. -/
set_option linter.unusedVariables false
set_option linter.unusedSimpArgs false
namespace Go.Sx
open Go

def LblI (l : TLabel) : Prop := I64 l.Node ∧ I64 l.Minus
theorem below_split0 {m q : Nat} (hm : 1 ≤ m) (h : belowB m q = true) : ∃ k, q = m / 2 ^ k ∧ 2 ^ k ≤ m := by
  unfold belowB at h
  obtain ⟨h1, h2⟩ := of_decide_eq_true h
  exact ⟨_, h2.symm, Nat.le_trans (Nat.pow_le_pow_right (by omega) (by omega)) (Nat.log2_self_le (by omega))⟩
/-- a label that leads to a subset below its Minus -/
def LdOk (l : TLabel) (x : TSubset) : Prop := ∃ q m k : Nat, l.Minus = (q : Int) ∧ x.Minus = (m : Int) ∧ q = m / 2 ^ k ∧ 2 ^ k ≤ m ∧ m < 128 ∧ k ≤ 6
theorem leads_eq (s : TScheme) (x : TSubset) (h : SubOk s x) (l : TLabel) (hl : LblI l) : ∃ b, cover_tree_leads (treeI s) l x = some b ∧ ref03_leads s l.Node l.Minus x = some b ∧ (b = true → s.Kind = 1#8 ∨ x.Minus = 0 ∨ LdOk l x) := by
  unfold cover_tree_leads ref03_leads
  rw [show (treeI s).kind = s.Kind from rfl]
  have hno : false = true → s.Kind = 1#8 ∨ x.Minus = 0 ∨ LdOk l x := fun h => by cases h
  by_cases hk : s.Kind = 1#8
  · rw [if_pos hk, if_pos hk]
    unfold cover_tree_leads_J1 ref03_leads_J1
    rw [cond_true, cond_true]
    by_cases hn : l.Node = x.Node
    · rw [if_neg (by simp [hn]), if_pos hn]; exact ⟨_, rfl, rfl, fun _ => .inl hk⟩
    · rw [if_pos hn, if_neg hn]; exact ⟨_, rfl, rfl, hno⟩
  · rw [if_neg hk, if_neg hk]
    by_cases hn : l.Node = x.Node
    · rw [if_neg (by simp [hn])]
      unfold cover_tree_leads_J1 ref03_leads_J1
      by_cases hm : x.Minus = 0
      · rw [decide_eq_true hm, cond_true, cond_true, if_pos hn]; exact ⟨_, rfl, rfl, fun _ => .inr (.inl hm)⟩
      · rw [decide_eq_false hm, cond_false, cond_false, if_pos hn]
        rcases h.2 with h3 | h3 | ⟨m, n, k, hm1, hn1, hk1, hk2, hm2, hk3, hn2⟩
        · exact absurd h3 hk
        · exact absurd h3 hm
        · have hmp : 1 ≤ m := by have := Nat.two_pow_pos (k + 1); omega
          have hnm : n ≤ m := by rw [hk1]; exact Nat.div_le_self _ _
          obtain ⟨b1, b2⟩ := hl
          unfold I64 at b1 b2
          by_cases h1 : (1 : Int) ≤ l.Minus
          · obtain ⟨q, hq⟩ : ∃ q : Nat, l.Minus = (q : Int) := ⟨l.Minus.toNat, by omega⟩
            have e1 : cover_node_below l.Minus l.Node = some (belowB q n) := by rw [hn, hq, hn1]; exact below_eq (by omega) hn2 (by omega) (by omega)
            have e2 : ref03_Below l.Minus l.Node = some (belowB q n) := by rw [hn, hq, hn1]; exact rbelow_eq (by omega) hn2 (by omega)
            have e3 : cover_node_below x.Minus l.Minus = some (belowB m q) := by rw [hq, hm1]; exact below_eq hmp (by omega) (by omega) (by omega)
            have e4 : ref03_Below x.Minus l.Minus = some (belowB m q) := by rw [hq, hm1]; exact rbelow_eq hmp (by omega) (by omega)
            rw [if_pos h1, e1, e2, bind_some, bind_some]
            cases belowB q n with
            | false => exact ⟨_, rfl, rfl, hno⟩
            | true =>
              rw [cond_true, cond_true, e3, e4, bind_some]
              refine ⟨_, rfl, rfl, fun hb => ?_⟩
              obtain ⟨k', h5, h6⟩ := below_split0 hmp hb
              exact .inr (.inr ⟨q, m, k', hq, hm1, h5, h6, hm2, le_log h6 hm2⟩)
          · rw [if_neg h1]
            have e1 : cover_node_below l.Minus l.Node = some false := by
              unfold cover_node_below cover_node_below_J1
              rw [if_pos (by omega)]; rfl
            rw [e1, bind_some]
            exact ⟨_, rfl, rfl, hno⟩
    · rw [if_pos hn]
      unfold ref03_leads_J1
      cases decide (x.Minus = 0) with
      | true => rw [cond_true, if_neg hn]; exact ⟨_, rfl, rfl, hno⟩
      | false => rw [cond_false, if_neg hn]; exact ⟨_, rfl, rfl, hno⟩
theorem find_loop (s : TScheme) (c : TSecret) (hc : c.Labels.length < 4611686018427387904) (hok : ∀ l ∈ c.Labels, LblI l) (x : TSubset) (h : SubOk s x) : ∀ (m j f f' : Nat), c.Labels.length - j = m → j ≤ c.Labels.length → m < f → m < f' →
    ∃ r, fixN (cover_tree_find_L1 (treeI s) c x) f (j : Int) = some r ∧ fixN (ref03_Leads_L1 s c x) f' (j : Int) = some r
  | m, j, 0, _, _, _, h, _ => by omega
  | m, j, _ + 1, 0, _, _, _, h => by omega
  | 0, j, f + 1, f' + 1, hm, hj, _, _ => by
    rw [fix_step, fix_step]; simp only [cover_tree_find_L1, ref03_Leads_L1]
    rw [if_neg (by omega), if_neg (by omega)]
    exact ⟨_, rfl, rfl⟩
  | m + 1, j, f + 1, f' + 1, hm, hj, hf, hf' => by
    rw [fix_step, fix_step]; simp only [cover_tree_find_L1, ref03_Leads_L1]
    have hjl : j < c.Labels.length := by omega
    obtain ⟨b, e1, e2, hb⟩ := leads_eq s x h c.Labels[j] (hok _ (List.getElem_mem hjl))
    rw [if_pos (by omega), if_pos (by omega), getI_some hjl, bind_some, bind_some, e1, e2, bind_some, bind_some]
    cases b with
    | false =>
      simp only [Bool.not_false, cond_true]
      rw [w64_id (by omega) (by omega)]
      exact find_loop s c hc hok x h m (j + 1) f f' (by omega) (by omega) (by omega) (by omega)
    | true =>
      simp only [Bool.not_true, cond_false]
      rw [show (treeI s).kind = s.Kind from rfl]
      unfold cover_tree_find_J2 ref03_Leads_J2
      by_cases hk : s.Kind = 1#8
      · rw [if_pos hk, if_pos hk]; exact ⟨_, rfl, rfl⟩
      · rw [if_neg hk, if_neg hk]
        by_cases hm0 : x.Minus = 0
        · rw [decide_eq_true hm0]; exact ⟨_, rfl, rfl⟩
        · rw [decide_eq_false hm0, cond_false, cond_false]
          rcases hb rfl with h3 | h3 | ⟨q, m', k, hq, hm1, hk1, hk2, hm2, hk3⟩
          · exact absurd h3 hk
          · exact absurd h3 hm0
          · have e3 : cover_descend c.Labels[j].Key c.Labels[j].Minus x.Minus = some ((pathN m' k).foldl stp c.Labels[j].Key) := by rw [hq, hm1, hk1]; exact descend_eq _ (by omega) hk2 (by omega)
            have e4 : ref03_down c.Labels[j].Key c.Labels[j].Minus x.Minus = some ((pathN m' k).foldl stp c.Labels[j].Key) := by rw [hq, hm1, hk1]; exact down_eq _ (by omega) hk2 (by omega)
            rw [e3, e4, bind_some, bind_some]
            exact ⟨_, rfl, rfl⟩
theorem find_eq (s : TScheme) (c : TSecret) (hc : c.Labels.length < 4611686018427387904) (hok : ∀ l ∈ c.Labels, LblI l) (x : TSubset) (h : SubOk s x) : ∃ r, cover_tree_find (treeI s) c x = some r ∧ ref03_Leads s c x = some r :=
  find_loop s c hc hok x h _ 0 FUEL FUEL rfl (by omega) (fuel_lt (by omega)) (fuel_lt (by omega))
/-! subsets, plainly -/
theorem isSub_eq {s : TScheme} {d : Nat} (hv : vldB s = true) (hd : s.Depth = (d : Int)) (h6 : d ≤ 6) (n m : Nat) : ref03_IsSubset s ⟨(n : Int), (m : Int)⟩ = some (subP s.Kind d n m) := by
  have h64 := pow_le64 h6
  have hpow : 2 ^ (d + 1) = 2 * 2 ^ d := by rw [Nat.pow_succ, Nat.mul_comm]
  have hh : ∀ a : Nat, hasN d (a : Int) = decide (1 ≤ a ∧ a < 2 ^ (d + 1)) := fun a => by
    unfold hasN; apply decide_eq_decide.2; rw [hpow]; omega
  unfold ref03_IsSubset subP
  rw [hd, node_eq h6, bind_some, hh]
  by_cases hn : 1 ≤ n ∧ n < 2 ^ (d + 1)
  · rw [decide_eq_true hn]
    simp only [Bool.not_true, cond_false, Bool.true_and]
    by_cases hk : s.Kind = 1#8
    · rw [if_pos hk, if_pos hk]; congr 1; apply decide_eq_decide.2; omega
    · rw [if_neg hk, if_neg hk]
      by_cases hm : m = 0
      · rw [if_pos (by omega), if_pos hm]; congr 1; apply decide_eq_decide.2; omega
      · rw [if_neg (by omega), if_neg hm, node_eq h6, bind_some, hh]
        by_cases hm2 : m < 2 ^ (d + 1)
        · rw [decide_eq_true (by omega)]
          simp only [Bool.not_true, cond_false]
          by_cases he : m = n
          · rw [if_pos (by omega), decide_eq_false (by omega)]; rfl
          · rw [if_neg (by omega), rbelow_eq (by omega) (by omega) (by omega), bind_some, decide_eq_true (by omega), Bool.true_and]
            unfold ref03_IsSubset_J1 subN
            cases hb : belowB m n with
            | false => rfl
            | true =>
              simp only [Bool.not_true, cond_false, Bool.true_and]
              by_cases hk2 : s.Kind = 2#8
              · rw [if_pos hk2, decide_eq_true hk2]; rfl
              · rw [if_neg hk2, decide_eq_false hk2, Bool.false_or, hd, rspecial_eq h6 (by omega), bind_some]
                cases spcl d n with
                | true => rfl
                | false =>
                  rw [cond_false, Bool.false_or]
                  obtain ⟨k, hk0, hk1, hk3⟩ := below_split (by omega) hn.1 hb he
                  have hkl := le_log hk3 (by omega)
                  have := between_eq (d := d) (m := m) (k := k) h6 (by omega) hk3 (by omega)
                  rw [← hk1] at this
                  rw [this, bind_some, show Nat.log2 m - Nat.log2 n - 1 = k from by omega]
                  congr 1; apply decide_eq_decide.2; omega
        · rw [decide_eq_false (p := 1 ≤ m ∧ _) (by omega), decide_eq_false (p := m < _ ∧ _) (by omega)]; rfl
  · rw [decide_eq_false hn]; rfl
theorem subP_bd {k : BitVec 8} {d n m : Nat} (h6 : d ≤ 6) (h : subP k d n m = true) : 1 ≤ n ∧ n < 128 ∧ m < 128 ∧ (k = 1#8 ∨ m = 0 ∨ (belowB m n = true ∧ m ≠ n)) := by
  have h64 := pow_le64 h6
  have hpow : 2 ^ (d + 1) = 2 * 2 ^ d := by rw [Nat.pow_succ, Nat.mul_comm]
  unfold subP at h
  simp only [Bool.and_eq_true, decide_eq_true_eq] at h
  obtain ⟨⟨h1, h2⟩, h⟩ := h
  by_cases hk : k = 1#8
  · rw [if_pos hk, decide_eq_true_eq] at h; exact ⟨h1, by omega, by omega, .inl hk⟩
  · rw [if_neg hk] at h
    by_cases hm : m = 0
    · exact ⟨h1, by omega, by omega, .inr (.inl hm)⟩
    · rw [if_neg hm] at h
      simp only [Bool.and_eq_true, decide_eq_true_eq] at h
      exact ⟨h1, by omega, by omega, .inr (.inr ⟨h.1.2, h.1.1.2⟩)⟩
/-- a subset: its nodes, and what the mirrors say -/
theorem sub_cases {s : TScheme} {d : Nat} (hv : vldB s = true) (hd : s.Depth = (d : Int)) (h6 : d ≤ 6) (x : TSubset) :
    (cover_enter s [x] = some (Tcover_tree.mk 0#8 0 0, 31) ∧ ref03_IsSubset s x = some false ∧ cover_tree_subset (treeI s) x = some false) ∨
    (cover_enter s [x] = some (treeI s, 0) ∧ ref03_IsSubset s x = some true ∧ cover_tree_subset (treeI s) x = some true ∧ SubOk s x ∧ ∃ n m : Nat, x = ⟨(n : Int), (m : Int)⟩ ∧ SubN s x n m ∧ subP s.Kind d n m = true) := by
  obtain ⟨b, e1, e2, e3, e4⟩ := enter1 s hv x
  cases b with
  | false => exact .inl ⟨e1, e2, e3⟩
  | true =>
    obtain ⟨h1, n, m, h2⟩ := e4 rfl
    have hx : x = ⟨(n : Int), (m : Int)⟩ := by cases x; simp only [SubN] at h2; rw [h2.1, h2.2.1]
    refine .inr ⟨e1, e2, e3, h1, n, m, hx, h2, ?_⟩
    have := isSub_eq hv hd h6 n m
    rw [← hx, e2] at this
    exact (Option.some.inj this).symm
theorem leads_plain {s : TScheme} {d n m : Nat} (h6 : d ≤ 6) (hs : subP s.Kind d n m = true) {a : Nat × Nat} (ha : a.1 < 128 ∧ a.2 < 128) (key : W2) :
    cover_tree_leads (treeI s) (TLabel.mk (a.1 : Int) (a.2 : Int) key) ⟨(n : Int), (m : Int)⟩ = some (ldN s.Kind n m a) ∧ ref03_leads s (a.1 : Int) (a.2 : Int) ⟨(n : Int), (m : Int)⟩ = some (ldN s.Kind n m a) := by
  obtain ⟨hn1, hn2, hm2, _⟩ := subP_bd h6 hs
  unfold cover_tree_leads ref03_leads
  rw [show (treeI s).kind = s.Kind from rfl]
  simp only
  by_cases hk : s.Kind = 1#8
  · have hl : ldN s.Kind n m a = decide (a.1 = n ∧ a.2 = m) := if_pos (.inl hk)
    rw [if_pos hk, if_pos hk, hl]
    unfold cover_tree_leads_J1 ref03_leads_J1
    rw [cond_true, cond_true]
    simp only
    by_cases he : a.1 = n
    · rw [if_neg (by omega), if_pos (by omega)]
      refine ⟨?_, ?_⟩ <;> (congr 1; apply decide_eq_decide.2; omega)
    · rw [if_pos (by omega), if_neg (by omega), decide_eq_false (by omega)]; exact ⟨rfl, rfl⟩
  · rw [if_neg hk, if_neg hk]
    by_cases hm : m = 0
    · have hl : ldN s.Kind n m a = decide (a.1 = n ∧ a.2 = m) := if_pos (.inr hm)
      rw [hl]
      unfold cover_tree_leads_J1 ref03_leads_J1
      rw [decide_eq_true (by omega), cond_true, cond_true]
      simp only
      by_cases he : a.1 = n
      · rw [if_neg (by omega), if_pos (by omega)]
        refine ⟨?_, ?_⟩ <;> (congr 1; apply decide_eq_decide.2; omega)
      · rw [if_pos (by omega), if_neg (by omega), decide_eq_false (by omega)]; exact ⟨rfl, rfl⟩
    · have hl : ldN s.Kind n m a = (decide (a.1 = n ∧ 1 ≤ a.2) && belowB a.2 n && belowB m a.2) := if_neg (by rintro (h | h); exact hk h; exact hm h)
      rw [hl]
      unfold cover_tree_leads_J1 ref03_leads_J1
      rw [decide_eq_false (by omega), cond_false, cond_false]
      simp only
      by_cases he : a.1 = n
      · rw [if_neg (by omega), if_pos (by omega)]
        by_cases h1 : 1 ≤ a.2
        · rw [if_pos (by omega), decide_eq_true (by omega), Bool.true_and, he, below_eq h1 hn1 (by omega) (by omega), rbelow_eq h1 hn1 (by omega), bind_some, bind_some]
          cases belowB a.2 n with
          | false => exact ⟨rfl, rfl⟩
          | true => rw [cond_true, cond_true, below_eq (by omega) h1 (by omega) (by omega), rbelow_eq (by omega) h1 (by omega), bind_some, Bool.true_and]; exact ⟨rfl, rfl⟩
        · have h0 : a.2 = 0 := by omega
          rw [if_neg (by omega), decide_eq_false (by omega), Bool.false_and, Bool.false_and]
          refine ⟨?_, rfl⟩
          have : cover_node_below (a.2 : Int) (a.1 : Int) = some false := by
            unfold cover_node_below cover_node_below_J1; rw [if_pos (by omega)]; rfl
          rw [this, bind_some]; rfl
      · rw [if_pos (by omega), if_neg (by omega), decide_eq_false (by omega)]; exact ⟨rfl, rfl⟩
end Go.Sx

end
section
/- Work and Knows: the mirrors of both sides come to the same. -/
set_option linter.unusedVariables false
set_option linter.unusedSimpArgs false
namespace Go.Sx
open Go

theorem range_find {α : Type} (p : α → Bool) (l : List α) (q : Nat → Bool) (hq : ∀ j (h : j < l.length), q j = p l[j]) : (∃ j, ∃ h : j < l.length, (List.range l.length).find? q = some j ∧ l.find? p = some l[j]) ∨ ((List.range l.length).find? q = none ∧ l.find? p = none) := by
  cases hf : (List.range l.length).find? q with
  | none =>
    rw [List.find?_eq_none] at hf
    refine .inr ⟨rfl, List.find?_eq_none.2 fun x hx => ?_⟩
    obtain ⟨j, hj, rfl⟩ := List.mem_iff_getElem.1 hx
    rw [← hq j hj]; exact hf j (by simpa using hj)
  | some j =>
    have hm := List.mem_of_find?_eq_some hf
    have hj : j < l.length := by simpa using hm
    refine .inl ⟨j, hj, rfl, ?_⟩
    rw [List.find?_eq_some_iff_append] at hf ⊢
    obtain ⟨h1, a1, bs, h2, h3⟩ := hf
    refine ⟨by rw [← hq j hj]; exact h1, l.take j, l.drop (j + 1), ?_, ?_⟩
    · rw [← List.drop_eq_getElem_cons hj, List.take_append_drop]
    · intro a ha
      obtain ⟨i, hi, rfl⟩ := List.mem_iff_getElem.1 ha
      have hi' : i < j := by simp at hi; omega
      rw [List.getElem_take, ← hq i (by omega)]
      have has : a1.length = j := by
        have h4 : (List.range l.length)[a1.length]? = some j := by rw [h2]; simp
        rw [List.getElem?_range (by
          have : a1.length < (List.range l.length).length := by rw [h2]; simp
          simpa using this)] at h4
        exact Option.some.inj h4
      have h5 : i ∈ a1 := by
        have h6 : (List.range l.length)[i]? = some i := List.getElem?_range (by omega)
        rw [h2, List.getElem?_append_left (by omega)] at h6
        exact List.mem_of_getElem? h6
      exact h3 i h5
section
variable {s : TScheme} {d u n m : Nat}
/-- the first label that leads to a subset -/
def ledN (s : TScheme) (d u n m : Nat) : Option (Nat × Nat) := (labN s.Kind d u).find? (ldN s.Kind n m)
theorem known_eq (hv : vldB s = true) (hd : s.Depth = (d : Int)) (h6 : d ≤ 6) (hu : u < 2 ^ d) (hs : subP s.Kind d n m = true) :
    (∃ (j : Nat) (a : Nat × Nat), ref03_Known s (u : Int) ⟨(n : Int), (m : Int)⟩ = some (j : Int) ∧ ledN s d u n m = some a ∧ getI (labS s.Kind d u) (j : Int) = some ⟨(a.1 : Int), (a.2 : Int)⟩) ∨ (ref03_Known s (u : Int) ⟨(n : Int), (m : Int)⟩ = some (-1) ∧ ledN s d u n m = none) := by
  obtain ⟨e1, e2, e3, e4⟩ := labels_eq hv hd h6 hu
  have hls : (labS s.Kind d u).length = (labN s.Kind d u).length := by simp [labS]
  unfold ref03_Known ledN
  rw [e2, bind_some]
  have := fix_range (labN s.Kind d u).length (ref03_Known_L1 s ⟨(n : Int), (m : Int)⟩ (labS s.Kind d u)) (fun j (_ : Unit) => (j : Int)) (fun (j : Nat) nx s' => bif ((labN s.Kind d u)[j]?.map (ldN s.Kind n m)).getD false then some (j : Int) else nx s') (fun _ => some (-1))
    (fun rec j hj _ => by
      have hj' : j < (labS s.Kind d u).length := by omega
      have hg : (labS s.Kind d u)[j] = TSubset.mk ((labN s.Kind d u)[j].1 : Int) ((labN s.Kind d u)[j].2 : Int) := by simp [labS]
      have hok := e4 _ (List.getElem_mem hj)
      simp only [ref03_Known_L1]
      rw [if_pos (by omega), getI_some hj', bind_some, bind_some, hg]
      simp only
      rw [(leads_plain h6 hs ⟨hok.1.2.1, hok.1.2.2⟩ k0).2, bind_some, w64_nat (by omega), List.getElem?_eq_getElem hj, Option.map_some, Option.getD_some])
    (fun rec _ => by simp only [ref03_Known_L1]; rw [if_neg (by omega)]) (f := FUEL) (fuel_lt (by omega)) ()
  rw [show ((0 : Nat) : Int) = 0 from rfl] at this
  rw [this, itL_find (fun (j : Nat) => ((labN s.Kind d u)[j]?.map (ldN s.Kind n m)).getD false) (fun (j : Nat) _ => some (j : Int)) _ _ _ _ (fun a _ nx s => rfl)]
  rcases range_find (ldN s.Kind n m) (labN s.Kind d u) (fun j => ((labN s.Kind d u)[j]?.map (ldN s.Kind n m)).getD false) (fun j hj => by simp only [List.getElem?_eq_getElem hj, Option.map_some, Option.getD_some]) with ⟨j, hj, h1, h2⟩ | ⟨h1, h2⟩
  · rw [h1, h2]
    refine .inl ⟨j, _, rfl, rfl, ?_⟩
    rw [getI_some (by omega)]; simp [labS]
  · rw [h1, h2]; exact .inr ⟨rfl, rfl⟩
theorem led_mem (h6 : d ≤ 6) (hu : u < 2 ^ d) (hs : subP s.Kind d n m = true) : memB (2 ^ d + u) n m = (ledN s d u n m).isSome := by
  rw [← lead_mem h6 hu hs]
  unfold ledN
  rw [Bool.eq_iff_iff, List.find?_isSome, List.any_eq_true]
/-- how many derivations, plainly -/
def wrkN (s : TScheme) (d u n m : Nat) : Int × Int := match ledN s d u n m with
  | some a => if a.2 = 0 then (0, 0) else (((Nat.log2 m - Nat.log2 a.2 + 1 : Nat) : Int), 0)
  | none => (0, 6)
theorem pwork_eq (hv : vldB s = true) (hd : s.Depth = (d : Int)) (h6 : d ≤ 6) (hu : u < 2 ^ d) (hs : subP s.Kind d n m = true) :
    itL (cover_Work_R1 ⟨(n : Int), (m : Int)⟩ (treeI s, 0)) cover_Work_D1 (labI s.Kind d u) 0 = some (wrkN s d u n m) := by
  obtain ⟨e1, e2, e3, e4⟩ := labels_eq hv hd h6 hu
  obtain ⟨hn1, hn2, hm2, _⟩ := subP_bd h6 hs
  unfold labI
  rw [itL_map, itL_find (ldN s.Kind n m) (fun a _ => if a.2 = 0 then some (0, 0) else some (((Nat.log2 m - Nat.log2 a.2 + 1 : Nat) : Int), 0)) _ _ _ _ (fun a ha nx s' => by
    have hok := e4 a ha
    simp only [cover_Work_R1]
    rw [(leads_plain h6 hs ⟨hok.1.2.1, hok.1.2.2⟩ k0).1, bind_some]
    cases hl : ldN s.Kind n m a with
    | false => rfl
    | true =>
      simp only [Bool.not_true, cond_false, cond_true]
      by_cases h0 : a.2 = 0
      · rw [if_pos (by omega), if_pos h0]; rfl
      · rw [if_neg (by omega), if_neg h0]
        unfold ldN at hl
        by_cases hk : s.Kind = 1#8 ∨ m = 0
        · rw [if_pos hk, decide_eq_true_eq] at hl
          rcases hk with hk | hk
          · exact absurd (lab1 hk a ha) h0
          · omega
        · rw [if_neg hk] at hl
          simp only [Bool.and_eq_true, decide_eq_true_eq] at hl
          have hm1 : 1 ≤ m := by rw [not_or] at hk; omega
          have hll := below_log hm1 hl.2
          have l62 := log2_le62 (n := m) (by omega)
          rw [level_eq hm1 (by omega), level_eq (by omega) (by omega), bind_some, bind_some, w64_id (n := (Nat.log2 m : Int) - _) (by omega) (by omega), w64_id (by omega) (by omega)]
          unfold cover_Work_X1_0
          simp only
          congr 2; omega)]
  unfold wrkN ledN
  cases (labN s.Kind d u).find? (ldN s.Kind n m) with
  | none => rfl
  | some a =>
    simp only
    split <;> rfl
theorem Work_eq (s : TScheme) (u : Int) (x : TSubset) : ∃ r, cover_Work s u x = some r ∧ ref03_Work s u x = some r := by
  unfold cover_Work ref03_Work
  rw [enter0, valid_eq, bind_some, bind_some]
  cases hv : vldB s with
  | false => exact ⟨_, rfl, rfl⟩
  | true =>
    obtain ⟨d, hd, h6⟩ := vld_depth hv
    have ht : treeI s = ⟨s.Kind, (d : Int), (strd d : Int)⟩ := by unfold treeI; rw [hd, Int.toNat_natCast]
    simp only [if_true, Bool.not_true, cond_false]
    rw [if_neg (by simp), hd, rreceiver_eq h6]
    have e0 : cover_tree_receiver (treeI s) u = some (decide (0 ≤ u ∧ u < ((2 ^ d : Nat) : Int))) := by rw [ht]; exact receiver_eq h6
    rw [e0, bind_some, bind_some]
    by_cases hu : 0 ≤ u ∧ u < ((2 ^ d : Nat) : Int)
    · rw [decide_eq_true hu]
      simp only [Bool.not_true, cond_false]
      obtain ⟨w, hw⟩ : ∃ w : Nat, u = (w : Int) := ⟨u.toNat, by omega⟩
      subst hw
      have hu' : w < 2 ^ d := by omega
      rcases sub_cases hv hd h6 x with ⟨_, f1, f2⟩ | ⟨_, f1, f2, f3, n, m, rfl, f5, f6⟩
      · rw [f1, f2, bind_some, bind_some]; exact ⟨_, rfl, rfl⟩
      · rw [f1, f2, bind_some, bind_some]
        simp only [Bool.not_true, cond_false]
        obtain ⟨e1, e2, e3, e4⟩ := labels_eq hv hd h6 hu'
        unfold cover_tree_labels
        rw [bind_some]
        simp only
        have e1' : cover_tree_labels_1 (treeI s) (w : Int) = some (labI s.Kind d w) := by rw [ht]; exact e1
        have h64 := pow_le64 h6
        rw [e1', bind_some, pwork_eq hv hd h6 hu' f6, rhas_eq hd h6 (by omega) f5, bind_some, led_mem h6 hu' f6]
        unfold wrkN
        cases hl : ledN s d w n m with
        | none => exact ⟨_, rfl, rfl⟩
        | some a =>
          simp only [Option.isSome_some, Bool.not_true, cond_false]
          have ham : a ∈ labN s.Kind d w := List.mem_of_find?_eq_some hl
          have hal : ldN s.Kind n m a = true := List.find?_some hl
          have hok := e4 a ham
          have hj : ∀ b : Bool, b = decide (s.Kind = 1#8 ∨ m = 0) → ref03_Work_J1 s (w : Int) ⟨(n : Int), (m : Int)⟩ b = some (if a.2 = 0 then ((0 : Int), (0 : Int)) else (((Nat.log2 m - Nat.log2 a.2 + 1 : Nat) : Int), 0)) := by
            intro b hb
            unfold ref03_Work_J1
            unfold ldN at hal
            by_cases hk : s.Kind = 1#8 ∨ m = 0
            · rw [hb, decide_eq_true hk, cond_true]
              rw [if_pos hk, decide_eq_true_eq] at hal
              have : a.2 = 0 := by
                rcases hk with hk | hk
                · exact lab1 hk a ham
                · omega
              rw [if_pos this]
            · rw [hb, decide_eq_false hk, cond_false]
              rw [if_neg hk] at hal
              simp only [Bool.and_eq_true, decide_eq_true_eq] at hal
              have hm1 : 1 ≤ m := by rw [not_or] at hk; omega
              rcases known_eq hv hd h6 hu' f6 with ⟨j, a', g1, g2, g3⟩ | ⟨g1, g2⟩
              · rw [hl] at g2
                obtain rfl := Option.some.inj g2
                rw [e2, bind_some, g1, bind_some, g3, bind_some, if_neg (by omega)]
                unfold ref03_Work_J2
                obtain ⟨k, q1, q2⟩ := below_split0 hm1 hal.2
                have hkl := le_log q2 f5.2.2.2.2
                have := rpath_eq (w := m) (k := k) (by have := f5.2.2.2.2; omega) q2 (by omega)
                rw [← q1] at this
                simp only
                rw [this, bind_some]
                have hlg := log2_div m k q2
                rw [← q1] at hlg
                simp only [List.length_cons, List.length_map, pathN_len]
                congr 3; omega
              · rw [hl] at g2; cases g2
          refine ⟨_, rfl, ?_⟩
          by_cases hk : s.Kind = 1#8
          · rw [if_pos hk, hj true (by simp [hk])]
          · rw [if_neg hk, hj _ (by apply decide_eq_decide.2; simp only [hk, false_or]; omega)]
    · rw [decide_eq_false hu]; exact ⟨_, rfl, rfl⟩
end
/-! lists of receivers -/
/-- whether numbers are receivers, in ascending order -/
def lstB (d : Nat) (l : List Int) : Bool := (List.range l.length).all fun j => decide (0 ≤ l.getD j 0 ∧ l.getD j 0 < ((2 ^ d : Nat) : Int)) && (decide (j = 0) || decide (l.getD (j - 1) 0 < l.getD j 0))
theorem getD_some {l : List Int} {j : Nat} (h : j < l.length) : l.getD j 0 = l[j] := by simp [List.getD, h]
theorem all_itL {σ : Type} (p : Nat → Bool) : ∀ (l : List Nat) (F : Nat → (σ → Option Bool) → σ → Option Bool) (s : σ), (∀ a ∈ l, ∀ nx s, F a nx s = bif p a then nx s else some false) → itL F (fun _ => some true) l s = some (l.all p)
  | [], F, s, _ => rfl
  | a :: l, F, s, h => by
    rw [itL_cons, h a (by simp), List.all_cons]
    cases p a with
    | false => rfl
    | true => rw [cond_true, Bool.true_and]; exact all_itL p l F s (fun b hb => h b (by simp [hb]))
theorem list_eq {kd : BitVec 8} {d : Nat} {st : Int} (h6 : d ≤ 6) (l : List Int) (hl : l.length < 4611686018427387904) : cover_tree_list ⟨kd, (d : Int), st⟩ l = some (lstB d l) := by
  unfold cover_tree_list lstB
  have := fix_range l.length (cover_tree_list_L1 ⟨kd, (d : Int), st⟩ l) (fun j (_ : Unit) => (j : Int)) (fun j nx s => bif decide (0 ≤ l.getD j 0 ∧ l.getD j 0 < ((2 ^ d : Nat) : Int)) && (decide (j = 0) || decide (l.getD (j - 1) 0 < l.getD j 0)) then nx s else some false) (fun _ => some true)
    (fun rec j hj _ => by
      simp only [cover_tree_list_L1, cover_tree_list_J2]
      rw [if_pos (by omega), getI_some hj, bind_some, receiver_eq h6, bind_some, getD_some hj, w64_nat (by omega)]
      by_cases h : 0 ≤ l[j] ∧ l[j] < ((2 ^ d : Nat) : Int)
      · rw [decide_eq_true h]
        simp only [Bool.not_true, cond_false, Bool.true_and]
        by_cases h0 : j = 0
        · rw [if_neg (by omega), decide_eq_true h0]; rfl
        · have hj1 : j - 1 < l.length := by omega
          rw [if_pos (by omega), w64_id (by omega) (by omega), show (j : Int) - 1 = ((j - 1 : Nat) : Int) from by omega, getI_some hj1, bind_some, decide_eq_false h0, Bool.false_or, getD_some hj1]
          by_cases h1 : l[j] ≤ l[j - 1]
          · rw [decide_eq_true h1, decide_eq_false (by omega)]; rfl
          · rw [decide_eq_false h1, decide_eq_true (by omega)]; rfl
      · rw [decide_eq_false h]; rfl)
    (fun rec _ => by simp only [cover_tree_list_L1]; rw [if_neg (by omega)]) (f := FUEL) (fuel_lt (by omega)) ()
  rw [show ((0 : Nat) : Int) = 0 from rfl] at this
  rw [this]
  exact all_itL _ _ _ _ (fun a _ nx s => rfl)
theorem rlist_eq {d : Nat} (h6 : d ≤ 6) (l : List Int) (hl : l.length < 4611686018427387904) : ref03_IsList (d : Int) l = some (lstB d l) := by
  unfold ref03_IsList lstB
  have := fix_range l.length (ref03_IsList_L1 (d : Int) l) (fun j (_ : Unit) => (j : Int)) (fun j nx s => bif decide (0 ≤ l.getD j 0 ∧ l.getD j 0 < ((2 ^ d : Nat) : Int)) && (decide (j = 0) || decide (l.getD (j - 1) 0 < l.getD j 0)) then nx s else some false) (fun _ => some true)
    (fun rec j hj _ => by
      simp only [ref03_IsList_L1, ref03_IsList_J2]
      rw [if_pos (by omega), getI_some hj, bind_some, bind_some, recv_eq h6, bind_some, getD_some hj, w64_nat (by omega)]
      by_cases h : 0 ≤ l[j]
      · rw [if_neg (by omega)]
        by_cases h2 : l[j] < ((2 ^ d : Nat) : Int)
        · rw [if_neg (by omega), decide_eq_true ⟨h, h2⟩]
          simp only [Bool.true_and]
          by_cases h0 : j = 0
          · rw [if_neg (by omega), decide_eq_true h0]; rfl
          · have hj1 : j - 1 < l.length := by omega
            rw [if_pos (by omega), bind_some, w64_id (by omega) (by omega), show (j : Int) - 1 = ((j - 1 : Nat) : Int) from by omega, getI_some hj1, bind_some, decide_eq_false h0, Bool.false_or, getD_some hj1]
            by_cases h1 : l[j] ≤ l[j - 1]
            · rw [decide_eq_true h1, decide_eq_false (by omega)]; rfl
            · rw [decide_eq_false h1, decide_eq_true (by omega)]; rfl
        · rw [if_pos (by omega), decide_eq_false (by omega)]; rfl
      · rw [if_pos (by omega), decide_eq_false (by omega)]; rfl)
    (fun rec _ => by simp only [ref03_IsList_L1]; rw [if_neg (by omega)]) (f := FUEL) (fuel_lt (by omega)) ()
  rw [show ((0 : Nat) : Int) = 0 from rfl] at this
  rw [this]
  exact all_itL _ _ _ _ (fun a _ nx s => rfl)
theorem lst_mem {d : Nat} {l : List Int} (h : lstB d l = true) {a : Int} (ha : a ∈ l) : ∃ u : Nat, a = (u : Int) ∧ u < 2 ^ d := by
  obtain ⟨j, hj, rfl⟩ := List.mem_iff_getElem.1 ha
  have := List.all_eq_true.1 h j (by simpa using hj)
  rw [Bool.and_eq_true, decide_eq_true_eq, getD_some hj] at this
  exact ⟨l[j].toNat, by omega, by omega⟩
/-- whether a receiver has a label that leads to a subset -/
def kwB (s : TScheme) (d n m : Nat) (a : Int) : Bool := (ledN s d a.toNat n m).isSome
theorem knows1_eq {s : TScheme} {d n m u : Nat} (hv : vldB s = true) (hd : s.Depth = (d : Int)) (h6 : d ≤ 6) (hu : u < 2 ^ d) (hs : subP s.Kind d n m = true) : cover_Knows_1 (u : Int) (treeI s) ⟨(n : Int), (m : Int)⟩ = some (kwB s d n m (u : Int)) := by
  have ht : treeI s = ⟨s.Kind, (d : Int), (strd d : Int)⟩ := by unfold treeI; rw [hd, Int.toNat_natCast]
  obtain ⟨e1, e2, e3, e4⟩ := labels_eq hv hd h6 hu
  unfold cover_Knows_1 cover_tree_labels kwB ledN
  rw [bind_some]
  simp only
  have e1' : cover_tree_labels_1 (treeI s) (u : Int) = some (labI s.Kind d u) := by rw [ht]; exact e1
  rw [e1', bind_some, labI, itL_map, itL_find (ldN s.Kind n m) (fun a _ => some true) _ _ _ _ (fun a ha nx s' => by
    have hok := e4 a ha
    simp only [cover_Knows_1_R1, cover_Knows_1_X1_0]
    rw [(leads_plain h6 hs ⟨hok.1.2.1, hok.1.2.2⟩ k0).1, bind_some]), Int.toNat_natCast]
  cases (labN s.Kind d u).find? (ldN s.Kind n m) with
  | none => rfl
  | some a => rfl
theorem Knows_eq (s : TScheme) (l : List Int) (hl : l.length < 4611686018427387904) (x : TSubset) : ∃ r, cover_Knows s l x = some r ∧ ref03_Knows s l x = some r := by
  unfold cover_Knows ref03_Knows
  rw [enter0, valid_eq, bind_some, bind_some]
  cases hv : vldB s with
  | false => exact ⟨_, rfl, rfl⟩
  | true =>
    obtain ⟨d, hd, h6⟩ := vld_depth hv
    have ht : treeI s = ⟨s.Kind, (d : Int), (strd d : Int)⟩ := by unfold treeI; rw [hd, Int.toNat_natCast]
    simp only [if_true, Bool.not_true, cond_false]
    rw [if_neg (by simp), hd, rlist_eq h6 l hl]
    have e0 : cover_tree_list (treeI s) l = some (lstB d l) := by rw [ht]; exact list_eq h6 l hl
    rw [e0, bind_some, bind_some]
    cases hb : lstB d l with
    | false => exact ⟨_, rfl, rfl⟩
    | true =>
      simp only [Bool.not_true, cond_false]
      rcases sub_cases hv hd h6 x with ⟨_, f1, f2⟩ | ⟨_, f1, f2, f3, n, m, rfl, f5, f6⟩
      · rw [f1, f2, bind_some, bind_some]; exact ⟨_, rfl, rfl⟩
      · rw [f1, f2, bind_some, bind_some]
        simp only [Bool.not_true, cond_false]
        unfold slices_ContainsFunc_5954_cover_Knows_1 slices_IndexFunc_7bbb_cover_Knows_1
        have p1 := fix_range l.length (slices_IndexFunc_7bbb_cover_Knows_1_L1 l (treeI s) ⟨(n : Int), (m : Int)⟩) (fun j (_ : Unit) => (j : Int)) (fun (j : Nat) nx s' => bif kwB s d n m (l.getD j 0) then some (j : Int) else nx s') (fun _ => some (-1))
          (fun rec j hj _ => by
            simp only [slices_IndexFunc_7bbb_cover_Knows_1_L1]
            obtain ⟨u, hu, hu2⟩ := lst_mem hb (List.getElem_mem hj)
            rw [if_pos (by omega), getI_some hj, bind_some, getD_some hj, hu, knows1_eq hv hd h6 hu2 f6, bind_some, w64_nat (by omega)])
          (fun rec _ => by simp only [slices_IndexFunc_7bbb_cover_Knows_1_L1]; rw [if_neg (by omega)]) (f := FUEL) (fuel_lt (by omega)) ()
        have p2 := fix_range l.length (ref03_Knows_L1 s l ⟨(n : Int), (m : Int)⟩) (fun j (_ : Unit) => (j : Int)) (fun j nx s' => bif kwB s d n m (l.getD j 0) then some (true, 0) else nx s') (fun _ => some (false, 0))
          (fun rec j hj _ => by
            simp only [ref03_Knows_L1]
            obtain ⟨u, hu, hu2⟩ := lst_mem hb (List.getElem_mem hj)
            rw [if_pos (by omega), getI_some hj, bind_some, getD_some hj, hu, w64_nat (by omega)]
            unfold kwB
            rw [Int.toNat_natCast]
            rcases known_eq hv hd h6 hu2 f6 with ⟨i, a, g1, g2, _⟩ | ⟨g1, g2⟩
            · rw [g1, g2, bind_some, if_pos (by omega)]; rfl
            · rw [g1, g2, bind_some, if_neg (by omega)]; rfl)
          (fun rec _ => by simp only [ref03_Knows_L1]; rw [if_neg (by omega)]) (f := FUEL) (fuel_lt (by omega)) ()
        rw [show ((0 : Nat) : Int) = 0 from rfl] at p1 p2
        rw [p1, p2, itL_find (fun (j : Nat) => kwB s d n m (l.getD j 0)) (fun (j : Nat) _ => some (j : Int)) _ _ _ _ (fun a _ nx s => rfl), itL_find (fun (j : Nat) => kwB s d n m (l.getD j 0)) (fun (j : Nat) _ => some (true, (0 : Int))) _ _ _ _ (fun a _ nx s => rfl)]
        cases (List.range l.length).find? (fun j => kwB s d n m (l.getD j 0)) with
        | none => exact ⟨_, rfl, rfl⟩
        | some j =>
          simp only
          rw [bind_some, bind_some, decide_eq_true (by omega)]; exact ⟨_, rfl, rfl⟩
end Go.Sx

end
section
/- Covers, plainly (no program in sight): hot nodes, heads, feet; the cover as a list of nodes in ascending order. -/
set_option linter.unusedVariables false
set_option linter.unusedSimpArgs false
set_option maxRecDepth 100000
namespace Go.Sx
open Go

/-- whether a revoked receiver is below a node -/
def hotB (d : Nat) (R : List Nat) (v : Nat) : Bool := R.any fun u => belowB (2 ^ d + u) v
theorem hot_iff {d : Nat} {R : List Nat} {v : Nat} : hotB d R v = true ↔ ∃ u ∈ R, belowB (2 ^ d + u) v = true := by unfold hotB; rw [List.any_eq_true]
theorem dbl_fin : ∀ n : Fin 64, (2 * n.1) ^^^ 1 = 2 * n.1 + 1 ∧ (2 * n.1 + 1) ^^^ 1 = 2 * n.1 := by decide +kernel
theorem dbl0 {n : Nat} (h : n < 64) : (2 * n) ^^^ 1 = 2 * n + 1 := (dbl_fin ⟨n, h⟩).1
theorem dbl1 {n : Nat} (h : n < 64) : (2 * n + 1) ^^^ 1 = 2 * n := (dbl_fin ⟨n, h⟩).2
theorem div_succ (a b : Nat) : a / 2 ^ (b + 1) = a / 2 ^ b / 2 := by rw [Nat.pow_succ, Nat.div_div_eq_div_mul]
theorem below_kids {L v : Nat} (hL : 1 ≤ L) (hlt : Nat.log2 v < Nat.log2 L) (hv : 1 ≤ v) : belowB L v = (belowB L (2 * v) || belowB L (2 * v + 1)) := by
  rw [Bool.eq_iff_iff, Bool.or_eq_true, below_iff hL, below_iff hL, below_iff hL]
  constructor
  · rintro ⟨k, h1, h2⟩
    have hl := log2_div L k h1
    rw [← h2] at hl
    obtain ⟨j, rfl⟩ : ∃ j, k = j + 1 := ⟨k - 1, by omega⟩
    have h3 : 2 ^ j ≤ L := Nat.le_trans (Nat.pow_le_pow_right (by omega) (by omega)) h1
    rw [div_succ] at h2
    rcases (show L / 2 ^ j = 2 * v ∨ L / 2 ^ j = 2 * v + 1 by omega) with e | e
    · exact .inl ⟨j, h3, e.symm⟩
    · exact .inr ⟨j, h3, e.symm⟩
  · rintro (⟨j, h1, h2⟩ | ⟨j, h1, h2⟩)
    · exact ⟨j + 1, pow_div_le' (j := 1) (by rw [← h2]; omega), by rw [div_succ, ← h2]; omega⟩
    · exact ⟨j + 1, pow_div_le' (j := 1) (by rw [← h2]; omega), by rw [div_succ, ← h2]; omega⟩
theorem log2_dbl {v b : Nat} (hv : 1 ≤ v) (hb : b < 2) : Nat.log2 (2 * v + b) = Nat.log2 v + 1 := by
  rw [log2_half (by omega), show (2 * v + b) / 2 = v from by omega]
section
variable {d : Nat} {R : List Nat}
/-- receivers -/
def Rcv (d : Nat) (R : List Nat) : Prop := d ≤ 6 ∧ ∀ u ∈ R, u < 2 ^ d
theorem Rcv.leaf (h : Rcv d R) {u : Nat} (hu : u ∈ R) : 1 ≤ 2 ^ d + u ∧ 2 ^ d + u < 128 ∧ Nat.log2 (2 ^ d + u) = d := by
  have := pow_le64 h.1
  have := h.2 u hu
  have := Nat.two_pow_pos d
  exact ⟨by omega, by omega, leaf_log (h.2 u hu)⟩
theorem node_lt {v : Nat} (hv : 1 ≤ v) : v < 2 ^ d ↔ Nat.log2 v < d := by rw [Nat.log2_lt (by omega)]
/-- an inner node is hot just if a child is -/
theorem hot_kids (h : Rcv d R) {v : Nat} (hv : 1 ≤ v) (hl : Nat.log2 v < d) : hotB d R v = (hotB d R (2 * v) || hotB d R (2 * v + 1)) := by
  rw [Bool.eq_iff_iff, Bool.or_eq_true, hot_iff, hot_iff, hot_iff]
  constructor
  · rintro ⟨u, hu, hb⟩
    obtain ⟨h1, h2, h3⟩ := h.leaf hu
    rw [below_kids h1 (by omega) hv, Bool.or_eq_true] at hb
    rcases hb with hb | hb
    · exact .inl ⟨u, hu, hb⟩
    · exact .inr ⟨u, hu, hb⟩
  · rintro (⟨u, hu, hb⟩ | ⟨u, hu, hb⟩) <;>
    · obtain ⟨h1, h2, h3⟩ := h.leaf hu
      refine ⟨u, hu, ?_⟩
      rw [below_kids h1 (by omega) hv, hb]; simp
theorem hot_log (h : Rcv d R) {v : Nat} (hv : hotB d R v = true) : 1 ≤ v ∧ Nat.log2 v ≤ d ∧ v < 2 ^ (d + 1) := by
  obtain ⟨u, hu, hb⟩ := hot_iff.1 hv
  obtain ⟨h1, h2, h3⟩ := h.leaf hu
  have hp := below_pos h1 hb
  have hl := below_log h1 hb
  rw [h3] at hl
  exact ⟨hp, hl, (Nat.log2_lt (by omega)).1 (by omega)⟩
theorem hot_up (h : Rcv d R) {v : Nat} (hv : hotB d R v = true) (h2 : 2 ≤ v) : hotB d R (v / 2) = true := by
  obtain ⟨h1, hl, _⟩ := hot_log h hv
  have hh := log2_half h2
  rw [hot_kids h (by omega) (by omega)]
  rcases (show 2 * (v / 2) = v ∨ 2 * (v / 2) + 1 = v by omega) with e | e
  · rw [e, hv]; simp
  · rw [e, hv]; simp
theorem hot_ups (h : Rcv d R) {v : Nat} (hv : hotB d R v = true) : ∀ k, 2 ^ k ≤ v → hotB d R (v / 2 ^ k) = true
  | 0, _ => by simpa using hv
  | k + 1, hk => by
    rw [div_succ]
    have h1 : 2 ^ k ≤ v := Nat.le_trans (Nat.pow_le_pow_right (by omega) (by omega)) hk
    refine hot_up h (hot_ups h hv k h1) ?_
    have := pow_div_le (i := k) (j := 1) hk
    simpa using this
/-- exactly one child is hot -/
def brN (d : Nat) (R : List Nat) (v : Nat) : Bool := hotB d R (2 * v) != hotB d R (2 * v + 1)
def nxN (d : Nat) (R : List Nat) (v : Nat) : Nat := if hotB d R (2 * v) then 2 * v else 2 * v + 1
def footN (d : Nat) (R : List Nat) : Nat → Nat → Nat
  | 0, v => v
  | f + 1, v => if brN d R v then footN d R f (nxN d R v) else v
theorem br_inner (h : Rcv d R) {v : Nat} (hv : 1 ≤ v) (hb : brN d R v = true) : Nat.log2 v < d ∧ hotB d R v = true := by
  unfold brN at hb
  have hx : hotB d R (2 * v) = true ∨ hotB d R (2 * v + 1) = true := by
    cases h1 : hotB d R (2 * v) <;> cases h2 : hotB d R (2 * v + 1) <;> simp_all
  have hl : Nat.log2 v < d := by
    rcases hx with hx | hx
    · have := (hot_log h hx).2.1; have := log2_dbl hv (b := 0) (by omega); simp at this; omega
    · have := (hot_log h hx).2.1; have := log2_dbl hv (b := 1) (by omega); omega
  refine ⟨hl, ?_⟩
  rw [hot_kids h hv hl]
  rcases hx with hx | hx <;> simp [hx]
/-- the nodes from below v down to w are hot, and their siblings are not -/
def Chn (d : Nat) (R : List Nat) (v w : Nat) : Prop := ∃ k, 2 ^ k ≤ w ∧ v = w / 2 ^ k ∧ ∀ j, j < k → hotB d R (w / 2 ^ j) = true ∧ hotB d R ((w / 2 ^ j) ^^^ 1) = false
theorem foot_spec (h : Rcv d R) : ∀ (f v : Nat), 1 ≤ v → Nat.log2 v ≤ d → d - Nat.log2 v < f → 1 ≤ footN d R f v ∧ Nat.log2 (footN d R f v) ≤ d ∧ brN d R (footN d R f v) = false ∧ Chn d R v (footN d R f v)
  | 0, v, _, _, hf => by omega
  | f + 1, v, hv, hl, hf => by
    unfold footN
    cases hb : brN d R v with
    | false => exact ⟨by simpa using hv, by simpa using hl, by simpa using hb, ⟨0, by simpa using hv, by simp, fun j hj => by omega⟩⟩
    | true =>
      rw [if_pos rfl]
      obtain ⟨hl2, _⟩ := br_inner h hv hb
      have h64 := pow_le64 h.1
      have hv64 : v < 64 := by have := (node_lt (d := d) hv).2 hl2; omega
      have hc : (nxN d R v) / 2 = v ∧ 2 ≤ nxN d R v ∧ Nat.log2 (nxN d R v) = Nat.log2 v + 1 ∧ hotB d R (nxN d R v) = true ∧ hotB d R (nxN d R v ^^^ 1) = false := by
        unfold nxN
        unfold brN at hb
        cases h1 : hotB d R (2 * v) with
        | true =>
          rw [h1] at hb
          rw [if_pos rfl]
          refine ⟨by omega, by omega, log2_dbl hv (b := 0) (by omega), h1, ?_⟩
          rw [dbl0 hv64]; simpa using hb
        | false =>
          rw [h1] at hb
          rw [if_neg (by simp)]
          refine ⟨by omega, by omega, log2_dbl hv (b := 1) (by omega), by simpa using hb, ?_⟩
          rw [dbl1 hv64]; exact h1
      obtain ⟨c1, c2, c3, c4, c5⟩ := hc
      obtain ⟨g1, g2, g3, k, g4, g5, g6⟩ := foot_spec h f (nxN d R v) (by omega) (by omega) (by omega)
      refine ⟨g1, g2, g3, k + 1, ?_, ?_, ?_⟩
      · exact pow_div_le' (j := 1) (by rw [← g5]; omega)
      · rw [div_succ, ← g5]; exact c1.symm
      · intro j hj
        rcases Nat.lt_or_ge j k with hjk | hjk
        · exact g6 j hjk
        · obtain rfl : j = k := by omega
          rw [← g5]; exact ⟨c4, c5⟩
/-- the head of a node: from it on upwards, the first with a hot sibling, or the root -/
def hdN (d : Nat) (R : List Nat) : Nat → Nat → Nat
  | 0, x => x
  | f + 1, x => if x = 1 ∨ hotB d R (x ^^^ 1) = true then x else hdN d R f (x / 2)
def isHd (d : Nat) (R : List Nat) (v : Nat) : Bool := decide (v = 1) || hotB d R (v ^^^ 1)
theorem hd_self {f x : Nat} (h : isHd d R x = true) : hdN d R f x = x := by
  cases f with
  | zero => rfl
  | succ f =>
    unfold hdN
    unfold isHd at h
    rw [Bool.or_eq_true, decide_eq_true_eq] at h
    rw [if_pos h]
theorem hd_chain {v w : Nat} (hv : isHd d R v = true) (hv1 : 1 ≤ v) : ∀ (j k f : Nat), 2 ^ (j + k) ≤ w → v = w / 2 ^ (j + k) → (∀ i, j ≤ i → i < j + k → hotB d R ((w / 2 ^ i) ^^^ 1) = false) → k ≤ f → hdN d R f (w / 2 ^ j) = v
  | j, 0, f, h1, h2, _, _ => by rw [Nat.add_zero] at h2; rw [← h2]; exact hd_self hv
  | j, k + 1, 0, h1, h2, h3, hf => by omega
  | j, k + 1, f + 1, h1, h2, h3, hf => by
    unfold hdN
    have h4 := h3 j (by omega) (by omega)
    have h5 : w / 2 ^ j ≠ 1 := by
      have := pow_div_le (w := w) (i := j) (j := 1) (Nat.le_trans (Nat.pow_le_pow_right (by omega) (by omega)) h1)
      simp at this; omega
    rw [if_neg (by rw [h4]; simp [h5]), ← div_succ]
    exact hd_chain hv hv1 (j + 1) k f (by rw [show j + 1 + k = j + (k + 1) from by omega]; exact h1) (by rw [show j + 1 + k = j + (k + 1) from by omega]; exact h2) (fun i h6 h7 => h3 i (by omega) (by omega)) (by omega)
theorem hd_spec : ∀ (f x : Nat), 1 ≤ x → Nat.log2 x < f → isHd d R (hdN d R f x) = true ∧ ∃ i, 2 ^ i ≤ x ∧ hdN d R f x = x / 2 ^ i ∧ ∀ t, t < i → isHd d R (x / 2 ^ t) = false
  | 0, x, _, h => by omega
  | f + 1, x, hx, hf => by
    unfold hdN
    by_cases hc : x = 1 ∨ hotB d R (x ^^^ 1) = true
    · rw [if_pos hc]; exact ⟨by unfold isHd; simpa using hc, 0, by simpa using hx, by simp, fun t ht => by omega⟩
    · rw [if_neg hc]
      have hx2 : 2 ≤ x := by rw [not_or] at hc; omega
      have hh := log2_half hx2
      obtain ⟨h1, i, h2, h3, h4⟩ := hd_spec f (x / 2) (by omega) (by omega)
      refine ⟨h1, i + 1, ?_, ?_, ?_⟩
      · rw [Nat.pow_succ]; omega
      · rw [h3, Nat.div_div_eq_div_mul, Nat.pow_succ, Nat.mul_comm 2]
      · intro t ht
        cases t with
        | zero => simp only [Nat.pow_zero, Nat.div_one]; unfold isHd; simpa [not_or] using hc
        | succ t =>
          have := h4 t (by omega)
          rw [Nat.div_div_eq_div_mul, show 2 * 2 ^ t = 2 ^ (t + 1) from by rw [Nat.pow_succ, Nat.mul_comm]] at this; exact this
/-- the first special node strictly between -/
def cutN (d v w : Nat) : Nat := fstS d (pathN (w / 2) (Nat.log2 w - Nat.log2 v - 1))
/-- Minus of the cover's subset with a Node, if there is one -/
def minN (k : BitVec 8) (d : Nat) (R : List Nat) (x : Nat) : Option Nat :=
  if k = 1#8 then (if !hotB d R x && (decide (x = 1) || hotB d R (x / 2)) then some 0 else none)
  else if hotB d R x then
    (if footN d R 7 (hdN d R 7 x) = hdN d R 7 x then none
    else if x = hdN d R 7 x then some (if subN k d (hdN d R 7 x) (footN d R 7 (hdN d R 7 x)) then footN d R 7 (hdN d R 7 x) else cutN d (hdN d R 7 x) (footN d R 7 (hdN d R 7 x)))
    else if !subN k d (hdN d R 7 x) (footN d R 7 (hdN d R 7 x)) && decide (x = cutN d (hdN d R 7 x) (footN d R 7 (hdN d R 7 x))) then some (footN d R 7 (hdN d R 7 x)) else none)
  else none
def nodN (d : Nat) : List Nat := (List.range (2 ^ (d + 1) - 1)).map (· + 1)
/-- the cover -/
def covN (k : BitVec 8) (d : Nat) (R : List Nat) : List (Nat × Nat) := (nodN d).filterMap fun x => (minN k d R x).map fun m => (x, m)
theorem nod_mem {x : Nat} : x ∈ nodN d ↔ 1 ≤ x ∧ x < 2 ^ (d + 1) := by
  unfold nodN
  rw [List.mem_map]
  constructor
  · rintro ⟨a, ha, rfl⟩; have := List.mem_range.1 ha; omega
  · rintro ⟨h1, h2⟩; exact ⟨x - 1, List.mem_range.2 (by omega), by omega⟩
theorem cov_mem {k : BitVec 8} {y : Nat × Nat} : y ∈ covN k d R ↔ (1 ≤ y.1 ∧ y.1 < 2 ^ (d + 1)) ∧ minN k d R y.1 = some y.2 := by
  unfold covN
  rw [List.mem_filterMap]
  constructor
  · rintro ⟨x, hx, he⟩
    obtain ⟨m, hm, rfl⟩ := Option.map_eq_some_iff.1 he
    exact ⟨nod_mem.1 hx, hm⟩
  · rintro ⟨h1, h2⟩; exact ⟨y.1, nod_mem.2 h1, by rw [h2]; rfl⟩
/-- strictly ascending -/
def Asc (l : List (Nat × Nat)) : Prop := l.Pairwise fun a b => a.1 < b.1
theorem cov_asc {k : BitVec 8} : Asc (covN k d R) := by
  unfold Asc covN
  rw [List.pairwise_filterMap]
  have : (nodN d).Pairwise fun a b => a < b := by
    unfold nodN
    rw [List.pairwise_map]
    exact List.pairwise_lt_range.imp (by omega)
  refine this.imp ?_
  intro a b hab y hy z hz
  obtain ⟨_, _, rfl⟩ := Option.map_eq_some_iff.1 hy
  obtain ⟨_, _, rfl⟩ := Option.map_eq_some_iff.1 hz
  exact hab
theorem asc_ext : ∀ {l m : List (Nat × Nat)}, Asc l → Asc m → (∀ y, y ∈ l ↔ y ∈ m) → l = m
  | [], [], _, _, _ => rfl
  | [], b :: m, _, _, h => absurd ((h b).2 (by simp)) (by simp)
  | a :: l, [], _, _, h => absurd ((h a).1 (by simp)) (by simp)
  | a :: l, b :: m, hl, hm, h => by
    have ha := List.pairwise_cons.1 hl
    have hb := List.pairwise_cons.1 hm
    have hab : a = b := by
      rcases List.mem_cons.1 ((h a).1 (by simp)) with e | e
      · exact e
      · rcases List.mem_cons.1 ((h b).2 (by simp)) with e2 | e2
        · exact e2.symm
        · have := ha.1 b e2; have := hb.1 a e; omega
    subst hab
    congr 1
    refine asc_ext ha.2 hb.2 fun y => ?_
    constructor
    · intro hy
      rcases List.mem_cons.1 ((h y).1 (by simp [hy])) with e | e
      · subst e; have := ha.1 y hy; omega
      · exact e
    · intro hy
      rcases List.mem_cons.1 ((h y).2 (by simp [hy])) with e | e
      · subst e; have := hb.1 y hy; omega
      · exact e
/-- what comes of a hot node: the program's way -/
def outP (k : BitVec 8) (d : Nat) (R : List Nat) (v : Nat) : List (Nat × Nat) :=
  if k = 1#8 then (if v ≠ 1 ∧ hotB d R (v ^^^ 1) = false then [(v ^^^ 1, 0)] else [])
  else if isHd d R v then (if footN d R 7 v = v then [] else if subN k d v (footN d R 7 v) then [(v, footN d R 7 v)] else [(v, cutN d v (footN d R 7 v)), (cutN d v (footN d R 7 v), footN d R 7 v)])
  else []
/-- from which hot node a subset of the cover comes -/
def ownN (k : BitVec 8) (d : Nat) (R : List Nat) (y : Nat × Nat) : Nat := if k = 1#8 then y.1 ^^^ 1 else hdN d R 7 y.1
theorem cut_chain {k : BitVec 8} {v w : Nat} (hK : 2 ^ k.toNat ≤ w ∨ True) {K : Nat} (h1 : 2 ^ K ≤ w) (h2 : v = w / 2 ^ K) (hv : 1 ≤ v) (hs : subN k d v w = false) : ∃ j, 1 ≤ j ∧ j < K ∧ cutN d v w = w / 2 ^ j := by
  have hl := log2_div w K h1
  rw [← h2] at hl
  unfold subN at hs
  simp only [Bool.or_eq_false_iff, decide_eq_false_iff_not] at hs
  have h0 : cutN d v w ≠ 0 := hs.2
  unfold cutN at h0 ⊢
  unfold fstS at h0 ⊢
  cases hf : (pathN (w / 2) (Nat.log2 w - Nat.log2 v - 1)).find? (spcl d) with
  | none => rw [hf] at h0; simp at h0
  | some c =>
    obtain ⟨j, hj, rfl⟩ := pathN_mem.1 (List.mem_of_find?_eq_some hf)
    refine ⟨j + 1, by omega, by omega, ?_⟩
    rw [Option.getD_some, Nat.div_div_eq_div_mul, show 2 * 2 ^ j = 2 ^ (j + 1) from by rw [Nat.pow_succ, Nat.mul_comm]]
theorem cov_own (h : Rcv d R) {k : BitVec 8} (hne : R ≠ []) {v : Nat} (hv : hotB d R v = true) (y : Nat × Nat) : (y ∈ covN k d R ∧ ownN k d R y = v) ↔ y ∈ outP k d R v := by
  have h64 := pow_le64 h.1
  have hpow : 2 ^ (d + 1) = 2 * 2 ^ d := by rw [Nat.pow_succ, Nat.mul_comm]
  obtain ⟨v1, vl, v2⟩ := hot_log h hv
  rw [cov_mem]
  by_cases hk : k = 1#8
  · unfold minN ownN outP
    rw [if_pos hk, if_pos hk, if_pos hk]
    have hroot : hotB d R 1 = true := by
      obtain ⟨u, hu⟩ := List.exists_mem_of_ne_nil R hne
      obtain ⟨l1, l2, l3⟩ := h.leaf hu
      exact hot_iff.2 ⟨u, hu, (below_iff l1).2 ⟨d, by omega, by rw [Nat.add_div_left _ (Nat.two_pow_pos d), Nat.div_eq_of_lt (h.2 u hu)]⟩⟩
    constructor
    · rintro ⟨⟨⟨y1, y2⟩, hm⟩, rfl⟩
      split at hm
      · rename_i hc
        simp only [Bool.and_eq_true, Bool.not_eq_true', Bool.or_eq_true, decide_eq_true_eq] at hc
        have hy0 : y.2 = 0 := (Option.some.inj hm).symm
        have hyn : y.1 ≠ 1 := fun e => by rw [e] at hc; rw [hroot] at hc; simp at hc
        have hss := sib_sib (n := y.1) (by omega)
        rw [hss]
        have hs1 : y.1 ^^^ 1 ≠ 1 := by have := sib_two_le (n := y.1) (by omega) (by omega); omega
        rw [if_pos ⟨hs1, hc.1⟩]
        simp only [List.mem_singleton]
        cases y; simp only at *; rw [hy0]
      · cases hm
    · intro hy
      split at hy
      · rename_i hc
        simp only [List.mem_singleton] at hy
        subst hy
        simp only
        have hv2 : 2 ≤ v := by omega
        have e1 := sib_lt (n := v) (by omega)
        have e2 := sib_two_le (n := v) (by omega) hv2
        have e3 := sib_log (n := v) (by omega) hv2
        refine ⟨⟨⟨by omega, ?_⟩, ?_⟩, sib_sib (by omega)⟩
        · exact (Nat.log2_lt (by omega)).1 (by omega)
        · rw [if_pos]
          simp only [Bool.and_eq_true, Bool.not_eq_true', Bool.or_eq_true, decide_eq_true_eq]
          refine ⟨hc.2, .inr ?_⟩
          rw [sib_half (by omega)]; exact hot_up h hv hv2
      · cases hy
  · unfold minN ownN outP
    rw [if_neg hk, if_neg hk, if_neg hk]
    constructor
    · rintro ⟨⟨⟨y1, y2⟩, hm⟩, rfl⟩
      have hl7 : Nat.log2 y.1 < 7 := by have := (Nat.log2_lt (n := y.1) (k := d + 1) (by omega)).2 y2; have := h.1; omega
      rw [if_pos (hd_spec 7 y.1 y1 hl7).1]
      generalize hdN d R 7 y.1 = v at *
      generalize footN d R 7 v = w at *
      split at hm
      · split at hm
        · cases hm
        · rename_i h1 h2
          rw [if_neg h2]
          split at hm
          · rename_i h3
            have hm' := Option.some.inj hm
            split
            · rename_i h4
              rw [if_pos h4] at hm'
              simp only [List.mem_singleton]; cases y; simp only at *; rw [h3, hm']
            · rename_i h4
              rw [if_neg h4] at hm'
              simp only [List.mem_cons, List.not_mem_nil, or_false]; left; cases y; simp only at *; rw [h3, hm']
          · split at hm
            · rename_i h3 h4
              simp only [Bool.and_eq_true, Bool.not_eq_true', decide_eq_true_eq] at h4
              rw [if_neg (by rw [h4.1]; simp)]
              simp only [List.mem_cons, List.not_mem_nil, or_false]; right
              have hm' := Option.some.inj hm
              cases y; simp only at *; rw [← h4.2, hm']
            · cases hm
      · cases hm
    · intro hy
      split at hy
      · rename_i hh
        obtain ⟨w1, w2, w3, K, w4, w5, w6⟩ := foot_spec h 7 v v1 vl (by have := h.1; omega)
        generalize hw : footN d R 7 v = w at *
        have hs : hdN d R 7 v = v := hd_self hh
        split at hy
        · cases hy
        · rename_i hne2
          split at hy
          · rename_i h4
            simp only [List.mem_singleton] at hy
            subst hy
            simp only [hs, hw, hv, if_true, if_neg hne2, h4]
            exact ⟨⟨⟨v1, v2⟩, trivial⟩, trivial⟩
          · rename_i h4
            have h4' : subN k d v w = false := by simpa using h4
            simp only [List.mem_cons, List.not_mem_nil, or_false] at hy
            rcases hy with rfl | rfl
            · simp only [hs, hw, hv, if_true, if_neg hne2, h4', Bool.false_eq_true, if_false]
              exact ⟨⟨⟨v1, v2⟩, trivial⟩, trivial⟩
            · obtain ⟨j, j1, j2, j3⟩ := cut_chain (k := k) (d := d) (.inr trivial) w4 w5 v1 h4'
              have hlw := log2_div w K w4
              have hKd : K ≤ 6 := by have := h.1; omega
              have hc : hdN d R 7 (cutN d v w) = v := by
                rw [j3]
                exact hd_chain hh v1 j (K - j) 7 (by rw [show j + (K - j) = K from by omega]; exact w4) (by rw [show j + (K - j) = K from by omega]; exact w5) (fun i _ hi => (w6 i (by omega)).2) (by omega)
              have hj2 : 2 ^ j ≤ w := Nat.le_trans (Nat.pow_le_pow_right (by omega) (by omega)) w4
              have hch : hotB d R (cutN d v w) = true := by rw [j3]; exact (w6 j j2).1
              have hcv : cutN d v w ≠ v := by
                rw [j3, w5]; exact divk_ne w4 j2
              obtain ⟨c1, _, c3⟩ := hot_log h hch
              simp only [hc, hw, hch, if_true, if_neg hne2, if_neg hcv, h4']
              simp only [Bool.not_false, Bool.true_and, decide_true, if_true]
              exact ⟨⟨⟨c1, c3⟩, trivial⟩, trivial⟩
      · cases hy
theorem own_hot (h : Rcv d R) {k : BitVec 8} (hne : R ≠ []) {y : Nat × Nat} (hy : y ∈ covN k d R) : hotB d R (ownN k d R y) = true := by
  have h64 := pow_le64 h.1
  have hpow : 2 ^ (d + 1) = 2 * 2 ^ d := by rw [Nat.pow_succ, Nat.mul_comm]
  obtain ⟨⟨y1, y2⟩, hm⟩ := cov_mem.1 hy
  unfold minN at hm
  unfold ownN
  by_cases hk : k = 1#8
  · rw [if_pos hk] at hm ⊢
    split at hm
    · rename_i hc
      simp only [Bool.and_eq_true, Bool.not_eq_true', Bool.or_eq_true, decide_eq_true_eq] at hc
      have hroot : hotB d R 1 = true := by
        obtain ⟨u, hu⟩ := List.exists_mem_of_ne_nil R hne
        obtain ⟨l1, l2, l3⟩ := h.leaf hu
        exact hot_iff.2 ⟨u, hu, (below_iff l1).2 ⟨d, by omega, by rw [Nat.add_div_left _ (Nat.two_pow_pos d), Nat.div_eq_of_lt (h.2 u hu)]⟩⟩
      have hyn : y.1 ≠ 1 := fun e => by rw [e] at hc; rw [hroot] at hc; simp at hc
      have hp : hotB d R (y.1 / 2) = true := by
        rcases hc.2 with e | e
        · exact absurd e hyn
        · exact e
      have hlg := log2_half (n := y.1) (by omega)
      have hyl : Nat.log2 y.1 ≤ d := node_log y1 y2
      rw [hot_kids h (by omega) (by omega), Bool.or_eq_true] at hp
      have hz : y.1 / 2 < 64 := by omega
      rcases (show y.1 = 2 * (y.1 / 2) ∨ y.1 = 2 * (y.1 / 2) + 1 by omega) with e | e
      · have h2 : hotB d R (2 * (y.1 / 2)) = false := by rw [← e]; exact hc.1
        have : y.1 ^^^ 1 = 2 * (y.1 / 2) + 1 := by rw [← dbl0 hz, ← e]
        rw [this]; rw [h2] at hp; simpa using hp
      · have h2 : hotB d R (2 * (y.1 / 2) + 1) = false := by rw [← e]; exact hc.1
        have : y.1 ^^^ 1 = 2 * (y.1 / 2) := by rw [← dbl1 hz, ← e]
        rw [this]; rw [h2] at hp; simpa using hp
    · cases hm
  · rw [if_neg hk] at hm ⊢
    split at hm
    · rename_i hx
      have hl7 : Nat.log2 y.1 < 7 := by have := node_log y1 y2; have := h.1; omega
      obtain ⟨_, i, i1, i2, _⟩ := hd_spec (d := d) (R := R) 7 y.1 y1 hl7
      rw [i2]; exact hot_ups h hx i i1
    · cases hm
end
end Go.Sx

end
section
/- Covers divide exactly the receivers that are not revoked: plainly, no program in sight. -/
set_option linter.unusedVariables false
set_option linter.unusedSimpArgs false
set_option maxRecDepth 100000
namespace Go.Sx
open Go
variable {d : Nat} {R : List Nat}

theorem hot_leaf (h : Rcv d R) {u : Nat} (hu : u < 2 ^ d) : hotB d R (2 ^ d + u) = true ↔ u ∈ R := by
  rw [hot_iff]
  constructor
  · rintro ⟨a, ha, hb⟩
    obtain ⟨l1, l2, l3⟩ := h.leaf ha
    have := below_same l1 (below_refl l1) hb (by rw [l3, leaf_log hu])
    have : a = u := by omega
    exact this ▸ ha
  · intro hm
    exact ⟨u, hm, below_refl (by have := Nat.two_pow_pos d; omega)⟩
theorem below_mid {L a b : Nat} (hL : 1 ≤ L) (ha : belowB L a = true) (hb : belowB L b = true) (hl : Nat.log2 b ≤ Nat.log2 a) : belowB a b = true := by
  obtain ⟨i, i1, rfl⟩ := (below_iff hL).1 ha
  obtain ⟨j, j1, rfl⟩ := (below_iff hL).1 hb
  have li := log2_div L i i1
  have lj := log2_div L j j1
  have hij : i + (j - i) = j := by omega
  refine (below_iff (div_pos' i1)).2 ⟨j - i, pow_div_le (by rw [hij]; exact j1), ?_⟩
  rw [Nat.div_div_eq_div_mul, ← Nat.pow_add, hij]
/-- z is the lowest hot node above L -/
def Low (d : Nat) (R : List Nat) (L z : Nat) : Prop := hotB d R z = true ∧ belowB L z = true ∧ ∃ s, s / 2 = z ∧ 2 ≤ s ∧ belowB L s = true ∧ hotB d R s = false
theorem hot_above (h : Rcv d R) {a b : Nat} (ha : hotB d R a = true) (hb : belowB a b = true) : hotB d R b = true := by
  obtain ⟨k, k1, k2⟩ := (below_iff (hot_log h ha).1).1 hb
  rw [k2]; exact hot_ups h ha k k1
theorem low_le (h : Rcv d R) {L z1 z2 : Nat} (hL : 1 ≤ L) (h1 : Low d R L z1) (h2 : Low d R L z2) : ¬ Nat.log2 z1 < Nat.log2 z2 := by
  intro hlt
  obtain ⟨a1, b1, s, c1, c2, c3, c4⟩ := h1
  obtain ⟨a2, b2, _⟩ := h2
  have hs := log2_half c2
  rw [c1] at hs
  have := hot_above h a2 (below_mid hL b2 c3 (by omega))
  rw [c4] at this; cases this
theorem low_eq (h : Rcv d R) {L z1 z2 : Nat} (hL : 1 ≤ L) (h1 : Low d R L z1) (h2 : Low d R L z2) : z1 = z2 :=
  below_same hL h1.2.1 h2.2.1 (by have := low_le h hL h1 h2; have := low_le h hL h2 h1; omega)
theorem turn_at {p : Nat → Bool} : ∀ (n j : Nat), p (j + n) = true → p j = false → ∃ t, j ≤ t ∧ t < j + n ∧ p (t + 1) = true ∧ p t = false
  | 0, j, h1, h2 => by rw [Nat.add_zero, h2] at h1; cases h1
  | n + 1, j, h1, h2 => by
    cases hp : p (j + n) with
    | true => obtain ⟨t, a, b, c⟩ := turn_at n j hp h2; exact ⟨t, a, by omega, c⟩
    | false => exact ⟨j + n, by omega, by omega, h1, hp⟩
/-- a leaf that is below a node of a chain, but not below a later one: its lowest hot node is one of the chain -/
theorem low_of (h : Rcv d R) {L f K i j : Nat} (hL : 1 ≤ L) (hl : Nat.log2 L = d) (hf : f < 128) (hK : 2 ^ K ≤ f) (hfd : Nat.log2 f ≤ d) (hc : ∀ t, t < K → hotB d R (f / 2 ^ t) = true ∧ hotB d R ((f / 2 ^ t) ^^^ 1) = false)
    (hij : j < i) (hi : i ≤ K) (ha : belowB L (f / 2 ^ i) = true) (hb : belowB L (f / 2 ^ j) = false) : ∃ t, j ≤ t ∧ t < i ∧ Low d R L (f / 2 ^ (t + 1)) := by
  obtain ⟨t, t1, t2, t3, t4⟩ := turn_at (p := fun t => belowB L (f / 2 ^ t)) (i - j) j (by show belowB L (f / 2 ^ (j + (i - j))) = true; rw [Nat.add_sub_cancel' (by omega)]; exact ha) hb
  replace t3 : belowB L (f / 2 ^ (t + 1)) = true := t3
  replace t4 : belowB L (f / 2 ^ t) = false := t4
  refine ⟨t, t1, by omega, ?_⟩
  have ht : 2 ^ (t + 1) ≤ f := Nat.le_trans (Nat.pow_le_pow_right (by omega) (by omega)) hK
  have hs2 : 2 ≤ f / 2 ^ t := by have := pow_div_le (w := f) (i := t) (j := 1) ht; simpa using this
  obtain ⟨c1, c2⟩ := hc t (by omega)
  rw [div_succ] at t3 ⊢
  have hsl : f / 2 ^ t < 128 := Nat.lt_of_le_of_lt (Nat.div_le_self _ _) hf
  have hlg := log2_div f t (Nat.le_trans (Nat.pow_le_pow_right (by omega) (by omega)) ht)
  generalize hs : f / 2 ^ t = s at *
  have hh := log2_half hs2
  refine ⟨hot_up h c1 hs2, t3, s ^^^ 1, sib_half hsl, sib_two_le hsl hs2, ?_, c2⟩
  rw [below_kids hL (by omega) (by omega)] at t3
  rcases (show 2 * (s / 2) = s ∨ 2 * (s / 2) + 1 = s by omega) with e | e
  · have := dbl0 (n := s / 2) (by omega)
    rw [e, t4, Bool.false_or] at t3
    rw [e] at this; rw [this]; exact t3
  · have := dbl1 (n := s / 2) (by omega)
    rw [e, t4, Bool.or_false] at t3
    rw [e] at this; rw [this]; exact t3
/-- the one subset of the cover that has a leaf, from the leaf's lowest hot node -/
def ansN (k : BitVec 8) (d : Nat) (R : List Nat) (L z : Nat) : Nat × Nat :=
  if subN k d (hdN d R 7 z) (footN d R 7 (hdN d R 7 z)) then (hdN d R 7 z, footN d R 7 (hdN d R 7 z))
  else if belowB L (cutN d (hdN d R 7 z) (footN d R 7 (hdN d R 7 z))) then (cutN d (hdN d R 7 z) (footN d R 7 (hdN d R 7 z)), footN d R 7 (hdN d R 7 z))
  else (hdN d R 7 z, cutN d (hdN d R 7 z) (footN d R 7 (hdN d R 7 z)))
theorem mem_iff {L v w : Nat} : memB L v w = true ↔ belowB L v = true ∧ (w = 0 ∨ belowB L w = false) := by
  unfold memB; simp
theorem cov_low (h : Rcv d R) {k : BitVec 8} (hk : k ≠ 1#8) (hne : R ≠ []) {y : Nat × Nat} (hy : y ∈ covN k d R) {u : Nat} (hu : u < 2 ^ d) (hm : memB (2 ^ d + u) y.1 y.2 = true) :
    ∃ z, Low d R (2 ^ d + u) z ∧ y = ansN k d R (2 ^ d + u) z := by
  have h64 := pow_le64 h.1
  have hpow : 2 ^ (d + 1) = 2 * 2 ^ d := by rw [Nat.pow_succ, Nat.mul_comm]
  have hv := own_hot h hne hy
  have hout := (cov_own h hne hv y).1 ⟨hy, rfl⟩
  have hy1 := (cov_mem.1 hy).1
  have hlog := leaf_log hu
  have hL : 1 ≤ 2 ^ d + u := by omega
  generalize hLe : 2 ^ d + u = L at *
  have hhd : isHd d R (ownN k d R y) = true := by
    unfold ownN; rw [if_neg hk]
    exact (hd_spec 7 y.1 hy1.1 (by have := node_log hy1.1 hy1.2; have := h.1; omega)).1
  generalize hve : ownN k d R y = v at *
  obtain ⟨v1, vl, v2⟩ := hot_log h hv
  obtain ⟨f1, f2, f3, K, f4, f5, f6⟩ := foot_spec h 7 v v1 vl (by have := h.1; omega)
  unfold outP at hout
  rw [if_neg hk, if_pos hhd] at hout
  have key : ∀ z, hdN d R 7 z = v → ansN k d R L z = if subN k d v (footN d R 7 v) then (v, footN d R 7 v) else if belowB L (cutN d v (footN d R 7 v)) then (cutN d v (footN d R 7 v), footN d R 7 v) else (v, cutN d v (footN d R 7 v)) := by
    intro z hz; unfold ansN; rw [hz]
  have cutc := fun hs => cut_chain (d := d) (k := k) (v := v) (w := footN d R 7 v) (.inr trivial) f4 f5 v1 hs
  generalize hfe : footN d R 7 v = f at *
  have hf128 : f < 128 := by have := (Nat.log2_lt (n := f) (k := d + 1) (by omega)).1 (by omega); omega
  have hK6 := le_log f4 hf128
  have hd : ∀ t, t < K → hdN d R 7 (f / 2 ^ (t + 1)) = v := fun t ht =>
    hd_chain hhd v1 (t + 1) (K - (t + 1)) 7 (by rw [Nat.add_sub_cancel' (by omega)]; exact f4) (by rw [Nat.add_sub_cancel' (by omega)]; exact f5) (fun i h1 h2 => (f6 i (by omega)).2) (by omega)
  by_cases hfv : f = v
  · rw [if_pos hfv] at hout; cases hout
  · rw [if_neg hfv] at hout
    have hK0 : 0 < K := by
      rcases Nat.eq_zero_or_pos K with e | e
      · subst e; simp at f5; exact absurd f5.symm hfv
      · exact e
    cases hs : subN k d v f with
    | true =>
      rw [hs, if_pos rfl, List.mem_singleton] at hout
      subst hout
      obtain ⟨m1, m2⟩ := mem_iff.1 hm
      simp only at m1 m2
      rcases m2 with m2 | m2
      · omega
      · rw [f5] at m1
        obtain ⟨t, t1, t2, t3⟩ := low_of h hL hlog hf128 f4 f2 f6 (j := 0) (i := K) hK0 (Nat.le_refl _) m1 (by simpa using m2)
        exact ⟨_, t3, by rw [key _ (hd t t2), hs, if_pos rfl]⟩
    | false =>
      rw [hs, if_neg (by simp)] at hout
      obtain ⟨j, j1, j2, j3⟩ := cutc hs
      generalize hce : cutN d v f = c at *
      have hc1 : 1 ≤ c := by rw [j3]; exact div_pos' (Nat.le_trans (Nat.pow_le_pow_right (by omega) (by omega)) f4)
      rcases List.mem_cons.1 hout with e | e
      · subst e
        obtain ⟨m1, m2⟩ := mem_iff.1 hm
        simp only at m1 m2
        rcases m2 with m2 | m2
        · omega
        · have m2' := m2
          rw [f5] at m1; rw [j3] at m2
          obtain ⟨t, t1, t2, t3⟩ := low_of h hL hlog hf128 f4 f2 f6 (j := j) (i := K) j2 (Nat.le_refl _) m1 m2
          exact ⟨_, t3, by rw [key _ (hd t t2), hs, if_neg (by simp), m2', if_neg (by simp)]⟩
      · rw [List.mem_singleton] at e
        subst e
        obtain ⟨m1, m2⟩ := mem_iff.1 hm
        simp only at m1 m2
        rcases m2 with m2 | m2
        · omega
        · have m1' := m1
          rw [j3] at m1
          obtain ⟨t, t1, t2, t3⟩ := low_of h hL hlog hf128 f4 f2 f6 (j := 0) (i := j) (by omega) (by omega) m1 (by simpa using m2)
          exact ⟨_, t3, by rw [key _ (hd t (by omega)), hs, if_neg (by simp), m1', if_pos rfl]⟩
theorem root_hot (h : Rcv d R) (hne : R ≠ []) : hotB d R 1 = true := by
  obtain ⟨u, hu⟩ := List.exists_mem_of_ne_nil R hne
  obtain ⟨l1, l2, l3⟩ := h.leaf hu
  exact hot_iff.2 ⟨u, hu, (below_iff l1).2 ⟨d, by omega, by rw [Nat.add_div_left _ (Nat.two_pow_pos d), Nat.div_eq_of_lt (h.2 u hu)]⟩⟩
theorem cov_one (h : Rcv d R) (hne : R ≠ []) {y : Nat × Nat} (hy : y ∈ covN 1#8 d R) : hotB d R y.1 = false ∧ 2 ≤ y.1 ∧ hotB d R (y.1 / 2) = true ∧ y.2 = 0 := by
  obtain ⟨⟨y1, y2⟩, hm⟩ := cov_mem.1 hy
  unfold minN at hm
  rw [if_pos rfl] at hm
  split at hm
  · rename_i hc
    simp only [Bool.and_eq_true, Bool.not_eq_true', Bool.or_eq_true, decide_eq_true_eq] at hc
    have hr := root_hot h hne
    have hyn : y.1 ≠ 1 := fun e => by rw [e, hr] at hc; simp at hc
    exact ⟨hc.1, by omega, hc.2.resolve_left hyn, (Option.some.inj hm).symm⟩
  · cases hm
/-- a leaf is a member of at most one subset -/
theorem cov_uniq (h : Rcv d R) {k : BitVec 8} (hne : R ≠ []) {y y' : Nat × Nat} (hy : y ∈ covN k d R) (hy' : y' ∈ covN k d R) {u : Nat} (hu : u < 2 ^ d) (hm : memB (2 ^ d + u) y.1 y.2 = true) (hm' : memB (2 ^ d + u) y'.1 y'.2 = true) : y = y' := by
  have hL : 1 ≤ 2 ^ d + u := by have := Nat.two_pow_pos d; omega
  by_cases hk : k = 1#8
  · subst hk
    obtain ⟨a1, a2, a3, a4⟩ := cov_one h hne hy
    obtain ⟨b1, b2, b3, b4⟩ := cov_one h hne hy'
    have m1 := (mem_iff.1 hm).1
    have m2 := (mem_iff.1 hm').1
    have up : ∀ {s : Nat}, 2 ≤ s → belowB (2 ^ d + u) s = true → belowB (2 ^ d + u) (s / 2) = true := fun {s} h2 hb => below_trans hL hb ((below_iff (by omega)).2 ⟨1, by simpa using h2, by simp⟩)
    have hz := low_eq h hL (z1 := y.1 / 2) (z2 := y'.1 / 2) ⟨a3, up a2 m1, y.1, rfl, a2, m1, a1⟩ ⟨b3, up b2 m2, y'.1, rfl, b2, m2, b1⟩
    have l1 := log2_half a2
    have l2 := log2_half b2
    have := below_same hL m1 m2 (by rw [l1, l2, hz])
    exact Prod.ext this (by rw [a4, b4])
  · obtain ⟨z, z1, z2⟩ := cov_low h hk hne hy hu hm
    obtain ⟨z', z1', z2'⟩ := cov_low h hk hne hy' hu hm'
    rw [z2, z2', low_eq h hL z1 z1']
/-- a revoked one of none -/
theorem cov_no (h : Rcv d R) {k : BitVec 8} (hne : R ≠ []) {y : Nat × Nat} (hy : y ∈ covN k d R) {u : Nat} (hu : u < 2 ^ d) (hr : u ∈ R) : memB (2 ^ d + u) y.1 y.2 = false := by
  have hhot := (hot_leaf h hu).2 hr
  cases hm : memB (2 ^ d + u) y.1 y.2 with
  | false => rfl
  | true =>
    by_cases hk : k = 1#8
    · subst hk
      have := hot_above h hhot (mem_iff.1 hm).1
      rw [(cov_one h hne hy).1] at this; cases this
    · obtain ⟨z, ⟨_, _, s, _, _, s3, s4⟩, _⟩ := cov_low h hk hne hy hu hm
      have := hot_above h hhot s3
      rw [s4] at this; cases this
theorem low_ex (h : Rcv d R) (hne : R ≠ []) {u : Nat} (hu : u < 2 ^ d) (hn : u ∉ R) : ∃ z, Low d R (2 ^ d + u) z := by
  have hp := Nat.two_pow_pos d
  have hL : 1 ≤ 2 ^ d + u := by omega
  have h0 : hotB d R (2 ^ d + u) = false := by cases hh : hotB d R (2 ^ d + u) with | false => rfl | true => exact absurd ((hot_leaf h hu).1 hh) hn
  obtain ⟨t, t1, t2, t3, t4⟩ := turn_at (p := fun i => hotB d R ((2 ^ d + u) / 2 ^ i)) d 0 (by simp only [Nat.zero_add]; rw [Nat.add_div_left _ hp, Nat.div_eq_of_lt hu]; exact root_hot h hne) (by simpa using h0)
  have h1 : 2 ^ (t + 1) ≤ 2 ^ d + u := Nat.le_trans (Nat.pow_le_pow_right (by omega) (by omega)) (Nat.le_add_right _ _)
  have h2 : 2 ^ t ≤ 2 ^ d + u := Nat.le_trans (Nat.pow_le_pow_right (by omega) (by omega)) h1
  refine ⟨_, t3, (below_iff hL).2 ⟨t + 1, h1, rfl⟩, (2 ^ d + u) / 2 ^ t, (div_succ _ _).symm, ?_, (below_iff hL).2 ⟨t, h2, rfl⟩, t4⟩
  have := pow_div_le (w := 2 ^ d + u) (i := t) (j := 1) h1; simpa using this
theorem br_of {z c : Nat} (hz : c / 2 = z) (h2 : 2 ≤ c) (hc : c < 128) (hh : hotB d R c = true) (hs : hotB d R (c ^^^ 1) = false) : brN d R z = true ∧ nxN d R z = c := by
  unfold brN nxN
  rcases (show 2 * (c / 2) = c ∨ 2 * (c / 2) + 1 = c by omega) with e | e
  · have := dbl0 (n := c / 2) (by omega)
    rw [e] at this
    rw [this] at hs
    rw [hz] at e
    rw [e, hh, hs]; simp
  · have := dbl1 (n := c / 2) (by omega)
    rw [e] at this
    rw [this, hz] at hs
    rw [hz] at e
    rw [e, hh, hs]; simp
theorem foot_down {z : Nat} (hz : z < 128) : ∀ (i g : Nat), 2 ^ i ≤ z → (∀ t, t < i → hotB d R (z / 2 ^ t) = true ∧ hotB d R ((z / 2 ^ t) ^^^ 1) = false) → footN d R (i + g) (z / 2 ^ i) = footN d R g z
  | 0, g, _, _ => by simp
  | i + 1, g, hi, hc => by
    obtain ⟨c1, c2⟩ := hc i (by omega)
    have h2 : 2 ≤ z / 2 ^ i := by have := pow_div_le (w := z) (i := i) (j := 1) hi; simpa using this
    obtain ⟨b1, b2⟩ := br_of (z := z / 2 ^ (i + 1)) (div_succ z i).symm h2 (Nat.lt_of_le_of_lt (Nat.div_le_self _ _) hz) c1 c2
    rw [show i + 1 + g = (i + g) + 1 from by omega, footN, b1, if_pos rfl, b2]
    exact foot_down hz i g (Nat.le_trans (Nat.pow_le_pow_right (by omega) (by omega)) hi) fun t ht => hc t (by omega)
/-- a leaf that is not revoked is a member of a subset -/
theorem cov_has (h : Rcv d R) {k : BitVec 8} (hne : R ≠ []) {u : Nat} (hu : u < 2 ^ d) (hn : u ∉ R) : ∃ y ∈ covN k d R, memB (2 ^ d + u) y.1 y.2 = true := by
  have h64 := pow_le64 h.1
  have hpow : 2 ^ (d + 1) = 2 * 2 ^ d := by rw [Nat.pow_succ, Nat.mul_comm]
  have hlog := leaf_log hu
  have hL : 1 ≤ 2 ^ d + u := by omega
  have hL2 : 2 ^ d + u < 128 := by omega
  obtain ⟨z, z1, z2, s, s1, s2, s3, s4⟩ := low_ex h hne hu hn
  have hsl := below_log hL s3
  have hsh := log2_half s2
  obtain ⟨zp, zl, zb⟩ := hot_log h z1
  have hs128 : s < 2 ^ (d + 1) := (Nat.log2_lt (by omega)).1 (by omega)
  by_cases hk : k = 1#8
  · subst hk
    refine ⟨(s, 0), cov_mem.2 ⟨⟨by simp only; omega, hs128⟩, ?_⟩, mem_iff.2 ⟨s3, .inl rfl⟩⟩
    unfold minN
    rw [if_pos rfl, s4, s1, z1]; simp
  · have hsb := sib_lt (n := s) (by omega)
    have hs2' := sib_two_le (n := s) (by omega) s2
    have hslog := sib_log (n := s) (by omega) s2
    have hc : hotB d R (s ^^^ 1) = true := by
      have := hot_kids h (v := z) zp (by rw [s1] at hsh; omega)
      rw [z1, ← s1] at this
      rcases (show 2 * (s / 2) = s ∨ 2 * (s / 2) + 1 = s by omega) with e | e
      · have e2 := dbl0 (n := s / 2) (by omega)
        rw [e] at e2
        rw [e, ← e2, s4] at this; simpa using this.symm
      · have e2 := dbl1 (n := s / 2) (by omega)
        rw [e] at e2
        rw [e, s4, ← e2] at this; simpa using this.symm
    have hcn : belowB (2 ^ d + u) (s ^^^ 1) = false := by
      cases hb : belowB (2 ^ d + u) (s ^^^ 1) with
      | false => rfl
      | true => exact absurd (below_same hL hb s3 hslog) (sib_ne (by omega))
    obtain ⟨hh, i, i1, i2, i3⟩ := hd_spec (d := d) (R := R) 7 z zp (by have := h.1; omega)
    have hi6 := le_log i1 (by omega)
    have vhot : hotB d R (hdN d R 7 z) = true := by rw [i2]; exact hot_ups h z1 i i1
    have hbr := br_of (d := d) (R := R) (z := z) (c := s ^^^ 1) (by rw [sib_half (by omega)]; exact s1) hs2' hsb hc (by rw [sib_sib (by omega)]; exact s4)
    have hzi := log2_div z i i1
    have hzpos := div_pos' i1
    have hft : footN d R 7 (hdN d R 7 z) = footN d R (6 - i) (s ^^^ 1) := by
      rw [i2]
      have := foot_down (d := d) (R := R) (z := z) (by omega) i (7 - i) i1 (fun t ht => ⟨hot_ups h z1 t (Nat.le_trans (Nat.pow_le_pow_right (by omega) (by omega)) i1), by
        have := i3 t ht; unfold isHd at this; rw [Bool.or_eq_false_iff] at this; exact this.2⟩)
      rw [Nat.add_sub_cancel' (by omega)] at this
      rw [this, show 7 - i = (6 - i) + 1 from by omega, footN, hbr.1, if_pos rfl, hbr.2]
    have hil : i ≤ Nat.log2 z := by omega
    rw [s1] at hsh
    have hd6 := h.1
    obtain ⟨g1, g2, g3, K', g4, g5, g6⟩ := foot_spec h (6 - i) (s ^^^ 1) (by omega) (by omega) (by omega)
    have hvl := hot_log h vhot
    obtain ⟨f1, f2, f3, K, f4, f5, f6⟩ := foot_spec h 7 (hdN d R 7 z) hvl.1 hvl.2.1 (by omega)
    have hfb : belowB (footN d R 7 (hdN d R 7 z)) (s ^^^ 1) = true := by rw [hft]; exact (below_iff g1).2 ⟨K', g4, g5⟩
    have hLv : belowB (2 ^ d + u) (hdN d R 7 z) = true := below_trans hL z2 (by rw [i2]; exact (below_iff zp).2 ⟨i, i1, rfl⟩)
    have hvlog : Nat.log2 (hdN d R 7 z) ≤ Nat.log2 z := by rw [i2]; omega
    have hflog := below_log f1 hfb
    have cutc := fun hs => cut_chain (d := d) (k := k) (v := hdN d R 7 z) (w := footN d R 7 (hdN d R 7 z)) (.inr trivial) f4 f5 hvl.1 hs
    have hout := fun y => (cov_own (k := k) h hne vhot y).2
    unfold outP at hout
    rw [if_neg hk, if_pos hh] at hout
    generalize hve : hdN d R 7 z = v at *
    clear hft f3
    generalize hfe : footN d R 7 v = f at *
    have hLf : belowB (2 ^ d + u) f = false := by
      cases hb : belowB (2 ^ d + u) f with
      | false => rfl
      | true => have := below_trans hL hb hfb; rw [hcn] at this; cases this
    have hfv : f ≠ v := fun e => by rw [e] at hflog; omega
    rw [if_neg hfv] at hout
    cases hs : subN k d v f with
    | true =>
      rw [hs, if_pos rfl] at hout
      exact ⟨(v, f), (hout _ (by simp)).1, mem_iff.2 ⟨hLv, .inr hLf⟩⟩
    | false =>
      rw [hs, if_neg (by simp)] at hout
      cases hb : belowB (2 ^ d + u) (cutN d v f) with
      | true => exact ⟨(cutN d v f, f), (hout _ (by simp)).1, mem_iff.2 ⟨hb, .inr hLf⟩⟩
      | false => exact ⟨(v, cutN d v f), (hout _ (by simp)).1, mem_iff.2 ⟨hLv, .inr hb⟩⟩
theorem path_app : ∀ (b a w : Nat), pathN w (a + b) = pathN (w / 2 ^ b) a ++ pathN w b
  | 0, a, w => by simp [pathN]
  | b + 1, a, w => by
    rw [show a + (b + 1) = (a + b) + 1 from rfl, pathN_snoc, pathN_snoc, path_app b a (w / 2), List.append_assoc, Nat.div_div_eq_div_mul, show 2 * 2 ^ b = 2 ^ (b + 1) from by rw [Nat.pow_succ, Nat.mul_comm]]
/-- the node at which a subset is cut: special, and none is between it and the head -/
theorem cut_spec {k : BitVec 8} {v w K : Nat} (h1 : 2 ^ K ≤ w) (h2 : v = w / 2 ^ K) (hv : 1 ≤ v) (hs : subN k d v w = false) : ∃ j, 1 ≤ j ∧ j < K ∧ cutN d v w = w / 2 ^ j ∧ spcl d (w / 2 ^ j) = true ∧ subN k d v (w / 2 ^ j) = true := by
  have hl := log2_div w K h1
  rw [← h2] at hl
  unfold subN at hs
  simp only [Bool.or_eq_false_iff, decide_eq_false_iff_not] at hs
  have h0 : cutN d v w ≠ 0 := hs.2
  unfold cutN at h0 ⊢
  unfold fstS at h0 ⊢
  cases hf : (pathN (w / 2) (Nat.log2 w - Nat.log2 v - 1)).find? (spcl d) with
  | none => rw [hf] at h0; simp at h0
  | some c =>
    obtain ⟨j, hj, rfl⟩ := pathN_mem.1 (List.mem_of_find?_eq_some hf)
    have hdj : w / 2 / 2 ^ j = w / 2 ^ (j + 1) := by rw [Nat.div_div_eq_div_mul, show 2 * 2 ^ j = 2 ^ (j + 1) from by rw [Nat.pow_succ, Nat.mul_comm]]
    have hsp := List.find?_some hf
    rw [hdj] at hsp
    refine ⟨j + 1, by omega, by omega, by rw [Option.getD_some, hdj], hsp, ?_⟩
    have hj1 : 2 ^ (j + 1) ≤ w := Nat.le_trans (Nat.pow_le_pow_right (by omega) (by omega)) h1
    have hlc := log2_div w (j + 1) hj1
    unfold subN
    simp only [Bool.or_eq_true, decide_eq_true_eq]
    refine .inr ?_
    have hpos : ∀ n ∈ pathN (w / 2 ^ (j + 1) / 2) (Nat.log2 (w / 2 ^ (j + 1)) - Nat.log2 v - 1), ∃ t, n = w / 2 ^ (j + 1 + (t + 1)) ∧ j + 1 + (t + 1) < K := by
      intro n hn
      obtain ⟨t, t1, rfl⟩ := pathN_mem.1 hn
      refine ⟨t, ?_, by omega⟩
      rw [Nat.div_div_eq_div_mul, Nat.div_div_eq_div_mul, show 2 ^ (j + 1) * (2 * 2 ^ t) = 2 ^ (j + 1 + (t + 1)) from by rw [Nat.pow_add 2 (j + 1), Nat.pow_succ 2 t, Nat.mul_comm 2 (2 ^ t)]]
    have hpos2 : ∀ n ∈ pathN (w / 2 ^ (j + 1) / 2) (Nat.log2 (w / 2 ^ (j + 1)) - Nat.log2 v - 1), 1 ≤ n := by
      intro n hn
      obtain ⟨t, rfl, ht⟩ := hpos n hn
      exact div_pos' (Nat.le_trans (Nat.pow_le_pow_right (by omega) (by omega)) h1)
    rw [fst0 hpos2]
    have hap := path_app (j + 1) (Nat.log2 (w / 2 ^ (j + 1)) - Nat.log2 v - 1) (w / 2)
    rw [show Nat.log2 (w / 2 ^ (j + 1)) - Nat.log2 v - 1 + (j + 1) = Nat.log2 w - Nat.log2 v - 1 from by omega, show w / 2 / 2 ^ (j + 1) = w / 2 ^ (j + 1) / 2 from by rw [Nat.div_div_eq_div_mul, Nat.div_div_eq_div_mul, Nat.mul_comm]] at hap
    rw [hap, List.find?_append] at hf
    intro n hn
    cases hfn : (pathN (w / 2 ^ (j + 1) / 2) (Nat.log2 (w / 2 ^ (j + 1)) - Nat.log2 v - 1)).find? (spcl d) with
    | none => simpa using (List.find?_eq_none.1 hfn) n hn
    | some a =>
      rw [hfn, Option.some_or] at hf
      obtain ⟨t, e, ht⟩ := hpos a (List.mem_of_find?_eq_some hfn)
      rw [Option.some.inj hf, hdj] at e
      exact absurd e (divk_ne (Nat.le_trans (Nat.pow_le_pow_right (by omega) (by omega)) h1) (by omega))
/-- the cover's subsets are subsets of the scheme -/
theorem cov_sub (h : Rcv d R) {k : BitVec 8} (hne : R ≠ []) {y : Nat × Nat} (hy : y ∈ covN k d R) : subP k d y.1 y.2 = true := by
  have h64 := pow_le64 h.1
  have hpow : 2 ^ (d + 1) = 2 * 2 ^ d := by rw [Nat.pow_succ, Nat.mul_comm]
  have hy1 := (cov_mem.1 hy).1
  unfold subP
  rw [decide_eq_true hy1, Bool.true_and]
  by_cases hk : k = 1#8
  · subst hk
    rw [if_pos rfl, (cov_one h hne hy).2.2.2]; rfl
  · rw [if_neg hk]
    have hv := own_hot h hne hy
    have hout := (cov_own h hne hv y).1 ⟨hy, rfl⟩
    have hhd : isHd d R (ownN k d R y) = true := by
      unfold ownN; rw [if_neg hk]
      exact (hd_spec 7 y.1 hy1.1 (by have := node_log hy1.1 hy1.2; have := h.1; omega)).1
    generalize hve : ownN k d R y = v at *
    obtain ⟨v1, vl, v2⟩ := hot_log h hv
    obtain ⟨f1, f2, f3, K, f4, f5, f6⟩ := foot_spec h 7 v v1 vl (by have := h.1; omega)
    unfold outP at hout
    rw [if_neg hk, if_pos hhd] at hout
    have cutc := fun hs => cut_spec (d := d) (k := k) (v := v) (w := footN d R 7 v) f4 f5 v1 hs
    generalize hfe : footN d R 7 v = f at *
    have hflt : f < 2 ^ (d + 1) := (Nat.log2_lt (by omega)).1 (by omega)
    have two : ∀ i j, i < j → j ≤ K → belowB (f / 2 ^ i) (f / 2 ^ j) = true ∧ f / 2 ^ i ≠ f / 2 ^ j ∧ f / 2 ^ i < 2 ^ (d + 1) ∧ f / 2 ^ i ≠ 0 := by
      intro i j hij hj
      have hi1 : 2 ^ i ≤ f := Nat.le_trans (Nat.pow_le_pow_right (by omega) (by omega)) f4
      have hj1 : 2 ^ j ≤ f := Nat.le_trans (Nat.pow_le_pow_right (by omega) (by omega)) f4
      have hp := div_pos' hi1
      refine ⟨(below_iff hp).2 ⟨j - i, pow_div_le (by rw [Nat.add_sub_cancel' (by omega)]; exact hj1), ?_⟩, divk_ne hj1 hij, Nat.lt_of_le_of_lt (Nat.div_le_self _ _) hflt, by omega⟩
      rw [Nat.div_div_eq_div_mul, ← Nat.pow_add, Nat.add_sub_cancel' (by omega)]
    by_cases hfv : f = v
    · rw [if_pos hfv] at hout; cases hout
    · rw [if_neg hfv] at hout
      have hK0 : 0 < K := by
        rcases Nat.eq_zero_or_pos K with e | e
        · subst e; simp at f5; exact absurd f5.symm hfv
        · exact e
      have t0 := two 0 K hK0 (Nat.le_refl _)
      rw [Nat.pow_zero, Nat.div_one, ← f5] at t0
      cases hs : subN k d v f with
      | true =>
        rw [hs, if_pos rfl, List.mem_singleton] at hout
        subst hout
        simp only
        rw [if_neg t0.2.2.2, t0.1, hs, decide_eq_true ⟨t0.2.2.1, t0.2.1⟩]; rfl
      | false =>
        rw [hs, if_neg (by simp)] at hout
        obtain ⟨j, j1, j2, j3, j4, j5⟩ := cutc hs
        rw [j3] at hout
        have t1 := two j K j2 (Nat.le_refl _)
        have t2 := two 0 j (by omega) (by omega)
        rw [Nat.pow_zero, Nat.div_one] at t2
        rw [← f5] at t1
        rcases List.mem_cons.1 hout with e | e
        · subst e
          simp only
          rw [if_neg t1.2.2.2, t1.1, j5, decide_eq_true ⟨t1.2.2.1, t1.2.1⟩]; rfl
        · rw [List.mem_singleton] at e
          subst e
          simp only
          have : subN k d (f / 2 ^ j) f = true := by unfold subN; rw [j4]; simp
          rw [if_neg t2.2.2.2, t2.1, this, decide_eq_true ⟨t2.2.2.1, t2.2.1⟩]; rfl
/-- a leaf below a node -/
theorem leaf_ex {x : Nat} (h1 : 1 ≤ x) (hl : Nat.log2 x ≤ d) : ∃ u, u < 2 ^ d ∧ belowB (2 ^ d + u) x = true := by
  have hx1 : 2 ^ Nat.log2 x ≤ x := (Nat.le_log2 (by omega)).1 (Nat.le_refl _)
  have hx2 : x < 2 ^ (Nat.log2 x + 1) := (Nat.log2_lt (by omega)).1 (by omega)
  have hp : 2 ^ d = 2 ^ Nat.log2 x * 2 ^ (d - Nat.log2 x) := by rw [← Nat.pow_add, Nat.add_sub_cancel' hl]
  have hq := Nat.two_pow_pos (d - Nat.log2 x)
  have hlow : 2 ^ d ≤ x * 2 ^ (d - Nat.log2 x) := by rw [hp]; exact Nat.mul_le_mul_right _ hx1
  have hhigh : x * 2 ^ (d - Nat.log2 x) < 2 ^ d + 2 ^ d := by
    have : x * 2 ^ (d - Nat.log2 x) < 2 ^ (Nat.log2 x + 1) * 2 ^ (d - Nat.log2 x) := Nat.mul_lt_mul_of_pos_right hx2 hq
    rw [Nat.pow_succ, Nat.mul_right_comm, ← hp] at this; omega
  refine ⟨x * 2 ^ (d - Nat.log2 x) - 2 ^ d, by omega, ?_⟩
  rw [Nat.add_sub_cancel' hlow]
  exact (below_iff (by have := Nat.two_pow_pos d; omega)).2 ⟨d - Nat.log2 x, Nat.le_mul_of_pos_left _ (by omega), by rw [Nat.mul_div_cancel _ hq]⟩
/-- a subset has a member -/
theorem sub_mem {k : BitVec 8} {n m : Nat} (h6 : d ≤ 6) (h : subP k d n m = true) : ∃ u, u < 2 ^ d ∧ memB (2 ^ d + u) n m = true := by
  have h64 := pow_le64 h6
  have hpow : 2 ^ (d + 1) = 2 * 2 ^ d := by rw [Nat.pow_succ, Nat.mul_comm]
  unfold subP at h
  rw [Bool.and_eq_true, decide_eq_true_eq] at h
  obtain ⟨⟨h1, h2⟩, h3⟩ := h
  by_cases hm : m = 0
  · obtain ⟨u, hu, hb⟩ := leaf_ex (d := d) h1 (node_log h1 h2)
    exact ⟨u, hu, mem_iff.2 ⟨hb, .inl hm⟩⟩
  · by_cases hk : k = 1#8
    · rw [if_pos hk] at h3; exact absurd (by simpa using h3) hm
    · rw [if_neg hk, if_neg hm, Bool.and_eq_true, Bool.and_eq_true, decide_eq_true_eq] at h3
      obtain ⟨⟨⟨a1, a2⟩, a3⟩, _⟩ := h3
      have hm1 : 1 ≤ m := by omega
      obtain ⟨t, t1, t2, t3⟩ := below_split hm1 h1 a3 a2
      have hm2 : 2 ≤ m := Nat.le_trans (by have := Nat.pow_le_pow_right (n := 2) (by omega) (show 1 ≤ t + 1 by omega); simpa using this) t3
      have hl := node_log hm1 a1
      have e1 := sib_lt (n := m) (by omega)
      have e2 := sib_two_le (n := m) (by omega) hm2
      have e3 := sib_log (n := m) (by omega) hm2
      have e4 := sib_half (n := m) (by omega)
      have e5 := sib_ne (n := m) (by omega)
      obtain ⟨u, hu, hb⟩ := leaf_ex (d := d) (x := m ^^^ 1) (by omega) (by omega)
      have hL : 1 ≤ 2 ^ d + u := by have := Nat.two_pow_pos d; omega
      refine ⟨u, hu, mem_iff.2 ⟨below_trans hL hb ((below_iff (by omega)).2 ⟨t + 1, ?_, ?_⟩), .inr ?_⟩⟩
      · have := (Nat.le_log2 (n := m) (k := t + 1) (by omega)).2 t3
        exact (Nat.le_log2 (by omega)).1 (by omega)
      · rw [t2, Nat.pow_succ, Nat.mul_comm, ← Nat.div_div_eq_div_mul, ← Nat.div_div_eq_div_mul, e4]
      · cases hb2 : belowB (2 ^ d + u) m with
        | false => rfl
        | true => exact absurd (below_same hL hb hb2 e3) e5
/-- the cover, of no receivers too -/
def covQ (k : BitVec 8) (d : Nat) (R : List Nat) : List (Nat × Nat) := if R = [] then [(1, 0)] else covN k d R
theorem covQ_asc {k : BitVec 8} : Asc (covQ k d R) := by
  unfold covQ; split
  · simp [Asc]
  · exact cov_asc
theorem one_mem {u : Nat} (hu : u < 2 ^ d) : memB (2 ^ d + u) 1 0 = true := by
  have hp := Nat.two_pow_pos d
  exact mem_iff.2 ⟨(below_iff (by omega)).2 ⟨d, by omega, by rw [Nat.add_div_left _ hp, Nat.div_eq_of_lt hu]⟩, .inl rfl⟩
theorem covQ_sub (h : Rcv d R) {k : BitVec 8} {y : Nat × Nat} (hy : y ∈ covQ k d R) : subP k d y.1 y.2 = true := by
  unfold covQ at hy; split at hy
  · rw [List.mem_singleton] at hy; subst hy
    unfold subP
    have : 1 < 2 ^ (d + 1) := Nat.lt_of_lt_of_le (by omega) (Nat.pow_le_pow_right (n := 2) (by omega) (show 1 ≤ d + 1 by omega))
    rw [decide_eq_true ⟨Nat.le_refl _, this⟩]
    split <;> simp
  · rename_i hne; exact cov_sub h hne hy
theorem covQ_uniq (h : Rcv d R) {k : BitVec 8} {y y' : Nat × Nat} (hy : y ∈ covQ k d R) (hy' : y' ∈ covQ k d R) {u : Nat} (hu : u < 2 ^ d) (hm : memB (2 ^ d + u) y.1 y.2 = true) (hm' : memB (2 ^ d + u) y'.1 y'.2 = true) : y = y' := by
  unfold covQ at hy hy'; split at hy
  · rename_i hne
    rw [if_pos hne] at hy'
    rw [List.mem_singleton] at hy hy'; rw [hy, hy']
  · rename_i hne
    rw [if_neg hne] at hy'
    exact cov_uniq h hne hy hy' hu hm hm'
/-- a receiver is a member of one of the cover's subsets if and only if it is not revoked -/
theorem covQ_any (h : Rcv d R) (k : BitVec 8) {u : Nat} (hu : u < 2 ^ d) : ((covQ k d R).any fun y => memB (2 ^ d + u) y.1 y.2) = decide (u ∉ R) := by
  unfold covQ; split
  · rename_i hne; subst hne
    simp [one_mem hu]
  · rename_i hne
    by_cases hr : u ∈ R
    · rw [decide_eq_false (by simpa using hr), List.any_eq_false]
      intro y hy; rw [cov_no h hne hy hu hr]; simp
    · rw [decide_eq_true hr, List.any_eq_true]
      exact cov_has h hne hu hr
end Go.Sx

end
section
/- Covers: the program's mirror comes to the plain cover. -/
set_option linter.unusedVariables false
set_option linter.unusedSimpArgs false
set_option maxRecDepth 100000
namespace Go.Sx
open Go

def mkS (y : Nat × Nat) : TSubset := ⟨(y.1 : Int), (y.2 : Int)⟩
/-! the hot nodes -/
def upF : Nat → Nat → List Int → List Int
  | 0, _, ks => ks
  | f + 1, n, ks => if n = 0 then ks else upF f (n / 2) (insS ks (n : Int))
theorem up_loop (a5 : Int) (rec1 : Int × List Int → Option (List TSubset × Int)) : ∀ (f fuel n : Nat) (ks : List Int), n < 2 ^ f → f < fuel → fixN (cover_Cover_L2 a5 rec1) fuel ((n : Int), ks) = rec1 (w64 (a5 + 1), upF f n ks)
  | f, 0, n, ks, _, h => by omega
  | 0, fuel + 1, n, ks, hn, _ => by
    rw [fix_step]; simp only [cover_Cover_L2]
    rw [if_neg (by simp at hn; omega)]; rfl
  | f + 1, fuel + 1, n, ks, hn, hf => by
    rw [fix_step]; simp only [cover_Cover_L2]
    unfold upF
    by_cases h0 : n = 0
    · rw [if_neg (by omega), if_pos h0]
    · rw [if_pos (by omega), if_neg h0, show shG (un 1#64) = some 1 from by decide, bind_some, shr_nat _ _ (by omega), Nat.pow_one]
      exact up_loop a5 rec1 f fuel (n / 2) _ (by rw [Nat.pow_succ] at hn; omega) (by omega)
theorem insS_mem {ks : List Int} {k z : Int} : z ∈ insS ks k ↔ z ∈ ks ∨ z = k := by
  unfold insS; split
  · rename_i h; exact ⟨.inl, fun h' => h'.elim id (fun e => e ▸ h)⟩
  · simp
theorem insS_len {ks : List Int} {k : Int} : (insS ks k).length ≤ ks.length + 1 := by unfold insS; split <;> simp
theorem up_mem : ∀ (f n : Nat) (ks : List Int) (z : Int), n < 2 ^ f → (z ∈ upF f n ks ↔ z ∈ ks ∨ ∃ j, 2 ^ j ≤ n ∧ z = ((n / 2 ^ j : Nat) : Int))
  | 0, n, ks, z, hn => by
    unfold upF
    constructor
    · exact .inl
    · rintro (h | ⟨j, hj, _⟩)
      · exact h
      · have := Nat.two_pow_pos j; simp at hn; omega
  | f + 1, n, ks, z, hn => by
    unfold upF
    by_cases h0 : n = 0
    · rw [if_pos h0]
      constructor
      · exact .inl
      · rintro (h | ⟨j, hj, _⟩)
        · exact h
        · have := Nat.two_pow_pos j; omega
    · rw [if_neg h0, up_mem f (n / 2) _ z (by rw [Nat.pow_succ] at hn; omega), insS_mem]
      have hd2 : ∀ j, n / 2 / 2 ^ j = n / 2 ^ (j + 1) := fun j => by rw [Nat.div_div_eq_div_mul, Nat.pow_succ, Nat.mul_comm 2]
      constructor
      · rintro ((h | h) | ⟨j, h1, h2⟩)
        · exact .inl h
        · exact .inr ⟨0, by simp; omega, by simpa using h⟩
        · exact .inr ⟨j + 1, by rw [Nat.pow_succ]; omega, by rw [h2, hd2]⟩
      · rintro (h | ⟨j, h1, h2⟩)
        · exact .inl (.inl h)
        · cases j with
          | zero => exact .inl (.inr (by simpa using h2))
          | succ j => exact .inr ⟨j, by rw [Nat.pow_succ] at h1; omega, by rw [h2, hd2]⟩
theorem up_len : ∀ (f n : Nat) (ks : List Int), (upF f n ks).length ≤ ks.length + f
  | 0, n, ks => by simp [upF]
  | f + 1, n, ks => by
    unfold upF; split
    · omega
    · have := up_len f (n / 2) (insS ks (n : Int)); have := insS_len (ks := ks) (k := (n : Int)); omega
/-- all hot nodes -/
def hotL (d : Nat) (l : List Int) : List Int := l.foldl (fun ks u => upF 8 (2 ^ d + u.toNat) ks) []
theorem hotL_mem {d : Nat} (h6 : d ≤ 6) : ∀ (l : List Int) (ks : List Int) (z : Int), (∀ u ∈ l, u.toNat < 2 ^ d) → (z ∈ l.foldl (fun ks u => upF 8 (2 ^ d + u.toNat) ks) ks ↔ z ∈ ks ∨ ∃ u ∈ l, ∃ j, 2 ^ j ≤ 2 ^ d + u.toNat ∧ z = (((2 ^ d + u.toNat) / 2 ^ j : Nat) : Int))
  | [], ks, z, _ => by simp
  | a :: l, ks, z, h => by
    have h64 := pow_le64 h6
    have ha := h a (by simp)
    rw [List.foldl_cons, hotL_mem h6 l _ z (fun u hu => h u (by simp [hu])), up_mem 8 _ _ _ (by omega)]
    constructor
    · rintro ((h1 | h1) | ⟨u, hu, h1⟩)
      · exact .inl h1
      · exact .inr ⟨a, by simp, h1⟩
      · exact .inr ⟨u, by simp [hu], h1⟩
    · rintro (h1 | ⟨u, hu, h1⟩)
      · exact .inl (.inl h1)
      · rcases List.mem_cons.1 hu with rfl | hu
        · exact .inl (.inr h1)
        · exact .inr ⟨u, hu, h1⟩
theorem hotL_len {d : Nat} : ∀ (l : List Int) (ks : List Int), (l.foldl (fun ks u => upF 8 (2 ^ d + u.toNat) ks) ks).length ≤ ks.length + 8 * l.length
  | [], ks => by simp
  | a :: l, ks => by
    rw [List.foldl_cons, List.length_cons]
    have := hotL_len (d := d) l (upF 8 (2 ^ d + a.toNat) ks)
    have := up_len 8 (2 ^ d + a.toNat) ks
    omega
def rcvL (l : List Int) : List Nat := l.map Int.toNat
theorem rcv_of {d : Nat} {l : List Int} (h6 : d ≤ 6) (h : lstB d l = true) : Rcv d (rcvL l) := ⟨h6, fun u hu => by
  obtain ⟨a, ha, rfl⟩ := List.mem_map.1 hu
  obtain ⟨w, hw, hw2⟩ := lst_mem h ha
  rw [hw]; simpa using hw2⟩
theorem hotL_hot {d : Nat} {l : List Int} (h6 : d ≤ 6) (h : lstB d l = true) (n : Nat) : ((n : Int) ∈ hotL d l) ↔ hotB d (rcvL l) n = true := by
  have hr := rcv_of h6 h
  unfold hotL
  rw [hotL_mem h6 l [] _ (fun u hu => hr.2 _ (List.mem_map.2 ⟨u, hu, rfl⟩)), hot_iff]
  simp only [List.not_mem_nil, false_or]
  constructor
  · rintro ⟨u, hu, j, h1, h2⟩
    refine ⟨u.toNat, List.mem_map.2 ⟨u, hu, rfl⟩, (below_iff (hr.leaf (List.mem_map.2 ⟨u, hu, rfl⟩)).1).2 ⟨j, h1, by omega⟩⟩
  · rintro ⟨u, hu, hb⟩
    obtain ⟨a, ha, rfl⟩ := List.mem_map.1 hu
    obtain ⟨j, h1, h2⟩ := (below_iff (hr.leaf hu).1).1 hb
    exact ⟨a, ha, j, h1, by rw [h2]⟩
theorem hotL_nat {d : Nat} {l : List Int} (h6 : d ≤ 6) (h : lstB d l = true) {k : Int} (hk : k ∈ hotL d l) : ∃ n : Nat, k = (n : Int) ∧ hotB d (rcvL l) n = true := by
  have hr := rcv_of h6 h
  unfold hotL at hk
  rw [hotL_mem h6 l [] _ (fun u hu => hr.2 _ (List.mem_map.2 ⟨u, hu, rfl⟩))] at hk
  simp only [List.not_mem_nil, false_or] at hk
  obtain ⟨u, hu, j, h1, h2⟩ := hk
  exact ⟨_, h2, hot_iff.2 ⟨u.toNat, List.mem_map.2 ⟨u, hu, rfl⟩, (below_iff (hr.leaf (List.mem_map.2 ⟨u, hu, rfl⟩)).1).2 ⟨j, h1, rfl⟩⟩⟩
/-! a round -/
theorem dec_mem {d : Nat} {l : List Int} (h6 : d ≤ 6) (h : lstB d l = true) (n : Nat) : decide ((n : Int) ∈ hotL d l) = hotB d (rcvL l) n := by
  cases hb : hotB d (rcvL l) n with
  | true => exact decide_eq_true ((hotL_hot h6 h n).2 hb)
  | false => exact decide_eq_false fun hm => by rw [(hotL_hot h6 h n).1 hm] at hb; cases hb
theorem foot_loop {s : TScheme} {d : Nat} {l : List Int} (h6 : d ≤ 6) (h : lstB d l = true) (acc : List TSubset) (nx : List TSubset → Option (List TSubset × Int)) (k : Int) : ∀ (f fuel v : Nat), 1 ≤ v → Nat.log2 v ≤ d → d - Nat.log2 v < f → f ≤ fuel →
    fixN (cover_Cover_L6 (treeI s, 0) (hotL d l) acc nx k) fuel (v : Int) = (if (footN d (rcvL l) f v : Int) = k then nx acc else Option.bind (cover_tree_cut (treeI s) k (footN d (rcvL l) f v : Int)) fun x31 => (if x31 ≠ 0 then (if (treeI s).kind = 3#8 then Option.bind (cover_tree_special (treeI s) k) fun x34 => (cover_Cover_J8 acc nx k (footN d (rcvL l) f v : Int) x31 (!x34)) else cover_Cover_J8 acc nx k (footN d (rcvL l) f v : Int) x31 false) else cover_Cover_J8 acc nx k (footN d (rcvL l) f v : Int) x31 false))
  | 0, fuel, v, _, _, hf, _ => by omega
  | f + 1, 0, v, _, _, _, hf => by omega
  | f + 1, fuel + 1, v, hv, hl, hf, hff => by
    have hr := rcv_of h6 h
    have h64 := pow_le64 h6
    have hv128 : v < 128 := by
      have := (Nat.log2_lt (n := v) (k := d + 1) (by omega)).1 (by omega)
      rw [Nat.pow_succ] at this; omega
    rw [fix_step]; simp only [cover_Cover_L6]
    have e0 : w64 (2 * (v : Int)) = ((2 * v : Nat) : Int) := by rw [w64_id (by omega) (by omega)]; omega
    have e1 : w64 (((2 * v : Nat) : Int) + 1) = ((2 * v + 1 : Nat) : Int) := by rw [w64_id (by omega) (by omega)]; omega
    have e2 : w64 ((v : Int) * 2) = ((2 * v : Nat) : Int) := by rw [w64_id (by omega) (by omega)]; omega
    rw [e0, e1, e2, e1, dec_mem h6 h, dec_mem h6 h]
    rw [show (hotB d (rcvL l) (2 * v) != hotB d (rcvL l) (2 * v + 1)) = brN d (rcvL l) v from rfl]
    cases hb : brN d (rcvL l) v with
    | false =>
      have hfv : footN d (rcvL l) (f + 1) v = v := by unfold footN; rw [hb]; rfl
      rw [cond_false, hfv]
    | true =>
      have hfv : footN d (rcvL l) (f + 1) v = footN d (rcvL l) f (nxN d (rcvL l) v) := by
        show (if brN d (rcvL l) v = true then footN d (rcvL l) f (nxN d (rcvL l) v) else v) = _
        rw [hb]; rfl
      rw [cond_true, hfv]
      obtain ⟨hl2, _⟩ := br_inner hr hv hb
      have key : (if ¬ (((2 * v : Nat) : Int) ∈ hotL d l) then fixN (cover_Cover_L6 (treeI s, 0) (hotL d l) acc nx k) fuel ((2 * v + 1 : Nat) : Int) else fixN (cover_Cover_L6 (treeI s, 0) (hotL d l) acc nx k) fuel ((2 * v : Nat) : Int)) = fixN (cover_Cover_L6 (treeI s, 0) (hotL d l) acc nx k) fuel (nxN d (rcvL l) v : Int) := by
        unfold nxN
        cases hh : hotB d (rcvL l) (2 * v) with
        | true => rw [if_neg (fun hn => hn ((hotL_hot h6 h _).2 hh)), if_pos rfl]
        | false => rw [if_pos (fun hm => by rw [(hotL_hot h6 h _).1 hm] at hh; cases hh), if_neg (by simp)]
      rw [key]
      have hn : 1 ≤ nxN d (rcvL l) v ∧ Nat.log2 (nxN d (rcvL l) v) = Nat.log2 v + 1 := by
        unfold nxN; split
        · exact ⟨by omega, log2_dbl hv (b := 0) (by omega)⟩
        · exact ⟨by omega, log2_dbl hv (b := 1) (by omega)⟩
      exact foot_loop h6 h acc nx k f fuel _ hn.1 (by omega) (by omega) (by omega)
theorem step_eq' {s : TScheme} {d : Nat} {l : List Int} (hv : vldB s = true) (hd : s.Depth = (d : Int)) (h6 : d ≤ 6) (h : lstB d l = true) {v : Nat} (hh : hotB d (rcvL l) v = true) (acc : List TSubset) (ha : acc.length ≤ 1000) (nx : List TSubset → Option (List TSubset × Int)) :
    cover_Cover_S3 (treeI s, 0) (hotL d l) (v : Int) nx acc = nx (acc ++ (outP s.Kind d (rcvL l) v).map mkS) := by
  have hr := rcv_of h6 h
  have h64 := pow_le64 h6
  obtain ⟨v1, vl, v2⟩ := hot_log hr hh
  have hpow : 2 ^ (d + 1) = 2 * 2 ^ d := by rw [Nat.pow_succ, Nat.mul_comm]
  have hv128 : v < 128 := by omega
  have ht : treeI s = ⟨s.Kind, (d : Int), (strd d : Int)⟩ := by unfold treeI; rw [hd, Int.toNat_natCast]
  have hkd : (treeI s).kind = s.Kind := rfl
  have hsib : cover_node_sibling (v : Int) = some ((v ^^^ 1 : Nat) : Int) := by unfold cover_node_sibling; rw [bit_xor hv128]
  have hadd : ∀ (a b : Int) (acc : List TSubset), acc.length ≤ 2000 → cover_Cover_1 a b acc = some (acc ++ [⟨a, b⟩]) := fun a b acc hl => by
    unfold cover_Cover_1; rw [appG_some (by simp; omega), bind_some]
  unfold cover_Cover_S3
  simp only [hkd]
  by_cases hk : s.Kind = 1#8
  · rw [if_pos hk]
    unfold outP
    rw [if_pos hk]
    by_cases hv1 : v = 1
    · rw [if_neg (by omega), if_neg (by simp [hv1])]
      unfold cover_Cover_J4; simp
    · rw [if_pos (by omega), hsib, bind_some]
      unfold cover_Cover_J4
      have hdm := dec_mem h6 h (v ^^^ 1)
      by_cases hs : hotB d (rcvL l) (v ^^^ 1) = true
      · rw [decide_eq_false (p := ¬ (((v ^^^ 1 : Nat) : Int) ∈ hotL d l)) (fun hn => hn ((hotL_hot h6 h _).2 hs)), cond_false, if_neg (by simp [hs])]; simp
      · have hs' : hotB d (rcvL l) (v ^^^ 1) = false := by simpa using hs
        rw [decide_eq_true (p := ¬ (((v ^^^ 1 : Nat) : Int) ∈ hotL d l)) (fun hm => hs ((hotL_hot h6 h _).1 hm)), cond_true, hsib, bind_some, hadd _ _ _ (by omega), bind_some, if_pos ⟨hv1, hs'⟩]
        rfl
  · rw [if_neg hk]
    -- the way on for heads
    have go : isHd d (rcvL l) v = true → cover_Cover_J5 (treeI s, 0) (hotL d l) acc nx (v : Int) false = nx (acc ++ (outP s.Kind d (rcvL l) v).map mkS) := by
      intro hhd
      unfold cover_Cover_J5
      rw [cond_false, foot_loop h6 h acc nx (v : Int) 7 FUEL v v1 vl (by omega) (by unfold FUEL; omega)]
      unfold outP
      rw [if_neg hk, if_pos hhd]
      obtain ⟨w1, w2, w3, K, w4, w5, w6⟩ := foot_spec hr 7 v v1 vl (by omega)
      generalize footN d (rcvL l) 7 v = w at *
      by_cases hw : w = v
      · rw [if_pos (by omega), if_pos hw]; simp
      · rw [if_neg (by omega), if_neg hw]
        have hlw := log2_div w K w4
        rw [← w5] at hlw
        have hK : 1 ≤ K := by
          rcases Nat.eq_zero_or_pos K with h0 | h0
          · subst h0; simp at w5; exact absurd w5.symm hw
          · exact h0
        have hw128 : w < 128 := by
          have := (Nat.log2_lt (n := w) (k := d + 1) (by omega)).1 (by omega)
          omega
        have hcut : cover_tree_cut (treeI s) (v : Int) (w : Int) = some ((cutN d v w : Nat) : Int) := by
          obtain ⟨K', rfl⟩ : ∃ K', K = K' + 1 := ⟨K - 1, by omega⟩
          have := cut_eq (kd := s.Kind) (d := d) (m := w) (k := K') hw128 w4 (by omega)
          rw [← w5] at this
          rw [ht, this]
          unfold cutN
          rw [show Nat.log2 w - Nat.log2 v - 1 = K' from by omega]
        have hspc : cover_tree_special (treeI s) (v : Int) = some (spcl d v) := by rw [ht]; exact special_eq v1 (by omega)
        rw [hcut, bind_some]
        have one : cover_Cover_J8 acc nx (v : Int) (w : Int) ((cutN d v w : Nat) : Int) false = nx (acc ++ [(v, w)].map mkS) := by
          unfold cover_Cover_J8 cover_Cover_J7
          rw [cond_false, hadd _ _ _ (by omega), bind_some]; rfl
        have two : cover_Cover_J8 acc nx (v : Int) (w : Int) ((cutN d v w : Nat) : Int) true = nx (acc ++ [(v, cutN d v w), (cutN d v w, w)].map mkS) := by
          unfold cover_Cover_J8 cover_Cover_J7
          rw [cond_true, hadd _ _ _ (by omega), bind_some, hadd _ _ _ (by simp; omega), bind_some, List.append_assoc]; rfl
        have hk3 : s.Kind = 2#8 ∨ s.Kind = 3#8 := by
          obtain ⟨a, b⟩ := vld_kind hv
          rcases kind_cases a b with e | e | e
          · exact absurd e hk
          · exact .inl e
          · exact .inr e
        unfold subN
        by_cases hc0 : cutN d v w = 0
        · rw [if_neg (by omega), one]
          have : (decide (s.Kind = 2#8) || spcl d v || decide (fstS d (pathN (w / 2) (Nat.log2 w - Nat.log2 v - 1)) = 0)) = true := by
            rw [decide_eq_true (p := fstS _ _ = 0) hc0]; simp
          rw [if_pos this]
        · have hc0' : decide (fstS d (pathN (w / 2) (Nat.log2 w - Nat.log2 v - 1)) = 0) = false := decide_eq_false hc0
          rw [if_pos (by omega), hc0', Bool.or_false]
          rcases hk3 with hk3 | hk3
          · rw [if_neg (by rw [hkd, hk3]; decide), one, if_pos (by simp [hk3])]
          · rw [if_pos (show (treeI s).kind = 3#8 from hk3), hspc, bind_some]
            have : decide (s.Kind = 2#8) = false := by rw [hk3]; decide
            rw [this, Bool.false_or]
            cases spcl d v with
            | true => rw [Bool.not_true, one, if_pos rfl]
            | false => rw [Bool.not_false, two, if_neg (by simp)]
    have no : isHd d (rcvL l) v = false → cover_Cover_J5 (treeI s, 0) (hotL d l) acc nx (v : Int) true = nx (acc ++ (outP s.Kind d (rcvL l) v).map mkS) := by
      intro hhd
      unfold cover_Cover_J5 outP
      rw [cond_true, if_neg hk, if_neg (by rw [hhd]; simp)]; simp
    by_cases hv1 : v = 1
    · rw [if_neg (by omega)]; exact go (by unfold isHd; simp [hv1])
    · rw [if_pos (by omega), hsib, bind_some]
      by_cases hs : hotB d (rcvL l) (v ^^^ 1) = true
      · rw [decide_eq_false (p := ¬ (((v ^^^ 1 : Nat) : Int) ∈ hotL d l)) (fun hn => hn ((hotL_hot h6 h _).2 hs))]; exact go (by unfold isHd; simp [hs])
      · have hs' : hotB d (rcvL l) (v ^^^ 1) = false := by simpa using hs
        rw [decide_eq_true (p := ¬ (((v ^^^ 1 : Nat) : Int) ∈ hotL d l)) (fun hm => hs ((hotL_hot h6 h _).1 hm))]; exact no (by unfold isHd; simp [hs', hv1])
/-! any order -/
theorem cov_filter {d : Nat} {R : List Nat} (h : Rcv d R) {k : BitVec 8} (hne : R ≠ []) {v : Nat} (hv : hotB d R v = true) : (covN k d R).filter (fun y => decide (ownN k d R y = v)) = outP k d R v := by
  refine asc_ext ?_ ?_ fun y => ?_
  · exact List.Pairwise.filter _ cov_asc
  · unfold outP Asc
    split
    · split <;> simp
    · split
      · split
        · simp
        · split
          · simp
          · rename_i h2 h3 h4 h5
            obtain ⟨v1, vl, v2⟩ := hot_log h hv
            obtain ⟨w1, w2, w3, K, w4, w5, w6⟩ := foot_spec h 7 v v1 vl (by have := h.1; omega)
            obtain ⟨j, j1, j2, j3⟩ := cut_chain (k := k) (d := d) (.inr trivial) w4 w5 v1 (by simpa using h5)
            simp only [List.pairwise_cons, List.mem_singleton, List.not_mem_nil, false_imp_iff, implies_true, List.Pairwise.nil, and_true, forall_eq]
            have hj2 : 2 ^ j ≤ footN d R 7 v := Nat.le_trans (Nat.pow_le_pow_right (by omega) (by omega)) w4
            have hl1 := log2_div _ _ w4
            have hl2 := log2_div _ _ hj2
            rw [← w5] at hl1
            rw [← j3] at hl2
            rcases Nat.lt_or_ge v (cutN d v (footN d R 7 v)) with hlt | hge
            · exact hlt
            · have := log2_mono hge; omega
      · simp
  · rw [List.mem_filter, decide_eq_true_eq]; exact cov_own h hne hv y
theorem cov_len {k : BitVec 8} {d : Nat} {R : List Nat} (h6 : d ≤ 6) : (covN k d R).length ≤ 127 := by
  have h64 := pow_le64 h6
  have hpow : 2 ^ (d + 1) = 2 * 2 ^ d := by rw [Nat.pow_succ, Nat.mul_comm]
  refine Nat.le_trans (List.length_filterMap_le _ _) ?_
  simp [nodN]; omega
theorem filter_split {α : Type} (p q : α → Bool) (hpq : ∀ a, p a = true → q a = false) (l : List α) : (l.filter fun a => p a || q a).Perm (l.filter p ++ l.filter q) := by
  induction l with
  | nil => simp
  | cons a l ih =>
    cases hp : p a with
    | true =>
      have hq := hpq a hp
      simp only [List.filter_cons, hp, hq, Bool.true_or, if_true, Bool.false_eq_true, if_false, List.cons_append]
      exact ih.cons a
    | false =>
      cases hq : q a with
      | true =>
        simp only [List.filter_cons, hp, hq, Bool.or_true, if_true, Bool.false_eq_true, if_false]
        exact (ih.cons a).trans List.perm_middle.symm
      | false =>
        simp only [List.filter_cons, hp, hq, Bool.or_false, Bool.false_eq_true, if_false]
        exact ih
theorem srt_cov {k : BitVec 8} {d : Nat} {R : List Nat} (h6 : d ≤ 6) {acc : List TSubset} (h : acc.Perm ((covN k d R).map mkS)) : srtBy TSubset.Node acc = some ((covN k d R).map mkS) := by
  have h64 := pow_le64 h6
  have hpow : 2 ^ (d + 1) = 2 * 2 ^ d := by rw [Nat.pow_succ, Nat.mul_comm]
  have hasc : ((covN k d R).map mkS).Pairwise fun a b => a.Node < b.Node := by
    rw [List.pairwise_map]
    exact (cov_asc (k := k) (d := d) (R := R)).imp (fun {a b} hab => by unfold mkS; simp only; omega)
  have hnd : (((covN k d R).map mkS).map TSubset.Node).Nodup := by
    unfold List.Nodup
    rw [List.pairwise_map]
    exact hasc.imp (by omega)
  unfold srtBy
  rw [if_pos]
  · congr 1
    have hs := List.pairwise_mergeSort (le := fun a b : TSubset => decide (a.Node ≤ b.Node)) (fun a b c h1 h2 => by simp at *; omega) (fun a b => by simp; omega) acc
    have hp : (acc.mergeSort fun a b => decide (a.Node ≤ b.Node)).Perm ((covN k d R).map mkS) := (List.mergeSort_perm acc _).trans h
    -- both ascend, and are permutations of one another
    have key : ∀ (l m : List TSubset), l.Perm m → (l.Pairwise fun a b => decide (a.Node ≤ b.Node) = true) → (m.Pairwise fun a b => a.Node < b.Node) → l = m := by
      intro l m hlm hl hm
      have hlnd : (l.map TSubset.Node).Nodup := by
        have : (m.map TSubset.Node).Nodup := by unfold List.Nodup; rw [List.pairwise_map]; exact hm.imp (by omega)
        exact (hlm.map _).nodup_iff.2 this
      have hl' : l.Pairwise fun a b => a.Node < b.Node := by
        unfold List.Nodup at hlnd
        rw [List.pairwise_map] at hlnd
        exact (hl.and hlnd).imp (fun {a b} hab => by have := of_decide_eq_true hab.1; have := hab.2; omega)
      clear hl hlnd
      induction m generalizing l with
      | nil => exact hlm.eq_nil
      | cons b m ih =>
        cases l with
        | nil => exact absurd hlm.symm.eq_nil (by simp)
        | cons a l =>
          have ha := List.pairwise_cons.1 hl'
          have hb := List.pairwise_cons.1 hm
          have hab : a = b := by
            rcases List.mem_cons.1 (hlm.subset (List.mem_cons_self)) with e | e
            · exact e
            · rcases List.mem_cons.1 (hlm.symm.subset (List.mem_cons_self)) with e2 | e2
              · exact e2.symm
              · have := ha.1 b e2; have := hb.1 a e; omega
          subst hab
          rw [ih l (List.Perm.cons_inv hlm) hb.2 ha.2]
    exact key _ _ hp hs hasc
  · refine ⟨fun x hx => ?_, (h.map _).nodup_iff.2 hnd, ?_⟩
    · obtain ⟨y, hy, rfl⟩ := List.mem_map.1 (h.subset hx)
      have := (cov_mem.1 hy).1
      unfold mkS; simp only; omega
    · rw [h.length_eq, List.length_map]; have := cov_len (k := k) (R := R) h6; omega
theorem range_cov {s : TScheme} {d : Nat} {l : List Int} (hv : vldB s = true) (hd : s.Depth = (d : Int)) (h6 : d ≤ 6) (h : lstB d l = true) (hne : l ≠ []) (hl : l.length * 8 ≤ 140737488355328) :
    rngM (cover_Cover_S3 (treeI s, 0) (hotL d l)) cover_Cover_E3 FUEL (hotL d l) [] = some ((covN s.Kind d (rcvL l)).map mkS, 0) := by
  have hr := rcv_of h6 h
  have hne' : rcvL l ≠ [] := by unfold rcvL; simpa using hne
  refine rngM_run (fun rem acc => (∀ k ∈ rem, k ∈ hotL d l) ∧ acc.Perm (((covN s.Kind d (rcvL l)).filter fun y => decide (((ownN s.Kind d (rcvL l) y : Nat) : Int) ∉ rem)).map mkS)) ?_ ?_ FUEL (hotL d l) [] ?_ ⟨fun _ hk => hk, ?_⟩
  · rintro acc ⟨_, hp⟩
    have : ((covN s.Kind d (rcvL l)).filter fun y => decide (((ownN s.Kind d (rcvL l) y : Nat) : Int) ∉ ([] : List Int))) = covN s.Kind d (rcvL l) := List.filter_eq_self.2 (by simp)
    rw [this] at hp
    unfold cover_Cover_E3
    rw [srt_cov h6 hp, bind_some]
  · rintro rem acc k hk ⟨hsub, hp⟩
    obtain ⟨v, rfl, hvh⟩ := hotL_nat h6 h (hsub k hk)
    have hal : acc.length ≤ 1000 := by
      rw [hp.length_eq, List.length_map]
      have := cov_len (k := s.Kind) (R := rcvL l) h6
      have := List.length_filter_le (fun y => decide (((ownN s.Kind d (rcvL l) y : Nat) : Int) ∉ rem)) (covN s.Kind d (rcvL l))
      omega
    refine ⟨acc ++ (outP s.Kind d (rcvL l) v).map mkS, ⟨fun j hj => hsub j (List.mem_filter.1 hj).1, ?_⟩, fun nx => step_eq' hv hd h6 h hvh acc hal nx⟩
    have hsp := filter_split (fun y => decide (((ownN s.Kind d (rcvL l) y : Nat) : Int) ∉ rem)) (fun y => decide (ownN s.Kind d (rcvL l) y = v)) (fun y hy => by
      simp only [decide_eq_true_eq, decide_eq_false_iff_not] at hy ⊢
      rintro rfl; exact hy hk) (covN s.Kind d (rcvL l))
    rw [cov_filter hr hne' hvh] at hsp
    have hcg : ((covN s.Kind d (rcvL l)).filter fun y => decide (((ownN s.Kind d (rcvL l) y : Nat) : Int) ∉ rem.filter (· ≠ (v : Int)))) = ((covN s.Kind d (rcvL l)).filter fun y => decide (((ownN s.Kind d (rcvL l) y : Nat) : Int) ∉ rem) || decide (ownN s.Kind d (rcvL l) y = v)) := by
      apply List.filter_congr
      intro y _
      rw [Bool.eq_iff_iff]
      simp only [Bool.or_eq_true, decide_eq_true_eq, List.mem_filter, not_and, ne_eq, Decidable.not_not, decide_not, Bool.not_eq_true', decide_eq_false_iff_not]
      constructor
      · intro hh
        by_cases hm : ((ownN s.Kind d (rcvL l) y : Nat) : Int) ∈ rem
        · have := hh hm; right; omega
        · exact .inl hm
      · rintro (hh | hh) hm
        · exact absurd hm hh
        · rw [hh]
    rw [hcg]
    refine List.Perm.trans ?_ (hsp.map mkS).symm
    rw [List.map_append]
    exact hp.append_right _
  · have := hotL_len (d := d) l []
    unfold hotL FUEL
    simp only [List.length_nil, Nat.zero_add] at this
    omega
  · have : ((covN s.Kind d (rcvL l)).filter fun y => decide (((ownN s.Kind d (rcvL l) y : Nat) : Int) ∉ hotL d l)) = [] := by
      rw [List.filter_eq_nil_iff]
      intro y hy
      simp only [decide_eq_true_eq]
      exact fun hn => hn ((hotL_hot h6 h _).2 (own_hot hr hne' hy))
    rw [this]; simp
/-- the cover, with its errors -/
def covP (s : TScheme) (l : List Int) : List TSubset × Int :=
  if vldB s then (if lstB s.Depth.toNat l then ((if l = [] then [⟨1, 0⟩] else (covN s.Kind s.Depth.toNat (rcvL l)).map mkS), 0) else ([], 2)) else ([], 30)
theorem pcover_eq (s : TScheme) (l : List Int) (hl : l.length * 8 ≤ 140737488355328) : cover_Cover s l = some (covP s l) := by
  unfold cover_Cover covP
  rw [enter0, bind_some]
  cases hv : vldB s with
  | false => rfl
  | true =>
    obtain ⟨d, hd, h6⟩ := vld_depth hv
    have ht : treeI s = ⟨s.Kind, (d : Int), (strd d : Int)⟩ := by unfold treeI; rw [hd, Int.toNat_natCast]
    simp only [if_true]
    rw [if_neg (by simp), hd, Int.toNat_natCast]
    have e0 : cover_tree_list (treeI s) l = some (lstB d l) := by rw [ht]; exact list_eq h6 l (by omega)
    rw [e0, bind_some]
    cases hb : lstB d l with
    | false => rfl
    | true =>
      simp only [Bool.not_true, cond_false, if_true]
      by_cases hne : l = []
      · subst hne; rfl
      · rw [if_neg (by intro h0; apply hne; exact List.eq_nil_of_length_eq_zero (by omega)), if_neg hne]
        have := fix_itL l (cover_Cover_L1 l (treeI s, 0)) (fun j (ks : List Int) => ((j : Int), ks)) (fun u nx ks => nx (upF 8 (2 ^ d + u.toNat) ks)) (fun ks => rngM (cover_Cover_S3 (treeI s, 0) ks) cover_Cover_E3 FUEL ks [])
          (fun rec j hj ks => by
            obtain ⟨u, hu, hu2⟩ := lst_mem hb (List.getElem_mem hj)
            have h64 := pow_le64 h6
            simp only [cover_Cover_L1]
            have hlf : cover_tree_leaf (treeI s) (u : Int) = some ((2 ^ d + u : Nat) : Int) := by rw [ht]; exact leaf_eq h6 (by omega)
            rw [if_pos (by omega), getI_some hj, bind_some, hu, hlf, bind_some, up_loop _ _ 8 FUEL _ _ (by omega) (by unfold FUEL; omega), w64_nat (by omega), Int.toNat_natCast])
          (fun rec ks => by simp only [cover_Cover_L1]; rw [if_neg (by omega)]) (f := FUEL) (fuel_lt (by omega)) ([] : List Int)
        rw [show ((0 : Nat) : Int) = 0 from rfl] at this
        rw [this, itL_fold (fun ks u => upF 8 (2 ^ d + u.toNat) ks) _ _ (fun _ _ => True) l 0 [] (fun _ _ _ _ _ _ => rfl) (fun _ _ _ _ _ => trivial) trivial]
        exact range_cov hv hd h6 hb hne hl
end Go.Sx

end
section
/- alive: the chapter's examples hold. -/
set_option linter.unusedVariables false
set_option linter.unusedSimpArgs false
set_option maxRecDepth 100000
namespace Go.Sx
open Go

theorem alive_1 : law03_alive_J1 false = some true := by decide +kernel
theorem covers_ok {s : TScheme} {l w : List Int} (hl : l.length * 8 ≤ 140737488355328) (h : law03_is (covP s l).1 (covP s l).2 w = some true) : law03_covers s l w = some true := by
  unfold law03_covers; rw [pcover_eq s l hl, bind_some, h, bind_some]
theorem alive_2 : law03_covers ⟨1#8, 3, 0, ⟨0#64, 0#64, 0#64⟩⟩ [2, 3] [3, 0, 4, 0] = some true := covers_ok (by decide) (by decide +kernel)
theorem alive_3 : law03_covers ⟨2#8, 3, 0, ⟨0#64, 0#64, 0#64⟩⟩ [0, 5] [2, 8, 3, 13] = some true := covers_ok (by decide) (by decide +kernel)
theorem alive_4 : law03_covers ⟨3#8, 3, 0, ⟨0#64, 0#64, 0#64⟩⟩ [0, 5] [2, 4, 3, 6, 4, 8, 6, 13] = some true := covers_ok (by decide) (by decide +kernel)
theorem alive_eq : law03_alive = some true := by
  unfold law03_alive law03_of
  rw [bind_some, alive_2, bind_some]
  simp only [Bool.not_true, cond_false]
  rw [bind_some, alive_3, bind_some]
  simp only [Bool.not_true, cond_false]
  rw [bind_some, alive_4, bind_some]
  exact alive_1
end Go.Sx

end
section
/- Members of subsets, and of covers, on the mirrors: plainly. -/
set_option linter.unusedVariables false
set_option linter.unusedSimpArgs false
set_option maxRecDepth 100000
namespace Go.Sx
open Go

theorem fix_go {τ R : Type} (F : (τ → Option R) → τ → Option R) (I : Nat → τ → Prop) (n : Nat) (r : Option R) (hn : n < 9223372036854775808) {s : τ} (h0 : I 0 s) (hs : ∀ j s, j < n → I j s → ∃ s', I (j + 1) s' ∧ ∀ rec, F rec s = rec s') (he : ∀ s, I n s → ∀ rec, F rec s = r) : fixN F FUEL s = r :=
  fix_run F I n r hs he n 0 FUEL s (by omega) (fuel_lt hn) h0
theorem any_take {α : Type} (p : α → Bool) (l : List α) (j : Nat) (h : j < l.length) : (l.take (j + 1)).any p = ((l.take j).any p || p l[j]) := by rw [take_snoc l j h, List.any_append]; simp
theorem memL_get {d n m : Nat} {a : Int} : a ∈ memL d n m ↔ ∃ v : Nat, a = (v : Int) ∧ v < 2 ^ d ∧ memB (2 ^ d + v) n m = true := by
  unfold memL
  rw [List.mem_map]
  constructor
  · rintro ⟨v, hv, rfl⟩
    obtain ⟨h1, h2⟩ := List.mem_filter.1 hv
    exact ⟨v, rfl, List.mem_range.1 h1, h2⟩
  · rintro ⟨v, rfl, h1, h2⟩; exact ⟨v, List.mem_filter.2 ⟨List.mem_range.2 h1, h2⟩, rfl⟩
section
variable {s : TScheme} {d : Nat}
theorem sub_true (hv : vldB s = true) (hd : s.Depth = (d : Int)) (h6 : d ≤ 6) {n m : Nat} (hs : subP s.Kind d n m = true) : cover_enter s [⟨(n : Int), (m : Int)⟩] = some (treeI s, 0) ∧ ref03_IsSubset s ⟨(n : Int), (m : Int)⟩ = some true ∧ cover_tree_subset (treeI s) ⟨(n : Int), (m : Int)⟩ = some true ∧ SubOk s ⟨(n : Int), (m : Int)⟩ ∧ SubN s ⟨(n : Int), (m : Int)⟩ n m := by
  have hi := isSub_eq hv hd h6 n m
  rw [hs] at hi
  rcases sub_cases hv hd h6 ⟨(n : Int), (m : Int)⟩ with ⟨_, f1, _⟩ | ⟨f0, f1, f2, f3, n', m', e, f5, f6⟩
  · rw [hi] at f1; cases f1
  · injection e with e1 e2
    obtain rfl : n = n' := by omega
    obtain rfl : m = m' := by omega
    exact ⟨f0, f1, f2, f3, f5⟩
theorem pmembers_eq (hv : vldB s = true) (hd : s.Depth = (d : Int)) (h6 : d ≤ 6) {n m : Nat} (hs : subP s.Kind d n m = true) : cover_Members s ⟨(n : Int), (m : Int)⟩ = some (memL d n m, 0) := by
  obtain ⟨f0, f1, f2, f3, f5⟩ := sub_true hv hd h6 hs
  have ht : treeI s = ⟨s.Kind, (d : Int), (strd d : Int)⟩ := by unfold treeI; rw [hd, Int.toNat_natCast]
  unfold cover_Members
  rw [f0, bind_some, if_neg (by simp)]
  simp only
  rw [ht, members_eq h6 f5, bind_some]
theorem member_ok (hv : vldB s = true) (hd : s.Depth = (d : Int)) (h6 : d ≤ 6) {u : Nat} (hu : u < 2 ^ d) (l : List (Nat × Nat)) (hl : ∀ y ∈ l, subP s.Kind d y.1 y.2 = true) (hlen : l.length < 4611686018427387904) :
    law03_member s (l.map mkS) (u : Int) = some (l.any (fun y => memB (2 ^ d + u) y.1 y.2), true) := by
  unfold law03_member
  refine fix_go _ (fun j x => x = ((l.take j).any (fun y => memB (2 ^ d + u) y.1 y.2), (j : Int))) l.length _ (by omega) (by simp) ?_ ?_
  · rintro j _ hj rfl
    refine ⟨_, rfl, fun rec => ?_⟩
    have hy := hl _ (List.getElem_mem hj)
    have hm := memL_len (d := d) (n := l[j].1) (m := l[j].2) h6
    simp only [law03_member_L1]
    rw [if_pos (by simp; omega), getI_some (by simpa using hj), bind_some, List.getElem_map]
    rw [show mkS l[j] = ⟨(l[j].1 : Int), (l[j].2 : Int)⟩ from rfl, pmembers_eq hv hd h6 hy, bind_some, if_neg (by simp), any_take _ _ _ hj]
    generalize (l.take j).any (fun y => memB (2 ^ d + u) y.1 y.2) = b0
    have he : memB (2 ^ d + u) l[j].1 l[j].2 = (memL d l[j].1 l[j].2).any fun a => decide (a = (u : Int)) := by
      rw [Bool.eq_iff_iff, List.any_eq_true]
      constructor
      · intro h; exact ⟨_, memL_get.2 ⟨u, rfl, hu, h⟩, by simp⟩
      · rintro ⟨a, ha, hau⟩
        obtain ⟨v, rfl, h1, h2⟩ := memL_get.1 ha
        obtain rfl : v = u := by have := of_decide_eq_true hau; omega
        exact h2
    rw [he]
    generalize memL d l[j].1 l[j].2 = ml at *
    refine fix_go _ (fun i x => x = (b0 || (ml.take i).any (fun a => decide (a = (u : Int))), (i : Int))) ml.length _ (by omega) (by simp) ?_ ?_
    · rintro i _ hi rfl
      refine ⟨_, rfl, fun rec2 => ?_⟩
      simp only [law03_member_L2]
      rw [if_pos (by omega), getI_some hi, bind_some, any_take _ _ _ hi, w64_nat (by omega)]
      generalize (ml.take i).any (fun a => decide (a = (u : Int))) = b1
      cases b0 <;> cases b1 <;> rfl
    · rintro _ rfl rec2
      simp only [law03_member_L2]
      rw [if_neg (by omega), List.take_length, w64_nat (by omega)]
  · rintro _ rfl rec
    simp only [law03_member_L1]
    rw [if_neg (by simp), List.take_length]
theorem covP_eq (hv : vldB s = true) (hd : s.Depth = (d : Int)) {l : List Int} (h : lstB d l = true) : covP s l = ((covQ s.Kind d (rcvL l)).map mkS, 0) := by
  unfold covP covQ rcvL
  rw [if_pos hv, hd, Int.toNat_natCast, if_pos h]
  by_cases hl : l = []
  · rw [if_pos hl, if_pos (by simpa using hl)]; rfl
  · rw [if_neg hl, if_neg (by simpa using hl)]
theorem covQ_len (h6 : d ≤ 6) (k : BitVec 8) (R : List Nat) : (covQ k d R).length ≤ 127 := by
  unfold covQ; split
  · simp
  · exact cov_len h6
theorem rcv_mem {l : List Int} (h : lstB d l = true) {u : Nat} : u ∈ rcvL l ↔ (u : Int) ∈ l := by
  unfold rcvL
  rw [List.mem_map]
  constructor
  · rintro ⟨a, ha, rfl⟩
    obtain ⟨w, rfl, _⟩ := lst_mem h ha
    rw [Int.toNat_natCast]; exact ha
  · intro h; exact ⟨_, h, Int.toNat_natCast u⟩
end
end Go.Sx

end
section
/- What Knows answers, plainly. -/
set_option linter.unusedVariables false
set_option linter.unusedSimpArgs false
set_option maxRecDepth 100000
namespace Go.Sx
open Go

theorem knows_no (s : TScheme) (l : List Int) (hl : l.length < 4611686018427387904) (x : TSubset) :
    (vldB s = false → cover_Knows s l x = some (false, 30)) ∧ (∀ d : Nat, vldB s = true → s.Depth = (d : Int) → d ≤ 6 → lstB d l = false → cover_Knows s l x = some (false, 2)) ∧
    (∀ d : Nat, vldB s = true → s.Depth = (d : Int) → d ≤ 6 → lstB d l = true → cover_tree_subset (treeI s) x = some false → cover_Knows s l x = some (false, 31)) := by
  unfold cover_Knows
  rw [enter0, bind_some]
  refine ⟨fun hv => by rw [hv]; rfl, fun d hv hd h6 hb => ?_, fun d hv hd h6 hb hs => ?_⟩
  · have ht : treeI s = ⟨s.Kind, (d : Int), (strd d : Int)⟩ := by unfold treeI; rw [hd, Int.toNat_natCast]
    have e0 : cover_tree_list (treeI s) l = some (lstB d l) := by rw [ht]; exact list_eq h6 l hl
    rw [if_pos hv, if_neg (by simp), e0, bind_some, hb]; rfl
  · have ht : treeI s = ⟨s.Kind, (d : Int), (strd d : Int)⟩ := by unfold treeI; rw [hd, Int.toNat_natCast]
    have e0 : cover_tree_list (treeI s) l = some (lstB d l) := by rw [ht]; exact list_eq h6 l hl
    rw [if_pos hv, if_neg (by simp), e0, bind_some, hb]
    simp only [Bool.not_true, cond_false]
    rw [hs, bind_some]; rfl
theorem knows_val {s : TScheme} {d : Nat} (hv : vldB s = true) (hd : s.Depth = (d : Int)) (h6 : d ≤ 6) {l : List Int} (hb : lstB d l = true) (hl : l.length < 4611686018427387904) {n m : Nat} (hs : subP s.Kind d n m = true) :
    cover_Knows s l ⟨(n : Int), (m : Int)⟩ = some (l.any (fun a => memB (2 ^ d + a.toNat) n m), 0) := by
  have ht : treeI s = ⟨s.Kind, (d : Int), (strd d : Int)⟩ := by unfold treeI; rw [hd, Int.toNat_natCast]
  have e0 : cover_tree_list (treeI s) l = some (lstB d l) := by rw [ht]; exact list_eq h6 l hl
  obtain ⟨_, _, f2, _, _⟩ := sub_true hv hd h6 hs
  unfold cover_Knows
  rw [enter0, bind_some, if_pos hv, if_neg (by simp), e0, bind_some, hb]
  simp only [Bool.not_true, cond_false]
  rw [f2, bind_some]
  simp only [Bool.not_true, cond_false]
  unfold slices_ContainsFunc_5954_cover_Knows_1 slices_IndexFunc_7bbb_cover_Knows_1
  have p1 := fix_range l.length (slices_IndexFunc_7bbb_cover_Knows_1_L1 l (treeI s) ⟨(n : Int), (m : Int)⟩) (fun j (_ : Unit) => (j : Int)) (fun (j : Nat) nx s' => bif kwB s d n m (l.getD j 0) then some (j : Int) else nx s') (fun _ => some (-1))
    (fun rec j hj _ => by
      simp only [slices_IndexFunc_7bbb_cover_Knows_1_L1]
      obtain ⟨u, hu, hu2⟩ := lst_mem hb (List.getElem_mem hj)
      rw [if_pos (by omega), getI_some hj, bind_some, getD_some hj, hu, knows1_eq hv hd h6 hu2 hs, bind_some, w64_nat (by omega)])
    (fun rec _ => by simp only [slices_IndexFunc_7bbb_cover_Knows_1_L1]; rw [if_neg (by omega)]) (f := FUEL) (fuel_lt (by omega)) ()
  rw [show ((0 : Nat) : Int) = 0 from rfl] at p1
  rw [p1, itL_find (fun (j : Nat) => kwB s d n m (l.getD j 0)) (fun (j : Nat) _ => some (j : Int)) _ _ _ _ (fun a _ nx s => rfl)]
  have key : ∀ j (hj : j < l.length), kwB s d n m (l.getD j 0) = memB (2 ^ d + l[j].toNat) n m := by
    intro j hj
    obtain ⟨u, hu, hu2⟩ := lst_mem hb (List.getElem_mem hj)
    rw [getD_some hj, hu]
    unfold kwB
    rw [Int.toNat_natCast, led_mem h6 hu2 hs]
  rcases range_find (fun a : Int => memB (2 ^ d + a.toNat) n m) l (fun j => kwB s d n m (l.getD j 0)) key with ⟨j, hj, g1, g2⟩ | ⟨g1, g2⟩
  · rw [g1]
    simp only
    rw [bind_some, bind_some, decide_eq_true (by omega), List.any_eq_true.2 ⟨_, List.getElem_mem hj, List.find?_some g2⟩]
  · rw [g1]
    simp only
    rw [bind_some, bind_some, decide_eq_false (by omega), List.any_eq_false.2 (fun a ha => (List.find?_eq_none.1 g2) a ha)]
end Go.Sx

end
