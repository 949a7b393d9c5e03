/- Labels that lead to subsets, and what is found by them: the mirrors of both sides come to the same. -/
import Derived.Test.YtecempahccgijaaTm
import Derived.Test.YtecempahccgijaaSecN
set_option linter.unusedVariables false
set_option linter.unusedSimpArgs false
namespace Go.Sx
open Go

def LblI (l : TLabel) : Prop := I64 l.Node ∧ I64 l.Minus
theorem below_split0 {m q : Nat} (hm : 1 ≤ m) (h : belowB m q = true) : ∃ k, q = m / 2 ^ k ∧ 2 ^ k ≤ m := by
  unfold belowB at h
  obtain ⟨h1, h2⟩ := of_decide_eq_true h
  exact ⟨_, h2.symm, Nat.le_trans (Nat.pow_le_pow_right (by omega) (by omega)) (Nat.log2_self_le (by omega))⟩
/-- a label that leads to a subset below its Minus -/
def LdOk (l : TLabel) (x : TSubset) : Prop := ∃ q m k : Nat, l.Minus = (q : Int) ∧ x.Minus = (m : Int) ∧ q = m / 2 ^ k ∧ 2 ^ k ≤ m ∧ m < 128 ∧ k ≤ 6
theorem leads_eq (s : TScheme) (x : TSubset) (h : SubOk s x) (l : TLabel) (hl : LblI l) : ∃ b, cover_tree_leads (treeI s) l x = some b ∧ ref03_leads s l.Node l.Minus x = some b ∧ (b = true → s.Kind = 1#8 ∨ x.Minus = 0 ∨ LdOk l x) := by
  unfold cover_tree_leads ref03_leads
  rw [show (treeI s).kind = s.Kind from rfl]
  have hno : false = true → s.Kind = 1#8 ∨ x.Minus = 0 ∨ LdOk l x := fun h => by cases h
  by_cases hk : s.Kind = 1#8
  · rw [if_pos hk, if_pos hk]
    unfold cover_tree_leads_J1 ref03_leads_J1
    rw [cond_true, cond_true]
    by_cases hn : l.Node = x.Node
    · rw [if_neg (by simp [hn]), if_pos hn]; exact ⟨_, rfl, rfl, fun _ => .inl hk⟩
    · rw [if_pos hn, if_neg hn]; exact ⟨_, rfl, rfl, hno⟩
  · rw [if_neg hk, if_neg hk]
    by_cases hn : l.Node = x.Node
    · rw [if_neg (by simp [hn])]
      unfold cover_tree_leads_J1 ref03_leads_J1
      by_cases hm : x.Minus = 0
      · rw [decide_eq_true hm, cond_true, cond_true, if_pos hn]; exact ⟨_, rfl, rfl, fun _ => .inr (.inl hm)⟩
      · rw [decide_eq_false hm, cond_false, cond_false, if_pos hn]
        rcases h.2 with h3 | h3 | ⟨m, n, k, hm1, hn1, hk1, hk2, hm2, hk3, hn2⟩
        · exact absurd h3 hk
        · exact absurd h3 hm
        · have hmp : 1 ≤ m := by have := Nat.two_pow_pos (k + 1); omega
          have hnm : n ≤ m := by rw [hk1]; exact Nat.div_le_self _ _
          obtain ⟨b1, b2⟩ := hl
          unfold I64 at b1 b2
          by_cases h1 : (1 : Int) ≤ l.Minus
          · obtain ⟨q, hq⟩ : ∃ q : Nat, l.Minus = (q : Int) := ⟨l.Minus.toNat, by omega⟩
            have e1 : cover_node_below l.Minus l.Node = some (belowB q n) := by rw [hn, hq, hn1]; exact below_eq (by omega) hn2 (by omega) (by omega)
            have e2 : ref03_Below l.Minus l.Node = some (belowB q n) := by rw [hn, hq, hn1]; exact rbelow_eq (by omega) hn2 (by omega)
            have e3 : cover_node_below x.Minus l.Minus = some (belowB m q) := by rw [hq, hm1]; exact below_eq hmp (by omega) (by omega) (by omega)
            have e4 : ref03_Below x.Minus l.Minus = some (belowB m q) := by rw [hq, hm1]; exact rbelow_eq hmp (by omega) (by omega)
            rw [if_pos h1, e1, e2, bind_some, bind_some]
            cases belowB q n with
            | false => exact ⟨_, rfl, rfl, hno⟩
            | true =>
              rw [cond_true, cond_true, e3, e4, bind_some]
              refine ⟨_, rfl, rfl, fun hb => ?_⟩
              obtain ⟨k', h5, h6⟩ := below_split0 hmp hb
              exact .inr (.inr ⟨q, m, k', hq, hm1, h5, h6, hm2, le_log h6 hm2⟩)
          · rw [if_neg h1]
            have e1 : cover_node_below l.Minus l.Node = some false := by
              unfold cover_node_below cover_node_below_J1
              rw [if_pos (by omega)]; rfl
            rw [e1, bind_some]
            exact ⟨_, rfl, rfl, hno⟩
    · rw [if_pos hn]
      unfold ref03_leads_J1
      cases decide (x.Minus = 0) with
      | true => rw [cond_true, if_neg hn]; exact ⟨_, rfl, rfl, hno⟩
      | false => rw [cond_false, if_neg hn]; exact ⟨_, rfl, rfl, hno⟩
theorem find_loop (s : TScheme) (c : TSecret) (hc : c.Labels.length < 4611686018427387904) (hok : ∀ l ∈ c.Labels, LblI l) (x : TSubset) (h : SubOk s x) : ∀ (m j f f' : Nat), c.Labels.length - j = m → j ≤ c.Labels.length → m < f → m < f' →
    ∃ r, fixN (cover_tree_find_L1 (treeI s) c x) f (j : Int) = some r ∧ fixN (ref03_Leads_L1 s c x) f' (j : Int) = some r
  | m, j, 0, _, _, _, h, _ => by omega
  | m, j, _ + 1, 0, _, _, _, h => by omega
  | 0, j, f + 1, f' + 1, hm, hj, _, _ => by
    rw [fix_step, fix_step]; simp only [cover_tree_find_L1, ref03_Leads_L1]
    rw [if_neg (by omega), if_neg (by omega)]
    exact ⟨_, rfl, rfl⟩
  | m + 1, j, f + 1, f' + 1, hm, hj, hf, hf' => by
    rw [fix_step, fix_step]; simp only [cover_tree_find_L1, ref03_Leads_L1]
    have hjl : j < c.Labels.length := by omega
    obtain ⟨b, e1, e2, hb⟩ := leads_eq s x h c.Labels[j] (hok _ (List.getElem_mem hjl))
    rw [if_pos (by omega), if_pos (by omega), getI_some hjl, bind_some, bind_some, e1, e2, bind_some, bind_some]
    cases b with
    | false =>
      simp only [Bool.not_false, cond_true]
      rw [w64_id (by omega) (by omega)]
      exact find_loop s c hc hok x h m (j + 1) f f' (by omega) (by omega) (by omega) (by omega)
    | true =>
      simp only [Bool.not_true, cond_false]
      rw [show (treeI s).kind = s.Kind from rfl]
      unfold cover_tree_find_J2 ref03_Leads_J2
      by_cases hk : s.Kind = 1#8
      · rw [if_pos hk, if_pos hk]; exact ⟨_, rfl, rfl⟩
      · rw [if_neg hk, if_neg hk]
        by_cases hm0 : x.Minus = 0
        · rw [decide_eq_true hm0]; exact ⟨_, rfl, rfl⟩
        · rw [decide_eq_false hm0, cond_false, cond_false]
          rcases hb rfl with h3 | h3 | ⟨q, m', k, hq, hm1, hk1, hk2, hm2, hk3⟩
          · exact absurd h3 hk
          · exact absurd h3 hm0
          · have e3 : cover_descend c.Labels[j].Key c.Labels[j].Minus x.Minus = some ((pathN m' k).foldl stp c.Labels[j].Key) := by rw [hq, hm1, hk1]; exact descend_eq _ (by omega) hk2 (by omega)
            have e4 : ref03_down c.Labels[j].Key c.Labels[j].Minus x.Minus = some ((pathN m' k).foldl stp c.Labels[j].Key) := by rw [hq, hm1, hk1]; exact down_eq _ (by omega) hk2 (by omega)
            rw [e3, e4, bind_some, bind_some]
            exact ⟨_, rfl, rfl⟩
theorem find_eq (s : TScheme) (c : TSecret) (hc : c.Labels.length < 4611686018427387904) (hok : ∀ l ∈ c.Labels, LblI l) (x : TSubset) (h : SubOk s x) : ∃ r, cover_tree_find (treeI s) c x = some r ∧ ref03_Leads s c x = some r :=
  find_loop s c hc hok x h _ 0 FUEL FUEL rfl (by omega) (fuel_lt (by omega)) (fuel_lt (by omega))
/-! subsets, plainly -/
theorem isSub_eq {s : TScheme} {d : Nat} (hv : vldB s = true) (hd : s.Depth = (d : Int)) (h6 : d ≤ 6) (n m : Nat) : ref03_IsSubset s ⟨(n : Int), (m : Int)⟩ = some (subP s.Kind d n m) := by
  have h64 := pow_le64 h6
  have hpow : 2 ^ (d + 1) = 2 * 2 ^ d := by rw [Nat.pow_succ, Nat.mul_comm]
  have hh : ∀ a : Nat, hasN d (a : Int) = decide (1 ≤ a ∧ a < 2 ^ (d + 1)) := fun a => by
    unfold hasN; apply decide_eq_decide.2; rw [hpow]; omega
  unfold ref03_IsSubset subP
  rw [hd, node_eq h6, bind_some, hh]
  by_cases hn : 1 ≤ n ∧ n < 2 ^ (d + 1)
  · rw [decide_eq_true hn]
    simp only [Bool.not_true, cond_false, Bool.true_and]
    by_cases hk : s.Kind = 1#8
    · rw [if_pos hk, if_pos hk]; congr 1; apply decide_eq_decide.2; omega
    · rw [if_neg hk, if_neg hk]
      by_cases hm : m = 0
      · rw [if_pos (by omega), if_pos hm]; congr 1; apply decide_eq_decide.2; omega
      · rw [if_neg (by omega), if_neg hm, node_eq h6, bind_some, hh]
        by_cases hm2 : m < 2 ^ (d + 1)
        · rw [decide_eq_true (by omega)]
          simp only [Bool.not_true, cond_false]
          by_cases he : m = n
          · rw [if_pos (by omega), decide_eq_false (by omega)]; rfl
          · rw [if_neg (by omega), rbelow_eq (by omega) (by omega) (by omega), bind_some, decide_eq_true (by omega), Bool.true_and]
            unfold ref03_IsSubset_J1 subN
            cases hb : belowB m n with
            | false => rfl
            | true =>
              simp only [Bool.not_true, cond_false, Bool.true_and]
              by_cases hk2 : s.Kind = 2#8
              · rw [if_pos hk2, decide_eq_true hk2]; rfl
              · rw [if_neg hk2, decide_eq_false hk2, Bool.false_or, hd, rspecial_eq h6 (by omega), bind_some]
                cases spcl d n with
                | true => rfl
                | false =>
                  rw [cond_false, Bool.false_or]
                  obtain ⟨k, hk0, hk1, hk3⟩ := below_split (by omega) hn.1 hb he
                  have hkl := le_log hk3 (by omega)
                  have := between_eq (d := d) (m := m) (k := k) h6 (by omega) hk3 (by omega)
                  rw [← hk1] at this
                  rw [this, bind_some, show Nat.log2 m - Nat.log2 n - 1 = k from by omega]
                  congr 1; apply decide_eq_decide.2; omega
        · rw [decide_eq_false (p := 1 ≤ m ∧ _) (by omega), decide_eq_false (p := m < _ ∧ _) (by omega)]; rfl
  · rw [decide_eq_false hn]; rfl
theorem subP_bd {k : BitVec 8} {d n m : Nat} (h6 : d ≤ 6) (h : subP k d n m = true) : 1 ≤ n ∧ n < 128 ∧ m < 128 ∧ (k = 1#8 ∨ m = 0 ∨ (belowB m n = true ∧ m ≠ n)) := by
  have h64 := pow_le64 h6
  have hpow : 2 ^ (d + 1) = 2 * 2 ^ d := by rw [Nat.pow_succ, Nat.mul_comm]
  unfold subP at h
  simp only [Bool.and_eq_true, decide_eq_true_eq] at h
  obtain ⟨⟨h1, h2⟩, h⟩ := h
  by_cases hk : k = 1#8
  · rw [if_pos hk, decide_eq_true_eq] at h; exact ⟨h1, by omega, by omega, .inl hk⟩
  · rw [if_neg hk] at h
    by_cases hm : m = 0
    · exact ⟨h1, by omega, by omega, .inr (.inl hm)⟩
    · rw [if_neg hm] at h
      simp only [Bool.and_eq_true, decide_eq_true_eq] at h
      exact ⟨h1, by omega, by omega, .inr (.inr ⟨h.1.2, h.1.1.2⟩)⟩
/-- a subset: its nodes, and what the mirrors say -/
theorem sub_cases {s : TScheme} {d : Nat} (hv : vldB s = true) (hd : s.Depth = (d : Int)) (h6 : d ≤ 6) (x : TSubset) :
    (cover_enter s [x] = some (Tcover_tree.mk 0#8 0 0, 31) ∧ ref03_IsSubset s x = some false ∧ cover_tree_subset (treeI s) x = some false) ∨
    (cover_enter s [x] = some (treeI s, 0) ∧ ref03_IsSubset s x = some true ∧ cover_tree_subset (treeI s) x = some true ∧ SubOk s x ∧ ∃ n m : Nat, x = ⟨(n : Int), (m : Int)⟩ ∧ SubN s x n m ∧ subP s.Kind d n m = true) := by
  obtain ⟨b, e1, e2, e3, e4⟩ := enter1 s hv x
  cases b with
  | false => exact .inl ⟨e1, e2, e3⟩
  | true =>
    obtain ⟨h1, n, m, h2⟩ := e4 rfl
    have hx : x = ⟨(n : Int), (m : Int)⟩ := by cases x; simp only [SubN] at h2; rw [h2.1, h2.2.1]
    refine .inr ⟨e1, e2, e3, h1, n, m, hx, h2, ?_⟩
    have := isSub_eq hv hd h6 n m
    rw [← hx, e2] at this
    exact (Option.some.inj this).symm
theorem leads_plain {s : TScheme} {d n m : Nat} (h6 : d ≤ 6) (hs : subP s.Kind d n m = true) {a : Nat × Nat} (ha : a.1 < 128 ∧ a.2 < 128) (key : W2) :
    cover_tree_leads (treeI s) (TLabel.mk (a.1 : Int) (a.2 : Int) key) ⟨(n : Int), (m : Int)⟩ = some (ldN s.Kind n m a) ∧ ref03_leads s (a.1 : Int) (a.2 : Int) ⟨(n : Int), (m : Int)⟩ = some (ldN s.Kind n m a) := by
  obtain ⟨hn1, hn2, hm2, _⟩ := subP_bd h6 hs
  unfold cover_tree_leads ref03_leads
  rw [show (treeI s).kind = s.Kind from rfl]
  simp only
  by_cases hk : s.Kind = 1#8
  · have hl : ldN s.Kind n m a = decide (a.1 = n ∧ a.2 = m) := if_pos (.inl hk)
    rw [if_pos hk, if_pos hk, hl]
    unfold cover_tree_leads_J1 ref03_leads_J1
    rw [cond_true, cond_true]
    simp only
    by_cases he : a.1 = n
    · rw [if_neg (by omega), if_pos (by omega)]
      refine ⟨?_, ?_⟩ <;> (congr 1; apply decide_eq_decide.2; omega)
    · rw [if_pos (by omega), if_neg (by omega), decide_eq_false (by omega)]; exact ⟨rfl, rfl⟩
  · rw [if_neg hk, if_neg hk]
    by_cases hm : m = 0
    · have hl : ldN s.Kind n m a = decide (a.1 = n ∧ a.2 = m) := if_pos (.inr hm)
      rw [hl]
      unfold cover_tree_leads_J1 ref03_leads_J1
      rw [decide_eq_true (by omega), cond_true, cond_true]
      simp only
      by_cases he : a.1 = n
      · rw [if_neg (by omega), if_pos (by omega)]
        refine ⟨?_, ?_⟩ <;> (congr 1; apply decide_eq_decide.2; omega)
      · rw [if_pos (by omega), if_neg (by omega), decide_eq_false (by omega)]; exact ⟨rfl, rfl⟩
    · have hl : ldN s.Kind n m a = (decide (a.1 = n ∧ 1 ≤ a.2) && belowB a.2 n && belowB m a.2) := if_neg (by rintro (h | h); exact hk h; exact hm h)
      rw [hl]
      unfold cover_tree_leads_J1 ref03_leads_J1
      rw [decide_eq_false (by omega), cond_false, cond_false]
      simp only
      by_cases he : a.1 = n
      · rw [if_neg (by omega), if_pos (by omega)]
        by_cases h1 : 1 ≤ a.2
        · rw [if_pos (by omega), decide_eq_true (by omega), Bool.true_and, he, below_eq h1 hn1 (by omega) (by omega), rbelow_eq h1 hn1 (by omega), bind_some, bind_some]
          cases belowB a.2 n with
          | false => exact ⟨rfl, rfl⟩
          | true => rw [cond_true, cond_true, below_eq (by omega) h1 (by omega) (by omega), rbelow_eq (by omega) h1 (by omega), bind_some, Bool.true_and]; exact ⟨rfl, rfl⟩
        · have h0 : a.2 = 0 := by omega
          rw [if_neg (by omega), decide_eq_false (by omega), Bool.false_and, Bool.false_and]
          refine ⟨?_, rfl⟩
          have : cover_node_below (a.2 : Int) (a.1 : Int) = some false := by
            unfold cover_node_below cover_node_below_J1; rw [if_pos (by omega)]; rfl
          rw [this, bind_some]; rfl
      · rw [if_pos (by omega), if_neg (by omega), decide_eq_false (by omega)]; exact ⟨rfl, rfl⟩
end Go.Sx
