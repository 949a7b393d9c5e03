/- CoverOpens on the mirrors: opening any header with any secret is the document's. -/
import Derived.Test.YtecempahccgijaaOpnOp
import Derived.Test.YtecempahccgijaaTk
import Derived.Test.YtecempahccgijaaSame
import Derived.Test.YtecempahccgijaaBy
set_option linter.unusedVariables false
set_option linter.unusedSimpArgs false
namespace Go.Sx
open Go

theorem below_split0 {m q : Nat} (hm : 1 ≤ m) (h : belowB m q = true) : ∃ k, q = m / 2 ^ k ∧ 2 ^ k ≤ m := by
  unfold belowB at h
  obtain ⟨h1, h2⟩ := of_decide_eq_true h
  exact ⟨_, h2.symm, Nat.le_trans (Nat.pow_le_pow_right (by omega) (by omega)) (Nat.log2_self_le (by omega))⟩
/-- a label that leads to a subset below its Minus -/
def LdOk (l : TLabel) (x : TSubset) : Prop := ∃ q m k : Nat, l.Minus = (q : Int) ∧ x.Minus = (m : Int) ∧ q = m / 2 ^ k ∧ 2 ^ k ≤ m ∧ m < 128 ∧ k ≤ 6
theorem leads_eq (s : TScheme) (x : TSubset) (h : SubOk s x) (l : TLabel) (hl : TLabel.ok l) : ∃ b, cover_tree_leads (treeI s) l x = some b ∧ ref03_leads s l.Node l.Minus x = some b ∧ (b = true → s.Kind = 1#8 ∨ x.Minus = 0 ∨ LdOk l x) := by
  unfold cover_tree_leads ref03_leads
  rw [show (treeI s).kind = s.Kind from rfl]
  have hno : false = true → s.Kind = 1#8 ∨ x.Minus = 0 ∨ LdOk l x := fun h => by cases h
  by_cases hk : s.Kind = 1#8
  · rw [if_pos hk, if_pos hk]
    unfold cover_tree_leads_J1 ref03_leads_J1
    rw [cond_true, cond_true]
    by_cases hn : l.Node = x.Node
    · rw [if_neg (by simp [hn]), if_pos hn]; exact ⟨_, rfl, rfl, fun _ => .inl hk⟩
    · rw [if_pos hn, if_neg hn]; exact ⟨_, rfl, rfl, hno⟩
  · rw [if_neg hk, if_neg hk]
    by_cases hn : l.Node = x.Node
    · rw [if_neg (by simp [hn])]
      unfold cover_tree_leads_J1 ref03_leads_J1
      by_cases hm : x.Minus = 0
      · rw [decide_eq_true hm, cond_true, cond_true, if_pos hn]; exact ⟨_, rfl, rfl, fun _ => .inr (.inl hm)⟩
      · rw [decide_eq_false hm, cond_false, cond_false, if_pos hn]
        rcases h.2 with h3 | h3 | ⟨m, n, k, hm1, hn1, hk1, hk2, hm2, hk3, hn2⟩
        · exact absurd h3 hk
        · exact absurd h3 hm
        · have hmp : 1 ≤ m := by have := Nat.two_pow_pos (k + 1); omega
          have hnm : n ≤ m := by rw [hk1]; exact Nat.div_le_self _ _
          obtain ⟨b1, b2⟩ := hl
          unfold I64 at b1 b2
          by_cases h1 : (1 : Int) ≤ l.Minus
          · obtain ⟨q, hq⟩ : ∃ q : Nat, l.Minus = (q : Int) := ⟨l.Minus.toNat, by omega⟩
            have e1 : cover_node_below l.Minus l.Node = some (belowB q n) := by rw [hn, hq, hn1]; exact below_eq (by omega) hn2 (by omega) (by omega)
            have e2 : ref03_Below l.Minus l.Node = some (belowB q n) := by rw [hn, hq, hn1]; exact rbelow_eq (by omega) hn2 (by omega)
            have e3 : cover_node_below x.Minus l.Minus = some (belowB m q) := by rw [hq, hm1]; exact below_eq hmp (by omega) (by omega) (by omega)
            have e4 : ref03_Below x.Minus l.Minus = some (belowB m q) := by rw [hq, hm1]; exact rbelow_eq hmp (by omega) (by omega)
            rw [if_pos h1, e1, e2, bind_some, bind_some]
            cases belowB q n with
            | false => exact ⟨_, rfl, rfl, hno⟩
            | true =>
              rw [cond_true, cond_true, e3, e4, bind_some]
              refine ⟨_, rfl, rfl, fun hb => ?_⟩
              obtain ⟨k', h5, h6⟩ := below_split0 hmp hb
              exact .inr (.inr ⟨q, m, k', hq, hm1, h5, h6, hm2, le_log h6 hm2⟩)
          · rw [if_neg h1]
            have e1 : cover_node_below l.Minus l.Node = some false := by
              unfold cover_node_below cover_node_below_J1
              rw [if_pos (by omega)]; rfl
            rw [e1, bind_some]
            exact ⟨_, rfl, rfl, hno⟩
    · rw [if_pos hn]
      unfold ref03_leads_J1
      cases decide (x.Minus = 0) with
      | true => rw [cond_true, if_neg hn]; exact ⟨_, rfl, rfl, hno⟩
      | false => rw [cond_false, if_neg hn]; exact ⟨_, rfl, rfl, hno⟩
theorem find_loop (s : TScheme) (c : TSecret) (hc : c.Labels.length < 4611686018427387904) (hok : ∀ l ∈ c.Labels, TLabel.ok l) (x : TSubset) (h : SubOk s x) : ∀ (m j f f' : Nat), c.Labels.length - j = m → j ≤ c.Labels.length → m < f → m < f' →
    ∃ r, fixN (cover_tree_find_L1 (treeI s) c x) f (j : Int) = some r ∧ fixN (ref03_Leads_L1 s c x) f' (j : Int) = some r
  | m, j, 0, _, _, _, h, _ => by omega
  | m, j, _ + 1, 0, _, _, _, h => by omega
  | 0, j, f + 1, f' + 1, hm, hj, _, _ => by
    rw [fix_step, fix_step]; simp only [cover_tree_find_L1, ref03_Leads_L1]
    rw [if_neg (by omega), if_neg (by omega)]
    exact ⟨_, rfl, rfl⟩
  | m + 1, j, f + 1, f' + 1, hm, hj, hf, hf' => by
    rw [fix_step, fix_step]; simp only [cover_tree_find_L1, ref03_Leads_L1]
    have hjl : j < c.Labels.length := by omega
    obtain ⟨b, e1, e2, hb⟩ := leads_eq s x h c.Labels[j] (hok _ (List.getElem_mem hjl))
    rw [if_pos (by omega), if_pos (by omega), getI_some hjl, bind_some, bind_some, e1, e2, bind_some, bind_some]
    cases b with
    | false =>
      simp only [Bool.not_false, cond_true]
      rw [w64_id (by omega) (by omega)]
      exact find_loop s c hc hok x h m (j + 1) f f' (by omega) (by omega) (by omega) (by omega)
    | true =>
      simp only [Bool.not_true, cond_false]
      rw [show (treeI s).kind = s.Kind from rfl]
      unfold cover_tree_find_J2 ref03_Leads_J2
      by_cases hk : s.Kind = 1#8
      · rw [if_pos hk, if_pos hk]; exact ⟨_, rfl, rfl⟩
      · rw [if_neg hk, if_neg hk]
        by_cases hm0 : x.Minus = 0
        · rw [decide_eq_true hm0]; exact ⟨_, rfl, rfl⟩
        · rw [decide_eq_false hm0, cond_false, cond_false]
          rcases hb rfl with h3 | h3 | ⟨q, m', k, hq, hm1, hk1, hk2, hm2, hk3⟩
          · exact absurd h3 hk
          · exact absurd h3 hm0
          · have e3 : cover_descend c.Labels[j].Key c.Labels[j].Minus x.Minus = some ((pathN m' k).foldl stp c.Labels[j].Key) := by rw [hq, hm1, hk1]; exact descend_eq _ (by omega) hk2 (by omega)
            have e4 : ref03_down c.Labels[j].Key c.Labels[j].Minus x.Minus = some ((pathN m' k).foldl stp c.Labels[j].Key) := by rw [hq, hm1, hk1]; exact down_eq _ (by omega) hk2 (by omega)
            rw [e3, e4, bind_some, bind_some]
            exact ⟨_, rfl, rfl⟩
theorem find_eq (s : TScheme) (c : TSecret) (hc : c.Labels.length < 4611686018427387904) (hok : ∀ l ∈ c.Labels, TLabel.ok l) (x : TSubset) (h : SubOk s x) : ∃ r, cover_tree_find (treeI s) c x = some r ∧ ref03_Leads s c x = some r :=
  find_loop s c hc hok x h _ 0 FUEL FUEL rfl (by omega) (fuel_lt (by omega)) (fuel_lt (by omega))
theorem valid_loop (s : TScheme) (hv : vldB s = true) (h : THeader) (hl : h.Items.length ≤ 64) : ∀ (m j f f' : Nat), h.Items.length - j = m → j ≤ h.Items.length → m < f → m < f' → (∀ x ∈ h.Items.take j, SubOk s x.Subset) →
    (∃ i : Nat, fixN (slices_IndexFunc_c205_cover_Open_1_L1 h.Items (treeI s)) f (j : Int) = some (i : Int) ∧ fixN (ref03_ValidHeader_L2 s h) f' (j : Int) = some false) ∨
    (fixN (slices_IndexFunc_c205_cover_Open_1_L1 h.Items (treeI s)) f (j : Int) = some (-1) ∧ fixN (ref03_ValidHeader_L2 s h) f' (j : Int) = some true ∧ ∀ x ∈ h.Items, SubOk s x.Subset)
  | m, j, 0, _, _, _, h, _, _ => by omega
  | m, j, _ + 1, 0, _, _, _, h, _ => by omega
  | 0, j, f + 1, f' + 1, hm, hj, _, _, hok => by
    rw [fix_step, fix_step]; simp only [slices_IndexFunc_c205_cover_Open_1_L1, ref03_ValidHeader_L2]
    rw [if_neg (by omega), if_neg (by omega)]
    refine .inr ⟨rfl, rfl, ?_⟩
    rw [List.take_of_length_le (by omega)] at hok; exact hok
  | m + 1, j, f + 1, f' + 1, hm, hj, hf, hf', hok => by
    rw [fix_step, fix_step]; simp only [slices_IndexFunc_c205_cover_Open_1_L1, ref03_ValidHeader_L2, cover_Open_1]
    have hjl : j < h.Items.length := by omega
    obtain ⟨b, e1, e2, hb⟩ := subset_eq s hv h.Items[j].Subset
    rw [if_pos (by omega), if_pos (by omega), getI_some hjl, bind_some, bind_some, e1, e2, bind_some, bind_some, bind_some]
    cases b with
    | false => exact .inl ⟨j, rfl, rfl⟩
    | true =>
      simp only [Bool.not_true, cond_false]
      rw [w64_id (by omega) (by omega)]
      refine valid_loop s hv h hl m (j + 1) f f' (by omega) (by omega) (by omega) (by omega) ?_
      intro x hx
      rw [take_snoc _ j hjl] at hx
      rcases List.mem_append.1 hx with h' | h'
      · exact hok x h'
      · rw [List.mem_singleton] at h'; subst h'; exact hb rfl
theorem open_loop (s : TScheme) (c : TSecret) (hc : c.Labels.length < 4611686018427387904) (hcl : ∀ l ∈ c.Labels, TLabel.ok l) (h : THeader) (hl : h.Items.length ≤ 64) (hok : ∀ x ∈ h.Items, SubOk s x.Subset) : ∀ (m j f f' : Nat), h.Items.length - j = m → j ≤ h.Items.length → m < f → m < f' →
    ∃ r, fixN (cover_Open_L2 c h (treeI s, 0)) f (j : Int) = some r ∧ fixN (ref03_Open_L1 s c h) f' (j : Int) = some r
  | m, j, 0, _, _, _, h, _ => by omega
  | m, j, _ + 1, 0, _, _, _, h => by omega
  | 0, j, f + 1, f' + 1, hm, hj, _, _ => by
    rw [fix_step, fix_step]; simp only [cover_Open_L2, ref03_Open_L1]
    rw [if_neg (by omega), if_neg (by omega)]
    exact ⟨_, rfl, rfl⟩
  | m + 1, j, f + 1, f' + 1, hm, hj, hf, hf' => by
    rw [fix_step, fix_step]; simp only [cover_Open_L2, ref03_Open_L1, ref03_Open_J2, ref03_Open_J3]
    have hjl : j < h.Items.length := by omega
    obtain ⟨⟨k, b⟩, e1, e2⟩ := find_eq s c hc hcl h.Items[j].Subset (hok _ (List.getElem_mem hjl))
    have ih := open_loop s c hc hcl h hl hok m (j + 1) f f' (by omega) (by omega) (by omega) (by omega)
    rw [show ((j + 1 : Nat) : Int) = (j : Int) + 1 from by omega] at ih
    rw [if_pos (by omega), if_pos (by omega), getI_some hjl, bind_some, bind_some, e1, e2, bind_some, bind_some, w64_id (by omega) (by omega)]
    cases b with
    | false => simp only [Bool.not_false, cond_true, cond_false]; exact ih
    | true =>
      simp only [Bool.not_true, cond_true, cond_false]
      rw [bind_some, rdecr_eq, bind_some]
      by_cases he : drv (decr k h.Items[j].Box) (un8 53#8) 0#64 = h.Check
      · rw [if_pos he, if_pos he]; exact ⟨_, rfl, rfl⟩
      · rw [if_neg he, if_neg he]; exact ih
theorem open_eq (s : TScheme) (c : TSecret) (hc : c.Labels.length < 4611686018427387904) (hcl : ∀ l ∈ c.Labels, TLabel.ok l) (h : THeader) (hi : h.Items.length < 4611686018427387904) : ∃ r, cover_Open s c h = some r ∧ ref03_Open s c h = some r := by
  unfold cover_Open ref03_Open cover_enter
  rw [treeOf_eq, bind_some, valid_eq, bind_some]
  cases hv : vldB s with
  | false => exact ⟨_, rfl, rfl⟩
  | true =>
    simp only [if_true, Bool.not_true, cond_false]
    have he : fixN (cover_enter_L1 ([] : List TSubset) (treeI s, true)) FUEL 0 = some (treeI s, 0) := rfl
    rw [he, bind_some, if_neg (by simp)]
    unfold ref03_ValidHeader ref03_ValidHeader_J1 cover_Open_J1
    have hbad : ∃ r : W2 × Int, some (k0, (8 : Int)) = some r ∧ (Option.bind (some false) fun x2 => bif !x2 then some (k0, (8 : Int)) else fixN (ref03_Open_L1 s c h) FUEL 0) = some r := ⟨_, rfl, rfl⟩
    by_cases h1 : (64 : Int) < (h.Items.length : Int)
    · rw [if_pos h1, if_pos h1]; exact hbad
    · rw [if_neg h1, if_neg h1]
      by_cases h2 : h.Base ≠ 0#64
      · rw [if_pos h2, if_pos h2]; exact hbad
      · rw [if_neg h2, if_neg h2]
        by_cases h3 : (0 : Int) < (h.Points.length : Int)
        · rw [if_pos h3, if_pos (show (h.Points.length : Int) ≠ 0 by omega)]; exact hbad
        · rw [if_neg h3, if_neg (show ¬ ((h.Points.length : Int) ≠ 0) by omega)]
          by_cases h4 : h.Box ≠ k0
          · rw [if_pos h4, decide_eq_true h4]; exact hbad
          · rw [if_neg h4, decide_eq_false h4]
            simp only [cond_false]
            unfold slices_ContainsFunc_9968_cover_Open_1 slices_IndexFunc_c205_cover_Open_1
            rcases valid_loop s hv h (by omega) _ 0 FUEL FUEL rfl (by omega) (fuel_lt (by omega)) (fuel_lt (by omega)) (by simp) with ⟨i, e1, e2⟩ | ⟨e1, e2, e3⟩
            · rw [show ((0 : Nat) : Int) = 0 from rfl] at e1 e2
              rw [e1, e2, bind_some, bind_some, decide_eq_true (by omega)]; exact hbad
            · rw [show ((0 : Nat) : Int) = 0 from rfl] at e1 e2
              rw [e1, e2, bind_some, bind_some, bind_some]
              exact open_loop s c hc hcl h (by omega) e3 _ 0 FUEL FUEL rfl (by omega) (fuel_lt (by omega)) (fuel_lt (by omega))
theorem sameC_loop (p : TSecret) (hl : p.Labels.length < 4611686018427387904) : ∀ (m i fuel : Nat), p.Labels.length - i = m → i ≤ p.Labels.length → m < fuel → fixN (ref03_SameSecret_L2 p p) fuel (i : Int) = some true
  | m, i, 0, _, _, hf => by omega
  | 0, i, fuel + 1, hm, hi, hf => by rw [fix_step]; simp only [ref03_SameSecret_L2]; rw [if_neg (by omega)]
  | m + 1, i, fuel + 1, hm, hi, hf => by
    rw [fix_step]; simp only [ref03_SameSecret_L2]
    rw [if_pos (by omega), getI_some (by omega), bind_some, bind_some, if_neg (by simp), w64_id (by omega) (by omega)]
    exact sameC_loop p hl m (i + 1) fuel (by omega) (by omega) (by omega)
theorem sameC_self (p : TSecret) (hl : p.Labels.length < 4611686018427387904) : ref03_SameSecret p p = some true := by
  unfold ref03_SameSecret ref03_SameSecret_J1
  simp only [ne_eq, not_true_eq_false, if_false, decide_false, cond_false]
  exact sameC_loop p hl _ 0 FUEL rfl (by omega) (fuel_lt (by omega))
/-- the law -/
theorem law03_CoverOpens_ok (p0 : TScheme) (p1 : TSecret) (p2 : THeader) (h0 : TScheme.ok p0) (h1 : TSecret.ok p1) (h2 : THeader.ok p2) : law03_CoverOpens p0 p1 p2 = some true := by
  obtain ⟨_, hl, hll⟩ := h1
  obtain ⟨⟨hi, hil⟩, hpl⟩ := h2
  unfold law03_CoverOpens ref03_TwinSecret ref03_TwinHeader law03_CoverOpens_J1
  rw [appG_some (by simp; omega), bind_some, bind_some, appG_some (by simp; omega), bind_some, appG_some (by simp; omega), bind_some, bind_some]
  simp only [List.nil_append]
  obtain ⟨r, e1, e2⟩ := open_eq p0 p1 (by omega) hl p2 (by omega)
  rw [e1, bind_some, e2, bind_some, if_pos rfl, if_pos rfl, sameC_self p1 (by omega), bind_some, same_self p2 (by omega) (by omega)]
  rfl
end Go.Sx
