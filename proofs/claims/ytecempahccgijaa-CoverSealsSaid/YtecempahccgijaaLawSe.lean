/- CoverSeals on the mirrors: sealed headers are the document's, for every root key, scheme, list of subsets and session key. -/
import Derived.Test.YtecempahccgijaaOpnSe
import Derived.Test.YtecempahccgijaaTk
import Derived.Test.YtecempahccgijaaSame
set_option linter.unusedVariables false
set_option linter.unusedSimpArgs false
namespace Go.Sx
open Go

abbrev hdr0 : THeader := THeader.mk [] 0#64 [] k0 k0
theorem sub_loop (root ses : W2) (s : TScheme) (hv : vldB s = true) (l : List TSubset) (hl : l.length ≤ 64) : ∀ (m j f f' : Nat), l.length - j = m → j ≤ l.length → m < f → m < f' → (∀ x ∈ l.take j, SubOk s x) →
    (fixN (cover_enter_L1 l (treeI s, true)) f (j : Int) = some (Tcover_tree.mk 0#8 0 0, 31) ∧ fixN (ref03_Seal_L1 root s l ses) f' (j : Int) = some (hdr0, 31)) ∨
    (fixN (cover_enter_L1 l (treeI s, true)) f (j : Int) = some (treeI s, 0) ∧ fixN (ref03_Seal_L1 root s l ses) f' (j : Int) = fixN (ref03_Seal_L2 root s l ses) FUEL (0, []) ∧ ∀ x ∈ l, SubOk s x)
  | m, j, 0, _, _, _, h, _, _ => by omega
  | m, j, _ + 1, 0, _, _, _, h, _ => by omega
  | 0, j, f + 1, f' + 1, hm, hj, _, _, hok => by
    rw [fix_step, fix_step]; simp only [cover_enter_L1, ref03_Seal_L1]
    rw [if_neg (by omega), if_neg (by omega)]
    refine .inr ⟨rfl, rfl, ?_⟩
    rw [List.take_of_length_le (by omega)] at hok; exact hok
  | m + 1, j, f + 1, f' + 1, hm, hj, hf, hf', hok => by
    rw [fix_step, fix_step]; simp only [cover_enter_L1, ref03_Seal_L1]
    have hjl : j < l.length := by omega
    obtain ⟨b, e1, e2, hb⟩ := subset_eq s hv l[j]
    rw [if_pos (by omega), if_pos (by omega), getI_some hjl, bind_some, bind_some, e1, e2, bind_some, bind_some]
    cases b with
    | false => exact .inl ⟨rfl, rfl⟩
    | true =>
      simp only [Bool.not_true, cond_false]
      rw [w64_id (by omega) (by omega)]
      refine sub_loop root ses s hv l hl m (j + 1) f f' (by omega) (by omega) (by omega) (by omega) ?_
      intro x hx
      rw [take_snoc l j hjl] at hx
      rcases List.mem_append.1 hx with h | h
      · exact hok x h
      · rw [List.mem_singleton] at h; subst h; exact hb rfl
theorem seal_loop (root ses : W2) (s : TScheme) (l : List TSubset) (hl : l.length ≤ 64) (hok : ∀ x ∈ l, SubOk s x) : ∀ (m j f f' : Nat) (acc : List TItem), l.length - j = m → j ≤ l.length → m < f → m < f' → acc.length = j →
    ∃ r, fixN (cover_Seal_L1 root l ses (treeI s, 0)) f ((j : Int), acc) = some r ∧ fixN (ref03_Seal_L2 root s l ses) f' ((j : Int), acc) = some r ∧ r.1.Items.length ≤ 1000 ∧ r.1.Points.length ≤ 1000
  | m, j, 0, _, _, _, _, h, _, _ => by omega
  | m, j, _ + 1, 0, _, _, _, _, h, _ => by omega
  | 0, j, f + 1, f' + 1, acc, hm, hj, _, _, ha => by
    rw [fix_step, fix_step]; simp only [cover_Seal_L1, ref03_Seal_L2]
    rw [if_neg (by omega), if_neg (by omega)]
    exact ⟨_, rfl, rfl, by simp only; omega, by simp⟩
  | m + 1, j, f + 1, f' + 1, acc, hm, hj, hf, hf', ha => by
    rw [fix_step, fix_step]; simp only [cover_Seal_L1, ref03_Seal_L2]
    have hjl : j < l.length := by omega
    obtain ⟨k, e1, e2⟩ := key_eq2 root s l[j] (hok _ (List.getElem_mem hjl))
    rw [if_pos (by omega), if_pos (by omega), getI_some hjl, bind_some, bind_some, bind_some, e1, e2, bind_some, bind_some, appG_some (by simp; omega), bind_some, bind_some, w64_id (by omega) (by omega)]
    exact seal_loop root ses s l hl hok m (j + 1) f f' _ (by omega) (by omega) (by omega) (by omega) (by simp [ha])
theorem seal_eq (root ses : W2) (s : TScheme) (l : List TSubset) (hl : l.length < 4611686018427387904) : ∃ r, cover_Seal root s l ses = some r ∧ ref03_Seal root s l ses = some r ∧ r.1.Items.length ≤ 1000 ∧ r.1.Points.length ≤ 1000 := by
  unfold cover_Seal ref03_Seal cover_Check
  rw [treeOf_eq, bind_some, valid_eq, bind_some]
  cases hv : vldB s with
  | false => exact ⟨_, rfl, rfl, by simp, by simp⟩
  | true =>
    simp only [if_true, Bool.not_true, cond_false]
    rw [bind_some, if_neg (by simp)]
    by_cases h64 : (64 : Int) < (l.length : Int)
    · rw [if_pos h64, if_pos h64]; exact ⟨_, rfl, rfl, by simp, by simp⟩
    · rw [if_neg h64, if_neg h64]
      unfold cover_enter
      rw [treeOf_eq, hv, bind_some]
      simp only [if_true, Bool.not_true, cond_false]
      rcases sub_loop root ses s hv l (by omega) _ 0 FUEL FUEL rfl (by omega) (fuel_lt (by omega)) (fuel_lt (by omega)) (by simp) with ⟨h1, h2⟩ | ⟨h1, h2, h3⟩
      · rw [show (0 : Int) = ((0 : Nat) : Int) from rfl, h1, h2, bind_some, if_pos (by simp)]
        exact ⟨_, rfl, rfl, by simp, by simp⟩
      · rw [show ((0 : Nat) : Int) = 0 from rfl] at h1 h2
        rw [h1, h2, bind_some, if_neg (by simp)]
        exact seal_loop root ses s l (by omega) h3 _ 0 FUEL FUEL [] rfl (by omega) (fuel_lt (by omega)) (fuel_lt (by omega)) rfl
/-- the law -/
theorem law03_CoverSeals_ok (p0 : W2) (p1 : TScheme) (p2 : List TSubset) (p3 : W2) (h1 : TScheme.ok p1) (h2 : ∀ a ∈ p2, TSubset.ok a) (h3 : p2.length * 16 ≤ 140737488351232) : law03_CoverSeals p0 p1 p2 p3 = some true := by
  unfold law03_CoverSeals
  rw [appG_some (by simp; omega), bind_some, List.nil_append]
  obtain ⟨r, e1, e2, h4, h5⟩ := seal_eq p0 p3 p1 p2 (by omega)
  rw [e1, e2, bind_some, bind_some, same_self r.1 (by omega) (by omega), bind_some]
  simp only [cond_true, if_true]
  rw [sameS_self p2 (by omega), bind_some]
end Go.Sx
