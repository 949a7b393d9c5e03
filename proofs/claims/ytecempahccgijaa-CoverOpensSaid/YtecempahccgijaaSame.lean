/- Comparisons with oneself. -/
import Derived.Test.YtecempahccgijaaCrM
import Derived.Test.YtecempahccgijaaPl
set_option linter.unusedVariables false
set_option linter.unusedSimpArgs false
namespace Go.Sx
open Go

/-! the same header -/
theorem same3 (p : THeader) (hn : p.Points.length < 4611686018427387904) : ∀ (m i fuel : Nat), p.Points.length - i = m → i ≤ p.Points.length → m < fuel → fixN (ref03_SameHeader_L3 p p) fuel (i : Int) = some true
  | m, i, 0, _, _, hf => by omega
  | 0, i, fuel + 1, hm, hi, hf => by rw [fix_step]; simp only [ref03_SameHeader_L3]; rw [if_neg (by omega)]
  | m + 1, i, fuel + 1, hm, hi, hf => by
    rw [fix_step]; simp only [ref03_SameHeader_L3]
    rw [if_pos (by omega), getI_some (by omega), bind_some, bind_some, if_neg (by simp), w64_id (by omega) (by omega)]
    exact same3 p hn m (i + 1) fuel (by omega) (by omega) (by omega)
theorem same2 (p : THeader) (hi' : p.Items.length < 4611686018427387904) (hn : p.Points.length < 4611686018427387904) : ∀ (m i fuel : Nat), p.Items.length - i = m → i ≤ p.Items.length → m < fuel → fixN (ref03_SameHeader_L2 p p) fuel (i : Int) = some true
  | m, i, 0, _, _, hf => by omega
  | 0, i, fuel + 1, hm, hi, hf => by
    rw [fix_step]; simp only [ref03_SameHeader_L2]; rw [if_neg (by omega)]
    exact same3 p hn _ 0 FUEL rfl (by omega) (fuel_lt (by omega))
  | m + 1, i, fuel + 1, hm, hi, hf => by
    rw [fix_step]; simp only [ref03_SameHeader_L2]
    rw [if_pos (by omega), getI_some (by omega), bind_some, bind_some, if_neg (by simp), w64_id (by omega) (by omega)]
    exact same2 p hi' hn m (i + 1) fuel (by omega) (by omega) (by omega)
theorem same_self (p : THeader) (hi : p.Items.length < 4611686018427387904) (hn : p.Points.length < 4611686018427387904) : ref03_SameHeader p p = some true := by
  unfold ref03_SameHeader ref03_SameHeader_J1
  simp only [ne_eq, not_true_eq_false, if_false, decide_false, cond_false]
  exact same2 p hi hn _ 0 FUEL rfl (by omega) (fuel_lt (by omega))
theorem sameS_loop (l : List TSubset) (hl : l.length < 4611686018427387904) : ∀ (m i fuel : Nat), l.length - i = m → i ≤ l.length → m < fuel → fixN (ref03_SameSubsets_L1 l l) fuel (i : Int) = some true
  | m, i, 0, _, _, hf => by omega
  | 0, i, fuel + 1, hm, hi, hf => by rw [fix_step]; simp only [ref03_SameSubsets_L1]; rw [if_neg (by omega)]
  | m + 1, i, fuel + 1, hm, hi, hf => by
    rw [fix_step]; simp only [ref03_SameSubsets_L1]
    rw [if_pos (by omega), getI_some (by omega), bind_some, bind_some, if_neg (by simp), w64_id (by omega) (by omega)]
    exact sameS_loop l hl m (i + 1) fuel (by omega) (by omega) (by omega)
theorem sameS_self (l : List TSubset) (hl : l.length < 4611686018427387904) : ref03_SameSubsets l l = some true := by
  unfold ref03_SameSubsets
  rw [if_neg (by simp)]
  exact sameS_loop l hl _ 0 FUEL rfl (by omega) (fuel_lt (by omega))
end Go.Sx
