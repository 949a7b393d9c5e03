/- Loops, more. -/
import Derived.Test.YtjdffpglgkefmaaFx
set_option linter.unusedVariables false
set_option linter.unusedSimpArgs false
namespace Go.Sx
open Go
theorem filter_tt {α : Type} (l : List α) : (l.filter fun _ => true) = l := List.filter_eq_self.2 (by simp)
/-- n rounds, and then the result -/
theorem fix_run {τ R : Type} (F : (τ → Option R) → τ → Option R) (I : Nat → τ → Prop) (n : Nat) (r : Option R) (hs : ∀ j s, j < n → I j s → ∃ s', I (j + 1) s' ∧ ∀ rec, F rec s = rec s') (he : ∀ s, I n s → ∀ rec, F rec s = r) :
    ∀ (m j f : Nat) (s : τ), j + m = n → m < f → I j s → fixN F f s = r
  | m, j, 0, s, _, h, _ => by omega
  | 0, j, f + 1, s, hj, _, hi => by
    have : j = n := by omega
    subst this
    rw [fix_step, he s hi]
  | m + 1, j, f + 1, s, hj, hf, hi => by
    obtain ⟨s', h1, h2⟩ := hs j s (by omega) hi
    rw [fix_step, h2]
    exact fix_run F I n r hs he m (j + 1) f s' (by omega) (by omega) h1
end Go.Sx
