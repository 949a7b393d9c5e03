/- Words of the mirrors: sets, loops over sets in any order, sorting. -/
import Derived.Test.YtjdffpglgkefmaaGreatMir
set_option linter.unusedVariables false
set_option linter.unusedSimpArgs false
namespace Go.Sx
open Go

/-! ### words -/
/-- a key is put into a set -/
def insS (ks : List Int) (k : Int) : List Int := if k ∈ ks then ks else ks ++ [k]
theorem insS_nd {ks : List Int} {k : Int} (h : ks.Nodup) : (insS ks k).Nodup := by
  unfold insS; split
  · exact h
  · rename_i hn; rw [List.nodup_append]; exact ⟨h, by simp, fun a ha b hb => by simp at hb; subst hb; rintro rfl; exact hn ha⟩
open Classical in
/-- a loop over a set in any order: something only if every order comes to the same -/
noncomputable def rngM {σ R : Type} (F : Int → (σ → Option R) → σ → Option R) (d : σ → Option R) : Nat → List Int → σ → Option R
  | 0, _, _ => none
  | n + 1, rem, s => if rem = [] then d s else if h : ∃ r, ∀ k ∈ rem, F k (rngM F d n (rem.filter (· ≠ k))) s = some r then some (Classical.choose h) else none
theorem rngM_nil {σ R : Type} {F : Int → (σ → Option R) → σ → Option R} {d : σ → Option R} {n : Nat} {rem : List Int} {s : σ} {r : R} (h : rngM F d n rem s = some r) (hr : rem = []) : d s = some r := by
  cases n with
  | zero => cases h
  | succ n => unfold rngM at h; rw [if_pos hr] at h; exact h
theorem rngM_at {σ R : Type} {F : Int → (σ → Option R) → σ → Option R} {d : σ → Option R} {n : Nat} {rem : List Int} {s : σ} {r : R} {k : Int} (h : rngM F d n rem s = some r) (hk : k ∈ rem) : ∃ m, n = m + 1 ∧ F k (rngM F d m (rem.filter (· ≠ k))) s = some r := by
  cases n with
  | zero => cases h
  | succ n =>
    refine ⟨n, rfl, ?_⟩
    unfold rngM at h
    rw [if_neg (by rintro rfl; cases hk)] at h
    split at h
    · rename_i hx
      have := Classical.choose_spec hx k hk
      rw [this, h]
    · cases h
/-- every order comes to r -/
theorem rngM_run {σ R : Type} {F : Int → (σ → Option R) → σ → Option R} {d : σ → Option R} {r : R} (I : List Int → σ → Prop) (hd : ∀ s, I [] s → d s = some r) (hs : ∀ rem s k, k ∈ rem → I rem s → ∃ s', I (rem.filter (· ≠ k)) s' ∧ ∀ nx, F k nx s = nx s') :
    ∀ (n : Nat) (rem : List Int) (s : σ), rem.length < n → I rem s → rngM F d n rem s = some r
  | 0, rem, s, h, _ => by omega
  | n + 1, rem, s, h, hi => by
    unfold rngM
    by_cases h0 : rem = []
    · rw [if_pos h0]; subst h0; exact hd s hi
    · rw [if_neg h0]
      have hx : ∀ k ∈ rem, F k (rngM F d n (rem.filter (· ≠ k))) s = some r := fun k hk => by
        obtain ⟨s', h1, h2⟩ := hs rem s k hk hi
        rw [h2]
        refine rngM_run I hd hs n _ s' ?_ h1
        have : (rem.filter (· ≠ k)).length < rem.length := by
          exact List.length_filter_lt_length_iff_exists.2 ⟨k, hk, by simp⟩
        omega
      have hex : ∃ r, ∀ k ∈ rem, F k (rngM F d n (rem.filter (· ≠ k))) s = some r := ⟨r, hx⟩
      rw [dif_pos hex]
      obtain ⟨k, hk⟩ := List.exists_mem_of_ne_nil rem h0
      have h1 := Classical.choose_spec hex k hk
      rw [hx k hk] at h1
      exact h1.symm
theorem filter_lt {rem : List Int} {k : Int} (hk : k ∈ rem) : (rem.filter (· ≠ k)).length < rem.length := List.length_filter_lt_length_iff_exists.2 ⟨k, hk, by simp⟩

/-- sorted by a number; none unless the numbers are fit, and different -/
def srtBy {α : Type} (key : α → Int) (l : List α) : Option (List α) := if (∀ x ∈ l, 0 ≤ key x ∧ key x < 4611686018427387904) ∧ (l.map key).Nodup ∧ l.length < 4611686018427387904 then some (l.mergeSort fun a b => decide (key a ≤ key b)) else none
theorem srtBy_eq {α : Type} {key : α → Int} {l m : List α} (h : srtBy key l = some m) : m = l.mergeSort (fun a b => decide (key a ≤ key b)) ∧ (∀ x ∈ l, 0 ≤ key x ∧ key x < 4611686018427387904) ∧ (l.map key).Nodup ∧ l.length < 4611686018427387904 := by
  unfold srtBy at h; split at h
  · rename_i h1; exact ⟨(Option.some.inj h).symm, h1⟩
  · cases h
end Go.Sx
