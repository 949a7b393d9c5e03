/- From the walk of a law to its row: what is known of the arguments. -/
import Derived.Test.YtjdffpglgkefmaaGreatSxSl
import Derived.Test.YtjdffpglgkefmaaGreatU64
import Derived.Test.YtjdffpglgkefmaaGreatRows
import Derived.ProofKit
import Derived.OpenShut
import Derived.ShutString
import Derived.ChangeOld
import Derived.Below
import Derived.Carry
set_option linter.unusedVariables false
set_option linter.unusedSimpArgs false
namespace Go.Sx
open Go Go.RowKit

theorem bt_and {a b : Bool} (ha : a = true) (hb : b = true) : (a && b) = true := by rw [ha, hb]; rfl
/-- the cells of a struct's value, each of its type -/
def OkL (P : Program) (W : World) (r : Reach) (base : Nat) : List TypeId → List Value → Prop
  | [], [] => True
  | t :: ts, v :: vs => Cell.okWide P W r base t v ∧ OkL P W r base ts vs
  | _, _ => False
theorem okL_of {P : Program} {W : World} {r : Reach} {base : Nat} : ∀ (ts : List TypeId) (cs : List Value), cs.length = ts.length → (∀ (i : Nat) v, cs[i]? = some v → ∃ u, ts[i]? = some u ∧ Cell.okWide P W r base u v) → OkL P W r base ts cs
  | [], [], _, _ => trivial
  | t :: ts, c :: cs, hl, h => by
    refine ⟨?_, okL_of ts cs (by simpa using hl) fun i v hv => by simpa using h (i + 1) v (by simpa using hv)⟩
    obtain ⟨u, hu, hc⟩ := h 0 c rfl
    simp at hu; subst hu; exact hc
theorem ok_agg {P : Program} {W : World} {r : Reach} {base : Nat} {t : TypeId} {v : Value} {ts : List TypeId} (hu : (∃ fs, P.underlying t = some (.struct fs)) ∨ ∃ n e, P.underlying t = some (.array n e)) (hc : P.cellTypes P.depth t = some ts) (hn : P.cellsOf t = ts.length)
    (h : Value.okWide P W r base t v) : ∃ cs : List Value, v = .agg cs.toArray ∧ OkL P W r base ts cs := by
  have h' : ∃ cs, v = .agg cs ∧ cs.size = P.cellsOf t ∧ Row.okWide P W r base t cs := by
    unfold Value.okWide at h
    split at h
    · exact h
    · exact h
    · rename_i h1 h2
      rcases hu with ⟨fs, hu⟩ | ⟨n, e, hu⟩
      · exact absurd hu (h1 fs)
      · exact absurd hu (h2 n e)
  obtain ⟨cs, rfl, hsz, ts', hts, _, hall⟩ := h'
  rw [hc] at hts
  cases hts
  refine ⟨cs.toList, rfl, okL_of ts cs.toList (by simp [hsz, hn]) fun i v hv => ?_⟩
  obtain ⟨u, hu, hok⟩ := hall i v (by simpa using hv)
  have hi : i < ts.length := by rw [← hn, ← hsz]; simpa using (List.getElem?_eq_some_iff.1 hv).1
  rw [Nat.mod_eq_of_lt hi] at hu
  exact ⟨u, hu, hok⟩
theorem ok_int {P : Program} {W : World} {r : Reach} {base : Nat} {t : TypeId} {v : Value} {k : IntKind} (hu : P.underlying t = some (.int k)) (h : Cell.okWide P W r base t v) : ∃ n, v = .int k n ∧ k.has n := by
  simp only [Cell.okWide, hu, Cell.ok] at h
  split at h <;> try (exact h.elim)
  all_goals first | (obtain ⟨rfl, h⟩ := h; rename_i e; cases e; exact ⟨_, rfl, h⟩) | simp_all
theorem ok_i64 {P : Program} {W : World} {r : Reach} {base : Nat} {t : TypeId} {v : Value} (hu : P.underlying t = some (.int .i64)) (h : Cell.okWide P W r base t v) : ∃ n : Int, v = .int .i64 n ∧ -9223372036854775808 ≤ n ∧ n ≤ 9223372036854775807 := by
  obtain ⟨n, h1, h2⟩ := ok_int hu h
  simp only [IntKind.has, IntKind.min, IntKind.max, IntKind.bits, IntKind.signed] at h2
  exact ⟨n, h1, by simpa using h2.1, by simpa using h2.2⟩
theorem ok_u8 {P : Program} {W : World} {r : Reach} {base : Nat} {t : TypeId} {v : Value} (hu : P.underlying t = some (.int .u8)) (h : Cell.okWide P W r base t v) : ∃ n : Int, v = .int .u8 n ∧ 0 ≤ n ∧ n ≤ 255 := by
  obtain ⟨n, h1, h2⟩ := ok_int hu h
  simp only [IntKind.has, IntKind.min, IntKind.max, IntKind.bits, IntKind.signed] at h2
  exact ⟨n, h1, by simpa using h2.1, by simpa using h2.2⟩
theorem ok_u64 {P : Program} {W : World} {r : Reach} {base : Nat} {t : TypeId} {v : Value} (hu : P.underlying t = some (.int .u64)) (h : Cell.okWide P W r base t v) : ∃ n : BitVec 64, v = wv n := by
  obtain ⟨n, h1, h2⟩ := ok_int hu h
  simp only [IntKind.has, IntKind.min, IntKind.max, IntKind.bits, IntKind.signed] at h2
  exact ⟨wd n, by rw [h1]; show _ = Value.int .u64 (un (wd n)); rw [un_wd n (by simpa using h2.1) (by simpa using h2.2)]⟩
end Go.Sx
