/- Several texts in one: Kya Tm Cv Fd Kn Cp Cq Same LawSe By LawOq Fq Ls Pse Byp. -/
import Derived.Test.YtjdffpglgkefmaaGreatZd
import Derived.Test.YtjdffpglgkefmaaGreatZe
import Derived.Test.YtjdffpglgkefmaaGreatZc
set_option linter.unusedVariables false
set_option linter.unusedSimpArgs false
section
set_option linter.unusedVariables false
set_option linter.unusedSimpArgs false
set_option maxRecDepth 100000
noncomputable section
namespace Go.Sx.Ep
open Go Go.Sx
theorem ccheck_eq (s : TScheme) : cover_Check s = some (if vldB s then 0 else 30) ∧ ref03_Check s = some (if vldB s then 0 else 30) := by
  unfold cover_Check ref03_Check
  constructor
  · rw [treeOf_eq, bind_some]
    cases hv : vldB s <;> rfl
  · rw [Go.Sx.valid_eq, bind_some]
    cases hv : vldB s <;> rfl
theorem pcheck_eq (s : TScheme) : ∃ r, poly_Check s = some r ∧ ref04_Check s = some r := by
  unfold poly_Check ref04_Check
  rcases Po.valid_eq s with ⟨e1, e2⟩ | ⟨e1, e2, _⟩
  · rw [e1, e2]; exact ⟨_, rfl, rfl⟩
  · rw [e1, e2]; exact ⟨_, rfl, rfl⟩
/-- which kind of scheme -/
theorem kinds (k : BitVec 8) : (k < 1#8 ∨ (5 : Int) ≤ un8 k) ∨ ((un8 k = 1 ∨ un8 k = 2 ∨ un8 k = 3) ∧ 1#8 ≤ k ∧ k ≤ 3#8 ∧ k ≠ 4#8 ∧ ¬ k < 1#8 ∧ ¬ (5 : Int) ≤ un8 k) ∨ (k = 4#8 ∧ un8 k = 4 ∧ ¬ (un8 k = 1 ∨ un8 k = 2 ∨ un8 k = 3)) := by
  unfold un8
  have h4 : k = 4#8 ↔ k.toNat = 4 := ⟨fun h => by rw [h]; rfl, fun h => BitVec.eq_of_toNat_eq h⟩
  rw [BitVec.lt_def, BitVec.le_def, BitVec.le_def, ne_eq, h4]
  have e1 : (1#8).toNat = 1 := rfl
  have e3 : (3#8).toNat = 3 := rfl
  rw [e1, e3]; omega
theorem ks_eq (s : TScheme) : ∃ r, epoch_CheckScheme s = some r ∧ ref05_CheckScheme s = some r ∧ ((s.Kind < 1#8 ∨ (5 : Int) ≤ un8 s.Kind) ∧ r = 2 ∨ ((un8 s.Kind = 1 ∨ un8 s.Kind = 2 ∨ un8 s.Kind = 3) ∧ cover_Check s = some r ∧ s.Kind ≠ 4#8) ∨ (s.Kind = 4#8 ∧ poly_Check s = some r)) := by
  unfold epoch_CheckScheme ref05_CheckScheme
  rcases kinds s.Kind with h | ⟨h1, h2, h3, h4, h5, h6⟩ | ⟨h1, h2, h3⟩
  · refine ⟨2, ?_, ?_, .inl ⟨h, rfl⟩⟩
    · rcases h with h | h
      · rw [if_pos h]; rfl
      · by_cases h0 : s.Kind < 1#8
        · rw [if_pos h0]; rfl
        · rw [if_neg h0, decide_eq_true h]; rfl
    · have hk : ¬ (1#8 ≤ s.Kind ∧ s.Kind ≤ 3#8) ∧ s.Kind ≠ 4#8 := by
        have h4 : s.Kind = 4#8 ↔ s.Kind.toNat = 4 := ⟨fun h => by rw [h]; rfl, fun h => BitVec.eq_of_toNat_eq h⟩
        unfold un8 at h
        rw [BitVec.lt_def] at h
        rw [BitVec.le_def, BitVec.le_def, ne_eq, h4]
        have e1 : (1#8).toNat = 1 := rfl
        have e3 : (3#8).toNat = 3 := rfl
        rw [e1] at h; rw [e1, e3]; omega
      have hj : ref05_CheckScheme_J1 s false = some 2 := by unfold ref05_CheckScheme_J1; rw [cond_false, if_neg hk.2]
      by_cases h1 : 1#8 ≤ s.Kind
      · rw [if_pos h1, decide_eq_false (fun h => hk.1 ⟨h1, h⟩), hj]
      · rw [if_neg h1, hj]
  · rw [if_neg h5, if_pos h2, decide_eq_false h6, decide_eq_true h3]
    unfold epoch_CheckScheme_J1 ref05_CheckScheme_J1
    rw [cond_false, cond_true, if_pos h1, (ccheck_eq s).1, (ccheck_eq s).2]
    exact ⟨_, rfl, rfl, .inr (.inl ⟨h1, rfl, h4⟩)⟩
  · obtain ⟨r, e1, e2⟩ := pcheck_eq s
    have a1 : ¬ s.Kind < 1#8 := by rw [h1]; decide
    have a2 : 1#8 ≤ s.Kind := by rw [h1]; decide
    have a3 : ¬ s.Kind ≤ 3#8 := by rw [h1]; decide
    have a4 : ¬ (5 : Int) ≤ un8 s.Kind := by rw [h1]; decide
    unfold epoch_CheckScheme_J1 ref05_CheckScheme_J1
    rw [if_neg a1, if_pos a2, decide_eq_false a4, decide_eq_false a3, cond_false, cond_false, if_neg h3, if_pos h2, if_pos h1, e1, e2]
    exact ⟨_, rfl, rfl, .inr (.inr ⟨h1, rfl⟩)⟩
end Go.Sx.Ep

end
section
set_option linter.unusedVariables false
set_option linter.unusedSimpArgs false
set_option maxRecDepth 100000
namespace Go.Sx
open Go
theorem below_iff {w v : Nat} (hw : 1 ≤ w) : belowB w v = true ↔ ∃ k, 2 ^ k ≤ w ∧ v = w / 2 ^ k := by
  constructor
  · intro h
    unfold belowB at h
    obtain ⟨h1, h2⟩ := of_decide_eq_true h
    exact ⟨_, Nat.le_trans (Nat.pow_le_pow_right (by omega) (by omega)) (Nat.log2_self_le (by omega)), h2.symm⟩
  · rintro ⟨k, h1, rfl⟩
    unfold belowB
    have h2 := log2_divk h1
    have h3 := log2_div w k h1
    apply decide_eq_true
    refine ⟨by omega, ?_⟩
    rw [h2, show Nat.log2 w - (Nat.log2 w - k) = k from by omega]
theorem below_pos {w v : Nat} (hw : 1 ≤ w) (h : belowB w v = true) : 1 ≤ v := by
  obtain ⟨k, h1, rfl⟩ := (below_iff hw).1 h
  exact div_pos' h1
theorem pow_div_le {w i j : Nat} (h : 2 ^ (i + j) ≤ w) : 2 ^ j ≤ w / 2 ^ i := by
  rw [Nat.le_div_iff_mul_le (Nat.two_pow_pos i), ← Nat.pow_add, Nat.add_comm]; exact h
theorem pow_div_le' {w i j : Nat} (h : 2 ^ j ≤ w / 2 ^ i) : 2 ^ (i + j) ≤ w := by
  rw [Nat.le_div_iff_mul_le (Nat.two_pow_pos i), ← Nat.pow_add, Nat.add_comm] at h; exact h
theorem below_log {w v : Nat} (hw : 1 ≤ w) (h : belowB w v = true) : Nat.log2 v ≤ Nat.log2 w := by
  unfold belowB at h
  exact (of_decide_eq_true h).1
/-! siblings -/
theorem sib_fin : ∀ n : Fin 128, (n.1 ^^^ 1) / 2 = n.1 / 2 ∧ n.1 ^^^ 1 ≠ n.1 ∧ n.1 ^^^ 1 < 128 ∧ (2 ≤ n.1 → Nat.log2 (n.1 ^^^ 1) = Nat.log2 n.1 ∧ 2 ≤ n.1 ^^^ 1) ∧ n.1 ^^^ 1 ^^^ 1 = n.1 := by decide +kernel
theorem sib_half {n : Nat} (h : n < 128) : (n ^^^ 1) / 2 = n / 2 := (sib_fin ⟨n, h⟩).1
theorem sib_lt {n : Nat} (h : n < 128) : n ^^^ 1 < 128 := (sib_fin ⟨n, h⟩).2.2.1
theorem sib_log {n : Nat} (h : n < 128) (h2 : 2 ≤ n) : Nat.log2 (n ^^^ 1) = Nat.log2 n := ((sib_fin ⟨n, h⟩).2.2.2.1 h2).1
theorem sib_two_le {n : Nat} (h : n < 128) (h2 : 2 ≤ n) : 2 ≤ n ^^^ 1 := ((sib_fin ⟨n, h⟩).2.2.2.1 h2).2
theorem sib_sib {n : Nat} (h : n < 128) : n ^^^ 1 ^^^ 1 = n := (sib_fin ⟨n, h⟩).2.2.2.2
theorem bit_xor {n : Nat} (h : n < 128) : bitI .xor (n : Int) 1 = ((n ^^^ 1 : Nat) : Int) := by
  have : ∀ n : Fin 128, bitI .xor (n.1 : Int) 1 = ((n.1 ^^^ 1 : Nat) : Int) := by decide +kernel
  exact this ⟨n, h⟩
/-! paths -/
theorem pathN_mem {w k n : Nat} : n ∈ pathN w k ↔ ∃ j, j < k ∧ n = w / 2 ^ j := by
  induction k with
  | zero => simp [pathN]
  | succ k ih =>
    rw [pathN, List.mem_cons, ih]
    constructor
    · rintro (rfl | ⟨j, hj, rfl⟩)
      · exact ⟨k, by omega, rfl⟩
      · exact ⟨j, by omega, rfl⟩
    · rintro ⟨j, hj, rfl⟩
      rcases Nat.lt_or_ge j k with h | h
      · exact .inr ⟨j, h, rfl⟩
      · obtain rfl : j = k := by omega
        exact .inl rfl
/-- what a subset is, plainly -/
def subP (k : BitVec 8) (d n m : Nat) : Bool :=
  decide (1 ≤ n ∧ n < 2 ^ (d + 1)) && (if k = 1#8 then decide (m = 0) else if m = 0 then decide (n = 1) else decide (m < 2 ^ (d + 1) ∧ m ≠ n) && belowB m n && subN k d n m)
theorem leaf_log {d u : Nat} (hu : u < 2 ^ d) : Nat.log2 (2 ^ d + u) = d := by
  rw [Nat.log2_eq_iff (by have := Nat.two_pow_pos d; omega), Nat.pow_succ]; omega
theorem node_log {d n : Nat} (h1 : 1 ≤ n) (h : n < 2 ^ (d + 1)) : Nat.log2 n ≤ d := by
  have := (Nat.log2_lt (n := n) (k := d + 1) (by omega)).2 h; omega
end Go.Sx

end
section
set_option linter.unusedVariables false
set_option linter.unusedSimpArgs false
set_option maxRecDepth 100000
namespace Go.Sx
open Go
/-- whether a revoked receiver is below a node -/
def hotB (d : Nat) (R : List Nat) (v : Nat) : Bool := R.any fun u => belowB (2 ^ d + u) v
theorem hot_iff {d : Nat} {R : List Nat} {v : Nat} : hotB d R v = true ↔ ∃ u ∈ R, belowB (2 ^ d + u) v = true := by unfold hotB; rw [List.any_eq_true]
theorem dbl_fin : ∀ n : Fin 64, (2 * n.1) ^^^ 1 = 2 * n.1 + 1 ∧ (2 * n.1 + 1) ^^^ 1 = 2 * n.1 := by decide +kernel
theorem dbl0 {n : Nat} (h : n < 64) : (2 * n) ^^^ 1 = 2 * n + 1 := (dbl_fin ⟨n, h⟩).1
theorem dbl1 {n : Nat} (h : n < 64) : (2 * n + 1) ^^^ 1 = 2 * n := (dbl_fin ⟨n, h⟩).2
theorem div_succ (a b : Nat) : a / 2 ^ (b + 1) = a / 2 ^ b / 2 := by rw [Nat.pow_succ, Nat.div_div_eq_div_mul]
theorem below_kids {L v : Nat} (hL : 1 ≤ L) (hlt : Nat.log2 v < Nat.log2 L) (hv : 1 ≤ v) : belowB L v = (belowB L (2 * v) || belowB L (2 * v + 1)) := by
  rw [Bool.eq_iff_iff, Bool.or_eq_true, below_iff hL, below_iff hL, below_iff hL]
  constructor
  · rintro ⟨k, h1, h2⟩
    have hl := log2_div L k h1
    rw [← h2] at hl
    obtain ⟨j, rfl⟩ : ∃ j, k = j + 1 := ⟨k - 1, by omega⟩
    have h3 : 2 ^ j ≤ L := Nat.le_trans (Nat.pow_le_pow_right (by omega) (by omega)) h1
    rw [div_succ] at h2
    rcases (show L / 2 ^ j = 2 * v ∨ L / 2 ^ j = 2 * v + 1 by omega) with e | e
    · exact .inl ⟨j, h3, e.symm⟩
    · exact .inr ⟨j, h3, e.symm⟩
  · rintro (⟨j, h1, h2⟩ | ⟨j, h1, h2⟩)
    · exact ⟨j + 1, pow_div_le' (j := 1) (by rw [← h2]; omega), by rw [div_succ, ← h2]; omega⟩
    · exact ⟨j + 1, pow_div_le' (j := 1) (by rw [← h2]; omega), by rw [div_succ, ← h2]; omega⟩
theorem log2_dbl {v b : Nat} (hv : 1 ≤ v) (hb : b < 2) : Nat.log2 (2 * v + b) = Nat.log2 v + 1 := by
  rw [log2_half (by omega), show (2 * v + b) / 2 = v from by omega]
section
variable {d : Nat} {R : List Nat}
/-- receivers -/
def Rcv (d : Nat) (R : List Nat) : Prop := d ≤ 6 ∧ ∀ u ∈ R, u < 2 ^ d
theorem Rcv.leaf (h : Rcv d R) {u : Nat} (hu : u ∈ R) : 1 ≤ 2 ^ d + u ∧ 2 ^ d + u < 128 ∧ Nat.log2 (2 ^ d + u) = d := by
  have := pow_le64 h.1
  have := h.2 u hu
  have := Nat.two_pow_pos d
  exact ⟨by omega, by omega, leaf_log (h.2 u hu)⟩
theorem node_lt {v : Nat} (hv : 1 ≤ v) : v < 2 ^ d ↔ Nat.log2 v < d := by rw [Nat.log2_lt (by omega)]
/-- an inner node is hot just if a child is -/
theorem hot_kids (h : Rcv d R) {v : Nat} (hv : 1 ≤ v) (hl : Nat.log2 v < d) : hotB d R v = (hotB d R (2 * v) || hotB d R (2 * v + 1)) := by
  rw [Bool.eq_iff_iff, Bool.or_eq_true, hot_iff, hot_iff, hot_iff]
  constructor
  · rintro ⟨u, hu, hb⟩
    obtain ⟨h1, h2, h3⟩ := h.leaf hu
    rw [below_kids h1 (by omega) hv, Bool.or_eq_true] at hb
    rcases hb with hb | hb
    · exact .inl ⟨u, hu, hb⟩
    · exact .inr ⟨u, hu, hb⟩
  · rintro (⟨u, hu, hb⟩ | ⟨u, hu, hb⟩) <;>
    · obtain ⟨h1, h2, h3⟩ := h.leaf hu
      refine ⟨u, hu, ?_⟩
      rw [below_kids h1 (by omega) hv, hb]; simp
theorem hot_log (h : Rcv d R) {v : Nat} (hv : hotB d R v = true) : 1 ≤ v ∧ Nat.log2 v ≤ d ∧ v < 2 ^ (d + 1) := by
  obtain ⟨u, hu, hb⟩ := hot_iff.1 hv
  obtain ⟨h1, h2, h3⟩ := h.leaf hu
  have hp := below_pos h1 hb
  have hl := below_log h1 hb
  rw [h3] at hl
  exact ⟨hp, hl, (Nat.log2_lt (by omega)).1 (by omega)⟩
theorem hot_up (h : Rcv d R) {v : Nat} (hv : hotB d R v = true) (h2 : 2 ≤ v) : hotB d R (v / 2) = true := by
  obtain ⟨h1, hl, _⟩ := hot_log h hv
  have hh := log2_half h2
  rw [hot_kids h (by omega) (by omega)]
  rcases (show 2 * (v / 2) = v ∨ 2 * (v / 2) + 1 = v by omega) with e | e
  · rw [e, hv]; simp
  · rw [e, hv]; simp
theorem hot_ups (h : Rcv d R) {v : Nat} (hv : hotB d R v = true) : ∀ k, 2 ^ k ≤ v → hotB d R (v / 2 ^ k) = true
  | 0, _ => by simpa using hv
  | k + 1, hk => by
    rw [div_succ]
    have h1 : 2 ^ k ≤ v := Nat.le_trans (Nat.pow_le_pow_right (by omega) (by omega)) hk
    refine hot_up h (hot_ups h hv k h1) ?_
    have := pow_div_le (i := k) (j := 1) hk
    simpa using this
/-- exactly one child is hot -/
def brN (d : Nat) (R : List Nat) (v : Nat) : Bool := hotB d R (2 * v) != hotB d R (2 * v + 1)
def nxN (d : Nat) (R : List Nat) (v : Nat) : Nat := if hotB d R (2 * v) then 2 * v else 2 * v + 1
def footN (d : Nat) (R : List Nat) : Nat → Nat → Nat
  | 0, v => v
  | f + 1, v => if brN d R v then footN d R f (nxN d R v) else v
theorem br_inner (h : Rcv d R) {v : Nat} (hv : 1 ≤ v) (hb : brN d R v = true) : Nat.log2 v < d ∧ hotB d R v = true := by
  unfold brN at hb
  have hx : hotB d R (2 * v) = true ∨ hotB d R (2 * v + 1) = true := by
    cases h1 : hotB d R (2 * v) <;> cases h2 : hotB d R (2 * v + 1) <;> simp_all
  have hl : Nat.log2 v < d := by
    rcases hx with hx | hx
    · have := (hot_log h hx).2.1; have := log2_dbl hv (b := 0) (by omega); simp at this; omega
    · have := (hot_log h hx).2.1; have := log2_dbl hv (b := 1) (by omega); omega
  refine ⟨hl, ?_⟩
  rw [hot_kids h hv hl]
  rcases hx with hx | hx <;> simp [hx]
/-- the nodes from below v down to w are hot, and their siblings are not -/
def Chn (d : Nat) (R : List Nat) (v w : Nat) : Prop := ∃ k, 2 ^ k ≤ w ∧ v = w / 2 ^ k ∧ ∀ j, j < k → hotB d R (w / 2 ^ j) = true ∧ hotB d R ((w / 2 ^ j) ^^^ 1) = false
theorem foot_spec (h : Rcv d R) : ∀ (f v : Nat), 1 ≤ v → Nat.log2 v ≤ d → d - Nat.log2 v < f → 1 ≤ footN d R f v ∧ Nat.log2 (footN d R f v) ≤ d ∧ brN d R (footN d R f v) = false ∧ Chn d R v (footN d R f v)
  | 0, v, _, _, hf => by omega
  | f + 1, v, hv, hl, hf => by
    unfold footN
    cases hb : brN d R v with
    | false => exact ⟨by simpa using hv, by simpa using hl, by simpa using hb, ⟨0, by simpa using hv, by simp, fun j hj => by omega⟩⟩
    | true =>
      rw [if_pos rfl]
      obtain ⟨hl2, _⟩ := br_inner h hv hb
      have h64 := pow_le64 h.1
      have hv64 : v < 64 := by have := (node_lt (d := d) hv).2 hl2; omega
      have hc : (nxN d R v) / 2 = v ∧ 2 ≤ nxN d R v ∧ Nat.log2 (nxN d R v) = Nat.log2 v + 1 ∧ hotB d R (nxN d R v) = true ∧ hotB d R (nxN d R v ^^^ 1) = false := by
        unfold nxN
        unfold brN at hb
        cases h1 : hotB d R (2 * v) with
        | true =>
          rw [h1] at hb
          rw [if_pos rfl]
          refine ⟨by omega, by omega, log2_dbl hv (b := 0) (by omega), h1, ?_⟩
          rw [dbl0 hv64]; simpa using hb
        | false =>
          rw [h1] at hb
          rw [if_neg (by simp)]
          refine ⟨by omega, by omega, log2_dbl hv (b := 1) (by omega), by simpa using hb, ?_⟩
          rw [dbl1 hv64]; exact h1
      obtain ⟨c1, c2, c3, c4, c5⟩ := hc
      obtain ⟨g1, g2, g3, k, g4, g5, g6⟩ := foot_spec h f (nxN d R v) (by omega) (by omega) (by omega)
      refine ⟨g1, g2, g3, k + 1, ?_, ?_, ?_⟩
      · exact pow_div_le' (j := 1) (by rw [← g5]; omega)
      · rw [div_succ, ← g5]; exact c1.symm
      · intro j hj
        rcases Nat.lt_or_ge j k with hjk | hjk
        · exact g6 j hjk
        · obtain rfl : j = k := by omega
          rw [← g5]; exact ⟨c4, c5⟩
/-- the head of a node: from it on upwards, the first with a hot sibling, or the root -/
def hdN (d : Nat) (R : List Nat) : Nat → Nat → Nat
  | 0, x => x
  | f + 1, x => if x = 1 ∨ hotB d R (x ^^^ 1) = true then x else hdN d R f (x / 2)
def isHd (d : Nat) (R : List Nat) (v : Nat) : Bool := decide (v = 1) || hotB d R (v ^^^ 1)
theorem hd_self {f x : Nat} (h : isHd d R x = true) : hdN d R f x = x := by
  cases f with
  | zero => rfl
  | succ f =>
    unfold hdN
    unfold isHd at h
    rw [Bool.or_eq_true, decide_eq_true_eq] at h
    rw [if_pos h]
theorem hd_chain {v w : Nat} (hv : isHd d R v = true) (hv1 : 1 ≤ v) : ∀ (j k f : Nat), 2 ^ (j + k) ≤ w → v = w / 2 ^ (j + k) → (∀ i, j ≤ i → i < j + k → hotB d R ((w / 2 ^ i) ^^^ 1) = false) → k ≤ f → hdN d R f (w / 2 ^ j) = v
  | j, 0, f, h1, h2, _, _ => by rw [Nat.add_zero] at h2; rw [← h2]; exact hd_self hv
  | j, k + 1, 0, h1, h2, h3, hf => by omega
  | j, k + 1, f + 1, h1, h2, h3, hf => by
    unfold hdN
    have h4 := h3 j (by omega) (by omega)
    have h5 : w / 2 ^ j ≠ 1 := by
      have := pow_div_le (w := w) (i := j) (j := 1) (Nat.le_trans (Nat.pow_le_pow_right (by omega) (by omega)) h1)
      simp at this; omega
    rw [if_neg (by rw [h4]; simp [h5]), ← div_succ]
    exact hd_chain hv hv1 (j + 1) k f (by rw [show j + 1 + k = j + (k + 1) from by omega]; exact h1) (by rw [show j + 1 + k = j + (k + 1) from by omega]; exact h2) (fun i h6 h7 => h3 i (by omega) (by omega)) (by omega)
theorem hd_spec : ∀ (f x : Nat), 1 ≤ x → Nat.log2 x < f → isHd d R (hdN d R f x) = true ∧ ∃ i, 2 ^ i ≤ x ∧ hdN d R f x = x / 2 ^ i ∧ ∀ t, t < i → isHd d R (x / 2 ^ t) = false
  | 0, x, _, h => by omega
  | f + 1, x, hx, hf => by
    unfold hdN
    by_cases hc : x = 1 ∨ hotB d R (x ^^^ 1) = true
    · rw [if_pos hc]; exact ⟨by unfold isHd; simpa using hc, 0, by simpa using hx, by simp, fun t ht => by omega⟩
    · rw [if_neg hc]
      have hx2 : 2 ≤ x := by rw [not_or] at hc; omega
      have hh := log2_half hx2
      obtain ⟨h1, i, h2, h3, h4⟩ := hd_spec f (x / 2) (by omega) (by omega)
      refine ⟨h1, i + 1, ?_, ?_, ?_⟩
      · rw [Nat.pow_succ]; omega
      · rw [h3, Nat.div_div_eq_div_mul, Nat.pow_succ, Nat.mul_comm 2]
      · intro t ht
        cases t with
        | zero => simp only [Nat.pow_zero, Nat.div_one]; unfold isHd; simpa [not_or] using hc
        | succ t =>
          have := h4 t (by omega)
          rw [Nat.div_div_eq_div_mul, show 2 * 2 ^ t = 2 ^ (t + 1) from by rw [Nat.pow_succ, Nat.mul_comm]] at this; exact this
/-- the first special node strictly between -/
def cutN (d v w : Nat) : Nat := fstS d (pathN (w / 2) (Nat.log2 w - Nat.log2 v - 1))
/-- Minus of the cover's subset with a Node, if there is one -/
def minN (k : BitVec 8) (d : Nat) (R : List Nat) (x : Nat) : Option Nat :=
  if k = 1#8 then (if !hotB d R x && (decide (x = 1) || hotB d R (x / 2)) then some 0 else none)
  else if hotB d R x then
    (if footN d R 7 (hdN d R 7 x) = hdN d R 7 x then none
    else if x = hdN d R 7 x then some (if subN k d (hdN d R 7 x) (footN d R 7 (hdN d R 7 x)) then footN d R 7 (hdN d R 7 x) else cutN d (hdN d R 7 x) (footN d R 7 (hdN d R 7 x)))
    else if !subN k d (hdN d R 7 x) (footN d R 7 (hdN d R 7 x)) && decide (x = cutN d (hdN d R 7 x) (footN d R 7 (hdN d R 7 x))) then some (footN d R 7 (hdN d R 7 x)) else none)
  else none
def nodN (d : Nat) : List Nat := (List.range (2 ^ (d + 1) - 1)).map (· + 1)
/-- the cover -/
def covN (k : BitVec 8) (d : Nat) (R : List Nat) : List (Nat × Nat) := (nodN d).filterMap fun x => (minN k d R x).map fun m => (x, m)
theorem nod_mem {x : Nat} : x ∈ nodN d ↔ 1 ≤ x ∧ x < 2 ^ (d + 1) := by
  unfold nodN
  rw [List.mem_map]
  constructor
  · rintro ⟨a, ha, rfl⟩; have := List.mem_range.1 ha; omega
  · rintro ⟨h1, h2⟩; exact ⟨x - 1, List.mem_range.2 (by omega), by omega⟩
theorem cov_mem {k : BitVec 8} {y : Nat × Nat} : y ∈ covN k d R ↔ (1 ≤ y.1 ∧ y.1 < 2 ^ (d + 1)) ∧ minN k d R y.1 = some y.2 := by
  unfold covN
  rw [List.mem_filterMap]
  constructor
  · rintro ⟨x, hx, he⟩
    obtain ⟨m, hm, rfl⟩ := Option.map_eq_some_iff.1 he
    exact ⟨nod_mem.1 hx, hm⟩
  · rintro ⟨h1, h2⟩; exact ⟨y.1, nod_mem.2 h1, by rw [h2]; rfl⟩
/-- strictly ascending -/
def Asc (l : List (Nat × Nat)) : Prop := l.Pairwise fun a b => a.1 < b.1
theorem cov_asc {k : BitVec 8} : Asc (covN k d R) := by
  unfold Asc covN
  rw [List.pairwise_filterMap]
  have : (nodN d).Pairwise fun a b => a < b := by
    unfold nodN
    rw [List.pairwise_map]
    exact List.pairwise_lt_range.imp (by omega)
  refine this.imp ?_
  intro a b hab y hy z hz
  obtain ⟨_, _, rfl⟩ := Option.map_eq_some_iff.1 hy
  obtain ⟨_, _, rfl⟩ := Option.map_eq_some_iff.1 hz
  exact hab
theorem asc_ext : ∀ {l m : List (Nat × Nat)}, Asc l → Asc m → (∀ y, y ∈ l ↔ y ∈ m) → l = m
  | [], [], _, _, _ => rfl
  | [], b :: m, _, _, h => absurd ((h b).2 (by simp)) (by simp)
  | a :: l, [], _, _, h => absurd ((h a).1 (by simp)) (by simp)
  | a :: l, b :: m, hl, hm, h => by
    have ha := List.pairwise_cons.1 hl
    have hb := List.pairwise_cons.1 hm
    have hab : a = b := by
      rcases List.mem_cons.1 ((h a).1 (by simp)) with e | e
      · exact e
      · rcases List.mem_cons.1 ((h b).2 (by simp)) with e2 | e2
        · exact e2.symm
        · have := ha.1 b e2; have := hb.1 a e; omega
    subst hab
    congr 1
    refine asc_ext ha.2 hb.2 fun y => ?_
    constructor
    · intro hy
      rcases List.mem_cons.1 ((h y).1 (by simp [hy])) with e | e
      · subst e; have := ha.1 y hy; omega
      · exact e
    · intro hy
      rcases List.mem_cons.1 ((h y).2 (by simp [hy])) with e | e
      · subst e; have := hb.1 y hy; omega
      · exact e
/-- what comes of a hot node: the program's way -/
def outP (k : BitVec 8) (d : Nat) (R : List Nat) (v : Nat) : List (Nat × Nat) :=
  if k = 1#8 then (if v ≠ 1 ∧ hotB d R (v ^^^ 1) = false then [(v ^^^ 1, 0)] else [])
  else if isHd d R v then (if footN d R 7 v = v then [] else if subN k d v (footN d R 7 v) then [(v, footN d R 7 v)] else [(v, cutN d v (footN d R 7 v)), (cutN d v (footN d R 7 v), footN d R 7 v)])
  else []
/-- from which hot node a subset of the cover comes -/
def ownN (k : BitVec 8) (d : Nat) (R : List Nat) (y : Nat × Nat) : Nat := if k = 1#8 then y.1 ^^^ 1 else hdN d R 7 y.1
theorem cut_chain {k : BitVec 8} {v w : Nat} (hK : 2 ^ k.toNat ≤ w ∨ True) {K : Nat} (h1 : 2 ^ K ≤ w) (h2 : v = w / 2 ^ K) (hv : 1 ≤ v) (hs : subN k d v w = false) : ∃ j, 1 ≤ j ∧ j < K ∧ cutN d v w = w / 2 ^ j := by
  have hl := log2_div w K h1
  rw [← h2] at hl
  unfold subN at hs
  simp only [Bool.or_eq_false_iff, decide_eq_false_iff_not] at hs
  have h0 : cutN d v w ≠ 0 := hs.2
  unfold cutN at h0 ⊢
  unfold fstS at h0 ⊢
  cases hf : (pathN (w / 2) (Nat.log2 w - Nat.log2 v - 1)).find? (spcl d) with
  | none => rw [hf] at h0; simp at h0
  | some c =>
    obtain ⟨j, hj, rfl⟩ := pathN_mem.1 (List.mem_of_find?_eq_some hf)
    refine ⟨j + 1, by omega, by omega, ?_⟩
    rw [Option.getD_some, Nat.div_div_eq_div_mul, show 2 * 2 ^ j = 2 ^ (j + 1) from by rw [Nat.pow_succ, Nat.mul_comm]]
theorem cov_own (h : Rcv d R) {k : BitVec 8} (hne : R ≠ []) {v : Nat} (hv : hotB d R v = true) (y : Nat × Nat) : (y ∈ covN k d R ∧ ownN k d R y = v) ↔ y ∈ outP k d R v := by
  have h64 := pow_le64 h.1
  have hpow : 2 ^ (d + 1) = 2 * 2 ^ d := by rw [Nat.pow_succ, Nat.mul_comm]
  obtain ⟨v1, vl, v2⟩ := hot_log h hv
  rw [cov_mem]
  by_cases hk : k = 1#8
  · unfold minN ownN outP
    rw [if_pos hk, if_pos hk, if_pos hk]
    have hroot : hotB d R 1 = true := by
      obtain ⟨u, hu⟩ := List.exists_mem_of_ne_nil R hne
      obtain ⟨l1, l2, l3⟩ := h.leaf hu
      exact hot_iff.2 ⟨u, hu, (below_iff l1).2 ⟨d, by omega, by rw [Nat.add_div_left _ (Nat.two_pow_pos d), Nat.div_eq_of_lt (h.2 u hu)]⟩⟩
    constructor
    · rintro ⟨⟨⟨y1, y2⟩, hm⟩, rfl⟩
      split at hm
      · rename_i hc
        simp only [Bool.and_eq_true, Bool.not_eq_true', Bool.or_eq_true, decide_eq_true_eq] at hc
        have hy0 : y.2 = 0 := (Option.some.inj hm).symm
        have hyn : y.1 ≠ 1 := fun e => by rw [e] at hc; rw [hroot] at hc; simp at hc
        have hss := sib_sib (n := y.1) (by omega)
        rw [hss]
        have hs1 : y.1 ^^^ 1 ≠ 1 := by have := sib_two_le (n := y.1) (by omega) (by omega); omega
        rw [if_pos ⟨hs1, hc.1⟩]
        simp only [List.mem_singleton]
        cases y; simp only at *; rw [hy0]
      · cases hm
    · intro hy
      split at hy
      · rename_i hc
        simp only [List.mem_singleton] at hy
        subst hy
        simp only
        have hv2 : 2 ≤ v := by omega
        have e1 := sib_lt (n := v) (by omega)
        have e2 := sib_two_le (n := v) (by omega) hv2
        have e3 := sib_log (n := v) (by omega) hv2
        refine ⟨⟨⟨by omega, ?_⟩, ?_⟩, sib_sib (by omega)⟩
        · exact (Nat.log2_lt (by omega)).1 (by omega)
        · rw [if_pos]
          simp only [Bool.and_eq_true, Bool.not_eq_true', Bool.or_eq_true, decide_eq_true_eq]
          refine ⟨hc.2, .inr ?_⟩
          rw [sib_half (by omega)]; exact hot_up h hv hv2
      · cases hy
  · unfold minN ownN outP
    rw [if_neg hk, if_neg hk, if_neg hk]
    constructor
    · rintro ⟨⟨⟨y1, y2⟩, hm⟩, rfl⟩
      have hl7 : Nat.log2 y.1 < 7 := by have := (Nat.log2_lt (n := y.1) (k := d + 1) (by omega)).2 y2; have := h.1; omega
      rw [if_pos (hd_spec 7 y.1 y1 hl7).1]
      generalize hdN d R 7 y.1 = v at *
      generalize footN d R 7 v = w at *
      split at hm
      · split at hm
        · cases hm
        · rename_i h1 h2
          rw [if_neg h2]
          split at hm
          · rename_i h3
            have hm' := Option.some.inj hm
            split
            · rename_i h4
              rw [if_pos h4] at hm'
              simp only [List.mem_singleton]; cases y; simp only at *; rw [h3, hm']
            · rename_i h4
              rw [if_neg h4] at hm'
              simp only [List.mem_cons, List.not_mem_nil, or_false]; left; cases y; simp only at *; rw [h3, hm']
          · split at hm
            · rename_i h3 h4
              simp only [Bool.and_eq_true, Bool.not_eq_true', decide_eq_true_eq] at h4
              rw [if_neg (by rw [h4.1]; simp)]
              simp only [List.mem_cons, List.not_mem_nil, or_false]; right
              have hm' := Option.some.inj hm
              cases y; simp only at *; rw [← h4.2, hm']
            · cases hm
      · cases hm
    · intro hy
      split at hy
      · rename_i hh
        obtain ⟨w1, w2, w3, K, w4, w5, w6⟩ := foot_spec h 7 v v1 vl (by have := h.1; omega)
        generalize hw : footN d R 7 v = w at *
        have hs : hdN d R 7 v = v := hd_self hh
        split at hy
        · cases hy
        · rename_i hne2
          split at hy
          · rename_i h4
            simp only [List.mem_singleton] at hy
            subst hy
            simp only [hs, hw, hv, if_true, if_neg hne2, h4]
            exact ⟨⟨⟨v1, v2⟩, trivial⟩, trivial⟩
          · rename_i h4
            have h4' : subN k d v w = false := by simpa using h4
            simp only [List.mem_cons, List.not_mem_nil, or_false] at hy
            rcases hy with rfl | rfl
            · simp only [hs, hw, hv, if_true, if_neg hne2, h4', Bool.false_eq_true, if_false]
              exact ⟨⟨⟨v1, v2⟩, trivial⟩, trivial⟩
            · obtain ⟨j, j1, j2, j3⟩ := cut_chain (k := k) (d := d) (.inr trivial) w4 w5 v1 h4'
              have hlw := log2_div w K w4
              have hKd : K ≤ 6 := by have := h.1; omega
              have hc : hdN d R 7 (cutN d v w) = v := by
                rw [j3]
                exact hd_chain hh v1 j (K - j) 7 (by rw [show j + (K - j) = K from by omega]; exact w4) (by rw [show j + (K - j) = K from by omega]; exact w5) (fun i _ hi => (w6 i (by omega)).2) (by omega)
              have hj2 : 2 ^ j ≤ w := Nat.le_trans (Nat.pow_le_pow_right (by omega) (by omega)) w4
              have hch : hotB d R (cutN d v w) = true := by rw [j3]; exact (w6 j j2).1
              have hcv : cutN d v w ≠ v := by
                rw [j3, w5]; exact divk_ne w4 j2
              obtain ⟨c1, _, c3⟩ := hot_log h hch
              simp only [hc, hw, hch, if_true, if_neg hne2, if_neg hcv, h4']
              simp only [Bool.not_false, Bool.true_and, decide_true, if_true]
              exact ⟨⟨⟨c1, c3⟩, trivial⟩, trivial⟩
      · cases hy
theorem own_hot (h : Rcv d R) {k : BitVec 8} (hne : R ≠ []) {y : Nat × Nat} (hy : y ∈ covN k d R) : hotB d R (ownN k d R y) = true := by
  have h64 := pow_le64 h.1
  have hpow : 2 ^ (d + 1) = 2 * 2 ^ d := by rw [Nat.pow_succ, Nat.mul_comm]
  obtain ⟨⟨y1, y2⟩, hm⟩ := cov_mem.1 hy
  unfold minN at hm
  unfold ownN
  by_cases hk : k = 1#8
  · rw [if_pos hk] at hm ⊢
    split at hm
    · rename_i hc
      simp only [Bool.and_eq_true, Bool.not_eq_true', Bool.or_eq_true, decide_eq_true_eq] at hc
      have hroot : hotB d R 1 = true := by
        obtain ⟨u, hu⟩ := List.exists_mem_of_ne_nil R hne
        obtain ⟨l1, l2, l3⟩ := h.leaf hu
        exact hot_iff.2 ⟨u, hu, (below_iff l1).2 ⟨d, by omega, by rw [Nat.add_div_left _ (Nat.two_pow_pos d), Nat.div_eq_of_lt (h.2 u hu)]⟩⟩
      have hyn : y.1 ≠ 1 := fun e => by rw [e] at hc; rw [hroot] at hc; simp at hc
      have hp : hotB d R (y.1 / 2) = true := by
        rcases hc.2 with e | e
        · exact absurd e hyn
        · exact e
      have hlg := log2_half (n := y.1) (by omega)
      have hyl : Nat.log2 y.1 ≤ d := node_log y1 y2
      rw [hot_kids h (by omega) (by omega), Bool.or_eq_true] at hp
      have hz : y.1 / 2 < 64 := by omega
      rcases (show y.1 = 2 * (y.1 / 2) ∨ y.1 = 2 * (y.1 / 2) + 1 by omega) with e | e
      · have h2 : hotB d R (2 * (y.1 / 2)) = false := by rw [← e]; exact hc.1
        have : y.1 ^^^ 1 = 2 * (y.1 / 2) + 1 := by rw [← dbl0 hz, ← e]
        rw [this]; rw [h2] at hp; simpa using hp
      · have h2 : hotB d R (2 * (y.1 / 2) + 1) = false := by rw [← e]; exact hc.1
        have : y.1 ^^^ 1 = 2 * (y.1 / 2) := by rw [← dbl1 hz, ← e]
        rw [this]; rw [h2] at hp; simpa using hp
    · cases hm
  · rw [if_neg hk] at hm ⊢
    split at hm
    · rename_i hx
      have hl7 : Nat.log2 y.1 < 7 := by have := node_log y1 y2; have := h.1; omega
      obtain ⟨_, i, i1, i2, _⟩ := hd_spec (d := d) (R := R) 7 y.1 y1 hl7
      rw [i2]; exact hot_ups h hx i i1
    · cases hm
end
end Go.Sx

end
section
set_option linter.unusedVariables false
set_option linter.unusedSimpArgs false
namespace Go.Sx
open Go
def LblI (l : TLabel) : Prop := I64 l.Node ∧ I64 l.Minus
theorem below_split0 {m q : Nat} (hm : 1 ≤ m) (h : belowB m q = true) : ∃ k, q = m / 2 ^ k ∧ 2 ^ k ≤ m := by
  unfold belowB at h
  obtain ⟨h1, h2⟩ := of_decide_eq_true h
  exact ⟨_, h2.symm, Nat.le_trans (Nat.pow_le_pow_right (by omega) (by omega)) (Nat.log2_self_le (by omega))⟩
/-- a label that leads to a subset below its Minus -/
def LdOk (l : TLabel) (x : TSubset) : Prop := ∃ q m k : Nat, l.Minus = (q : Int) ∧ x.Minus = (m : Int) ∧ q = m / 2 ^ k ∧ 2 ^ k ≤ m ∧ m < 128 ∧ k ≤ 6
theorem leads_eq (s : TScheme) (x : TSubset) (h : SubOk s x) (l : TLabel) (hl : LblI l) : ∃ b, cover_tree_leads (treeI s) l x = some b ∧ ref03_leads s l.Node l.Minus x = some b ∧ (b = true → s.Kind = 1#8 ∨ x.Minus = 0 ∨ LdOk l x) := by
  unfold cover_tree_leads ref03_leads
  rw [show (treeI s).kind = s.Kind from rfl]
  have hno : false = true → s.Kind = 1#8 ∨ x.Minus = 0 ∨ LdOk l x := fun h => by cases h
  by_cases hk : s.Kind = 1#8
  · rw [if_pos hk, if_pos hk]
    unfold cover_tree_leads_J1 ref03_leads_J1
    rw [cond_true, cond_true]
    by_cases hn : l.Node = x.Node
    · rw [if_neg (by simp [hn]), if_pos hn]; exact ⟨_, rfl, rfl, fun _ => .inl hk⟩
    · rw [if_pos hn, if_neg hn]; exact ⟨_, rfl, rfl, hno⟩
  · rw [if_neg hk, if_neg hk]
    by_cases hn : l.Node = x.Node
    · rw [if_neg (by simp [hn])]
      unfold cover_tree_leads_J1 ref03_leads_J1
      by_cases hm : x.Minus = 0
      · rw [decide_eq_true hm, cond_true, cond_true, if_pos hn]; exact ⟨_, rfl, rfl, fun _ => .inr (.inl hm)⟩
      · rw [decide_eq_false hm, cond_false, cond_false, if_pos hn]
        rcases h.2 with h3 | h3 | ⟨m, n, k, hm1, hn1, hk1, hk2, hm2, hk3, hn2⟩
        · exact absurd h3 hk
        · exact absurd h3 hm
        · have hmp : 1 ≤ m := by have := Nat.two_pow_pos (k + 1); omega
          have hnm : n ≤ m := by rw [hk1]; exact Nat.div_le_self _ _
          obtain ⟨b1, b2⟩ := hl
          unfold I64 at b1 b2
          by_cases h1 : (1 : Int) ≤ l.Minus
          · obtain ⟨q, hq⟩ : ∃ q : Nat, l.Minus = (q : Int) := ⟨l.Minus.toNat, by omega⟩
            have e1 : cover_node_below l.Minus l.Node = some (belowB q n) := by rw [hn, hq, hn1]; exact below_eq (by omega) hn2 (by omega) (by omega)
            have e2 : ref03_Below l.Minus l.Node = some (belowB q n) := by rw [hn, hq, hn1]; exact rbelow_eq (by omega) hn2 (by omega)
            have e3 : cover_node_below x.Minus l.Minus = some (belowB m q) := by rw [hq, hm1]; exact below_eq hmp (by omega) (by omega) (by omega)
            have e4 : ref03_Below x.Minus l.Minus = some (belowB m q) := by rw [hq, hm1]; exact rbelow_eq hmp (by omega) (by omega)
            rw [if_pos h1, e1, e2, bind_some, bind_some]
            cases belowB q n with
            | false => exact ⟨_, rfl, rfl, hno⟩
            | true =>
              rw [cond_true, cond_true, e3, e4, bind_some]
              refine ⟨_, rfl, rfl, fun hb => ?_⟩
              obtain ⟨k', h5, h6⟩ := below_split0 hmp hb
              exact .inr (.inr ⟨q, m, k', hq, hm1, h5, h6, hm2, le_log h6 hm2⟩)
          · rw [if_neg h1]
            have e1 : cover_node_below l.Minus l.Node = some false := by
              unfold cover_node_below cover_node_below_J1
              rw [if_pos (by omega)]; rfl
            rw [e1, bind_some]
            exact ⟨_, rfl, rfl, hno⟩
    · rw [if_pos hn]
      unfold ref03_leads_J1
      cases decide (x.Minus = 0) with
      | true => rw [cond_true, if_neg hn]; exact ⟨_, rfl, rfl, hno⟩
      | false => rw [cond_false, if_neg hn]; exact ⟨_, rfl, rfl, hno⟩
theorem find_loop (s : TScheme) (c : TSecret) (hc : c.Labels.length < 4611686018427387904) (hok : ∀ l ∈ c.Labels, LblI l) (x : TSubset) (h : SubOk s x) : ∀ (m j f f' : Nat), c.Labels.length - j = m → j ≤ c.Labels.length → m < f → m < f' →
    ∃ r, fixN (cover_tree_find_L1 (treeI s) c x) f (j : Int) = some r ∧ fixN (ref03_Leads_L1 s c x) f' (j : Int) = some r
  | m, j, 0, _, _, _, h, _ => by omega
  | m, j, _ + 1, 0, _, _, _, h => by omega
  | 0, j, f + 1, f' + 1, hm, hj, _, _ => by
    rw [fix_step, fix_step]; simp only [cover_tree_find_L1, ref03_Leads_L1]
    rw [if_neg (by omega), if_neg (by omega)]
    exact ⟨_, rfl, rfl⟩
  | m + 1, j, f + 1, f' + 1, hm, hj, hf, hf' => by
    rw [fix_step, fix_step]; simp only [cover_tree_find_L1, ref03_Leads_L1]
    have hjl : j < c.Labels.length := by omega
    obtain ⟨b, e1, e2, hb⟩ := leads_eq s x h c.Labels[j] (hok _ (List.getElem_mem hjl))
    rw [if_pos (by omega), if_pos (by omega), getI_some hjl, bind_some, bind_some, e1, e2, bind_some, bind_some]
    cases b with
    | false =>
      simp only [Bool.not_false, cond_true]
      rw [w64_id (by omega) (by omega)]
      exact find_loop s c hc hok x h m (j + 1) f f' (by omega) (by omega) (by omega) (by omega)
    | true =>
      simp only [Bool.not_true, cond_false]
      rw [show (treeI s).kind = s.Kind from rfl]
      unfold cover_tree_find_J2 ref03_Leads_J2
      by_cases hk : s.Kind = 1#8
      · rw [if_pos hk, if_pos hk]; exact ⟨_, rfl, rfl⟩
      · rw [if_neg hk, if_neg hk]
        by_cases hm0 : x.Minus = 0
        · rw [decide_eq_true hm0]; exact ⟨_, rfl, rfl⟩
        · rw [decide_eq_false hm0, cond_false, cond_false]
          rcases hb rfl with h3 | h3 | ⟨q, m', k, hq, hm1, hk1, hk2, hm2, hk3⟩
          · exact absurd h3 hk
          · exact absurd h3 hm0
          · have e3 : cover_descend c.Labels[j].Key c.Labels[j].Minus x.Minus = some ((pathN m' k).foldl stp c.Labels[j].Key) := by rw [hq, hm1, hk1]; exact descend_eq _ (by omega) hk2 (by omega)
            have e4 : ref03_down c.Labels[j].Key c.Labels[j].Minus x.Minus = some ((pathN m' k).foldl stp c.Labels[j].Key) := by rw [hq, hm1, hk1]; exact down_eq _ (by omega) hk2 (by omega)
            rw [e3, e4, bind_some, bind_some]
            exact ⟨_, rfl, rfl⟩
theorem find_eq (s : TScheme) (c : TSecret) (hc : c.Labels.length < 4611686018427387904) (hok : ∀ l ∈ c.Labels, LblI l) (x : TSubset) (h : SubOk s x) : ∃ r, cover_tree_find (treeI s) c x = some r ∧ ref03_Leads s c x = some r :=
  find_loop s c hc hok x h _ 0 FUEL FUEL rfl (by omega) (fuel_lt (by omega)) (fuel_lt (by omega))
/-! subsets, plainly -/
theorem isSub_eq {s : TScheme} {d : Nat} (hv : vldB s = true) (hd : s.Depth = (d : Int)) (h6 : d ≤ 6) (n m : Nat) : ref03_IsSubset s ⟨(n : Int), (m : Int)⟩ = some (subP s.Kind d n m) := by
  have h64 := pow_le64 h6
  have hpow : 2 ^ (d + 1) = 2 * 2 ^ d := by rw [Nat.pow_succ, Nat.mul_comm]
  have hh : ∀ a : Nat, hasN d (a : Int) = decide (1 ≤ a ∧ a < 2 ^ (d + 1)) := fun a => by
    unfold hasN; apply decide_eq_decide.2; rw [hpow]; omega
  unfold ref03_IsSubset subP
  rw [hd, node_eq h6, bind_some, hh]
  by_cases hn : 1 ≤ n ∧ n < 2 ^ (d + 1)
  · rw [decide_eq_true hn]
    simp only [Bool.not_true, cond_false, Bool.true_and]
    by_cases hk : s.Kind = 1#8
    · rw [if_pos hk, if_pos hk]; congr 1; apply decide_eq_decide.2; omega
    · rw [if_neg hk, if_neg hk]
      by_cases hm : m = 0
      · rw [if_pos (by omega), if_pos hm]; congr 1; apply decide_eq_decide.2; omega
      · rw [if_neg (by omega), if_neg hm, node_eq h6, bind_some, hh]
        by_cases hm2 : m < 2 ^ (d + 1)
        · rw [decide_eq_true (by omega)]
          simp only [Bool.not_true, cond_false]
          by_cases he : m = n
          · rw [if_pos (by omega), decide_eq_false (by omega)]; rfl
          · rw [if_neg (by omega), rbelow_eq (by omega) (by omega) (by omega), bind_some, decide_eq_true (by omega), Bool.true_and]
            unfold ref03_IsSubset_J1 subN
            cases hb : belowB m n with
            | false => rfl
            | true =>
              simp only [Bool.not_true, cond_false, Bool.true_and]
              by_cases hk2 : s.Kind = 2#8
              · rw [if_pos hk2, decide_eq_true hk2]; rfl
              · rw [if_neg hk2, decide_eq_false hk2, Bool.false_or, hd, rspecial_eq h6 (by omega), bind_some]
                cases spcl d n with
                | true => rfl
                | false =>
                  rw [cond_false, Bool.false_or]
                  obtain ⟨k, hk0, hk1, hk3⟩ := below_split (by omega) hn.1 hb he
                  have hkl := le_log hk3 (by omega)
                  have := between_eq (d := d) (m := m) (k := k) h6 (by omega) hk3 (by omega)
                  rw [← hk1] at this
                  rw [this, bind_some, show Nat.log2 m - Nat.log2 n - 1 = k from by omega]
                  congr 1; apply decide_eq_decide.2; omega
        · rw [decide_eq_false (p := 1 ≤ m ∧ _) (by omega), decide_eq_false (p := m < _ ∧ _) (by omega)]; rfl
  · rw [decide_eq_false hn]; rfl
end Go.Sx

end
section
set_option linter.unusedVariables false
set_option linter.unusedSimpArgs false
namespace Go.Sx
open Go
section
variable {s : TScheme} {d u n m : Nat}
end
/-! lists of receivers -/
/-- whether numbers are receivers, in ascending order -/
def lstB (d : Nat) (l : List Int) : Bool := (List.range l.length).all fun j => decide (0 ≤ l.getD j 0 ∧ l.getD j 0 < ((2 ^ d : Nat) : Int)) && (decide (j = 0) || decide (l.getD (j - 1) 0 < l.getD j 0))
theorem getD_some {l : List Int} {j : Nat} (h : j < l.length) : l.getD j 0 = l[j] := by simp [List.getD, h]
theorem all_itL {σ : Type} (p : Nat → Bool) : ∀ (l : List Nat) (F : Nat → (σ → Option Bool) → σ → Option Bool) (s : σ), (∀ a ∈ l, ∀ nx s, F a nx s = bif p a then nx s else some false) → itL F (fun _ => some true) l s = some (l.all p)
  | [], F, s, _ => rfl
  | a :: l, F, s, h => by
    rw [itL_cons, h a (by simp), List.all_cons]
    cases p a with
    | false => rfl
    | true => rw [cond_true, Bool.true_and]; exact all_itL p l F s (fun b hb => h b (by simp [hb]))
theorem list_eq {kd : BitVec 8} {d : Nat} {st : Int} (h6 : d ≤ 6) (l : List Int) (hl : l.length < 4611686018427387904) : cover_tree_list ⟨kd, (d : Int), st⟩ l = some (lstB d l) := by
  unfold cover_tree_list lstB
  have := fix_range l.length (cover_tree_list_L1 ⟨kd, (d : Int), st⟩ l) (fun j (_ : Unit) => (j : Int)) (fun j nx s => bif decide (0 ≤ l.getD j 0 ∧ l.getD j 0 < ((2 ^ d : Nat) : Int)) && (decide (j = 0) || decide (l.getD (j - 1) 0 < l.getD j 0)) then nx s else some false) (fun _ => some true)
    (fun rec j hj _ => by
      simp only [cover_tree_list_L1, cover_tree_list_J2]
      rw [if_pos (by omega), getI_some hj, bind_some, receiver_eq h6, bind_some, getD_some hj, w64_nat (by omega)]
      by_cases h : 0 ≤ l[j] ∧ l[j] < ((2 ^ d : Nat) : Int)
      · rw [decide_eq_true h]
        simp only [Bool.not_true, cond_false, Bool.true_and]
        by_cases h0 : j = 0
        · rw [if_neg (by omega), decide_eq_true h0]; rfl
        · have hj1 : j - 1 < l.length := by omega
          rw [if_pos (by omega), w64_id (by omega) (by omega), show (j : Int) - 1 = ((j - 1 : Nat) : Int) from by omega, getI_some hj1, bind_some, decide_eq_false h0, Bool.false_or, getD_some hj1]
          by_cases h1 : l[j] ≤ l[j - 1]
          · rw [decide_eq_true h1, decide_eq_false (by omega)]; rfl
          · rw [decide_eq_false h1, decide_eq_true (by omega)]; rfl
      · rw [decide_eq_false h]; rfl)
    (fun rec _ => by simp only [cover_tree_list_L1]; rw [if_neg (by omega)]) (f := FUEL) (fuel_lt (by omega)) ()
  rw [show ((0 : Nat) : Int) = 0 from rfl] at this
  rw [this]
  exact all_itL _ _ _ _ (fun a _ nx s => rfl)
theorem rlist_eq {d : Nat} (h6 : d ≤ 6) (l : List Int) (hl : l.length < 4611686018427387904) : ref03_IsList (d : Int) l = some (lstB d l) := by
  unfold ref03_IsList lstB
  have := fix_range l.length (ref03_IsList_L1 (d : Int) l) (fun j (_ : Unit) => (j : Int)) (fun j nx s => bif decide (0 ≤ l.getD j 0 ∧ l.getD j 0 < ((2 ^ d : Nat) : Int)) && (decide (j = 0) || decide (l.getD (j - 1) 0 < l.getD j 0)) then nx s else some false) (fun _ => some true)
    (fun rec j hj _ => by
      simp only [ref03_IsList_L1, ref03_IsList_J2]
      rw [if_pos (by omega), getI_some hj, bind_some, bind_some, recv_eq h6, bind_some, getD_some hj, w64_nat (by omega)]
      by_cases h : 0 ≤ l[j]
      · rw [if_neg (by omega)]
        by_cases h2 : l[j] < ((2 ^ d : Nat) : Int)
        · rw [if_neg (by omega), decide_eq_true ⟨h, h2⟩]
          simp only [Bool.true_and]
          by_cases h0 : j = 0
          · rw [if_neg (by omega), decide_eq_true h0]; rfl
          · have hj1 : j - 1 < l.length := by omega
            rw [if_pos (by omega), bind_some, w64_id (by omega) (by omega), show (j : Int) - 1 = ((j - 1 : Nat) : Int) from by omega, getI_some hj1, bind_some, decide_eq_false h0, Bool.false_or, getD_some hj1]
            by_cases h1 : l[j] ≤ l[j - 1]
            · rw [decide_eq_true h1, decide_eq_false (by omega)]; rfl
            · rw [decide_eq_false h1, decide_eq_true (by omega)]; rfl
        · rw [if_pos (by omega), decide_eq_false (by omega)]; rfl
      · rw [if_pos (by omega), decide_eq_false (by omega)]; rfl)
    (fun rec _ => by simp only [ref03_IsList_L1]; rw [if_neg (by omega)]) (f := FUEL) (fuel_lt (by omega)) ()
  rw [show ((0 : Nat) : Int) = 0 from rfl] at this
  rw [this]
  exact all_itL _ _ _ _ (fun a _ nx s => rfl)
theorem lst_mem {d : Nat} {l : List Int} (h : lstB d l = true) {a : Int} (ha : a ∈ l) : ∃ u : Nat, a = (u : Int) ∧ u < 2 ^ d := by
  obtain ⟨j, hj, rfl⟩ := List.mem_iff_getElem.1 ha
  have := List.all_eq_true.1 h j (by simpa using hj)
  rw [Bool.and_eq_true, decide_eq_true_eq, getD_some hj] at this
  exact ⟨l[j].toNat, by omega, by omega⟩
end Go.Sx

end
section
set_option linter.unusedVariables false
set_option linter.unusedSimpArgs false
set_option maxRecDepth 100000
namespace Go.Sx
open Go
def mkS (y : Nat × Nat) : TSubset := ⟨(y.1 : Int), (y.2 : Int)⟩
/-! the hot nodes -/
def upF : Nat → Nat → List Int → List Int
  | 0, _, ks => ks
  | f + 1, n, ks => if n = 0 then ks else upF f (n / 2) (insS ks (n : Int))
theorem up_loop (a5 : Int) (rec1 : Int × List Int → Option (List TSubset × Int)) : ∀ (f fuel n : Nat) (ks : List Int), n < 2 ^ f → f < fuel → fixN (cover_Cover_L2 a5 rec1) fuel ((n : Int), ks) = rec1 (w64 (a5 + 1), upF f n ks)
  | f, 0, n, ks, _, h => by omega
  | 0, fuel + 1, n, ks, hn, _ => by
    rw [fix_step]; simp only [cover_Cover_L2]
    rw [if_neg (by simp at hn; omega)]; rfl
  | f + 1, fuel + 1, n, ks, hn, hf => by
    rw [fix_step]; simp only [cover_Cover_L2]
    unfold upF
    by_cases h0 : n = 0
    · rw [if_neg (by omega), if_pos h0]
    · rw [if_pos (by omega), if_neg h0, show shG (un 1#64) = some 1 from by decide, bind_some, shr_nat _ _ (by omega), Nat.pow_one]
      exact up_loop a5 rec1 f fuel (n / 2) _ (by rw [Nat.pow_succ] at hn; omega) (by omega)
theorem insS_mem {ks : List Int} {k z : Int} : z ∈ insS ks k ↔ z ∈ ks ∨ z = k := by
  unfold insS; split
  · rename_i h; exact ⟨.inl, fun h' => h'.elim id (fun e => e ▸ h)⟩
  · simp
theorem insS_len {ks : List Int} {k : Int} : (insS ks k).length ≤ ks.length + 1 := by unfold insS; split <;> simp
theorem up_mem : ∀ (f n : Nat) (ks : List Int) (z : Int), n < 2 ^ f → (z ∈ upF f n ks ↔ z ∈ ks ∨ ∃ j, 2 ^ j ≤ n ∧ z = ((n / 2 ^ j : Nat) : Int))
  | 0, n, ks, z, hn => by
    unfold upF
    constructor
    · exact .inl
    · rintro (h | ⟨j, hj, _⟩)
      · exact h
      · have := Nat.two_pow_pos j; simp at hn; omega
  | f + 1, n, ks, z, hn => by
    unfold upF
    by_cases h0 : n = 0
    · rw [if_pos h0]
      constructor
      · exact .inl
      · rintro (h | ⟨j, hj, _⟩)
        · exact h
        · have := Nat.two_pow_pos j; omega
    · rw [if_neg h0, up_mem f (n / 2) _ z (by rw [Nat.pow_succ] at hn; omega), insS_mem]
      have hd2 : ∀ j, n / 2 / 2 ^ j = n / 2 ^ (j + 1) := fun j => by rw [Nat.div_div_eq_div_mul, Nat.pow_succ, Nat.mul_comm 2]
      constructor
      · rintro ((h | h) | ⟨j, h1, h2⟩)
        · exact .inl h
        · exact .inr ⟨0, by simp; omega, by simpa using h⟩
        · exact .inr ⟨j + 1, by rw [Nat.pow_succ]; omega, by rw [h2, hd2]⟩
      · rintro (h | ⟨j, h1, h2⟩)
        · exact .inl (.inl h)
        · cases j with
          | zero => exact .inl (.inr (by simpa using h2))
          | succ j => exact .inr ⟨j, by rw [Nat.pow_succ] at h1; omega, by rw [h2, hd2]⟩
theorem up_len : ∀ (f n : Nat) (ks : List Int), (upF f n ks).length ≤ ks.length + f
  | 0, n, ks => by simp [upF]
  | f + 1, n, ks => by
    unfold upF; split
    · omega
    · have := up_len f (n / 2) (insS ks (n : Int)); have := insS_len (ks := ks) (k := (n : Int)); omega
/-- all hot nodes -/
def hotL (d : Nat) (l : List Int) : List Int := l.foldl (fun ks u => upF 8 (2 ^ d + u.toNat) ks) []
theorem hotL_mem {d : Nat} (h6 : d ≤ 6) : ∀ (l : List Int) (ks : List Int) (z : Int), (∀ u ∈ l, u.toNat < 2 ^ d) → (z ∈ l.foldl (fun ks u => upF 8 (2 ^ d + u.toNat) ks) ks ↔ z ∈ ks ∨ ∃ u ∈ l, ∃ j, 2 ^ j ≤ 2 ^ d + u.toNat ∧ z = (((2 ^ d + u.toNat) / 2 ^ j : Nat) : Int))
  | [], ks, z, _ => by simp
  | a :: l, ks, z, h => by
    have h64 := pow_le64 h6
    have ha := h a (by simp)
    rw [List.foldl_cons, hotL_mem h6 l _ z (fun u hu => h u (by simp [hu])), up_mem 8 _ _ _ (by omega)]
    constructor
    · rintro ((h1 | h1) | ⟨u, hu, h1⟩)
      · exact .inl h1
      · exact .inr ⟨a, by simp, h1⟩
      · exact .inr ⟨u, by simp [hu], h1⟩
    · rintro (h1 | ⟨u, hu, h1⟩)
      · exact .inl (.inl h1)
      · rcases List.mem_cons.1 hu with rfl | hu
        · exact .inl (.inr h1)
        · exact .inr ⟨u, hu, h1⟩
theorem hotL_len {d : Nat} : ∀ (l : List Int) (ks : List Int), (l.foldl (fun ks u => upF 8 (2 ^ d + u.toNat) ks) ks).length ≤ ks.length + 8 * l.length
  | [], ks => by simp
  | a :: l, ks => by
    rw [List.foldl_cons, List.length_cons]
    have := hotL_len (d := d) l (upF 8 (2 ^ d + a.toNat) ks)
    have := up_len 8 (2 ^ d + a.toNat) ks
    omega
def rcvL (l : List Int) : List Nat := l.map Int.toNat
theorem rcv_of {d : Nat} {l : List Int} (h6 : d ≤ 6) (h : lstB d l = true) : Rcv d (rcvL l) := ⟨h6, fun u hu => by
  obtain ⟨a, ha, rfl⟩ := List.mem_map.1 hu
  obtain ⟨w, hw, hw2⟩ := lst_mem h ha
  rw [hw]; simpa using hw2⟩
theorem hotL_hot {d : Nat} {l : List Int} (h6 : d ≤ 6) (h : lstB d l = true) (n : Nat) : ((n : Int) ∈ hotL d l) ↔ hotB d (rcvL l) n = true := by
  have hr := rcv_of h6 h
  unfold hotL
  rw [hotL_mem h6 l [] _ (fun u hu => hr.2 _ (List.mem_map.2 ⟨u, hu, rfl⟩)), hot_iff]
  simp only [List.not_mem_nil, false_or]
  constructor
  · rintro ⟨u, hu, j, h1, h2⟩
    refine ⟨u.toNat, List.mem_map.2 ⟨u, hu, rfl⟩, (below_iff (hr.leaf (List.mem_map.2 ⟨u, hu, rfl⟩)).1).2 ⟨j, h1, by omega⟩⟩
  · rintro ⟨u, hu, hb⟩
    obtain ⟨a, ha, rfl⟩ := List.mem_map.1 hu
    obtain ⟨j, h1, h2⟩ := (below_iff (hr.leaf hu).1).1 hb
    exact ⟨a, ha, j, h1, by rw [h2]⟩
theorem hotL_nat {d : Nat} {l : List Int} (h6 : d ≤ 6) (h : lstB d l = true) {k : Int} (hk : k ∈ hotL d l) : ∃ n : Nat, k = (n : Int) ∧ hotB d (rcvL l) n = true := by
  have hr := rcv_of h6 h
  unfold hotL at hk
  rw [hotL_mem h6 l [] _ (fun u hu => hr.2 _ (List.mem_map.2 ⟨u, hu, rfl⟩))] at hk
  simp only [List.not_mem_nil, false_or] at hk
  obtain ⟨u, hu, j, h1, h2⟩ := hk
  exact ⟨_, h2, hot_iff.2 ⟨u.toNat, List.mem_map.2 ⟨u, hu, rfl⟩, (below_iff (hr.leaf (List.mem_map.2 ⟨u, hu, rfl⟩)).1).2 ⟨j, h1, rfl⟩⟩⟩
/-! a round -/
theorem dec_mem {d : Nat} {l : List Int} (h6 : d ≤ 6) (h : lstB d l = true) (n : Nat) : decide ((n : Int) ∈ hotL d l) = hotB d (rcvL l) n := by
  cases hb : hotB d (rcvL l) n with
  | true => exact decide_eq_true ((hotL_hot h6 h n).2 hb)
  | false => exact decide_eq_false fun hm => by rw [(hotL_hot h6 h n).1 hm] at hb; cases hb
theorem foot_loop {s : TScheme} {d : Nat} {l : List Int} (h6 : d ≤ 6) (h : lstB d l = true) (acc : List TSubset) (nx : List TSubset → Option (List TSubset × Int)) (k : Int) : ∀ (f fuel v : Nat), 1 ≤ v → Nat.log2 v ≤ d → d - Nat.log2 v < f → f ≤ fuel →
    fixN (cover_Cover_L6 (treeI s, 0) (hotL d l) acc nx k) fuel (v : Int) = (if (footN d (rcvL l) f v : Int) = k then nx acc else Option.bind (cover_tree_cut (treeI s) k (footN d (rcvL l) f v : Int)) fun x31 => (if x31 ≠ 0 then (if (treeI s).kind = 3#8 then Option.bind (cover_tree_special (treeI s) k) fun x34 => (cover_Cover_J8 acc nx k (footN d (rcvL l) f v : Int) x31 (!x34)) else cover_Cover_J8 acc nx k (footN d (rcvL l) f v : Int) x31 false) else cover_Cover_J8 acc nx k (footN d (rcvL l) f v : Int) x31 false))
  | 0, fuel, v, _, _, hf, _ => by omega
  | f + 1, 0, v, _, _, _, hf => by omega
  | f + 1, fuel + 1, v, hv, hl, hf, hff => by
    have hr := rcv_of h6 h
    have h64 := pow_le64 h6
    have hv128 : v < 128 := by
      have := (Nat.log2_lt (n := v) (k := d + 1) (by omega)).1 (by omega)
      rw [Nat.pow_succ] at this; omega
    rw [fix_step]; simp only [cover_Cover_L6]
    have e0 : w64 (2 * (v : Int)) = ((2 * v : Nat) : Int) := by rw [w64_id (by omega) (by omega)]; omega
    have e1 : w64 (((2 * v : Nat) : Int) + 1) = ((2 * v + 1 : Nat) : Int) := by rw [w64_id (by omega) (by omega)]; omega
    have e2 : w64 ((v : Int) * 2) = ((2 * v : Nat) : Int) := by rw [w64_id (by omega) (by omega)]; omega
    rw [e0, e1, e2, e1, dec_mem h6 h, dec_mem h6 h]
    rw [show (hotB d (rcvL l) (2 * v) != hotB d (rcvL l) (2 * v + 1)) = brN d (rcvL l) v from rfl]
    cases hb : brN d (rcvL l) v with
    | false =>
      have hfv : footN d (rcvL l) (f + 1) v = v := by unfold footN; rw [hb]; rfl
      rw [cond_false, hfv]
    | true =>
      have hfv : footN d (rcvL l) (f + 1) v = footN d (rcvL l) f (nxN d (rcvL l) v) := by
        show (if brN d (rcvL l) v = true then footN d (rcvL l) f (nxN d (rcvL l) v) else v) = _
        rw [hb]; rfl
      rw [cond_true, hfv]
      obtain ⟨hl2, _⟩ := br_inner hr hv hb
      have key : (if ¬ (((2 * v : Nat) : Int) ∈ hotL d l) then fixN (cover_Cover_L6 (treeI s, 0) (hotL d l) acc nx k) fuel ((2 * v + 1 : Nat) : Int) else fixN (cover_Cover_L6 (treeI s, 0) (hotL d l) acc nx k) fuel ((2 * v : Nat) : Int)) = fixN (cover_Cover_L6 (treeI s, 0) (hotL d l) acc nx k) fuel (nxN d (rcvL l) v : Int) := by
        unfold nxN
        cases hh : hotB d (rcvL l) (2 * v) with
        | true => rw [if_neg (fun hn => hn ((hotL_hot h6 h _).2 hh)), if_pos rfl]
        | false => rw [if_pos (fun hm => by rw [(hotL_hot h6 h _).1 hm] at hh; cases hh), if_neg (by simp)]
      rw [key]
      have hn : 1 ≤ nxN d (rcvL l) v ∧ Nat.log2 (nxN d (rcvL l) v) = Nat.log2 v + 1 := by
        unfold nxN; split
        · exact ⟨by omega, log2_dbl hv (b := 0) (by omega)⟩
        · exact ⟨by omega, log2_dbl hv (b := 1) (by omega)⟩
      exact foot_loop h6 h acc nx k f fuel _ hn.1 (by omega) (by omega) (by omega)
theorem step_eq' {s : TScheme} {d : Nat} {l : List Int} (hv : vldB s = true) (hd : s.Depth = (d : Int)) (h6 : d ≤ 6) (h : lstB d l = true) {v : Nat} (hh : hotB d (rcvL l) v = true) (acc : List TSubset) (ha : acc.length ≤ 1000) (nx : List TSubset → Option (List TSubset × Int)) :
    cover_Cover_S3 (treeI s, 0) (hotL d l) (v : Int) nx acc = nx (acc ++ (outP s.Kind d (rcvL l) v).map mkS) := by
  have hr := rcv_of h6 h
  have h64 := pow_le64 h6
  obtain ⟨v1, vl, v2⟩ := hot_log hr hh
  have hpow : 2 ^ (d + 1) = 2 * 2 ^ d := by rw [Nat.pow_succ, Nat.mul_comm]
  have hv128 : v < 128 := by omega
  have ht : treeI s = ⟨s.Kind, (d : Int), (strd d : Int)⟩ := by unfold treeI; rw [hd, Int.toNat_natCast]
  have hkd : (treeI s).kind = s.Kind := rfl
  have hsib : cover_node_sibling (v : Int) = some ((v ^^^ 1 : Nat) : Int) := by unfold cover_node_sibling; rw [bit_xor hv128]
  have hadd : ∀ (a b : Int) (acc : List TSubset), acc.length ≤ 2000 → cover_Cover_1 a b acc = some (acc ++ [⟨a, b⟩]) := fun a b acc hl => by
    unfold cover_Cover_1; rw [appG_some (by simp; omega), bind_some]
  unfold cover_Cover_S3
  simp only [hkd]
  by_cases hk : s.Kind = 1#8
  · rw [if_pos hk]
    unfold outP
    rw [if_pos hk]
    by_cases hv1 : v = 1
    · rw [if_neg (by omega), if_neg (by simp [hv1])]
      unfold cover_Cover_J4; simp
    · rw [if_pos (by omega), hsib, bind_some]
      unfold cover_Cover_J4
      have hdm := dec_mem h6 h (v ^^^ 1)
      by_cases hs : hotB d (rcvL l) (v ^^^ 1) = true
      · rw [decide_eq_false (p := ¬ (((v ^^^ 1 : Nat) : Int) ∈ hotL d l)) (fun hn => hn ((hotL_hot h6 h _).2 hs)), cond_false, if_neg (by simp [hs])]; simp
      · have hs' : hotB d (rcvL l) (v ^^^ 1) = false := by simpa using hs
        rw [decide_eq_true (p := ¬ (((v ^^^ 1 : Nat) : Int) ∈ hotL d l)) (fun hm => hs ((hotL_hot h6 h _).1 hm)), cond_true, hsib, bind_some, hadd _ _ _ (by omega), bind_some, if_pos ⟨hv1, hs'⟩]
        rfl
  · rw [if_neg hk]
    -- the way on for heads
    have go : isHd d (rcvL l) v = true → cover_Cover_J5 (treeI s, 0) (hotL d l) acc nx (v : Int) false = nx (acc ++ (outP s.Kind d (rcvL l) v).map mkS) := by
      intro hhd
      unfold cover_Cover_J5
      rw [cond_false, foot_loop h6 h acc nx (v : Int) 7 FUEL v v1 vl (by omega) (by unfold FUEL; omega)]
      unfold outP
      rw [if_neg hk, if_pos hhd]
      obtain ⟨w1, w2, w3, K, w4, w5, w6⟩ := foot_spec hr 7 v v1 vl (by omega)
      generalize footN d (rcvL l) 7 v = w at *
      by_cases hw : w = v
      · rw [if_pos (by omega), if_pos hw]; simp
      · rw [if_neg (by omega), if_neg hw]
        have hlw := log2_div w K w4
        rw [← w5] at hlw
        have hK : 1 ≤ K := by
          rcases Nat.eq_zero_or_pos K with h0 | h0
          · subst h0; simp at w5; exact absurd w5.symm hw
          · exact h0
        have hw128 : w < 128 := by
          have := (Nat.log2_lt (n := w) (k := d + 1) (by omega)).1 (by omega)
          omega
        have hcut : cover_tree_cut (treeI s) (v : Int) (w : Int) = some ((cutN d v w : Nat) : Int) := by
          obtain ⟨K', rfl⟩ : ∃ K', K = K' + 1 := ⟨K - 1, by omega⟩
          have := cut_eq (kd := s.Kind) (d := d) (m := w) (k := K') hw128 w4 (by omega)
          rw [← w5] at this
          rw [ht, this]
          unfold cutN
          rw [show Nat.log2 w - Nat.log2 v - 1 = K' from by omega]
        have hspc : cover_tree_special (treeI s) (v : Int) = some (spcl d v) := by rw [ht]; exact special_eq v1 (by omega)
        rw [hcut, bind_some]
        have one : cover_Cover_J8 acc nx (v : Int) (w : Int) ((cutN d v w : Nat) : Int) false = nx (acc ++ [(v, w)].map mkS) := by
          unfold cover_Cover_J8 cover_Cover_J7
          rw [cond_false, hadd _ _ _ (by omega), bind_some]; rfl
        have two : cover_Cover_J8 acc nx (v : Int) (w : Int) ((cutN d v w : Nat) : Int) true = nx (acc ++ [(v, cutN d v w), (cutN d v w, w)].map mkS) := by
          unfold cover_Cover_J8 cover_Cover_J7
          rw [cond_true, hadd _ _ _ (by omega), bind_some, hadd _ _ _ (by simp; omega), bind_some, List.append_assoc]; rfl
        have hk3 : s.Kind = 2#8 ∨ s.Kind = 3#8 := by
          obtain ⟨a, b⟩ := vld_kind hv
          rcases kind_cases a b with e | e | e
          · exact absurd e hk
          · exact .inl e
          · exact .inr e
        unfold subN
        by_cases hc0 : cutN d v w = 0
        · rw [if_neg (by omega), one]
          have : (decide (s.Kind = 2#8) || spcl d v || decide (fstS d (pathN (w / 2) (Nat.log2 w - Nat.log2 v - 1)) = 0)) = true := by
            rw [decide_eq_true (p := fstS _ _ = 0) hc0]; simp
          rw [if_pos this]
        · have hc0' : decide (fstS d (pathN (w / 2) (Nat.log2 w - Nat.log2 v - 1)) = 0) = false := decide_eq_false hc0
          rw [if_pos (by omega), hc0', Bool.or_false]
          rcases hk3 with hk3 | hk3
          · rw [if_neg (by rw [hkd, hk3]; decide), one, if_pos (by simp [hk3])]
          · rw [if_pos (show (treeI s).kind = 3#8 from hk3), hspc, bind_some]
            have : decide (s.Kind = 2#8) = false := by rw [hk3]; decide
            rw [this, Bool.false_or]
            cases spcl d v with
            | true => rw [Bool.not_true, one, if_pos rfl]
            | false => rw [Bool.not_false, two, if_neg (by simp)]
    have no : isHd d (rcvL l) v = false → cover_Cover_J5 (treeI s, 0) (hotL d l) acc nx (v : Int) true = nx (acc ++ (outP s.Kind d (rcvL l) v).map mkS) := by
      intro hhd
      unfold cover_Cover_J5 outP
      rw [cond_true, if_neg hk, if_neg (by rw [hhd]; simp)]; simp
    by_cases hv1 : v = 1
    · rw [if_neg (by omega)]; exact go (by unfold isHd; simp [hv1])
    · rw [if_pos (by omega), hsib, bind_some]
      by_cases hs : hotB d (rcvL l) (v ^^^ 1) = true
      · rw [decide_eq_false (p := ¬ (((v ^^^ 1 : Nat) : Int) ∈ hotL d l)) (fun hn => hn ((hotL_hot h6 h _).2 hs))]; exact go (by unfold isHd; simp [hs])
      · have hs' : hotB d (rcvL l) (v ^^^ 1) = false := by simpa using hs
        rw [decide_eq_true (p := ¬ (((v ^^^ 1 : Nat) : Int) ∈ hotL d l)) (fun hm => hs ((hotL_hot h6 h _).1 hm))]; exact no (by unfold isHd; simp [hs', hv1])
/-! any order -/
theorem cov_filter {d : Nat} {R : List Nat} (h : Rcv d R) {k : BitVec 8} (hne : R ≠ []) {v : Nat} (hv : hotB d R v = true) : (covN k d R).filter (fun y => decide (ownN k d R y = v)) = outP k d R v := by
  refine asc_ext ?_ ?_ fun y => ?_
  · exact List.Pairwise.filter _ cov_asc
  · unfold outP Asc
    split
    · split <;> simp
    · split
      · split
        · simp
        · split
          · simp
          · rename_i h2 h3 h4 h5
            obtain ⟨v1, vl, v2⟩ := hot_log h hv
            obtain ⟨w1, w2, w3, K, w4, w5, w6⟩ := foot_spec h 7 v v1 vl (by have := h.1; omega)
            obtain ⟨j, j1, j2, j3⟩ := cut_chain (k := k) (d := d) (.inr trivial) w4 w5 v1 (by simpa using h5)
            simp only [List.pairwise_cons, List.mem_singleton, List.not_mem_nil, false_imp_iff, implies_true, List.Pairwise.nil, and_true, forall_eq]
            have hj2 : 2 ^ j ≤ footN d R 7 v := Nat.le_trans (Nat.pow_le_pow_right (by omega) (by omega)) w4
            have hl1 := log2_div _ _ w4
            have hl2 := log2_div _ _ hj2
            rw [← w5] at hl1
            rw [← j3] at hl2
            rcases Nat.lt_or_ge v (cutN d v (footN d R 7 v)) with hlt | hge
            · exact hlt
            · have := log2_mono hge; omega
      · simp
  · rw [List.mem_filter, decide_eq_true_eq]; exact cov_own h hne hv y
theorem cov_len {k : BitVec 8} {d : Nat} {R : List Nat} (h6 : d ≤ 6) : (covN k d R).length ≤ 127 := by
  have h64 := pow_le64 h6
  have hpow : 2 ^ (d + 1) = 2 * 2 ^ d := by rw [Nat.pow_succ, Nat.mul_comm]
  refine Nat.le_trans (List.length_filterMap_le _ _) ?_
  simp [nodN]; omega
theorem filter_split {α : Type} (p q : α → Bool) (hpq : ∀ a, p a = true → q a = false) (l : List α) : (l.filter fun a => p a || q a).Perm (l.filter p ++ l.filter q) := by
  induction l with
  | nil => simp
  | cons a l ih =>
    cases hp : p a with
    | true =>
      have hq := hpq a hp
      simp only [List.filter_cons, hp, hq, Bool.true_or, if_true, Bool.false_eq_true, if_false, List.cons_append]
      exact ih.cons a
    | false =>
      cases hq : q a with
      | true =>
        simp only [List.filter_cons, hp, hq, Bool.or_true, if_true, Bool.false_eq_true, if_false]
        exact (ih.cons a).trans List.perm_middle.symm
      | false =>
        simp only [List.filter_cons, hp, hq, Bool.or_false, Bool.false_eq_true, if_false]
        exact ih
theorem srt_cov {k : BitVec 8} {d : Nat} {R : List Nat} (h6 : d ≤ 6) {acc : List TSubset} (h : acc.Perm ((covN k d R).map mkS)) : srtBy TSubset.Node acc = some ((covN k d R).map mkS) := by
  have h64 := pow_le64 h6
  have hpow : 2 ^ (d + 1) = 2 * 2 ^ d := by rw [Nat.pow_succ, Nat.mul_comm]
  have hasc : ((covN k d R).map mkS).Pairwise fun a b => a.Node < b.Node := by
    rw [List.pairwise_map]
    exact (cov_asc (k := k) (d := d) (R := R)).imp (fun {a b} hab => by unfold mkS; simp only; omega)
  have hnd : (((covN k d R).map mkS).map TSubset.Node).Nodup := by
    unfold List.Nodup
    rw [List.pairwise_map]
    exact hasc.imp (by omega)
  unfold srtBy
  rw [if_pos]
  · congr 1
    have hs := List.pairwise_mergeSort (le := fun a b : TSubset => decide (a.Node ≤ b.Node)) (fun a b c h1 h2 => by simp at *; omega) (fun a b => by simp; omega) acc
    have hp : (acc.mergeSort fun a b => decide (a.Node ≤ b.Node)).Perm ((covN k d R).map mkS) := (List.mergeSort_perm acc _).trans h
    -- both ascend, and are permutations of one another
    have key : ∀ (l m : List TSubset), l.Perm m → (l.Pairwise fun a b => decide (a.Node ≤ b.Node) = true) → (m.Pairwise fun a b => a.Node < b.Node) → l = m := by
      intro l m hlm hl hm
      have hlnd : (l.map TSubset.Node).Nodup := by
        have : (m.map TSubset.Node).Nodup := by unfold List.Nodup; rw [List.pairwise_map]; exact hm.imp (by omega)
        exact (hlm.map _).nodup_iff.2 this
      have hl' : l.Pairwise fun a b => a.Node < b.Node := by
        unfold List.Nodup at hlnd
        rw [List.pairwise_map] at hlnd
        exact (hl.and hlnd).imp (fun {a b} hab => by have := of_decide_eq_true hab.1; have := hab.2; omega)
      clear hl hlnd
      induction m generalizing l with
      | nil => exact hlm.eq_nil
      | cons b m ih =>
        cases l with
        | nil => exact absurd hlm.symm.eq_nil (by simp)
        | cons a l =>
          have ha := List.pairwise_cons.1 hl'
          have hb := List.pairwise_cons.1 hm
          have hab : a = b := by
            rcases List.mem_cons.1 (hlm.subset (List.mem_cons_self)) with e | e
            · exact e
            · rcases List.mem_cons.1 (hlm.symm.subset (List.mem_cons_self)) with e2 | e2
              · exact e2.symm
              · have := ha.1 b e2; have := hb.1 a e; omega
          subst hab
          rw [ih l (List.Perm.cons_inv hlm) hb.2 ha.2]
    exact key _ _ hp hs hasc
  · refine ⟨fun x hx => ?_, (h.map _).nodup_iff.2 hnd, ?_⟩
    · obtain ⟨y, hy, rfl⟩ := List.mem_map.1 (h.subset hx)
      have := (cov_mem.1 hy).1
      unfold mkS; simp only; omega
    · rw [h.length_eq, List.length_map]; have := cov_len (k := k) (R := R) h6; omega
theorem range_cov {s : TScheme} {d : Nat} {l : List Int} (hv : vldB s = true) (hd : s.Depth = (d : Int)) (h6 : d ≤ 6) (h : lstB d l = true) (hne : l ≠ []) (hl : l.length * 8 ≤ 140737488355328) :
    rngM (cover_Cover_S3 (treeI s, 0) (hotL d l)) cover_Cover_E3 FUEL (hotL d l) [] = some ((covN s.Kind d (rcvL l)).map mkS, 0) := by
  have hr := rcv_of h6 h
  have hne' : rcvL l ≠ [] := by unfold rcvL; simpa using hne
  refine rngM_run (fun rem acc => (∀ k ∈ rem, k ∈ hotL d l) ∧ acc.Perm (((covN s.Kind d (rcvL l)).filter fun y => decide (((ownN s.Kind d (rcvL l) y : Nat) : Int) ∉ rem)).map mkS)) ?_ ?_ FUEL (hotL d l) [] ?_ ⟨fun _ hk => hk, ?_⟩
  · rintro acc ⟨_, hp⟩
    have : ((covN s.Kind d (rcvL l)).filter fun y => decide (((ownN s.Kind d (rcvL l) y : Nat) : Int) ∉ ([] : List Int))) = covN s.Kind d (rcvL l) := List.filter_eq_self.2 (by simp)
    rw [this] at hp
    unfold cover_Cover_E3
    rw [srt_cov h6 hp, bind_some]
  · rintro rem acc k hk ⟨hsub, hp⟩
    obtain ⟨v, rfl, hvh⟩ := hotL_nat h6 h (hsub k hk)
    have hal : acc.length ≤ 1000 := by
      rw [hp.length_eq, List.length_map]
      have := cov_len (k := s.Kind) (R := rcvL l) h6
      have := List.length_filter_le (fun y => decide (((ownN s.Kind d (rcvL l) y : Nat) : Int) ∉ rem)) (covN s.Kind d (rcvL l))
      omega
    refine ⟨acc ++ (outP s.Kind d (rcvL l) v).map mkS, ⟨fun j hj => hsub j (List.mem_filter.1 hj).1, ?_⟩, fun nx => step_eq' hv hd h6 h hvh acc hal nx⟩
    have hsp := filter_split (fun y => decide (((ownN s.Kind d (rcvL l) y : Nat) : Int) ∉ rem)) (fun y => decide (ownN s.Kind d (rcvL l) y = v)) (fun y hy => by
      simp only [decide_eq_true_eq, decide_eq_false_iff_not] at hy ⊢
      rintro rfl; exact hy hk) (covN s.Kind d (rcvL l))
    rw [cov_filter hr hne' hvh] at hsp
    have hcg : ((covN s.Kind d (rcvL l)).filter fun y => decide (((ownN s.Kind d (rcvL l) y : Nat) : Int) ∉ rem.filter (· ≠ (v : Int)))) = ((covN s.Kind d (rcvL l)).filter fun y => decide (((ownN s.Kind d (rcvL l) y : Nat) : Int) ∉ rem) || decide (ownN s.Kind d (rcvL l) y = v)) := by
      apply List.filter_congr
      intro y _
      rw [Bool.eq_iff_iff]
      simp only [Bool.or_eq_true, decide_eq_true_eq, List.mem_filter, not_and, ne_eq, Decidable.not_not, decide_not, Bool.not_eq_true', decide_eq_false_iff_not]
      constructor
      · intro hh
        by_cases hm : ((ownN s.Kind d (rcvL l) y : Nat) : Int) ∈ rem
        · have := hh hm; right; omega
        · exact .inl hm
      · rintro (hh | hh) hm
        · exact absurd hm hh
        · rw [hh]
    rw [hcg]
    refine List.Perm.trans ?_ (hsp.map mkS).symm
    rw [List.map_append]
    exact hp.append_right _
  · have := hotL_len (d := d) l []
    unfold hotL FUEL
    simp only [List.length_nil, Nat.zero_add] at this
    omega
  · have : ((covN s.Kind d (rcvL l)).filter fun y => decide (((ownN s.Kind d (rcvL l) y : Nat) : Int) ∉ hotL d l)) = [] := by
      rw [List.filter_eq_nil_iff]
      intro y hy
      simp only [decide_eq_true_eq]
      exact fun hn => hn ((hotL_hot h6 h _).2 (own_hot hr hne' hy))
    rw [this]; simp
/-- the cover, with its errors -/
def covP (s : TScheme) (l : List Int) : List TSubset × Int :=
  if vldB s then (if lstB s.Depth.toNat l then ((if l = [] then [⟨1, 0⟩] else (covN s.Kind s.Depth.toNat (rcvL l)).map mkS), 0) else ([], 2)) else ([], 30)
theorem pcover_eq (s : TScheme) (l : List Int) (hl : l.length * 8 ≤ 140737488355328) : cover_Cover s l = some (covP s l) := by
  unfold cover_Cover covP
  rw [enter0, bind_some]
  cases hv : vldB s with
  | false => rfl
  | true =>
    obtain ⟨d, hd, h6⟩ := vld_depth hv
    have ht : treeI s = ⟨s.Kind, (d : Int), (strd d : Int)⟩ := by unfold treeI; rw [hd, Int.toNat_natCast]
    simp only [if_true]
    rw [if_neg (by simp), hd, Int.toNat_natCast]
    have e0 : cover_tree_list (treeI s) l = some (lstB d l) := by rw [ht]; exact list_eq h6 l (by omega)
    rw [e0, bind_some]
    cases hb : lstB d l with
    | false => rfl
    | true =>
      simp only [Bool.not_true, cond_false, if_true]
      by_cases hne : l = []
      · subst hne; rfl
      · rw [if_neg (by intro h0; apply hne; exact List.eq_nil_of_length_eq_zero (by omega)), if_neg hne]
        have := fix_itL l (cover_Cover_L1 l (treeI s, 0)) (fun j (ks : List Int) => ((j : Int), ks)) (fun u nx ks => nx (upF 8 (2 ^ d + u.toNat) ks)) (fun ks => rngM (cover_Cover_S3 (treeI s, 0) ks) cover_Cover_E3 FUEL ks [])
          (fun rec j hj ks => by
            obtain ⟨u, hu, hu2⟩ := lst_mem hb (List.getElem_mem hj)
            have h64 := pow_le64 h6
            simp only [cover_Cover_L1]
            have hlf : cover_tree_leaf (treeI s) (u : Int) = some ((2 ^ d + u : Nat) : Int) := by rw [ht]; exact leaf_eq h6 (by omega)
            rw [if_pos (by omega), getI_some hj, bind_some, hu, hlf, bind_some, up_loop _ _ 8 FUEL _ _ (by omega) (by unfold FUEL; omega), w64_nat (by omega), Int.toNat_natCast])
          (fun rec ks => by simp only [cover_Cover_L1]; rw [if_neg (by omega)]) (f := FUEL) (fuel_lt (by omega)) ([] : List Int)
        rw [show ((0 : Nat) : Int) = 0 from rfl] at this
        rw [this, itL_fold (fun ks u => upF 8 (2 ^ d + u.toNat) ks) _ _ (fun _ _ => True) l 0 [] (fun _ _ _ _ _ _ => rfl) (fun _ _ _ _ _ => trivial) trivial]
        exact range_cov hv hd h6 hb hne hl
end Go.Sx

end
section
set_option linter.unusedVariables false
set_option linter.unusedSimpArgs false
set_option maxRecDepth 100000
namespace Go.Sx
open Go
theorem rhot_eq {d : Nat} {l : List Int} (h6 : d ≤ 6) (h : lstB d l = true) (hl : l.length < 4611686018427387904) {v : Nat} (hv : 1 ≤ v) : ref03_hot (d : Int) l (v : Int) = some (hotB d (rcvL l) v) := by
  have h64 := pow_le64 h6
  unfold ref03_hot
  have := fix_itL l (ref03_hot_L1 (d : Int) l (v : Int)) (fun j (_ : Unit) => (j : Int)) (fun u nx s => bif belowB (2 ^ d + u.toNat) v then some true else nx s) (fun _ => some false)
    (fun rec j hj _ => by
      obtain ⟨u, hu, hu2⟩ := lst_mem h (List.getElem_mem hj)
      simp only [ref03_hot_L1]
      have e : w64 (((2 ^ d : Nat) : Int) + (u : Int)) = ((2 ^ d + u : Nat) : Int) := by
        generalize 2 ^ d = q at *
        rw [w64_id (by omega) (by omega)]; omega
      have hp := Nat.two_pow_pos d
      rw [if_pos (by omega), getI_some hj, bind_some, recv_eq h6, bind_some, hu, e, rbelow_eq (by omega) hv (by omega), bind_some, w64_nat (by omega), Int.toNat_natCast])
    (fun rec _ => by simp only [ref03_hot_L1]; rw [if_neg (by omega)]) (f := FUEL) (fuel_lt (by omega)) ()
  rw [show ((0 : Nat) : Int) = 0 from rfl] at this
  rw [this, itL_find (fun u : Int => belowB (2 ^ d + u.toNat) v) (fun _ _ => some true) _ _ _ _ (fun a _ nx s => rfl)]
  unfold hotB rcvL
  rw [List.any_map]
  cases hf : l.find? (fun u : Int => belowB (2 ^ d + u.toNat) v) with
  | none =>
    rw [List.find?_eq_none] at hf
    have : l.any ((fun u => belowB (2 ^ d + u) v) ∘ Int.toNat) = false := by
      rw [Bool.eq_false_iff]
      intro hc
      obtain ⟨u, hu, hb⟩ := List.any_eq_true.1 hc
      exact hf u hu hb
    rw [this]
  | some u =>
    have : l.any ((fun u => belowB (2 ^ d + u) v) ∘ Int.toNat) = true := List.any_eq_true.2 ⟨u, List.mem_of_find?_eq_some hf, List.find?_some hf⟩
    rw [this]
theorem rfoot_loop {d : Nat} {l : List Int} (h6 : d ≤ 6) (h : lstB d l = true) (hl : l.length < 4611686018427387904) : ∀ (f fuel v : Nat), 1 ≤ v → Nat.log2 v ≤ d → d - Nat.log2 v < f → f ≤ fuel → fixN (ref03_foot_L1 (d : Int) l) fuel (v : Int) = some (footN d (rcvL l) f v : Int)
  | 0, fuel, v, _, _, hf, _ => by omega
  | f + 1, 0, v, _, _, _, hf => by omega
  | f + 1, fuel + 1, v, hv, hlv, hf, hff => by
    have hr := rcv_of h6 h
    have h64 := pow_le64 h6
    have hv128 : v < 128 := by
      have := (Nat.log2_lt (n := v) (k := d + 1) (by omega)).1 (by omega)
      rw [Nat.pow_succ] at this; omega
    rw [fix_step]; simp only [ref03_foot_L1, ref03_foot_J2]
    have e0 : w64 (2 * (v : Int)) = ((2 * v : Nat) : Int) := by rw [w64_id (by omega) (by omega)]; omega
    have e1 : w64 (((2 * v : Nat) : Int) + 1) = ((2 * v + 1 : Nat) : Int) := by rw [w64_id (by omega) (by omega)]; omega
    rw [recv_eq h6, bind_some, e0, e1, rhot_eq h6 h hl (by omega), rhot_eq h6 h hl (by omega), bind_some, bind_some]
    have hbr : (hotB d (rcvL l) (2 * v) != hotB d (rcvL l) (2 * v + 1)) = brN d (rcvL l) v := rfl
    rw [hbr]
    cases hb : brN d (rcvL l) v with
    | false =>
      have hfv : footN d (rcvL l) (f + 1) v = v := by
        show (if brN d (rcvL l) v = true then footN d (rcvL l) f (nxN d (rcvL l) v) else v) = _
        rw [hb]; rfl
      rw [hfv]; simp
    | true =>
      have hfv : footN d (rcvL l) (f + 1) v = footN d (rcvL l) f (nxN d (rcvL l) v) := by
        show (if brN d (rcvL l) v = true then footN d (rcvL l) f (nxN d (rcvL l) v) else v) = _
        rw [hb]; rfl
      obtain ⟨hl2, _⟩ := br_inner hr hv hb
      have hv64 := (node_lt (d := d) hv).2 hl2
      rw [hfv, if_pos (by omega), cond_true, bind_some]
      have hn : 1 ≤ nxN d (rcvL l) v ∧ Nat.log2 (nxN d (rcvL l) v) = Nat.log2 v + 1 := by
        unfold nxN; split
        · exact ⟨by omega, log2_dbl hv (b := 0) (by omega)⟩
        · exact ⟨by omega, log2_dbl hv (b := 1) (by omega)⟩
      rw [← rfoot_loop h6 h hl f fuel _ hn.1 (by omega) (by omega) (by omega)]
      unfold nxN
      cases hotB d (rcvL l) (2 * v) with
      | true => rfl
      | false => rfl
theorem rfoot_eq {d : Nat} {l : List Int} (h6 : d ≤ 6) (h : lstB d l = true) (hl : l.length < 4611686018427387904) {v : Nat} (hv : 1 ≤ v) (hlv : Nat.log2 v ≤ d) : ref03_foot (d : Int) l (v : Int) = some (footN d (rcvL l) 7 v : Int) :=
  rfoot_loop h6 h hl 7 FUEL v hv hlv (by omega) (by unfold FUEL; omega)
/-! insert -/
def insN (A : List (Nat × Nat)) (y : Nat × Nat) : List (Nat × Nat) := A.takeWhile (fun a => decide (a.1 < y.1)) ++ y :: A.dropWhile (fun a => decide (a.1 < y.1))
theorem ins_loop (A : List (Nat × Nat)) (y : Nat × Nat) (hA : A.length ≤ 1000) : ∀ (C B : List (Nat × Nat)) (f : Nat), A = B ++ C → C.length < f →
    fixN (ref03_insert_L1 (A.map mkS) (mkS y)) f (B.length : Int) = some ((B ++ (C.takeWhile (fun a => decide (a.1 < y.1)) ++ y :: C.dropWhile (fun a => decide (a.1 < y.1)))).map mkS)
  | C, B, 0, _, h => by omega
  | [], B, f + 1, hs, _ => by
    rw [fix_step]; simp only [ref03_insert_L1, ref03_insert_J2]
    have hlen : (A.map mkS).length = B.length := by rw [hs]; simp
    have hb : B.length ≤ 1000 := by rw [List.length_map] at hlen; omega
    rw [if_neg (by omega), cond_false]
    have e1 : sliG (A.map mkS) 0 (B.length : Int) = some (B.map mkS) := by
      unfold sliG; rw [if_pos ⟨by omega, by omega, by omega⟩, hs, Int.toNat_natCast, List.append_nil, List.take_of_length_le (by simp)]; simp
    have e2 : sliG (A.map mkS) (B.length : Int) (((A.map mkS).length : Nat) : Int) = some [] := by
      unfold sliG; rw [if_pos ⟨by omega, by omega, by omega⟩, hlen, hs]; simp
    rw [e1, bind_some, appG_some (by simp; omega), bind_some, appG_some (by simp; omega), bind_some, e2, bind_some, appG_some (by simp; omega), bind_some]
    simp
  | c :: C, B, f + 1, hs, hf => by
    rw [fix_step]; simp only [ref03_insert_L1, ref03_insert_J2]
    have hlen : (A.map mkS).length = B.length + (C.length + 1) := by rw [hs]; simp
    have hb : B.length + (C.length + 1) ≤ 1000 := by rw [List.length_map] at hlen; omega
    have hg : getI (A.map mkS) (B.length : Int) = some (mkS c) := by
      rw [getI_some (by omega)]; simp [hs]
    rw [if_pos (by omega), hg, bind_some]
    by_cases hlt : c.1 < y.1
    · rw [decide_eq_true (show (mkS c).Node < (mkS y).Node by unfold mkS; simp only; omega), cond_true, w64_nat (by omega)]
      have := ins_loop A y hA C (B ++ [c]) f (by rw [hs]; simp) (by simp at hf; omega)
      rw [show ((B ++ [c]).length : Int) = ((B.length + 1 : Nat) : Int) from by simp] at this
      rw [this, List.takeWhile_cons, List.dropWhile_cons, decide_eq_true hlt]
      simp
    · rw [decide_eq_false (show ¬ (mkS c).Node < (mkS y).Node by unfold mkS; simp only; omega), cond_false]
      have e1 : sliG (A.map mkS) 0 (B.length : Int) = some (B.map mkS) := by
        unfold sliG; rw [if_pos ⟨by omega, by omega, by omega⟩, hs]; simp
      have e2 : sliG (A.map mkS) (B.length : Int) (((A.map mkS).length : Nat) : Int) = some ((c :: C).map mkS) := by
        unfold sliG; rw [if_pos ⟨by omega, by omega, by omega⟩, Int.toNat_natCast, Int.toNat_natCast, List.take_of_length_le (Nat.le_refl _), hs]; simp
      rw [e1, bind_some, appG_some (by simp; omega), bind_some, appG_some (by simp; omega), bind_some, e2, bind_some, appG_some (by simp; omega), bind_some, List.takeWhile_cons, List.dropWhile_cons, decide_eq_false hlt]
      simp
theorem insert_eq (A : List (Nat × Nat)) (y : Nat × Nat) (hA : A.length ≤ 1000) : ref03_insert (A.map mkS) (mkS y) = some ((insN A y).map mkS) := by
  have := ins_loop A y hA A [] FUEL rfl (fuel_lt (by omega))
  rw [List.nil_append] at this
  exact this
theorem ins_mem {A : List (Nat × Nat)} {y z : Nat × Nat} : z ∈ insN A y ↔ z ∈ A ∨ z = y := by
  unfold insN
  conv => rhs; rw [← List.takeWhile_append_dropWhile (p := fun a : Nat × Nat => decide (a.1 < y.1)) (l := A)]
  simp only [List.mem_append, List.mem_cons]
  constructor
  · rintro (h | h | h)
    · exact .inl (.inl h)
    · exact .inr h
    · exact .inl (.inr h)
  · rintro ((h | h) | h)
    · exact .inl h
    · exact .inr (.inr h)
    · exact .inr (.inl h)
theorem ins_asc : ∀ {A : List (Nat × Nat)} {y : Nat × Nat}, Asc A → (∀ a ∈ A, a.1 ≠ y.1) → Asc (insN A y)
  | [], y, _, _ => by unfold insN Asc; simp
  | a :: A, y, h, hn => by
    have ha := List.pairwise_cons.1 h
    have hne := hn a (by simp)
    unfold insN
    rw [List.takeWhile_cons, List.dropWhile_cons]
    by_cases hlt : a.1 < y.1
    · rw [decide_eq_true hlt]
      simp only [if_true, List.cons_append]
      refine List.pairwise_cons.2 ⟨fun z hz => ?_, ins_asc ha.2 (fun b hb => hn b (by simp [hb]))⟩
      rcases (ins_mem (A := A) (y := y)).1 hz with h1 | h1
      · exact ha.1 z h1
      · rw [h1]; exact hlt
    · rw [decide_eq_false hlt]
      simp only [Bool.false_eq_true, if_false, List.nil_append]
      refine List.pairwise_cons.2 ⟨fun z hz => ?_, h⟩
      rcases List.mem_cons.1 hz with rfl | hz
      · omega
      · have := ha.1 z hz; omega
theorem ins_len {A : List (Nat × Nat)} {y : Nat × Nat} : (insN A y).length = A.length + 1 := by
  unfold insN
  rw [List.length_append, List.length_cons, Nat.add_succ, ← List.length_append, List.takeWhile_append_dropWhile]
/-! the loop over the nodes -/
section
variable {s : TScheme} {d : Nat} {l : List Int}
theorem rcov_round (hv : vldB s = true) (hd : s.Depth = (d : Int)) (h6 : d ≤ 6) (h : lstB d l = true) (hl : l.length < 4611686018427387904) (hk : s.Kind ≠ 1#8) (hne : l ≠ []) {v : Nat} (v1 : 1 ≤ v) (v2 : v < 2 ^ (d + 1)) (rec : List TSubset × Int → Option (List TSubset)) :
    ref03_CoverOf_L2 s l rec (((covN s.Kind d (rcvL l)).filter fun y => decide (hdN d (rcvL l) 7 y.1 < v)).map mkS, (v : Int)) = rec (((covN s.Kind d (rcvL l)).filter fun y => decide (hdN d (rcvL l) 7 y.1 < v + 1)).map mkS, ((v + 1 : Nat) : Int)) := by
  have hr := rcv_of h6 h
  have h64 := pow_le64 h6
  have hpow : 2 ^ (d + 1) = 2 * 2 ^ d := by rw [Nat.pow_succ, Nat.mul_comm]
  have hne' : rcvL l ≠ [] := by unfold rcvL; simpa using hne
  have hlv := node_log v1 v2
  obtain ⟨A, hA⟩ : ∃ A, A = (covN s.Kind d (rcvL l)).filter fun y => decide (hdN d (rcvL l) 7 y.1 < v) := ⟨_, rfl⟩
  have hAl : A.length ≤ 127 := by rw [hA]; exact Nat.le_trans (List.length_filter_le _ _) (cov_len h6)
  have hAa : Asc A := by rw [hA]; exact List.Pairwise.filter _ cov_asc
  rw [← hA]
  have hmem : ∀ y, y ∈ A ↔ y ∈ covN s.Kind d (rcvL l) ∧ hdN d (rcvL l) 7 y.1 < v := fun y => by rw [hA, List.mem_filter, decide_eq_true_eq]
  -- what is new at v
  have hnew : ∀ B : List (Nat × Nat), Asc B → (∀ y, y ∈ B ↔ y ∈ A ∨ (y ∈ covN s.Kind d (rcvL l) ∧ hdN d (rcvL l) 7 y.1 = v)) → B = (covN s.Kind d (rcvL l)).filter fun y => decide (hdN d (rcvL l) 7 y.1 < v + 1) := by
    intro B hB hm
    refine asc_ext hB (List.Pairwise.filter _ cov_asc) fun y => ?_
    rw [hm, hmem, List.mem_filter, decide_eq_true_eq]
    constructor
    · rintro (⟨a, b⟩ | ⟨a, b⟩)
      · exact ⟨a, by omega⟩
      · exact ⟨a, by omega⟩
    · rintro ⟨a, b⟩
      by_cases e : hdN d (rcvL l) 7 y.1 = v
      · exact .inr ⟨a, e⟩
      · exact .inl ⟨a, by omega⟩
  have own : ∀ y, ownN s.Kind d (rcvL l) y = hdN d (rcvL l) 7 y.1 := fun y => by unfold ownN; rw [if_neg hk]
  have hout : hotB d (rcvL l) v = true → ∀ y, (y ∈ covN s.Kind d (rcvL l) ∧ hdN d (rcvL l) 7 y.1 = v) ↔ y ∈ outP s.Kind d (rcvL l) v := fun hh y => by rw [← own]; exact cov_own hr hne' hh y
  -- nothing new
  have none : (∀ y, ¬ (y ∈ covN s.Kind d (rcvL l) ∧ hdN d (rcvL l) 7 y.1 = v)) → A = (covN s.Kind d (rcvL l)).filter fun y => decide (hdN d (rcvL l) 7 y.1 < v + 1) := fun hn => hnew A hAa fun y => ⟨.inl, fun hh => hh.elim id fun hh => absurd hh (hn y)⟩
  simp only [ref03_CoverOf_L2, ref03_CoverOf_J4]
  rw [hd, recv_eq h6, bind_some, show w64 (2 * ((2 ^ d : Nat) : Int)) = ((2 * 2 ^ d : Nat) : Int) from by rw [w64_id (by omega) (by omega)]; omega, if_pos (by omega), rhot_eq h6 h hl v1, bind_some, if_neg hk, w64_nat (by omega)]
  have skip : (∀ y, ¬ (y ∈ covN s.Kind d (rcvL l) ∧ hdN d (rcvL l) 7 y.1 = v)) → rec (A.map mkS, ((v + 1 : Nat) : Int)) = rec (((covN s.Kind d (rcvL l)).filter fun y => decide (hdN d (rcvL l) 7 y.1 < v + 1)).map mkS, ((v + 1 : Nat) : Int)) := fun hn => by rw [← none hn]
  cases hh : hotB d (rcvL l) v with
  | false =>
    simp only [Bool.not_false, cond_true]
    refine skip fun y hy => ?_
    have := own_hot hr hne' hy.1
    rw [own, hy.2, hh] at this; cases this
  | true =>
    simp only [Bool.not_true, cond_false]
    have hv128 : v < 128 := by omega
    -- a head
    have go : isHd d (rcvL l) v = true → (Option.bind (ref03_foot (d : Int) l (v : Int)) fun x15 => if x15 = (v : Int) then rec (A.map mkS, ((v + 1 : Nat) : Int)) else Option.bind (ref03_IsSubset s (TSubset.mk (v : Int) x15)) fun x16 => bif x16 then Option.bind (ref03_insert (A.map mkS) (TSubset.mk (v : Int) x15)) fun x17 => rec (x17, ((v + 1 : Nat) : Int)) else Option.bind (ref03_between (d : Int) (v : Int) x15) fun x18 => Option.bind (ref03_insert (A.map mkS) (TSubset.mk (v : Int) x18)) fun x19 => Option.bind (ref03_insert x19 (TSubset.mk x18 x15)) fun x20 => rec (x20, ((v + 1 : Nat) : Int)))
        = rec (((covN s.Kind d (rcvL l)).filter fun y => decide (hdN d (rcvL l) 7 y.1 < v + 1)).map mkS, ((v + 1 : Nat) : Int)) := by
      intro hhd
      have hout' := hout hh
      unfold outP at hout'
      rw [if_neg hk, if_pos hhd] at hout'
      obtain ⟨w1, w2, w3, K, w4, w5, w6⟩ := foot_spec hr 7 v v1 hlv (by omega)
      rw [rfoot_eq h6 h hl v1 hlv, bind_some]
      generalize footN d (rcvL l) 7 v = w at *
      by_cases hw : w = v
      · rw [if_pos (by omega)]
        rw [if_pos hw] at hout'
        exact skip fun y hy => by have := (hout' y).1 hy; cases this
      · rw [if_neg (by omega)]
        rw [if_neg hw] at hout'
        have hlw := log2_div w K w4
        rw [← w5] at hlw
        have hK : 1 ≤ K := by
          rcases Nat.eq_zero_or_pos K with h0 | h0
          · subst h0; simp at w5; exact absurd w5.symm hw
          · exact h0
        have hw2 : w < 2 ^ (d + 1) := (Nat.log2_lt (by omega)).1 (by omega)
        have hbw : belowB w v = true := (below_iff w1).2 ⟨K, w4, w5⟩
        have hsub : ref03_IsSubset s ⟨(v : Int), (w : Int)⟩ = some (subN s.Kind d v w) := by
          rw [isSub_eq hv hd h6 v w]
          unfold subP
          rw [if_neg hk, if_neg (by omega), decide_eq_true ⟨v1, v2⟩, decide_eq_true ⟨hw2, hw⟩, hbw]; simp
        rw [hsub, bind_some]
        have apart : ∀ y : Nat × Nat, (y ∈ covN s.Kind d (rcvL l) ∧ hdN d (rcvL l) 7 y.1 = v) → ∀ a ∈ A, a.1 ≠ y.1 := fun y hy a ha he => by
          have h1 := ((hmem a).1 ha).2
          rw [he, hy.2] at h1; omega
        cases hsn : subN s.Kind d v w with
        | true =>
          rw [hsn, if_pos rfl] at hout'
          rw [cond_true]
          have hi := insert_eq A (v, w) (by omega)
          rw [show mkS (v, w) = (⟨(v : Int), (w : Int)⟩ : TSubset) from rfl] at hi
          rw [hi, bind_some]
          rw [hnew (insN A (v, w)) (ins_asc hAa (apart (v, w) ((hout' (v, w)).2 (by simp)))) fun y => by rw [ins_mem, hout']; simp]
        | false =>
          rw [hsn, if_neg (by simp)] at hout'
          rw [cond_false]
          have hw128 : w < 128 := by omega
          have hbt : ref03_between (d : Int) (v : Int) (w : Int) = some ((cutN d v w : Nat) : Int) := by
            obtain ⟨K', rfl⟩ : ∃ K', K = K' + 1 := ⟨K - 1, by omega⟩
            have := between_eq (d := d) (m := w) (k := K') h6 hw128 w4 (by omega)
            rw [← w5] at this
            rw [this]
            unfold cutN
            rw [show Nat.log2 w - Nat.log2 v - 1 = K' from by omega]
          have hi := insert_eq A (v, cutN d v w) (by omega)
          rw [show mkS (v, cutN d v w) = (⟨(v : Int), ((cutN d v w : Nat) : Int)⟩ : TSubset) from rfl] at hi
          have hi2 := insert_eq (insN A (v, cutN d v w)) (cutN d v w, w) (by rw [ins_len]; omega)
          rw [show mkS (cutN d v w, w) = (⟨((cutN d v w : Nat) : Int), (w : Int)⟩ : TSubset) from rfl] at hi2
          rw [hbt, bind_some, hi, bind_some, hi2, bind_some]
          have m1 := (hout' (v, cutN d v w)).2 (by simp)
          have m2 := (hout' (cutN d v w, w)).2 (by simp)
          obtain ⟨j, j1, j2, j3⟩ := cut_chain (k := s.Kind) (d := d) (.inr trivial) w4 w5 v1 hsn
          have hcv : cutN d v w ≠ v := by rw [j3, w5]; exact divk_ne w4 j2
          rw [hnew (insN (insN A (v, cutN d v w)) (cutN d v w, w)) (ins_asc (ins_asc hAa (apart _ m1)) fun a ha => by
            rcases ins_mem.1 ha with ha | rfl
            · exact apart _ m2 a ha
            · exact fun e => hcv e.symm) fun y => by rw [ins_mem, ins_mem, hout', or_assoc]; simp]
    by_cases hv1 : v = 1
    · rw [if_neg (by omega)]
      exact go (by unfold isHd; simp [hv1])
    · rw [if_pos (by omega), bit_xor hv128, rhot_eq h6 h hl (by have := sib_two_le hv128 (by omega); omega), bind_some]
      cases hs : hotB d (rcvL l) (v ^^^ 1) with
      | true =>
        simp only [Bool.not_true, cond_false]
        exact go (by unfold isHd; simp [hs])
      | false =>
        simp only [Bool.not_false, cond_true]
        refine skip fun y hy => ?_
        have h1 := (hout hh y).1 hy
        unfold outP at h1
        rw [if_neg hk, if_neg (by unfold isHd; simp [hs, hv1])] at h1
        cases h1
theorem rcov_round1 (hd : s.Depth = (d : Int)) (h6 : d ≤ 6) (h : lstB d l = true) (hl : l.length < 4611686018427387904) (hk : s.Kind = 1#8) {v : Nat} (v1 : 1 ≤ v) (v2 : v < 2 ^ (d + 1)) (rec : List TSubset × Int → Option (List TSubset)) :
    ref03_CoverOf_L2 s l rec (((covN s.Kind d (rcvL l)).filter fun y => decide (y.1 < v)).map mkS, (v : Int)) = rec (((covN s.Kind d (rcvL l)).filter fun y => decide (y.1 < v + 1)).map mkS, ((v + 1 : Nat) : Int)) := by
  have h64 := pow_le64 h6
  have hpow : 2 ^ (d + 1) = 2 * 2 ^ d := by rw [Nat.pow_succ, Nat.mul_comm]
  have hlen : ((covN s.Kind d (rcvL l)).filter fun y => decide (y.1 < v)).length ≤ 127 := Nat.le_trans (List.length_filter_le _ _) (cov_len h6)
  simp only [ref03_CoverOf_L2]
  rw [hd, recv_eq h6, bind_some, show w64 (2 * ((2 ^ d : Nat) : Int)) = ((2 * 2 ^ d : Nat) : Int) from by rw [w64_id (by omega) (by omega)]; omega, if_pos (by omega), rhot_eq h6 h hl v1, bind_some, if_pos hk]
  have hmin : minN s.Kind d (rcvL l) v = if (!hotB d (rcvL l) v && (decide (v = 1) || hotB d (rcvL l) (v / 2))) = true then some 0 else none := by unfold minN; rw [if_pos hk]
  -- the two ways
  have add : minN s.Kind d (rcvL l) v = some 0 → ref03_CoverOf_J3 (((covN s.Kind d (rcvL l)).filter fun y => decide (y.1 < v)).map mkS) (v : Int) rec true = rec (((covN s.Kind d (rcvL l)).filter fun y => decide (y.1 < v + 1)).map mkS, ((v + 1 : Nat) : Int)) := fun hm => by
    unfold ref03_CoverOf_J3
    rw [cond_true, appG_some (by simp; omega), bind_some, w64_nat (by omega)]
    have : ((covN s.Kind d (rcvL l)).filter fun y => decide (y.1 < v)) ++ [(v, 0)] = (covN s.Kind d (rcvL l)).filter fun y => decide (y.1 < v + 1) := by
      refine asc_ext ?_ (List.Pairwise.filter _ cov_asc) fun y => ?_
      · unfold Asc
        rw [List.pairwise_append]
        refine ⟨List.Pairwise.filter _ cov_asc, by simp, fun a ha b hb => ?_⟩
        simp only [List.mem_singleton] at hb
        subst hb
        have := (List.mem_filter.1 ha).2
        simpa using this
      · simp only [List.mem_append, List.mem_filter, List.mem_singleton, decide_eq_true_eq]
        constructor
        · rintro (⟨a, b⟩ | rfl)
          · exact ⟨a, by omega⟩
          · exact ⟨cov_mem.2 ⟨⟨v1, v2⟩, hm⟩, by simp⟩
        · rintro ⟨a, b⟩
          by_cases e : y.1 = v
          · right
            have := (cov_mem.1 a).2
            rw [e, hm] at this
            cases y; simp only at *; rw [e, ← Option.some.inj this]
          · exact .inl ⟨a, by omega⟩
    rw [← this, List.map_append]; rfl
  have no : minN s.Kind d (rcvL l) v = none → ref03_CoverOf_J3 (((covN s.Kind d (rcvL l)).filter fun y => decide (y.1 < v)).map mkS) (v : Int) rec false = rec (((covN s.Kind d (rcvL l)).filter fun y => decide (y.1 < v + 1)).map mkS, ((v + 1 : Nat) : Int)) := fun hm => by
    unfold ref03_CoverOf_J3
    rw [cond_false, w64_nat (by omega)]
    have : ((covN s.Kind d (rcvL l)).filter fun y => decide (y.1 < v)) = (covN s.Kind d (rcvL l)).filter fun y => decide (y.1 < v + 1) := by
      apply List.filter_congr
      intro y hy
      apply decide_eq_decide.2
      have hne : y.1 ≠ v := fun e => by have := (cov_mem.1 hy).2; rw [e, hm] at this; cases this
      omega
    rw [this]
  cases hh : hotB d (rcvL l) v with
  | true =>
    simp only [Bool.not_true, cond_false]
    exact no (by rw [hmin, hh]; simp)
  | false =>
    simp only [Bool.not_false, cond_true]
    by_cases hv1 : v = 1
    · rw [if_pos (by omega)]
      exact add (by rw [hmin, hh]; simp [hv1])
    · rw [if_neg (by omega), quo2 v (by omega), bind_some, rhot_eq h6 h hl (by omega), bind_some]
      cases hp : hotB d (rcvL l) (v / 2) with
      | true => exact add (by rw [hmin, hh, hp]; simp)
      | false => exact no (by rw [hmin, hh, hp]; simp [hv1])
end
def stA (k : BitVec 8) (d : Nat) (R : List Nat) (v : Nat) : List TSubset × Int := (((covN k d R).filter fun y => decide (y.1 < v)).map mkS, (v : Int))
def stB (k : BitVec 8) (d : Nat) (R : List Nat) (v : Nat) : List TSubset × Int := (((covN k d R).filter fun y => decide (hdN d R 7 y.1 < v)).map mkS, (v : Int))
theorem fix_up {σ R : Type} (F : (σ → Option R) → σ → Option R) (n : Nat) (st : Nat → σ) (r : Option R) (hs : ∀ rec j, 1 ≤ j → j < n → F rec (st j) = rec (st (j + 1))) (he : ∀ rec, F rec (st n) = r) : ∀ (m j f : Nat), 1 ≤ j → j + m = n → m < f → fixN F f (st j) = r
  | m, j, 0, _, _, h => by omega
  | 0, j, f + 1, _, hj, _ => by
    have : j = n := by omega
    subst this; rw [fix_step, he]
  | m + 1, j, f + 1, h1, hj, hf => by
    rw [fix_step, hs _ j h1 (by omega)]
    exact fix_up F n st r hs he m (j + 1) f (by omega) (by omega) (by omega)
theorem rcover_eq (s : TScheme) (l : List Int) (hl : l.length * 8 ≤ 140737488355328) : ref03_Cover s l = some (covP s l) := by
  unfold ref03_Cover covP
  rw [valid_eq, bind_some]
  cases hv : vldB s with
  | false => rfl
  | true =>
    obtain ⟨d, hd, h6⟩ := vld_depth hv
    have h64 := pow_le64 h6
    have hpow : 2 ^ (d + 1) = 2 * 2 ^ d := by rw [Nat.pow_succ, Nat.mul_comm]
    have hp := Nat.two_pow_pos d
    simp only [Bool.not_true, cond_false, if_true]
    rw [hd, Int.toNat_natCast, rlist_eq h6 l (by omega), bind_some]
    cases hb : lstB d l with
    | false => rfl
    | true =>
      simp only [Bool.not_true, cond_false, if_true]
      unfold ref03_CoverOf ref03_CoverOf_J1
      have hl2 : l.length < 4611686018427387904 := by omega
      obtain ⟨M, hM⟩ : ∃ M, M = 2 ^ (d + 1) := ⟨_, rfl⟩
      have hsum : 1 + (M - 1) = M := by omega
      have hfu : M - 1 < FUEL := fuel_lt (by omega)
      have hend : ∀ rec (A : List TSubset), ref03_CoverOf_L2 s l rec (A, (M : Int)) = some A := fun rec A => by
        simp only [ref03_CoverOf_L2]
        rw [hd, recv_eq h6, bind_some, show w64 (2 * ((2 ^ d : Nat) : Int)) = ((2 * 2 ^ d : Nat) : Int) from by rw [w64_id (by omega) (by omega)]; omega, if_neg (by rw [hM, hpow]; omega)]
      by_cases hk : s.Kind = 1#8
      · rw [if_neg (by simp [hk]), cond_false]
        have := fix_up (ref03_CoverOf_L2 s l) M (stA s.Kind d (rcvL l)) (some (stA s.Kind d (rcvL l) M).1) (fun rec j j1 j2 => rcov_round1 hd h6 hb hl2 hk j1 (hM ▸ j2) rec) (fun rec => hend rec _) (M - 1) 1 FUEL (Nat.le_refl _) hsum hfu
        rw [stA, stA, hM] at this
        have e1 : ((covN s.Kind d (rcvL l)).filter fun y => decide (y.1 < 1)) = [] := by
          rw [List.filter_eq_nil_iff]; intro y hy; have := (cov_mem.1 hy).1; simp; omega
        have e2 : ((covN s.Kind d (rcvL l)).filter fun y => decide (y.1 < 2 ^ (d + 1))) = covN s.Kind d (rcvL l) := by
          rw [List.filter_eq_self]; intro y hy; have := (cov_mem.1 hy).1; simpa using this.2
        rw [e1, e2] at this
        rw [show ((1 : Nat) : Int) = 1 from rfl] at this
        simp only [List.map_nil] at this
        rw [this, bind_some]
        by_cases hne : l = []
        · rw [if_pos hne]
          have e3 : covN s.Kind d (rcvL l) = [(1, 0)] := by
            subst hne
            refine asc_ext cov_asc (by unfold Asc; simp) fun y => ?_
            rw [cov_mem]
            have hno : ∀ x, hotB d (rcvL []) x = false := fun x => rfl
            unfold minN
            rw [if_pos hk, hno, hno]
            simp only [Bool.not_false, Bool.true_and, Bool.or_false, List.mem_singleton, decide_eq_true_eq]
            constructor
            · rintro ⟨_, hm⟩
              split at hm
              · rename_i e; cases y; simp only at *; rw [e, ← Option.some.inj hm]
              · cases hm
            · rintro rfl; exact ⟨⟨by omega, by rw [hpow]; show 1 < 2 * 2 ^ d; omega⟩, by simp⟩
          rw [e3]; rfl
        · rw [if_neg hne]
      · rw [if_pos (by simpa using hk)]
        by_cases hne : l = []
        · rw [decide_eq_true (by simp [hne]), cond_true, if_pos hne, bind_some]
        · rw [decide_eq_false (by intro h0; apply hne; exact List.eq_nil_of_length_eq_zero (by omega)), cond_false, if_neg hne]
          have := fix_up (ref03_CoverOf_L2 s l) M (stB s.Kind d (rcvL l)) (some (stB s.Kind d (rcvL l) M).1) (fun rec j j1 j2 => rcov_round hv hd h6 hb hl2 hk hne j1 (hM ▸ j2) rec) (fun rec => hend rec _) (M - 1) 1 FUEL (Nat.le_refl _) hsum hfu
          rw [stB, stB, hM] at this
          have hr := rcv_of h6 hb
          have hne' : rcvL l ≠ [] := by unfold rcvL; simpa using hne
          have hbd : ∀ y ∈ covN s.Kind d (rcvL l), 1 ≤ hdN d (rcvL l) 7 y.1 ∧ hdN d (rcvL l) 7 y.1 < 2 ^ (d + 1) := fun y hy => by
            have h1 := own_hot hr hne' hy
            unfold ownN at h1
            rw [if_neg hk] at h1
            obtain ⟨a, _, b⟩ := hot_log hr h1
            exact ⟨a, b⟩
          have e1 : ((covN s.Kind d (rcvL l)).filter fun y => decide (hdN d (rcvL l) 7 y.1 < 1)) = [] := by
            rw [List.filter_eq_nil_iff]; intro y hy; have := hbd y hy; simp; omega
          have e2 : ((covN s.Kind d (rcvL l)).filter fun y => decide (hdN d (rcvL l) 7 y.1 < 2 ^ (d + 1))) = covN s.Kind d (rcvL l) := by
            rw [List.filter_eq_self]; intro y hy; simpa using (hbd y hy).2
          rw [e1, e2] at this
          rw [show ((1 : Nat) : Int) = 1 from rfl] at this
          simp only [List.map_nil] at this
          rw [this, bind_some]
end Go.Sx

end
section
set_option linter.unusedVariables false
set_option linter.unusedSimpArgs false
namespace Go.Sx
open Go
/-! the same header -/
end Go.Sx

end
section
set_option linter.unusedVariables false
set_option linter.unusedSimpArgs false
namespace Go.Sx
open Go
abbrev hdr0 : THeader := THeader.mk [] 0#64 [] k0 k0
theorem sub_loop (root ses : W2) (s : TScheme) (hv : vldB s = true) (l : List TSubset) (hl : l.length ≤ 64) : ∀ (m j f f' : Nat), l.length - j = m → j ≤ l.length → m < f → m < f' → (∀ x ∈ l.take j, SubOk s x) →
    (fixN (cover_enter_L1 l (treeI s, true)) f (j : Int) = some (Tcover_tree.mk 0#8 0 0, 31) ∧ fixN (ref03_Seal_L1 root s l ses) f' (j : Int) = some (hdr0, 31)) ∨
    (fixN (cover_enter_L1 l (treeI s, true)) f (j : Int) = some (treeI s, 0) ∧ fixN (ref03_Seal_L1 root s l ses) f' (j : Int) = fixN (ref03_Seal_L2 root s l ses) FUEL (0, []) ∧ ∀ x ∈ l, SubOk s x)
  | m, j, 0, _, _, _, h, _, _ => by omega
  | m, j, _ + 1, 0, _, _, _, h, _ => by omega
  | 0, j, f + 1, f' + 1, hm, hj, _, _, hok => by
    rw [fix_step, fix_step]; simp only [cover_enter_L1, ref03_Seal_L1]
    rw [if_neg (by omega), if_neg (by omega)]
    refine .inr ⟨rfl, rfl, ?_⟩
    rw [List.take_of_length_le (by omega)] at hok; exact hok
  | m + 1, j, f + 1, f' + 1, hm, hj, hf, hf', hok => by
    rw [fix_step, fix_step]; simp only [cover_enter_L1, ref03_Seal_L1]
    have hjl : j < l.length := by omega
    obtain ⟨b, e1, e2, hb⟩ := subset_eq s hv l[j]
    rw [if_pos (by omega), if_pos (by omega), getI_some hjl, bind_some, bind_some, e1, e2, bind_some, bind_some]
    cases b with
    | false => exact .inl ⟨rfl, rfl⟩
    | true =>
      simp only [Bool.not_true, cond_false]
      rw [w64_id (by omega) (by omega)]
      refine sub_loop root ses s hv l hl m (j + 1) f f' (by omega) (by omega) (by omega) (by omega) ?_
      intro x hx
      rw [take_snoc l j hjl] at hx
      rcases List.mem_append.1 hx with h | h
      · exact hok x h
      · rw [List.mem_singleton] at h; subst h; exact hb rfl
theorem seal_loop (root ses : W2) (s : TScheme) (l : List TSubset) (hl : l.length ≤ 64) (hok : ∀ x ∈ l, SubOk s x) : ∀ (m j f f' : Nat) (acc : List TItem), l.length - j = m → j ≤ l.length → m < f → m < f' → acc.length = j →
    ∃ r, fixN (cover_Seal_L1 root l ses (treeI s, 0)) f ((j : Int), acc) = some r ∧ fixN (ref03_Seal_L2 root s l ses) f' ((j : Int), acc) = some r ∧ r.1.Items.length ≤ 1000 ∧ r.1.Points.length ≤ 1000
  | m, j, 0, _, _, _, _, h, _, _ => by omega
  | m, j, _ + 1, 0, _, _, _, _, h, _ => by omega
  | 0, j, f + 1, f' + 1, acc, hm, hj, _, _, ha => by
    rw [fix_step, fix_step]; simp only [cover_Seal_L1, ref03_Seal_L2]
    rw [if_neg (by omega), if_neg (by omega)]
    exact ⟨_, rfl, rfl, by simp only; omega, by simp⟩
  | m + 1, j, f + 1, f' + 1, acc, hm, hj, hf, hf', ha => by
    rw [fix_step, fix_step]; simp only [cover_Seal_L1, ref03_Seal_L2]
    have hjl : j < l.length := by omega
    obtain ⟨k, e1, e2⟩ := key_eq2 root s l[j] (hok _ (List.getElem_mem hjl))
    rw [if_pos (by omega), if_pos (by omega), getI_some hjl, bind_some, bind_some, bind_some, e1, e2, bind_some, bind_some, appG_some (by simp; omega), bind_some, bind_some, w64_id (by omega) (by omega)]
    exact seal_loop root ses s l hl hok m (j + 1) f f' _ (by omega) (by omega) (by omega) (by omega) (by simp [ha])
theorem seal_eq (root ses : W2) (s : TScheme) (l : List TSubset) (hl : l.length < 4611686018427387904) : ∃ r, cover_Seal root s l ses = some r ∧ ref03_Seal root s l ses = some r ∧ r.1.Items.length ≤ 1000 ∧ r.1.Points.length ≤ 1000 := by
  unfold cover_Seal ref03_Seal cover_Check
  rw [treeOf_eq, bind_some, valid_eq, bind_some]
  cases hv : vldB s with
  | false => exact ⟨_, rfl, rfl, by simp, by simp⟩
  | true =>
    simp only [if_true, Bool.not_true, cond_false]
    rw [bind_some, if_neg (by simp)]
    by_cases h64 : (64 : Int) < (l.length : Int)
    · rw [if_pos h64, if_pos h64]; exact ⟨_, rfl, rfl, by simp, by simp⟩
    · rw [if_neg h64, if_neg h64]
      unfold cover_enter
      rw [treeOf_eq, hv, bind_some]
      simp only [if_true, Bool.not_true, cond_false]
      rcases sub_loop root ses s hv l (by omega) _ 0 FUEL FUEL rfl (by omega) (fuel_lt (by omega)) (fuel_lt (by omega)) (by simp) with ⟨h1, h2⟩ | ⟨h1, h2, h3⟩
      · rw [show (0 : Int) = ((0 : Nat) : Int) from rfl, h1, h2, bind_some, if_pos (by simp)]
        exact ⟨_, rfl, rfl, by simp, by simp⟩
      · rw [show ((0 : Nat) : Int) = 0 from rfl] at h1 h2
        rw [h1, h2, bind_some, if_neg (by simp)]
        exact seal_loop root ses s l (by omega) h3 _ 0 FUEL FUEL [] rfl (by omega) (fuel_lt (by omega)) (fuel_lt (by omega)) rfl
end Go.Sx

end
section
set_option linter.unusedVariables false
set_option linter.unusedSimpArgs false
namespace Go.Sx
open Go
theorem bytes_step (n : Nat) (x : BitVec 64) (l : List (BitVec 8)) (k : Nat) (hk : k < 8) (hl : l.length = k) : fixN (ref02_Bytes_L1 8) (n + 1) (x, l, (k : Int)) = fixN (ref02_Bytes_L1 8) n (x >>> 8, x.setWidth 8 :: l, ((k + 1 : Nat) : Int)) := by
  rw [fix_step]
  simp only [ref02_Bytes_L1]
  rw [if_pos (by omega), remU256, bind_some, appG_some (by simp; omega), bind_some, quo256, bind_some, rem256, w64_id (by omega) (by omega)]
  rfl
theorem bytes_eq (x : BitVec 64) : ref02_Bytes x 8 = some (w8 x) := by
  unfold ref02_Bytes
  rw [show FUEL = 18446744073709551607 + 9 from rfl, show (0 : Int) = ((0 : Nat) : Int) from rfl]
  rw [bytes_step _ _ _ 0 (by decide) rfl, bytes_step _ _ _ 1 (by decide) rfl, bytes_step _ _ _ 2 (by decide) rfl, bytes_step _ _ _ 3 (by decide) rfl, bytes_step _ _ _ 4 (by decide) rfl, bytes_step _ _ _ 5 (by decide) rfl, bytes_step _ _ _ 6 (by decide) rfl, bytes_step _ _ _ 7 (by decide) rfl, fix_step]
  simp only [ref02_Bytes_L1]
  rw [if_neg (by omega)]
  simp only [← BitVec.shiftRight_add]
  rfl
/-- the number in some bytes -/
def valB (l : List (BitVec 8)) : BitVec 64 := l.foldl (fun n c => 256#64 * n + c.setWidth 64) 0#64
theorem valB_snoc (l : List (BitVec 8)) (c : BitVec 8) : valB (l ++ [c]) = 256#64 * valB l + c.setWidth 64 := by simp [valB]
theorem value_loop (l : List (BitVec 8)) (hx : l.length ≤ 1000) : ∀ (m i fuel : Nat), l.length - i = m → i ≤ l.length → m < fuel → fixN (ref02_Value_L1 l) fuel (valB (l.take i), (i : Int)) = some (valB l)
  | m, i, 0, _, _, hf => by omega
  | 0, i, fuel + 1, hm, hi, hf => by
    rw [fix_step]; simp only [ref02_Value_L1]; rw [if_neg (by omega), List.take_of_length_le (by omega)]
  | m + 1, i, fuel + 1, hm, hi, hf => by
    rw [fix_step]; simp only [ref02_Value_L1]
    rw [if_pos (by omega), getI_some (by omega), bind_some, ← valB_snoc, ← take_snoc _ _ (by omega), w64_id (by omega) (by omega)]
    exact value_loop l hx m (i + 1) fuel (by omega) (by omega) (by omega)
theorem value_eq (l : List (BitVec 8)) (h : l.length ≤ 1000) : ref02_Value l = some (valB l) := value_loop l h _ 0 FUEL rfl (by omega) (fuel_lt (by omega))
theorem shl_or (a : BitVec 64) (c : BitVec 8) : (a <<< 8) ||| (c.setWidth 64) = 256#64 * a + c.setWidth 64 := by
  have e1 : 256#64 * a = a <<< 8 := by
    apply BitVec.eq_of_toNat_eq
    rw [BitVec.toNat_mul, BitVec.toNat_shiftLeft, Nat.shiftLeft_eq, Nat.mul_comm]; rfl
  rw [e1]
  symm
  apply BitVec.add_eq_or_of_and_eq_zero
  apply BitVec.eq_of_getLsbD_eq
  intro j hj
  rw [BitVec.getLsbD_and, BitVec.getLsbD_shiftLeft, BitVec.getLsbD_setWidth, BitVec.getLsbD_zero]
  by_cases h : j < 8
  · simp [h]
  · simp [BitVec.getLsbD_of_ge c j (by omega)]
theorem byt_wd (x : BitVec 64) (k : Nat) : (byt x k).setWidth 64 = wd (bt x k) := by
  rw [wd_bt]
  apply BitVec.eq_of_toNat_eq
  unfold byt
  rw [BitVec.toNat_setWidth, BitVec.toNat_setWidth, BitVec.toNat_and]
  have : (255#64 : BitVec 64).toNat = 2 ^ 8 - 1 := rfl
  rw [this, Nat.and_two_pow_sub_one_eq_mod]
  omega
theorem val_st (x : BitVec 64) (k : Nat) (hk : k < 8) : 256#64 * (x >>> (64 - 8 * k)) + (byt x k).setWidth 64 = x >>> (64 - 8 * (k + 1)) := by
  rw [← shl_or, byt_wd, shl_step x k hk]
theorem val_w8 (x : BitVec 64) : valB (w8 x) = x := by
  have h0 := val_st x 0 (by decide)
  have h1 := val_st x 1 (by decide)
  have h2 := val_st x 2 (by decide)
  have h3 := val_st x 3 (by decide)
  have h4 := val_st x 4 (by decide)
  have h5 := val_st x 5 (by decide)
  have h6 := val_st x 6 (by decide)
  have h7 := val_st x 7 (by decide)
  have hz : x >>> 64 = 0#64 := by apply BitVec.eq_of_toNat_eq; rw [BitVec.toNat_ushiftRight, Nat.shiftRight_eq_div_pow, Nat.div_eq_of_lt x.isLt]; rfl
  simp only [Nat.mul_zero, Nat.sub_zero, hz] at h0
  simp only [valB, w8, List.foldl_cons, List.foldl_nil, h0, h1, h2, h3, h4, h5, h6, h7]
  simp
theorem words_eq (p : W2) : ref02_words p = some p := by
  unfold ref02_words
  rw [show ((kby p).take 8).drop 0 = w8 p.1 from rfl, show ((kby p).take 16).drop 8 = w8 p.2 from rfl, value_eq _ (by rw [w8_len]; omega), bind_some, value_eq _ (by rw [w8_len]; omega), bind_some, val_w8, val_w8]
theorem rotr_eq (x : BitVec 64) (n : Nat) (h1 : 1 ≤ n) (h2 : n ≤ 63) : ref02_rotr x (n : Int) = some (rotl x (64 - n)) := by
  unfold ref02_rotr rotl
  have e1 : shG (n : Int) = some n := by unfold shG; rw [if_pos (by omega)]; rfl
  have e2 : shG (w64 (64 - (n : Int))) = some (64 - n) := by rw [w64_id (by omega) (by omega)]; unfold shG; rw [if_pos (by omega)]; congr 1; omega
  rw [e1, bind_some, e2, bind_some, BitVec.or_comm, show 64 - (64 - n) = n from by omega]
theorem rotl_eq (x : BitVec 64) (n : Nat) (h1 : 1 ≤ n) (h2 : n ≤ 63) : ref02_rotl x (n : Int) = some (rotl x n) := by
  unfold ref02_rotl
  rw [w64_id (by omega) (by omega), show (64 : Int) - (n : Int) = ((64 - n : Nat) : Int) from by omega, rotr_eq x (64 - n) (by omega) (by omega), bind_some, show 64 - (64 - n) = n from by omega]
def rks (k : W2) (n : Nat) : List (BitVec 64) := (List.range n).map fun i => (ks k i).2
theorem rks_succ (k : W2) (n : Nat) : rks k (n + 1) = rks k n ++ [(ks k n).2] := by simp [rks, List.range_succ]
theorem rks_len (k : W2) (n : Nat) : (rks k n).length = n := by simp [rks]
theorem rk_loop (k : W2) : ∀ (m i f : Nat), i + m = 31 → m < f → fixN ref02_roundKeys_L1 f ((ks k i).1, (ks k i).2, rks k (i + 1), (i : Int)) = some (rks k 32)
  | m, i, 0, _, h => by omega
  | 0, i, f + 1, hi, _ => by
    obtain rfl : i = 31 := by omega
    rw [fix_step]; simp only [ref02_roundKeys_L1]; rw [if_neg (by omega)]
  | m + 1, i, f + 1, hi, hf => by
    rw [fix_step]; simp only [ref02_roundKeys_L1]
    have r1 := rotr_eq (ks k i).1 8 (by omega) (by omega)
    have r2 := rotl_eq (ks k i).2 3 (by omega) (by omega)
    rw [show ((8 : Nat) : Int) = 8 from rfl] at r1
    rw [show ((3 : Nat) : Int) = 3 from rfl] at r2
    rw [if_pos (by omega), r1, bind_some, r2, bind_some, appG_some (by rw [rks_len]; simp; omega), bind_some, w64_id (by omega) (by omega)]
    have e1 : (((ks k i).2 + rotl (ks k i).1 (64 - 8)) ^^^ wd (i : Int)) = (ks k (i + 1)).1 := by simp [ks, rnd, BitVec.add_comm]
    have e2 : rotl (ks k i).2 3 ^^^ (ks k (i + 1)).1 = (ks k (i + 1)).2 := by simp [ks, rnd]
    rw [e1, e2, ← rks_succ]
    exact rk_loop k m (i + 1) f (by omega) (by omega)
theorem rk_eq (k : W2) : ref02_roundKeys k = some (rks k 32) := by
  unfold ref02_roundKeys
  rw [words_eq, bind_some]
  exact rk_loop k 31 0 FUEL (by omega) (fuel_lt (by omega))
theorem rkey2_loop (l : List (BitVec 8)) (hl : l.length = 16) : ∀ (m i fuel : Nat) (p : W2), 16 - i = m → i ≤ 16 → m < fuel → (kby p).take i = l.take i → fixN (ref02_key_L1 l) fuel ((i : Int), p) = some (ofB l)
  | m, i, 0, p, _, _, hf, _ => by omega
  | 0, i, fuel + 1, p, hm, hi, hf, hp => by
    rw [fix_step]; simp only [ref02_key_L1, ref02_key_J2]; rw [if_neg (by omega)]
    obtain rfl : i = 16 := by omega
    simp only [cond_false]
    congr 1
    apply kby_inj
    rw [kby_ofB (by omega), ← hp, List.take_of_length_le (by simp [kby])]
  | m + 1, i, fuel + 1, p, hm, hi, hf, hp => by
    rw [fix_step]; simp only [ref02_key_L1, ref02_key_J2]
    have hk : i < (kby p).length := by rw [kby_len]; omega
    rw [if_pos (by omega), decide_eq_true (by omega)]
    simp only [cond_true]
    rw [getI_some (by omega), bind_some, getI_some hk, bind_some]
    have hks : kset p (i : Int) (l[i]'(by omega)) = some (ofB ((kby p).set i (l[i]'(by omega)))) := by unfold kset; rw [if_pos (by omega)]; rfl
    rw [hks, bind_some, w64_id (by omega) (by omega)]
    refine rkey2_loop l hl m (i + 1) fuel _ (by omega) (by omega) (by omega) ?_
    have hq := (kset_eq hks).2
    rw [Int.toNat_natCast] at hq
    rw [hq, take_snoc _ i (by rw [List.length_set]; exact hk), take_snoc l i (by omega), List.take_set_of_le (Nat.le_refl i), hp]
    simp
theorem block_eq (x y : BitVec 64) : ref02_block x y = some (x, y) := by
  unfold ref02_block ref02_key
  rw [bytes_eq, bind_some, bytes_eq, bind_some, appG_some (by simp [w8]), bind_some]
  have := rkey2_loop (w8 x ++ w8 y) (by simp [w8]) _ 0 FUEL k0 rfl (by omega) (fuel_lt (by omega)) (by simp)
  rw [show ((0 : Nat) : Int) = 0 from rfl] at this
  rw [this, bind_some, show w8 x ++ w8 y = kby (x, y) ++ [] from rfl, ofB_kby]
theorem decTo_st (k b : W2) (j : Nat) (h : j < 32) : decTo k b j = rndB (decTo k b (j + 1)) (ks k j).2 := by
  unfold decTo
  rw [show 32 - j = 32 - (j + 1) + 1 from by omega, List.range_succ, List.foldl_append, List.foldl_cons, List.foldl_nil, show 31 - (32 - (j + 1)) = j from by omega]
theorem dec_loop (k b : W2) : ∀ (i f : Nat), i ≤ 32 → i < f → fixN (ref02_Decrypt_L1 (rks k 32)) f ((decTo k b i).1, (decTo k b i).2, (i : Int) - 1) = some (decr k b)
  | i, 0, _, h => by omega
  | 0, f + 1, _, _ => by
    rw [fix_step]; simp only [ref02_Decrypt_L1]; rw [if_neg (by omega), block_eq, bind_some]; rfl
  | i + 1, f + 1, hi, hf => by
    rw [fix_step]; simp only [ref02_Decrypt_L1]
    have r1 := rotr_eq ((decTo k b (i + 1)).2 ^^^ (decTo k b (i + 1)).1) 3 (by omega) (by omega)
    have r2 := rotl_eq (((decTo k b (i + 1)).1 ^^^ (ks k i).2) - rotl ((decTo k b (i + 1)).2 ^^^ (decTo k b (i + 1)).1) (64 - 3)) 8 (by omega) (by omega)
    rw [show ((8 : Nat) : Int) = 8 from rfl] at r2
    rw [show ((3 : Nat) : Int) = 3 from rfl] at r1
    have hg : getI (rks k 32) (i : Int) = some (ks k i).2 := by
      rw [getI_some (by rw [rks_len]; omega)]; simp [rks]
    rw [if_pos (by omega), r1, bind_some, show ((i + 1 : Nat) : Int) - 1 = (i : Int) from by omega, hg, bind_some, r2, bind_some, w64_id (by omega) (by omega)]
    have ih := dec_loop k b i f (by omega) (by omega)
    rw [decTo_st k b i (by omega)] at ih
    unfold rndB at ih
    rw [BitVec.xor_comm (decTo k b (i + 1)).2]
    exact ih
theorem rdecr_eq (k b : W2) : ref02_Decrypt k b = some (decr k b) := by
  unfold ref02_Decrypt
  rw [words_eq, bind_some, rk_eq, bind_some]
  exact dec_loop k b 32 FUEL (by omega) (fuel_lt (by omega))
end Go.Sx

end
section
set_option linter.unusedVariables false
set_option linter.unusedSimpArgs false
namespace Go.Sx
open Go
theorem valid_loop (s : TScheme) (hv : vldB s = true) (h : THeader) (hl : h.Items.length ≤ 64) : ∀ (m j f f' : Nat), h.Items.length - j = m → j ≤ h.Items.length → m < f → m < f' → (∀ x ∈ h.Items.take j, SubOk s x.Subset) →
    (∃ i : Nat, fixN (slices_IndexFunc_c205_cover_Open_1_L1 h.Items (treeI s)) f (j : Int) = some (i : Int) ∧ fixN (ref03_ValidHeader_L2 s h) f' (j : Int) = some false) ∨
    (fixN (slices_IndexFunc_c205_cover_Open_1_L1 h.Items (treeI s)) f (j : Int) = some (-1) ∧ fixN (ref03_ValidHeader_L2 s h) f' (j : Int) = some true ∧ ∀ x ∈ h.Items, SubOk s x.Subset)
  | m, j, 0, _, _, _, h, _, _ => by omega
  | m, j, _ + 1, 0, _, _, _, h, _ => by omega
  | 0, j, f + 1, f' + 1, hm, hj, _, _, hok => by
    rw [fix_step, fix_step]; simp only [slices_IndexFunc_c205_cover_Open_1_L1, ref03_ValidHeader_L2]
    rw [if_neg (by omega), if_neg (by omega)]
    refine .inr ⟨rfl, rfl, ?_⟩
    rw [List.take_of_length_le (by omega)] at hok; exact hok
  | m + 1, j, f + 1, f' + 1, hm, hj, hf, hf', hok => by
    rw [fix_step, fix_step]; simp only [slices_IndexFunc_c205_cover_Open_1_L1, ref03_ValidHeader_L2, cover_Open_1]
    have hjl : j < h.Items.length := by omega
    obtain ⟨b, e1, e2, hb⟩ := subset_eq s hv h.Items[j].Subset
    rw [if_pos (by omega), if_pos (by omega), getI_some hjl, bind_some, bind_some, e1, e2, bind_some, bind_some, bind_some]
    cases b with
    | false => exact .inl ⟨j, rfl, rfl⟩
    | true =>
      simp only [Bool.not_true, cond_false]
      rw [w64_id (by omega) (by omega)]
      refine valid_loop s hv h hl m (j + 1) f f' (by omega) (by omega) (by omega) (by omega) ?_
      intro x hx
      rw [take_snoc _ j hjl] at hx
      rcases List.mem_append.1 hx with h' | h'
      · exact hok x h'
      · rw [List.mem_singleton] at h'; subst h'; exact hb rfl
theorem open_loop (s : TScheme) (c : TSecret) (hc : c.Labels.length < 4611686018427387904) (hcl : ∀ l ∈ c.Labels, LblI l) (h : THeader) (hl : h.Items.length ≤ 64) (hok : ∀ x ∈ h.Items, SubOk s x.Subset) : ∀ (m j f f' : Nat), h.Items.length - j = m → j ≤ h.Items.length → m < f → m < f' →
    ∃ r, fixN (cover_Open_L2 c h (treeI s, 0)) f (j : Int) = some r ∧ fixN (ref03_Open_L1 s c h) f' (j : Int) = some r
  | m, j, 0, _, _, _, h, _ => by omega
  | m, j, _ + 1, 0, _, _, _, h => by omega
  | 0, j, f + 1, f' + 1, hm, hj, _, _ => by
    rw [fix_step, fix_step]; simp only [cover_Open_L2, ref03_Open_L1]
    rw [if_neg (by omega), if_neg (by omega)]
    exact ⟨_, rfl, rfl⟩
  | m + 1, j, f + 1, f' + 1, hm, hj, hf, hf' => by
    rw [fix_step, fix_step]; simp only [cover_Open_L2, ref03_Open_L1, ref03_Open_J2, ref03_Open_J3]
    have hjl : j < h.Items.length := by omega
    obtain ⟨⟨k, b⟩, e1, e2⟩ := find_eq s c hc hcl h.Items[j].Subset (hok _ (List.getElem_mem hjl))
    have ih := open_loop s c hc hcl h hl hok m (j + 1) f f' (by omega) (by omega) (by omega) (by omega)
    rw [show ((j + 1 : Nat) : Int) = (j : Int) + 1 from by omega] at ih
    rw [if_pos (by omega), if_pos (by omega), getI_some hjl, bind_some, bind_some, e1, e2, bind_some, bind_some, w64_id (by omega) (by omega)]
    cases b with
    | false => simp only [Bool.not_false, cond_true, cond_false]; exact ih
    | true =>
      simp only [Bool.not_true, cond_true, cond_false]
      rw [bind_some, rdecr_eq, bind_some]
      by_cases he : drv (decr k h.Items[j].Box) (un8 53#8) 0#64 = h.Check
      · rw [if_pos he, if_pos he]; exact ⟨_, rfl, rfl⟩
      · rw [if_neg he, if_neg he]; exact ih
theorem open_eq (s : TScheme) (c : TSecret) (hc : c.Labels.length < 4611686018427387904) (hcl : ∀ l ∈ c.Labels, LblI l) (h : THeader) (hi : h.Items.length < 4611686018427387904) : ∃ r, cover_Open s c h = some r ∧ ref03_Open s c h = some r := by
  unfold cover_Open ref03_Open cover_enter
  rw [treeOf_eq, bind_some, valid_eq, bind_some]
  cases hv : vldB s with
  | false => exact ⟨_, rfl, rfl⟩
  | true =>
    simp only [if_true, Bool.not_true, cond_false]
    have he : fixN (cover_enter_L1 ([] : List TSubset) (treeI s, true)) FUEL 0 = some (treeI s, 0) := rfl
    rw [he, bind_some, if_neg (by simp)]
    unfold ref03_ValidHeader ref03_ValidHeader_J1 cover_Open_J1
    have hbad : ∃ r : W2 × Int, some (k0, (8 : Int)) = some r ∧ (Option.bind (some false) fun x2 => bif !x2 then some (k0, (8 : Int)) else fixN (ref03_Open_L1 s c h) FUEL 0) = some r := ⟨_, rfl, rfl⟩
    by_cases h1 : (64 : Int) < (h.Items.length : Int)
    · rw [if_pos h1, if_pos h1]; exact hbad
    · rw [if_neg h1, if_neg h1]
      by_cases h2 : h.Base ≠ 0#64
      · rw [if_pos h2, if_pos h2]; exact hbad
      · rw [if_neg h2, if_neg h2]
        by_cases h3 : (0 : Int) < (h.Points.length : Int)
        · rw [if_pos h3, if_pos (show (h.Points.length : Int) ≠ 0 by omega)]; exact hbad
        · rw [if_neg h3, if_neg (show ¬ ((h.Points.length : Int) ≠ 0) by omega)]
          by_cases h4 : h.Box ≠ k0
          · rw [if_pos h4, decide_eq_true h4]; exact hbad
          · rw [if_neg h4, decide_eq_false h4]
            simp only [cond_false]
            unfold slices_ContainsFunc_9968_cover_Open_1 slices_IndexFunc_c205_cover_Open_1
            rcases valid_loop s hv h (by omega) _ 0 FUEL FUEL rfl (by omega) (fuel_lt (by omega)) (fuel_lt (by omega)) (by simp) with ⟨i, e1, e2⟩ | ⟨e1, e2, e3⟩
            · rw [show ((0 : Nat) : Int) = 0 from rfl] at e1 e2
              rw [e1, e2, bind_some, bind_some, decide_eq_true (by omega)]; exact hbad
            · rw [show ((0 : Nat) : Int) = 0 from rfl] at e1 e2
              rw [e1, e2, bind_some, bind_some, bind_some]
              exact open_loop s c hc hcl h (by omega) e3 _ 0 FUEL FUEL rfl (by omega) (fuel_lt (by omega)) (fuel_lt (by omega))
end Go.Sx

end
section
set_option linter.unusedVariables false
set_option linter.unusedSimpArgs false
set_option linter.unusedSectionVars false
set_option maxRecDepth 100000
namespace Go.Sx.Po
open Go
/-- a number modulo q -/
def fi (q : Nat) [NeZero q] (n : Nat) : Fin q := Fin.ofNat q n
/-- its word -/
abbrev fe {q : Nat} (a : Fin q) : BitVec 64 := bn a.val
section
variable {q : Nat} [NeZero q]
theorem fi_val (n : Nat) : (fi q n).val = n % q := rfl
theorem fi_self (a : Fin q) : fi q a.val = a := by apply Fin.ext; rw [fi_val]; exact Nat.mod_eq_of_lt a.isLt
theorem fi_add (a b : Nat) : fi q (a + b) = fi q a + fi q b := by apply Fin.ext; simp [fi, Fin.ofNat, Fin.add_def]
theorem fi_mul (a b : Nat) : fi q (a * b) = fi q a * fi q b := by apply Fin.ext; simp [fi, Fin.ofNat, Fin.mul_def]
theorem fi_mod (n : Nat) : fi q (n % q) = fi q n := by apply Fin.ext; rw [fi_val, fi_val, Nat.mod_mod]
theorem fi_1 : fi q 1 = 1 := rfl
theorem fi_q : fi q q = 0 := by apply Fin.ext; rw [fi_val, Nat.mod_self]; rfl
theorem fi_sub {a b : Nat} (h : b ≤ a) : fi q (a - b) = fi q a - fi q b := by
  have := fi_add (q := q) (a - b) b
  rw [Nat.sub_add_cancel h] at this
  grind
theorem fi_lt {n : Nat} (h : n < q) : (fi q n).val = n := Nat.mod_eq_of_lt h
theorem fi_inj {a b : Nat} (ha : a < q) (hb : b < q) (h : fi q a = fi q b) : a = b := by rw [← fi_lt ha, ← fi_lt hb, h]
theorem fe_fi {n : Nat} (h : n < q) : fe (fi q n) = bn n := by unfold fe; rw [fi_lt h]
theorem fmul_eq (q1 : 2 ≤ q) (q2 : q ≤ 1048575) (a b : Fin q) : poly_field_mul (bn q) [fe a, fe b] = some (fe (a * b)) := by
  rw [mul2_eq q1 q2 a.isLt b.isLt]; rfl
theorem fsub_eq (q1 : 2 ≤ q) (q2 : q ≤ 1048575) (a b : Fin q) : poly_field_sub (bn q) (fe a) (fe b) = some (fe (a - b)) := by
  have ha := a.isLt
  have hb := b.isLt
  unfold poly_field_sub fe
  rw [bn_add, bn_sub (by omega) (by omega), remU_bn (by omega) (by omega) (by omega), bind_some, Fin.sub_def]
  simp only
  congr 3; omega
theorem fminus_eq (q1 : 2 ≤ q) (q2 : q ≤ 1048575) (a b : Fin q) : ref04_minus (bn q) (fe a) (fe b) = some (fe (a - b)) := by
  have ha := a.isLt
  have hb := b.isLt
  unfold ref04_minus fe
  rw [remU_bn (by omega) (by omega) (by omega), bind_some, Nat.mod_eq_of_lt hb, bn_add, bn_sub (by omega) (by omega), remU_bn (by omega) (by omega) (by omega), bind_some, Fin.sub_def]
  simp only
  congr 3; omega
/-! inverses -/
theorem gcd_prm {q a : Nat} (hP : Prm q) (h0 : 0 < a) (h1 : a < q) : Nat.gcd q a = 1 := by
  have hg : Nat.gcd q a ∣ q := Nat.gcd_dvd_left q a
  have hga : Nat.gcd q a ∣ a := Nat.gcd_dvd_right q a
  have hle := Nat.le_of_dvd h0 hga
  have hpos : 0 < Nat.gcd q a := Nat.gcd_pos_of_pos_right _ h0
  rcases Nat.lt_or_ge (Nat.gcd q a) 2 with h | h
  · omega
  · exfalso
    obtain ⟨k, hk⟩ := hg
    have hk2 : 2 ≤ k := by
      rcases k with _ | _ | k
      · simp at hk; omega
      · simp at hk; omega
      · omega
    rcases Nat.le_total (Nat.gcd q a) k with hgk | hgk
    · refine hP.2 _ h ?_ (Nat.mod_eq_zero_of_dvd ⟨k, hk⟩)
      calc _ ≤ Nat.gcd q a * k := Nat.mul_le_mul_left _ hgk
        _ = q := hk.symm
    · refine hP.2 k hk2 ?_ (Nat.mod_eq_zero_of_dvd ⟨Nat.gcd q a, by rw [Nat.mul_comm]; exact hk⟩)
      calc k * k ≤ Nat.gcd q a * k := Nat.mul_le_mul_right _ hgk
        _ = q := hk.symm
theorem wd_bn (n : Nat) : wd (n : Int) = bn n := wd_nat n
theorem tdivN (a b : Nat) : Int.tdiv (a : Int) (b : Int) = ((a / b : Nat) : Int) := rfl
theorem tmodN (a b : Nat) : Int.tmod (a : Int) (b : Int) = ((a % b : Nat) : Int) := rfl
theorem tmodNeg (a b : Nat) : Int.tmod (-(a : Int)) (b : Int) = -((a % b : Nat) : Int) := by rw [Int.neg_tmod]; rfl
theorem quoI_some {a b : Int} (h : b ≠ 0) : quoI a b = some (w64 (a.tdiv b)) := if_neg h
theorem remI_some {a b : Int} (h : b ≠ 0) : remI a b = some (a.tmod b) := if_neg h
theorem inv_end {m : Nat} (m1 : 2 ≤ m) (m2 : m ≤ 1048575) (σ : Int) (hσ : σ = 1 ∨ σ = -1) (S : Nat) (hS : S ≤ m) :
    ∃ x : Nat, x < m ∧ (∃ j : Int, (x : Int) = σ * S + j * m) ∧ (Option.bind (remI (σ * S) (w64 (un (bn m)))) fun x12 => (Option.bind (remI (w64 (x12 + (w64 (un (bn m))))) (w64 (un (bn m)))) fun x13 => ((some (wd x13, (0 : Int)))))) = some (bn x, 0) := by
  have hun : w64 (un (bn m)) = (m : Int) := by rw [show un (bn m) = (m : Int) from by unfold un; rw [bn_nat (by omega)]]; exact w64_id (by omega) (by omega)
  have hlt := Nat.mod_lt S (show 0 < m by omega)
  have hdm := Nat.div_add_mod S m
  rw [hun, remI_some (by omega), bind_some]
  rcases hσ with rfl | rfl
  · refine ⟨S % m, hlt, ⟨-((S / m : Nat) : Int), ?_⟩, ?_⟩
    · have : ((m * (S / m) + S % m : Nat) : Int) = (S : Int) := by rw [hdm]
      grind
    · rw [Int.one_mul, tmodN, w64_id (by omega) (by omega), remI_some (by omega), bind_some, show ((S % m : Nat) : Int) + (m : Int) = ((S % m + m : Nat) : Int) from by omega, tmodN, Nat.add_mod_right, Nat.mod_mod, wd_bn]
  · refine ⟨(m - S % m) % m, Nat.mod_lt _ (by omega), ⟨((S / m : Nat) : Int) + (if S % m = 0 then 0 else 1), ?_⟩, ?_⟩
    · have : ((m * (S / m) + S % m : Nat) : Int) = (S : Int) := by rw [hdm]
      by_cases h0 : S % m = 0
      · rw [if_pos h0, h0, Nat.sub_zero, Nat.mod_self]; rw [h0] at this; grind
      · rw [if_neg h0, Nat.mod_eq_of_lt (by omega)]
        have e : ((m - S % m : Nat) : Int) = (m : Int) - ((S % m : Nat) : Int) := by omega
        rw [e]; grind
    · rw [show (-1 : Int) * (S : Int) = -(S : Int) from by omega, tmodNeg, w64_id (by omega) (by omega), remI_some (by omega), bind_some, show -((S % m : Nat) : Int) + (m : Int) = ((m - S % m : Nat) : Int) from by omega, tmodN, wd_bn]
theorem inv_loop {m : Nat} (m1 : 2 ≤ m) (m2 : m ≤ 1048575) (a : Int) : ∀ (f R N S T : Nat) (σ k l : Int), (σ = 1 ∨ σ = -1) → N < f → R ≤ m → N < R → S ≤ m → R * T + N * S = m → Nat.gcd R N = 1 → (R : Int) = (σ * S) * a + k * m → (N : Int) = (-σ * T) * a + l * m →
    ∃ x : Nat, x < m ∧ (∃ j : Int, (x : Int) * a = 1 + j * m) ∧ fixN (number_InvMod_L1 (bn m)) f ((R : Int), (N : Int), σ * S, -σ * T) = some (bn x, 0)
  | 0, R, N, S, T, σ, k, l, _, h, _, _, _, _, _, _, _ => by omega
  | f + 1, R, N, S, T, σ, k, l, hσ, hf, hR, hNR, hS, hm, hg, h1, h2 => by
    rw [fix_step]; simp only [number_InvMod_L1]
    by_cases h0 : N = 0
    · subst h0
      rw [if_neg (by simp)]
      have hR1 : R = 1 := by simpa using hg
      subst hR1
      rw [if_neg (by simp)]
      obtain ⟨x, x1, ⟨j, x2⟩, x3⟩ := inv_end m1 m2 σ hσ S hS
      refine ⟨x, x1, ⟨j * a - k, ?_⟩, x3⟩
      rw [x2]; grind
    · have hq0 : R / N * N ≤ R := Nat.div_mul_le_self R N
      have hdm := Nat.div_add_mod R N
      have hlt := Nat.mod_lt R (show 0 < N by omega)
      have hqm : R / N ≤ m := Nat.le_trans (Nat.div_le_self R N) hR
      have hgr : Nat.gcd N (R % N) = 1 := by rw [← hg, Nat.gcd_comm R N, Nat.gcd_rec N R, Nat.gcd_comm]
      rw [if_pos (by omega), quoI_some (by omega), bind_some, tdivN]
      generalize R / N = Q at *
      generalize R % N = M at *
      have hTm : T ≤ m := by
        have : 1 * T ≤ R * T := Nat.mul_le_mul_right _ (by omega)
        omega
      have hqT : Q * T ≤ m := by
        have h3 : N * (Q * T) ≤ R * T := by rw [← Nat.mul_assoc]; exact Nat.mul_le_mul_right _ (by rw [Nat.mul_comm]; exact hq0)
        have h4 : 1 * (Q * T) ≤ N * (Q * T) := Nat.mul_le_mul_right _ (by omega)
        omega
      rw [w64_id (n := ((Q : Nat) : Int)) (by omega) (by omega)]
      have e1 : w64 ((R : Int) - w64 (((Q : Nat) : Int) * (N : Int))) = ((M : Nat) : Int) := by
        have : ((Q : Nat) : Int) * (N : Int) = ((Q * N : Nat) : Int) := by push_cast; rfl
        rw [this, w64_id (n := ((Q * N : Nat) : Int)) (by omega) (by omega), w64_id (by omega) (by omega)]
        rw [Nat.mul_comm] at hq0
        have : ((N * (Q) + M : Nat) : Int) = (R : Int) := by rw [hdm]
        rw [Nat.mul_comm (Q) N]; omega
      have e2 : w64 (((Q : Nat) : Int) * (-σ * (T : Int))) = -σ * ((Q * T : Nat) : Int) := by
        have e : ((Q : Nat) : Int) * (-σ * (T : Int)) = -σ * ((Q * T : Nat) : Int) := by push_cast; grind
        rw [e]
        rcases hσ with rfl | rfl <;> exact w64_id (by omega) (by omega)
      have e3 : w64 (σ * (S : Int) - -σ * ((Q * T : Nat) : Int)) = -(-σ) * ((S + Q * T : Nat) : Int) := by
        have e : σ * (S : Int) - -σ * ((Q * T : Nat) : Int) = -(-σ) * ((S + Q * T : Nat) : Int) := by push_cast; grind
        rw [e]
        rcases hσ with rfl | rfl <;> exact w64_id (by omega) (by omega)
      rw [e1, e2, e3]
      have hc : ((N * (Q) + M : Nat) : Int) = (R : Int) := by rw [hdm]
      refine inv_loop m1 m2 a f N (M) T (S + Q * T) (-σ) l (k - ((Q : Nat) : Int) * l) (by rcases hσ with rfl | rfl <;> simp) (by omega) (by omega) hlt hTm ?_ ?_ ?_ ?_
      · have : N * (S + Q * T) + M * T = N * S + (N * (Q) + M) * T := by grind
        rw [this, hdm]; omega
      · exact hgr
      · exact h2
      · push_cast at hc ⊢
        grind
theorem inverse_loop (q1 : 2 ≤ q) (q2 : q ≤ 1048575) (α : Fin q) : ∀ (f A B : Nat) (X Y : Fin q), B < f → A ≤ q → B ≤ q → Nat.gcd A B = 1 → fi q A = X * α → fi q B = Y * α →
    ∃ x : Fin q, x * α = 1 ∧ fixN (ref01_Inverse_L1 (bn q)) f (bn A, fe X, bn B, fe Y) = some (fe x, true)
  | 0, A, B, X, Y, h, _, _, _, _, _ => by omega
  | f + 1, A, B, X, Y, hf, hA, hB, hg, h1, h2 => by
    rw [fix_step]; simp only [ref01_Inverse_L1]
    have hX := X.isLt
    have hY := Y.isLt
    by_cases h0 : B = 0
    · subst h0
      have hA1 : A = 1 := by simpa using hg
      subst hA1
      rw [if_neg (by simp)]
      exact ⟨X, h1.symm.trans fi_1, rfl⟩
    · have hlt := Nat.mod_lt A (show 0 < B by omega)
      have hdm := Nat.div_add_mod A B
      have hle := Nat.div_le_self A B
      have hq0 : A / B * B ≤ A := Nat.div_mul_le_self A B
      have hz : ¬ bn B = 0#64 := bn_ne0 (by omega) (by omega)
      have hmq := Nat.mod_lt (A / B) (show 0 < q by omega)
      have hp1 : A / B % q * Y.val ≤ 1048575 * 1048575 := Nat.mul_le_mul (by omega) (by omega)
      have hm2 := Nat.mod_lt (A / B % q * Y.val) (show 0 < q by omega)
      rw [if_pos hz, quoU_bn (by omega) (by omega) (by omega), bind_some, remU_bn (by omega) (by omega) (by omega), bind_some, bn_mul, remU_bn (by omega) (by omega) (by omega), bind_some, bn_sub (by omega) (by omega), bn_add, remU_bn (by omega) (by omega) (by omega), bind_some, bn_mul, bn_sub (by omega) (by omega)]
      have e : A - A / B * B = A % B := by rw [Nat.mul_comm] at hq0 ⊢; omega
      rw [e]
      have hA' : fi q A = fi q B * fi q (A / B) + fi q (A % B) := by rw [← fi_mul, ← fi_add, hdm]
      have hY' : fi q ((X.val + (q - A / B % q * Y.val % q)) % q) = X - fi q (A / B) * Y := by
        rw [fi_mod, fi_add, fi_self, fi_sub (by omega), fi_q, fi_mod, fi_mul, fi_mod, fi_self]; grind
      rw [show bn ((X.val + (q - A / B % q * Y.val % q)) % q) = fe (X - fi q (A / B) * Y) from by rw [← hY', fe_fi (Nat.mod_lt _ (by omega))]]
      refine inverse_loop q1 q2 α f B (A % B) Y _ (by omega) hB (by omega) ?_ h2 ?_
      · rw [← hg, Nat.gcd_comm A B, Nat.gcd_rec B A, Nat.gcd_comm]
      · grind
/-- both ways to the inverse -/
theorem inv_eq (hP : Prm q) (q2 : q ≤ 1048575) {α : Fin q} (hα : α ≠ 0) : ∃ x : Fin q, α * x = 1 ∧ number_InvMod (fe α) (bn q) = some (fe x, 0) ∧ ref01_Inverse (fe α) (bn q) = some (fe x, true) := by
  have q1 := hP.1
  have ha := α.isLt
  have h0 : 0 < α.val := by
    rcases Nat.eq_zero_or_pos α.val with h | h
    · exact absurd (Fin.ext h) hα
    · exact h
  have hg := gcd_prm hP h0 ha
  obtain ⟨x, x1, ⟨j, x2⟩, x3⟩ := inv_loop q1 q2 (α.val : Int) FUEL q α.val 0 1 (-1) 1 0 (.inr rfl) (fuel_lt (by omega)) (Nat.le_refl _) ha (by omega) (by omega) hg (by simp) (by simp)
  obtain ⟨y, y1, y2⟩ := inverse_loop q1 q2 α FUEL α.val q 1 0 (fuel_lt (by omega)) (by omega) (Nat.le_refl _) (by rw [Nat.gcd_comm]; exact hg) (by rw [fi_self]; grind) (by rw [fi_q]; grind)
  have hx : fi q x * α = 1 := by
    have h1 : fi q (x * α.val) = fi q x * α := by rw [fi_mul, fi_self]
    rw [← h1]
    apply Fin.ext
    have e1 : (1 : Fin q).val = 1 := Nat.mod_eq_of_lt (show 1 < q by omega)
    rw [fi_val, e1]
    have h2 : ((x * α.val % q : Nat) : Int) = 1 := by
      push_cast
      rw [x2, Int.add_mul_emod_self_right]
      exact Int.emod_eq_of_lt (by omega) (by omega)
    omega
  have hxy : fi q x = y := by grind
  refine ⟨y, by grind, ?_, ?_⟩
  · unfold number_InvMod number_modulus
    have hun : ∀ n : Nat, n < 9223372036854775807 → w64 (un (bn n)) = (n : Int) := fun n hn => by rw [show un (bn n) = (n : Int) from by unfold un; rw [bn_nat (by omega)]]; exact w64_id (by omega) (by omega)
    rw [show (1#64) = bn 1 from rfl, if_pos ((bn_le (by omega) (by omega)).2 (by omega)), bind_some, show (4294967296#64) = bn 4294967296 from rfl, decide_eq_true ((bn_lt (by omega) (by omega)).2 (by omega))]
    simp only [Bool.not_true, cond_false]
    rw [remU_bn (by omega) (by omega) (by omega), bind_some, Nat.mod_eq_of_lt ha, hun q (by omega), hun _ (by omega)]
    rw [show (0 : Int) = -1 * ((0 : Nat) : Int) from by simp, show (1 : Int) = -(-1) * ((1 : Nat) : Int) from by simp] 
    rw [← hxy, fe_fi x1]
    exact x3
  · unfold ref01_Inverse
    rw [show (1#64) = bn 1 from rfl, remU_bn (by omega) (by omega) (by omega), bind_some, remU_bn (by omega) (by omega) (by omega), bind_some, Nat.mod_eq_of_lt ha, Nat.mod_eq_of_lt (show 1 < q by omega)]
    have e1 : bn 1 = fe (1 : Fin q) := by unfold fe; rw [show (1 : Fin q).val = 1 from Nat.mod_eq_of_lt (show 1 < q by omega)]
    have e0 : (0#64) = fe (0 : Fin q) := rfl
    rw [e1, e0]
    exact y2
end
end Go.Sx.Po

end
section
set_option linter.unusedVariables false
set_option linter.unusedSimpArgs false
set_option maxRecDepth 100000
namespace Go.Sx.Po
open Go
/-- whether numbers are receivers, in ascending order -/
def lstB (d : Nat) (l : List Int) : Bool := (List.range l.length).all fun j => decide (0 ≤ l.getD j 0 ∧ l.getD j 0 < ((2 ^ d : Nat) : Int)) && (decide (j = 0) || decide (l.getD (j - 1) 0 < l.getD j 0))
theorem getD_some {l : List Int} {j : Nat} (h : j < l.length) : l.getD j 0 = l[j] := by simp [List.getD, h]
/-- a loop that leaves at the first element without a property -/
theorem all_itL {R : Type} (p : Nat → Bool) (D E : Option R) : ∀ (l : List Nat) (F : Nat → (Unit → Option R) → Unit → Option R), (∀ a ∈ l, ∀ nx s, F a nx s = bif p a then nx s else E) → itL F (fun _ => D) l () = bif l.all p then D else E
  | [], F, h => rfl
  | a :: l, F, h => by
    rw [itL_cons, h a (by simp), List.all_cons]
    cases p a with
    | false => rfl
    | true => rw [cond_true, Bool.true_and]; exact all_itL p D E l F (fun b hb => h b (by simp [hb]))
theorem rlist_eq {d : Nat} (h6 : d ≤ 6) (l : List Int) (hl : l.length < 4611686018427387904) : ref03_IsList (d : Int) l = some (lstB d l) := by
  unfold ref03_IsList lstB
  have := fix_range l.length (ref03_IsList_L1 (d : Int) l) (fun j (_ : Unit) => (j : Int)) (fun j nx s => bif decide (0 ≤ l.getD j 0 ∧ l.getD j 0 < ((2 ^ d : Nat) : Int)) && (decide (j = 0) || decide (l.getD (j - 1) 0 < l.getD j 0)) then nx s else some false) (fun _ => some true)
    (fun rec j hj _ => by
      simp only [ref03_IsList_L1, ref03_IsList_J2]
      rw [if_pos (by omega), getI_some hj, bind_some, bind_some, recv_eq h6, bind_some, getD_some hj, w64_nat (by omega)]
      by_cases h : 0 ≤ l[j]
      · rw [if_neg (by omega)]
        by_cases h2 : l[j] < ((2 ^ d : Nat) : Int)
        · rw [if_neg (by omega), decide_eq_true ⟨h, h2⟩]
          simp only [Bool.true_and]
          by_cases h0 : j = 0
          · rw [if_neg (by omega), decide_eq_true h0]; rfl
          · have hj1 : j - 1 < l.length := by omega
            rw [if_pos (by omega), bind_some, w64_id (by omega) (by omega), show (j : Int) - 1 = ((j - 1 : Nat) : Int) from by omega, getI_some hj1, bind_some, decide_eq_false h0, Bool.false_or, getD_some hj1]
            by_cases h1 : l[j] ≤ l[j - 1]
            · rw [decide_eq_true h1, decide_eq_false (by omega)]; rfl
            · rw [decide_eq_false h1, decide_eq_true (by omega)]; rfl
        · rw [if_pos (by omega), decide_eq_false (by omega)]; rfl
      · rw [if_pos (by omega), decide_eq_false (by omega)]; rfl)
    (fun rec _ => by simp only [ref03_IsList_L1]; rw [if_neg (by omega)]) (f := FUEL) (fuel_lt (by omega)) ()
  rw [show ((0 : Nat) : Int) = 0 from rfl] at this
  rw [this, all_itL _ (some true) (some false) _ _ (fun a _ nx s => rfl)]
  cases (List.range l.length).all _ <;> rfl
theorem lst_all {d : Nat} {l : List Int} (h : lstB d l = true) {j : Nat} (hj : j < l.length) : (0 ≤ l[j] ∧ l[j] < ((2 ^ d : Nat) : Int)) ∧ (j = 0 ∨ l.getD (j - 1) 0 < l[j]) := by
  have := List.all_eq_true.1 h j (by simpa using hj)
  rw [Bool.and_eq_true, decide_eq_true_eq, getD_some hj, Bool.or_eq_true, decide_eq_true_eq, decide_eq_true_eq] at this
  exact this
/-- the receivers of a list, aas numbers -/
theorem lst_nat {d : Nat} {l : List Int} (h : lstB d l = true) : ∃ ln : List Nat, l = ln.map (fun n : Nat => (n : Int)) ∧ (∀ n ∈ ln, n < 2 ^ d) ∧ ln.Pairwise (· < ·) := by
  refine ⟨l.map Int.toNat, ?_, ?_, ?_⟩
  · rw [List.map_map]
    apply List.ext_getElem
    · simp
    · intro i h1 h2
      have := (lst_all h h1).1.1
      simp only [List.getElem_map, Function.comp_apply]; omega
  · intro n hn
    obtain ⟨a, ha, rfl⟩ := List.mem_map.1 hn
    obtain ⟨j, hj, rfl⟩ := List.mem_iff_getElem.1 ha
    have := (lst_all h hj).1; omega
  · rw [List.pairwise_iff_getElem]
    have key : ∀ (m i : Nat) (h2 : i + m + 1 < l.length), l[i] < l[i + m + 1] := by
      intro m
      induction m with
      | zero =>
        intro i h2
        have := (lst_all h h2).2
        rw [getD_some (by omega)] at this
        simp only [Nat.add_zero, Nat.add_sub_cancel] at this ⊢
        omega
      | succ m ih =>
        intro i h2
        have h3 := ih i (by omega)
        have := (lst_all h h2).2
        rw [getD_some (by omega)] at this
        have e : l[i + (m + 1) + 1 - 1]'(by omega) = l[i + m + 1]'(by omega) := by congr 1
        rw [e] at this
        omega
    intro i j hi hj hij
    simp only [List.length_map] at hi hj
    simp only [List.getElem_map]
    have h1 := (lst_all h hi).1
    have h2 := key (j - i - 1) i (by omega)
    have e : l[i + (j - i - 1) + 1]'(by omega) = l[j] := by congr 1; omega
    rw [e] at h2
    omega
theorem lst_of {d : Nat} {ln : List Nat} (h1 : ∀ n ∈ ln, n < 2 ^ d) (h2 : ln.Pairwise (· < ·)) : lstB d (ln.map fun n : Nat => (n : Int)) = true := by
  unfold lstB
  rw [List.all_eq_true]
  intro j hj
  have hj' : j < ln.length := by simpa using hj
  have hl : j < (ln.map fun n : Nat => (n : Int)).length := by simpa using hj'
  rw [getD_some hl, List.getElem_map]
  have ha := h1 _ (List.getElem_mem hj')
  rw [Bool.and_eq_true, decide_eq_true_eq, Bool.or_eq_true, decide_eq_true_eq, decide_eq_true_eq]
  refine ⟨by omega, ?_⟩
  by_cases h0 : j = 0
  · exact .inl h0
  · right
    rw [getD_some (by simp; omega), List.getElem_map]
    have := (List.pairwise_iff_getElem.1 h2) (j - 1) j (by omega) hj' (by omega)
    omega
/-! the same -/
end Go.Sx.Po

end
section
set_option linter.unusedVariables false
set_option linter.unusedSimpArgs false
set_option maxRecDepth 100000
namespace Go.Sx.Po
open Go
theorem pmod_eq {b n p : Nat} (hb : b < 18446744073709551616) (hn : n < 18446744073709551616) (hp : 1 ≤ p) (hp2 : p < 4294967296) : number_PowMod (bn b) (bn n) (bn p) = some (bn (b ^ n % p), 0) := by
  unfold number_PowMod number_modulus
  rw [show (1#64) = bn 1 from rfl, if_pos ((bn_le (by omega) (by omega)).2 hp), bind_some, show (4294967296#64) = bn 4294967296 from rfl, decide_eq_true ((bn_lt (by omega) (by omega)).2 hp2)]
  simp only [Bool.not_true, cond_false]
  rw [power_eq hb hn (by omega) hp2, bind_some]
section
variable {s : TScheme} {d t p q g : Nat}
theorem ppow_eq (h : Vld s d t p q g) {b n : Nat} (hb : b < 18446744073709551616) (hn : n < 18446744073709551616) : poly_power s (bn b) (bn n) = some (bn (b ^ n % p)) := by
  obtain ⟨p1, p2⟩ := h.pb
  unfold poly_power
  rw [h.grp]
  simp only
  rw [pmod_eq hb hn (by omega) (by omega), bind_some]
end
/-- the value of the secret polynomial -/
def fN (root : W2) (q t x : Nat) : Nat := evN (cfs root q t) x % q
/-- the exponent of a header's base -/
def rN (root : W2) (q : Nat) (nonce : BitVec 64) : Nat := 1 + (drv (drv root (un8 41#8) nonce) (un8 3#8) 0#64).1.toNat % (q - 1)
def baseN (root : W2) (p q g : Nat) (nonce : BitVec 64) : Nat := g ^ rN root q nonce % p
def ptN (root : W2) (p q t b x : Nat) : TPoint := ⟨bn x, bn (b ^ fN root q t x % p)⟩
/-- the numbers at which a header has points -/
def xsN (d t : Nat) (ln : List Nat) : List Nat := ln.map (· + 1) ++ (List.range (t - ln.length)).map fun i => 2 ^ d + 1 + i
def hdN (root : W2) (d t p q g : Nat) (ln : List Nat) (session : W2) (nonce : BitVec 64) : THeader :=
  ⟨[], bn (baseN root p q g nonce), (xsN d t ln).map (ptN root p q t (baseN root p q g nonce)), encr (drv k0 (un8 42#8) (bn (baseN root p q g nonce ^ fN root q t 0 % p))) session, drv session (un8 53#8) 0#64⟩
theorem xsN_len {d t : Nat} {ln : List Nat} (h : ln.length ≤ t) : (xsN d t ln).length = t := by simp [xsN]; omega
section
variable {s : TScheme} {d t p q g : Nat}
theorem fN_lt (h : Vld s d t p q g) (root : W2) (x : Nat) : fN root q t x < q := Nat.mod_lt _ (by have := h.qb; omega)
theorem baseN_lt (h : Vld s d t p q g) (root : W2) (nonce : BitVec 64) : baseN root p q g nonce < p := Nat.mod_lt _ (by have := h.pb; omega)
theorem cfs_len (root : W2) : (cfs root q t).length = t + 1 := by simp [cfs]
theorem rnum_lt (h : Vld s d t p q g) (root : W2) (nonce : BitVec 64) : 1 ≤ rN root q nonce ∧ rN root q nonce < q := by
  have hb := h.big
  have := Nat.mod_lt (drv (drv root (un8 41#8) nonce) (un8 3#8) 0#64).1.toNat (show 0 < q - 1 by have := Nat.two_pow_pos d; omega)
  unfold rN; omega
theorem nonce_eq (h : Vld s d t p q g) (root : W2) (nonce : BitVec 64) : cipher_Number (drv root (un8 41#8) nonce) 0#64 (bn q - 1#64) = some (bn (rN root q nonce - 1)) ∧ ref02_Number (drv root (un8 41#8) nonce) 0#64 (bn q - 1#64) = some (bn (rN root q nonce - 1)) := by
  obtain ⟨q1, q2⟩ := h.qb
  have hb := h.big
  have := Nat.two_pow_pos d
  have ht := h.t1
  have e : rN root q nonce - 1 = (drv (drv root (un8 41#8) nonce) (un8 3#8) 0#64).1.toNat % (q - 1) := by unfold rN; omega
  rw [show (1#64) = bn 1 from rfl, bn_sub (by omega) (by omega), number_eq _ _ _ (bn_ne0 (by omega) (by omega)), rnumber_eq _ _ _ (bn_ne0 (by omega) (by omega)), mod_bn _ (by omega) (by omega), e]
  exact ⟨rfl, rfl⟩
theorem lift_eq (h : Vld s d t p q g) (root : W2) {b x : Nat} (hb : b < p) (hx : x < q) (it : List TItem) (pts : List TPoint) (k1 k2 : W2) :
    poly_Seal_1 (bn x) s ⟨it, bn b, pts, k1, k2⟩ ((cfs root q t).map bn) (bn q) = some (bn (b ^ fN root q t x % p)) := by
  obtain ⟨q1, q2⟩ := h.qb
  obtain ⟨p1, p2⟩ := h.pb
  have hf := fN_lt h root x
  have ht := h.t8
  unfold poly_Seal_1
  rw [at_eq q1 q2 hx _ (cfs_lt (by omega)) (by rw [cfs_len]; omega), bind_some]
  simp only
  rw [show evN (cfs root q t) x % q = fN root q t x from rfl, ppow_eq h (by omega) (by omega), bind_some]
theorem plist_loop (h : Vld s d t p q g) (root : W2) (l : List Int) (session : W2) (nonce : BitVec 64) (hl : l.length < 4611686018427387904) :
    fixN (poly_Seal_L1 root s l session nonce) FUEL 0 = bif lstB d l then (if s.Degree < (l.length : Int) then some (⟨[], 0#64, [], k0, k0⟩, 4) else Option.bind (poly_secret root s) fun x => poly_Seal_J3 root s l session nonce x) else some (⟨[], 0#64, [], k0, k0⟩, 2) := by
  have h64 := pow_le64 h.d6
  have hpp := Nat.two_pow_pos d
  have := fix_range l.length (poly_Seal_L1 root s l session nonce) (fun j (_ : Unit) => (j : Int)) (fun j nx u => bif decide (0 ≤ l.getD j 0 ∧ l.getD j 0 < ((2 ^ d : Nat) : Int)) && (decide (j = 0) || decide (l.getD (j - 1) 0 < l.getD j 0)) then nx u else some (⟨[], 0#64, [], k0, k0⟩, 2)) (fun _ => if s.Degree < (l.length : Int) then some (⟨[], 0#64, [], k0, k0⟩, 4) else Option.bind (poly_secret root s) fun x => poly_Seal_J3 root s l session nonce x)
    (fun rec j hj _ => by
      simp only [poly_Seal_L1, poly_Seal_J2]
      rw [if_pos (by omega), getI_some hj, bind_some, h.depth, shG_nat, bind_some, shl1 h.d6, getD_some hj, w64_nat (by omega)]
      by_cases h1 : l[j] < 0
      · rw [if_pos h1, decide_eq_false (by omega)]; rfl
      · rw [if_neg h1]
        by_cases h2 : ((2 ^ d : Nat) : Int) ≤ l[j]
        · rw [if_pos h2, decide_eq_false (by omega)]; rfl
        · rw [if_neg h2, decide_eq_true (show 0 ≤ l[j] ∧ l[j] < ((2 ^ d : Nat) : Int) by omega), Bool.true_and]
          by_cases h0 : j = 0
          · rw [if_neg (by omega), decide_eq_true h0]; rfl
          · have hj1 : j - 1 < l.length := by omega
            rw [if_pos (by omega), w64_id (by omega) (by omega), show (j : Int) - 1 = ((j - 1 : Nat) : Int) from by omega, getI_some hj1, bind_some, decide_eq_false h0, Bool.false_or, getD_some hj1]
            by_cases h3 : l[j] ≤ l[j - 1]
            · rw [decide_eq_true h3, decide_eq_false (by omega)]; rfl
            · rw [decide_eq_false h3, decide_eq_true (by omega)]; rfl)
    (fun rec _ => by simp only [poly_Seal_L1]; rw [if_neg (by omega)]) (f := FUEL) (fuel_lt (by omega)) ()
  rw [show ((0 : Nat) : Int) = 0 from rfl] at this
  rw [this, all_itL _ _ _ _ _ (fun a _ nx u => rfl)]; rfl
theorem more_loop (h : Vld s d t p q g) (root : W2) (session : W2) (nonce : BitVec 64) {b : Nat} (hb : b < p) (pts : List TPoint) (hk : pts.length ≤ t) :
    fixN (poly_Seal_L6 s session ((cfs root q t).map bn) (bn b)) FUEL (w64 (((2 ^ d : Nat) : Int) + 1), pts) = some (⟨[], bn b, pts ++ (List.range (t - pts.length)).map (fun i => ptN root p q t b (2 ^ d + 1 + i)), encr (drv k0 (un8 42#8) (bn (b ^ fN root q t 0 % p))) session, drv session (un8 53#8) 0#64⟩, 0) := by
  have h64 := pow_le64 h.d6
  have hpp := Nat.two_pow_pos d
  have ht := h.t8
  have hbig := h.big
  obtain ⟨q1, q2⟩ := h.qb
  refine fix_go _ (fun j st => st = (((2 ^ d + 1 + j : Nat) : Int), pts ++ (List.range j).map (fun i => ptN root p q t b (2 ^ d + 1 + i)))) (t - pts.length) _ (by omega) ?_ ?_ ?_
  · rw [w64_nat (by omega)]; simp
  · rintro j _ hj rfl
    refine ⟨_, rfl, fun rec => ?_⟩
    simp only [poly_Seal_L6]
    rw [if_pos (by rw [h.deg]; simp; omega), h.grp, wd_nat]
    simp only
    rw [lift_eq h root hb (show 2 ^ d + 1 + j < q by omega), bind_some, appG_some (by simp; omega), bind_some, w64_nat (by omega), List.range_succ, List.map_append, ← List.append_assoc]; rfl
  · rintro _ rfl rec
    simp only [poly_Seal_L6]
    rw [if_neg (by rw [h.deg]; simp; omega), h.grp, show (0#64) = bn 0 from rfl]
    simp only
    rw [lift_eq h root hb (show 0 < q by omega), bind_some]; rfl
theorem first_loop (h : Vld s d t p q g) (root : W2) {ln : List Nat} (hl : ∀ n ∈ ln, n < 2 ^ d) (hlen : ln.length ≤ t) (session : W2) (nonce : BitVec 64) {b : Nat} (hb : b < p) :
    fixN (poly_Seal_L5 s (ln.map fun n : Nat => (n : Int)) session ((cfs root q t).map bn) (bn b)) FUEL (0, []) = some (⟨[], bn b, (xsN d t ln).map (ptN root p q t b), encr (drv k0 (un8 42#8) (bn (b ^ fN root q t 0 % p))) session, drv session (un8 53#8) 0#64⟩, 0) := by
  have h64 := pow_le64 h.d6
  have hpp := Nat.two_pow_pos d
  have ht := h.t8
  have hbig := h.big
  obtain ⟨q1, q2⟩ := h.qb
  refine fix_go _ (fun j st => st = ((j : Int), (ln.take j).map fun n => ptN root p q t b (n + 1))) ln.length _ (by omega) (by simp) ?_ ?_
  · rintro j _ hj rfl
    refine ⟨_, rfl, fun rec => ?_⟩
    have hn := hl _ (List.getElem_mem hj)
    simp only [poly_Seal_L5]
    rw [if_pos (by simp; omega), getI_some (by simpa using hj), bind_some, List.getElem_map, w64_nat (by omega), wd_nat, h.grp]
    simp only
    rw [lift_eq h root hb (show ln[j] + 1 < q by omega), bind_some, appG_some (by simp; omega), bind_some, w64_nat (by omega), take_snoc ln j hj, List.map_append]; rfl
  · rintro _ rfl rec
    simp only [poly_Seal_L5]
    rw [if_neg (by simp), h.depth, shG_nat, bind_some, shl1 h.d6, List.take_length, more_loop h root session nonce hb _ (by simpa using hlen)]
    simp only [xsN, List.map_append, List.map_map, List.length_map]; rfl
theorem pseal_eq (h : Vld s d t p q g) (e1 : poly_valid s = some true) (root : W2) {ln : List Nat} (hl : ∀ n ∈ ln, n < 2 ^ d) (ho : ln.Pairwise (· < ·)) (hlen : ln.length ≤ t) (session : W2) (nonce : BitVec 64) :
    poly_Seal root s (ln.map fun n : Nat => (n : Int)) session nonce = some (hdN root d t p q g ln session nonce, 0) := by
  have ht := h.t8
  obtain ⟨r1, r2⟩ := rnum_lt h root nonce
  obtain ⟨p1, p2⟩ := h.pb
  obtain ⟨q1, q2⟩ := h.qb
  have hgp := h.ok.2.2.2.2.1
  unfold poly_Seal
  rw [e1, bind_some]
  simp only [Bool.not_true, cond_false]
  rw [plist_loop h root _ session nonce (by simp; omega), lst_of hl ho, cond_true, if_neg (by rw [h.deg]; simp; omega), secret_eq h, bind_some]
  unfold poly_Seal_J3 poly_Seal_J4
  rw [h.grp]
  simp only
  rw [(nonce_eq h root nonce).1, bind_some, show (1#64) = bn 1 from rfl, bn_add, show 1 + (rN root q nonce - 1) = rN root q nonce from by omega, ppow_eq h (by omega) (by omega), bind_some]
  have := first_loop h root hl hlen session nonce (baseN_lt h root nonce)
  rw [show bn (baseN root p q g nonce) = bn (g ^ rN root q nonce % p) from rfl] at this
  rw [this]; rfl
theorem rseal_eq (h : Vld s d t p q g) (e2 : ref04_Valid s = some true) (root : W2) {ln : List Nat} (hl : ∀ n ∈ ln, n < 2 ^ d) (ho : ln.Pairwise (· < ·)) (hlen : ln.length ≤ t) (session : W2) (nonce : BitVec 64) :
    ref04_Seal root s (ln.map fun n : Nat => (n : Int)) session nonce = some (hdN root d t p q g ln session nonce, 0) := by
  have ht := h.t8
  have h64 := pow_le64 h.d6
  have hpp := Nat.two_pow_pos d
  have hbig := h.big
  obtain ⟨r1, r2⟩ := rnum_lt h root nonce
  obtain ⟨p1, p2⟩ := h.pb
  obtain ⟨q1, q2⟩ := h.qb
  have hgp := h.ok.2.2.2.2.1
  have hxl := xsN_len (d := d) hlen
  have hb := baseN_lt h root nonce
  unfold ref04_Seal
  rw [e2, bind_some]
  simp only [Bool.not_true, cond_false]
  rw [h.depth, rlist_eq h.d6 _ (by simp; omega), lst_of hl ho, bind_some]
  simp only [Bool.not_true, cond_false]
  rw [if_neg (by rw [h.deg]; simp; omega)]
  unfold ref04_SealOf ref04_SealOf_J1
  rw [rsecret_eq h, bind_some, h.grp]
  simp only
  rw [(nonce_eq h root nonce).2, bind_some, show (1#64) = bn 1 from rfl, bn_add, show 1 + (rN root q nonce - 1) = rN root q nonce from by omega, rpower_eq (by omega) (by omega) (by omega) (by omega), bind_some]
  have hrun : fixN (ref04_SealOf_L2 s (ln.map fun n : Nat => (n : Int)) session ((cfs root q t).map bn) (bn (g ^ rN root q nonce % p))) FUEL (0, []) = some (hdN root d t p q g ln session nonce) := by
    rw [show g ^ rN root q nonce % p = baseN root p q g nonce from rfl]
    have hval : ∀ {x : Nat}, x < q → ref04_ValueOf (bn q) ((cfs root q t).map bn) (bn x) = some (bn (fN root q t x)) := fun hx => value_of_eq q1 q2 hx _ (cfs_lt (by omega)) (by rw [cfs_len]; omega)
    have hpow : ∀ x, ref01_Power (bn (baseN root p q g nonce)) (bn (fN root q t x)) (bn p) = some (bn (baseN root p q g nonce ^ fN root q t x % p)) := fun x => rpower_eq (by omega) (by have := fN_lt h root x; omega) (by omega) (by omega)
    refine fix_go _ (fun j st => st = ((j : Int), ((xsN d t ln).take j).map (ptN root p q t (baseN root p q g nonce)))) t _ (by omega) (by simp) ?_ ?_
    · rintro j _ hj rfl
      refine ⟨_, rfl, fun rec => ?_⟩
      have hjx : j < (xsN d t ln).length := by omega
      simp only [ref04_SealOf_L2, ref04_SealOf_J3]
      rw [h.deg, if_pos (by omega), h.depth, recv_eq h.d6, bind_some, h.grp]
      simp only
      have fin : ∀ x, (xsN d t ln)[j] = x → x < q → (Option.bind (ref04_ValueOf (bn q) ((cfs root q t).map bn) (bn x)) fun x15 => Option.bind (ref01_Power (bn (baseN root p q g nonce)) x15 (bn p)) fun x16 => Option.bind (appG 16 (((xsN d t ln).take j).map (ptN root p q t (baseN root p q g nonce))) [⟨bn x, x16⟩]) fun l17 => rec (w64 ((j : Int) + 1), l17)) = rec (((j + 1 : Nat) : Int), ((xsN d t ln).take (j + 1)).map (ptN root p q t (baseN root p q g nonce))) := by
        intro x hx hxq
        rw [hval hxq, bind_some, hpow, bind_some, appG_some (by simp; omega), bind_some, w64_nat (by omega), take_snoc _ j hjx, List.map_append, hx]; rfl
      by_cases hjl : j < ln.length
      · have hn := hl _ (List.getElem_mem hjl)
        rw [if_pos (by simp; omega), getI_some (by simpa using hjl), bind_some, List.getElem_map, wd_nat, show (1#64) = bn 1 from rfl, bn_add]
        exact fin _ (by simp [xsN, List.getElem_append, hjl]) (by omega)
      · rw [if_neg (by simp; omega), w64_nat (by omega), w64_id (n := ((2 ^ d + 1 : Nat) : Int) + (j : Int)) (by omega) (by omega), List.length_map, w64_id (by omega) (by omega), show ((2 ^ d + 1 : Nat) : Int) + (j : Int) - (ln.length : Int) = ((2 ^ d + 1 + (j - ln.length) : Nat) : Int) from by omega, wd_nat]
        exact fin _ (by simp [xsN, List.getElem_append, hjl]) (by omega)
    · rintro _ rfl rec
      simp only [ref04_SealOf_L2]
      rw [h.deg, if_neg (by omega), h.grp, show (0#64) = bn 0 from rfl]
      simp only
      rw [hval (by omega), bind_some, hpow, bind_some, List.take_of_length_le (by omega)]; rfl
  rw [hrun, bind_some]
end
theorem seal_same (root : W2) (s : TScheme) (l : List Int) (hl : l.length < 4611686018427387904) (session : W2) (nonce : BitVec 64) : ∃ r, poly_Seal root s l session nonce = some r ∧ ref04_Seal root s l session nonce = some r ∧ r.1.Items = [] ∧ r.1.Points.length ≤ 8 := by
  rcases valid_eq s with ⟨e1, e2⟩ | ⟨e1, e2, d, t, p, q, g, h⟩
  · refine ⟨(⟨[], 0#64, [], k0, k0⟩, 30), ?_, ?_, rfl, by simp⟩
    · unfold poly_Seal; rw [e1, bind_some]; rfl
    · unfold ref04_Seal; rw [e2, bind_some]; rfl
  · cases hb : lstB d l with
    | false =>
      refine ⟨(⟨[], 0#64, [], k0, k0⟩, 2), ?_, ?_, rfl, by simp⟩
      · unfold poly_Seal; rw [e1, bind_some]; simp only [Bool.not_true, cond_false]; rw [plist_loop h root l session nonce hl, hb]; rfl
      · unfold ref04_Seal; rw [e2, bind_some, h.depth, rlist_eq h.d6 l hl, hb]; rfl
    | true =>
      by_cases hlen : s.Degree < (l.length : Int)
      · refine ⟨(⟨[], 0#64, [], k0, k0⟩, 4), ?_, ?_, rfl, by simp⟩
        · unfold poly_Seal; rw [e1, bind_some]; simp only [Bool.not_true, cond_false]; rw [plist_loop h root l session nonce hl, hb, cond_true, if_pos hlen]
        · unfold ref04_Seal; rw [e2, bind_some, h.depth, rlist_eq h.d6 l hl, hb]; simp only [Bool.not_true, cond_false]; rw [bind_some]; simp only [Bool.not_true, cond_false]; rw [if_pos hlen]
      · obtain ⟨ln, rfl, h1, h2⟩ := lst_nat hb
        rw [h.deg] at hlen
        have h3 : ln.length ≤ t := by simp at hlen; omega
        have ht := h.t8
        exact ⟨_, pseal_eq h e1 root h1 h2 h3 session nonce, rseal_eq h e2 root h1 h2 h3 session nonce, rfl, by simp [hdN, xsN_len h3]; omega⟩
end Go.Sx.Po

end
section
set_option linter.unusedVariables false
set_option linter.unusedSimpArgs false
namespace Go.Sx.Po.Cy
open Go
theorem bytes_step (n : Nat) (x : BitVec 64) (l : List (BitVec 8)) (k : Nat) (hk : k < 8) (hl : l.length = k) : fixN (ref02_Bytes_L1 8) (n + 1) (x, l, (k : Int)) = fixN (ref02_Bytes_L1 8) n (x >>> 8, x.setWidth 8 :: l, ((k + 1 : Nat) : Int)) := by
  rw [fix_step]
  simp only [ref02_Bytes_L1]
  rw [if_pos (by omega), remU256, bind_some, appG_some (by simp; omega), bind_some, quo256, bind_some, rem256, w64_id (by omega) (by omega)]
  rfl
theorem bytes_eq (x : BitVec 64) : ref02_Bytes x 8 = some (w8 x) := by
  unfold ref02_Bytes
  rw [show FUEL = 18446744073709551607 + 9 from rfl, show (0 : Int) = ((0 : Nat) : Int) from rfl]
  rw [bytes_step _ _ _ 0 (by decide) rfl, bytes_step _ _ _ 1 (by decide) rfl, bytes_step _ _ _ 2 (by decide) rfl, bytes_step _ _ _ 3 (by decide) rfl, bytes_step _ _ _ 4 (by decide) rfl, bytes_step _ _ _ 5 (by decide) rfl, bytes_step _ _ _ 6 (by decide) rfl, bytes_step _ _ _ 7 (by decide) rfl, fix_step]
  simp only [ref02_Bytes_L1]
  rw [if_neg (by omega)]
  simp only [← BitVec.shiftRight_add]
  rfl
/-- the number in some bytes -/
def valB (l : List (BitVec 8)) : BitVec 64 := l.foldl (fun n c => 256#64 * n + c.setWidth 64) 0#64
theorem valB_snoc (l : List (BitVec 8)) (c : BitVec 8) : valB (l ++ [c]) = 256#64 * valB l + c.setWidth 64 := by simp [valB]
theorem value_loop (l : List (BitVec 8)) (hx : l.length ≤ 1000) : ∀ (m i fuel : Nat), l.length - i = m → i ≤ l.length → m < fuel → fixN (ref02_Value_L1 l) fuel (valB (l.take i), (i : Int)) = some (valB l)
  | m, i, 0, _, _, hf => by omega
  | 0, i, fuel + 1, hm, hi, hf => by
    rw [fix_step]; simp only [ref02_Value_L1]; rw [if_neg (by omega), List.take_of_length_le (by omega)]
  | m + 1, i, fuel + 1, hm, hi, hf => by
    rw [fix_step]; simp only [ref02_Value_L1]
    rw [if_pos (by omega), getI_some (by omega), bind_some, ← valB_snoc, ← take_snoc _ _ (by omega), w64_id (by omega) (by omega)]
    exact value_loop l hx m (i + 1) fuel (by omega) (by omega) (by omega)
theorem value_eq (l : List (BitVec 8)) (h : l.length ≤ 1000) : ref02_Value l = some (valB l) := value_loop l h _ 0 FUEL rfl (by omega) (fuel_lt (by omega))
theorem shl_or (a : BitVec 64) (c : BitVec 8) : (a <<< 8) ||| (c.setWidth 64) = 256#64 * a + c.setWidth 64 := by
  have e1 : 256#64 * a = a <<< 8 := by
    apply BitVec.eq_of_toNat_eq
    rw [BitVec.toNat_mul, BitVec.toNat_shiftLeft, Nat.shiftLeft_eq, Nat.mul_comm]; rfl
  rw [e1]
  symm
  apply BitVec.add_eq_or_of_and_eq_zero
  apply BitVec.eq_of_getLsbD_eq
  intro j hj
  rw [BitVec.getLsbD_and, BitVec.getLsbD_shiftLeft, BitVec.getLsbD_setWidth, BitVec.getLsbD_zero]
  by_cases h : j < 8
  · simp [h]
  · simp [BitVec.getLsbD_of_ge c j (by omega)]
theorem byt_wd (x : BitVec 64) (k : Nat) : (byt x k).setWidth 64 = wd (bt x k) := by
  rw [wd_bt]
  apply BitVec.eq_of_toNat_eq
  unfold byt
  rw [BitVec.toNat_setWidth, BitVec.toNat_setWidth, BitVec.toNat_and]
  have : (255#64 : BitVec 64).toNat = 2 ^ 8 - 1 := rfl
  rw [this, Nat.and_two_pow_sub_one_eq_mod]
  omega
theorem val_st (x : BitVec 64) (k : Nat) (hk : k < 8) : 256#64 * (x >>> (64 - 8 * k)) + (byt x k).setWidth 64 = x >>> (64 - 8 * (k + 1)) := by
  rw [← shl_or, byt_wd, shl_step x k hk]
theorem val_w8 (x : BitVec 64) : valB (w8 x) = x := by
  have h0 := val_st x 0 (by decide)
  have h1 := val_st x 1 (by decide)
  have h2 := val_st x 2 (by decide)
  have h3 := val_st x 3 (by decide)
  have h4 := val_st x 4 (by decide)
  have h5 := val_st x 5 (by decide)
  have h6 := val_st x 6 (by decide)
  have h7 := val_st x 7 (by decide)
  have hz : x >>> 64 = 0#64 := by apply BitVec.eq_of_toNat_eq; rw [BitVec.toNat_ushiftRight, Nat.shiftRight_eq_div_pow, Nat.div_eq_of_lt x.isLt]; rfl
  simp only [Nat.mul_zero, Nat.sub_zero, hz] at h0
  simp only [valB, w8, List.foldl_cons, List.foldl_nil, h0, h1, h2, h3, h4, h5, h6, h7]
  simp
theorem words_eq (p : W2) : ref02_words p = some p := by
  unfold ref02_words
  rw [show ((kby p).take 8).drop 0 = w8 p.1 from rfl, show ((kby p).take 16).drop 8 = w8 p.2 from rfl, value_eq _ (by rw [w8_len]; omega), bind_some, value_eq _ (by rw [w8_len]; omega), bind_some, val_w8, val_w8]
theorem rotr_eq (x : BitVec 64) (n : Nat) (h1 : 1 ≤ n) (h2 : n ≤ 63) : ref02_rotr x (n : Int) = some (rotl x (64 - n)) := by
  unfold ref02_rotr rotl
  have e1 : shG (n : Int) = some n := by unfold shG; rw [if_pos (by omega)]; rfl
  have e2 : shG (w64 (64 - (n : Int))) = some (64 - n) := by rw [w64_id (by omega) (by omega)]; unfold shG; rw [if_pos (by omega)]; congr 1; omega
  rw [e1, bind_some, e2, bind_some, BitVec.or_comm, show 64 - (64 - n) = n from by omega]
theorem rotl_eq (x : BitVec 64) (n : Nat) (h1 : 1 ≤ n) (h2 : n ≤ 63) : ref02_rotl x (n : Int) = some (rotl x n) := by
  unfold ref02_rotl
  rw [w64_id (by omega) (by omega), show (64 : Int) - (n : Int) = ((64 - n : Nat) : Int) from by omega, rotr_eq x (64 - n) (by omega) (by omega), bind_some, show 64 - (64 - n) = n from by omega]
def rks (k : W2) (n : Nat) : List (BitVec 64) := (List.range n).map fun i => (ks k i).2
theorem rks_succ (k : W2) (n : Nat) : rks k (n + 1) = rks k n ++ [(ks k n).2] := by simp [rks, List.range_succ]
theorem rks_len (k : W2) (n : Nat) : (rks k n).length = n := by simp [rks]
theorem rk_loop (k : W2) : ∀ (m i f : Nat), i + m = 31 → m < f → fixN ref02_roundKeys_L1 f ((ks k i).1, (ks k i).2, rks k (i + 1), (i : Int)) = some (rks k 32)
  | m, i, 0, _, h => by omega
  | 0, i, f + 1, hi, _ => by
    obtain rfl : i = 31 := by omega
    rw [fix_step]; simp only [ref02_roundKeys_L1]; rw [if_neg (by omega)]
  | m + 1, i, f + 1, hi, hf => by
    rw [fix_step]; simp only [ref02_roundKeys_L1]
    have r1 := rotr_eq (ks k i).1 8 (by omega) (by omega)
    have r2 := rotl_eq (ks k i).2 3 (by omega) (by omega)
    rw [show ((8 : Nat) : Int) = 8 from rfl] at r1
    rw [show ((3 : Nat) : Int) = 3 from rfl] at r2
    rw [if_pos (by omega), r1, bind_some, r2, bind_some, appG_some (by rw [rks_len]; simp; omega), bind_some, w64_id (by omega) (by omega)]
    have e1 : (((ks k i).2 + rotl (ks k i).1 (64 - 8)) ^^^ wd (i : Int)) = (ks k (i + 1)).1 := by simp [ks, rnd, BitVec.add_comm]
    have e2 : rotl (ks k i).2 3 ^^^ (ks k (i + 1)).1 = (ks k (i + 1)).2 := by simp [ks, rnd]
    rw [e1, e2, ← rks_succ]
    exact rk_loop k m (i + 1) f (by omega) (by omega)
theorem rk_eq (k : W2) : ref02_roundKeys k = some (rks k 32) := by
  unfold ref02_roundKeys
  rw [words_eq, bind_some]
  exact rk_loop k 31 0 FUEL (by omega) (fuel_lt (by omega))
theorem rkey2_loop (l : List (BitVec 8)) (hl : l.length = 16) : ∀ (m i fuel : Nat) (p : W2), 16 - i = m → i ≤ 16 → m < fuel → (kby p).take i = l.take i → fixN (ref02_key_L1 l) fuel ((i : Int), p) = some (ofB l)
  | m, i, 0, p, _, _, hf, _ => by omega
  | 0, i, fuel + 1, p, hm, hi, hf, hp => by
    rw [fix_step]; simp only [ref02_key_L1, ref02_key_J2]; rw [if_neg (by omega)]
    obtain rfl : i = 16 := by omega
    simp only [cond_false]
    congr 1
    apply kby_inj
    rw [kby_ofB (by omega), ← hp, List.take_of_length_le (by simp [kby])]
  | m + 1, i, fuel + 1, p, hm, hi, hf, hp => by
    rw [fix_step]; simp only [ref02_key_L1, ref02_key_J2]
    have hk : i < (kby p).length := by rw [kby_len]; omega
    rw [if_pos (by omega), decide_eq_true (by omega)]
    simp only [cond_true]
    rw [getI_some (by omega), bind_some, getI_some hk, bind_some]
    have hks : kset p (i : Int) (l[i]'(by omega)) = some (ofB ((kby p).set i (l[i]'(by omega)))) := by unfold kset; rw [if_pos (by omega)]; rfl
    rw [hks, bind_some, w64_id (by omega) (by omega)]
    refine rkey2_loop l hl m (i + 1) fuel _ (by omega) (by omega) (by omega) ?_
    have hq := (kset_eq hks).2
    rw [Int.toNat_natCast] at hq
    rw [hq, take_snoc _ i (by rw [List.length_set]; exact hk), take_snoc l i (by omega), List.take_set_of_le (Nat.le_refl i), hp]
    simp
theorem block_eq (x y : BitVec 64) : ref02_block x y = some (x, y) := by
  unfold ref02_block ref02_key
  rw [bytes_eq, bind_some, bytes_eq, bind_some, appG_some (by simp [w8]), bind_some]
  have := rkey2_loop (w8 x ++ w8 y) (by simp [w8]) _ 0 FUEL k0 rfl (by omega) (fuel_lt (by omega)) (by simp)
  rw [show ((0 : Nat) : Int) = 0 from rfl] at this
  rw [this, bind_some, show w8 x ++ w8 y = kby (x, y) ++ [] from rfl, ofB_kby]
theorem decTo_st (k b : W2) (j : Nat) (h : j < 32) : decTo k b j = rndB (decTo k b (j + 1)) (ks k j).2 := by
  unfold decTo
  rw [show 32 - j = 32 - (j + 1) + 1 from by omega, List.range_succ, List.foldl_append, List.foldl_cons, List.foldl_nil, show 31 - (32 - (j + 1)) = j from by omega]
theorem dec_loop (k b : W2) : ∀ (i f : Nat), i ≤ 32 → i < f → fixN (ref02_Decrypt_L1 (rks k 32)) f ((decTo k b i).1, (decTo k b i).2, (i : Int) - 1) = some (decr k b)
  | i, 0, _, h => by omega
  | 0, f + 1, _, _ => by
    rw [fix_step]; simp only [ref02_Decrypt_L1]; rw [if_neg (by omega), block_eq, bind_some]; rfl
  | i + 1, f + 1, hi, hf => by
    rw [fix_step]; simp only [ref02_Decrypt_L1]
    have r1 := rotr_eq ((decTo k b (i + 1)).2 ^^^ (decTo k b (i + 1)).1) 3 (by omega) (by omega)
    have r2 := rotl_eq (((decTo k b (i + 1)).1 ^^^ (ks k i).2) - rotl ((decTo k b (i + 1)).2 ^^^ (decTo k b (i + 1)).1) (64 - 3)) 8 (by omega) (by omega)
    rw [show ((8 : Nat) : Int) = 8 from rfl] at r2
    rw [show ((3 : Nat) : Int) = 3 from rfl] at r1
    have hg : getI (rks k 32) (i : Int) = some (ks k i).2 := by
      rw [getI_some (by rw [rks_len]; omega)]; simp [rks]
    rw [if_pos (by omega), r1, bind_some, show ((i + 1 : Nat) : Int) - 1 = (i : Int) from by omega, hg, bind_some, r2, bind_some, w64_id (by omega) (by omega)]
    have ih := dec_loop k b i f (by omega) (by omega)
    rw [decTo_st k b i (by omega)] at ih
    unfold rndB at ih
    rw [BitVec.xor_comm (decTo k b (i + 1)).2]
    exact ih
theorem rdecr_eq (k b : W2) : ref02_Decrypt k b = some (decr k b) := by
  unfold ref02_Decrypt
  rw [words_eq, bind_some, rk_eq, bind_some]
  exact dec_loop k b 32 FUEL (by omega) (fuel_lt (by omega))
end Go.Sx.Po.Cy

end
