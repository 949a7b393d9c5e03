/- Trees, plainly (no program in sight): nodes below nodes, siblings; which labels lead to a subset. -/
import Derived.Test.YtecempahccgijaaLb
set_option linter.unusedVariables false
set_option linter.unusedSimpArgs false
set_option maxRecDepth 100000
namespace Go.Sx
open Go

theorem below_iff {w v : Nat} (hw : 1 ≤ w) : belowB w v = true ↔ ∃ k, 2 ^ k ≤ w ∧ v = w / 2 ^ k := by
  constructor
  · intro h
    unfold belowB at h
    obtain ⟨h1, h2⟩ := of_decide_eq_true h
    exact ⟨_, Nat.le_trans (Nat.pow_le_pow_right (by omega) (by omega)) (Nat.log2_self_le (by omega)), h2.symm⟩
  · rintro ⟨k, h1, rfl⟩
    unfold belowB
    have h2 := log2_divk h1
    have h3 := log2_div w k h1
    apply decide_eq_true
    refine ⟨by omega, ?_⟩
    rw [h2, show Nat.log2 w - (Nat.log2 w - k) = k from by omega]
theorem below_refl {w : Nat} (hw : 1 ≤ w) : belowB w w = true := (below_iff hw).2 ⟨0, by simpa using hw, by simp⟩
theorem below_pos {w v : Nat} (hw : 1 ≤ w) (h : belowB w v = true) : 1 ≤ v := by
  obtain ⟨k, h1, rfl⟩ := (below_iff hw).1 h
  exact div_pos' h1
theorem pow_div_le {w i j : Nat} (h : 2 ^ (i + j) ≤ w) : 2 ^ j ≤ w / 2 ^ i := by
  rw [Nat.le_div_iff_mul_le (Nat.two_pow_pos i), ← Nat.pow_add, Nat.add_comm]; exact h
theorem pow_div_le' {w i j : Nat} (h : 2 ^ j ≤ w / 2 ^ i) : 2 ^ (i + j) ≤ w := by
  rw [Nat.le_div_iff_mul_le (Nat.two_pow_pos i), ← Nat.pow_add, Nat.add_comm] at h; exact h
theorem below_trans {a b c : Nat} (ha : 1 ≤ a) (h1 : belowB a b = true) (h2 : belowB b c = true) : belowB a c = true := by
  have hb := below_pos ha h1
  obtain ⟨i, p1, rfl⟩ := (below_iff ha).1 h1
  obtain ⟨j, p2, rfl⟩ := (below_iff hb).1 h2
  exact (below_iff ha).2 ⟨i + j, pow_div_le' p2, by rw [Nat.div_div_eq_div_mul, ← Nat.pow_add]⟩
theorem below_log {w v : Nat} (hw : 1 ≤ w) (h : belowB w v = true) : Nat.log2 v ≤ Nat.log2 w := by
  unfold belowB at h
  exact (of_decide_eq_true h).1
theorem below_same {a b c : Nat} (ha : 1 ≤ a) (h1 : belowB a b = true) (h2 : belowB a c = true) (he : Nat.log2 b = Nat.log2 c) : b = c := by
  unfold belowB at h1 h2
  have p1 := (of_decide_eq_true h1).2
  have p2 := (of_decide_eq_true h2).2
  rw [he] at p1; rw [← p1, p2]
/-! siblings -/
theorem sib_fin : ∀ n : Fin 128, (n.1 ^^^ 1) / 2 = n.1 / 2 ∧ n.1 ^^^ 1 ≠ n.1 ∧ n.1 ^^^ 1 < 128 ∧ (2 ≤ n.1 → Nat.log2 (n.1 ^^^ 1) = Nat.log2 n.1 ∧ 2 ≤ n.1 ^^^ 1) ∧ n.1 ^^^ 1 ^^^ 1 = n.1 := by decide +kernel
theorem sib_two : ∀ n : Fin 128, ∀ b : Fin 2, (2 * (n.1 / 2) + b.1 = n.1 ∨ 2 * (n.1 / 2) + b.1 = n.1 ^^^ 1) := by decide +kernel
theorem sib_eq {a b : Nat} (hb : b < 128) (h : a / 2 = b / 2) (hne : a ≠ b) : a = b ^^^ 1 := by
  have := sib_two ⟨b, hb⟩ ⟨a % 2, Nat.mod_lt _ (by omega)⟩
  have h2 : 2 * (b / 2) + a % 2 = a := by rw [← h]; omega
  simp only [h2] at this
  rcases this with h3 | h3
  · exact absurd h3 hne
  · exact h3
theorem sib_half {n : Nat} (h : n < 128) : (n ^^^ 1) / 2 = n / 2 := (sib_fin ⟨n, h⟩).1
theorem sib_ne {n : Nat} (h : n < 128) : n ^^^ 1 ≠ n := (sib_fin ⟨n, h⟩).2.1
theorem sib_lt {n : Nat} (h : n < 128) : n ^^^ 1 < 128 := (sib_fin ⟨n, h⟩).2.2.1
theorem sib_log {n : Nat} (h : n < 128) (h2 : 2 ≤ n) : Nat.log2 (n ^^^ 1) = Nat.log2 n := ((sib_fin ⟨n, h⟩).2.2.2.1 h2).1
theorem sib_two_le {n : Nat} (h : n < 128) (h2 : 2 ≤ n) : 2 ≤ n ^^^ 1 := ((sib_fin ⟨n, h⟩).2.2.2.1 h2).2
theorem sib_sib {n : Nat} (h : n < 128) : n ^^^ 1 ^^^ 1 = n := (sib_fin ⟨n, h⟩).2.2.2.2
theorem bit_xor {n : Nat} (h : n < 128) : bitI .xor (n : Int) 1 = ((n ^^^ 1 : Nat) : Int) := by
  have : ∀ n : Fin 128, bitI .xor (n.1 : Int) 1 = ((n.1 ^^^ 1 : Nat) : Int) := by decide +kernel
  exact this ⟨n, h⟩
/-! paths -/
theorem pathN_mem {w k n : Nat} : n ∈ pathN w k ↔ ∃ j, j < k ∧ n = w / 2 ^ j := by
  induction k with
  | zero => simp [pathN]
  | succ k ih =>
    rw [pathN, List.mem_cons, ih]
    constructor
    · rintro (rfl | ⟨j, hj, rfl⟩)
      · exact ⟨k, by omega, rfl⟩
      · exact ⟨j, by omega, rfl⟩
    · rintro ⟨j, hj, rfl⟩
      rcases Nat.lt_or_ge j k with h | h
      · exact .inr ⟨j, h, rfl⟩
      · obtain rfl : j = k := by omega
        exact .inl rfl
theorem labK_mem {k : BitVec 8} {d leaf : Nat} {x : Nat × Nat} : ∀ {j : Nat}, x ∈ labK k d leaf j ↔ ∃ i t, i < j ∧ t ≤ i ∧ x = (leaf / 2 ^ (i + 1), (leaf / 2 ^ t) ^^^ 1) ∧ subN k d x.1 x.2 = true
  | 0 => by simp [labK]
  | j + 1 => by
    rw [labK, List.mem_append, labK_mem, List.mem_map]
    constructor
    · rintro (⟨p, hp, rfl⟩ | ⟨i, t, h1, h2, h3⟩)
      · rw [List.mem_filter, pathN_mem] at hp
        obtain ⟨⟨t, ht, rfl⟩, hs⟩ := hp
        exact ⟨j, t, by omega, by omega, rfl, hs⟩
      · exact ⟨i, t, by omega, h2, h3⟩
    · rintro ⟨i, t, h1, h2, rfl, h4⟩
      rcases Nat.lt_or_ge i j with h | h
      · exact .inr ⟨i, t, h, h2, rfl, h4⟩
      · obtain rfl : i = j := by omega
        exact .inl ⟨_, List.mem_filter.2 ⟨pathN_mem.2 ⟨t, by omega, rfl⟩, h4⟩, rfl⟩
/-- no special node strictly between -/
theorem fst0 {d : Nat} {l : List Nat} (hl : ∀ n ∈ l, 1 ≤ n) : fstS d l = 0 ↔ ∀ n ∈ l, spcl d n = false := by
  unfold fstS
  cases h : l.find? (spcl d) with
  | none =>
    rw [List.find?_eq_none] at h
    exact ⟨fun _ n hn => by simpa using h n hn, fun _ => rfl⟩
  | some a =>
    have h1 := List.find?_some h
    have h2 := List.mem_of_find?_eq_some h
    constructor
    · intro h0; simp at h0; have := hl a h2; omega
    · intro h0; rw [h0 a h2] at h1; cases h1
theorem subN_up {k : BitVec 8} {d n m i K : Nat} (hm : m < 128) (hK : 2 ^ K ≤ m) (hn : n = m / 2 ^ K) (hi : i < K) (h : subN k d n m = true) : subN k d n (m / 2 ^ i) = true := by
  unfold subN at h ⊢
  simp only [Bool.or_eq_true, decide_eq_true_eq] at h ⊢
  rcases h with h | h
  · exact .inl h
  · refine .inr ?_
    have hi2 : 2 ^ i ≤ m := Nat.le_trans (Nat.pow_le_pow_right (by omega) (by omega)) hK
    have l1 := log2_div m K hK
    have l2 := log2_div m i hi2
    rw [← hn] at l1
    have hp : ∀ a b, b + 1 ≤ Nat.log2 a → 1 ≤ a → ∀ x ∈ pathN (a / 2) b, 1 ≤ x := by
      intro a b hb ha x hx
      obtain ⟨j, hj, rfl⟩ := pathN_mem.1 hx
      rw [Nat.div_div_eq_div_mul, show 2 * 2 ^ j = 2 ^ (j + 1) from by rw [Nat.pow_succ, Nat.mul_comm]]
      exact div_pos' ((Nat.le_log2 (by omega)).1 (by omega))
    rw [fst0 (hp _ _ (by omega) (by have := Nat.two_pow_pos K; omega))] at h
    rw [fst0 (hp _ _ (by omega) (div_pos' hi2))]
    intro x hx
    obtain ⟨j, hj, rfl⟩ := pathN_mem.1 hx
    refine h _ (pathN_mem.2 ⟨i + j, by omega, ?_⟩)
    rw [Nat.div_div_eq_div_mul, Nat.div_div_eq_div_mul, Nat.div_div_eq_div_mul, Nat.pow_add]
    congr 1
    exact Nat.mul_left_comm _ _ _
/-- two paths that part: the nodes at which they do are siblings -/
theorem part_at {f g : Nat → Nat} : ∀ (k : Nat), f 0 = g 0 → f k ≠ g k → ∃ i, i < k ∧ f i = g i ∧ f (i + 1) ≠ g (i + 1)
  | 0, h, hk => absurd h hk
  | k + 1, h, hk => by
    by_cases hk' : f k = g k
    · exact ⟨k, by omega, hk', hk⟩
    · obtain ⟨i, h1, h2⟩ := part_at k h hk'
      exact ⟨i, by omega, h2⟩
/-- a leaf that is below n and not below m, which is strictly below n: a sibling of a node above the leaf is above m -/
theorem part_label {leaf n m K k d : Nat} (hl : leaf < 128) (hK : 2 ^ K ≤ leaf) (hn : n = leaf / 2 ^ K) (hk : 2 ^ (k + 1) ≤ m) (hm : m < 128) (hn2 : n = m / 2 ^ (k + 1)) (hle : Nat.log2 m ≤ Nat.log2 leaf) (hnb : belowB leaf m = false) :
    ∃ t i, t < K ∧ i ≤ k ∧ (leaf / 2 ^ t) ^^^ 1 = m / 2 ^ i := by
  have lp : 1 ≤ leaf := by have := Nat.two_pow_pos K; omega
  have l1 := log2_div leaf K hK
  have l2 := log2_div m (k + 1) hk
  rw [← hn] at l1; rw [← hn2] at l2
  have hKk : k + 1 ≤ K := by omega
  obtain ⟨i, hi, e1, e2⟩ := part_at (f := fun i => m / 2 ^ (k + 1 - i)) (g := fun i => leaf / 2 ^ (K - i)) (k + 1) (by simp only [Nat.sub_zero]; rw [← hn, ← hn2]) (by
    simp only [Nat.sub_self, Nat.pow_zero, Nat.div_one]
    intro e
    have : belowB leaf m = true := (below_iff lp).2 ⟨K - (k + 1), Nat.le_trans (Nat.pow_le_pow_right (by omega) (by omega)) hK, e⟩
    rw [this] at hnb; cases hnb)
  refine ⟨K - (i + 1), k + 1 - (i + 1), by omega, by omega, ?_⟩
  have hh : ∀ a b, a / 2 ^ (b + 1) = a / 2 ^ b / 2 := fun a b => by rw [Nat.pow_succ, Nat.div_div_eq_div_mul]
  have e3 : m / 2 ^ (k + 1 - (i + 1)) / 2 = leaf / 2 ^ (K - (i + 1)) / 2 := by
    rw [← hh, ← hh, show k + 1 - (i + 1) + 1 = k + 1 - i from by omega, show K - (i + 1) + 1 = K - i from by omega]; exact e1
  exact (sib_eq (Nat.lt_of_le_of_lt (Nat.div_le_self _ _) hl) e3 e2).symm
/-- whether a label leads to a subset, plainly -/
def ldN (k : BitVec 8) (n m : Nat) (a : Nat × Nat) : Bool := if k = 1#8 ∨ m = 0 then decide (a.1 = n ∧ a.2 = m) else decide (a.1 = n ∧ 1 ≤ a.2) && belowB a.2 n && belowB m a.2
/-- what a subset is, plainly -/
def subP (k : BitVec 8) (d n m : Nat) : Bool :=
  decide (1 ≤ n ∧ n < 2 ^ (d + 1)) && (if k = 1#8 then decide (m = 0) else if m = 0 then decide (n = 1) else decide (m < 2 ^ (d + 1) ∧ m ≠ n) && belowB m n && subN k d n m)
theorem leaf_log {d u : Nat} (hu : u < 2 ^ d) : Nat.log2 (2 ^ d + u) = d := by
  rw [Nat.log2_eq_iff (by have := Nat.two_pow_pos d; omega), Nat.pow_succ]; omega
theorem node_log {d n : Nat} (h1 : 1 ≤ n) (h : n < 2 ^ (d + 1)) : Nat.log2 n ≤ d := by
  have := (Nat.log2_lt (n := n) (k := d + 1) (by omega)).2 h; omega
theorem lead_mem {k : BitVec 8} {d u n m : Nat} (hd : d ≤ 6) (hu : u < 2 ^ d) (h : subP k d n m = true) : (labN k d u).any (ldN k n m) = memB (2 ^ d + u) n m := by
  have h64 := pow_le64 hd
  have hp := Nat.two_pow_pos d
  have hlog := leaf_log hu
  have hpow : 2 ^ (d + 1) = 2 * 2 ^ d := by rw [Nat.pow_succ, Nat.mul_comm]
  have lp : 1 ≤ 2 ^ d + u := by omega
  unfold subP at h
  simp only [Bool.and_eq_true, decide_eq_true_eq] at h
  obtain ⟨⟨hn1, hn2⟩, h⟩ := h
  -- a node above the leaf
  have anc : belowB (2 ^ d + u) n = true ↔ n = 1 ∨ n ∈ pathN (2 ^ d + u) d := by
    rw [below_iff lp, pathN_mem]
    constructor
    · rintro ⟨j, h1, rfl⟩
      have hj : j ≤ d := by have := log2_div _ _ h1; omega
      rcases Nat.lt_or_ge j d with hj2 | hj2
      · exact .inr ⟨j, hj2, rfl⟩
      · obtain rfl : j = d := by omega
        left
        rw [Nat.add_div_left _ hp, Nat.div_eq_of_lt hu]
    · rintro (rfl | ⟨j, hj, rfl⟩)
      · exact ⟨d, by omega, by rw [Nat.add_div_left _ hp, Nat.div_eq_of_lt hu]⟩
      · exact ⟨j, Nat.le_trans (Nat.pow_le_pow_right (by omega) (by omega)) (Nat.le_add_right _ _), rfl⟩
  by_cases hk : k = 1#8
  · rw [if_pos hk, decide_eq_true_eq] at h
    subst h
    unfold memB labN
    rw [if_pos hk, decide_eq_true rfl, Bool.true_or, Bool.and_true, Bool.eq_iff_iff, anc, List.any_cons, Bool.or_eq_true, List.any_map, List.any_eq_true]
    unfold ldN
    simp only [hk, true_or, if_true, decide_eq_true_eq, Function.comp, and_true]
    constructor
    · rintro (h | ⟨x, hx, rfl⟩)
      · exact .inl h.symm
      · exact .inr hx
    · rintro (h | h)
      · exact .inl h.symm
      · exact .inr ⟨n, h, rfl⟩
  · rw [if_neg hk] at h
    by_cases hm : m = 0
    · rw [if_pos hm, decide_eq_true_eq] at h
      subst hm; subst h
      unfold memB
      rw [decide_eq_true rfl, Bool.true_or, Bool.and_true, anc.2 (.inl rfl), List.any_eq_true]
      exact ⟨(1, 0), by simp [labN], by simp [ldN]⟩
    · rw [if_neg hm] at h
      simp only [Bool.and_eq_true, decide_eq_true_eq] at h
      obtain ⟨⟨⟨hm2, hne⟩, hb⟩, hs⟩ := h
      have hm1 : 1 ≤ m := by omega
      obtain ⟨j, hj1, hj2, hj3⟩ := below_split hm1 hn1 hb hne
      have hlm := node_log hm1 hm2
      unfold memB
      rw [decide_eq_false hm, Bool.false_or, Bool.eq_iff_iff, List.any_eq_true, Bool.and_eq_true, Bool.not_eq_true']
      have hld : ∀ a, ldN k n m a = true ↔ (a.1 = n ∧ 1 ≤ a.2) ∧ belowB a.2 n = true ∧ belowB m a.2 = true := fun a => by
        unfold ldN; rw [if_neg (by simp [hk, hm])]; simp only [Bool.and_eq_true, decide_eq_true_eq, and_assoc]
      constructor
      · rintro ⟨a, ha, hl⟩
        obtain ⟨⟨e1, e2⟩, e3, e4⟩ := (hld a).1 hl
        unfold labN at ha
        rw [if_neg hk] at ha
        rcases List.mem_cons.1 ha with rfl | ha
        · simp at e2
        · obtain ⟨i, t, h1, h2, h3, _⟩ := labK_mem.1 ha
          rw [h3] at e1 e2 e3 e4
          simp only at e1 e2 e3 e4
          have hi2 : 2 ^ (i + 1) ≤ 2 ^ d + u := Nat.le_trans (Nat.pow_le_pow_right (by omega) (by omega)) (Nat.le_add_right _ _)
          have ht2 : 2 ^ t ≤ 2 ^ d + u := Nat.le_trans (Nat.pow_le_pow_right (by omega) (by omega)) (Nat.le_add_right _ _)
          refine ⟨(below_iff lp).2 ⟨i + 1, hi2, e1.symm⟩, ?_⟩
          cases hc : belowB (2 ^ d + u) m with
          | false => rfl
          | true =>
            exfalso
            have hlt : (2 ^ d + u) / 2 ^ t < 128 := Nat.lt_of_le_of_lt (Nat.div_le_self _ _) (by omega)
            have lt1 := log2_div _ _ ht2
            have hp2 : 2 ≤ (2 ^ d + u) / 2 ^ t := by
              have hq : 2 ^ (t + 1) ≤ 2 ^ d + u := Nat.le_trans (Nat.pow_le_pow_right (by omega) (by omega)) hi2
              have := pow_div_le (i := t) (j := 1) hq
              simpa using this
            have h5 := below_trans lp hc e4
            have h6 : belowB (2 ^ d + u) ((2 ^ d + u) / 2 ^ t) = true := (below_iff lp).2 ⟨t, ht2, rfl⟩
            exact sib_ne hlt (below_same lp h5 h6 (sib_log hlt hp2))
      · rintro ⟨h1, h2⟩
        obtain ⟨K, hK1, hK2⟩ := (below_iff lp).1 h1
        obtain ⟨t, i, ht, hi, e⟩ := part_label (d := d) (by omega) hK1 hK2 hj3 (by omega) hj2 (by omega) h2
        have hKd := log2_div _ _ hK1
        have hi2 : 2 ^ i ≤ m := Nat.le_trans (Nat.pow_le_pow_right (by omega) (by omega)) hj3
        refine ⟨(n, m / 2 ^ i), ?_, (hld _).2 ⟨⟨rfl, div_pos' hi2⟩, ?_, (below_iff hm1).2 ⟨i, hi2, rfl⟩⟩⟩
        · unfold labN
          rw [if_neg hk]
          refine List.mem_cons_of_mem _ (labK_mem.2 ⟨K - 1, t, by omega, by omega, ?_, subN_up (by omega) hj3 hj2 (by omega) hs⟩)
          rw [show K - 1 + 1 = K from by omega, ← hK2, e]
        · refine (below_iff (div_pos' hi2)).2 ⟨j + 1 - i, ?_, ?_⟩
          · exact pow_div_le (by rw [show i + (j + 1 - i) = j + 1 from by omega]; exact hj3)
          · rw [Nat.div_div_eq_div_mul, ← Nat.pow_add, show i + (j + 1 - i) = j + 1 from by omega]; exact hj2
end Go.Sx
