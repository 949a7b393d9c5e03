/- merged by mg.py: Tm Fd Kn Cv Cp Cq LawCo -/
import Derived.Test.YtecempahccgijaaPz1
import Derived.Test.YtecempahccgijaaCcM
import Derived.Test.YtecempahccgijaaOpnCo
section
/- Trees, plainly (no program in sight): nodes below nodes, siblings; which labels lead to a subset. -/
set_option linter.unusedVariables false
set_option linter.unusedSimpArgs false
set_option maxRecDepth 100000
namespace Go.Sx
open Go

theorem below_iff {w v : Nat} (hw : 1 ≤ w) : belowB w v = true ↔ ∃ k, 2 ^ k ≤ w ∧ v = w / 2 ^ k := by
  constructor
  · intro h
    unfold belowB at h
    obtain ⟨h1, h2⟩ := of_decide_eq_true h
    exact ⟨_, Nat.le_trans (Nat.pow_le_pow_right (by omega) (by omega)) (Nat.log2_self_le (by omega)), h2.symm⟩
  · rintro ⟨k, h1, rfl⟩
    unfold belowB
    have h2 := log2_divk h1
    have h3 := log2_div w k h1
    apply decide_eq_true
    refine ⟨by omega, ?_⟩
    rw [h2, show Nat.log2 w - (Nat.log2 w - k) = k from by omega]
theorem below_refl {w : Nat} (hw : 1 ≤ w) : belowB w w = true := (below_iff hw).2 ⟨0, by simpa using hw, by simp⟩
theorem below_pos {w v : Nat} (hw : 1 ≤ w) (h : belowB w v = true) : 1 ≤ v := by
  obtain ⟨k, h1, rfl⟩ := (below_iff hw).1 h
  exact div_pos' h1
theorem pow_div_le {w i j : Nat} (h : 2 ^ (i + j) ≤ w) : 2 ^ j ≤ w / 2 ^ i := by
  rw [Nat.le_div_iff_mul_le (Nat.two_pow_pos i), ← Nat.pow_add, Nat.add_comm]; exact h
theorem pow_div_le' {w i j : Nat} (h : 2 ^ j ≤ w / 2 ^ i) : 2 ^ (i + j) ≤ w := by
  rw [Nat.le_div_iff_mul_le (Nat.two_pow_pos i), ← Nat.pow_add, Nat.add_comm] at h; exact h
theorem below_trans {a b c : Nat} (ha : 1 ≤ a) (h1 : belowB a b = true) (h2 : belowB b c = true) : belowB a c = true := by
  have hb := below_pos ha h1
  obtain ⟨i, p1, rfl⟩ := (below_iff ha).1 h1
  obtain ⟨j, p2, rfl⟩ := (below_iff hb).1 h2
  exact (below_iff ha).2 ⟨i + j, pow_div_le' p2, by rw [Nat.div_div_eq_div_mul, ← Nat.pow_add]⟩
theorem below_log {w v : Nat} (hw : 1 ≤ w) (h : belowB w v = true) : Nat.log2 v ≤ Nat.log2 w := by
  unfold belowB at h
  exact (of_decide_eq_true h).1
theorem below_same {a b c : Nat} (ha : 1 ≤ a) (h1 : belowB a b = true) (h2 : belowB a c = true) (he : Nat.log2 b = Nat.log2 c) : b = c := by
  unfold belowB at h1 h2
  have p1 := (of_decide_eq_true h1).2
  have p2 := (of_decide_eq_true h2).2
  rw [he] at p1; rw [← p1, p2]
/-! siblings -/
theorem sib_fin : ∀ n : Fin 128, (n.1 ^^^ 1) / 2 = n.1 / 2 ∧ n.1 ^^^ 1 ≠ n.1 ∧ n.1 ^^^ 1 < 128 ∧ (2 ≤ n.1 → Nat.log2 (n.1 ^^^ 1) = Nat.log2 n.1 ∧ 2 ≤ n.1 ^^^ 1) ∧ n.1 ^^^ 1 ^^^ 1 = n.1 := by decide +kernel
theorem sib_two : ∀ n : Fin 128, ∀ b : Fin 2, (2 * (n.1 / 2) + b.1 = n.1 ∨ 2 * (n.1 / 2) + b.1 = n.1 ^^^ 1) := by decide +kernel
theorem sib_eq {a b : Nat} (hb : b < 128) (h : a / 2 = b / 2) (hne : a ≠ b) : a = b ^^^ 1 := by
  have := sib_two ⟨b, hb⟩ ⟨a % 2, Nat.mod_lt _ (by omega)⟩
  have h2 : 2 * (b / 2) + a % 2 = a := by rw [← h]; omega
  simp only [h2] at this
  rcases this with h3 | h3
  · exact absurd h3 hne
  · exact h3
theorem sib_half {n : Nat} (h : n < 128) : (n ^^^ 1) / 2 = n / 2 := (sib_fin ⟨n, h⟩).1
theorem sib_ne {n : Nat} (h : n < 128) : n ^^^ 1 ≠ n := (sib_fin ⟨n, h⟩).2.1
theorem sib_lt {n : Nat} (h : n < 128) : n ^^^ 1 < 128 := (sib_fin ⟨n, h⟩).2.2.1
theorem sib_log {n : Nat} (h : n < 128) (h2 : 2 ≤ n) : Nat.log2 (n ^^^ 1) = Nat.log2 n := ((sib_fin ⟨n, h⟩).2.2.2.1 h2).1
theorem sib_two_le {n : Nat} (h : n < 128) (h2 : 2 ≤ n) : 2 ≤ n ^^^ 1 := ((sib_fin ⟨n, h⟩).2.2.2.1 h2).2
theorem sib_sib {n : Nat} (h : n < 128) : n ^^^ 1 ^^^ 1 = n := (sib_fin ⟨n, h⟩).2.2.2.2
theorem bit_xor {n : Nat} (h : n < 128) : bitI .xor (n : Int) 1 = ((n ^^^ 1 : Nat) : Int) := by
  have : ∀ n : Fin 128, bitI .xor (n.1 : Int) 1 = ((n.1 ^^^ 1 : Nat) : Int) := by decide +kernel
  exact this ⟨n, h⟩
/-! paths -/
theorem pathN_mem {w k n : Nat} : n ∈ pathN w k ↔ ∃ j, j < k ∧ n = w / 2 ^ j := by
  induction k with
  | zero => simp [pathN]
  | succ k ih =>
    rw [pathN, List.mem_cons, ih]
    constructor
    · rintro (rfl | ⟨j, hj, rfl⟩)
      · exact ⟨k, by omega, rfl⟩
      · exact ⟨j, by omega, rfl⟩
    · rintro ⟨j, hj, rfl⟩
      rcases Nat.lt_or_ge j k with h | h
      · exact .inr ⟨j, h, rfl⟩
      · obtain rfl : j = k := by omega
        exact .inl rfl
theorem labK_mem {k : BitVec 8} {d leaf : Nat} {x : Nat × Nat} : ∀ {j : Nat}, x ∈ labK k d leaf j ↔ ∃ i t, i < j ∧ t ≤ i ∧ x = (leaf / 2 ^ (i + 1), (leaf / 2 ^ t) ^^^ 1) ∧ subN k d x.1 x.2 = true
  | 0 => by simp [labK]
  | j + 1 => by
    rw [labK, List.mem_append, labK_mem, List.mem_map]
    constructor
    · rintro (⟨p, hp, rfl⟩ | ⟨i, t, h1, h2, h3⟩)
      · rw [List.mem_filter, pathN_mem] at hp
        obtain ⟨⟨t, ht, rfl⟩, hs⟩ := hp
        exact ⟨j, t, by omega, by omega, rfl, hs⟩
      · exact ⟨i, t, by omega, h2, h3⟩
    · rintro ⟨i, t, h1, h2, rfl, h4⟩
      rcases Nat.lt_or_ge i j with h | h
      · exact .inr ⟨i, t, h, h2, rfl, h4⟩
      · obtain rfl : i = j := by omega
        exact .inl ⟨_, List.mem_filter.2 ⟨pathN_mem.2 ⟨t, by omega, rfl⟩, h4⟩, rfl⟩
/-- no special node strictly between -/
theorem fst0 {d : Nat} {l : List Nat} (hl : ∀ n ∈ l, 1 ≤ n) : fstS d l = 0 ↔ ∀ n ∈ l, spcl d n = false := by
  unfold fstS
  cases h : l.find? (spcl d) with
  | none =>
    rw [List.find?_eq_none] at h
    exact ⟨fun _ n hn => by simpa using h n hn, fun _ => rfl⟩
  | some a =>
    have h1 := List.find?_some h
    have h2 := List.mem_of_find?_eq_some h
    constructor
    · intro h0; simp at h0; have := hl a h2; omega
    · intro h0; rw [h0 a h2] at h1; cases h1
theorem subN_up {k : BitVec 8} {d n m i K : Nat} (hm : m < 128) (hK : 2 ^ K ≤ m) (hn : n = m / 2 ^ K) (hi : i < K) (h : subN k d n m = true) : subN k d n (m / 2 ^ i) = true := by
  unfold subN at h ⊢
  simp only [Bool.or_eq_true, decide_eq_true_eq] at h ⊢
  rcases h with h | h
  · exact .inl h
  · refine .inr ?_
    have hi2 : 2 ^ i ≤ m := Nat.le_trans (Nat.pow_le_pow_right (by omega) (by omega)) hK
    have l1 := log2_div m K hK
    have l2 := log2_div m i hi2
    rw [← hn] at l1
    have hp : ∀ a b, b + 1 ≤ Nat.log2 a → 1 ≤ a → ∀ x ∈ pathN (a / 2) b, 1 ≤ x := by
      intro a b hb ha x hx
      obtain ⟨j, hj, rfl⟩ := pathN_mem.1 hx
      rw [Nat.div_div_eq_div_mul, show 2 * 2 ^ j = 2 ^ (j + 1) from by rw [Nat.pow_succ, Nat.mul_comm]]
      exact div_pos' ((Nat.le_log2 (by omega)).1 (by omega))
    rw [fst0 (hp _ _ (by omega) (by have := Nat.two_pow_pos K; omega))] at h
    rw [fst0 (hp _ _ (by omega) (div_pos' hi2))]
    intro x hx
    obtain ⟨j, hj, rfl⟩ := pathN_mem.1 hx
    refine h _ (pathN_mem.2 ⟨i + j, by omega, ?_⟩)
    rw [Nat.div_div_eq_div_mul, Nat.div_div_eq_div_mul, Nat.div_div_eq_div_mul, Nat.pow_add]
    congr 1
    exact Nat.mul_left_comm _ _ _
/-- two paths that part: the nodes at which they do are siblings -/
theorem part_at {f g : Nat → Nat} : ∀ (k : Nat), f 0 = g 0 → f k ≠ g k → ∃ i, i < k ∧ f i = g i ∧ f (i + 1) ≠ g (i + 1)
  | 0, h, hk => absurd h hk
  | k + 1, h, hk => by
    by_cases hk' : f k = g k
    · exact ⟨k, by omega, hk', hk⟩
    · obtain ⟨i, h1, h2⟩ := part_at k h hk'
      exact ⟨i, by omega, h2⟩
/-- a leaf that is below n and not below m, which is strictly below n: a sibling of a node above the leaf is above m -/
theorem part_label {leaf n m K k d : Nat} (hl : leaf < 128) (hK : 2 ^ K ≤ leaf) (hn : n = leaf / 2 ^ K) (hk : 2 ^ (k + 1) ≤ m) (hm : m < 128) (hn2 : n = m / 2 ^ (k + 1)) (hle : Nat.log2 m ≤ Nat.log2 leaf) (hnb : belowB leaf m = false) :
    ∃ t i, t < K ∧ i ≤ k ∧ (leaf / 2 ^ t) ^^^ 1 = m / 2 ^ i := by
  have lp : 1 ≤ leaf := by have := Nat.two_pow_pos K; omega
  have l1 := log2_div leaf K hK
  have l2 := log2_div m (k + 1) hk
  rw [← hn] at l1; rw [← hn2] at l2
  have hKk : k + 1 ≤ K := by omega
  obtain ⟨i, hi, e1, e2⟩ := part_at (f := fun i => m / 2 ^ (k + 1 - i)) (g := fun i => leaf / 2 ^ (K - i)) (k + 1) (by simp only [Nat.sub_zero]; rw [← hn, ← hn2]) (by
    simp only [Nat.sub_self, Nat.pow_zero, Nat.div_one]
    intro e
    have : belowB leaf m = true := (below_iff lp).2 ⟨K - (k + 1), Nat.le_trans (Nat.pow_le_pow_right (by omega) (by omega)) hK, e⟩
    rw [this] at hnb; cases hnb)
  refine ⟨K - (i + 1), k + 1 - (i + 1), by omega, by omega, ?_⟩
  have hh : ∀ a b, a / 2 ^ (b + 1) = a / 2 ^ b / 2 := fun a b => by rw [Nat.pow_succ, Nat.div_div_eq_div_mul]
  have e3 : m / 2 ^ (k + 1 - (i + 1)) / 2 = leaf / 2 ^ (K - (i + 1)) / 2 := by
    rw [← hh, ← hh, show k + 1 - (i + 1) + 1 = k + 1 - i from by omega, show K - (i + 1) + 1 = K - i from by omega]; exact e1
  exact (sib_eq (Nat.lt_of_le_of_lt (Nat.div_le_self _ _) hl) e3 e2).symm
/-- whether a label leads to a subset, plainly -/
def ldN (k : BitVec 8) (n m : Nat) (a : Nat × Nat) : Bool := if k = 1#8 ∨ m = 0 then decide (a.1 = n ∧ a.2 = m) else decide (a.1 = n ∧ 1 ≤ a.2) && belowB a.2 n && belowB m a.2
/-- what a subset is, plainly -/
def subP (k : BitVec 8) (d n m : Nat) : Bool :=
  decide (1 ≤ n ∧ n < 2 ^ (d + 1)) && (if k = 1#8 then decide (m = 0) else if m = 0 then decide (n = 1) else decide (m < 2 ^ (d + 1) ∧ m ≠ n) && belowB m n && subN k d n m)
theorem leaf_log {d u : Nat} (hu : u < 2 ^ d) : Nat.log2 (2 ^ d + u) = d := by
  rw [Nat.log2_eq_iff (by have := Nat.two_pow_pos d; omega), Nat.pow_succ]; omega
theorem node_log {d n : Nat} (h1 : 1 ≤ n) (h : n < 2 ^ (d + 1)) : Nat.log2 n ≤ d := by
  have := (Nat.log2_lt (n := n) (k := d + 1) (by omega)).2 h; omega
theorem lead_mem {k : BitVec 8} {d u n m : Nat} (hd : d ≤ 6) (hu : u < 2 ^ d) (h : subP k d n m = true) : (labN k d u).any (ldN k n m) = memB (2 ^ d + u) n m := by
  have h64 := pow_le64 hd
  have hp := Nat.two_pow_pos d
  have hlog := leaf_log hu
  have hpow : 2 ^ (d + 1) = 2 * 2 ^ d := by rw [Nat.pow_succ, Nat.mul_comm]
  have lp : 1 ≤ 2 ^ d + u := by omega
  unfold subP at h
  simp only [Bool.and_eq_true, decide_eq_true_eq] at h
  obtain ⟨⟨hn1, hn2⟩, h⟩ := h
  -- a node above the leaf
  have anc : belowB (2 ^ d + u) n = true ↔ n = 1 ∨ n ∈ pathN (2 ^ d + u) d := by
    rw [below_iff lp, pathN_mem]
    constructor
    · rintro ⟨j, h1, rfl⟩
      have hj : j ≤ d := by have := log2_div _ _ h1; omega
      rcases Nat.lt_or_ge j d with hj2 | hj2
      · exact .inr ⟨j, hj2, rfl⟩
      · obtain rfl : j = d := by omega
        left
        rw [Nat.add_div_left _ hp, Nat.div_eq_of_lt hu]
    · rintro (rfl | ⟨j, hj, rfl⟩)
      · exact ⟨d, by omega, by rw [Nat.add_div_left _ hp, Nat.div_eq_of_lt hu]⟩
      · exact ⟨j, Nat.le_trans (Nat.pow_le_pow_right (by omega) (by omega)) (Nat.le_add_right _ _), rfl⟩
  by_cases hk : k = 1#8
  · rw [if_pos hk, decide_eq_true_eq] at h
    subst h
    unfold memB labN
    rw [if_pos hk, decide_eq_true rfl, Bool.true_or, Bool.and_true, Bool.eq_iff_iff, anc, List.any_cons, Bool.or_eq_true, List.any_map, List.any_eq_true]
    unfold ldN
    simp only [hk, true_or, if_true, decide_eq_true_eq, Function.comp, and_true]
    constructor
    · rintro (h | ⟨x, hx, rfl⟩)
      · exact .inl h.symm
      · exact .inr hx
    · rintro (h | h)
      · exact .inl h.symm
      · exact .inr ⟨n, h, rfl⟩
  · rw [if_neg hk] at h
    by_cases hm : m = 0
    · rw [if_pos hm, decide_eq_true_eq] at h
      subst hm; subst h
      unfold memB
      rw [decide_eq_true rfl, Bool.true_or, Bool.and_true, anc.2 (.inl rfl), List.any_eq_true]
      exact ⟨(1, 0), by simp [labN], by simp [ldN]⟩
    · rw [if_neg hm] at h
      simp only [Bool.and_eq_true, decide_eq_true_eq] at h
      obtain ⟨⟨⟨hm2, hne⟩, hb⟩, hs⟩ := h
      have hm1 : 1 ≤ m := by omega
      obtain ⟨j, hj1, hj2, hj3⟩ := below_split hm1 hn1 hb hne
      have hlm := node_log hm1 hm2
      unfold memB
      rw [decide_eq_false hm, Bool.false_or, Bool.eq_iff_iff, List.any_eq_true, Bool.and_eq_true, Bool.not_eq_true']
      have hld : ∀ a, ldN k n m a = true ↔ (a.1 = n ∧ 1 ≤ a.2) ∧ belowB a.2 n = true ∧ belowB m a.2 = true := fun a => by
        unfold ldN; rw [if_neg (by simp [hk, hm])]; simp only [Bool.and_eq_true, decide_eq_true_eq, and_assoc]
      constructor
      · rintro ⟨a, ha, hl⟩
        obtain ⟨⟨e1, e2⟩, e3, e4⟩ := (hld a).1 hl
        unfold labN at ha
        rw [if_neg hk] at ha
        rcases List.mem_cons.1 ha with rfl | ha
        · simp at e2
        · obtain ⟨i, t, h1, h2, h3, _⟩ := labK_mem.1 ha
          rw [h3] at e1 e2 e3 e4
          simp only at e1 e2 e3 e4
          have hi2 : 2 ^ (i + 1) ≤ 2 ^ d + u := Nat.le_trans (Nat.pow_le_pow_right (by omega) (by omega)) (Nat.le_add_right _ _)
          have ht2 : 2 ^ t ≤ 2 ^ d + u := Nat.le_trans (Nat.pow_le_pow_right (by omega) (by omega)) (Nat.le_add_right _ _)
          refine ⟨(below_iff lp).2 ⟨i + 1, hi2, e1.symm⟩, ?_⟩
          cases hc : belowB (2 ^ d + u) m with
          | false => rfl
          | true =>
            exfalso
            have hlt : (2 ^ d + u) / 2 ^ t < 128 := Nat.lt_of_le_of_lt (Nat.div_le_self _ _) (by omega)
            have lt1 := log2_div _ _ ht2
            have hp2 : 2 ≤ (2 ^ d + u) / 2 ^ t := by
              have hq : 2 ^ (t + 1) ≤ 2 ^ d + u := Nat.le_trans (Nat.pow_le_pow_right (by omega) (by omega)) hi2
              have := pow_div_le (i := t) (j := 1) hq
              simpa using this
            have h5 := below_trans lp hc e4
            have h6 : belowB (2 ^ d + u) ((2 ^ d + u) / 2 ^ t) = true := (below_iff lp).2 ⟨t, ht2, rfl⟩
            exact sib_ne hlt (below_same lp h5 h6 (sib_log hlt hp2))
      · rintro ⟨h1, h2⟩
        obtain ⟨K, hK1, hK2⟩ := (below_iff lp).1 h1
        obtain ⟨t, i, ht, hi, e⟩ := part_label (d := d) (by omega) hK1 hK2 hj3 (by omega) hj2 (by omega) h2
        have hKd := log2_div _ _ hK1
        have hi2 : 2 ^ i ≤ m := Nat.le_trans (Nat.pow_le_pow_right (by omega) (by omega)) hj3
        refine ⟨(n, m / 2 ^ i), ?_, (hld _).2 ⟨⟨rfl, div_pos' hi2⟩, ?_, (below_iff hm1).2 ⟨i, hi2, rfl⟩⟩⟩
        · unfold labN
          rw [if_neg hk]
          refine List.mem_cons_of_mem _ (labK_mem.2 ⟨K - 1, t, by omega, by omega, ?_, subN_up (by omega) hj3 hj2 (by omega) hs⟩)
          rw [show K - 1 + 1 = K from by omega, ← hK2, e]
        · refine (below_iff (div_pos' hi2)).2 ⟨j + 1 - i, ?_, ?_⟩
          · exact pow_div_le (by rw [show i + (j + 1 - i) = j + 1 from by omega]; exact hj3)
          · rw [Nat.div_div_eq_div_mul, ← Nat.pow_add, show i + (j + 1 - i) = j + 1 from by omega]; exact hj2
end Go.Sx

end
section
/- Labels that lead to subsets, and what is found by them: the mirrors of both sides come to the same. -/
set_option linter.unusedVariables false
set_option linter.unusedSimpArgs false
namespace Go.Sx
open Go

def LblI (l : TLabel) : Prop := I64 l.Node ∧ I64 l.Minus
theorem below_split0 {m q : Nat} (hm : 1 ≤ m) (h : belowB m q = true) : ∃ k, q = m / 2 ^ k ∧ 2 ^ k ≤ m := by
  unfold belowB at h
  obtain ⟨h1, h2⟩ := of_decide_eq_true h
  exact ⟨_, h2.symm, Nat.le_trans (Nat.pow_le_pow_right (by omega) (by omega)) (Nat.log2_self_le (by omega))⟩
/-- a label that leads to a subset below its Minus -/
def LdOk (l : TLabel) (x : TSubset) : Prop := ∃ q m k : Nat, l.Minus = (q : Int) ∧ x.Minus = (m : Int) ∧ q = m / 2 ^ k ∧ 2 ^ k ≤ m ∧ m < 128 ∧ k ≤ 6
theorem leads_eq (s : TScheme) (x : TSubset) (h : SubOk s x) (l : TLabel) (hl : LblI l) : ∃ b, cover_tree_leads (treeI s) l x = some b ∧ ref03_leads s l.Node l.Minus x = some b ∧ (b = true → s.Kind = 1#8 ∨ x.Minus = 0 ∨ LdOk l x) := by
  unfold cover_tree_leads ref03_leads
  rw [show (treeI s).kind = s.Kind from rfl]
  have hno : false = true → s.Kind = 1#8 ∨ x.Minus = 0 ∨ LdOk l x := fun h => by cases h
  by_cases hk : s.Kind = 1#8
  · rw [if_pos hk, if_pos hk]
    unfold cover_tree_leads_J1 ref03_leads_J1
    rw [cond_true, cond_true]
    by_cases hn : l.Node = x.Node
    · rw [if_neg (by simp [hn]), if_pos hn]; exact ⟨_, rfl, rfl, fun _ => .inl hk⟩
    · rw [if_pos hn, if_neg hn]; exact ⟨_, rfl, rfl, hno⟩
  · rw [if_neg hk, if_neg hk]
    by_cases hn : l.Node = x.Node
    · rw [if_neg (by simp [hn])]
      unfold cover_tree_leads_J1 ref03_leads_J1
      by_cases hm : x.Minus = 0
      · rw [decide_eq_true hm, cond_true, cond_true, if_pos hn]; exact ⟨_, rfl, rfl, fun _ => .inr (.inl hm)⟩
      · rw [decide_eq_false hm, cond_false, cond_false, if_pos hn]
        rcases h.2 with h3 | h3 | ⟨m, n, k, hm1, hn1, hk1, hk2, hm2, hk3, hn2⟩
        · exact absurd h3 hk
        · exact absurd h3 hm
        · have hmp : 1 ≤ m := by have := Nat.two_pow_pos (k + 1); omega
          have hnm : n ≤ m := by rw [hk1]; exact Nat.div_le_self _ _
          obtain ⟨b1, b2⟩ := hl
          unfold I64 at b1 b2
          by_cases h1 : (1 : Int) ≤ l.Minus
          · obtain ⟨q, hq⟩ : ∃ q : Nat, l.Minus = (q : Int) := ⟨l.Minus.toNat, by omega⟩
            have e1 : cover_node_below l.Minus l.Node = some (belowB q n) := by rw [hn, hq, hn1]; exact below_eq (by omega) hn2 (by omega) (by omega)
            have e2 : ref03_Below l.Minus l.Node = some (belowB q n) := by rw [hn, hq, hn1]; exact rbelow_eq (by omega) hn2 (by omega)
            have e3 : cover_node_below x.Minus l.Minus = some (belowB m q) := by rw [hq, hm1]; exact below_eq hmp (by omega) (by omega) (by omega)
            have e4 : ref03_Below x.Minus l.Minus = some (belowB m q) := by rw [hq, hm1]; exact rbelow_eq hmp (by omega) (by omega)
            rw [if_pos h1, e1, e2, bind_some, bind_some]
            cases belowB q n with
            | false => exact ⟨_, rfl, rfl, hno⟩
            | true =>
              rw [cond_true, cond_true, e3, e4, bind_some]
              refine ⟨_, rfl, rfl, fun hb => ?_⟩
              obtain ⟨k', h5, h6⟩ := below_split0 hmp hb
              exact .inr (.inr ⟨q, m, k', hq, hm1, h5, h6, hm2, le_log h6 hm2⟩)
          · rw [if_neg h1]
            have e1 : cover_node_below l.Minus l.Node = some false := by
              unfold cover_node_below cover_node_below_J1
              rw [if_pos (by omega)]; rfl
            rw [e1, bind_some]
            exact ⟨_, rfl, rfl, hno⟩
    · rw [if_pos hn]
      unfold ref03_leads_J1
      cases decide (x.Minus = 0) with
      | true => rw [cond_true, if_neg hn]; exact ⟨_, rfl, rfl, hno⟩
      | false => rw [cond_false, if_neg hn]; exact ⟨_, rfl, rfl, hno⟩
theorem find_loop (s : TScheme) (c : TSecret) (hc : c.Labels.length < 4611686018427387904) (hok : ∀ l ∈ c.Labels, LblI l) (x : TSubset) (h : SubOk s x) : ∀ (m j f f' : Nat), c.Labels.length - j = m → j ≤ c.Labels.length → m < f → m < f' →
    ∃ r, fixN (cover_tree_find_L1 (treeI s) c x) f (j : Int) = some r ∧ fixN (ref03_Leads_L1 s c x) f' (j : Int) = some r
  | m, j, 0, _, _, _, h, _ => by omega
  | m, j, _ + 1, 0, _, _, _, h => by omega
  | 0, j, f + 1, f' + 1, hm, hj, _, _ => by
    rw [fix_step, fix_step]; simp only [cover_tree_find_L1, ref03_Leads_L1]
    rw [if_neg (by omega), if_neg (by omega)]
    exact ⟨_, rfl, rfl⟩
  | m + 1, j, f + 1, f' + 1, hm, hj, hf, hf' => by
    rw [fix_step, fix_step]; simp only [cover_tree_find_L1, ref03_Leads_L1]
    have hjl : j < c.Labels.length := by omega
    obtain ⟨b, e1, e2, hb⟩ := leads_eq s x h c.Labels[j] (hok _ (List.getElem_mem hjl))
    rw [if_pos (by omega), if_pos (by omega), getI_some hjl, bind_some, bind_some, e1, e2, bind_some, bind_some]
    cases b with
    | false =>
      simp only [Bool.not_false, cond_true]
      rw [w64_id (by omega) (by omega)]
      exact find_loop s c hc hok x h m (j + 1) f f' (by omega) (by omega) (by omega) (by omega)
    | true =>
      simp only [Bool.not_true, cond_false]
      rw [show (treeI s).kind = s.Kind from rfl]
      unfold cover_tree_find_J2 ref03_Leads_J2
      by_cases hk : s.Kind = 1#8
      · rw [if_pos hk, if_pos hk]; exact ⟨_, rfl, rfl⟩
      · rw [if_neg hk, if_neg hk]
        by_cases hm0 : x.Minus = 0
        · rw [decide_eq_true hm0]; exact ⟨_, rfl, rfl⟩
        · rw [decide_eq_false hm0, cond_false, cond_false]
          rcases hb rfl with h3 | h3 | ⟨q, m', k, hq, hm1, hk1, hk2, hm2, hk3⟩
          · exact absurd h3 hk
          · exact absurd h3 hm0
          · have e3 : cover_descend c.Labels[j].Key c.Labels[j].Minus x.Minus = some ((pathN m' k).foldl stp c.Labels[j].Key) := by rw [hq, hm1, hk1]; exact descend_eq _ (by omega) hk2 (by omega)
            have e4 : ref03_down c.Labels[j].Key c.Labels[j].Minus x.Minus = some ((pathN m' k).foldl stp c.Labels[j].Key) := by rw [hq, hm1, hk1]; exact down_eq _ (by omega) hk2 (by omega)
            rw [e3, e4, bind_some, bind_some]
            exact ⟨_, rfl, rfl⟩
theorem find_eq (s : TScheme) (c : TSecret) (hc : c.Labels.length < 4611686018427387904) (hok : ∀ l ∈ c.Labels, LblI l) (x : TSubset) (h : SubOk s x) : ∃ r, cover_tree_find (treeI s) c x = some r ∧ ref03_Leads s c x = some r :=
  find_loop s c hc hok x h _ 0 FUEL FUEL rfl (by omega) (fuel_lt (by omega)) (fuel_lt (by omega))
/-! subsets, plainly -/
theorem isSub_eq {s : TScheme} {d : Nat} (hv : vldB s = true) (hd : s.Depth = (d : Int)) (h6 : d ≤ 6) (n m : Nat) : ref03_IsSubset s ⟨(n : Int), (m : Int)⟩ = some (subP s.Kind d n m) := by
  have h64 := pow_le64 h6
  have hpow : 2 ^ (d + 1) = 2 * 2 ^ d := by rw [Nat.pow_succ, Nat.mul_comm]
  have hh : ∀ a : Nat, hasN d (a : Int) = decide (1 ≤ a ∧ a < 2 ^ (d + 1)) := fun a => by
    unfold hasN; apply decide_eq_decide.2; rw [hpow]; omega
  unfold ref03_IsSubset subP
  rw [hd, node_eq h6, bind_some, hh]
  by_cases hn : 1 ≤ n ∧ n < 2 ^ (d + 1)
  · rw [decide_eq_true hn]
    simp only [Bool.not_true, cond_false, Bool.true_and]
    by_cases hk : s.Kind = 1#8
    · rw [if_pos hk, if_pos hk]; congr 1; apply decide_eq_decide.2; omega
    · rw [if_neg hk, if_neg hk]
      by_cases hm : m = 0
      · rw [if_pos (by omega), if_pos hm]; congr 1; apply decide_eq_decide.2; omega
      · rw [if_neg (by omega), if_neg hm, node_eq h6, bind_some, hh]
        by_cases hm2 : m < 2 ^ (d + 1)
        · rw [decide_eq_true (by omega)]
          simp only [Bool.not_true, cond_false]
          by_cases he : m = n
          · rw [if_pos (by omega), decide_eq_false (by omega)]; rfl
          · rw [if_neg (by omega), rbelow_eq (by omega) (by omega) (by omega), bind_some, decide_eq_true (by omega), Bool.true_and]
            unfold ref03_IsSubset_J1 subN
            cases hb : belowB m n with
            | false => rfl
            | true =>
              simp only [Bool.not_true, cond_false, Bool.true_and]
              by_cases hk2 : s.Kind = 2#8
              · rw [if_pos hk2, decide_eq_true hk2]; rfl
              · rw [if_neg hk2, decide_eq_false hk2, Bool.false_or, hd, rspecial_eq h6 (by omega), bind_some]
                cases spcl d n with
                | true => rfl
                | false =>
                  rw [cond_false, Bool.false_or]
                  obtain ⟨k, hk0, hk1, hk3⟩ := below_split (by omega) hn.1 hb he
                  have hkl := le_log hk3 (by omega)
                  have := between_eq (d := d) (m := m) (k := k) h6 (by omega) hk3 (by omega)
                  rw [← hk1] at this
                  rw [this, bind_some, show Nat.log2 m - Nat.log2 n - 1 = k from by omega]
                  congr 1; apply decide_eq_decide.2; omega
        · rw [decide_eq_false (p := 1 ≤ m ∧ _) (by omega), decide_eq_false (p := m < _ ∧ _) (by omega)]; rfl
  · rw [decide_eq_false hn]; rfl
theorem subP_bd {k : BitVec 8} {d n m : Nat} (h6 : d ≤ 6) (h : subP k d n m = true) : 1 ≤ n ∧ n < 128 ∧ m < 128 ∧ (k = 1#8 ∨ m = 0 ∨ (belowB m n = true ∧ m ≠ n)) := by
  have h64 := pow_le64 h6
  have hpow : 2 ^ (d + 1) = 2 * 2 ^ d := by rw [Nat.pow_succ, Nat.mul_comm]
  unfold subP at h
  simp only [Bool.and_eq_true, decide_eq_true_eq] at h
  obtain ⟨⟨h1, h2⟩, h⟩ := h
  by_cases hk : k = 1#8
  · rw [if_pos hk, decide_eq_true_eq] at h; exact ⟨h1, by omega, by omega, .inl hk⟩
  · rw [if_neg hk] at h
    by_cases hm : m = 0
    · exact ⟨h1, by omega, by omega, .inr (.inl hm)⟩
    · rw [if_neg hm] at h
      simp only [Bool.and_eq_true, decide_eq_true_eq] at h
      exact ⟨h1, by omega, by omega, .inr (.inr ⟨h.1.2, h.1.1.2⟩)⟩
/-- a subset: its nodes, and what the mirrors say -/
theorem sub_cases {s : TScheme} {d : Nat} (hv : vldB s = true) (hd : s.Depth = (d : Int)) (h6 : d ≤ 6) (x : TSubset) :
    (cover_enter s [x] = some (Tcover_tree.mk 0#8 0 0, 31) ∧ ref03_IsSubset s x = some false ∧ cover_tree_subset (treeI s) x = some false) ∨
    (cover_enter s [x] = some (treeI s, 0) ∧ ref03_IsSubset s x = some true ∧ cover_tree_subset (treeI s) x = some true ∧ SubOk s x ∧ ∃ n m : Nat, x = ⟨(n : Int), (m : Int)⟩ ∧ SubN s x n m ∧ subP s.Kind d n m = true) := by
  obtain ⟨b, e1, e2, e3, e4⟩ := enter1 s hv x
  cases b with
  | false => exact .inl ⟨e1, e2, e3⟩
  | true =>
    obtain ⟨h1, n, m, h2⟩ := e4 rfl
    have hx : x = ⟨(n : Int), (m : Int)⟩ := by cases x; simp only [SubN] at h2; rw [h2.1, h2.2.1]
    refine .inr ⟨e1, e2, e3, h1, n, m, hx, h2, ?_⟩
    have := isSub_eq hv hd h6 n m
    rw [← hx, e2] at this
    exact (Option.some.inj this).symm
theorem leads_plain {s : TScheme} {d n m : Nat} (h6 : d ≤ 6) (hs : subP s.Kind d n m = true) {a : Nat × Nat} (ha : a.1 < 128 ∧ a.2 < 128) (key : W2) :
    cover_tree_leads (treeI s) (TLabel.mk (a.1 : Int) (a.2 : Int) key) ⟨(n : Int), (m : Int)⟩ = some (ldN s.Kind n m a) ∧ ref03_leads s (a.1 : Int) (a.2 : Int) ⟨(n : Int), (m : Int)⟩ = some (ldN s.Kind n m a) := by
  obtain ⟨hn1, hn2, hm2, _⟩ := subP_bd h6 hs
  unfold cover_tree_leads ref03_leads
  rw [show (treeI s).kind = s.Kind from rfl]
  simp only
  by_cases hk : s.Kind = 1#8
  · have hl : ldN s.Kind n m a = decide (a.1 = n ∧ a.2 = m) := if_pos (.inl hk)
    rw [if_pos hk, if_pos hk, hl]
    unfold cover_tree_leads_J1 ref03_leads_J1
    rw [cond_true, cond_true]
    simp only
    by_cases he : a.1 = n
    · rw [if_neg (by omega), if_pos (by omega)]
      refine ⟨?_, ?_⟩ <;> (congr 1; apply decide_eq_decide.2; omega)
    · rw [if_pos (by omega), if_neg (by omega), decide_eq_false (by omega)]; exact ⟨rfl, rfl⟩
  · rw [if_neg hk, if_neg hk]
    by_cases hm : m = 0
    · have hl : ldN s.Kind n m a = decide (a.1 = n ∧ a.2 = m) := if_pos (.inr hm)
      rw [hl]
      unfold cover_tree_leads_J1 ref03_leads_J1
      rw [decide_eq_true (by omega), cond_true, cond_true]
      simp only
      by_cases he : a.1 = n
      · rw [if_neg (by omega), if_pos (by omega)]
        refine ⟨?_, ?_⟩ <;> (congr 1; apply decide_eq_decide.2; omega)
      · rw [if_pos (by omega), if_neg (by omega), decide_eq_false (by omega)]; exact ⟨rfl, rfl⟩
    · have hl : ldN s.Kind n m a = (decide (a.1 = n ∧ 1 ≤ a.2) && belowB a.2 n && belowB m a.2) := if_neg (by rintro (h | h); exact hk h; exact hm h)
      rw [hl]
      unfold cover_tree_leads_J1 ref03_leads_J1
      rw [decide_eq_false (by omega), cond_false, cond_false]
      simp only
      by_cases he : a.1 = n
      · rw [if_neg (by omega), if_pos (by omega)]
        by_cases h1 : 1 ≤ a.2
        · rw [if_pos (by omega), decide_eq_true (by omega), Bool.true_and, he, below_eq h1 hn1 (by omega) (by omega), rbelow_eq h1 hn1 (by omega), bind_some, bind_some]
          cases belowB a.2 n with
          | false => exact ⟨rfl, rfl⟩
          | true => rw [cond_true, cond_true, below_eq (by omega) h1 (by omega) (by omega), rbelow_eq (by omega) h1 (by omega), bind_some, Bool.true_and]; exact ⟨rfl, rfl⟩
        · have h0 : a.2 = 0 := by omega
          rw [if_neg (by omega), decide_eq_false (by omega), Bool.false_and, Bool.false_and]
          refine ⟨?_, rfl⟩
          have : cover_node_below (a.2 : Int) (a.1 : Int) = some false := by
            unfold cover_node_below cover_node_below_J1; rw [if_pos (by omega)]; rfl
          rw [this, bind_some]; rfl
      · rw [if_pos (by omega), if_neg (by omega), decide_eq_false (by omega)]; exact ⟨rfl, rfl⟩
end Go.Sx

end
section
/- Work and Knows: the mirrors of both sides come to the same. -/
set_option linter.unusedVariables false
set_option linter.unusedSimpArgs false
namespace Go.Sx
open Go

theorem range_find {α : Type} (p : α → Bool) (l : List α) (q : Nat → Bool) (hq : ∀ j (h : j < l.length), q j = p l[j]) : (∃ j, ∃ h : j < l.length, (List.range l.length).find? q = some j ∧ l.find? p = some l[j]) ∨ ((List.range l.length).find? q = none ∧ l.find? p = none) := by
  cases hf : (List.range l.length).find? q with
  | none =>
    rw [List.find?_eq_none] at hf
    refine .inr ⟨rfl, List.find?_eq_none.2 fun x hx => ?_⟩
    obtain ⟨j, hj, rfl⟩ := List.mem_iff_getElem.1 hx
    rw [← hq j hj]; exact hf j (by simpa using hj)
  | some j =>
    have hm := List.mem_of_find?_eq_some hf
    have hj : j < l.length := by simpa using hm
    refine .inl ⟨j, hj, rfl, ?_⟩
    rw [List.find?_eq_some_iff_append] at hf ⊢
    obtain ⟨h1, a1, bs, h2, h3⟩ := hf
    refine ⟨by rw [← hq j hj]; exact h1, l.take j, l.drop (j + 1), ?_, ?_⟩
    · rw [← List.drop_eq_getElem_cons hj, List.take_append_drop]
    · intro a ha
      obtain ⟨i, hi, rfl⟩ := List.mem_iff_getElem.1 ha
      have hi' : i < j := by simp at hi; omega
      rw [List.getElem_take, ← hq i (by omega)]
      have has : a1.length = j := by
        have h4 : (List.range l.length)[a1.length]? = some j := by rw [h2]; simp
        rw [List.getElem?_range (by
          have : a1.length < (List.range l.length).length := by rw [h2]; simp
          simpa using this)] at h4
        exact Option.some.inj h4
      have h5 : i ∈ a1 := by
        have h6 : (List.range l.length)[i]? = some i := List.getElem?_range (by omega)
        rw [h2, List.getElem?_append_left (by omega)] at h6
        exact List.mem_of_getElem? h6
      exact h3 i h5
section
variable {s : TScheme} {d u n m : Nat}
/-- the first label that leads to a subset -/
def ledN (s : TScheme) (d u n m : Nat) : Option (Nat × Nat) := (labN s.Kind d u).find? (ldN s.Kind n m)
theorem known_eq (hv : vldB s = true) (hd : s.Depth = (d : Int)) (h6 : d ≤ 6) (hu : u < 2 ^ d) (hs : subP s.Kind d n m = true) :
    (∃ (j : Nat) (a : Nat × Nat), ref03_Known s (u : Int) ⟨(n : Int), (m : Int)⟩ = some (j : Int) ∧ ledN s d u n m = some a ∧ getI (labS s.Kind d u) (j : Int) = some ⟨(a.1 : Int), (a.2 : Int)⟩) ∨ (ref03_Known s (u : Int) ⟨(n : Int), (m : Int)⟩ = some (-1) ∧ ledN s d u n m = none) := by
  obtain ⟨e1, e2, e3, e4⟩ := labels_eq hv hd h6 hu
  have hls : (labS s.Kind d u).length = (labN s.Kind d u).length := by simp [labS]
  unfold ref03_Known ledN
  rw [e2, bind_some]
  have := fix_range (labN s.Kind d u).length (ref03_Known_L1 s ⟨(n : Int), (m : Int)⟩ (labS s.Kind d u)) (fun j (_ : Unit) => (j : Int)) (fun (j : Nat) nx s' => bif ((labN s.Kind d u)[j]?.map (ldN s.Kind n m)).getD false then some (j : Int) else nx s') (fun _ => some (-1))
    (fun rec j hj _ => by
      have hj' : j < (labS s.Kind d u).length := by omega
      have hg : (labS s.Kind d u)[j] = TSubset.mk ((labN s.Kind d u)[j].1 : Int) ((labN s.Kind d u)[j].2 : Int) := by simp [labS]
      have hok := e4 _ (List.getElem_mem hj)
      simp only [ref03_Known_L1]
      rw [if_pos (by omega), getI_some hj', bind_some, bind_some, hg]
      simp only
      rw [(leads_plain h6 hs ⟨hok.1.2.1, hok.1.2.2⟩ k0).2, bind_some, w64_nat (by omega), List.getElem?_eq_getElem hj, Option.map_some, Option.getD_some])
    (fun rec _ => by simp only [ref03_Known_L1]; rw [if_neg (by omega)]) (f := FUEL) (fuel_lt (by omega)) ()
  rw [show ((0 : Nat) : Int) = 0 from rfl] at this
  rw [this, itL_find (fun (j : Nat) => ((labN s.Kind d u)[j]?.map (ldN s.Kind n m)).getD false) (fun (j : Nat) _ => some (j : Int)) _ _ _ _ (fun a _ nx s => rfl)]
  rcases range_find (ldN s.Kind n m) (labN s.Kind d u) (fun j => ((labN s.Kind d u)[j]?.map (ldN s.Kind n m)).getD false) (fun j hj => by simp only [List.getElem?_eq_getElem hj, Option.map_some, Option.getD_some]) with ⟨j, hj, h1, h2⟩ | ⟨h1, h2⟩
  · rw [h1, h2]
    refine .inl ⟨j, _, rfl, rfl, ?_⟩
    rw [getI_some (by omega)]; simp [labS]
  · rw [h1, h2]; exact .inr ⟨rfl, rfl⟩
theorem led_mem (h6 : d ≤ 6) (hu : u < 2 ^ d) (hs : subP s.Kind d n m = true) : memB (2 ^ d + u) n m = (ledN s d u n m).isSome := by
  rw [← lead_mem h6 hu hs]
  unfold ledN
  rw [Bool.eq_iff_iff, List.find?_isSome, List.any_eq_true]
/-- how many derivations, plainly -/
def wrkN (s : TScheme) (d u n m : Nat) : Int × Int := match ledN s d u n m with
  | some a => if a.2 = 0 then (0, 0) else (((Nat.log2 m - Nat.log2 a.2 + 1 : Nat) : Int), 0)
  | none => (0, 6)
theorem pwork_eq (hv : vldB s = true) (hd : s.Depth = (d : Int)) (h6 : d ≤ 6) (hu : u < 2 ^ d) (hs : subP s.Kind d n m = true) :
    itL (cover_Work_R1 ⟨(n : Int), (m : Int)⟩ (treeI s, 0)) cover_Work_D1 (labI s.Kind d u) 0 = some (wrkN s d u n m) := by
  obtain ⟨e1, e2, e3, e4⟩ := labels_eq hv hd h6 hu
  obtain ⟨hn1, hn2, hm2, _⟩ := subP_bd h6 hs
  unfold labI
  rw [itL_map, itL_find (ldN s.Kind n m) (fun a _ => if a.2 = 0 then some (0, 0) else some (((Nat.log2 m - Nat.log2 a.2 + 1 : Nat) : Int), 0)) _ _ _ _ (fun a ha nx s' => by
    have hok := e4 a ha
    simp only [cover_Work_R1]
    rw [(leads_plain h6 hs ⟨hok.1.2.1, hok.1.2.2⟩ k0).1, bind_some]
    cases hl : ldN s.Kind n m a with
    | false => rfl
    | true =>
      simp only [Bool.not_true, cond_false, cond_true]
      by_cases h0 : a.2 = 0
      · rw [if_pos (by omega), if_pos h0]; rfl
      · rw [if_neg (by omega), if_neg h0]
        unfold ldN at hl
        by_cases hk : s.Kind = 1#8 ∨ m = 0
        · rw [if_pos hk, decide_eq_true_eq] at hl
          rcases hk with hk | hk
          · exact absurd (lab1 hk a ha) h0
          · omega
        · rw [if_neg hk] at hl
          simp only [Bool.and_eq_true, decide_eq_true_eq] at hl
          have hm1 : 1 ≤ m := by rw [not_or] at hk; omega
          have hll := below_log hm1 hl.2
          have l62 := log2_le62 (n := m) (by omega)
          rw [level_eq hm1 (by omega), level_eq (by omega) (by omega), bind_some, bind_some, w64_id (n := (Nat.log2 m : Int) - _) (by omega) (by omega), w64_id (by omega) (by omega)]
          unfold cover_Work_X1_0
          simp only
          congr 2; omega)]
  unfold wrkN ledN
  cases (labN s.Kind d u).find? (ldN s.Kind n m) with
  | none => rfl
  | some a =>
    simp only
    split <;> rfl
theorem Work_eq (s : TScheme) (u : Int) (x : TSubset) : ∃ r, cover_Work s u x = some r ∧ ref03_Work s u x = some r := by
  unfold cover_Work ref03_Work
  rw [enter0, valid_eq, bind_some, bind_some]
  cases hv : vldB s with
  | false => exact ⟨_, rfl, rfl⟩
  | true =>
    obtain ⟨d, hd, h6⟩ := vld_depth hv
    have ht : treeI s = ⟨s.Kind, (d : Int), (strd d : Int)⟩ := by unfold treeI; rw [hd, Int.toNat_natCast]
    simp only [if_true, Bool.not_true, cond_false]
    rw [if_neg (by simp), hd, rreceiver_eq h6]
    have e0 : cover_tree_receiver (treeI s) u = some (decide (0 ≤ u ∧ u < ((2 ^ d : Nat) : Int))) := by rw [ht]; exact receiver_eq h6
    rw [e0, bind_some, bind_some]
    by_cases hu : 0 ≤ u ∧ u < ((2 ^ d : Nat) : Int)
    · rw [decide_eq_true hu]
      simp only [Bool.not_true, cond_false]
      obtain ⟨w, hw⟩ : ∃ w : Nat, u = (w : Int) := ⟨u.toNat, by omega⟩
      subst hw
      have hu' : w < 2 ^ d := by omega
      rcases sub_cases hv hd h6 x with ⟨_, f1, f2⟩ | ⟨_, f1, f2, f3, n, m, rfl, f5, f6⟩
      · rw [f1, f2, bind_some, bind_some]; exact ⟨_, rfl, rfl⟩
      · rw [f1, f2, bind_some, bind_some]
        simp only [Bool.not_true, cond_false]
        obtain ⟨e1, e2, e3, e4⟩ := labels_eq hv hd h6 hu'
        unfold cover_tree_labels
        rw [bind_some]
        simp only
        have e1' : cover_tree_labels_1 (treeI s) (w : Int) = some (labI s.Kind d w) := by rw [ht]; exact e1
        have h64 := pow_le64 h6
        rw [e1', bind_some, pwork_eq hv hd h6 hu' f6, rhas_eq hd h6 (by omega) f5, bind_some, led_mem h6 hu' f6]
        unfold wrkN
        cases hl : ledN s d w n m with
        | none => exact ⟨_, rfl, rfl⟩
        | some a =>
          simp only [Option.isSome_some, Bool.not_true, cond_false]
          have ham : a ∈ labN s.Kind d w := List.mem_of_find?_eq_some hl
          have hal : ldN s.Kind n m a = true := List.find?_some hl
          have hok := e4 a ham
          have hj : ∀ b : Bool, b = decide (s.Kind = 1#8 ∨ m = 0) → ref03_Work_J1 s (w : Int) ⟨(n : Int), (m : Int)⟩ b = some (if a.2 = 0 then ((0 : Int), (0 : Int)) else (((Nat.log2 m - Nat.log2 a.2 + 1 : Nat) : Int), 0)) := by
            intro b hb
            unfold ref03_Work_J1
            unfold ldN at hal
            by_cases hk : s.Kind = 1#8 ∨ m = 0
            · rw [hb, decide_eq_true hk, cond_true]
              rw [if_pos hk, decide_eq_true_eq] at hal
              have : a.2 = 0 := by
                rcases hk with hk | hk
                · exact lab1 hk a ham
                · omega
              rw [if_pos this]
            · rw [hb, decide_eq_false hk, cond_false]
              rw [if_neg hk] at hal
              simp only [Bool.and_eq_true, decide_eq_true_eq] at hal
              have hm1 : 1 ≤ m := by rw [not_or] at hk; omega
              rcases known_eq hv hd h6 hu' f6 with ⟨j, a', g1, g2, g3⟩ | ⟨g1, g2⟩
              · rw [hl] at g2
                obtain rfl := Option.some.inj g2
                rw [e2, bind_some, g1, bind_some, g3, bind_some, if_neg (by omega)]
                unfold ref03_Work_J2
                obtain ⟨k, q1, q2⟩ := below_split0 hm1 hal.2
                have hkl := le_log q2 f5.2.2.2.2
                have := rpath_eq (w := m) (k := k) (by have := f5.2.2.2.2; omega) q2 (by omega)
                rw [← q1] at this
                simp only
                rw [this, bind_some]
                have hlg := log2_div m k q2
                rw [← q1] at hlg
                simp only [List.length_cons, List.length_map, pathN_len]
                congr 3; omega
              · rw [hl] at g2; cases g2
          refine ⟨_, rfl, ?_⟩
          by_cases hk : s.Kind = 1#8
          · rw [if_pos hk, hj true (by simp [hk])]
          · rw [if_neg hk, hj _ (by apply decide_eq_decide.2; simp only [hk, false_or]; omega)]
    · rw [decide_eq_false hu]; exact ⟨_, rfl, rfl⟩
end
/-! lists of receivers -/
/-- whether numbers are receivers, in ascending order -/
def lstB (d : Nat) (l : List Int) : Bool := (List.range l.length).all fun j => decide (0 ≤ l.getD j 0 ∧ l.getD j 0 < ((2 ^ d : Nat) : Int)) && (decide (j = 0) || decide (l.getD (j - 1) 0 < l.getD j 0))
theorem getD_some {l : List Int} {j : Nat} (h : j < l.length) : l.getD j 0 = l[j] := by simp [List.getD, h]
theorem all_itL {σ : Type} (p : Nat → Bool) : ∀ (l : List Nat) (F : Nat → (σ → Option Bool) → σ → Option Bool) (s : σ), (∀ a ∈ l, ∀ nx s, F a nx s = bif p a then nx s else some false) → itL F (fun _ => some true) l s = some (l.all p)
  | [], F, s, _ => rfl
  | a :: l, F, s, h => by
    rw [itL_cons, h a (by simp), List.all_cons]
    cases p a with
    | false => rfl
    | true => rw [cond_true, Bool.true_and]; exact all_itL p l F s (fun b hb => h b (by simp [hb]))
theorem list_eq {kd : BitVec 8} {d : Nat} {st : Int} (h6 : d ≤ 6) (l : List Int) (hl : l.length < 4611686018427387904) : cover_tree_list ⟨kd, (d : Int), st⟩ l = some (lstB d l) := by
  unfold cover_tree_list lstB
  have := fix_range l.length (cover_tree_list_L1 ⟨kd, (d : Int), st⟩ l) (fun j (_ : Unit) => (j : Int)) (fun j nx s => bif decide (0 ≤ l.getD j 0 ∧ l.getD j 0 < ((2 ^ d : Nat) : Int)) && (decide (j = 0) || decide (l.getD (j - 1) 0 < l.getD j 0)) then nx s else some false) (fun _ => some true)
    (fun rec j hj _ => by
      simp only [cover_tree_list_L1, cover_tree_list_J2]
      rw [if_pos (by omega), getI_some hj, bind_some, receiver_eq h6, bind_some, getD_some hj, w64_nat (by omega)]
      by_cases h : 0 ≤ l[j] ∧ l[j] < ((2 ^ d : Nat) : Int)
      · rw [decide_eq_true h]
        simp only [Bool.not_true, cond_false, Bool.true_and]
        by_cases h0 : j = 0
        · rw [if_neg (by omega), decide_eq_true h0]; rfl
        · have hj1 : j - 1 < l.length := by omega
          rw [if_pos (by omega), w64_id (by omega) (by omega), show (j : Int) - 1 = ((j - 1 : Nat) : Int) from by omega, getI_some hj1, bind_some, decide_eq_false h0, Bool.false_or, getD_some hj1]
          by_cases h1 : l[j] ≤ l[j - 1]
          · rw [decide_eq_true h1, decide_eq_false (by omega)]; rfl
          · rw [decide_eq_false h1, decide_eq_true (by omega)]; rfl
      · rw [decide_eq_false h]; rfl)
    (fun rec _ => by simp only [cover_tree_list_L1]; rw [if_neg (by omega)]) (f := FUEL) (fuel_lt (by omega)) ()
  rw [show ((0 : Nat) : Int) = 0 from rfl] at this
  rw [this]
  exact all_itL _ _ _ _ (fun a _ nx s => rfl)
theorem rlist_eq {d : Nat} (h6 : d ≤ 6) (l : List Int) (hl : l.length < 4611686018427387904) : ref03_IsList (d : Int) l = some (lstB d l) := by
  unfold ref03_IsList lstB
  have := fix_range l.length (ref03_IsList_L1 (d : Int) l) (fun j (_ : Unit) => (j : Int)) (fun j nx s => bif decide (0 ≤ l.getD j 0 ∧ l.getD j 0 < ((2 ^ d : Nat) : Int)) && (decide (j = 0) || decide (l.getD (j - 1) 0 < l.getD j 0)) then nx s else some false) (fun _ => some true)
    (fun rec j hj _ => by
      simp only [ref03_IsList_L1, ref03_IsList_J2]
      rw [if_pos (by omega), getI_some hj, bind_some, bind_some, recv_eq h6, bind_some, getD_some hj, w64_nat (by omega)]
      by_cases h : 0 ≤ l[j]
      · rw [if_neg (by omega)]
        by_cases h2 : l[j] < ((2 ^ d : Nat) : Int)
        · rw [if_neg (by omega), decide_eq_true ⟨h, h2⟩]
          simp only [Bool.true_and]
          by_cases h0 : j = 0
          · rw [if_neg (by omega), decide_eq_true h0]; rfl
          · have hj1 : j - 1 < l.length := by omega
            rw [if_pos (by omega), bind_some, w64_id (by omega) (by omega), show (j : Int) - 1 = ((j - 1 : Nat) : Int) from by omega, getI_some hj1, bind_some, decide_eq_false h0, Bool.false_or, getD_some hj1]
            by_cases h1 : l[j] ≤ l[j - 1]
            · rw [decide_eq_true h1, decide_eq_false (by omega)]; rfl
            · rw [decide_eq_false h1, decide_eq_true (by omega)]; rfl
        · rw [if_pos (by omega), decide_eq_false (by omega)]; rfl
      · rw [if_pos (by omega), decide_eq_false (by omega)]; rfl)
    (fun rec _ => by simp only [ref03_IsList_L1]; rw [if_neg (by omega)]) (f := FUEL) (fuel_lt (by omega)) ()
  rw [show ((0 : Nat) : Int) = 0 from rfl] at this
  rw [this]
  exact all_itL _ _ _ _ (fun a _ nx s => rfl)
theorem lst_mem {d : Nat} {l : List Int} (h : lstB d l = true) {a : Int} (ha : a ∈ l) : ∃ u : Nat, a = (u : Int) ∧ u < 2 ^ d := by
  obtain ⟨j, hj, rfl⟩ := List.mem_iff_getElem.1 ha
  have := List.all_eq_true.1 h j (by simpa using hj)
  rw [Bool.and_eq_true, decide_eq_true_eq, getD_some hj] at this
  exact ⟨l[j].toNat, by omega, by omega⟩
/-- whether a receiver has a label that leads to a subset -/
def kwB (s : TScheme) (d n m : Nat) (a : Int) : Bool := (ledN s d a.toNat n m).isSome
theorem knows1_eq {s : TScheme} {d n m u : Nat} (hv : vldB s = true) (hd : s.Depth = (d : Int)) (h6 : d ≤ 6) (hu : u < 2 ^ d) (hs : subP s.Kind d n m = true) : cover_Knows_1 (u : Int) (treeI s) ⟨(n : Int), (m : Int)⟩ = some (kwB s d n m (u : Int)) := by
  have ht : treeI s = ⟨s.Kind, (d : Int), (strd d : Int)⟩ := by unfold treeI; rw [hd, Int.toNat_natCast]
  obtain ⟨e1, e2, e3, e4⟩ := labels_eq hv hd h6 hu
  unfold cover_Knows_1 cover_tree_labels kwB ledN
  rw [bind_some]
  simp only
  have e1' : cover_tree_labels_1 (treeI s) (u : Int) = some (labI s.Kind d u) := by rw [ht]; exact e1
  rw [e1', bind_some, labI, itL_map, itL_find (ldN s.Kind n m) (fun a _ => some true) _ _ _ _ (fun a ha nx s' => by
    have hok := e4 a ha
    simp only [cover_Knows_1_R1, cover_Knows_1_X1_0]
    rw [(leads_plain h6 hs ⟨hok.1.2.1, hok.1.2.2⟩ k0).1, bind_some]), Int.toNat_natCast]
  cases (labN s.Kind d u).find? (ldN s.Kind n m) with
  | none => rfl
  | some a => rfl
theorem Knows_eq (s : TScheme) (l : List Int) (hl : l.length < 4611686018427387904) (x : TSubset) : ∃ r, cover_Knows s l x = some r ∧ ref03_Knows s l x = some r := by
  unfold cover_Knows ref03_Knows
  rw [enter0, valid_eq, bind_some, bind_some]
  cases hv : vldB s with
  | false => exact ⟨_, rfl, rfl⟩
  | true =>
    obtain ⟨d, hd, h6⟩ := vld_depth hv
    have ht : treeI s = ⟨s.Kind, (d : Int), (strd d : Int)⟩ := by unfold treeI; rw [hd, Int.toNat_natCast]
    simp only [if_true, Bool.not_true, cond_false]
    rw [if_neg (by simp), hd, rlist_eq h6 l hl]
    have e0 : cover_tree_list (treeI s) l = some (lstB d l) := by rw [ht]; exact list_eq h6 l hl
    rw [e0, bind_some, bind_some]
    cases hb : lstB d l with
    | false => exact ⟨_, rfl, rfl⟩
    | true =>
      simp only [Bool.not_true, cond_false]
      rcases sub_cases hv hd h6 x with ⟨_, f1, f2⟩ | ⟨_, f1, f2, f3, n, m, rfl, f5, f6⟩
      · rw [f1, f2, bind_some, bind_some]; exact ⟨_, rfl, rfl⟩
      · rw [f1, f2, bind_some, bind_some]
        simp only [Bool.not_true, cond_false]
        unfold slices_ContainsFunc_5954_cover_Knows_1 slices_IndexFunc_7bbb_cover_Knows_1
        have p1 := fix_range l.length (slices_IndexFunc_7bbb_cover_Knows_1_L1 l (treeI s) ⟨(n : Int), (m : Int)⟩) (fun j (_ : Unit) => (j : Int)) (fun (j : Nat) nx s' => bif kwB s d n m (l.getD j 0) then some (j : Int) else nx s') (fun _ => some (-1))
          (fun rec j hj _ => by
            simp only [slices_IndexFunc_7bbb_cover_Knows_1_L1]
            obtain ⟨u, hu, hu2⟩ := lst_mem hb (List.getElem_mem hj)
            rw [if_pos (by omega), getI_some hj, bind_some, getD_some hj, hu, knows1_eq hv hd h6 hu2 f6, bind_some, w64_nat (by omega)])
          (fun rec _ => by simp only [slices_IndexFunc_7bbb_cover_Knows_1_L1]; rw [if_neg (by omega)]) (f := FUEL) (fuel_lt (by omega)) ()
        have p2 := fix_range l.length (ref03_Knows_L1 s l ⟨(n : Int), (m : Int)⟩) (fun j (_ : Unit) => (j : Int)) (fun j nx s' => bif kwB s d n m (l.getD j 0) then some (true, 0) else nx s') (fun _ => some (false, 0))
          (fun rec j hj _ => by
            simp only [ref03_Knows_L1]
            obtain ⟨u, hu, hu2⟩ := lst_mem hb (List.getElem_mem hj)
            rw [if_pos (by omega), getI_some hj, bind_some, getD_some hj, hu, w64_nat (by omega)]
            unfold kwB
            rw [Int.toNat_natCast]
            rcases known_eq hv hd h6 hu2 f6 with ⟨i, a, g1, g2, _⟩ | ⟨g1, g2⟩
            · rw [g1, g2, bind_some, if_pos (by omega)]; rfl
            · rw [g1, g2, bind_some, if_neg (by omega)]; rfl)
          (fun rec _ => by simp only [ref03_Knows_L1]; rw [if_neg (by omega)]) (f := FUEL) (fuel_lt (by omega)) ()
        rw [show ((0 : Nat) : Int) = 0 from rfl] at p1 p2
        rw [p1, p2, itL_find (fun (j : Nat) => kwB s d n m (l.getD j 0)) (fun (j : Nat) _ => some (j : Int)) _ _ _ _ (fun a _ nx s => rfl), itL_find (fun (j : Nat) => kwB s d n m (l.getD j 0)) (fun (j : Nat) _ => some (true, (0 : Int))) _ _ _ _ (fun a _ nx s => rfl)]
        cases (List.range l.length).find? (fun j => kwB s d n m (l.getD j 0)) with
        | none => exact ⟨_, rfl, rfl⟩
        | some j =>
          simp only
          rw [bind_some, bind_some, decide_eq_true (by omega)]; exact ⟨_, rfl, rfl⟩
end Go.Sx

end
section
/- Covers, plainly (no program in sight): hot nodes, heads, feet; the cover as a list of nodes in ascending order. -/
set_option linter.unusedVariables false
set_option linter.unusedSimpArgs false
set_option maxRecDepth 100000
namespace Go.Sx
open Go

/-- whether a revoked receiver is below a node -/
def hotB (d : Nat) (R : List Nat) (v : Nat) : Bool := R.any fun u => belowB (2 ^ d + u) v
theorem hot_iff {d : Nat} {R : List Nat} {v : Nat} : hotB d R v = true ↔ ∃ u ∈ R, belowB (2 ^ d + u) v = true := by unfold hotB; rw [List.any_eq_true]
theorem dbl_fin : ∀ n : Fin 64, (2 * n.1) ^^^ 1 = 2 * n.1 + 1 ∧ (2 * n.1 + 1) ^^^ 1 = 2 * n.1 := by decide +kernel
theorem dbl0 {n : Nat} (h : n < 64) : (2 * n) ^^^ 1 = 2 * n + 1 := (dbl_fin ⟨n, h⟩).1
theorem dbl1 {n : Nat} (h : n < 64) : (2 * n + 1) ^^^ 1 = 2 * n := (dbl_fin ⟨n, h⟩).2
theorem div_succ (a b : Nat) : a / 2 ^ (b + 1) = a / 2 ^ b / 2 := by rw [Nat.pow_succ, Nat.div_div_eq_div_mul]
theorem below_kids {L v : Nat} (hL : 1 ≤ L) (hlt : Nat.log2 v < Nat.log2 L) (hv : 1 ≤ v) : belowB L v = (belowB L (2 * v) || belowB L (2 * v + 1)) := by
  rw [Bool.eq_iff_iff, Bool.or_eq_true, below_iff hL, below_iff hL, below_iff hL]
  constructor
  · rintro ⟨k, h1, h2⟩
    have hl := log2_div L k h1
    rw [← h2] at hl
    obtain ⟨j, rfl⟩ : ∃ j, k = j + 1 := ⟨k - 1, by omega⟩
    have h3 : 2 ^ j ≤ L := Nat.le_trans (Nat.pow_le_pow_right (by omega) (by omega)) h1
    rw [div_succ] at h2
    rcases (show L / 2 ^ j = 2 * v ∨ L / 2 ^ j = 2 * v + 1 by omega) with e | e
    · exact .inl ⟨j, h3, e.symm⟩
    · exact .inr ⟨j, h3, e.symm⟩
  · rintro (⟨j, h1, h2⟩ | ⟨j, h1, h2⟩)
    · exact ⟨j + 1, pow_div_le' (j := 1) (by rw [← h2]; omega), by rw [div_succ, ← h2]; omega⟩
    · exact ⟨j + 1, pow_div_le' (j := 1) (by rw [← h2]; omega), by rw [div_succ, ← h2]; omega⟩
theorem log2_dbl {v b : Nat} (hv : 1 ≤ v) (hb : b < 2) : Nat.log2 (2 * v + b) = Nat.log2 v + 1 := by
  rw [log2_half (by omega), show (2 * v + b) / 2 = v from by omega]
section
variable {d : Nat} {R : List Nat}
/-- receivers -/
def Rcv (d : Nat) (R : List Nat) : Prop := d ≤ 6 ∧ ∀ u ∈ R, u < 2 ^ d
theorem Rcv.leaf (h : Rcv d R) {u : Nat} (hu : u ∈ R) : 1 ≤ 2 ^ d + u ∧ 2 ^ d + u < 128 ∧ Nat.log2 (2 ^ d + u) = d := by
  have := pow_le64 h.1
  have := h.2 u hu
  have := Nat.two_pow_pos d
  exact ⟨by omega, by omega, leaf_log (h.2 u hu)⟩
theorem node_lt {v : Nat} (hv : 1 ≤ v) : v < 2 ^ d ↔ Nat.log2 v < d := by rw [Nat.log2_lt (by omega)]
/-- an inner node is hot just if a child is -/
theorem hot_kids (h : Rcv d R) {v : Nat} (hv : 1 ≤ v) (hl : Nat.log2 v < d) : hotB d R v = (hotB d R (2 * v) || hotB d R (2 * v + 1)) := by
  rw [Bool.eq_iff_iff, Bool.or_eq_true, hot_iff, hot_iff, hot_iff]
  constructor
  · rintro ⟨u, hu, hb⟩
    obtain ⟨h1, h2, h3⟩ := h.leaf hu
    rw [below_kids h1 (by omega) hv, Bool.or_eq_true] at hb
    rcases hb with hb | hb
    · exact .inl ⟨u, hu, hb⟩
    · exact .inr ⟨u, hu, hb⟩
  · rintro (⟨u, hu, hb⟩ | ⟨u, hu, hb⟩) <;>
    · obtain ⟨h1, h2, h3⟩ := h.leaf hu
      refine ⟨u, hu, ?_⟩
      rw [below_kids h1 (by omega) hv, hb]; simp
theorem hot_log (h : Rcv d R) {v : Nat} (hv : hotB d R v = true) : 1 ≤ v ∧ Nat.log2 v ≤ d ∧ v < 2 ^ (d + 1) := by
  obtain ⟨u, hu, hb⟩ := hot_iff.1 hv
  obtain ⟨h1, h2, h3⟩ := h.leaf hu
  have hp := below_pos h1 hb
  have hl := below_log h1 hb
  rw [h3] at hl
  exact ⟨hp, hl, (Nat.log2_lt (by omega)).1 (by omega)⟩
theorem hot_up (h : Rcv d R) {v : Nat} (hv : hotB d R v = true) (h2 : 2 ≤ v) : hotB d R (v / 2) = true := by
  obtain ⟨h1, hl, _⟩ := hot_log h hv
  have hh := log2_half h2
  rw [hot_kids h (by omega) (by omega)]
  rcases (show 2 * (v / 2) = v ∨ 2 * (v / 2) + 1 = v by omega) with e | e
  · rw [e, hv]; simp
  · rw [e, hv]; simp
theorem hot_ups (h : Rcv d R) {v : Nat} (hv : hotB d R v = true) : ∀ k, 2 ^ k ≤ v → hotB d R (v / 2 ^ k) = true
  | 0, _ => by simpa using hv
  | k + 1, hk => by
    rw [div_succ]
    have h1 : 2 ^ k ≤ v := Nat.le_trans (Nat.pow_le_pow_right (by omega) (by omega)) hk
    refine hot_up h (hot_ups h hv k h1) ?_
    have := pow_div_le (i := k) (j := 1) hk
    simpa using this
/-- exactly one child is hot -/
def brN (d : Nat) (R : List Nat) (v : Nat) : Bool := hotB d R (2 * v) != hotB d R (2 * v + 1)
def nxN (d : Nat) (R : List Nat) (v : Nat) : Nat := if hotB d R (2 * v) then 2 * v else 2 * v + 1
def footN (d : Nat) (R : List Nat) : Nat → Nat → Nat
  | 0, v => v
  | f + 1, v => if brN d R v then footN d R f (nxN d R v) else v
theorem br_inner (h : Rcv d R) {v : Nat} (hv : 1 ≤ v) (hb : brN d R v = true) : Nat.log2 v < d ∧ hotB d R v = true := by
  unfold brN at hb
  have hx : hotB d R (2 * v) = true ∨ hotB d R (2 * v + 1) = true := by
    cases h1 : hotB d R (2 * v) <;> cases h2 : hotB d R (2 * v + 1) <;> simp_all
  have hl : Nat.log2 v < d := by
    rcases hx with hx | hx
    · have := (hot_log h hx).2.1; have := log2_dbl hv (b := 0) (by omega); simp at this; omega
    · have := (hot_log h hx).2.1; have := log2_dbl hv (b := 1) (by omega); omega
  refine ⟨hl, ?_⟩
  rw [hot_kids h hv hl]
  rcases hx with hx | hx <;> simp [hx]
/-- the nodes from below v down to w are hot, and their siblings are not -/
def Chn (d : Nat) (R : List Nat) (v w : Nat) : Prop := ∃ k, 2 ^ k ≤ w ∧ v = w / 2 ^ k ∧ ∀ j, j < k → hotB d R (w / 2 ^ j) = true ∧ hotB d R ((w / 2 ^ j) ^^^ 1) = false
theorem foot_spec (h : Rcv d R) : ∀ (f v : Nat), 1 ≤ v → Nat.log2 v ≤ d → d - Nat.log2 v < f → 1 ≤ footN d R f v ∧ Nat.log2 (footN d R f v) ≤ d ∧ brN d R (footN d R f v) = false ∧ Chn d R v (footN d R f v)
  | 0, v, _, _, hf => by omega
  | f + 1, v, hv, hl, hf => by
    unfold footN
    cases hb : brN d R v with
    | false => exact ⟨by simpa using hv, by simpa using hl, by simpa using hb, ⟨0, by simpa using hv, by simp, fun j hj => by omega⟩⟩
    | true =>
      rw [if_pos rfl]
      obtain ⟨hl2, _⟩ := br_inner h hv hb
      have h64 := pow_le64 h.1
      have hv64 : v < 64 := by have := (node_lt (d := d) hv).2 hl2; omega
      have hc : (nxN d R v) / 2 = v ∧ 2 ≤ nxN d R v ∧ Nat.log2 (nxN d R v) = Nat.log2 v + 1 ∧ hotB d R (nxN d R v) = true ∧ hotB d R (nxN d R v ^^^ 1) = false := by
        unfold nxN
        unfold brN at hb
        cases h1 : hotB d R (2 * v) with
        | true =>
          rw [h1] at hb
          rw [if_pos rfl]
          refine ⟨by omega, by omega, log2_dbl hv (b := 0) (by omega), h1, ?_⟩
          rw [dbl0 hv64]; simpa using hb
        | false =>
          rw [h1] at hb
          rw [if_neg (by simp)]
          refine ⟨by omega, by omega, log2_dbl hv (b := 1) (by omega), by simpa using hb, ?_⟩
          rw [dbl1 hv64]; exact h1
      obtain ⟨c1, c2, c3, c4, c5⟩ := hc
      obtain ⟨g1, g2, g3, k, g4, g5, g6⟩ := foot_spec h f (nxN d R v) (by omega) (by omega) (by omega)
      refine ⟨g1, g2, g3, k + 1, ?_, ?_, ?_⟩
      · exact pow_div_le' (j := 1) (by rw [← g5]; omega)
      · rw [div_succ, ← g5]; exact c1.symm
      · intro j hj
        rcases Nat.lt_or_ge j k with hjk | hjk
        · exact g6 j hjk
        · obtain rfl : j = k := by omega
          rw [← g5]; exact ⟨c4, c5⟩
/-- the head of a node: from it on upwards, the first with a hot sibling, or the root -/
def hdN (d : Nat) (R : List Nat) : Nat → Nat → Nat
  | 0, x => x
  | f + 1, x => if x = 1 ∨ hotB d R (x ^^^ 1) = true then x else hdN d R f (x / 2)
def isHd (d : Nat) (R : List Nat) (v : Nat) : Bool := decide (v = 1) || hotB d R (v ^^^ 1)
theorem hd_self {f x : Nat} (h : isHd d R x = true) : hdN d R f x = x := by
  cases f with
  | zero => rfl
  | succ f =>
    unfold hdN
    unfold isHd at h
    rw [Bool.or_eq_true, decide_eq_true_eq] at h
    rw [if_pos h]
theorem hd_chain {v w : Nat} (hv : isHd d R v = true) (hv1 : 1 ≤ v) : ∀ (j k f : Nat), 2 ^ (j + k) ≤ w → v = w / 2 ^ (j + k) → (∀ i, j ≤ i → i < j + k → hotB d R ((w / 2 ^ i) ^^^ 1) = false) → k ≤ f → hdN d R f (w / 2 ^ j) = v
  | j, 0, f, h1, h2, _, _ => by rw [Nat.add_zero] at h2; rw [← h2]; exact hd_self hv
  | j, k + 1, 0, h1, h2, h3, hf => by omega
  | j, k + 1, f + 1, h1, h2, h3, hf => by
    unfold hdN
    have h4 := h3 j (by omega) (by omega)
    have h5 : w / 2 ^ j ≠ 1 := by
      have := pow_div_le (w := w) (i := j) (j := 1) (Nat.le_trans (Nat.pow_le_pow_right (by omega) (by omega)) h1)
      simp at this; omega
    rw [if_neg (by rw [h4]; simp [h5]), ← div_succ]
    exact hd_chain hv hv1 (j + 1) k f (by rw [show j + 1 + k = j + (k + 1) from by omega]; exact h1) (by rw [show j + 1 + k = j + (k + 1) from by omega]; exact h2) (fun i h6 h7 => h3 i (by omega) (by omega)) (by omega)
theorem hd_spec : ∀ (f x : Nat), 1 ≤ x → Nat.log2 x < f → isHd d R (hdN d R f x) = true ∧ ∃ i, 2 ^ i ≤ x ∧ hdN d R f x = x / 2 ^ i ∧ ∀ t, t < i → isHd d R (x / 2 ^ t) = false
  | 0, x, _, h => by omega
  | f + 1, x, hx, hf => by
    unfold hdN
    by_cases hc : x = 1 ∨ hotB d R (x ^^^ 1) = true
    · rw [if_pos hc]; exact ⟨by unfold isHd; simpa using hc, 0, by simpa using hx, by simp, fun t ht => by omega⟩
    · rw [if_neg hc]
      have hx2 : 2 ≤ x := by rw [not_or] at hc; omega
      have hh := log2_half hx2
      obtain ⟨h1, i, h2, h3, h4⟩ := hd_spec f (x / 2) (by omega) (by omega)
      refine ⟨h1, i + 1, ?_, ?_, ?_⟩
      · rw [Nat.pow_succ]; omega
      · rw [h3, Nat.div_div_eq_div_mul, Nat.pow_succ, Nat.mul_comm 2]
      · intro t ht
        cases t with
        | zero => simp only [Nat.pow_zero, Nat.div_one]; unfold isHd; simpa [not_or] using hc
        | succ t =>
          have := h4 t (by omega)
          rw [Nat.div_div_eq_div_mul, show 2 * 2 ^ t = 2 ^ (t + 1) from by rw [Nat.pow_succ, Nat.mul_comm]] at this; exact this
/-- the first special node strictly between -/
def cutN (d v w : Nat) : Nat := fstS d (pathN (w / 2) (Nat.log2 w - Nat.log2 v - 1))
/-- Minus of the cover's subset with a Node, if there is one -/
def minN (k : BitVec 8) (d : Nat) (R : List Nat) (x : Nat) : Option Nat :=
  if k = 1#8 then (if !hotB d R x && (decide (x = 1) || hotB d R (x / 2)) then some 0 else none)
  else if hotB d R x then
    (if footN d R 7 (hdN d R 7 x) = hdN d R 7 x then none
    else if x = hdN d R 7 x then some (if subN k d (hdN d R 7 x) (footN d R 7 (hdN d R 7 x)) then footN d R 7 (hdN d R 7 x) else cutN d (hdN d R 7 x) (footN d R 7 (hdN d R 7 x)))
    else if !subN k d (hdN d R 7 x) (footN d R 7 (hdN d R 7 x)) && decide (x = cutN d (hdN d R 7 x) (footN d R 7 (hdN d R 7 x))) then some (footN d R 7 (hdN d R 7 x)) else none)
  else none
def nodN (d : Nat) : List Nat := (List.range (2 ^ (d + 1) - 1)).map (· + 1)
/-- the cover -/
def covN (k : BitVec 8) (d : Nat) (R : List Nat) : List (Nat × Nat) := (nodN d).filterMap fun x => (minN k d R x).map fun m => (x, m)
theorem nod_mem {x : Nat} : x ∈ nodN d ↔ 1 ≤ x ∧ x < 2 ^ (d + 1) := by
  unfold nodN
  rw [List.mem_map]
  constructor
  · rintro ⟨a, ha, rfl⟩; have := List.mem_range.1 ha; omega
  · rintro ⟨h1, h2⟩; exact ⟨x - 1, List.mem_range.2 (by omega), by omega⟩
theorem cov_mem {k : BitVec 8} {y : Nat × Nat} : y ∈ covN k d R ↔ (1 ≤ y.1 ∧ y.1 < 2 ^ (d + 1)) ∧ minN k d R y.1 = some y.2 := by
  unfold covN
  rw [List.mem_filterMap]
  constructor
  · rintro ⟨x, hx, he⟩
    obtain ⟨m, hm, rfl⟩ := Option.map_eq_some_iff.1 he
    exact ⟨nod_mem.1 hx, hm⟩
  · rintro ⟨h1, h2⟩; exact ⟨y.1, nod_mem.2 h1, by rw [h2]; rfl⟩
/-- strictly ascending -/
def Asc (l : List (Nat × Nat)) : Prop := l.Pairwise fun a b => a.1 < b.1
theorem cov_asc {k : BitVec 8} : Asc (covN k d R) := by
  unfold Asc covN
  rw [List.pairwise_filterMap]
  have : (nodN d).Pairwise fun a b => a < b := by
    unfold nodN
    rw [List.pairwise_map]
    exact List.pairwise_lt_range.imp (by omega)
  refine this.imp ?_
  intro a b hab y hy z hz
  obtain ⟨_, _, rfl⟩ := Option.map_eq_some_iff.1 hy
  obtain ⟨_, _, rfl⟩ := Option.map_eq_some_iff.1 hz
  exact hab
theorem asc_ext : ∀ {l m : List (Nat × Nat)}, Asc l → Asc m → (∀ y, y ∈ l ↔ y ∈ m) → l = m
  | [], [], _, _, _ => rfl
  | [], b :: m, _, _, h => absurd ((h b).2 (by simp)) (by simp)
  | a :: l, [], _, _, h => absurd ((h a).1 (by simp)) (by simp)
  | a :: l, b :: m, hl, hm, h => by
    have ha := List.pairwise_cons.1 hl
    have hb := List.pairwise_cons.1 hm
    have hab : a = b := by
      rcases List.mem_cons.1 ((h a).1 (by simp)) with e | e
      · exact e
      · rcases List.mem_cons.1 ((h b).2 (by simp)) with e2 | e2
        · exact e2.symm
        · have := ha.1 b e2; have := hb.1 a e; omega
    subst hab
    congr 1
    refine asc_ext ha.2 hb.2 fun y => ?_
    constructor
    · intro hy
      rcases List.mem_cons.1 ((h y).1 (by simp [hy])) with e | e
      · subst e; have := ha.1 y hy; omega
      · exact e
    · intro hy
      rcases List.mem_cons.1 ((h y).2 (by simp [hy])) with e | e
      · subst e; have := hb.1 y hy; omega
      · exact e
/-- what comes of a hot node: the program's way -/
def outP (k : BitVec 8) (d : Nat) (R : List Nat) (v : Nat) : List (Nat × Nat) :=
  if k = 1#8 then (if v ≠ 1 ∧ hotB d R (v ^^^ 1) = false then [(v ^^^ 1, 0)] else [])
  else if isHd d R v then (if footN d R 7 v = v then [] else if subN k d v (footN d R 7 v) then [(v, footN d R 7 v)] else [(v, cutN d v (footN d R 7 v)), (cutN d v (footN d R 7 v), footN d R 7 v)])
  else []
/-- from which hot node a subset of the cover comes -/
def ownN (k : BitVec 8) (d : Nat) (R : List Nat) (y : Nat × Nat) : Nat := if k = 1#8 then y.1 ^^^ 1 else hdN d R 7 y.1
theorem cut_chain {k : BitVec 8} {v w : Nat} (hK : 2 ^ k.toNat ≤ w ∨ True) {K : Nat} (h1 : 2 ^ K ≤ w) (h2 : v = w / 2 ^ K) (hv : 1 ≤ v) (hs : subN k d v w = false) : ∃ j, 1 ≤ j ∧ j < K ∧ cutN d v w = w / 2 ^ j := by
  have hl := log2_div w K h1
  rw [← h2] at hl
  unfold subN at hs
  simp only [Bool.or_eq_false_iff, decide_eq_false_iff_not] at hs
  have h0 : cutN d v w ≠ 0 := hs.2
  unfold cutN at h0 ⊢
  unfold fstS at h0 ⊢
  cases hf : (pathN (w / 2) (Nat.log2 w - Nat.log2 v - 1)).find? (spcl d) with
  | none => rw [hf] at h0; simp at h0
  | some c =>
    obtain ⟨j, hj, rfl⟩ := pathN_mem.1 (List.mem_of_find?_eq_some hf)
    refine ⟨j + 1, by omega, by omega, ?_⟩
    rw [Option.getD_some, Nat.div_div_eq_div_mul, show 2 * 2 ^ j = 2 ^ (j + 1) from by rw [Nat.pow_succ, Nat.mul_comm]]
theorem cov_own (h : Rcv d R) {k : BitVec 8} (hne : R ≠ []) {v : Nat} (hv : hotB d R v = true) (y : Nat × Nat) : (y ∈ covN k d R ∧ ownN k d R y = v) ↔ y ∈ outP k d R v := by
  have h64 := pow_le64 h.1
  have hpow : 2 ^ (d + 1) = 2 * 2 ^ d := by rw [Nat.pow_succ, Nat.mul_comm]
  obtain ⟨v1, vl, v2⟩ := hot_log h hv
  rw [cov_mem]
  by_cases hk : k = 1#8
  · unfold minN ownN outP
    rw [if_pos hk, if_pos hk, if_pos hk]
    have hroot : hotB d R 1 = true := by
      obtain ⟨u, hu⟩ := List.exists_mem_of_ne_nil R hne
      obtain ⟨l1, l2, l3⟩ := h.leaf hu
      exact hot_iff.2 ⟨u, hu, (below_iff l1).2 ⟨d, by omega, by rw [Nat.add_div_left _ (Nat.two_pow_pos d), Nat.div_eq_of_lt (h.2 u hu)]⟩⟩
    constructor
    · rintro ⟨⟨⟨y1, y2⟩, hm⟩, rfl⟩
      split at hm
      · rename_i hc
        simp only [Bool.and_eq_true, Bool.not_eq_true', Bool.or_eq_true, decide_eq_true_eq] at hc
        have hy0 : y.2 = 0 := (Option.some.inj hm).symm
        have hyn : y.1 ≠ 1 := fun e => by rw [e] at hc; rw [hroot] at hc; simp at hc
        have hss := sib_sib (n := y.1) (by omega)
        rw [hss]
        have hs1 : y.1 ^^^ 1 ≠ 1 := by have := sib_two_le (n := y.1) (by omega) (by omega); omega
        rw [if_pos ⟨hs1, hc.1⟩]
        simp only [List.mem_singleton]
        cases y; simp only at *; rw [hy0]
      · cases hm
    · intro hy
      split at hy
      · rename_i hc
        simp only [List.mem_singleton] at hy
        subst hy
        simp only
        have hv2 : 2 ≤ v := by omega
        have e1 := sib_lt (n := v) (by omega)
        have e2 := sib_two_le (n := v) (by omega) hv2
        have e3 := sib_log (n := v) (by omega) hv2
        refine ⟨⟨⟨by omega, ?_⟩, ?_⟩, sib_sib (by omega)⟩
        · exact (Nat.log2_lt (by omega)).1 (by omega)
        · rw [if_pos]
          simp only [Bool.and_eq_true, Bool.not_eq_true', Bool.or_eq_true, decide_eq_true_eq]
          refine ⟨hc.2, .inr ?_⟩
          rw [sib_half (by omega)]; exact hot_up h hv hv2
      · cases hy
  · unfold minN ownN outP
    rw [if_neg hk, if_neg hk, if_neg hk]
    constructor
    · rintro ⟨⟨⟨y1, y2⟩, hm⟩, rfl⟩
      have hl7 : Nat.log2 y.1 < 7 := by have := (Nat.log2_lt (n := y.1) (k := d + 1) (by omega)).2 y2; have := h.1; omega
      rw [if_pos (hd_spec 7 y.1 y1 hl7).1]
      generalize hdN d R 7 y.1 = v at *
      generalize footN d R 7 v = w at *
      split at hm
      · split at hm
        · cases hm
        · rename_i h1 h2
          rw [if_neg h2]
          split at hm
          · rename_i h3
            have hm' := Option.some.inj hm
            split
            · rename_i h4
              rw [if_pos h4] at hm'
              simp only [List.mem_singleton]; cases y; simp only at *; rw [h3, hm']
            · rename_i h4
              rw [if_neg h4] at hm'
              simp only [List.mem_cons, List.not_mem_nil, or_false]; left; cases y; simp only at *; rw [h3, hm']
          · split at hm
            · rename_i h3 h4
              simp only [Bool.and_eq_true, Bool.not_eq_true', decide_eq_true_eq] at h4
              rw [if_neg (by rw [h4.1]; simp)]
              simp only [List.mem_cons, List.not_mem_nil, or_false]; right
              have hm' := Option.some.inj hm
              cases y; simp only at *; rw [← h4.2, hm']
            · cases hm
      · cases hm
    · intro hy
      split at hy
      · rename_i hh
        obtain ⟨w1, w2, w3, K, w4, w5, w6⟩ := foot_spec h 7 v v1 vl (by have := h.1; omega)
        generalize hw : footN d R 7 v = w at *
        have hs : hdN d R 7 v = v := hd_self hh
        split at hy
        · cases hy
        · rename_i hne2
          split at hy
          · rename_i h4
            simp only [List.mem_singleton] at hy
            subst hy
            simp only [hs, hw, hv, if_true, if_neg hne2, h4]
            exact ⟨⟨⟨v1, v2⟩, trivial⟩, trivial⟩
          · rename_i h4
            have h4' : subN k d v w = false := by simpa using h4
            simp only [List.mem_cons, List.not_mem_nil, or_false] at hy
            rcases hy with rfl | rfl
            · simp only [hs, hw, hv, if_true, if_neg hne2, h4', Bool.false_eq_true, if_false]
              exact ⟨⟨⟨v1, v2⟩, trivial⟩, trivial⟩
            · obtain ⟨j, j1, j2, j3⟩ := cut_chain (k := k) (d := d) (.inr trivial) w4 w5 v1 h4'
              have hlw := log2_div w K w4
              have hKd : K ≤ 6 := by have := h.1; omega
              have hc : hdN d R 7 (cutN d v w) = v := by
                rw [j3]
                exact hd_chain hh v1 j (K - j) 7 (by rw [show j + (K - j) = K from by omega]; exact w4) (by rw [show j + (K - j) = K from by omega]; exact w5) (fun i _ hi => (w6 i (by omega)).2) (by omega)
              have hj2 : 2 ^ j ≤ w := Nat.le_trans (Nat.pow_le_pow_right (by omega) (by omega)) w4
              have hch : hotB d R (cutN d v w) = true := by rw [j3]; exact (w6 j j2).1
              have hcv : cutN d v w ≠ v := by
                rw [j3, w5]; exact divk_ne w4 j2
              obtain ⟨c1, _, c3⟩ := hot_log h hch
              simp only [hc, hw, hch, if_true, if_neg hne2, if_neg hcv, h4']
              simp only [Bool.not_false, Bool.true_and, decide_true, if_true]
              exact ⟨⟨⟨c1, c3⟩, trivial⟩, trivial⟩
      · cases hy
theorem own_hot (h : Rcv d R) {k : BitVec 8} (hne : R ≠ []) {y : Nat × Nat} (hy : y ∈ covN k d R) : hotB d R (ownN k d R y) = true := by
  have h64 := pow_le64 h.1
  have hpow : 2 ^ (d + 1) = 2 * 2 ^ d := by rw [Nat.pow_succ, Nat.mul_comm]
  obtain ⟨⟨y1, y2⟩, hm⟩ := cov_mem.1 hy
  unfold minN at hm
  unfold ownN
  by_cases hk : k = 1#8
  · rw [if_pos hk] at hm ⊢
    split at hm
    · rename_i hc
      simp only [Bool.and_eq_true, Bool.not_eq_true', Bool.or_eq_true, decide_eq_true_eq] at hc
      have hroot : hotB d R 1 = true := by
        obtain ⟨u, hu⟩ := List.exists_mem_of_ne_nil R hne
        obtain ⟨l1, l2, l3⟩ := h.leaf hu
        exact hot_iff.2 ⟨u, hu, (below_iff l1).2 ⟨d, by omega, by rw [Nat.add_div_left _ (Nat.two_pow_pos d), Nat.div_eq_of_lt (h.2 u hu)]⟩⟩
      have hyn : y.1 ≠ 1 := fun e => by rw [e] at hc; rw [hroot] at hc; simp at hc
      have hp : hotB d R (y.1 / 2) = true := by
        rcases hc.2 with e | e
        · exact absurd e hyn
        · exact e
      have hlg := log2_half (n := y.1) (by omega)
      have hyl : Nat.log2 y.1 ≤ d := node_log y1 y2
      rw [hot_kids h (by omega) (by omega), Bool.or_eq_true] at hp
      have hz : y.1 / 2 < 64 := by omega
      rcases (show y.1 = 2 * (y.1 / 2) ∨ y.1 = 2 * (y.1 / 2) + 1 by omega) with e | e
      · have h2 : hotB d R (2 * (y.1 / 2)) = false := by rw [← e]; exact hc.1
        have : y.1 ^^^ 1 = 2 * (y.1 / 2) + 1 := by rw [← dbl0 hz, ← e]
        rw [this]; rw [h2] at hp; simpa using hp
      · have h2 : hotB d R (2 * (y.1 / 2) + 1) = false := by rw [← e]; exact hc.1
        have : y.1 ^^^ 1 = 2 * (y.1 / 2) := by rw [← dbl1 hz, ← e]
        rw [this]; rw [h2] at hp; simpa using hp
    · cases hm
  · rw [if_neg hk] at hm ⊢
    split at hm
    · rename_i hx
      have hl7 : Nat.log2 y.1 < 7 := by have := node_log y1 y2; have := h.1; omega
      obtain ⟨_, i, i1, i2, _⟩ := hd_spec (d := d) (R := R) 7 y.1 y1 hl7
      rw [i2]; exact hot_ups h hx i i1
    · cases hm
end
end Go.Sx

end
section
/- Covers: the program's mirror comes to the plain cover. -/
set_option linter.unusedVariables false
set_option linter.unusedSimpArgs false
set_option maxRecDepth 100000
namespace Go.Sx
open Go

def mkS (y : Nat × Nat) : TSubset := ⟨(y.1 : Int), (y.2 : Int)⟩
/-! the hot nodes -/
def upF : Nat → Nat → List Int → List Int
  | 0, _, ks => ks
  | f + 1, n, ks => if n = 0 then ks else upF f (n / 2) (insS ks (n : Int))
theorem up_loop (a5 : Int) (rec1 : Int × List Int → Option (List TSubset × Int)) : ∀ (f fuel n : Nat) (ks : List Int), n < 2 ^ f → f < fuel → fixN (cover_Cover_L2 a5 rec1) fuel ((n : Int), ks) = rec1 (w64 (a5 + 1), upF f n ks)
  | f, 0, n, ks, _, h => by omega
  | 0, fuel + 1, n, ks, hn, _ => by
    rw [fix_step]; simp only [cover_Cover_L2]
    rw [if_neg (by simp at hn; omega)]; rfl
  | f + 1, fuel + 1, n, ks, hn, hf => by
    rw [fix_step]; simp only [cover_Cover_L2]
    unfold upF
    by_cases h0 : n = 0
    · rw [if_neg (by omega), if_pos h0]
    · rw [if_pos (by omega), if_neg h0, show shG (un 1#64) = some 1 from by decide, bind_some, shr_nat _ _ (by omega), Nat.pow_one]
      exact up_loop a5 rec1 f fuel (n / 2) _ (by rw [Nat.pow_succ] at hn; omega) (by omega)
theorem insS_mem {ks : List Int} {k z : Int} : z ∈ insS ks k ↔ z ∈ ks ∨ z = k := by
  unfold insS; split
  · rename_i h; exact ⟨.inl, fun h' => h'.elim id (fun e => e ▸ h)⟩
  · simp
theorem insS_len {ks : List Int} {k : Int} : (insS ks k).length ≤ ks.length + 1 := by unfold insS; split <;> simp
theorem up_mem : ∀ (f n : Nat) (ks : List Int) (z : Int), n < 2 ^ f → (z ∈ upF f n ks ↔ z ∈ ks ∨ ∃ j, 2 ^ j ≤ n ∧ z = ((n / 2 ^ j : Nat) : Int))
  | 0, n, ks, z, hn => by
    unfold upF
    constructor
    · exact .inl
    · rintro (h | ⟨j, hj, _⟩)
      · exact h
      · have := Nat.two_pow_pos j; simp at hn; omega
  | f + 1, n, ks, z, hn => by
    unfold upF
    by_cases h0 : n = 0
    · rw [if_pos h0]
      constructor
      · exact .inl
      · rintro (h | ⟨j, hj, _⟩)
        · exact h
        · have := Nat.two_pow_pos j; omega
    · rw [if_neg h0, up_mem f (n / 2) _ z (by rw [Nat.pow_succ] at hn; omega), insS_mem]
      have hd2 : ∀ j, n / 2 / 2 ^ j = n / 2 ^ (j + 1) := fun j => by rw [Nat.div_div_eq_div_mul, Nat.pow_succ, Nat.mul_comm 2]
      constructor
      · rintro ((h | h) | ⟨j, h1, h2⟩)
        · exact .inl h
        · exact .inr ⟨0, by simp; omega, by simpa using h⟩
        · exact .inr ⟨j + 1, by rw [Nat.pow_succ]; omega, by rw [h2, hd2]⟩
      · rintro (h | ⟨j, h1, h2⟩)
        · exact .inl (.inl h)
        · cases j with
          | zero => exact .inl (.inr (by simpa using h2))
          | succ j => exact .inr ⟨j, by rw [Nat.pow_succ] at h1; omega, by rw [h2, hd2]⟩
theorem up_len : ∀ (f n : Nat) (ks : List Int), (upF f n ks).length ≤ ks.length + f
  | 0, n, ks => by simp [upF]
  | f + 1, n, ks => by
    unfold upF; split
    · omega
    · have := up_len f (n / 2) (insS ks (n : Int)); have := insS_len (ks := ks) (k := (n : Int)); omega
/-- all hot nodes -/
def hotL (d : Nat) (l : List Int) : List Int := l.foldl (fun ks u => upF 8 (2 ^ d + u.toNat) ks) []
theorem hotL_mem {d : Nat} (h6 : d ≤ 6) : ∀ (l : List Int) (ks : List Int) (z : Int), (∀ u ∈ l, u.toNat < 2 ^ d) → (z ∈ l.foldl (fun ks u => upF 8 (2 ^ d + u.toNat) ks) ks ↔ z ∈ ks ∨ ∃ u ∈ l, ∃ j, 2 ^ j ≤ 2 ^ d + u.toNat ∧ z = (((2 ^ d + u.toNat) / 2 ^ j : Nat) : Int))
  | [], ks, z, _ => by simp
  | a :: l, ks, z, h => by
    have h64 := pow_le64 h6
    have ha := h a (by simp)
    rw [List.foldl_cons, hotL_mem h6 l _ z (fun u hu => h u (by simp [hu])), up_mem 8 _ _ _ (by omega)]
    constructor
    · rintro ((h1 | h1) | ⟨u, hu, h1⟩)
      · exact .inl h1
      · exact .inr ⟨a, by simp, h1⟩
      · exact .inr ⟨u, by simp [hu], h1⟩
    · rintro (h1 | ⟨u, hu, h1⟩)
      · exact .inl (.inl h1)
      · rcases List.mem_cons.1 hu with rfl | hu
        · exact .inl (.inr h1)
        · exact .inr ⟨u, hu, h1⟩
theorem hotL_len {d : Nat} : ∀ (l : List Int) (ks : List Int), (l.foldl (fun ks u => upF 8 (2 ^ d + u.toNat) ks) ks).length ≤ ks.length + 8 * l.length
  | [], ks => by simp
  | a :: l, ks => by
    rw [List.foldl_cons, List.length_cons]
    have := hotL_len (d := d) l (upF 8 (2 ^ d + a.toNat) ks)
    have := up_len 8 (2 ^ d + a.toNat) ks
    omega
def rcvL (l : List Int) : List Nat := l.map Int.toNat
theorem rcv_of {d : Nat} {l : List Int} (h6 : d ≤ 6) (h : lstB d l = true) : Rcv d (rcvL l) := ⟨h6, fun u hu => by
  obtain ⟨a, ha, rfl⟩ := List.mem_map.1 hu
  obtain ⟨w, hw, hw2⟩ := lst_mem h ha
  rw [hw]; simpa using hw2⟩
theorem hotL_hot {d : Nat} {l : List Int} (h6 : d ≤ 6) (h : lstB d l = true) (n : Nat) : ((n : Int) ∈ hotL d l) ↔ hotB d (rcvL l) n = true := by
  have hr := rcv_of h6 h
  unfold hotL
  rw [hotL_mem h6 l [] _ (fun u hu => hr.2 _ (List.mem_map.2 ⟨u, hu, rfl⟩)), hot_iff]
  simp only [List.not_mem_nil, false_or]
  constructor
  · rintro ⟨u, hu, j, h1, h2⟩
    refine ⟨u.toNat, List.mem_map.2 ⟨u, hu, rfl⟩, (below_iff (hr.leaf (List.mem_map.2 ⟨u, hu, rfl⟩)).1).2 ⟨j, h1, by omega⟩⟩
  · rintro ⟨u, hu, hb⟩
    obtain ⟨a, ha, rfl⟩ := List.mem_map.1 hu
    obtain ⟨j, h1, h2⟩ := (below_iff (hr.leaf hu).1).1 hb
    exact ⟨a, ha, j, h1, by rw [h2]⟩
theorem hotL_nat {d : Nat} {l : List Int} (h6 : d ≤ 6) (h : lstB d l = true) {k : Int} (hk : k ∈ hotL d l) : ∃ n : Nat, k = (n : Int) ∧ hotB d (rcvL l) n = true := by
  have hr := rcv_of h6 h
  unfold hotL at hk
  rw [hotL_mem h6 l [] _ (fun u hu => hr.2 _ (List.mem_map.2 ⟨u, hu, rfl⟩))] at hk
  simp only [List.not_mem_nil, false_or] at hk
  obtain ⟨u, hu, j, h1, h2⟩ := hk
  exact ⟨_, h2, hot_iff.2 ⟨u.toNat, List.mem_map.2 ⟨u, hu, rfl⟩, (below_iff (hr.leaf (List.mem_map.2 ⟨u, hu, rfl⟩)).1).2 ⟨j, h1, rfl⟩⟩⟩
/-! a round -/
theorem dec_mem {d : Nat} {l : List Int} (h6 : d ≤ 6) (h : lstB d l = true) (n : Nat) : decide ((n : Int) ∈ hotL d l) = hotB d (rcvL l) n := by
  cases hb : hotB d (rcvL l) n with
  | true => exact decide_eq_true ((hotL_hot h6 h n).2 hb)
  | false => exact decide_eq_false fun hm => by rw [(hotL_hot h6 h n).1 hm] at hb; cases hb
theorem foot_loop {s : TScheme} {d : Nat} {l : List Int} (h6 : d ≤ 6) (h : lstB d l = true) (acc : List TSubset) (nx : List TSubset → Option (List TSubset × Int)) (k : Int) : ∀ (f fuel v : Nat), 1 ≤ v → Nat.log2 v ≤ d → d - Nat.log2 v < f → f ≤ fuel →
    fixN (cover_Cover_L6 (treeI s, 0) (hotL d l) acc nx k) fuel (v : Int) = (if (footN d (rcvL l) f v : Int) = k then nx acc else Option.bind (cover_tree_cut (treeI s) k (footN d (rcvL l) f v : Int)) fun x31 => (if x31 ≠ 0 then (if (treeI s).kind = 3#8 then Option.bind (cover_tree_special (treeI s) k) fun x34 => (cover_Cover_J8 acc nx k (footN d (rcvL l) f v : Int) x31 (!x34)) else cover_Cover_J8 acc nx k (footN d (rcvL l) f v : Int) x31 false) else cover_Cover_J8 acc nx k (footN d (rcvL l) f v : Int) x31 false))
  | 0, fuel, v, _, _, hf, _ => by omega
  | f + 1, 0, v, _, _, _, hf => by omega
  | f + 1, fuel + 1, v, hv, hl, hf, hff => by
    have hr := rcv_of h6 h
    have h64 := pow_le64 h6
    have hv128 : v < 128 := by
      have := (Nat.log2_lt (n := v) (k := d + 1) (by omega)).1 (by omega)
      rw [Nat.pow_succ] at this; omega
    rw [fix_step]; simp only [cover_Cover_L6]
    have e0 : w64 (2 * (v : Int)) = ((2 * v : Nat) : Int) := by rw [w64_id (by omega) (by omega)]; omega
    have e1 : w64 (((2 * v : Nat) : Int) + 1) = ((2 * v + 1 : Nat) : Int) := by rw [w64_id (by omega) (by omega)]; omega
    have e2 : w64 ((v : Int) * 2) = ((2 * v : Nat) : Int) := by rw [w64_id (by omega) (by omega)]; omega
    rw [e0, e1, e2, e1, dec_mem h6 h, dec_mem h6 h]
    rw [show (hotB d (rcvL l) (2 * v) != hotB d (rcvL l) (2 * v + 1)) = brN d (rcvL l) v from rfl]
    cases hb : brN d (rcvL l) v with
    | false =>
      have hfv : footN d (rcvL l) (f + 1) v = v := by unfold footN; rw [hb]; rfl
      rw [cond_false, hfv]
    | true =>
      have hfv : footN d (rcvL l) (f + 1) v = footN d (rcvL l) f (nxN d (rcvL l) v) := by
        show (if brN d (rcvL l) v = true then footN d (rcvL l) f (nxN d (rcvL l) v) else v) = _
        rw [hb]; rfl
      rw [cond_true, hfv]
      obtain ⟨hl2, _⟩ := br_inner hr hv hb
      have key : (if ¬ (((2 * v : Nat) : Int) ∈ hotL d l) then fixN (cover_Cover_L6 (treeI s, 0) (hotL d l) acc nx k) fuel ((2 * v + 1 : Nat) : Int) else fixN (cover_Cover_L6 (treeI s, 0) (hotL d l) acc nx k) fuel ((2 * v : Nat) : Int)) = fixN (cover_Cover_L6 (treeI s, 0) (hotL d l) acc nx k) fuel (nxN d (rcvL l) v : Int) := by
        unfold nxN
        cases hh : hotB d (rcvL l) (2 * v) with
        | true => rw [if_neg (fun hn => hn ((hotL_hot h6 h _).2 hh)), if_pos rfl]
        | false => rw [if_pos (fun hm => by rw [(hotL_hot h6 h _).1 hm] at hh; cases hh), if_neg (by simp)]
      rw [key]
      have hn : 1 ≤ nxN d (rcvL l) v ∧ Nat.log2 (nxN d (rcvL l) v) = Nat.log2 v + 1 := by
        unfold nxN; split
        · exact ⟨by omega, log2_dbl hv (b := 0) (by omega)⟩
        · exact ⟨by omega, log2_dbl hv (b := 1) (by omega)⟩
      exact foot_loop h6 h acc nx k f fuel _ hn.1 (by omega) (by omega) (by omega)
theorem step_eq' {s : TScheme} {d : Nat} {l : List Int} (hv : vldB s = true) (hd : s.Depth = (d : Int)) (h6 : d ≤ 6) (h : lstB d l = true) {v : Nat} (hh : hotB d (rcvL l) v = true) (acc : List TSubset) (ha : acc.length ≤ 1000) (nx : List TSubset → Option (List TSubset × Int)) :
    cover_Cover_S3 (treeI s, 0) (hotL d l) (v : Int) nx acc = nx (acc ++ (outP s.Kind d (rcvL l) v).map mkS) := by
  have hr := rcv_of h6 h
  have h64 := pow_le64 h6
  obtain ⟨v1, vl, v2⟩ := hot_log hr hh
  have hpow : 2 ^ (d + 1) = 2 * 2 ^ d := by rw [Nat.pow_succ, Nat.mul_comm]
  have hv128 : v < 128 := by omega
  have ht : treeI s = ⟨s.Kind, (d : Int), (strd d : Int)⟩ := by unfold treeI; rw [hd, Int.toNat_natCast]
  have hkd : (treeI s).kind = s.Kind := rfl
  have hsib : cover_node_sibling (v : Int) = some ((v ^^^ 1 : Nat) : Int) := by unfold cover_node_sibling; rw [bit_xor hv128]
  have hadd : ∀ (a b : Int) (acc : List TSubset), acc.length ≤ 2000 → cover_Cover_1 a b acc = some (acc ++ [⟨a, b⟩]) := fun a b acc hl => by
    unfold cover_Cover_1; rw [appG_some (by simp; omega), bind_some]
  unfold cover_Cover_S3
  simp only [hkd]
  by_cases hk : s.Kind = 1#8
  · rw [if_pos hk]
    unfold outP
    rw [if_pos hk]
    by_cases hv1 : v = 1
    · rw [if_neg (by omega), if_neg (by simp [hv1])]
      unfold cover_Cover_J4; simp
    · rw [if_pos (by omega), hsib, bind_some]
      unfold cover_Cover_J4
      have hdm := dec_mem h6 h (v ^^^ 1)
      by_cases hs : hotB d (rcvL l) (v ^^^ 1) = true
      · rw [decide_eq_false (p := ¬ (((v ^^^ 1 : Nat) : Int) ∈ hotL d l)) (fun hn => hn ((hotL_hot h6 h _).2 hs)), cond_false, if_neg (by simp [hs])]; simp
      · have hs' : hotB d (rcvL l) (v ^^^ 1) = false := by simpa using hs
        rw [decide_eq_true (p := ¬ (((v ^^^ 1 : Nat) : Int) ∈ hotL d l)) (fun hm => hs ((hotL_hot h6 h _).1 hm)), cond_true, hsib, bind_some, hadd _ _ _ (by omega), bind_some, if_pos ⟨hv1, hs'⟩]
        rfl
  · rw [if_neg hk]
    -- the way on for heads
    have go : isHd d (rcvL l) v = true → cover_Cover_J5 (treeI s, 0) (hotL d l) acc nx (v : Int) false = nx (acc ++ (outP s.Kind d (rcvL l) v).map mkS) := by
      intro hhd
      unfold cover_Cover_J5
      rw [cond_false, foot_loop h6 h acc nx (v : Int) 7 FUEL v v1 vl (by omega) (by unfold FUEL; omega)]
      unfold outP
      rw [if_neg hk, if_pos hhd]
      obtain ⟨w1, w2, w3, K, w4, w5, w6⟩ := foot_spec hr 7 v v1 vl (by omega)
      generalize footN d (rcvL l) 7 v = w at *
      by_cases hw : w = v
      · rw [if_pos (by omega), if_pos hw]; simp
      · rw [if_neg (by omega), if_neg hw]
        have hlw := log2_div w K w4
        rw [← w5] at hlw
        have hK : 1 ≤ K := by
          rcases Nat.eq_zero_or_pos K with h0 | h0
          · subst h0; simp at w5; exact absurd w5.symm hw
          · exact h0
        have hw128 : w < 128 := by
          have := (Nat.log2_lt (n := w) (k := d + 1) (by omega)).1 (by omega)
          omega
        have hcut : cover_tree_cut (treeI s) (v : Int) (w : Int) = some ((cutN d v w : Nat) : Int) := by
          obtain ⟨K', rfl⟩ : ∃ K', K = K' + 1 := ⟨K - 1, by omega⟩
          have := cut_eq (kd := s.Kind) (d := d) (m := w) (k := K') hw128 w4 (by omega)
          rw [← w5] at this
          rw [ht, this]
          unfold cutN
          rw [show Nat.log2 w - Nat.log2 v - 1 = K' from by omega]
        have hspc : cover_tree_special (treeI s) (v : Int) = some (spcl d v) := by rw [ht]; exact special_eq v1 (by omega)
        rw [hcut, bind_some]
        have one : cover_Cover_J8 acc nx (v : Int) (w : Int) ((cutN d v w : Nat) : Int) false = nx (acc ++ [(v, w)].map mkS) := by
          unfold cover_Cover_J8 cover_Cover_J7
          rw [cond_false, hadd _ _ _ (by omega), bind_some]; rfl
        have two : cover_Cover_J8 acc nx (v : Int) (w : Int) ((cutN d v w : Nat) : Int) true = nx (acc ++ [(v, cutN d v w), (cutN d v w, w)].map mkS) := by
          unfold cover_Cover_J8 cover_Cover_J7
          rw [cond_true, hadd _ _ _ (by omega), bind_some, hadd _ _ _ (by simp; omega), bind_some, List.append_assoc]; rfl
        have hk3 : s.Kind = 2#8 ∨ s.Kind = 3#8 := by
          obtain ⟨a, b⟩ := vld_kind hv
          rcases kind_cases a b with e | e | e
          · exact absurd e hk
          · exact .inl e
          · exact .inr e
        unfold subN
        by_cases hc0 : cutN d v w = 0
        · rw [if_neg (by omega), one]
          have : (decide (s.Kind = 2#8) || spcl d v || decide (fstS d (pathN (w / 2) (Nat.log2 w - Nat.log2 v - 1)) = 0)) = true := by
            rw [decide_eq_true (p := fstS _ _ = 0) hc0]; simp
          rw [if_pos this]
        · have hc0' : decide (fstS d (pathN (w / 2) (Nat.log2 w - Nat.log2 v - 1)) = 0) = false := decide_eq_false hc0
          rw [if_pos (by omega), hc0', Bool.or_false]
          rcases hk3 with hk3 | hk3
          · rw [if_neg (by rw [hkd, hk3]; decide), one, if_pos (by simp [hk3])]
          · rw [if_pos (show (treeI s).kind = 3#8 from hk3), hspc, bind_some]
            have : decide (s.Kind = 2#8) = false := by rw [hk3]; decide
            rw [this, Bool.false_or]
            cases spcl d v with
            | true => rw [Bool.not_true, one, if_pos rfl]
            | false => rw [Bool.not_false, two, if_neg (by simp)]
    have no : isHd d (rcvL l) v = false → cover_Cover_J5 (treeI s, 0) (hotL d l) acc nx (v : Int) true = nx (acc ++ (outP s.Kind d (rcvL l) v).map mkS) := by
      intro hhd
      unfold cover_Cover_J5 outP
      rw [cond_true, if_neg hk, if_neg (by rw [hhd]; simp)]; simp
    by_cases hv1 : v = 1
    · rw [if_neg (by omega)]; exact go (by unfold isHd; simp [hv1])
    · rw [if_pos (by omega), hsib, bind_some]
      by_cases hs : hotB d (rcvL l) (v ^^^ 1) = true
      · rw [decide_eq_false (p := ¬ (((v ^^^ 1 : Nat) : Int) ∈ hotL d l)) (fun hn => hn ((hotL_hot h6 h _).2 hs))]; exact go (by unfold isHd; simp [hs])
      · have hs' : hotB d (rcvL l) (v ^^^ 1) = false := by simpa using hs
        rw [decide_eq_true (p := ¬ (((v ^^^ 1 : Nat) : Int) ∈ hotL d l)) (fun hm => hs ((hotL_hot h6 h _).1 hm))]; exact no (by unfold isHd; simp [hs', hv1])
/-! any order -/
theorem cov_filter {d : Nat} {R : List Nat} (h : Rcv d R) {k : BitVec 8} (hne : R ≠ []) {v : Nat} (hv : hotB d R v = true) : (covN k d R).filter (fun y => decide (ownN k d R y = v)) = outP k d R v := by
  refine asc_ext ?_ ?_ fun y => ?_
  · exact List.Pairwise.filter _ cov_asc
  · unfold outP Asc
    split
    · split <;> simp
    · split
      · split
        · simp
        · split
          · simp
          · rename_i h2 h3 h4 h5
            obtain ⟨v1, vl, v2⟩ := hot_log h hv
            obtain ⟨w1, w2, w3, K, w4, w5, w6⟩ := foot_spec h 7 v v1 vl (by have := h.1; omega)
            obtain ⟨j, j1, j2, j3⟩ := cut_chain (k := k) (d := d) (.inr trivial) w4 w5 v1 (by simpa using h5)
            simp only [List.pairwise_cons, List.mem_singleton, List.not_mem_nil, false_imp_iff, implies_true, List.Pairwise.nil, and_true, forall_eq]
            have hj2 : 2 ^ j ≤ footN d R 7 v := Nat.le_trans (Nat.pow_le_pow_right (by omega) (by omega)) w4
            have hl1 := log2_div _ _ w4
            have hl2 := log2_div _ _ hj2
            rw [← w5] at hl1
            rw [← j3] at hl2
            rcases Nat.lt_or_ge v (cutN d v (footN d R 7 v)) with hlt | hge
            · exact hlt
            · have := log2_mono hge; omega
      · simp
  · rw [List.mem_filter, decide_eq_true_eq]; exact cov_own h hne hv y
theorem cov_len {k : BitVec 8} {d : Nat} {R : List Nat} (h6 : d ≤ 6) : (covN k d R).length ≤ 127 := by
  have h64 := pow_le64 h6
  have hpow : 2 ^ (d + 1) = 2 * 2 ^ d := by rw [Nat.pow_succ, Nat.mul_comm]
  refine Nat.le_trans (List.length_filterMap_le _ _) ?_
  simp [nodN]; omega
theorem filter_split {α : Type} (p q : α → Bool) (hpq : ∀ a, p a = true → q a = false) (l : List α) : (l.filter fun a => p a || q a).Perm (l.filter p ++ l.filter q) := by
  induction l with
  | nil => simp
  | cons a l ih =>
    cases hp : p a with
    | true =>
      have hq := hpq a hp
      simp only [List.filter_cons, hp, hq, Bool.true_or, if_true, Bool.false_eq_true, if_false, List.cons_append]
      exact ih.cons a
    | false =>
      cases hq : q a with
      | true =>
        simp only [List.filter_cons, hp, hq, Bool.or_true, if_true, Bool.false_eq_true, if_false]
        exact (ih.cons a).trans List.perm_middle.symm
      | false =>
        simp only [List.filter_cons, hp, hq, Bool.or_false, Bool.false_eq_true, if_false]
        exact ih
theorem srt_cov {k : BitVec 8} {d : Nat} {R : List Nat} (h6 : d ≤ 6) {acc : List TSubset} (h : acc.Perm ((covN k d R).map mkS)) : srtBy TSubset.Node acc = some ((covN k d R).map mkS) := by
  have h64 := pow_le64 h6
  have hpow : 2 ^ (d + 1) = 2 * 2 ^ d := by rw [Nat.pow_succ, Nat.mul_comm]
  have hasc : ((covN k d R).map mkS).Pairwise fun a b => a.Node < b.Node := by
    rw [List.pairwise_map]
    exact (cov_asc (k := k) (d := d) (R := R)).imp (fun {a b} hab => by unfold mkS; simp only; omega)
  have hnd : (((covN k d R).map mkS).map TSubset.Node).Nodup := by
    unfold List.Nodup
    rw [List.pairwise_map]
    exact hasc.imp (by omega)
  unfold srtBy
  rw [if_pos]
  · congr 1
    have hs := List.pairwise_mergeSort (le := fun a b : TSubset => decide (a.Node ≤ b.Node)) (fun a b c h1 h2 => by simp at *; omega) (fun a b => by simp; omega) acc
    have hp : (acc.mergeSort fun a b => decide (a.Node ≤ b.Node)).Perm ((covN k d R).map mkS) := (List.mergeSort_perm acc _).trans h
    -- both ascend, and are permutations of one another
    have key : ∀ (l m : List TSubset), l.Perm m → (l.Pairwise fun a b => decide (a.Node ≤ b.Node) = true) → (m.Pairwise fun a b => a.Node < b.Node) → l = m := by
      intro l m hlm hl hm
      have hlnd : (l.map TSubset.Node).Nodup := by
        have : (m.map TSubset.Node).Nodup := by unfold List.Nodup; rw [List.pairwise_map]; exact hm.imp (by omega)
        exact (hlm.map _).nodup_iff.2 this
      have hl' : l.Pairwise fun a b => a.Node < b.Node := by
        unfold List.Nodup at hlnd
        rw [List.pairwise_map] at hlnd
        exact (hl.and hlnd).imp (fun {a b} hab => by have := of_decide_eq_true hab.1; have := hab.2; omega)
      clear hl hlnd
      induction m generalizing l with
      | nil => exact hlm.eq_nil
      | cons b m ih =>
        cases l with
        | nil => exact absurd hlm.symm.eq_nil (by simp)
        | cons a l =>
          have ha := List.pairwise_cons.1 hl'
          have hb := List.pairwise_cons.1 hm
          have hab : a = b := by
            rcases List.mem_cons.1 (hlm.subset (List.mem_cons_self)) with e | e
            · exact e
            · rcases List.mem_cons.1 (hlm.symm.subset (List.mem_cons_self)) with e2 | e2
              · exact e2.symm
              · have := ha.1 b e2; have := hb.1 a e; omega
          subst hab
          rw [ih l (List.Perm.cons_inv hlm) hb.2 ha.2]
    exact key _ _ hp hs hasc
  · refine ⟨fun x hx => ?_, (h.map _).nodup_iff.2 hnd, ?_⟩
    · obtain ⟨y, hy, rfl⟩ := List.mem_map.1 (h.subset hx)
      have := (cov_mem.1 hy).1
      unfold mkS; simp only; omega
    · rw [h.length_eq, List.length_map]; have := cov_len (k := k) (R := R) h6; omega
theorem range_cov {s : TScheme} {d : Nat} {l : List Int} (hv : vldB s = true) (hd : s.Depth = (d : Int)) (h6 : d ≤ 6) (h : lstB d l = true) (hne : l ≠ []) (hl : l.length * 8 ≤ 140737488355328) :
    rngM (cover_Cover_S3 (treeI s, 0) (hotL d l)) cover_Cover_E3 FUEL (hotL d l) [] = some ((covN s.Kind d (rcvL l)).map mkS, 0) := by
  have hr := rcv_of h6 h
  have hne' : rcvL l ≠ [] := by unfold rcvL; simpa using hne
  refine rngM_run (fun rem acc => (∀ k ∈ rem, k ∈ hotL d l) ∧ acc.Perm (((covN s.Kind d (rcvL l)).filter fun y => decide (((ownN s.Kind d (rcvL l) y : Nat) : Int) ∉ rem)).map mkS)) ?_ ?_ FUEL (hotL d l) [] ?_ ⟨fun _ hk => hk, ?_⟩
  · rintro acc ⟨_, hp⟩
    have : ((covN s.Kind d (rcvL l)).filter fun y => decide (((ownN s.Kind d (rcvL l) y : Nat) : Int) ∉ ([] : List Int))) = covN s.Kind d (rcvL l) := List.filter_eq_self.2 (by simp)
    rw [this] at hp
    unfold cover_Cover_E3
    rw [srt_cov h6 hp, bind_some]
  · rintro rem acc k hk ⟨hsub, hp⟩
    obtain ⟨v, rfl, hvh⟩ := hotL_nat h6 h (hsub k hk)
    have hal : acc.length ≤ 1000 := by
      rw [hp.length_eq, List.length_map]
      have := cov_len (k := s.Kind) (R := rcvL l) h6
      have := List.length_filter_le (fun y => decide (((ownN s.Kind d (rcvL l) y : Nat) : Int) ∉ rem)) (covN s.Kind d (rcvL l))
      omega
    refine ⟨acc ++ (outP s.Kind d (rcvL l) v).map mkS, ⟨fun j hj => hsub j (List.mem_filter.1 hj).1, ?_⟩, fun nx => step_eq' hv hd h6 h hvh acc hal nx⟩
    have hsp := filter_split (fun y => decide (((ownN s.Kind d (rcvL l) y : Nat) : Int) ∉ rem)) (fun y => decide (ownN s.Kind d (rcvL l) y = v)) (fun y hy => by
      simp only [decide_eq_true_eq, decide_eq_false_iff_not] at hy ⊢
      rintro rfl; exact hy hk) (covN s.Kind d (rcvL l))
    rw [cov_filter hr hne' hvh] at hsp
    have hcg : ((covN s.Kind d (rcvL l)).filter fun y => decide (((ownN s.Kind d (rcvL l) y : Nat) : Int) ∉ rem.filter (· ≠ (v : Int)))) = ((covN s.Kind d (rcvL l)).filter fun y => decide (((ownN s.Kind d (rcvL l) y : Nat) : Int) ∉ rem) || decide (ownN s.Kind d (rcvL l) y = v)) := by
      apply List.filter_congr
      intro y _
      rw [Bool.eq_iff_iff]
      simp only [Bool.or_eq_true, decide_eq_true_eq, List.mem_filter, not_and, ne_eq, Decidable.not_not, decide_not, Bool.not_eq_true', decide_eq_false_iff_not]
      constructor
      · intro hh
        by_cases hm : ((ownN s.Kind d (rcvL l) y : Nat) : Int) ∈ rem
        · have := hh hm; right; omega
        · exact .inl hm
      · rintro (hh | hh) hm
        · exact absurd hm hh
        · rw [hh]
    rw [hcg]
    refine List.Perm.trans ?_ (hsp.map mkS).symm
    rw [List.map_append]
    exact hp.append_right _
  · have := hotL_len (d := d) l []
    unfold hotL FUEL
    simp only [List.length_nil, Nat.zero_add] at this
    omega
  · have : ((covN s.Kind d (rcvL l)).filter fun y => decide (((ownN s.Kind d (rcvL l) y : Nat) : Int) ∉ hotL d l)) = [] := by
      rw [List.filter_eq_nil_iff]
      intro y hy
      simp only [decide_eq_true_eq]
      exact fun hn => hn ((hotL_hot h6 h _).2 (own_hot hr hne' hy))
    rw [this]; simp
/-- the cover, with its errors -/
def covP (s : TScheme) (l : List Int) : List TSubset × Int :=
  if vldB s then (if lstB s.Depth.toNat l then ((if l = [] then [⟨1, 0⟩] else (covN s.Kind s.Depth.toNat (rcvL l)).map mkS), 0) else ([], 2)) else ([], 30)
theorem pcover_eq (s : TScheme) (l : List Int) (hl : l.length * 8 ≤ 140737488355328) : cover_Cover s l = some (covP s l) := by
  unfold cover_Cover covP
  rw [enter0, bind_some]
  cases hv : vldB s with
  | false => rfl
  | true =>
    obtain ⟨d, hd, h6⟩ := vld_depth hv
    have ht : treeI s = ⟨s.Kind, (d : Int), (strd d : Int)⟩ := by unfold treeI; rw [hd, Int.toNat_natCast]
    simp only [if_true]
    rw [if_neg (by simp), hd, Int.toNat_natCast]
    have e0 : cover_tree_list (treeI s) l = some (lstB d l) := by rw [ht]; exact list_eq h6 l (by omega)
    rw [e0, bind_some]
    cases hb : lstB d l with
    | false => rfl
    | true =>
      simp only [Bool.not_true, cond_false, if_true]
      by_cases hne : l = []
      · subst hne; rfl
      · rw [if_neg (by intro h0; apply hne; exact List.eq_nil_of_length_eq_zero (by omega)), if_neg hne]
        have := fix_itL l (cover_Cover_L1 l (treeI s, 0)) (fun j (ks : List Int) => ((j : Int), ks)) (fun u nx ks => nx (upF 8 (2 ^ d + u.toNat) ks)) (fun ks => rngM (cover_Cover_S3 (treeI s, 0) ks) cover_Cover_E3 FUEL ks [])
          (fun rec j hj ks => by
            obtain ⟨u, hu, hu2⟩ := lst_mem hb (List.getElem_mem hj)
            have h64 := pow_le64 h6
            simp only [cover_Cover_L1]
            have hlf : cover_tree_leaf (treeI s) (u : Int) = some ((2 ^ d + u : Nat) : Int) := by rw [ht]; exact leaf_eq h6 (by omega)
            rw [if_pos (by omega), getI_some hj, bind_some, hu, hlf, bind_some, up_loop _ _ 8 FUEL _ _ (by omega) (by unfold FUEL; omega), w64_nat (by omega), Int.toNat_natCast])
          (fun rec ks => by simp only [cover_Cover_L1]; rw [if_neg (by omega)]) (f := FUEL) (fuel_lt (by omega)) ([] : List Int)
        rw [show ((0 : Nat) : Int) = 0 from rfl] at this
        rw [this, itL_fold (fun ks u => upF 8 (2 ^ d + u.toNat) ks) _ _ (fun _ _ => True) l 0 [] (fun _ _ _ _ _ _ => rfl) (fun _ _ _ _ _ => trivial) trivial]
        exact range_cov hv hd h6 hb hne hl
end Go.Sx

end
section
/- Covers: the reference's mirror comes to the plain cover. -/
set_option linter.unusedVariables false
set_option linter.unusedSimpArgs false
set_option maxRecDepth 100000
namespace Go.Sx
open Go

theorem rhot_eq {d : Nat} {l : List Int} (h6 : d ≤ 6) (h : lstB d l = true) (hl : l.length < 4611686018427387904) {v : Nat} (hv : 1 ≤ v) : ref03_hot (d : Int) l (v : Int) = some (hotB d (rcvL l) v) := by
  have h64 := pow_le64 h6
  unfold ref03_hot
  have := fix_itL l (ref03_hot_L1 (d : Int) l (v : Int)) (fun j (_ : Unit) => (j : Int)) (fun u nx s => bif belowB (2 ^ d + u.toNat) v then some true else nx s) (fun _ => some false)
    (fun rec j hj _ => by
      obtain ⟨u, hu, hu2⟩ := lst_mem h (List.getElem_mem hj)
      simp only [ref03_hot_L1]
      have e : w64 (((2 ^ d : Nat) : Int) + (u : Int)) = ((2 ^ d + u : Nat) : Int) := by
        generalize 2 ^ d = q at *
        rw [w64_id (by omega) (by omega)]; omega
      have hp := Nat.two_pow_pos d
      rw [if_pos (by omega), getI_some hj, bind_some, recv_eq h6, bind_some, hu, e, rbelow_eq (by omega) hv (by omega), bind_some, w64_nat (by omega), Int.toNat_natCast])
    (fun rec _ => by simp only [ref03_hot_L1]; rw [if_neg (by omega)]) (f := FUEL) (fuel_lt (by omega)) ()
  rw [show ((0 : Nat) : Int) = 0 from rfl] at this
  rw [this, itL_find (fun u : Int => belowB (2 ^ d + u.toNat) v) (fun _ _ => some true) _ _ _ _ (fun a _ nx s => rfl)]
  unfold hotB rcvL
  rw [List.any_map]
  cases hf : l.find? (fun u : Int => belowB (2 ^ d + u.toNat) v) with
  | none =>
    rw [List.find?_eq_none] at hf
    have : l.any ((fun u => belowB (2 ^ d + u) v) ∘ Int.toNat) = false := by
      rw [Bool.eq_false_iff]
      intro hc
      obtain ⟨u, hu, hb⟩ := List.any_eq_true.1 hc
      exact hf u hu hb
    rw [this]
  | some u =>
    have : l.any ((fun u => belowB (2 ^ d + u) v) ∘ Int.toNat) = true := List.any_eq_true.2 ⟨u, List.mem_of_find?_eq_some hf, List.find?_some hf⟩
    rw [this]
theorem rfoot_loop {d : Nat} {l : List Int} (h6 : d ≤ 6) (h : lstB d l = true) (hl : l.length < 4611686018427387904) : ∀ (f fuel v : Nat), 1 ≤ v → Nat.log2 v ≤ d → d - Nat.log2 v < f → f ≤ fuel → fixN (ref03_foot_L1 (d : Int) l) fuel (v : Int) = some (footN d (rcvL l) f v : Int)
  | 0, fuel, v, _, _, hf, _ => by omega
  | f + 1, 0, v, _, _, _, hf => by omega
  | f + 1, fuel + 1, v, hv, hlv, hf, hff => by
    have hr := rcv_of h6 h
    have h64 := pow_le64 h6
    have hv128 : v < 128 := by
      have := (Nat.log2_lt (n := v) (k := d + 1) (by omega)).1 (by omega)
      rw [Nat.pow_succ] at this; omega
    rw [fix_step]; simp only [ref03_foot_L1, ref03_foot_J2]
    have e0 : w64 (2 * (v : Int)) = ((2 * v : Nat) : Int) := by rw [w64_id (by omega) (by omega)]; omega
    have e1 : w64 (((2 * v : Nat) : Int) + 1) = ((2 * v + 1 : Nat) : Int) := by rw [w64_id (by omega) (by omega)]; omega
    rw [recv_eq h6, bind_some, e0, e1, rhot_eq h6 h hl (by omega), rhot_eq h6 h hl (by omega), bind_some, bind_some]
    have hbr : (hotB d (rcvL l) (2 * v) != hotB d (rcvL l) (2 * v + 1)) = brN d (rcvL l) v := rfl
    rw [hbr]
    cases hb : brN d (rcvL l) v with
    | false =>
      have hfv : footN d (rcvL l) (f + 1) v = v := by
        show (if brN d (rcvL l) v = true then footN d (rcvL l) f (nxN d (rcvL l) v) else v) = _
        rw [hb]; rfl
      rw [hfv]; simp
    | true =>
      have hfv : footN d (rcvL l) (f + 1) v = footN d (rcvL l) f (nxN d (rcvL l) v) := by
        show (if brN d (rcvL l) v = true then footN d (rcvL l) f (nxN d (rcvL l) v) else v) = _
        rw [hb]; rfl
      obtain ⟨hl2, _⟩ := br_inner hr hv hb
      have hv64 := (node_lt (d := d) hv).2 hl2
      rw [hfv, if_pos (by omega), cond_true, bind_some]
      have hn : 1 ≤ nxN d (rcvL l) v ∧ Nat.log2 (nxN d (rcvL l) v) = Nat.log2 v + 1 := by
        unfold nxN; split
        · exact ⟨by omega, log2_dbl hv (b := 0) (by omega)⟩
        · exact ⟨by omega, log2_dbl hv (b := 1) (by omega)⟩
      rw [← rfoot_loop h6 h hl f fuel _ hn.1 (by omega) (by omega) (by omega)]
      unfold nxN
      cases hotB d (rcvL l) (2 * v) with
      | true => rfl
      | false => rfl
theorem rfoot_eq {d : Nat} {l : List Int} (h6 : d ≤ 6) (h : lstB d l = true) (hl : l.length < 4611686018427387904) {v : Nat} (hv : 1 ≤ v) (hlv : Nat.log2 v ≤ d) : ref03_foot (d : Int) l (v : Int) = some (footN d (rcvL l) 7 v : Int) :=
  rfoot_loop h6 h hl 7 FUEL v hv hlv (by omega) (by unfold FUEL; omega)
/-! insert -/
def insN (A : List (Nat × Nat)) (y : Nat × Nat) : List (Nat × Nat) := A.takeWhile (fun a => decide (a.1 < y.1)) ++ y :: A.dropWhile (fun a => decide (a.1 < y.1))
theorem ins_loop (A : List (Nat × Nat)) (y : Nat × Nat) (hA : A.length ≤ 1000) : ∀ (C B : List (Nat × Nat)) (f : Nat), A = B ++ C → C.length < f →
    fixN (ref03_insert_L1 (A.map mkS) (mkS y)) f (B.length : Int) = some ((B ++ (C.takeWhile (fun a => decide (a.1 < y.1)) ++ y :: C.dropWhile (fun a => decide (a.1 < y.1)))).map mkS)
  | C, B, 0, _, h => by omega
  | [], B, f + 1, hs, _ => by
    rw [fix_step]; simp only [ref03_insert_L1, ref03_insert_J2]
    have hlen : (A.map mkS).length = B.length := by rw [hs]; simp
    have hb : B.length ≤ 1000 := by rw [List.length_map] at hlen; omega
    rw [if_neg (by omega), cond_false]
    have e1 : sliG (A.map mkS) 0 (B.length : Int) = some (B.map mkS) := by
      unfold sliG; rw [if_pos ⟨by omega, by omega, by omega⟩, hs, Int.toNat_natCast, List.append_nil, List.take_of_length_le (by simp)]; simp
    have e2 : sliG (A.map mkS) (B.length : Int) (((A.map mkS).length : Nat) : Int) = some [] := by
      unfold sliG; rw [if_pos ⟨by omega, by omega, by omega⟩, hlen, hs]; simp
    rw [e1, bind_some, appG_some (by simp; omega), bind_some, appG_some (by simp; omega), bind_some, e2, bind_some, appG_some (by simp; omega), bind_some]
    simp
  | c :: C, B, f + 1, hs, hf => by
    rw [fix_step]; simp only [ref03_insert_L1, ref03_insert_J2]
    have hlen : (A.map mkS).length = B.length + (C.length + 1) := by rw [hs]; simp
    have hb : B.length + (C.length + 1) ≤ 1000 := by rw [List.length_map] at hlen; omega
    have hg : getI (A.map mkS) (B.length : Int) = some (mkS c) := by
      rw [getI_some (by omega)]; simp [hs]
    rw [if_pos (by omega), hg, bind_some]
    by_cases hlt : c.1 < y.1
    · rw [decide_eq_true (show (mkS c).Node < (mkS y).Node by unfold mkS; simp only; omega), cond_true, w64_nat (by omega)]
      have := ins_loop A y hA C (B ++ [c]) f (by rw [hs]; simp) (by simp at hf; omega)
      rw [show ((B ++ [c]).length : Int) = ((B.length + 1 : Nat) : Int) from by simp] at this
      rw [this, List.takeWhile_cons, List.dropWhile_cons, decide_eq_true hlt]
      simp
    · rw [decide_eq_false (show ¬ (mkS c).Node < (mkS y).Node by unfold mkS; simp only; omega), cond_false]
      have e1 : sliG (A.map mkS) 0 (B.length : Int) = some (B.map mkS) := by
        unfold sliG; rw [if_pos ⟨by omega, by omega, by omega⟩, hs]; simp
      have e2 : sliG (A.map mkS) (B.length : Int) (((A.map mkS).length : Nat) : Int) = some ((c :: C).map mkS) := by
        unfold sliG; rw [if_pos ⟨by omega, by omega, by omega⟩, Int.toNat_natCast, Int.toNat_natCast, List.take_of_length_le (Nat.le_refl _), hs]; simp
      rw [e1, bind_some, appG_some (by simp; omega), bind_some, appG_some (by simp; omega), bind_some, e2, bind_some, appG_some (by simp; omega), bind_some, List.takeWhile_cons, List.dropWhile_cons, decide_eq_false hlt]
      simp
theorem insert_eq (A : List (Nat × Nat)) (y : Nat × Nat) (hA : A.length ≤ 1000) : ref03_insert (A.map mkS) (mkS y) = some ((insN A y).map mkS) := by
  have := ins_loop A y hA A [] FUEL rfl (fuel_lt (by omega))
  rw [List.nil_append] at this
  exact this
theorem ins_mem {A : List (Nat × Nat)} {y z : Nat × Nat} : z ∈ insN A y ↔ z ∈ A ∨ z = y := by
  unfold insN
  conv => rhs; rw [← List.takeWhile_append_dropWhile (p := fun a : Nat × Nat => decide (a.1 < y.1)) (l := A)]
  simp only [List.mem_append, List.mem_cons]
  constructor
  · rintro (h | h | h)
    · exact .inl (.inl h)
    · exact .inr h
    · exact .inl (.inr h)
  · rintro ((h | h) | h)
    · exact .inl h
    · exact .inr (.inr h)
    · exact .inr (.inl h)
theorem ins_asc : ∀ {A : List (Nat × Nat)} {y : Nat × Nat}, Asc A → (∀ a ∈ A, a.1 ≠ y.1) → Asc (insN A y)
  | [], y, _, _ => by unfold insN Asc; simp
  | a :: A, y, h, hn => by
    have ha := List.pairwise_cons.1 h
    have hne := hn a (by simp)
    unfold insN
    rw [List.takeWhile_cons, List.dropWhile_cons]
    by_cases hlt : a.1 < y.1
    · rw [decide_eq_true hlt]
      simp only [if_true, List.cons_append]
      refine List.pairwise_cons.2 ⟨fun z hz => ?_, ins_asc ha.2 (fun b hb => hn b (by simp [hb]))⟩
      rcases (ins_mem (A := A) (y := y)).1 hz with h1 | h1
      · exact ha.1 z h1
      · rw [h1]; exact hlt
    · rw [decide_eq_false hlt]
      simp only [Bool.false_eq_true, if_false, List.nil_append]
      refine List.pairwise_cons.2 ⟨fun z hz => ?_, h⟩
      rcases List.mem_cons.1 hz with rfl | hz
      · omega
      · have := ha.1 z hz; omega
theorem ins_len {A : List (Nat × Nat)} {y : Nat × Nat} : (insN A y).length = A.length + 1 := by
  unfold insN
  rw [List.length_append, List.length_cons, Nat.add_succ, ← List.length_append, List.takeWhile_append_dropWhile]
/-! the loop over the nodes -/
section
variable {s : TScheme} {d : Nat} {l : List Int}
theorem rcov_round (hv : vldB s = true) (hd : s.Depth = (d : Int)) (h6 : d ≤ 6) (h : lstB d l = true) (hl : l.length < 4611686018427387904) (hk : s.Kind ≠ 1#8) (hne : l ≠ []) {v : Nat} (v1 : 1 ≤ v) (v2 : v < 2 ^ (d + 1)) (rec : List TSubset × Int → Option (List TSubset)) :
    ref03_CoverOf_L2 s l rec (((covN s.Kind d (rcvL l)).filter fun y => decide (hdN d (rcvL l) 7 y.1 < v)).map mkS, (v : Int)) = rec (((covN s.Kind d (rcvL l)).filter fun y => decide (hdN d (rcvL l) 7 y.1 < v + 1)).map mkS, ((v + 1 : Nat) : Int)) := by
  have hr := rcv_of h6 h
  have h64 := pow_le64 h6
  have hpow : 2 ^ (d + 1) = 2 * 2 ^ d := by rw [Nat.pow_succ, Nat.mul_comm]
  have hne' : rcvL l ≠ [] := by unfold rcvL; simpa using hne
  have hlv := node_log v1 v2
  obtain ⟨A, hA⟩ : ∃ A, A = (covN s.Kind d (rcvL l)).filter fun y => decide (hdN d (rcvL l) 7 y.1 < v) := ⟨_, rfl⟩
  have hAl : A.length ≤ 127 := by rw [hA]; exact Nat.le_trans (List.length_filter_le _ _) (cov_len h6)
  have hAa : Asc A := by rw [hA]; exact List.Pairwise.filter _ cov_asc
  rw [← hA]
  have hmem : ∀ y, y ∈ A ↔ y ∈ covN s.Kind d (rcvL l) ∧ hdN d (rcvL l) 7 y.1 < v := fun y => by rw [hA, List.mem_filter, decide_eq_true_eq]
  -- what is new at v
  have hnew : ∀ B : List (Nat × Nat), Asc B → (∀ y, y ∈ B ↔ y ∈ A ∨ (y ∈ covN s.Kind d (rcvL l) ∧ hdN d (rcvL l) 7 y.1 = v)) → B = (covN s.Kind d (rcvL l)).filter fun y => decide (hdN d (rcvL l) 7 y.1 < v + 1) := by
    intro B hB hm
    refine asc_ext hB (List.Pairwise.filter _ cov_asc) fun y => ?_
    rw [hm, hmem, List.mem_filter, decide_eq_true_eq]
    constructor
    · rintro (⟨a, b⟩ | ⟨a, b⟩)
      · exact ⟨a, by omega⟩
      · exact ⟨a, by omega⟩
    · rintro ⟨a, b⟩
      by_cases e : hdN d (rcvL l) 7 y.1 = v
      · exact .inr ⟨a, e⟩
      · exact .inl ⟨a, by omega⟩
  have own : ∀ y, ownN s.Kind d (rcvL l) y = hdN d (rcvL l) 7 y.1 := fun y => by unfold ownN; rw [if_neg hk]
  have hout : hotB d (rcvL l) v = true → ∀ y, (y ∈ covN s.Kind d (rcvL l) ∧ hdN d (rcvL l) 7 y.1 = v) ↔ y ∈ outP s.Kind d (rcvL l) v := fun hh y => by rw [← own]; exact cov_own hr hne' hh y
  -- nothing new
  have none : (∀ y, ¬ (y ∈ covN s.Kind d (rcvL l) ∧ hdN d (rcvL l) 7 y.1 = v)) → A = (covN s.Kind d (rcvL l)).filter fun y => decide (hdN d (rcvL l) 7 y.1 < v + 1) := fun hn => hnew A hAa fun y => ⟨.inl, fun hh => hh.elim id fun hh => absurd hh (hn y)⟩
  simp only [ref03_CoverOf_L2, ref03_CoverOf_J4]
  rw [hd, recv_eq h6, bind_some, show w64 (2 * ((2 ^ d : Nat) : Int)) = ((2 * 2 ^ d : Nat) : Int) from by rw [w64_id (by omega) (by omega)]; omega, if_pos (by omega), rhot_eq h6 h hl v1, bind_some, if_neg hk, w64_nat (by omega)]
  have skip : (∀ y, ¬ (y ∈ covN s.Kind d (rcvL l) ∧ hdN d (rcvL l) 7 y.1 = v)) → rec (A.map mkS, ((v + 1 : Nat) : Int)) = rec (((covN s.Kind d (rcvL l)).filter fun y => decide (hdN d (rcvL l) 7 y.1 < v + 1)).map mkS, ((v + 1 : Nat) : Int)) := fun hn => by rw [← none hn]
  cases hh : hotB d (rcvL l) v with
  | false =>
    simp only [Bool.not_false, cond_true]
    refine skip fun y hy => ?_
    have := own_hot hr hne' hy.1
    rw [own, hy.2, hh] at this; cases this
  | true =>
    simp only [Bool.not_true, cond_false]
    have hv128 : v < 128 := by omega
    -- a head
    have go : isHd d (rcvL l) v = true → (Option.bind (ref03_foot (d : Int) l (v : Int)) fun x15 => if x15 = (v : Int) then rec (A.map mkS, ((v + 1 : Nat) : Int)) else Option.bind (ref03_IsSubset s (TSubset.mk (v : Int) x15)) fun x16 => bif x16 then Option.bind (ref03_insert (A.map mkS) (TSubset.mk (v : Int) x15)) fun x17 => rec (x17, ((v + 1 : Nat) : Int)) else Option.bind (ref03_between (d : Int) (v : Int) x15) fun x18 => Option.bind (ref03_insert (A.map mkS) (TSubset.mk (v : Int) x18)) fun x19 => Option.bind (ref03_insert x19 (TSubset.mk x18 x15)) fun x20 => rec (x20, ((v + 1 : Nat) : Int)))
        = rec (((covN s.Kind d (rcvL l)).filter fun y => decide (hdN d (rcvL l) 7 y.1 < v + 1)).map mkS, ((v + 1 : Nat) : Int)) := by
      intro hhd
      have hout' := hout hh
      unfold outP at hout'
      rw [if_neg hk, if_pos hhd] at hout'
      obtain ⟨w1, w2, w3, K, w4, w5, w6⟩ := foot_spec hr 7 v v1 hlv (by omega)
      rw [rfoot_eq h6 h hl v1 hlv, bind_some]
      generalize footN d (rcvL l) 7 v = w at *
      by_cases hw : w = v
      · rw [if_pos (by omega)]
        rw [if_pos hw] at hout'
        exact skip fun y hy => by have := (hout' y).1 hy; cases this
      · rw [if_neg (by omega)]
        rw [if_neg hw] at hout'
        have hlw := log2_div w K w4
        rw [← w5] at hlw
        have hK : 1 ≤ K := by
          rcases Nat.eq_zero_or_pos K with h0 | h0
          · subst h0; simp at w5; exact absurd w5.symm hw
          · exact h0
        have hw2 : w < 2 ^ (d + 1) := (Nat.log2_lt (by omega)).1 (by omega)
        have hbw : belowB w v = true := (below_iff w1).2 ⟨K, w4, w5⟩
        have hsub : ref03_IsSubset s ⟨(v : Int), (w : Int)⟩ = some (subN s.Kind d v w) := by
          rw [isSub_eq hv hd h6 v w]
          unfold subP
          rw [if_neg hk, if_neg (by omega), decide_eq_true ⟨v1, v2⟩, decide_eq_true ⟨hw2, hw⟩, hbw]; simp
        rw [hsub, bind_some]
        have apart : ∀ y : Nat × Nat, (y ∈ covN s.Kind d (rcvL l) ∧ hdN d (rcvL l) 7 y.1 = v) → ∀ a ∈ A, a.1 ≠ y.1 := fun y hy a ha he => by
          have h1 := ((hmem a).1 ha).2
          rw [he, hy.2] at h1; omega
        cases hsn : subN s.Kind d v w with
        | true =>
          rw [hsn, if_pos rfl] at hout'
          rw [cond_true]
          have hi := insert_eq A (v, w) (by omega)
          rw [show mkS (v, w) = (⟨(v : Int), (w : Int)⟩ : TSubset) from rfl] at hi
          rw [hi, bind_some]
          rw [hnew (insN A (v, w)) (ins_asc hAa (apart (v, w) ((hout' (v, w)).2 (by simp)))) fun y => by rw [ins_mem, hout']; simp]
        | false =>
          rw [hsn, if_neg (by simp)] at hout'
          rw [cond_false]
          have hw128 : w < 128 := by omega
          have hbt : ref03_between (d : Int) (v : Int) (w : Int) = some ((cutN d v w : Nat) : Int) := by
            obtain ⟨K', rfl⟩ : ∃ K', K = K' + 1 := ⟨K - 1, by omega⟩
            have := between_eq (d := d) (m := w) (k := K') h6 hw128 w4 (by omega)
            rw [← w5] at this
            rw [this]
            unfold cutN
            rw [show Nat.log2 w - Nat.log2 v - 1 = K' from by omega]
          have hi := insert_eq A (v, cutN d v w) (by omega)
          rw [show mkS (v, cutN d v w) = (⟨(v : Int), ((cutN d v w : Nat) : Int)⟩ : TSubset) from rfl] at hi
          have hi2 := insert_eq (insN A (v, cutN d v w)) (cutN d v w, w) (by rw [ins_len]; omega)
          rw [show mkS (cutN d v w, w) = (⟨((cutN d v w : Nat) : Int), (w : Int)⟩ : TSubset) from rfl] at hi2
          rw [hbt, bind_some, hi, bind_some, hi2, bind_some]
          have m1 := (hout' (v, cutN d v w)).2 (by simp)
          have m2 := (hout' (cutN d v w, w)).2 (by simp)
          obtain ⟨j, j1, j2, j3⟩ := cut_chain (k := s.Kind) (d := d) (.inr trivial) w4 w5 v1 hsn
          have hcv : cutN d v w ≠ v := by rw [j3, w5]; exact divk_ne w4 j2
          rw [hnew (insN (insN A (v, cutN d v w)) (cutN d v w, w)) (ins_asc (ins_asc hAa (apart _ m1)) fun a ha => by
            rcases ins_mem.1 ha with ha | rfl
            · exact apart _ m2 a ha
            · exact fun e => hcv e.symm) fun y => by rw [ins_mem, ins_mem, hout', or_assoc]; simp]
    by_cases hv1 : v = 1
    · rw [if_neg (by omega)]
      exact go (by unfold isHd; simp [hv1])
    · rw [if_pos (by omega), bit_xor hv128, rhot_eq h6 h hl (by have := sib_two_le hv128 (by omega); omega), bind_some]
      cases hs : hotB d (rcvL l) (v ^^^ 1) with
      | true =>
        simp only [Bool.not_true, cond_false]
        exact go (by unfold isHd; simp [hs])
      | false =>
        simp only [Bool.not_false, cond_true]
        refine skip fun y hy => ?_
        have h1 := (hout hh y).1 hy
        unfold outP at h1
        rw [if_neg hk, if_neg (by unfold isHd; simp [hs, hv1])] at h1
        cases h1
theorem rcov_round1 (hd : s.Depth = (d : Int)) (h6 : d ≤ 6) (h : lstB d l = true) (hl : l.length < 4611686018427387904) (hk : s.Kind = 1#8) {v : Nat} (v1 : 1 ≤ v) (v2 : v < 2 ^ (d + 1)) (rec : List TSubset × Int → Option (List TSubset)) :
    ref03_CoverOf_L2 s l rec (((covN s.Kind d (rcvL l)).filter fun y => decide (y.1 < v)).map mkS, (v : Int)) = rec (((covN s.Kind d (rcvL l)).filter fun y => decide (y.1 < v + 1)).map mkS, ((v + 1 : Nat) : Int)) := by
  have h64 := pow_le64 h6
  have hpow : 2 ^ (d + 1) = 2 * 2 ^ d := by rw [Nat.pow_succ, Nat.mul_comm]
  have hlen : ((covN s.Kind d (rcvL l)).filter fun y => decide (y.1 < v)).length ≤ 127 := Nat.le_trans (List.length_filter_le _ _) (cov_len h6)
  simp only [ref03_CoverOf_L2]
  rw [hd, recv_eq h6, bind_some, show w64 (2 * ((2 ^ d : Nat) : Int)) = ((2 * 2 ^ d : Nat) : Int) from by rw [w64_id (by omega) (by omega)]; omega, if_pos (by omega), rhot_eq h6 h hl v1, bind_some, if_pos hk]
  have hmin : minN s.Kind d (rcvL l) v = if (!hotB d (rcvL l) v && (decide (v = 1) || hotB d (rcvL l) (v / 2))) = true then some 0 else none := by unfold minN; rw [if_pos hk]
  -- the two ways
  have add : minN s.Kind d (rcvL l) v = some 0 → ref03_CoverOf_J3 (((covN s.Kind d (rcvL l)).filter fun y => decide (y.1 < v)).map mkS) (v : Int) rec true = rec (((covN s.Kind d (rcvL l)).filter fun y => decide (y.1 < v + 1)).map mkS, ((v + 1 : Nat) : Int)) := fun hm => by
    unfold ref03_CoverOf_J3
    rw [cond_true, appG_some (by simp; omega), bind_some, w64_nat (by omega)]
    have : ((covN s.Kind d (rcvL l)).filter fun y => decide (y.1 < v)) ++ [(v, 0)] = (covN s.Kind d (rcvL l)).filter fun y => decide (y.1 < v + 1) := by
      refine asc_ext ?_ (List.Pairwise.filter _ cov_asc) fun y => ?_
      · unfold Asc
        rw [List.pairwise_append]
        refine ⟨List.Pairwise.filter _ cov_asc, by simp, fun a ha b hb => ?_⟩
        simp only [List.mem_singleton] at hb
        subst hb
        have := (List.mem_filter.1 ha).2
        simpa using this
      · simp only [List.mem_append, List.mem_filter, List.mem_singleton, decide_eq_true_eq]
        constructor
        · rintro (⟨a, b⟩ | rfl)
          · exact ⟨a, by omega⟩
          · exact ⟨cov_mem.2 ⟨⟨v1, v2⟩, hm⟩, by simp⟩
        · rintro ⟨a, b⟩
          by_cases e : y.1 = v
          · right
            have := (cov_mem.1 a).2
            rw [e, hm] at this
            cases y; simp only at *; rw [e, ← Option.some.inj this]
          · exact .inl ⟨a, by omega⟩
    rw [← this, List.map_append]; rfl
  have no : minN s.Kind d (rcvL l) v = none → ref03_CoverOf_J3 (((covN s.Kind d (rcvL l)).filter fun y => decide (y.1 < v)).map mkS) (v : Int) rec false = rec (((covN s.Kind d (rcvL l)).filter fun y => decide (y.1 < v + 1)).map mkS, ((v + 1 : Nat) : Int)) := fun hm => by
    unfold ref03_CoverOf_J3
    rw [cond_false, w64_nat (by omega)]
    have : ((covN s.Kind d (rcvL l)).filter fun y => decide (y.1 < v)) = (covN s.Kind d (rcvL l)).filter fun y => decide (y.1 < v + 1) := by
      apply List.filter_congr
      intro y hy
      apply decide_eq_decide.2
      have hne : y.1 ≠ v := fun e => by have := (cov_mem.1 hy).2; rw [e, hm] at this; cases this
      omega
    rw [this]
  cases hh : hotB d (rcvL l) v with
  | true =>
    simp only [Bool.not_true, cond_false]
    exact no (by rw [hmin, hh]; simp)
  | false =>
    simp only [Bool.not_false, cond_true]
    by_cases hv1 : v = 1
    · rw [if_pos (by omega)]
      exact add (by rw [hmin, hh]; simp [hv1])
    · rw [if_neg (by omega), quo2 v (by omega), bind_some, rhot_eq h6 h hl (by omega), bind_some]
      cases hp : hotB d (rcvL l) (v / 2) with
      | true => exact add (by rw [hmin, hh, hp]; simp)
      | false => exact no (by rw [hmin, hh, hp]; simp [hv1])
end
def stA (k : BitVec 8) (d : Nat) (R : List Nat) (v : Nat) : List TSubset × Int := (((covN k d R).filter fun y => decide (y.1 < v)).map mkS, (v : Int))
def stB (k : BitVec 8) (d : Nat) (R : List Nat) (v : Nat) : List TSubset × Int := (((covN k d R).filter fun y => decide (hdN d R 7 y.1 < v)).map mkS, (v : Int))
theorem fix_up {σ R : Type} (F : (σ → Option R) → σ → Option R) (n : Nat) (st : Nat → σ) (r : Option R) (hs : ∀ rec j, 1 ≤ j → j < n → F rec (st j) = rec (st (j + 1))) (he : ∀ rec, F rec (st n) = r) : ∀ (m j f : Nat), 1 ≤ j → j + m = n → m < f → fixN F f (st j) = r
  | m, j, 0, _, _, h => by omega
  | 0, j, f + 1, _, hj, _ => by
    have : j = n := by omega
    subst this; rw [fix_step, he]
  | m + 1, j, f + 1, h1, hj, hf => by
    rw [fix_step, hs _ j h1 (by omega)]
    exact fix_up F n st r hs he m (j + 1) f (by omega) (by omega) (by omega)
theorem rcover_eq (s : TScheme) (l : List Int) (hl : l.length * 8 ≤ 140737488355328) : ref03_Cover s l = some (covP s l) := by
  unfold ref03_Cover covP
  rw [valid_eq, bind_some]
  cases hv : vldB s with
  | false => rfl
  | true =>
    obtain ⟨d, hd, h6⟩ := vld_depth hv
    have h64 := pow_le64 h6
    have hpow : 2 ^ (d + 1) = 2 * 2 ^ d := by rw [Nat.pow_succ, Nat.mul_comm]
    have hp := Nat.two_pow_pos d
    simp only [Bool.not_true, cond_false, if_true]
    rw [hd, Int.toNat_natCast, rlist_eq h6 l (by omega), bind_some]
    cases hb : lstB d l with
    | false => rfl
    | true =>
      simp only [Bool.not_true, cond_false, if_true]
      unfold ref03_CoverOf ref03_CoverOf_J1
      have hl2 : l.length < 4611686018427387904 := by omega
      obtain ⟨M, hM⟩ : ∃ M, M = 2 ^ (d + 1) := ⟨_, rfl⟩
      have hsum : 1 + (M - 1) = M := by omega
      have hfu : M - 1 < FUEL := fuel_lt (by omega)
      have hend : ∀ rec (A : List TSubset), ref03_CoverOf_L2 s l rec (A, (M : Int)) = some A := fun rec A => by
        simp only [ref03_CoverOf_L2]
        rw [hd, recv_eq h6, bind_some, show w64 (2 * ((2 ^ d : Nat) : Int)) = ((2 * 2 ^ d : Nat) : Int) from by rw [w64_id (by omega) (by omega)]; omega, if_neg (by rw [hM, hpow]; omega)]
      by_cases hk : s.Kind = 1#8
      · rw [if_neg (by simp [hk]), cond_false]
        have := fix_up (ref03_CoverOf_L2 s l) M (stA s.Kind d (rcvL l)) (some (stA s.Kind d (rcvL l) M).1) (fun rec j j1 j2 => rcov_round1 hd h6 hb hl2 hk j1 (hM ▸ j2) rec) (fun rec => hend rec _) (M - 1) 1 FUEL (Nat.le_refl _) hsum hfu
        rw [stA, stA, hM] at this
        have e1 : ((covN s.Kind d (rcvL l)).filter fun y => decide (y.1 < 1)) = [] := by
          rw [List.filter_eq_nil_iff]; intro y hy; have := (cov_mem.1 hy).1; simp; omega
        have e2 : ((covN s.Kind d (rcvL l)).filter fun y => decide (y.1 < 2 ^ (d + 1))) = covN s.Kind d (rcvL l) := by
          rw [List.filter_eq_self]; intro y hy; have := (cov_mem.1 hy).1; simpa using this.2
        rw [e1, e2] at this
        rw [show ((1 : Nat) : Int) = 1 from rfl] at this
        simp only [List.map_nil] at this
        rw [this, bind_some]
        by_cases hne : l = []
        · rw [if_pos hne]
          have e3 : covN s.Kind d (rcvL l) = [(1, 0)] := by
            subst hne
            refine asc_ext cov_asc (by unfold Asc; simp) fun y => ?_
            rw [cov_mem]
            have hno : ∀ x, hotB d (rcvL []) x = false := fun x => rfl
            unfold minN
            rw [if_pos hk, hno, hno]
            simp only [Bool.not_false, Bool.true_and, Bool.or_false, List.mem_singleton, decide_eq_true_eq]
            constructor
            · rintro ⟨_, hm⟩
              split at hm
              · rename_i e; cases y; simp only at *; rw [e, ← Option.some.inj hm]
              · cases hm
            · rintro rfl; exact ⟨⟨by omega, by rw [hpow]; show 1 < 2 * 2 ^ d; omega⟩, by simp⟩
          rw [e3]; rfl
        · rw [if_neg hne]
      · rw [if_pos (by simpa using hk)]
        by_cases hne : l = []
        · rw [decide_eq_true (by simp [hne]), cond_true, if_pos hne, bind_some]
        · rw [decide_eq_false (by intro h0; apply hne; exact List.eq_nil_of_length_eq_zero (by omega)), cond_false, if_neg hne]
          have := fix_up (ref03_CoverOf_L2 s l) M (stB s.Kind d (rcvL l)) (some (stB s.Kind d (rcvL l) M).1) (fun rec j j1 j2 => rcov_round hv hd h6 hb hl2 hk hne j1 (hM ▸ j2) rec) (fun rec => hend rec _) (M - 1) 1 FUEL (Nat.le_refl _) hsum hfu
          rw [stB, stB, hM] at this
          have hr := rcv_of h6 hb
          have hne' : rcvL l ≠ [] := by unfold rcvL; simpa using hne
          have hbd : ∀ y ∈ covN s.Kind d (rcvL l), 1 ≤ hdN d (rcvL l) 7 y.1 ∧ hdN d (rcvL l) 7 y.1 < 2 ^ (d + 1) := fun y hy => by
            have h1 := own_hot hr hne' hy
            unfold ownN at h1
            rw [if_neg hk] at h1
            obtain ⟨a, _, b⟩ := hot_log hr h1
            exact ⟨a, b⟩
          have e1 : ((covN s.Kind d (rcvL l)).filter fun y => decide (hdN d (rcvL l) 7 y.1 < 1)) = [] := by
            rw [List.filter_eq_nil_iff]; intro y hy; have := hbd y hy; simp; omega
          have e2 : ((covN s.Kind d (rcvL l)).filter fun y => decide (hdN d (rcvL l) 7 y.1 < 2 ^ (d + 1))) = covN s.Kind d (rcvL l) := by
            rw [List.filter_eq_self]; intro y hy; simpa using (hbd y hy).2
          rw [e1, e2] at this
          rw [show ((1 : Nat) : Int) = 1 from rfl] at this
          simp only [List.map_nil] at this
          rw [this, bind_some]
end Go.Sx

end
section
/- CoverCovers on the mirrors: covers are the document's. -/
set_option linter.unusedVariables false
set_option linter.unusedSimpArgs false
namespace Go.Sx
open Go

theorem covP_len (s : TScheme) (l : List Int) : (covP s l).1.length ≤ 1000 := by
  unfold covP
  cases hv : vldB s with
  | false => simp
  | true =>
    obtain ⟨d, hd, h6⟩ := vld_depth hv
    rw [hd, Int.toNat_natCast]
    simp only [if_true]
    split
    · split
      · simp
      · simp only [List.length_map]; have := cov_len (k := s.Kind) (R := rcvL l) h6; omega
    · simp
/-- the law -/
theorem law03_CoverCovers_ok (p0 : TScheme) (p1 : List Int) (h0 : TScheme.ok p0) (h1 : ∀ a ∈ p1, I64 a) (h1l : p1.length * 8 ≤ 140737488351232) : law03_CoverCovers p0 p1 = some true := by
  unfold law03_CoverCovers
  rw [appG_some (by simp; omega), bind_some]
  simp only [List.nil_append]
  have := covP_len p0 p1
  rw [pcover_eq p0 p1 (by omega), rcover_eq p0 p1 (by omega), bind_some, bind_some, sameS_self _ (by omega), bind_some, cond_true, if_pos rfl, sameI_self _ (by omega), bind_some]
end Go.Sx

end
