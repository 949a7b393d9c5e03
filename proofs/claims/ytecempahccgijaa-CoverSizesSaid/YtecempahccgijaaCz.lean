/- Sizes of covers, plainly. -/
import Derived.Test.YtecempahccgijaaPr
set_option linter.unusedVariables false
set_option linter.unusedSimpArgs false
set_option maxRecDepth 100000
namespace Go.Sx
open Go
variable {d : Nat} {R : List Nat}

theorem sib_hot (h : Rcv d R) {x : Nat} (h2 : 2 ≤ x) (hx : x < 2 ^ (d + 1)) (hp : hotB d R (x / 2) = true) (hn : hotB d R x = false) : hotB d R (x ^^^ 1) = true := by
  have h64 := pow_le64 h.1
  have hpow : 2 ^ (d + 1) = 2 * 2 ^ d := by rw [Nat.pow_succ, Nat.mul_comm]
  have hl := node_log (d := d) (n := x) (by omega) hx
  have hh := log2_half h2
  have := hot_kids h (v := x / 2) (by omega) (by omega)
  rw [hp] at this
  rcases (show 2 * (x / 2) = x ∨ 2 * (x / 2) + 1 = x by omega) with e | e
  · have e2 := dbl0 (n := x / 2) (by omega)
    rw [e] at e2
    rw [e, ← e2, hn] at this; simpa using this.symm
  · have e2 := dbl1 (n := x / 2) (by omega)
    rw [e] at e2
    rw [e, hn, ← e2] at this; simpa using this.symm
theorem cov_inj {k : BitVec 8} {y y' : Nat × Nat} (hy : y ∈ covN k d R) (hy' : y' ∈ covN k d R) (e : y.1 = y'.1) : y = y' := by
  have h1 := (cov_mem.1 hy).2
  have h2 := (cov_mem.1 hy').2
  rw [e, h2] at h1
  exact Prod.ext e (Option.some.inj h1).symm
theorem len_prod {α β γ : Type} (f : α → β → γ) (l : List α) (m : List β) : (l.flatMap fun a => m.map (f a)).length = l.length * m.length := by
  induction l with
  | nil => simp
  | cons a l ih => rw [List.flatMap_cons, List.length_append, ih, List.length_map, List.length_cons, Nat.add_mul, Nat.one_mul, Nat.add_comm]
theorem size1 (h : Rcv d R) (hne : R ≠ []) : (covN 1#8 d R).length ≤ R.length * d := by
  have h64 := pow_le64 h.1
  have hpow : 2 ^ (d + 1) = 2 * 2 ^ d := by rw [Nat.pow_succ, Nat.mul_comm]
  have hm : ∀ y : Nat × Nat, ∃ u, y ∈ covN 1#8 d R → u ∈ R ∧ belowB (2 ^ d + u) (y.1 ^^^ 1) = true := fun y => by
    by_cases hy : y ∈ covN 1#8 d R
    · obtain ⟨a1, a2, a3, a4⟩ := cov_one h hne hy
      have := sib_hot h a2 (cov_mem.1 hy).1.2 a3 a1
      obtain ⟨u, hu, hb⟩ := hot_iff.1 this
      exact ⟨u, fun _ => ⟨hu, hb⟩⟩
    · exact ⟨0, fun h => absurd h hy⟩
  let f := fun y => Classical.choose (hm y)
  have hf : ∀ y ∈ covN 1#8 d R, f y ∈ R ∧ belowB (2 ^ d + f y) (y.1 ^^^ 1) = true := fun y hy => Classical.choose_spec (hm y) hy
  have hlog : ∀ y ∈ covN 1#8 d R, 1 ≤ Nat.log2 y.1 ∧ Nat.log2 y.1 ≤ d ∧ 2 ≤ y.1 ∧ y.1 < 128 := fun y hy => by
    obtain ⟨a1, a2, a3, a4⟩ := cov_one h hne hy
    have hb := (cov_mem.1 hy).1
    exact ⟨(Nat.le_log2 (by omega)).2 (by omega), node_log hb.1 hb.2, a2, by omega⟩
  have := inj_len (fun y => (f y, Nat.log2 y.1 - 1)) (m := R.flatMap fun u => (List.range d).map fun i => (u, i)) (asc_nodup cov_asc)
    (fun y hy => List.mem_flatMap.2 ⟨f y, (hf y hy).1, List.mem_map.2 ⟨Nat.log2 y.1 - 1, List.mem_range.2 (by have := hlog y hy; omega), rfl⟩⟩)
    (fun a ha b hb e => by
      injection e with e1 e2
      obtain ⟨a1, a2, a3, a4⟩ := hlog a ha
      obtain ⟨b1, b2, b3, b4⟩ := hlog b hb
      have q1 := (hf a ha).2
      have q2 := (hf b hb).2
      rw [e1] at q1
      have hs : a.1 ^^^ 1 = b.1 ^^^ 1 := below_same (by have := Nat.two_pow_pos d; omega) q1 q2 (by rw [sib_log a4 a3, sib_log b4 b3]; omega)
      have : a.1 = b.1 := by rw [← sib_sib a4, hs, sib_sib b4]
      exact cov_inj ha hb this)
  rwa [len_prod, List.length_range] at this
/-- where a subset of a cover comes from, but for the first scheme -/
theorem cov_from (h : Rcv d R) {k : BitVec 8} (hk : k ≠ 1#8) (hne : R ≠ []) {y : Nat × Nat} (hy : y ∈ covN k d R) :
    hotB d R (hdN d R 7 y.1) = true ∧ isHd d R (hdN d R 7 y.1) = true ∧ footN d R 7 (hdN d R 7 y.1) ≠ hdN d R 7 y.1 ∧ (y.1 = hdN d R 7 y.1 ∨ y.1 = cutN d (hdN d R 7 y.1) (footN d R 7 (hdN d R 7 y.1))) ∧ brN d R y.1 = true ∧ hotB d R y.1 = true := by
  have h64 := pow_le64 h.1
  have hpow : 2 ^ (d + 1) = 2 * 2 ^ d := by rw [Nat.pow_succ, Nat.mul_comm]
  have hv := own_hot h hne hy
  have hout := (cov_own h hne hv y).1 ⟨hy, rfl⟩
  have hy1 := (cov_mem.1 hy).1
  have hown : ownN k d R y = hdN d R 7 y.1 := by unfold ownN; rw [if_neg hk]
  rw [hown] at hv hout
  have hhd : isHd d R (hdN d R 7 y.1) = true := (hd_spec 7 y.1 hy1.1 (by have := node_log hy1.1 hy1.2; have := h.1; omega)).1
  generalize hdN d R 7 y.1 = v at *
  obtain ⟨v1, vl, v2⟩ := hot_log h hv
  obtain ⟨f1, f2, f3, K, f4, f5, f6⟩ := foot_spec h 7 v v1 vl (by have := h.1; omega)
  have hb : footN d R 7 v ≠ v → brN d R v = true := fun hne' => by
    cases hb : brN d R v with
    | true => rfl
    | false => exact absurd (by rw [footN, hb]; rfl) hne'
  unfold outP at hout
  rw [if_neg hk, if_pos hhd] at hout
  have cutc := fun hs => cut_chain (d := d) (k := k) (v := v) (w := footN d R 7 v) (.inr trivial) f4 f5 v1 hs
  generalize footN d R 7 v = f at *
  by_cases hfv : f = v
  · rw [if_pos hfv] at hout; cases hout
  · rw [if_neg hfv] at hout
    refine ⟨hv, hhd, hfv, ?_⟩
    have hf128 : f < 128 := by have := (Nat.log2_lt (n := f) (k := d + 1) (by omega)).1 (by omega); omega
    cases hs : subN k d v f with
    | true =>
      rw [hs, if_pos rfl, List.mem_singleton] at hout
      subst hout
      exact ⟨.inl rfl, hb hfv, hv⟩
    | false =>
      rw [hs, if_neg (by simp)] at hout
      obtain ⟨j, j1, j2, j3⟩ := cutc hs
      rcases List.mem_cons.1 hout with e | e
      · subst e; exact ⟨.inl rfl, hb hfv, hv⟩
      · rw [List.mem_singleton] at e
        subst e
        refine ⟨.inr rfl, ?_, ?_⟩
        · simp only
          have hj : j - 1 + 1 = j := by omega
          have h1 : 2 ^ (j - 1 + 1) ≤ f := Nat.le_trans (Nat.pow_le_pow_right (by omega) (by omega)) f4
          have h2 : 2 ≤ f / 2 ^ (j - 1) := by have := pow_div_le (w := f) (i := j - 1) (j := 1) h1; simpa using this
          obtain ⟨c1, c2⟩ := f6 (j - 1) (by omega)
          exact (br_of (z := cutN d v f) (c := f / 2 ^ (j - 1)) (by rw [← div_succ, hj, j3]) h2 (Nat.lt_of_le_of_lt (Nat.div_le_self _ _) hf128) c1 c2).1
        · simp only
          rw [j3]; exact (f6 j j2).1
theorem size_le1 (h : Rcv d R) {k : BitVec 8} (hk : k ≠ 1#8) (hne : R ≠ []) : (covN k d R).length ≤ (covN 1#8 d R).length := by
  refine inj_len (fun y => (if hotB d R (2 * y.1) then 2 * y.1 + 1 else 2 * y.1, 0)) (asc_nodup cov_asc) (fun y hy => ?_) (fun a ha b hb e => ?_)
  · obtain ⟨_, _, _, _, h5, h6⟩ := cov_from h hk hne hy
    have hy1 := (cov_mem.1 hy).1
    obtain ⟨hl, _⟩ := br_inner h hy1.1 h5
    have hlt := (node_lt (d := d) hy1.1).2 hl
    have hpow : 2 ^ (d + 1) = 2 * 2 ^ d := by rw [Nat.pow_succ, Nat.mul_comm]
    unfold brN at h5
    have hc : ∀ c, c / 2 = y.1 → hotB d R c = false → c < 2 ^ (d + 1) → (c, 0) ∈ covN 1#8 d R := fun c hc hn hcl => by
      refine cov_mem.2 ⟨⟨by simp only; omega, hcl⟩, ?_⟩
      unfold minN
      rw [if_pos rfl, hn, hc, h6]; simp
    cases h1 : hotB d R (2 * y.1) with
    | true =>
      rw [h1] at h5
      simp only [if_true]
      exact hc _ (by omega) (by simpa using h5) (by omega)
    | false =>
      simp only [Bool.false_eq_true, if_false]
      exact hc _ (by omega) h1 (by omega)
  · injection e with e1 e2
    refine cov_inj ha hb ?_
    split at e1 <;> split at e1 <;> omega
theorem size3 (h : Rcv d R) (hne : R ≠ []) : (covN 3#8 d R).length ≤ 2 * (covN 2#8 d R).length := by
  have := inj_len (fun y => (hdN d R 7 y.1, decide (y.1 = hdN d R 7 y.1))) (l := covN 3#8 d R) (m := (covN 2#8 d R).flatMap fun z => [true, false].map fun b => (z.1, b)) (asc_nodup cov_asc)
    (fun y hy => by
      obtain ⟨h1, h2, h3, _⟩ := cov_from h (by decide) hne hy
      have : (hdN d R 7 y.1, footN d R 7 (hdN d R 7 y.1)) ∈ covN 2#8 d R := by
        refine ((cov_own h hne h1 _).2 ?_).1
        unfold outP
        rw [if_neg (by decide), if_pos h2, if_neg h3, if_pos (by unfold subN; simp)]; simp
      exact List.mem_flatMap.2 ⟨_, this, List.mem_map.2 ⟨decide (y.1 = hdN d R 7 y.1), by cases decide (y.1 = hdN d R 7 y.1) <;> simp, rfl⟩⟩)
    (fun a ha b hb e => by
      injection e with e1 e2
      obtain ⟨_, _, _, ha4, _⟩ := cov_from h (by decide) hne ha
      obtain ⟨_, _, _, hb4, _⟩ := cov_from h (by decide) hne hb
      refine cov_inj ha hb ?_
      by_cases c : a.1 = hdN d R 7 a.1
      · rw [decide_eq_true c] at e2
        have := of_decide_eq_true e2.symm
        rw [c, e1]; exact this.symm
      · rw [decide_eq_false c] at e2
        have c2 := of_decide_eq_false e2.symm
        rw [ha4.resolve_left c, hb4.resolve_left c2, e1])
  rw [len_prod] at this
  simp only [List.length_cons, List.length_nil] at this
  omega
theorem min_ex {p : Nat → Prop} : ∀ (l : List Nat), (∃ u ∈ l, p u) → ∃ u ∈ l, p u ∧ ∀ v ∈ l, p v → u ≤ v
  | [], ⟨u, hu, _⟩ => by cases hu
  | a :: l, h => by
    by_cases hl : ∃ u ∈ l, p u
    · obtain ⟨u, h1, h2, h3⟩ := min_ex l hl
      by_cases ha : p a ∧ a ≤ u
      · refine ⟨a, by simp, ha.1, fun v hv hp => ?_⟩
        rcases List.mem_cons.1 hv with rfl | hv
        · exact Nat.le_refl _
        · exact Nat.le_trans ha.2 (h3 v hv hp)
      · refine ⟨u, by simp [h1], h2, fun v hv hp => ?_⟩
        rcases List.mem_cons.1 hv with rfl | hv
        · have : ¬ v ≤ u := fun h => ha ⟨hp, h⟩
          omega
        · exact h3 v hv hp
    · obtain ⟨u, hu, hp⟩ := h
      rcases List.mem_cons.1 hu with rfl | hu
      · refine ⟨u, by simp, hp, fun v hv hpv => ?_⟩
        rcases List.mem_cons.1 hv with rfl | hv
        · exact Nat.le_refl _
        · exact absurd ⟨v, hv, hpv⟩ hl
      · exact absurd ⟨u, hu, hp⟩ hl
/-- leaves below a left child come before those below the right one -/
theorem left_lt {z a b : Nat} (ha : belowB (2 ^ d + a) (2 * z) = true) (hb : belowB (2 ^ d + b) (2 * z + 1) = true) (hz : 1 ≤ z) (hla : Nat.log2 (2 ^ d + a) = d) (hlb : Nat.log2 (2 ^ d + b) = d) : a < b := by
  have hp := Nat.two_pow_pos d
  obtain ⟨i, i1, i2⟩ := (below_iff (by omega)).1 ha
  obtain ⟨j, j1, j2⟩ := (below_iff (by omega)).1 hb
  have li := log2_div _ i i1
  have lj := log2_div _ j j1
  rw [← i2] at li
  rw [← j2] at lj
  have e0 := log2_dbl hz (b := 0) (by omega)
  have e1 := log2_dbl hz (b := 1) (by omega)
  rw [Nat.add_zero] at e0
  obtain rfl : i = j := by omega
  rcases Nat.lt_or_ge a b with h | h
  · exact h
  · have := Nat.div_le_div_right (c := 2 ^ i) (show 2 ^ d + b ≤ 2 ^ d + a by omega)
    omega
theorem size2 (h : Rcv d R) (hne : R ≠ []) : (covN 2#8 d R).length ≤ 2 * R.length - 1 := by
  have hp2 := Nat.two_pow_pos d
  have h64 := pow_le64 h.1
  have hpow : 2 ^ (d + 1) = 2 * 2 ^ d := by rw [Nat.pow_succ, Nat.mul_comm]
  obtain ⟨m, hm1, _, hm2⟩ := min_ex (p := fun _ => True) R (by obtain ⟨u, hu⟩ := List.exists_mem_of_ne_nil R hne; exact ⟨u, hu, trivial⟩)
  -- nodes both of whose children are hot
  have hB : ((nodN d).filter fun z => hotB d R (2 * z) && hotB d R (2 * z + 1)).length ≤ (R.erase m).length := by
    have hmin : ∀ z : Nat, ∃ u, hotB d R (2 * z + 1) = true → u ∈ R ∧ belowB (2 ^ d + u) (2 * z + 1) = true ∧ ∀ v ∈ R, belowB (2 ^ d + v) (2 * z + 1) = true → u ≤ v := fun z => by
      by_cases hz : hotB d R (2 * z + 1) = true
      · obtain ⟨u, a1, a2, a3⟩ := min_ex (p := fun u => belowB (2 ^ d + u) (2 * z + 1) = true) R (hot_iff.1 hz)
        exact ⟨u, fun _ => ⟨a1, a2, a3⟩⟩
      · exact ⟨0, fun h => absurd h hz⟩
    let f := fun z => Classical.choose (hmin z)
    have hf : ∀ z, hotB d R (2 * z + 1) = true → f z ∈ R ∧ belowB (2 ^ d + f z) (2 * z + 1) = true ∧ ∀ v ∈ R, belowB (2 ^ d + v) (2 * z + 1) = true → f z ≤ v := fun z hz => Classical.choose_spec (hmin z) hz
    have hmem : ∀ z ∈ (nodN d).filter (fun z => hotB d R (2 * z) && hotB d R (2 * z + 1)), 1 ≤ z ∧ hotB d R (2 * z) = true ∧ hotB d R (2 * z + 1) = true := fun z hz => by
      obtain ⟨a, b⟩ := List.mem_filter.1 hz
      rw [Bool.and_eq_true] at b
      exact ⟨(nod_mem.1 a).1, b⟩
    have hnd : ((nodN d).filter fun z => hotB d R (2 * z) && hotB d R (2 * z + 1)).Nodup := by
      refine List.Pairwise.filter _ ?_
      unfold nodN
      rw [List.pairwise_map]
      exact List.nodup_range.imp fun h => by omega
    -- a smaller one below the left child
    have hless : ∀ z, 1 ≤ z → hotB d R (2 * z) = true → hotB d R (2 * z + 1) = true → ∃ a ∈ R, belowB (2 ^ d + a) (2 * z) = true ∧ a < f z := fun z z1 hz0 hz1 => by
      obtain ⟨a, ha, hab⟩ := hot_iff.1 hz0
      obtain ⟨g1, g2, g3⟩ := hf z hz1
      exact ⟨a, ha, hab, left_lt hab g2 z1 (h.leaf ha).2.2 (h.leaf g1).2.2⟩
    -- of two nodes with the same leaf, none is below the other
    have hord : ∀ z z', 1 ≤ z → hotB d R (2 * z) = true → hotB d R (2 * z + 1) = true → 1 ≤ z' → hotB d R (2 * z') = true → hotB d R (2 * z' + 1) = true → f z = f z' → ¬ Nat.log2 z < Nat.log2 z' := by
      intro z z' z1 a0 a1 z1' b0 b1 e hlt
      obtain ⟨g1, g2, g3⟩ := hf z a1
      obtain ⟨g1', g2', g3'⟩ := hf z' b1
      rw [← e] at g2'
      have hL : 1 ≤ 2 ^ d + f z := by omega
      obtain ⟨a, ha, hab, hal⟩ := hless z' z1' b0 b1
      have hLa : 1 ≤ 2 ^ d + a := by omega
      -- z' is below the right child of z
      have up : belowB (2 ^ d + f z) z' = true := below_trans hL g2' ((below_iff (by omega)).2 ⟨1, by omega, by omega⟩)
      have e1 := log2_dbl z1 (b := 1) (by omega)
      have hz' : belowB z' (2 * z + 1) = true := below_mid hL up g2 (by omega)
      have hup2 : belowB (2 ^ d + a) z' = true := below_trans hLa hab ((below_iff (by omega)).2 ⟨1, by omega, by omega⟩)
      have := g3 a ha (below_trans hLa hup2 hz')
      omega
    refine inj_len f hnd (fun z hz => ?_) (fun z hz z' hz' e => ?_)
    · obtain ⟨z1, a0, a1⟩ := hmem z hz
      obtain ⟨g1, g2, g3⟩ := hf z a1
      obtain ⟨a, ha, _, hal⟩ := hless z z1 a0 a1
      have := hm2 a ha trivial
      exact (List.mem_erase_of_ne (by omega)).2 g1
    · obtain ⟨z1, a0, a1⟩ := hmem z hz
      obtain ⟨z1', b0, b1⟩ := hmem z' hz'
      have l1 := hord z z' z1 a0 a1 z1' b0 b1 e
      have l2 := hord z' z z1' b0 b1 z1 a0 a1 e.symm
      obtain ⟨g1, g2, g3⟩ := hf z a1
      obtain ⟨g1', g2', g3'⟩ := hf z' b1
      rw [← e] at g2'
      have hL : 1 ≤ 2 ^ d + f z := by omega
      have up : ∀ x, 1 ≤ x → belowB (2 ^ d + f z) (2 * x + 1) = true → belowB (2 ^ d + f z) x = true := fun x hx hb => below_trans hL hb ((below_iff (by omega)).2 ⟨1, by omega, by omega⟩)
      exact below_same hL (up z z1 g2) (up z' z1' g2') (by omega)
  rw [List.length_erase_of_mem hm1] at hB
  have hfin := inj_len (fun y : Nat × Nat => y.1) (l := covN 2#8 d R) (m := 1 :: ((nodN d).filter fun z => hotB d R (2 * z) && hotB d R (2 * z + 1)).flatMap fun z => [0, 1].map fun b => 2 * z + b) (asc_nodup cov_asc)
    (fun y hy => by
      obtain ⟨h1, h2, h3, h4, h5, h6⟩ := cov_from h (by decide) hne hy
      have hy1 := (cov_mem.1 hy).1
      have hyh : y.1 = hdN d R 7 y.1 := by
        have hout := (cov_own (k := 2#8) h hne (own_hot h hne hy) y).1 ⟨hy, rfl⟩
        rw [show ownN 2#8 d R y = hdN d R 7 y.1 from by unfold ownN; rw [if_neg (by decide)]] at hout
        unfold outP at hout
        rw [if_neg (by decide), if_pos h2, if_neg h3, if_pos (by unfold subN; simp), List.mem_singleton] at hout
        exact congrArg Prod.fst hout
      rw [← hyh] at h2
      unfold isHd at h2
      rw [Bool.or_eq_true, decide_eq_true_eq] at h2
      by_cases hy0 : y.1 = 1
      · simp [hy0]
      · have hsib := h2.resolve_left hy0
        have hy2 : 2 ≤ y.1 := by omega
        refine List.mem_cons.2 (.inr (List.mem_flatMap.2 ⟨y.1 / 2, List.mem_filter.2 ⟨nod_mem.2 ⟨by omega, by omega⟩, ?_⟩, List.mem_map.2 ⟨y.1 % 2, ?_, by omega⟩⟩))
        · rcases (show 2 * (y.1 / 2) = y.1 ∨ 2 * (y.1 / 2) + 1 = y.1 by omega) with e | e
          · have e2 := dbl0 (n := y.1 / 2) (by omega)
            rw [e] at e2
            rw [e, ← e2, h6, hsib]; rfl
          · have e2 := dbl1 (n := y.1 / 2) (by omega)
            rw [e] at e2
            rw [e, h6, ← e2, hsib]; rfl
        · rcases Nat.mod_two_eq_zero_or_one y.1 with e | e <;> simp [e])
    (fun a ha b hb e => cov_inj ha hb e)
  rw [List.length_cons, len_prod] at hfin
  simp only [List.length_cons, List.length_nil] at hfin
  have : 0 < R.length := List.length_pos_of_mem hm1
  omega
end Go.Sx
