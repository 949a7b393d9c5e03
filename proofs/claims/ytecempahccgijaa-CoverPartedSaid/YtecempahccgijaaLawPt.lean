/- CoverParted on the mirrors: Split divides a subset into two. -/
import Derived.Test.YtecempahccgijaaOpnPt
import Derived.Test.YtecempahccgijaaPr
set_option linter.unusedVariables false
set_option linter.unusedSimpArgs false
set_option maxRecDepth 100000
namespace Go.Sx
open Go
section
variable {d : Nat}

/-- one leaf alone is below a leaf -/
theorem leaf_one {x : Nat} {p : Nat → Bool} (h1 : 1 ≤ x) (hl : Nat.log2 x = d) (hp : ∀ u, u < 2 ^ d → p u = belowB (2 ^ d + u) x) : ((List.range (2 ^ d)).filter p).length = 1 := by
  have hp2 := Nat.two_pow_pos d
  obtain ⟨u0, hu0, hb0⟩ := leaf_ex (d := d) h1 (by omega)
  have h2 : ((List.range (2 ^ d)).filter p).length ≤ [x].length := inj_len (fun u => 2 ^ d + u) (List.nodup_range.filter _) (fun u hu => by
      obtain ⟨a, b⟩ := List.mem_filter.1 hu
      have a := List.mem_range.1 a
      rw [hp u a] at b
      have := below_same (show 1 ≤ 2 ^ d + u by omega) (below_refl (by omega)) b (by rw [leaf_log a, hl])
      simp [this]) (fun a _ b _ e => by have e' : 2 ^ d + a = 2 ^ d + b := e; omega)
  have h3 : 0 < ((List.range (2 ^ d)).filter p).length := List.length_pos_of_mem (List.mem_filter.2 ⟨List.mem_range.2 hu0, by rw [hp u0 hu0]; exact hb0⟩)
  simp only [List.length_cons, List.length_nil] at h2
  omega
theorem filter_two {p q r : Nat → Bool} : ∀ (l : List Nat), (∀ u ∈ l, p u = (q u || r u) ∧ (q u && r u) = false) → (l.filter p).length = (l.filter q).length + (l.filter r).length
  | [], _ => rfl
  | a :: l, h => by
    have ih := filter_two l fun u hu => h u (by simp [hu])
    obtain ⟨h1, h2⟩ := h a (by simp)
    rw [List.filter_cons, List.filter_cons, List.filter_cons, h1]
    cases hq : q a <;> cases hr : r a <;> simp [hq, hr] at h2 ⊢ <;> omega
/-- two subsets that divide a third -/
def Prt (k : BitVec 8) (d n m : Nat) (a b : Nat × Nat) : Prop := subP k d a.1 a.2 = true ∧ subP k d b.1 b.2 = true ∧ ∀ u, u < 2 ^ d → memB (2 ^ d + u) n m = (memB (2 ^ d + u) a.1 a.2 || memB (2 ^ d + u) b.1 b.2) ∧ (memB (2 ^ d + u) a.1 a.2 && memB (2 ^ d + u) b.1 b.2) = false
theorem subP_mk {k : BitVec 8} {n m : Nat} (hk : k ≠ 1#8) (hn : 1 ≤ n ∧ n < 2 ^ (d + 1)) (hm : 1 ≤ m ∧ m < 2 ^ (d + 1)) (hne : m ≠ n) (hb : belowB m n = true) (hs : subN k d n m = true) : subP k d n m = true := by
  unfold subP
  rw [decide_eq_true hn, if_neg hk, if_neg (by omega), decide_eq_true ⟨hm.2, hne⟩, hb, hs]; rfl
theorem subN_kid {k : BitVec 8} {n m : Nat} (hl : Nat.log2 m = Nat.log2 n + 1) : subN k d n m = true := by
  unfold subN
  rw [show Nat.log2 m - Nat.log2 n - 1 = 0 from by omega]
  simp [pathN, fstS]
/-- a node between -/
theorem prt_mid {k : BitVec 8} {n m q : Nat} (hm : 1 ≤ m) (hq : 1 ≤ q) (h1 : belowB m q = true) (h2 : belowB q n = true) (s1 : subP k d n q = true) (s2 : subP k d q m = true) : Prt k d n m (n, q) (q, m) := by
  refine ⟨s1, s2, fun u hu => ?_⟩
  have hp2 := Nat.two_pow_pos d
  have hL : 1 ≤ 2 ^ d + u := by omega
  have t1 : belowB (2 ^ d + u) m = true → belowB (2 ^ d + u) q = true := fun h => below_trans hL h h1
  have t2 : belowB (2 ^ d + u) q = true → belowB (2 ^ d + u) n = true := fun h => below_trans hL h h2
  unfold memB
  simp only
  rw [decide_eq_false (show ¬ q = 0 by omega), decide_eq_false (show ¬ m = 0 by omega)]
  cases c1 : belowB (2 ^ d + u) m <;> cases c2 : belowB (2 ^ d + u) q <;> cases c3 : belowB (2 ^ d + u) n <;> simp_all
theorem kids_two {u n : Nat} (hu : u < 2 ^ d) (hn : 1 ≤ n) (hl : Nat.log2 n < d) : belowB (2 ^ d + u) n = (belowB (2 ^ d + u) (2 * n) || belowB (2 ^ d + u) (2 * n + 1)) ∧ (belowB (2 ^ d + u) (2 * n) && belowB (2 ^ d + u) (2 * n + 1)) = false := by
  have hp2 := Nat.two_pow_pos d
  have hL : 1 ≤ 2 ^ d + u := by omega
  refine ⟨below_kids hL (by rw [leaf_log hu]; exact hl) hn, ?_⟩
  cases c1 : belowB (2 ^ d + u) (2 * n) with
  | false => rfl
  | true =>
    cases c2 : belowB (2 ^ d + u) (2 * n + 1) with
    | false => rfl
    | true =>
      have e0 := log2_dbl hn (b := 0) (by omega)
      have e1 := log2_dbl hn (b := 1) (by omega)
      have := below_same hL c1 c2 (by rw [Nat.add_zero] at e0; omega)
      omega
variable {s : TScheme}
theorem memL_length (n m : Nat) : (memL d n m).length = ((List.range (2 ^ d)).filter fun u => memB (2 ^ d + u) n m).length := by unfold memL; rw [List.length_map]
theorem tsub_eq (hv : vldB s = true) (hd : s.Depth = (d : Int)) (h6 : d ≤ 6) (n m : Nat) : cover_tree_subset (treeI s) ⟨(n : Int), (m : Int)⟩ = some (subP s.Kind d n m) := by
  obtain ⟨b, e1, e2, _⟩ := subset_eq s hv ⟨(n : Int), (m : Int)⟩
  rw [isSub_eq hv hd h6] at e2
  rw [e1]; exact e2.symm
theorem psplit_eq (hv : vldB s = true) (hd : s.Depth = (d : Int)) (h6 : d ≤ 6) {n m : Nat} (hs : subP s.Kind d n m = true) :
    (cover_Split s ⟨(n : Int), (m : Int)⟩ = some ([], 6) ∧ (memL d n m).length = 1) ∨ (∃ a b, cover_Split s ⟨(n : Int), (m : Int)⟩ = some ([mkS a, mkS b], 0) ∧ (memL d n m).length ≠ 1 ∧ Prt s.Kind d n m a b) := by
  have h64 := pow_le64 h6
  have hpow : 2 ^ (d + 1) = 2 * 2 ^ d := by rw [Nat.pow_succ, Nat.mul_comm]
  have hp2 := Nat.two_pow_pos d
  obtain ⟨f0, f1, f2, f3, f5⟩ := sub_true hv hd h6 hs
  have ht : treeI s = ⟨s.Kind, (d : Int), (strd d : Int)⟩ := by unfold treeI; rw [hd, Int.toNat_natCast]
  have hmem : cover_tree_members (treeI s) ⟨(n : Int), (m : Int)⟩ = some (memL d n m) := by rw [ht]; exact members_eq h6 f5
  unfold cover_Split
  rw [f0, bind_some, if_neg (by simp)]
  simp only
  rw [hmem, bind_some]
  by_cases h1 : (memL d n m).length = 1
  · rw [if_pos (by omega)]; exact .inl ⟨rfl, h1⟩
  · rw [if_neg (by omega), show (treeI s).kind = s.Kind from rfl]
    refine .inr ?_
    have hs' := hs
    unfold subP at hs'
    rw [Bool.and_eq_true, decide_eq_true_eq] at hs'
    obtain ⟨⟨hn1, hn2⟩, hs2⟩ := hs'
    have hnl := node_log (d := d) hn1 hn2
    have one : ∀ x, 1 ≤ x → Nat.log2 x = d → (∀ u, u < 2 ^ d → memB (2 ^ d + u) n m = belowB (2 ^ d + u) x) → False := fun x x1 xl hx => h1 (by rw [memL_length]; exact leaf_one x1 xl hx)
    by_cases hk : s.Kind = 1#8
    · rw [if_pos hk] at hs2 ⊢
      have hm0 : m = 0 := of_decide_eq_true hs2
      subst hm0
      have hnd : Nat.log2 n < d := by
        rcases Nat.lt_or_ge (Nat.log2 n) d with h | h
        · exact h
        · exact (one n hn1 (by omega) (fun u hu => by unfold memB; simp)).elim
      have hlt := (node_lt (d := d) hn1).2 hnd
      unfold cover_Split_1
      refine ⟨(2 * n, 0), (2 * n + 1, 0), ?_, h1, ?_, ?_, fun u hu => ?_⟩
      · simp only [bind_some, mkS]
        rw [w64_id (n := 2 * (n : Int)) (by omega) (by omega), w64_id (by omega) (by omega)]
        rfl
      · unfold subP; rw [if_pos hk, decide_eq_true ⟨by omega, by omega⟩]; rfl
      · unfold subP; rw [if_pos hk, decide_eq_true ⟨by omega, by omega⟩]; rfl
      · have := kids_two hu hn1 hnd
        unfold memB; simpa using this
    · rw [if_neg hk] at hs2 ⊢
      by_cases hm0 : m = 0
      · subst hm0
        rw [if_pos rfl] at hs2
        have hn0 : n = 1 := of_decide_eq_true hs2
        subst hn0
        have hd1 : 1 ≤ d := by
          rcases Nat.eq_zero_or_pos d with h | h
          · exact (one 1 (by omega) (by rw [h]; decide) (fun u hu => by unfold memB; simp)).elim
          · exact h
        have h4 : 4 ≤ 2 ^ (d + 1) := Nat.pow_le_pow_right (n := 2) (by omega) (show 2 ≤ d + 1 by omega)
        rw [if_pos (by simp)]
        unfold cover_Split_1
        refine ⟨(1, 2), (1, 3), rfl, h1, ?_, ?_, fun u hu => ?_⟩
        · exact subP_mk hk ⟨by omega, by omega⟩ ⟨by omega, by omega⟩ (by omega) (by decide) (subN_kid (by decide))
        · exact subP_mk hk ⟨by omega, by omega⟩ ⟨by omega, by omega⟩ (by omega) (by decide) (subN_kid (by decide))
        · have hk2 := kids_two (d := d) (n := 1) hu (by omega) (by rw [show Nat.log2 1 = 0 from by decide]; omega)
          have := one_mem hu
          unfold memB at this ⊢
          simp only [decide_true, Bool.true_or, Bool.and_true] at this
          rw [this] at hk2
          simp only [Nat.mul_one] at hk2
          simp only [this, decide_true, Bool.true_or, Bool.and_true, Bool.true_and]
          rw [show decide (2 = 0) = false from rfl, show decide (3 = 0) = false from rfl]
          cases c1 : belowB (2 ^ d + u) 2 <;> cases c2 : belowB (2 ^ d + u) 3 <;> simp [c1, c2] at hk2 ⊢
      · rw [if_neg hm0, Bool.and_eq_true, Bool.and_eq_true, decide_eq_true_eq] at hs2
        obtain ⟨⟨⟨hm2, hmn⟩, hmb⟩, hsn⟩ := hs2
        have hm1 : 1 ≤ m := by omega
        obtain ⟨t, t1, t2, t3⟩ := below_split hm1 hn1 hmb hmn
        have ht6 := le_log t3 (show m < 128 by omega)
        have hml := node_log (d := d) hm1 hm2
        rw [if_neg (by omega)]
        have htw := toward_eq (w := m) (k := t) t3 (by omega)
        rw [← t2] at htw
        rw [htw, bind_some]
        have t3' : 2 ^ t ≤ m := Nat.le_trans (Nat.pow_le_pow_right (by omega) (by omega)) t3
        have hc1 : 1 ≤ m / 2 ^ t := div_pos' t3'
        have hcl := log2_div m t t3'
        have hcle : m / 2 ^ t ≤ m := Nat.div_le_self _ _
        have hcn : m / 2 ^ t / 2 = n := by rw [← div_succ]; exact t2.symm
        by_cases hcm : m / 2 ^ t = m
        · rw [if_pos (by omega)]
          rw [hcm] at hcn hcl ⊢
          have hm22 : 2 ≤ m := by omega
          have e1 := sib_lt (n := m) (by omega)
          have e2 := sib_two_le (n := m) (by omega) hm22
          have e3 := sib_log (n := m) (by omega) hm22
          have e4 := sib_half (n := m) (by omega)
          unfold cover_node_sibling
          rw [bind_some, bit_xor (by omega)]
          -- the members are those below the sibling
          have hmx : ∀ u, u < 2 ^ d → memB (2 ^ d + u) n m = belowB (2 ^ d + u) (m ^^^ 1) := by
            intro u hu
            have hh := log2_half hm22
            rw [hcn] at hh
            have hk2 := kids_two (d := d) (n := n) hu hn1 (by omega)
            unfold memB
            rw [decide_eq_false hm0]
            rcases (show 2 * (m / 2) = m ∨ 2 * (m / 2) + 1 = m by omega) with e | e
            · have q := dbl0 (n := m / 2) (by omega)
              rw [hcn] at e q
              rw [e] at q
              rw [q, hk2.1]
              have := hk2.2
              rw [e] at this ⊢
              cases c1 : belowB (2 ^ d + u) m <;> cases c2 : belowB (2 ^ d + u) (m + 1) <;> simp [c1, c2] at this ⊢
            · have q := dbl1 (n := m / 2) (by omega)
              rw [hcn] at e q
              rw [e] at q
              rw [q, hk2.1]
              have := hk2.2
              rw [e] at this ⊢
              cases c1 : belowB (2 ^ d + u) m <;> cases c2 : belowB (2 ^ d + u) (2 * n) <;> simp [c1, c2] at this ⊢
          have hxl : Nat.log2 (m ^^^ 1) < d := by
            rcases Nat.lt_or_ge (Nat.log2 (m ^^^ 1)) d with h | h
            · exact h
            · exact (one (m ^^^ 1) (by omega) (by omega) hmx).elim
          have hlt := (node_lt (d := d) (v := m ^^^ 1) (by omega)).2 hxl
          generalize m ^^^ 1 = x at *
          unfold cover_Split_1
          have e0' := log2_dbl (v := x) (by omega) (b := 0) (by omega)
          have e1' := log2_dbl (v := x) (by omega) (b := 1) (by omega)
          rw [Nat.add_zero] at e0'
          refine ⟨(x, 2 * x), (x, 2 * x + 1), ?_, h1, ?_, ?_, fun u hu => ?_⟩
          · simp only [bind_some, mkS]
            rw [w64_id (n := 2 * (x : Int)) (by omega) (by omega), w64_id (by omega) (by omega)]
            rfl
          · exact subP_mk hk ⟨by omega, by omega⟩ ⟨by omega, by omega⟩ (by omega) ((below_iff (by omega)).2 ⟨1, by omega, by omega⟩) (subN_kid e0')
          · exact subP_mk hk ⟨by omega, by omega⟩ ⟨by omega, by omega⟩ (by omega) ((below_iff (by omega)).2 ⟨1, by omega, by omega⟩) (subN_kid e1')
          · have hk2 := kids_two (d := d) (n := x) hu (by omega) hxl
            rw [hmx u hu]
            unfold memB
            simp only
            rw [decide_eq_false (show ¬ 2 * x = 0 by omega), decide_eq_false (show ¬ 2 * x + 1 = 0 by omega), hk2.1]
            have := hk2.2
            cases c1 : belowB (2 ^ d + u) (2 * x) <;> cases c2 : belowB (2 ^ d + u) (2 * x + 1) <;> simp [c1, c2] at this ⊢
        · rw [if_neg (by omega), tsub_eq hv hd h6, bind_some]
          have ht0 : 1 ≤ t := by
            rcases Nat.eq_zero_or_pos t with e | e
            · subst e; simp at hcm
            · exact e
          have mid : ∀ j, 1 ≤ j → j ≤ t → subP s.Kind d n (m / 2 ^ j) = true → subP s.Kind d (m / 2 ^ j) m = true → Prt s.Kind d n m (n, m / 2 ^ j) (m / 2 ^ j, m) := by
            intro j j1 j2 s1 s2
            have hj : 2 ^ j ≤ m := Nat.le_trans (Nat.pow_le_pow_right (by omega) (by omega)) t3
            refine prt_mid hm1 (div_pos' hj) ((below_iff hm1).2 ⟨j, hj, rfl⟩) ((below_iff (div_pos' hj)).2 ⟨t + 1 - j, pow_div_le (by rw [Nat.add_sub_cancel' (by omega)]; exact t3), ?_⟩) s1 s2
            rw [Nat.div_div_eq_div_mul, ← Nat.pow_add, Nat.add_sub_cancel' (by omega)]; exact t2
          have mk : ∀ j, 1 ≤ j → j ≤ t → (subN s.Kind d n (m / 2 ^ j) = true → subP s.Kind d n (m / 2 ^ j) = true) ∧ (subN s.Kind d (m / 2 ^ j) m = true → subP s.Kind d (m / 2 ^ j) m = true) := by
            intro j j1 j2
            have hj : 2 ^ j ≤ m := Nat.le_trans (Nat.pow_le_pow_right (by omega) (by omega)) t3
            have hjp := div_pos' hj
            have hjle : m / 2 ^ j ≤ m := Nat.div_le_self _ _
            have hjl := log2_div m j hj
            have hnl2 := log2_div m (t + 1) t3
            rw [← t2] at hnl2
            refine ⟨fun hq => subP_mk hk ⟨hn1, hn2⟩ ⟨hjp, by omega⟩ (fun e => by rw [e] at hjl; omega) ((below_iff hjp).2 ⟨t + 1 - j, pow_div_le (by rw [Nat.add_sub_cancel' (by omega)]; exact t3), by rw [Nat.div_div_eq_div_mul, ← Nat.pow_add, Nat.add_sub_cancel' (by omega)]; exact t2⟩) hq,
              fun hq => subP_mk hk ⟨hjp, by omega⟩ ⟨hm1, hm2⟩ (fun e => by rw [← e] at hjl; omega) ((below_iff hm1).2 ⟨j, hj, rfl⟩) hq⟩
          have hnl2 := log2_div m (t + 1) t3
          rw [← t2] at hnl2
          cases hcs : subP s.Kind d (m / 2 ^ t) m with
          | true =>
            simp only [Bool.not_true, cond_false]
            unfold cover_Split_J1 cover_Split_1
            exact ⟨(n, m / 2 ^ t), (m / 2 ^ t, m), rfl, h1, mid t ht0 (Nat.le_refl _) ((mk t ht0 (Nat.le_refl _)).1 (subN_kid (by omega))) hcs⟩
          | false =>
            simp only [Bool.not_false, cond_true]
            have hce := cut_eq (kd := s.Kind) (d := d) (m := m) (k := t) (by omega) t3 (by omega)
            rw [← t2] at hce
            rw [ht, hce, bind_some]
            -- a special node is strictly between c and m
            have hns : subN s.Kind d (m / 2 ^ t) m = false := by
              cases hq : subN s.Kind d (m / 2 ^ t) m with
              | false => rfl
              | true => rw [(mk t ht0 (Nat.le_refl _)).2 hq] at hcs; cases hcs
            obtain ⟨j, j1, j2, _, j4, _⟩ := cut_spec (d := d) (k := s.Kind) (v := m / 2 ^ t) (w := m) (K := t) t3' rfl hc1 hns
            have hns2 := hns
            unfold subN at hns2
            simp only [Bool.or_eq_false_iff, decide_eq_false_iff_not] at hns2
            -- so n is special
            have hspn : spcl d n = true := by
              unfold subN at hsn
              simp only [Bool.or_eq_true, decide_eq_true_eq] at hsn
              rcases hsn with (h | h) | h
              · exact absurd h hns2.1.1
              · exact h
              · exfalso
                have hpos : ∀ x ∈ pathN (m / 2) (Nat.log2 m - Nat.log2 n - 1), 1 ≤ x := by
                  intro x hx
                  obtain ⟨i, hi, rfl⟩ := pathN_mem.1 hx
                  rw [Nat.div_div_eq_div_mul, show 2 * 2 ^ i = 2 ^ (i + 1) from by rw [Nat.pow_succ, Nat.mul_comm]]
                  exact div_pos' (Nat.le_trans (Nat.pow_le_pow_right (by omega) (by omega)) t3)
                rw [fst0 hpos] at h
                have := h (m / 2 ^ j) (pathN_mem.2 ⟨j - 1, by omega, by rw [Nat.div_div_eq_div_mul, show 2 * 2 ^ (j - 1) = 2 ^ j from by rw [← Nat.pow_succ']; congr 1; omega]⟩)
                rw [j4] at this; cases this
            -- the cut
            have hfs : ∃ i, 1 ≤ i ∧ i ≤ t ∧ fstS d (pathN (m / 2) t) = m / 2 ^ i ∧ spcl d (m / 2 ^ i) = true := by
              unfold fstS
              cases hf : (pathN (m / 2) t).find? (spcl d) with
              | none =>
                exfalso
                have := (List.find?_eq_none.1 hf) (m / 2 ^ j) (pathN_mem.2 ⟨j - 1, by omega, by rw [Nat.div_div_eq_div_mul, show 2 * 2 ^ (j - 1) = 2 ^ j from by rw [← Nat.pow_succ']; congr 1; omega]⟩)
                exact this j4
              | some c =>
                obtain ⟨i, hi, rfl⟩ := pathN_mem.1 (List.mem_of_find?_eq_some hf)
                have hsp := List.find?_some hf
                rw [Nat.div_div_eq_div_mul, show 2 * 2 ^ i = 2 ^ (i + 1) from by rw [Nat.pow_succ, Nat.mul_comm]] at hsp ⊢
                exact ⟨i + 1, by omega, by omega, rfl, hsp⟩
            obtain ⟨i, i1, i2, i3, i4⟩ := hfs
            rw [i3]
            unfold cover_Split_J1 cover_Split_1
            exact ⟨(n, m / 2 ^ i), (m / 2 ^ i, m), rfl, h1, mid i i1 i2 ((mk i i1 i2).1 (by unfold subN; rw [hspn]; simp)) ((mk i i1 i2).2 (by unfold subN; rw [i4]; simp))⟩
theorem law03_CoverParted_ok (p0 : TScheme) (p1 : TSubset) (h0 : TScheme.ok p0) (h1 : TSubset.ok p1) : law03_CoverParted p0 p1 = some true := by
  unfold law03_CoverParted
  rw [alive_eq, bind_some, valid_eq]
  cases hv : vldB p0 with
  | false =>
    have e1 : cover_Members p0 p1 = some ([], 30) := by unfold cover_Members; rw [enter1n p0 hv]; rfl
    have e2 : cover_Split p0 p1 = some ([], 30) := by unfold cover_Split; rw [enter1n p0 hv]; rfl
    rw [e1, e2]; rfl
  | true =>
    obtain ⟨d, hd, h6⟩ := vld_depth hv
    have h64 := pow_le64 h6
    rcases sub_cases hv hd h6 p1 with ⟨f0, f1, f2⟩ | ⟨f0, f1, f2, f3, n, m, rfl, f5, f6⟩
    · have e1 : cover_Members p0 p1 = some ([], 31) := by unfold cover_Members; rw [f0]; rfl
      have e2 : cover_Split p0 p1 = some ([], 31) := by unfold cover_Split; rw [f0]; rfl
      rw [e1, e2, f1]; rfl
    · rw [pmembers_eq hv hd h6 f6, bind_some, f1]
      obtain ⟨u0, hu0, hm0⟩ := sub_mem h6 f6
      have hnz := List.length_pos_of_mem (memL_get.2 ⟨u0, rfl, hu0, hm0⟩)
      have hmx := memL_len (d := d) (n := n) (m := m) h6
      rcases psplit_eq hv hd h6 f6 with ⟨e, hone⟩ | ⟨a, b, e, hone, sa, sb, hab⟩
      · rw [e, bind_some, bind_some, bind_some]
        simp only [Bool.not_true, cond_false]
        unfold law03_CoverParted_J1
        rw [cond_false, if_neg (by simp), decide_eq_false (by simp only; omega)]
        unfold law03_CoverParted_J2
        rw [cond_false, if_pos (by simp only; omega)]; rfl
      · rw [e, bind_some, bind_some, bind_some]
        simp only [Bool.not_true, cond_false]
        unfold law03_CoverParted_J1
        rw [cond_false, if_neg (by simp), decide_eq_false (by simp only; omega)]
        unfold law03_CoverParted_J2
        rw [cond_false, if_neg (by simp only; omega), if_neg (by simp), decide_eq_false (by simp)]
        unfold law03_CoverParted_J3
        rw [cond_false, show getI ([mkS a, mkS b], (0 : Int)).1 0 = some ⟨(a.1 : Int), (a.2 : Int)⟩ from rfl, show getI ([mkS a, mkS b], (0 : Int)).1 1 = some ⟨(b.1 : Int), (b.2 : Int)⟩ from rfl, bind_some, pmembers_eq hv hd h6 sa, bind_some, bind_some, pmembers_eq hv hd h6 sb, bind_some, if_neg (by simp), if_neg (by simp)]
        obtain ⟨ua, hua, hma⟩ := sub_mem h6 sa
        obtain ⟨ub, hub, hmb⟩ := sub_mem h6 sb
        have hna := List.length_pos_of_mem (memL_get.2 ⟨ua, rfl, hua, hma⟩)
        have hnb := List.length_pos_of_mem (memL_get.2 ⟨ub, rfl, hub, hmb⟩)
        have hla := memL_len (d := d) (n := a.1) (m := a.2) h6
        have hlb := memL_len (d := d) (n := b.1) (m := b.2) h6
        have hsum : (memL d n m).length = (memL d a.1 a.2).length + (memL d b.1 b.2).length := by
          rw [memL_length, memL_length, memL_length]
          exact filter_two _ fun u hu => hab u (List.mem_range.1 hu)
        rw [if_neg (by simp only; omega), if_neg (by simp only; omega), decide_eq_false (by simp only; rw [w64_id (by omega) (by omega)]; omega)]
        unfold law03_CoverParted_J4
        rw [cond_false]
        refine fix_go _ (fun j x => x = (j : Int)) (memL d n m).length _ (by omega) rfl ?_ ?_
        · rintro j _ hj rfl
          refine ⟨_, rfl, fun rec => ?_⟩
          obtain ⟨w, hw, hw2, hw3⟩ := memL_get.1 (List.getElem_mem hj)
          have ha1 := member_ok hv hd h6 hw2 [a] (by simp [sa]) (by simp)
          have hb1 := member_ok hv hd h6 hw2 [b] (by simp [sb]) (by simp)
          simp only [List.map_cons, List.map_nil, List.any_cons, List.any_nil, Bool.or_false] at ha1 hb1
          simp only [law03_CoverParted_L5]
          rw [if_pos (by omega), show sliG [mkS a, mkS b] 0 1 = some [mkS a] from rfl, bind_some, getI_some hj, bind_some, hw, ha1, bind_some, show sliG [mkS a, mkS b] 1 (([mkS a, mkS b] : List TSubset).length : Int) = some [mkS b] from rfl, bind_some, bind_some, hb1, bind_some]
          simp only [Bool.not_true, cond_false]
          obtain ⟨q1, q2⟩ := hab w hw2
          rw [hw3] at q1
          unfold law03_CoverParted_J6
          rw [w64_nat (by omega)]
          cases c1 : memB (2 ^ d + w) a.1 a.2 <;> cases c2 : memB (2 ^ d + w) b.1 b.2 <;> simp [c1, c2] at q1 q2 ⊢
        · rintro _ rfl rec
          simp only [law03_CoverParted_L5]
          rw [if_neg (by omega)]
end
end Go.Sx
