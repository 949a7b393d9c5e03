/- Several texts in one: Pv5 Pr Pq Vq Pm LawMa. -/
import Derived.Test.YtopkalcefepilaaZd
import Derived.Test.YtopkalcefepilaaZc
set_option linter.unusedVariables false
set_option linter.unusedSimpArgs false
section
set_option linter.unusedVariables false
set_option linter.unusedSimpArgs false
set_option maxRecDepth 100000
namespace Go.Sx.Pn
open Go Go.Sx Go.Sx.Po
theorem F5 : FUEL = 18446744073709551611 + 1 + 1 + 1 + 1 + 1 := rfl
theorem idx_all (m : Int) (l : List Int) (hl : l.length < 1000) : ∀ (k i f : Nat), l.length - i = k → i ≤ l.length → k < f → ∃ j : Int, fixN (slices_IndexFunc_7bbb_plan_within_1_L1 l m) f (i : Int) = some j ∧ (0 ≤ j ↔ ∃ x ∈ l.drop i, ¬ (0 ≤ x ∧ x ≤ m))
  | k, i, 0, _, _, hf => by omega
  | k, i, f + 1, hk, hi, hf => by
    rw [fix_step]
    unfold slices_IndexFunc_7bbb_plan_within_1_L1
    by_cases h : i < l.length
    · rw [if_pos (by omega), getI_some h, bind_some]
      unfold plan_within_1
      rw [List.drop_eq_getElem_cons h]
      by_cases h0 : l[i] < 0
      · rw [if_pos h0, bind_some, cond_true]
        exact ⟨_, rfl, ⟨fun _ => ⟨l[i], List.mem_cons_self, by omega⟩, fun _ => by omega⟩⟩
      · rw [if_neg h0, bind_some]
        by_cases h1 : m < l[i]
        · rw [decide_eq_true h1, cond_true]
          exact ⟨_, rfl, ⟨fun _ => ⟨l[i], List.mem_cons_self, by omega⟩, fun _ => by omega⟩⟩
        · rw [decide_eq_false h1, cond_false, w64_id (by omega) (by omega)]
          obtain ⟨j, e, q⟩ := idx_all m l hl (k - 1) (i + 1) f (by omega) (by omega) (by omega)
          refine ⟨j, e, q.trans ?_⟩
          constructor
          · rintro ⟨x, hx, hn⟩
            exact ⟨x, List.mem_cons_of_mem _ hx, hn⟩
          · rintro ⟨x, hx, hn⟩
            rcases List.mem_cons.1 hx with rfl | hx
            · exact absurd ⟨by omega, by omega⟩ hn
            · exact ⟨x, hx, hn⟩
    · rw [if_neg (by omega)]
      refine ⟨-1, rfl, ?_⟩
      rw [List.drop_eq_nil_of_le (by omega)]; simp
theorem within_eq (m : Int) (l : List Int) (hl : l.length < 1000) : plan_within m l = some (l.all fun x => decide (0 ≤ x ∧ x ≤ m)) := by
  unfold plan_within slices_ContainsFunc_5954_plan_within_1 slices_IndexFunc_7bbb_plan_within_1
  obtain ⟨j, e, q⟩ := idx_all m l hl _ 0 FUEL rfl (by omega) (fuel_lt (by omega))
  rw [show ((0 : Nat) : Int) = 0 from rfl] at e
  rw [e, bind_some, bind_some]
  congr 1
  rw [List.drop_zero] at q
  by_cases h : 0 ≤ j
  · rw [decide_eq_true h, Bool.not_true]
    obtain ⟨x, hx, hn⟩ := q.1 h
    symm
    rw [List.all_eq_false]
    exact ⟨x, hx, by simpa using hn⟩
  · rw [decide_eq_false h, Bool.not_false]
    symm
    rw [List.all_eq_true]
    intro x hx
    refine decide_eq_true ?_
    by_cases hc : 0 ≤ x ∧ x ≤ m
    · exact hc
    · exact absurd (q.2 ⟨x, hx, hc⟩) h
/-- a valid need -/
def vnB (n : TNeed) : Bool := decide ((0 ≤ n.Depth ∧ n.Depth ≤ 6) ∧ (0 ≤ n.Revoked ∧ n.Revoked ≤ ((2 ^ n.Depth.toNat : Nat) : Int)) ∧ (0 ≤ n.Storage ∧ n.Storage ≤ 10000) ∧ (0 ≤ n.Headers ∧ n.Headers ≤ 1000) ∧ (0 ≤ n.HeaderPrice ∧ n.HeaderPrice ≤ 1000) ∧ (0 ≤ n.StoragePrice ∧ n.StoragePrice ≤ 1000))
theorem need_eq (n : TNeed) : plan_CheckNeed n = some (if vnB n = true then 0 else 2) := by
  unfold plan_CheckNeed vnB
  rw [within_eq _ _ (by simp), bind_some]
  simp only [List.all_cons, List.all_nil, Bool.and_true]
  by_cases h1 : 0 ≤ n.Depth ∧ n.Depth ≤ 6
  · rw [decide_eq_true h1, Bool.not_true, cond_false]
    obtain ⟨d, hd⟩ : ∃ d : Nat, n.Depth = (d : Int) := ⟨n.Depth.toNat, by omega⟩
    rw [hd, shGn, bind_some, shlD (by omega), within_eq _ _ (by simp), bind_some, Int.toNat_natCast]
    simp only [List.all_cons, List.all_nil, Bool.and_true]
    by_cases h2 : 0 ≤ n.Revoked ∧ n.Revoked ≤ ((2 ^ d : Nat) : Int)
    · rw [decide_eq_true h2, Bool.not_true, cond_false, within_eq _ _ (by simp), bind_some]
      simp only [List.all_cons, List.all_nil, Bool.and_true]
      by_cases h3 : 0 ≤ n.Storage ∧ n.Storage ≤ 10000
      · rw [decide_eq_true h3, Bool.not_true, cond_false, within_eq _ _ (by simp), bind_some]
        simp only [List.all_cons, List.all_nil, Bool.and_true]
        unfold plan_CheckNeed_J1
        rw [← Bool.decide_and, ← Bool.decide_and]
        by_cases h4 : (0 ≤ n.Headers ∧ n.Headers ≤ 1000) ∧ (0 ≤ n.HeaderPrice ∧ n.HeaderPrice ≤ 1000) ∧ (0 ≤ n.StoragePrice ∧ n.StoragePrice ≤ 1000)
        · rw [decide_eq_true h4, decide_eq_true ⟨by omega, h2, h3, h4⟩]; rfl
        · rw [decide_eq_false h4, decide_eq_false fun h => h4 h.2.2.2]; rfl
      · rw [decide_eq_false h3, decide_eq_false fun h => h3 h.2.2.1]; rfl
    · rw [decide_eq_false h2, decide_eq_false fun h => h2 h.2.1]; rfl
  · rw [decide_eq_false h1, decide_eq_false fun h => h1 h.1]; rfl
/-- the numbers of labels -/
def stoN (k d : Nat) : Int := ((cover_Storage (sch k d)).getD (0, 0)).1
theorem sto_all : ∀ k ∈ [1, 2, 3], ∀ d ∈ List.range 7, cover_Storage (sch k d) = some (stoN k d, 0) ∧ 1 ≤ stoN k d ∧ stoN k d ≤ 22 := by decide +kernel
theorem wst_le : ∀ k ∈ [1, 2, 3], ∀ d ∈ List.range 7, ∀ r ∈ List.range (2 ^ d + 1), 1 ≤ (wst k d r).1 ∧ (wst k d r).1 ≤ 32 := by decide +kernel
/-- a choice of these numbers -/
def mkC (n : TNeed) (k : BitVec 8) (a b c : Int) (l : List Int) : TChoice := ⟨k, decide (c ≤ n.Storage), a, b, 67 + 18 * a + 16 * b, c, n.Headers * n.HeaderPrice * (67 + 18 * a + 16 * b) + n.StoragePrice * c * ((2 ^ n.Depth.toNat : Nat) : Int), l⟩
theorem cost_le {n : TNeed} (h : vnB n = true) {hd c : Int} (h1 : 0 ≤ hd ∧ hd ≤ 1000) (h2 : 0 ≤ c ∧ c ≤ 400) : (0 ≤ n.Headers * n.HeaderPrice ∧ n.Headers * n.HeaderPrice ≤ 1000000) ∧ (0 ≤ n.Headers * n.HeaderPrice * hd ∧ n.Headers * n.HeaderPrice * hd ≤ 1000000000) ∧ (0 ≤ n.StoragePrice * c ∧ n.StoragePrice * c ≤ 400000) ∧ (0 ≤ n.StoragePrice * c * ((2 ^ n.Depth.toNat : Nat) : Int) ∧ n.StoragePrice * c * ((2 ^ n.Depth.toNat : Nat) : Int) ≤ 25600000) := by
  obtain ⟨⟨a1, a2⟩, _, _, ⟨b1, b2⟩, ⟨c1, c2⟩, ⟨d1, d2⟩⟩ := of_decide_eq_true h
  have h64 := pow64 (d := n.Depth.toNat) (by omega)
  have e1 := Int.mul_nonneg b1 c1
  have e2 : n.Headers * n.HeaderPrice ≤ 1000 * 1000 := Int.mul_le_mul b2 c2 c1 (by omega)
  have e3 := Int.mul_nonneg e1 h1.1
  have e4 : n.Headers * n.HeaderPrice * hd ≤ 1000000 * 1000 := Int.mul_le_mul (by omega) h1.2 h1.1 (by omega)
  have e5 := Int.mul_nonneg d1 h2.1
  have e6 : n.StoragePrice * c ≤ 1000 * 400 := Int.mul_le_mul d2 h2.2 h2.1 (by omega)
  have e7 : 0 ≤ n.StoragePrice * c * ((2 ^ n.Depth.toNat : Nat) : Int) := Int.mul_nonneg e5 (by omega)
  have e8 : n.StoragePrice * c * ((2 ^ n.Depth.toNat : Nat) : Int) ≤ 400000 * 64 := Int.mul_le_mul (by omega) (by omega) (by omega) (by omega)
  omega
theorem choose_J1 {n : TNeed} (h : vnB n = true) (k : BitVec 8) {a b c : Int} (ha : 0 ≤ a ∧ a ≤ 32) (hb : 0 ≤ b ∧ b ≤ 8) (hc : 0 ≤ c ∧ c ≤ 400) (l : List Int) : plan_Choose_J1 n k a b c l = some (mkC n k a b c l, 0) := by
  obtain ⟨q1, q2, q3, q4⟩ := cost_le h (hd := 67 + 18 * a + 16 * b) (by omega) hc
  have hd := (of_decide_eq_true h).1
  obtain ⟨d, hd2⟩ : ∃ d : Nat, n.Depth = (d : Int) := ⟨n.Depth.toNat, by omega⟩
  have e1 : w64 (67 + w64 (18 * a)) = 67 + 18 * a := by rw [w64_id (n := 18 * a) (by omega) (by omega), w64_id (by omega) (by omega)]
  have e2 : w64 (w64 (67 + w64 (18 * a)) + w64 (16 * b)) = 67 + 18 * a + 16 * b := by rw [e1, w64_id (n := 16 * b) (by omega) (by omega), w64_id (by omega) (by omega)]
  unfold plan_Choose_J1 mkC
  rw [e2, w64_id (n := n.Headers * n.HeaderPrice) (by omega) (by omega), w64_id (n := n.Headers * n.HeaderPrice * (67 + 18 * a + 16 * b)) (by omega) (by omega), w64_id (n := n.StoragePrice * c) (by omega) (by omega)]
  rw [hd2] at q4 ⊢
  rw [shGn, bind_some]
  unfold shlI
  rw [Int.toNat_natCast] at q4 ⊢
  rw [Nat.min_eq_left (by omega), show (2 : Int) ^ d = ((2 ^ d : Nat) : Int) from by rw [Int.natCast_pow]; rfl, w64_id (n := n.StoragePrice * c * ((2 ^ d : Nat) : Int)) (by omega) (by omega), w64_id (by omega) (by omega)]
/-- the scheme with a polynomial of a need -/
def sch4 (n : TNeed) : TScheme := ⟨4#8, n.Depth, mxI n.Revoked 1, n.Group⟩
/-- the choice for a kind from 1 to 3 -/
def ch3 (n : TNeed) (k : Nat) : TChoice := mkC n (BitVec.ofNat 8 k) (wst k n.Depth.toNat n.Revoked.toNat).1 0 (16 * stoN k n.Depth.toNat) (lst k n.Depth.toNat n.Revoked.toNat)
def ch4 (n : TNeed) : TChoice := if plV (sch4 n) = true then mkC n 4#8 0 (mxI n.Revoked 1) 8 [] else ⟨4#8, false, 0, 0, 0, 0, 0, []⟩
def chN (n : TNeed) (k : Nat) : TChoice := if k = 4 then ch4 n else ch3 n k
def zC : TChoice := ⟨0#8, false, 0, 0, 0, 0, 0, []⟩
theorem choose_no {n : TNeed} (h : vnB n = false) (k : BitVec 8) : plan_Choose n k = some (zC, 2) := by
  unfold plan_Choose
  rw [need_eq, bind_some, h]; rfl
theorem choose_bad {n : TNeed} (h : vnB n = true) {k : BitVec 8} (hk : k < 1#8 ∨ 4#8 < k) : plan_Choose n k = some (zC, 2) := by
  unfold plan_Choose
  rw [need_eq, bind_some, h, if_pos rfl, if_neg (by decide)]
  by_cases h1 : k < 1#8
  · rw [if_pos h1]; rfl
  · rw [if_neg h1, decide_eq_true (hk.resolve_left h1)]; rfl
theorem of8_lt {k : Nat} (hk : k ≤ 4) : (BitVec.ofNat 8 k).toNat = k := by rw [BitVec.toNat_ofNat]; omega
theorem need_nat {n : TNeed} (h : vnB n = true) : ∃ d r : Nat, n.Depth = (d : Int) ∧ n.Revoked = (r : Int) ∧ d ≤ 6 ∧ r ≤ 2 ^ d := by
  obtain ⟨⟨a1, a2⟩, ⟨b1, b2⟩, _⟩ := of_decide_eq_true h
  exact ⟨n.Depth.toNat, n.Revoked.toNat, by omega, by omega, by omega, by omega⟩
theorem choose_ok {n : TNeed} (h : vnB n = true) {k : Nat} (hk : 1 ≤ k ∧ k ≤ 4) : plan_Choose n (BitVec.ofNat 8 k) = some (chN n k, 0) := by
  obtain ⟨d, r, hd, hr, h6, hr2⟩ := need_nat h
  have h64 := pow64 h6
  unfold plan_Choose
  rw [need_eq, bind_some, h, if_pos rfl, if_neg (by decide), if_neg (fun hc => by rw [BitVec.lt_def, of8_lt hk.2] at hc; simp at hc; omega), decide_eq_false (fun hc => by rw [BitVec.lt_def, of8_lt hk.2] at hc; simp at hc; omega)]
  unfold plan_Choose_J2
  rw [cond_false]
  by_cases h4 : k = 4
  · subst h4
    rw [if_pos rfl]
    unfold chN
    rw [if_pos rfl]
    show Option.bind (poly_Check (sch4 n)) _ = _
    rw [pcheck_eq, bind_some]
    unfold ch4
    cases hp : plV (sch4 n) with
    | false => rw [if_neg (show ¬ false = true by simp), if_pos (show (30 : Int) ≠ 0 by decide), if_neg (show ¬ false = true by simp)]
    | true =>
      have hg := plV_deg hp
      have hm : 1 ≤ mxI n.Revoked 1 ∧ mxI n.Revoked 1 ≤ 8 := hg.2.2.2
      rw [if_pos (show true = true from rfl), if_neg (show ¬ (0 : Int) ≠ 0 by decide), if_pos (show true = true from rfl)]
      exact choose_J1 h _ (by omega) (by omega) (by omega) _
  · have hk3 : 1 ≤ k ∧ k ≤ 3 := by omega
    rw [if_neg (fun hc => by have := congrArg BitVec.toNat hc; rw [of8_lt hk.2] at this; simp at this; omega)]
    unfold chN
    rw [if_neg h4]
    have hs : (TScheme.mk (BitVec.ofNat 8 k) n.Depth 0 (TGroup.mk 0#64 0#64 0#64)) = sch k d := by rw [hd]; rfl
    obtain ⟨hkm, hdm⟩ := kd_mem hk3 h6
    obtain ⟨s0, s1, s2⟩ := sto_all k hkm d hdm
    obtain ⟨w1, w2⟩ := wst_le k hkm d hdm r (List.mem_range.2 (by omega))
    rw [hs, nt hk3 h6, bind_some, s0, bind_some, hr, worst_tb hk3 h6 hr2, bind_some]
    rw [show n.Depth = (d : Int) from hd, (list_tb hk3 h6 hr2).1, bind_some]
    simp only
    rw [w64_id (n := 16 * stoN k d) (by omega) (by omega), choose_J1 h _ (by omega) (by omega) (by omega)]
    unfold ch3
    rw [hd, hr, Int.toNat_natCast, Int.toNat_natCast]
/-- the best one so far, and its cost -/
def bs2 (b : BitVec 8 × Int) (k : BitVec 8) (c : TChoice) : BitVec 8 × Int := if c.Fits = true ∧ (b.1 = 0#8 ∨ c.Cost < b.2) then (k, c.Cost) else b
/-- of a list of choices, one is the best so far -/
def BsI (l : List TChoice) (b : BitVec 8 × Int) : Prop := (b.1 = 0#8 ∧ ∀ c ∈ l, c.Fits = false) ∨ ∃ i, ∃ h : i < l.length, b.1 = BitVec.ofNat 8 (i + 1) ∧ l[i].Fits = true ∧ l[i].Cost = b.2 ∧ ∀ j (hj : j < l.length), l[j].Fits = true → b.2 ≤ l[j].Cost ∧ (l[j].Cost = b.2 → i ≤ j)
theorem bs_nil : BsI [] (0#8, 0) := .inl ⟨rfl, nofun⟩
theorem bs_snoc {l : List TChoice} {b : BitVec 8 × Int} (h : BsI l b) (hl : l.length < 100) (c : TChoice) : BsI (l ++ [c]) (bs2 b (BitVec.ofNat 8 (l.length + 1)) c) := by
  unfold bs2
  rcases h with ⟨h1, h2⟩ | ⟨i, hi, h1, h2, h3, h4⟩
  · cases hf : c.Fits with
    | false =>
      rw [if_neg (by simp)]
      refine .inl ⟨h1, fun x hx => ?_⟩
      rcases List.mem_append.1 hx with hx | hx
      · exact h2 x hx
      · rw [List.mem_singleton.1 hx]; exact hf
    | true =>
      rw [if_pos ⟨rfl, .inl h1⟩]
      refine .inr ⟨l.length, by simp, rfl, by simpa using hf, by simp, fun j hj hjf => ?_⟩
      rw [List.length_append, List.length_singleton] at hj
      by_cases hjl : j < l.length
      · rw [List.getElem_append_left hjl, h2 _ (List.getElem_mem hjl)] at hjf; cases hjf
      · obtain rfl : j = l.length := by omega
        simp
  · have hb0 : b.1 ≠ 0#8 := by rw [h1]; intro hc; have := congrArg BitVec.toNat hc; rw [BitVec.toNat_ofNat] at this; simp at this; omega
    by_cases hc : c.Fits = true ∧ (b.1 = 0#8 ∨ c.Cost < b.2)
    · rw [if_pos hc]
      have hlt := hc.2.resolve_left hb0
      refine .inr ⟨l.length, by simp, rfl, by simpa using hc.1, by simp, fun j hj hjf => ?_⟩
      rw [List.length_append, List.length_singleton] at hj
      by_cases hjl : j < l.length
      · rw [List.getElem_append_left hjl] at hjf ⊢
        have := (h4 j hjl hjf).1
        simp only
        exact ⟨by omega, fun he => by omega⟩
      · obtain rfl : j = l.length := by omega
        simp
    · rw [if_neg hc]
      refine .inr ⟨i, by rw [List.length_append]; omega, h1, by rw [List.getElem_append_left hi]; exact h2, by rw [List.getElem_append_left hi]; exact h3, fun j hj hjf => ?_⟩
      rw [List.length_append, List.length_singleton] at hj
      by_cases hjl : j < l.length
      · rw [List.getElem_append_left hjl] at hjf ⊢; exact h4 j hjl hjf
      · obtain rfl : j = l.length := by omega
        rw [List.getElem_append_right (by omega)] at hjf ⊢
        simp only [Nat.sub_self, List.getElem_singleton] at hjf ⊢
        have : ¬ c.Cost < b.2 := fun hx => hc ⟨hjf, .inr hx⟩
        exact ⟨by omega, fun _ => by omega⟩
theorem make_step {n : TNeed} (h : vnB n = true) (rec : BitVec 8 × List TChoice × BitVec 8 → Option (TPlan × Int)) {l : List TChoice} {b : BitVec 8 × Int} (hb : BsI l b) (hl : l.length < 4) : plan_Make_L1 n rec (BitVec.ofNat 8 (l.length + 1), l, b.1) = rec (BitVec.ofNat 8 (l.length + 2), l ++ [chN n (l.length + 1)], (bs2 b (BitVec.ofNat 8 (l.length + 1)) (chN n (l.length + 1))).1) := by
  unfold plan_Make_L1
  simp only
  rw [if_pos (by rw [BitVec.le_def, of8_lt (by omega)]; simp; omega), choose_ok h (by omega), bind_some, if_neg (by simp), appG_some (by simp; omega), bind_some]
  generalize chN n (l.length + 1) = c
  have hk : BitVec.ofNat 8 (l.length + 1) + 1#8 = BitVec.ofNat 8 (l.length + 2) := by apply BitVec.eq_of_toNat_eq; simp
  unfold plan_Make_J2 bs2
  rw [hk]
  simp only
  cases hf : c.Fits with
  | false => rw [cond_false, cond_false, if_neg (by simp)]
  | true =>
    rw [cond_true]
    rcases hb with ⟨h1, h2⟩ | ⟨i, hi, h1, h2, h3, h4⟩
    · rw [if_pos h1, if_pos ⟨rfl, .inl h1⟩, cond_true]
    · have hb0 : b.1 ≠ 0#8 := by rw [h1]; intro hc; have := congrArg BitVec.toNat hc; rw [BitVec.toNat_ofNat] at this; simp at this; omega
      rw [if_neg hb0]
      have hg : getI (l ++ [c]) (un8 (b.1 - 1#8)) = some l[i] := by
        have : un8 (b.1 - 1#8) = (i : Int) := by
          unfold un8; rw [h1, BitVec.toNat_sub, BitVec.toNat_ofNat]; simp; omega
        rw [this, getI_some (by rw [List.length_append]; omega), List.getElem_append_left hi]
      rw [hg, bind_some, h3]
      by_cases hlt : c.Cost < b.2
      · rw [decide_eq_true hlt, cond_true, if_pos ⟨rfl, .inr hlt⟩]
      · rw [decide_eq_false hlt, cond_false, if_neg fun hc => hlt (hc.2.resolve_left hb0)]
def bestP (n : TNeed) : BitVec 8 × Int := bs2 (bs2 (bs2 (bs2 (0#8, 0) 1#8 (chN n 1)) 2#8 (chN n 2)) 3#8 (chN n 3)) 4#8 (chN n 4)
def chs (n : TNeed) : List TChoice := [chN n 1, chN n 2, chN n 3, chN n 4]
def plP (n : TNeed) : TPlan := ⟨chs n, (bestP n).1⟩
theorem make_ok {n : TNeed} (h : vnB n = true) : plan_Make n = some (plP n, 0) := by
  unfold plan_Make
  have h1 := bs_snoc bs_nil (by simp) (chN n 1)
  have h2 := bs_snoc h1 (by simp) (chN n 2)
  have h3 := bs_snoc h2 (by simp) (chN n 3)
  rw [F5, fix_step, show (1#8, ([] : List TChoice), 0#8) = (BitVec.ofNat 8 (([] : List TChoice).length + 1), [], (0#8, (0 : Int)).1) from rfl, make_step h _ bs_nil (by simp)]
  rw [fix_step]
  refine (make_step h _ h1 (by simp)).trans ?_
  rw [fix_step]
  refine (make_step h _ h2 (by simp)).trans ?_
  rw [fix_step]
  refine (make_step h _ h3 (by simp)).trans ?_
  rw [fix_step]
  rfl
theorem make_no {n : TNeed} (h : vnB n = false) : plan_Make n = some (⟨[], 0#8⟩, 2) := by
  unfold plan_Make
  rw [F5, fix_step]
  unfold plan_Make_L1
  simp only
  rw [if_pos (by decide), choose_no h, bind_some]; rfl
end Go.Sx.Pn

end
section
set_option linter.unusedVariables false
set_option linter.unusedSimpArgs false
set_option maxRecDepth 100000
namespace Go.Sx.Pn
open Go Go.Sx
def rwS (k d st : Nat) : List Int := match st with
  | 0 => (tb k d).rows.a0
  | 1 => (tb k d).rows.a1
  | 2 => (tb k d).rows.a2
  | _ => (tb k d).rows.a3
/-- the tables, aas lists of lists -/
def ts (k d : Nat) : List (List (List Int)) := (List.range (if k = 1 then 1 else if k = 2 then 2 else 4)).map fun st => (List.range (d + 1)).map fun h => ((rwS k d st).drop (2 ^ h - 1 + h)).take (2 ^ h + 1)
theorem rtabs_all : ∀ k ∈ [1, 2, 3], ∀ d ∈ List.range 7, ref10_TablesOf (sch k d) = some (ts k d) := by decide +kernel
theorem rtables_ok {k d : Nat} (hk : 1 ≤ k ∧ k ≤ 3) (hd : d ≤ 6) : ref10_TablesOf (sch k d) = some (ts k d) := by
  obtain ⟨h1, h2⟩ := kd_mem hk hd
  exact rtabs_all k h1 d h2
theorem rvld_eq (s : TScheme) : ref03_Valid s = some (vldB s) := by
  unfold ref03_Valid vldB zG
  by_cases h1 : 1#8 ≤ s.Kind
  · by_cases h2 : s.Kind ≤ 3#8
    · by_cases h3 : 0 ≤ s.Depth
      · by_cases h4 : s.Depth ≤ 6
        · by_cases h5 : s.Degree = 0
          · simp [h1, h2, h3, h4, h5]
          · simp [h1, h2, h3, h4, h5]
        · simp [h1, h2, h3, h4]
      · simp [h1, h2, h3]
    · simp [h1, h2]
  · simp [h1]
theorem rcheck_eq (s : TScheme) : ref03_Check s = some (if vldB s then 0 else 30) := by
  unfold ref03_Check
  rw [rvld_eq, bind_some]
  cases vldB s <;> rfl
/-- a comparison of two lists, item by item -/
theorem same_loop {α : Type} [DecidableEq α] {p q : List α} (hl : p.length = q.length) (hs : q.length < 1000000) {F : (Int → Option Bool) → Int → Option Bool} {D : Option Bool}
    (hF : ∀ rec (i : Nat) (h : i < p.length), F rec (i : Int) = if p[i] = q[i] then rec (((i + 1 : Nat)) : Int) else some false) (he : ∀ rec, F rec (p.length : Int) = D) :
    ∀ (k i f : Nat), p.length - i = k → i ≤ p.length → k < f → fixN F f (i : Int) = if p.drop i = q.drop i then D else some false
  | k, i, 0, _, _, hf => by omega
  | k, i, f + 1, hk, hi, hf => by
    rw [fix_step]
    by_cases h : i < p.length
    · rw [hF _ i h]
      have h2 : i < q.length := by omega
      rw [List.drop_eq_getElem_cons h, List.drop_eq_getElem_cons h2]
      by_cases hh : p[i] = q[i]
      · rw [if_pos hh, same_loop hl hs hF he (k - 1) (i + 1) f (by omega) (by omega) (by omega), hh]
        by_cases h3 : p.drop (i + 1) = q.drop (i + 1)
        · rw [if_pos h3, if_pos (by rw [h3])]
        · rw [if_neg h3, if_neg (fun e => h3 (List.cons.inj e).2)]
      · rw [if_neg hh, if_neg (fun e => hh (List.cons.inj e).1)]
    · obtain rfl : i = p.length := by omega
      rw [he, List.drop_length, hl, List.drop_length, if_pos rfl]
theorem same_all {α : Type} [DecidableEq α] {p q : List α} (hl : p.length = q.length) (hs : q.length < 1000000) {F : (Int → Option Bool) → Int → Option Bool} {D : Option Bool}
    (hF : ∀ rec (i : Nat) (h : i < p.length), F rec (i : Int) = if p[i] = q[i] then rec (((i + 1 : Nat)) : Int) else some false) (he : ∀ rec, F rec (p.length : Int) = D) :
    fixN F FUEL 0 = if p = q then D else some false := by
  have := same_loop hl hs hF he _ 0 FUEL rfl (by omega) (fuel_lt (by omega))
  simpa using this
theorem len_ne {α : Type} {p q : List α} (h : ¬ p.length = q.length) : ¬ p = q := fun e => h (by rw [e])
theorem ite_dec {p : Prop} [Decidable p] : (if p then some true else some false) = some (decide p) := by by_cases h : p <;> simp [h]
theorem w64_ix {i : Nat} (h : i < 1000000) : w64 ((i : Int) + 1) = ((i + 1 : Nat) : Int) := by rw [w64_id (by omega) (by omega)]; rfl
theorem sints_eq (p q : List Int) (hs : q.length < 1000000) : ref03_SameInts p q = some (decide (p = q)) := by
  unfold ref03_SameInts
  by_cases hl : p.length = q.length
  · rw [if_neg (by omega), same_all hl hs (D := some true) (fun rec i h => ?_) (fun rec => ?_), ite_dec]
    · unfold ref03_SameInts_L1
      rw [if_pos (by omega), getI_some h, bind_some, getI_some (show i < q.length by omega), bind_some, w64_ix (by omega)]
      by_cases hh : p[i] = q[i]
      · rw [if_neg (by simp [hh]), if_pos hh]
      · rw [if_pos hh, if_neg hh]
    · unfold ref03_SameInts_L1; rw [if_neg (by omega)]
  · rw [if_pos (by omega), decide_eq_false (len_ne hl)]
end Go.Sx.Pn

end
section
set_option linter.unusedVariables false
set_option linter.unusedSimpArgs false
set_option maxRecDepth 100000
namespace Go.Sx.Pn
open Go Go.Sx
theorem rgreat_all : ∀ k ∈ [1, 2, 3], ∀ d ∈ List.range 7, ∀ r ∈ List.range (2 ^ d + 1), ref10_greatest (sch k d) (ts k d) (r : Int) = some (wst k d r) := by decide +kernel
theorem rlist_all : ∀ k ∈ [1, 2, 3], ∀ d ∈ List.range 7, ∀ x ∈ ll k d, ref10_listed (sch k d) (ts k d) 1 0 (d : Int) x.1 = some x.2.1 := by decide +kernel
theorem rrecv_all : ∀ d ∈ List.range 7, ref03_Receivers (d : Int) = some ((2 ^ d : Nat) : Int) := by decide +kernel
theorem rrecv_eq {d : Nat} (h : d ≤ 6) : ref03_Receivers (d : Int) = some ((2 ^ d : Nat) : Int) := rrecv_all d (List.mem_range.2 (by omega))
section
variable {k d r : Nat}
theorem rasked_eq (hk : 1 ≤ k ∧ k ≤ 3) (hd : d ≤ 6) (q : Int) : ref10_asked (sch k d) q = some (if q < 0 ∨ ((2 ^ d : Nat) : Int) < q then 2 else 0) := by
  unfold ref10_asked
  rw [rcheck_eq, bind_some, sch_vld hk hd, if_pos rfl, if_neg (by decide)]
  show (if q < 0 then ref10_asked_J1 true else Option.bind (ref03_Receivers (d : Int)) fun x3 => ref10_asked_J1 (decide (x3 < q))) = _
  rw [rrecv_eq hd, bind_some]
  by_cases h1 : q < 0
  · rw [if_pos h1, if_pos (.inl h1)]; rfl
  · rw [if_neg h1]
    by_cases h2 : ((2 ^ d : Nat) : Int) < q
    · rw [decide_eq_true h2, if_pos (.inr h2)]; rfl
    · rw [decide_eq_false h2, if_neg (by omega)]; rfl
theorem rgreat (hk : 1 ≤ k ∧ k ≤ 3) (hd : d ≤ 6) (hr : r ≤ 2 ^ d) : ref10_greatest (sch k d) (ts k d) (r : Int) = some (wst k d r) := by
  obtain ⟨h1, h2⟩ := kd_mem hk hd
  exact rgreat_all k h1 d h2 r (List.mem_range.2 (by omega))
theorem rwitof (hk : 1 ≤ k ∧ k ≤ 3) (hd : d ≤ 6) (hr : r ≤ 2 ^ d) : ref10_WitnessOf (sch k d) (r : Int) = some (lst k d r) := by
  obtain ⟨h1, h2⟩ := kd_mem hk hd
  obtain ⟨_, h3, _⟩ := list_tb hk hd hr
  unfold ref10_WitnessOf
  rw [rtables_ok hk hd, bind_some, rgreat hk hd hr, bind_some]
  show Option.bind (ref10_listed (sch k d) (ts k d) 1 0 (d : Int) (wst k d r).2) _ = _
  rw [rlist_all k h1 d h2 _ h3, bind_some]
theorem rworst_ok (hk : 1 ≤ k ∧ k ≤ 3) (hd : d ≤ 6) (hr : r ≤ 2 ^ d) : ref10_Worst (sch k d) (r : Int) = some ((wst k d r).1, 0) := by
  unfold ref10_Worst
  rw [rasked_eq hk hd, bind_some, if_neg (by omega), rtables_ok hk hd, bind_some, rgreat hk hd hr, bind_some]
end
theorem lst_len {k d r : Nat} (hk : 1 ≤ k ∧ k ≤ 3) (hd : d ≤ 6) (hr : r ≤ 2 ^ d) : (lst k d r).length < 1000000 := by
  have := (list_tb hk hd hr).2.2
  have := pow64 hd
  omega
end Go.Sx.Pn

end
section
set_option linter.unusedVariables false
set_option linter.unusedSimpArgs false
set_option maxRecDepth 100000
namespace Go.Sx.Po
open Go
theorem isPrime_eq {n : Nat} (hn : n ≤ 1048575) : ∃ b, ref01_IsPrime (bn n) = some b ∧ (b = true ↔ Prm n) := by
  obtain ⟨b, e1, e2⟩ := prime_loop (n := n) hn (decide (2#64 ≤ bn n)) (ref01_IsPrime_L1 (bn n)) (fun rec a => rfl) 1023 2 FUEL (by omega) (fuel_lt (by omega)) (by omega)
  refine ⟨b, e1, ?_⟩
  rw [e2, decide_eq_true_eq, show (2#64) = bn 2 from rfl, bn_le (by omega) (by omega)]; rfl
theorem rpower_loop {m : Nat} (hm : 0 < m) (hm2 : m < 4294967296) : ∀ (k n x o f : Nat), n < 2 ^ k → k ≤ 64 → k < f → x < m → o < m → fixN (ref01_Power_L1 (bn m)) f (bn n, bn o, bn x) = some (bn (o * x ^ n % m))
  | k, n, x, o, 0, _, _, h, _, _ => by omega
  | 0, n, x, o, f + 1, hn, _, _, hx, ho => by
    obtain rfl : n = 0 := by simp at hn; exact hn
    rw [fix_step]; simp only [ref01_Power_L1]
    rw [if_neg (by decide), Nat.pow_zero, Nat.mul_one, Nat.mod_eq_of_lt ho]
  | k + 1, n, x, o, f + 1, hn, hk, hf, hx, ho => by
    have hn64 : n < 18446744073709551616 := Nat.lt_of_lt_of_le hn (Nat.le_trans (Nat.pow_le_pow_right (by omega) hk) (by decide))
    have hxx : x * x < 18446744073709551616 := Nat.lt_of_le_of_lt (Nat.mul_le_mul (Nat.le_of_lt hx) (Nat.le_of_lt hx)) (by have := Nat.mul_lt_mul'' hm2 hm2; omega)
    have hox : o * x < 18446744073709551616 := Nat.lt_of_le_of_lt (Nat.mul_le_mul (Nat.le_of_lt ho) (Nat.le_of_lt hx)) (by have := Nat.mul_lt_mul'' hm2 hm2; omega)
    rw [fix_step]; simp only [ref01_Power_L1]
    by_cases h0 : n = 0
    · subst h0
      rw [if_neg (by decide), Nat.pow_zero, Nat.mul_one, Nat.mod_eq_of_lt ho]
    · unfold ref01_Power_J2
      rw [if_pos ((bn_lt (a := 0) (by omega) hn64).2 (by omega)), show (2#64) = bn 2 from rfl, remU_bn hn64 (by omega) (by omega), bn_mul, bn_mul, remU_bn hxx hm (by omega), remU_bn hox hm (by omega), quoU_bn hn64 (by omega) (by omega), pow_step]
      simp only [bind_some]
      have hlt : n / 2 < 2 ^ k := by rw [Nat.pow_succ] at hn; omega
      have h1 := Nat.mod_lt (x * x) hm
      have h2 := Nat.mod_lt (o * x) hm
      by_cases hodd : n % 2 = 1
      · rw [if_pos (by rw [hodd]), if_pos hodd]
        exact rpower_loop hm hm2 k (n / 2) _ _ f hlt (by omega) (by omega) h1 h2
      · rw [if_neg (fun h => hodd ((bn_inj (b := 1) (by omega) (by omega)).1 h)), if_neg hodd]
        exact rpower_loop hm hm2 k (n / 2) _ _ f hlt (by omega) (by omega) h1 ho
theorem rpower_eq {b n m : Nat} (hb : b < 18446744073709551616) (hn : n < 18446744073709551616) (hm : 0 < m) (hm2 : m < 4294967296) : ref01_Power (bn b) (bn n) (bn m) = some (bn (b ^ n % m)) := by
  unfold ref01_Power
  rw [show (1#64) = bn 1 from rfl, remU_bn (by omega) hm (by omega), bind_some, remU_bn hb hm (by omega), bind_some, rpower_loop hm hm2 64 n _ _ FUEL (by omega) (by omega) (fuel_lt (by omega)) (Nat.mod_lt _ hm) (Nat.mod_lt _ hm), Nat.mod_mul_mod, Nat.one_mul, ← Nat.pow_mod]
def GrpOk (p q g : Nat) : Prop := (p ≤ 1048575 ∧ Prm p) ∧ (q ≤ 1048575 ∧ Prm q) ∧ (p - 1) % q = 0 ∧ 2 ≤ g ∧ g < p ∧ g ^ q % p = 1
theorem group_eq {p q g : Nat} (hp : p < 18446744073709551616) (hq : q < 18446744073709551616) (hg : g < 18446744073709551616) :
    ∃ b, number_CheckGroup ⟨bn p, bn q, bn g⟩ = some (if b = true then 0 else 13) ∧ ref01_ValidGroup ⟨bn p, bn q, bn g⟩ = some b ∧ (b = true ↔ GrpOk p q g) := by
  obtain ⟨b1, e1, i1⟩ := prime_eq hp
  obtain ⟨b2, e2, i2⟩ := prime_eq hq
  unfold number_CheckGroup ref01_ValidGroup
  simp only
  rw [e1, bind_some, show (1048575#64) = bn 1048575 from rfl]
  have no : ∀ (h : ¬ GrpOk p q g), (false = true ↔ GrpOk p q g) := fun h => ⟨(fun e => by cases e), fun e => absurd e h⟩
  by_cases hP : p ≤ 1048575 ∧ Prm p
  · have c0 : ¬ bn 1048575 < bn p := fun h => by have := (bn_lt (by omega) hp).1 h; omega
    rw [i1.2 hP, if_neg c0]
    obtain ⟨c1, f1, j1⟩ := isPrime_eq hP.1
    rw [f1, bind_some, j1.2 hP.2]
    simp only [Bool.not_true, cond_false]
    rw [e2, bind_some]
    by_cases hQ : q ≤ 1048575 ∧ Prm q
    · have c0' : ¬ bn 1048575 < bn q := fun h => by have := (bn_lt (by omega) hq).1 h; omega
      rw [i2.2 hQ, if_neg c0']
      obtain ⟨c2, f2, j2⟩ := isPrime_eq hQ.1
      rw [f2, bind_some, j2.2 hQ.2]
      simp only [Bool.not_true, cond_false]
      have hp2 := hP.2.1
      have hq2 := hQ.2.1
      rw [show (1#64) = bn 1 from rfl, bn_sub hp (by omega), remU_bn (by omega) (by omega) hq, bind_some, bind_some]
      have hmod := Nat.mod_lt (p - 1) (show 0 < q by omega)
      unfold number_CheckGroup_J1 ref01_ValidGroup_J1
      simp only
      by_cases hz : (p - 1) % q = 0
      · rw [hz, if_neg (by simp), decide_eq_false (by simp), cond_false, show (2#64) = bn 2 from rfl]
        by_cases h2 : 2 ≤ g
        · have c3 : ¬ bn g < bn 2 := fun h => by have := (bn_lt hg (by omega)).1 h; omega
          have c4 : bn 2 ≤ bn g := (bn_le (by omega) hg).2 h2
          rw [if_neg c3, if_pos c4]
          by_cases h3 : g < p
          · have c5 : ¬ bn p ≤ bn g := fun h => by have := (bn_le hp hg).1 h; omega
            have c6 : bn g < bn p := (bn_lt hg hp).2 h3
            rw [if_neg c5, if_pos c6, power_eq hg hq (by omega) (by omega), rpower_eq hg hq (by omega) (by omega), bind_some, bind_some]
            have hpm := Nat.mod_lt (g ^ q) (show 0 < p by omega)
            have hone : bn (g ^ q % p) = bn 1 ↔ g ^ q % p = 1 := bn_inj (by omega) (by omega)
            refine ⟨decide (bn (g ^ q % p) = bn 1), ?_, rfl, ?_⟩
            · by_cases h4 : bn (g ^ q % p) = bn 1
              · rw [decide_eq_false (by simpa using h4), decide_eq_true h4]; rfl
              · rw [decide_eq_true h4, decide_eq_false h4]; rfl
            · rw [decide_eq_true_eq, hone]
              exact ⟨fun h => ⟨hP, hQ, hz, h2, h3, h⟩, fun h => h.2.2.2.2.2⟩
          · have c5 : bn p ≤ bn g := (bn_le hp hg).2 (by omega)
            have c6 : ¬ bn g < bn p := fun h => h3 ((bn_lt hg hp).1 h)
            rw [if_pos c5, if_neg c6]
            exact ⟨false, rfl, rfl, no fun h => h3 h.2.2.2.2.1⟩
        · have c3 : bn g < bn 2 := (bn_lt hg (by omega)).2 (by omega)
          have c4 : ¬ bn 2 ≤ bn g := fun h => h2 ((bn_le (by omega) hg).1 h)
          rw [if_pos c3, if_neg c4]
          exact ⟨false, rfl, rfl, no fun h => h2 h.2.2.2.1⟩
      · have hz' : bn ((p - 1) % q) ≠ 0#64 := fun h => hz ((bn_inj (b := 0) (by omega) (by omega)).1 h)
        rw [if_pos hz', decide_eq_true hz']
        exact ⟨false, rfl, rfl, no fun h => hz h.2.2.1⟩
    · have hb2 : b2 = false := by cases b2 with | false => rfl | true => exact absurd (i2.1 rfl) hQ
      rw [hb2]
      refine ⟨false, rfl, ?_, no fun h => hQ h.2.1⟩
      by_cases hg' : 1048575 < q
      · have c0' : bn 1048575 < bn q := (bn_lt (by omega) hq).2 hg'
        rw [if_pos c0']; rfl
      · have c0' : ¬ bn 1048575 < bn q := fun h => hg' ((bn_lt (by omega) hq).1 h)
        rw [if_neg c0']
        obtain ⟨c2, f2, j2⟩ := isPrime_eq (n := q) (by omega)
        have : c2 = false := by cases c2 with | false => rfl | true => exact absurd ⟨by omega, j2.1 rfl⟩ hQ
        rw [f2, bind_some, this]; rfl
  · have hb1 : b1 = false := by cases b1 with | false => rfl | true => exact absurd (i1.1 rfl) hP
    rw [hb1]
    refine ⟨false, rfl, ?_, no fun h => hP h.1⟩
    by_cases hg' : 1048575 < p
    · have c0 : bn 1048575 < bn p := (bn_lt (by omega) hp).2 hg'
      rw [if_pos c0]; rfl
    · have c0 : ¬ bn 1048575 < bn p := fun h => hg' ((bn_lt (by omega) hp).1 h)
      rw [if_neg c0]
      obtain ⟨c1, f1, j1⟩ := isPrime_eq (n := p) (by omega)
      have : c1 = false := by cases c1 with | false => rfl | true => exact absurd ⟨by omega, j1.1 rfl⟩ hP
      rw [f1, bind_some, this]; rfl
theorem recv_fin : ∀ d : Fin 7, ref03_Receivers (d.1 : Int) = some ((2 ^ d.1 : Nat) : Int) := by decide +kernel
theorem recv_eq {d : Nat} (h : d ≤ 6) : ref03_Receivers (d : Int) = some ((2 ^ d : Nat) : Int) := recv_fin ⟨d, by omega⟩
theorem shl_fin : ∀ d : Fin 7, shlI 1 d.1 = ((2 ^ d.1 : Nat) : Int) := by decide +kernel
theorem shl1 {d : Nat} (h : d ≤ 6) : shlI 1 d = ((2 ^ d : Nat) : Int) := shl_fin ⟨d, by omega⟩
theorem shG_nat (n : Nat) : shG (n : Int) = some n := by unfold shG; rw [if_pos (by omega)]; rfl
theorem pow_le64 {d : Nat} (h : d ≤ 6) : 2 ^ d ≤ 64 := Nat.le_trans (Nat.pow_le_pow_right (by omega) h) (by decide)
theorem wd_nat (n : Nat) : wd (n : Int) = bn n := by unfold wd bn; exact BitVec.ofInt_natCast 64 n
structure Vld (s : TScheme) (d t p q g : Nat) : Prop where
  kind : s.Kind = 4#8
  depth : s.Depth = (d : Int)
  deg : s.Degree = (t : Int)
  d6 : d ≤ 6
  t1 : 1 ≤ t
  t8 : t ≤ 8
  grp : s.Group = ⟨bn p, bn q, bn g⟩
  ok : GrpOk p q g
  big : 2 ^ d + t < q
theorem valid_eq (s : TScheme) : (poly_valid s = some false ∧ ref04_Valid s = some false) ∨ (poly_valid s = some true ∧ ref04_Valid s = some true ∧ ∃ d t p q g, Vld s d t p q g) := by
  obtain ⟨kd, dp, dg, ⟨P, Q, G⟩⟩ := s
  obtain ⟨p, hp, rfl⟩ := bn_of P
  obtain ⟨q, hq, rfl⟩ := bn_of Q
  obtain ⟨g, hg, rfl⟩ := bn_of G
  unfold poly_valid ref04_Valid ref04_Valid_J1
  simp only
  by_cases h1 : kd = 4#8
  · rw [if_pos h1, if_neg (show ¬ kd ≠ 4#8 from fun h => h h1)]
    by_cases h2 : 0 ≤ dp
    · rw [if_pos h2, if_neg (show ¬ dp < 0 by omega)]
      by_cases h3 : dp ≤ 6
      · rw [if_pos h3, if_neg (show ¬ 6 < dp by omega)]
        by_cases h4 : 1 ≤ dg
        · rw [if_pos h4, if_neg (show ¬ dg < 1 by omega)]
          by_cases h5 : dg ≤ 8
          · rw [if_pos h5, if_neg (show ¬ 8 < dg by omega)]
            obtain ⟨b, e1, e2, i⟩ := group_eq hp hq hg
            rw [e1, e2, bind_some, bind_some]
            cases b with
            | false => exact .inl ⟨rfl, rfl⟩
            | true =>
              obtain ⟨d, rfl⟩ : ∃ d : Nat, dp = (d : Int) := ⟨dp.toNat, by omega⟩
              obtain ⟨t, rfl⟩ : ∃ t : Nat, dg = (t : Int) := ⟨dg.toNat, by omega⟩
              have h64 := pow_le64 (d := d) (by omega)
              have hpp := Nat.two_pow_pos d
              simp only [Bool.not_true, cond_false, if_true]
              rw [shG_nat, bind_some, recv_eq (by omega), bind_some, shl1 (by omega), w64_id (by omega) (by omega), show ((2 ^ d : Nat) : Int) + (t : Int) = ((2 ^ d + t : Nat) : Int) from by omega, wd_nat]
              by_cases hlt : 2 ^ d + t < q
              · rw [decide_eq_true ((bn_lt (by omega) hq).2 hlt)]
                exact .inr ⟨rfl, rfl, d, t, p, q, g, ⟨h1, rfl, rfl, by omega, by omega, by omega, rfl, i.1 rfl, hlt⟩⟩
              · rw [decide_eq_false (fun h => hlt ((bn_lt (by omega) hq).1 h))]; exact .inl ⟨rfl, rfl⟩
          · rw [if_neg h5, if_pos (show 8 < dg by omega)]; exact .inl ⟨rfl, rfl⟩
        · rw [if_neg h4, if_pos (show dg < 1 by omega)]; exact .inl ⟨rfl, rfl⟩
      · rw [if_neg h3, if_pos (show 6 < dp by omega)]; exact .inl ⟨rfl, rfl⟩
    · rw [if_neg h2, if_pos (show dp < 0 by omega)]; exact .inl ⟨rfl, rfl⟩
  · rw [if_neg h1, if_pos (show kd ≠ 4#8 from h1)]; exact .inl ⟨rfl, rfl⟩
end Go.Sx.Po

end
section
set_option linter.unusedVariables false
set_option linter.unusedSimpArgs false
set_option maxRecDepth 100000
namespace Go.Sx.Pn
open Go Go.Sx Go.Sx.Po
theorem rneed_eq (n : TNeed) : ref10_ValidNeed n = some (vnB n) := by
  unfold ref10_ValidNeed
  by_cases h1 : 0 ≤ n.Depth ∧ n.Depth ≤ 6
  · obtain ⟨d, hd⟩ : ∃ d : Nat, n.Depth = (d : Int) := ⟨n.Depth.toNat, by omega⟩
    rw [if_neg (by omega), if_neg (by omega)]
    unfold vnB
    rw [hd, rrecv_eq (by omega), Int.toNat_natCast, bind_some]
    by_cases h2 : 0 ≤ n.Revoked ∧ n.Revoked ≤ ((2 ^ d : Nat) : Int)
    · rw [if_neg (by omega), if_neg (by omega)]
      by_cases h3 : 0 ≤ n.Storage ∧ n.Storage ≤ 10000
      · rw [if_neg (by omega), decide_eq_false (by omega)]
        unfold ref10_ValidNeed_J1
        rw [cond_false]
        by_cases a1 : 0 ≤ n.Headers
        · by_cases a2 : n.Headers ≤ 1000
          · by_cases a3 : 0 ≤ n.HeaderPrice
            · by_cases a4 : n.HeaderPrice ≤ 1000
              · by_cases a5 : 0 ≤ n.StoragePrice
                · rw [if_pos a1, if_pos a2, if_pos a3, if_pos a4, if_pos a5]
                  by_cases a6 : n.StoragePrice ≤ 1000
                  · rw [decide_eq_true a6, decide_eq_true (by omega)]
                  · rw [decide_eq_false a6, decide_eq_false (by omega)]
                · rw [if_pos a1, if_pos a2, if_pos a3, if_pos a4, if_neg a5, decide_eq_false (by omega)]
              · rw [if_pos a1, if_pos a2, if_pos a3, if_neg a4, decide_eq_false (by omega)]
            · rw [if_pos a1, if_pos a2, if_neg a3, decide_eq_false (by omega)]
          · rw [if_pos a1, if_neg a2, decide_eq_false (by omega)]
        · rw [if_neg a1, decide_eq_false (by omega)]
      · rw [decide_eq_false (show ¬ ((0 ≤ (d : Int) ∧ (d : Int) ≤ 6) ∧ (0 ≤ n.Revoked ∧ n.Revoked ≤ ((2 ^ d : Nat) : Int)) ∧ (0 ≤ n.Storage ∧ n.Storage ≤ 10000) ∧ (0 ≤ n.Headers ∧ n.Headers ≤ 1000) ∧ (0 ≤ n.HeaderPrice ∧ n.HeaderPrice ≤ 1000) ∧ (0 ≤ n.StoragePrice ∧ n.StoragePrice ≤ 1000)) from fun h => h3 h.2.2.1)]
        by_cases h4 : n.Storage < 0
        · rw [if_pos h4]; rfl
        · rw [if_neg h4, decide_eq_true (by omega)]; rfl
    · rw [decide_eq_false (show ¬ ((0 ≤ (d : Int) ∧ (d : Int) ≤ 6) ∧ (0 ≤ n.Revoked ∧ n.Revoked ≤ ((2 ^ d : Nat) : Int)) ∧ (0 ≤ n.Storage ∧ n.Storage ≤ 10000) ∧ (0 ≤ n.Headers ∧ n.Headers ≤ 1000) ∧ (0 ≤ n.HeaderPrice ∧ n.HeaderPrice ≤ 1000) ∧ (0 ≤ n.StoragePrice ∧ n.StoragePrice ≤ 1000)) from fun h => h2 h.2.1)]
      by_cases h4 : n.Revoked < 0
      · rw [if_pos h4]; rfl
      · rw [if_neg h4, if_pos (by omega)]; rfl
  · have hv : vnB n = false := decide_eq_false fun h => h1 h.1
    rw [hv]
    by_cases h4 : n.Depth < 0
    · rw [if_pos h4]; rfl
    · rw [if_neg h4, if_pos (by omega)]; rfl
theorem rsto_all : ∀ k ∈ [1, 2, 3], ∀ d ∈ List.range 7, ref03_Storage (sch k d) = some (stoN k d, 0) := by decide +kernel
theorem rpoly_eq (s : TScheme) : ref04_Valid s = some (plV s) := by
  unfold plV
  rcases valid_eq s with ⟨h1, h2⟩ | ⟨h1, h2, _⟩ <;> rw [h1, h2] <;> rfl
theorem rchosen_J1 {n : TNeed} (h : vnB n = true) (k : BitVec 8) {a b c : Int} (ha : 0 ≤ a ∧ a ≤ 32) (hb : 0 ≤ b ∧ b ≤ 8) (hc : 0 ≤ c ∧ c ≤ 400) (l : List Int) : ref10_Chosen_J1 n k a b c l = some (mkC n k a b c l) := by
  obtain ⟨q1, q2, q3, q4⟩ := cost_le h (hd := 67 + 18 * a + 16 * b) (by omega) hc
  have hh := of_decide_eq_true h
  have hd := hh.1
  have hs := hh.2.2.2.2.2
  obtain ⟨d, hd2⟩ : ∃ d : Nat, n.Depth = (d : Int) := ⟨n.Depth.toNat, by omega⟩
  have h64 := pow64 (d := d) (by omega)
  have e1 : w64 (67 + w64 (18 * a)) = 67 + 18 * a := by rw [w64_id (n := 18 * a) (by omega) (by omega), w64_id (by omega) (by omega)]
  have e2 : w64 (w64 (67 + w64 (18 * a)) + w64 (16 * b)) = 67 + 18 * a + 16 * b := by rw [e1, w64_id (n := 16 * b) (by omega) (by omega), w64_id (by omega) (by omega)]
  unfold ref10_Chosen_J1 mkC
  rw [e2, w64_id (n := n.Headers * n.HeaderPrice) (by omega) (by omega), w64_id (n := n.Headers * n.HeaderPrice * (67 + 18 * a + 16 * b)) (by omega) (by omega)]
  rw [hd2] at q4 ⊢
  rw [Int.toNat_natCast] at q4 ⊢
  rw [rrecv_eq (by omega), bind_some]
  have m1 : 0 ≤ ((2 ^ d : Nat) : Int) ∧ ((2 ^ d : Nat) : Int) ≤ 64 := ⟨Int.natCast_nonneg _, Int.ofNat_le.2 h64⟩
  generalize ((2 ^ d : Nat) : Int) = m at *
  have e3 : 0 ≤ m * n.StoragePrice := Int.mul_nonneg m1.1 hs.1
  have e4 : m * n.StoragePrice ≤ 64 * 1000 := Int.mul_le_mul m1.2 hs.2 hs.1 (by omega)
  have e5 : m * n.StoragePrice * c = n.StoragePrice * c * m := by rw [Int.mul_assoc, Int.mul_comm]
  rw [w64_id (n := m * n.StoragePrice) (by omega) (by omega), e5, w64_id (n := n.StoragePrice * c * m) (by omega) (by omega), w64_id (by omega) (by omega)]
theorem rchosen_ok {n : TNeed} (h : vnB n = true) {k : Nat} (hk : 1 ≤ k ∧ k ≤ 4) : ref10_Chosen n (BitVec.ofNat 8 k) = some (chN n k) := by
  obtain ⟨d, r, hd, hr, h6, hr2⟩ := need_nat h
  unfold ref10_Chosen ref10_SchemeOf
  by_cases h4 : k = 4
  · subst h4
    rw [if_pos rfl, bind_some, if_pos rfl]
    unfold chN
    rw [if_pos rfl]
    show Option.bind (ref04_Valid (sch4 n)) _ = _
    rw [rpoly_eq, bind_some]
    unfold ch4
    cases hp : plV (sch4 n) with
    | false => rw [Bool.not_false, cond_true, if_neg (show ¬ false = true by simp)]
    | true =>
      have hg := plV_deg hp
      have hm : 1 ≤ mxI n.Revoked 1 ∧ mxI n.Revoked 1 ≤ 8 := hg.2.2.2
      rw [Bool.not_true, cond_false, if_pos (show true = true from rfl)]
      exact rchosen_J1 h _ (a := 0) (b := mxI n.Revoked 1) (c := 8) (by omega) (by omega) (by omega) _
  · have hk3 : 1 ≤ k ∧ k ≤ 3 := by omega
    have hne : ¬ BitVec.ofNat 8 k = 4#8 := fun hc => by have := congrArg BitVec.toNat hc; rw [of8_lt hk.2] at this; simp at this; omega
    rw [if_neg hne, bind_some, if_neg hne]
    unfold chN
    rw [if_neg h4]
    have hs : (TScheme.mk (BitVec.ofNat 8 k) n.Depth 0 (TGroup.mk 0#64 0#64 0#64)) = sch k d := by rw [hd]; rfl
    obtain ⟨hkm, hdm⟩ := kd_mem hk3 h6
    obtain ⟨s0, s1, s2⟩ := sto_all k hkm d hdm
    obtain ⟨w1, w2⟩ := wst_le k hkm d hdm r (List.mem_range.2 (by omega))
    rw [hs, rsto_all k hkm d hdm, bind_some, hr, rworst_ok hk3 h6 hr2, bind_some, rwitof hk3 h6 hr2, bind_some]
    simp only
    rw [w64_id (n := 16 * stoN k d) (by omega) (by omega), rchosen_J1 h _ (by omega) (by omega) (by omega)]
    unfold ch3
    rw [hd, hr, Int.toNat_natCast, Int.toNat_natCast]
theorem rmake_step {n : TNeed} (h : vnB n = true) (rec : BitVec 8 × List TChoice × BitVec 8 → Option TPlan) {l : List TChoice} {b : BitVec 8 × Int} (hb : BsI l b) (hl : l.length < 4) : ref10_Made_L1 n rec (BitVec.ofNat 8 (l.length + 1), l, b.1) = rec (BitVec.ofNat 8 (l.length + 2), l ++ [chN n (l.length + 1)], (bs2 b (BitVec.ofNat 8 (l.length + 1)) (chN n (l.length + 1))).1) := by
  unfold ref10_Made_L1
  simp only
  rw [if_pos (by rw [BitVec.le_def, of8_lt (by omega)]; simp; omega), rchosen_ok h (by omega), bind_some, appG_some (by simp; omega), bind_some]
  generalize chN n (l.length + 1) = c
  have hk : BitVec.ofNat 8 (l.length + 1) + 1#8 = BitVec.ofNat 8 (l.length + 2) := by apply BitVec.eq_of_toNat_eq; simp
  unfold ref10_Made_J2 bs2
  rw [hk]
  cases hf : c.Fits with
  | false => rw [cond_false, cond_false, if_neg (by simp)]
  | true =>
    rw [cond_true]
    rcases hb with ⟨h1, h2⟩ | ⟨i, hi, h1, h2, h3, h4⟩
    · rw [if_pos h1, if_pos ⟨rfl, .inl h1⟩, cond_true]
    · have hb0 : b.1 ≠ 0#8 := by rw [h1]; intro hc; have := congrArg BitVec.toNat hc; rw [BitVec.toNat_ofNat] at this; simp at this; omega
      rw [if_neg hb0]
      have hg : getI (l ++ [c]) (un8 (b.1 - 1#8)) = some l[i] := by
        have : un8 (b.1 - 1#8) = (i : Int) := by
          unfold un8; rw [h1, BitVec.toNat_sub, BitVec.toNat_ofNat]; simp; omega
        rw [this, getI_some (by rw [List.length_append]; omega), List.getElem_append_left hi]
      rw [hg, bind_some, h3]
      by_cases hlt : c.Cost < b.2
      · rw [decide_eq_true hlt, cond_true, if_pos ⟨rfl, .inr hlt⟩]
      · rw [decide_eq_false hlt, cond_false, if_neg fun hc => hlt (hc.2.resolve_left hb0)]
theorem rmade_ok {n : TNeed} (h : vnB n = true) : ref10_Made n = some (plP n) := by
  unfold ref10_Made
  have h1 := bs_snoc bs_nil (by simp) (chN n 1)
  have h2 := bs_snoc h1 (by simp) (chN n 2)
  have h3 := bs_snoc h2 (by simp) (chN n 3)
  rw [F5, fix_step, show (1#8, ([] : List TChoice), 0#8) = (BitVec.ofNat 8 (([] : List TChoice).length + 1), [], (0#8, (0 : Int)).1) from rfl, rmake_step h _ bs_nil (by simp)]
  rw [fix_step]
  refine (rmake_step h _ h1 (by simp)).trans ?_
  rw [fix_step]
  refine (rmake_step h _ h2 (by simp)).trans ?_
  rw [fix_step]
  refine (rmake_step h _ h3 (by simp)).trans ?_
  rw [fix_step]
  rfl
theorem rsc_self (c : TChoice) (hl : c.Witness.length < 1000000) : ref10_SameChoice c c = some true := by
  unfold ref10_SameChoice ref10_SameNumbers
  rw [if_pos rfl, beq_self_eq_true, cond_true, if_pos rfl, if_pos rfl, if_pos rfl, if_pos rfl, decide_eq_true rfl, bind_some, cond_true, sints_eq _ _ hl, bind_some, decide_eq_true rfl]
theorem ch_wlen {n : TNeed} (h : vnB n = true) {k : Nat} (hk : 1 ≤ k ∧ k ≤ 4) : (chN n k).Witness.length < 1000000 := by
  obtain ⟨d, r, hd, hr, h6, hr2⟩ := need_nat h
  unfold chN
  by_cases h4 : k = 4
  · rw [if_pos h4]; unfold ch4; split <;> simp [mkC]
  · rw [if_neg h4]; unfold ch3 mkC
    rw [hd, hr, Int.toNat_natCast, Int.toNat_natCast]
    exact lst_len (by omega) h6 hr2
theorem rsame_loop (p : TPlan) (hw : ∀ c ∈ p.Choices, c.Witness.length < 1000000) (hl : p.Choices.length < 1000000) : ∀ (k i f : Nat), p.Choices.length - i = k → i ≤ p.Choices.length → k < f → fixN (ref10_Same_L2 p p) f (i : Int) = some true
  | k, i, 0, _, _, hf => by omega
  | k, i, f + 1, hk, hi, hf => by
    rw [fix_step]
    unfold ref10_Same_L2
    by_cases h : i < p.Choices.length
    · rw [if_pos (by omega), getI_some h, bind_some, bind_some, rsc_self _ (hw _ (List.getElem_mem h)), bind_some]
      unfold ref10_Same_J3
      rw [Bool.not_true, cond_false, w64_ix (by omega)]
      exact rsame_loop p hw hl (k - 1) (i + 1) f (by omega) (by omega) (by omega)
    · rw [if_neg (by omega)]
theorem rsame_self (p : TPlan) (hw : ∀ c ∈ p.Choices, c.Witness.length < 1000000) (hl : p.Choices.length < 1000000) : ref10_Same p p = some true := by
  unfold ref10_Same ref10_Same_J1
  rw [if_neg (by simp), decide_eq_false (by simp), cond_false]
  exact rsame_loop p hw hl _ 0 FUEL rfl (by omega) (fuel_lt (by omega))
end Go.Sx.Pn

end
section
set_option linter.unusedVariables false
set_option linter.unusedSimpArgs false
namespace Go.Sx
open Go Go.Sx.Pn
theorem law10_PlanMakes_ok (n : TNeed) (k : BitVec 8) (hn : n.ok) : law10_PlanMakes n k = some true := by
  unfold law10_PlanMakes ref10_Choose ref10_Make ref10_CheckNeed
  simp only [rneed_eq, bind_some, need_eq]
  cases hv : vnB n with
  | false =>
    rw [choose_no hv, make_no hv]
    simp only [Bool.not_false, cond_true, bind_some, Bool.false_eq_true, if_false, if_true]
    unfold ref10_Choose_J1
    simp only [cond_true, bind_some]
    rw [show (TChoice.mk 0#8 false 0 0 0 0 0 []) = zC from rfl, rsc_self zC (by decide), bind_some, cond_true, rsame_self _ (by simp) (by simp), bind_some]; rfl
  | true =>
    simp only [Bool.not_true, cond_false, if_true]
    rw [make_ok hv, rmade_ok hv]
    simp only [bind_some, if_true]
    have hs : ref10_Same (plP n) (plP n) = some true := rsame_self _ (fun c hc => by
      simp only [plP, chs, List.mem_cons, List.not_mem_nil, or_false] at hc
      rcases hc with rfl | rfl | rfl | rfl <;> exact ch_wlen hv (by omega)) (by simp [plP, chs])
    by_cases hk : k < 1#8 ∨ 4#8 < k
    · rw [choose_bad hv hk, bind_some]
      have e : (if k < 1#8 then ref10_Choose_J1 n k true else ref10_Choose_J1 n k (decide (4#8 < k))) = some (zC, 2) := by
        by_cases h1 : k < 1#8
        · rw [if_pos h1]; rfl
        · rw [if_neg h1, decide_eq_true (hk.resolve_left h1)]; rfl
      rw [e, bind_some, rsc_self zC (by decide), bind_some, cond_true, if_pos rfl, hs, bind_some]; rfl
    · obtain ⟨j, hj, rfl⟩ : ∃ j : Nat, (1 ≤ j ∧ j ≤ 4) ∧ k = BitVec.ofNat 8 j := by
        refine ⟨k.toNat, ?_, by simp⟩
        have h1 : ¬ k < 1#8 := fun h => hk (.inl h)
        have h2 : ¬ 4#8 < k := fun h => hk (.inr h)
        rw [BitVec.lt_def] at h1 h2
        simp at h1 h2
        omega
      rw [choose_ok hv hj, bind_some, if_neg (fun h => hk (.inl h)), decide_eq_false (fun h => hk (.inr h))]
      unfold ref10_Choose_J1
      rw [cond_false, rchosen_ok hv hj, bind_some, bind_some, rsc_self _ (ch_wlen hv hj), bind_some, cond_true, if_pos rfl, hs, bind_some]; rfl
end Go.Sx

end
