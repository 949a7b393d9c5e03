/- Several texts in one: Nm Pg Pv5 Pw Pk5 Ala. -/
import Derived.Test.YtopkalcefepilaaZd
import Derived.KernelRfl
set_option linter.unusedVariables false
set_option linter.unusedSimpArgs false
section
set_option linter.unusedVariables false
set_option linter.unusedSimpArgs false
set_option maxRecDepth 100000
namespace Go.Sx.Po
open Go
abbrev bn (n : Nat) : BitVec 64 := BitVec.ofNat 64 n
theorem bn_of (x : BitVec 64) : ∃ n, n < 18446744073709551616 ∧ x = bn n := ⟨x.toNat, x.isLt, by simp [bn]⟩
theorem bn_nat {n : Nat} (h : n < 18446744073709551616) : (bn n).toNat = n := by rw [bn, BitVec.toNat_ofNat]; exact Nat.mod_eq_of_lt h
theorem bn_inj {a b : Nat} (ha : a < 18446744073709551616) (hb : b < 18446744073709551616) : bn a = bn b ↔ a = b := by
  constructor
  · intro h; rw [← bn_nat ha, ← bn_nat hb, h]
  · intro h; rw [h]
theorem bn_lt {a b : Nat} (ha : a < 18446744073709551616) (hb : b < 18446744073709551616) : bn a < bn b ↔ a < b := by rw [BitVec.lt_def, bn_nat ha, bn_nat hb]
theorem bn_le {a b : Nat} (ha : a < 18446744073709551616) (hb : b < 18446744073709551616) : bn a ≤ bn b ↔ a ≤ b := by rw [BitVec.le_def, bn_nat ha, bn_nat hb]
theorem bn_mul (a b : Nat) : bn a * bn b = bn (a * b) := by apply BitVec.eq_of_toNat_eq; simp [bn]
theorem bn_add (a b : Nat) : bn a + bn b = bn (a + b) := by apply BitVec.eq_of_toNat_eq; simp [bn]
theorem bn_sub {a b : Nat} (ha : a < 18446744073709551616) (h : b ≤ a) : bn a - bn b = bn (a - b) := by
  apply BitVec.eq_of_toNat_eq
  rw [BitVec.toNat_sub, bn_nat ha, bn_nat (by omega), bn_nat (by omega)]; omega
theorem bn_shr (n : Nat) (h : n < 18446744073709551616) : bn n >>> 1 = bn (n / 2) := by
  apply BitVec.eq_of_toNat_eq
  rw [BitVec.toNat_ushiftRight, bn_nat h, bn_nat (by omega), Nat.shiftRight_eq_div_pow]
theorem bn_and1 (n : Nat) (h : n < 18446744073709551616) : bn n &&& 1#64 = bn (n % 2) := by
  apply BitVec.eq_of_toNat_eq
  rw [BitVec.toNat_and, bn_nat h, bn_nat (n := n % 2) (by omega)]
  exact Nat.and_one_is_mod n
theorem remU_bn {a m : Nat} (ha : a < 18446744073709551616) (hm : 0 < m) (hm2 : m < 18446744073709551616) : remU (bn a) (bn m) = some (bn (a % m)) := by
  have := Nat.mod_lt a hm
  unfold remU
  rw [if_neg (fun h => by have := (bn_inj (b := 0) hm2 (by omega)).1 h; omega)]
  congr 1
  apply BitVec.eq_of_toNat_eq
  rw [BitVec.toNat_umod, bn_nat ha, bn_nat hm2, bn_nat (by omega)]
/-! primes -/
def Prm (n : Nat) : Prop := 2 ≤ n ∧ ∀ e, 2 ≤ e → e * e ≤ n → n % e ≠ 0
theorem prime_loop {n : Nat} (hn : n ≤ 1048575) (T : Bool) (F : (BitVec 64 → Option Bool) → BitVec 64 → Option Bool) (hF : ∀ rec a, F rec a = if a * a ≤ bn n then Option.bind (remU (bn n) a) fun x4 => if x4 = 0#64 then some false else rec (a + 1#64) else some T) :
    ∀ (m d f : Nat), d + m = 1025 → m < f → 2 ≤ d → ∃ b, fixN F f (bn d) = some b ∧ (b = true ↔ T = true ∧ ∀ e, d ≤ e → e * e ≤ n → n % e ≠ 0)
  | m, d, 0, _, h, _ => by omega
  | 0, d, f + 1, hd, _, h2 => by
    obtain rfl : d = 1025 := by omega
    rw [fix_step, hF, bn_mul, if_neg (by rw [bn_le (by omega) (by omega)]; omega)]
    refine ⟨T, rfl, fun h => ⟨h, fun e he hen => ?_⟩, fun h => h.1⟩
    have := Nat.mul_le_mul he he
    omega
  | m + 1, d, f + 1, hd, hf, h2 => by
    have hdd : d * d ≤ 1025 * 1025 := Nat.mul_le_mul (by omega) (by omega)
    rw [fix_step, hF, bn_mul]
    by_cases hle : d * d ≤ n
    · rw [if_pos ((bn_le (by omega) (by omega)).2 hle), remU_bn (by omega) (by omega) (by omega), bind_some]
      by_cases hz : n % d = 0
      · rw [hz, if_pos rfl]
        exact ⟨false, rfl, (fun h => by cases h), fun h => absurd hz (h.2 d (Nat.le_refl _) hle)⟩
      · have hzn : ¬ bn (n % d) = 0#64 := fun h => hz ((bn_inj (b := 0) (by have := Nat.mod_lt n (show 0 < d by omega); omega) (by omega)).1 h)
        rw [if_neg hzn, show (1#64) = bn 1 from rfl, bn_add]
        obtain ⟨b, e1, e2⟩ := prime_loop hn T F hF m (d + 1) f (by omega) (by omega) (by omega)
        refine ⟨b, e1, ?_⟩
        rw [e2]
        refine and_congr_right fun _ => ⟨fun h e he hen => ?_, fun h e he => h e (by omega)⟩
        rcases Nat.lt_or_ge d e with h' | h'
        · exact h e (by omega) hen
        · obtain rfl : e = d := by omega
          exact hz
    · rw [if_neg (fun h => hle ((bn_le (by omega) (by omega)).1 h))]
      refine ⟨T, rfl, fun h => ⟨h, fun e he hen => ?_⟩, fun h => h.1⟩
      have := Nat.mul_le_mul he he
      omega
theorem prime_eq {n : Nat} (h64 : n < 18446744073709551616) : ∃ b, number_prime (bn n) = some b ∧ (b = true ↔ n ≤ 1048575 ∧ Prm n) := by
  unfold number_prime number_prime_J1
  by_cases h2 : n < 2
  · rw [if_pos ((bn_lt h64 (b := 2) (by omega)).2 h2)]
    exact ⟨false, rfl, (fun h => by cases h), fun h => by have := h.2.1; omega⟩
  · rw [if_neg (fun h => h2 ((bn_lt h64 (b := 2) (by omega)).1 h))]
    by_cases hg : 1048575 < n
    · rw [decide_eq_true ((bn_lt (a := 1048575) (by omega) h64).2 hg)]
      exact ⟨false, rfl, (fun h => by cases h), fun h => by omega⟩
    · rw [decide_eq_false (fun h => hg ((bn_lt (a := 1048575) (by omega) h64).1 h)), cond_false]
      obtain ⟨b, e1, e2⟩ := prime_loop (n := n) (by omega) true (number_prime_L2 (bn n)) (fun rec a => rfl) 1023 2 FUEL (by omega) (fuel_lt (by omega)) (by omega)
      refine ⟨b, e1, ?_⟩
      rw [e2]; unfold Prm
      exact ⟨fun h => ⟨by omega, by omega, h.2⟩, fun h => ⟨rfl, h.2.2⟩⟩
/-! powers -/
theorem pow_half (x n : Nat) : x ^ n = x ^ (n % 2) * (x * x) ^ (n / 2) := by
  have : x ^ n = x ^ (n % 2 + 2 * (n / 2)) := by congr 1; omega
  rw [this, Nat.pow_add, Nat.pow_mul, Nat.pow_two]
theorem pow_step {m x n o : Nat} : o * x ^ n % m = (if n % 2 = 1 then o * x % m else o) * (x * x % m) ^ (n / 2) % m := by
  rw [pow_half x n]
  rcases Nat.mod_two_eq_zero_or_one n with h | h
  · rw [h, if_neg (by omega), Nat.pow_zero, Nat.one_mul, Nat.mul_mod o ((x * x % m) ^ (n / 2)), ← Nat.pow_mod, ← Nat.mul_mod]
  · rw [h, if_pos rfl, Nat.pow_one, Nat.mul_mod (o * x % m), Nat.mod_mod, ← Nat.pow_mod, ← Nat.mul_mod, Nat.mul_assoc]
theorem power_loop {m : Nat} (hm : 0 < m) (hm2 : m < 4294967296) : ∀ (k n x o f : Nat), n < 2 ^ k → k ≤ 64 → k < f → x < m → o < m → fixN (number_power_L1 (bn m)) f (bn x, bn n, bn o) = some (bn (o * x ^ n % m))
  | k, n, x, o, 0, _, _, h, _, _ => by omega
  | 0, n, x, o, f + 1, hn, _, _, hx, ho => by
    obtain rfl : n = 0 := by simp at hn; exact hn
    rw [fix_step]; simp only [number_power_L1]
    rw [if_neg (by decide), Nat.pow_zero, Nat.mul_one, Nat.mod_eq_of_lt ho]
  | k + 1, n, x, o, f + 1, hn, hk, hf, hx, ho => by
    have hn64 : n < 18446744073709551616 := Nat.lt_of_lt_of_le hn (Nat.le_trans (Nat.pow_le_pow_right (by omega) hk) (by decide))
    have hxx : x * x < 18446744073709551616 := Nat.lt_of_le_of_lt (Nat.mul_le_mul (Nat.le_of_lt hx) (Nat.le_of_lt hx)) (by have := Nat.mul_lt_mul'' hm2 hm2; omega)
    have hox : o * x < 18446744073709551616 := Nat.lt_of_le_of_lt (Nat.mul_le_mul (Nat.le_of_lt ho) (Nat.le_of_lt hx)) (by have := Nat.mul_lt_mul'' hm2 hm2; omega)
    rw [fix_step]; simp only [number_power_L1]
    by_cases h0 : n = 0
    · subst h0
      rw [if_neg (by decide), Nat.pow_zero, Nat.mul_one, Nat.mod_eq_of_lt ho]
    · rw [if_pos ((bn_lt (a := 0) (by omega) hn64).2 (by omega)), bn_and1 n hn64, show shG (un 1#64) = some 1 from by decide, bn_mul, bn_mul, remU_bn hxx hm (by omega), remU_bn hox hm (by omega), pow_step]
      simp only [bind_some]
      rw [bn_shr n hn64]
      have hlt : n / 2 < 2 ^ k := by rw [Nat.pow_succ] at hn; omega
      have h1 := Nat.mod_lt (x * x) hm
      have h2 := Nat.mod_lt (o * x) hm
      by_cases hodd : n % 2 = 1
      · rw [if_pos (by rw [hodd]), if_pos hodd]
        exact power_loop hm hm2 k (n / 2) _ _ f hlt (by omega) (by omega) h1 h2
      · rw [if_neg (fun h => hodd ((bn_inj (b := 1) (by omega) (by omega)).1 h)), if_neg hodd]
        exact power_loop hm hm2 k (n / 2) _ _ f hlt (by omega) (by omega) h1 ho
theorem power_eq {b n m : Nat} (hb : b < 18446744073709551616) (hn : n < 18446744073709551616) (hm : 0 < m) (hm2 : m < 4294967296) : number_power (bn b) (bn n) (bn m) = some (bn (b ^ n % m)) := by
  unfold number_power
  rw [show (1#64) = bn 1 from rfl, remU_bn (by omega) hm (by omega), bind_some, remU_bn hb hm (by omega), bind_some, power_loop hm hm2 64 n _ _ FUEL (by omega) (by omega) (fuel_lt (by omega)) (Nat.mod_lt _ hm) (Nat.mod_lt _ hm), Nat.mod_mul_mod, Nat.one_mul, ← Nat.pow_mod]
end Go.Sx.Po

end
section
set_option linter.unusedVariables false
set_option linter.unusedSimpArgs false
set_option maxRecDepth 100000
namespace Go.Sx.Po
open Go
theorem pgroup_tot {p q g : Nat} (hp : p < 18446744073709551616) (hq : q < 18446744073709551616) (hg : g < 18446744073709551616) : ∃ b : Bool, number_CheckGroup ⟨bn p, bn q, bn g⟩ = some (if b = true then 0 else 13) := by
  obtain ⟨b1, e1, i1⟩ := prime_eq hp
  obtain ⟨b2, e2, i2⟩ := prime_eq hq
  unfold number_CheckGroup
  simp only
  rw [e1, bind_some]
  cases b1 with
  | false => exact ⟨false, rfl⟩
  | true =>
    have hP := i1.1 rfl
    simp only [Bool.not_true, cond_false]
    rw [e2, bind_some]
    cases b2 with
    | false => exact ⟨false, rfl⟩
    | true =>
      have hQ := i2.1 rfl
      simp only [Bool.not_true, cond_false]
      have hp2 := hP.2.1
      have hq2 := hQ.2.1
      rw [show (1#64) = bn 1 from rfl, bn_sub hp (by omega), remU_bn (by omega) (by omega) hq, bind_some]
      by_cases hz : bn ((p - 1) % q) ≠ 0#64
      · rw [if_pos hz]; exact ⟨false, rfl⟩
      · rw [if_neg hz]
        by_cases c3 : bn g < 2#64
        · rw [if_pos c3]; exact ⟨false, rfl⟩
        · rw [if_neg c3]
          by_cases c5 : bn p ≤ bn g
          · rw [if_pos c5]; exact ⟨false, rfl⟩
          · rw [if_neg c5, power_eq hg hq (by omega) (by omega), bind_some]
            unfold number_CheckGroup_J1
            by_cases h4 : bn (g ^ q % p) = bn 1
            · rw [decide_eq_false (by simpa using h4)]; exact ⟨true, rfl⟩
            · rw [decide_eq_true h4]; exact ⟨false, rfl⟩
theorem pvalid_tot (s : TScheme) : ∃ b : Bool, poly_valid s = some b ∧ (b = true → s.Kind = 4#8 ∧ 0 ≤ s.Depth ∧ s.Depth ≤ 6 ∧ 1 ≤ s.Degree ∧ s.Degree ≤ 8) := by
  obtain ⟨kd, dp, dg, ⟨P, Q, G⟩⟩ := s
  obtain ⟨p, hp, rfl⟩ := bn_of P
  obtain ⟨q, hq, rfl⟩ := bn_of Q
  obtain ⟨g, hg, rfl⟩ := bn_of G
  unfold poly_valid
  simp only
  by_cases h1 : kd = 4#8
  · rw [if_pos h1]
    by_cases h2 : 0 ≤ dp
    · rw [if_pos h2]
      by_cases h3 : dp ≤ 6
      · rw [if_pos h3]
        by_cases h4 : 1 ≤ dg
        · rw [if_pos h4]
          by_cases h5 : dg ≤ 8
          · rw [if_pos h5]
            obtain ⟨b, e1⟩ := pgroup_tot hp hq hg
            rw [e1, bind_some]
            split
            · have : shG dp = some dp.toNat := by unfold shG; rw [if_pos h2]
              rw [this, bind_some]
              exact ⟨_, rfl, fun _ => ⟨h1, h2, h3, h4, h5⟩⟩
            · exact ⟨false, rfl, nofun⟩
          · rw [if_neg h5]; exact ⟨false, rfl, nofun⟩
        · rw [if_neg h4]; exact ⟨false, rfl, nofun⟩
      · rw [if_neg h3]; exact ⟨false, rfl, nofun⟩
    · rw [if_neg h2]; exact ⟨false, rfl, nofun⟩
  · rw [if_neg h1]; exact ⟨false, rfl, nofun⟩
/-- a scheme with a polynomial is valid -/
def plV (s : TScheme) : Bool := (poly_valid s).getD false
theorem pcheck_eq (s : TScheme) : poly_Check s = some (if plV s = true then 0 else 30) := by
  obtain ⟨b, e, _⟩ := pvalid_tot s
  unfold poly_Check plV
  rw [e, bind_some]
  cases b <;> rfl
theorem plV_deg {s : TScheme} (h : plV s = true) : s.Kind = 4#8 ∧ 0 ≤ s.Depth ∧ s.Depth ≤ 6 ∧ 1 ≤ s.Degree ∧ s.Degree ≤ 8 := by
  obtain ⟨b, e, i⟩ := pvalid_tot s
  unfold plV at h
  rw [e] at h
  exact i h
end Go.Sx.Po

end
section
set_option linter.unusedVariables false
set_option linter.unusedSimpArgs false
set_option maxRecDepth 100000
namespace Go.Sx.Pn
open Go Go.Sx Go.Sx.Po
theorem F5 : FUEL = 18446744073709551611 + 1 + 1 + 1 + 1 + 1 := rfl
theorem idx_all (m : Int) (l : List Int) (hl : l.length < 1000) : ∀ (k i f : Nat), l.length - i = k → i ≤ l.length → k < f → ∃ j : Int, fixN (slices_IndexFunc_7bbb_plan_within_1_L1 l m) f (i : Int) = some j ∧ (0 ≤ j ↔ ∃ x ∈ l.drop i, ¬ (0 ≤ x ∧ x ≤ m))
  | k, i, 0, _, _, hf => by omega
  | k, i, f + 1, hk, hi, hf => by
    rw [fix_step]
    unfold slices_IndexFunc_7bbb_plan_within_1_L1
    by_cases h : i < l.length
    · rw [if_pos (by omega), getI_some h, bind_some]
      unfold plan_within_1
      rw [List.drop_eq_getElem_cons h]
      by_cases h0 : l[i] < 0
      · rw [if_pos h0, bind_some, cond_true]
        exact ⟨_, rfl, ⟨fun _ => ⟨l[i], List.mem_cons_self, by omega⟩, fun _ => by omega⟩⟩
      · rw [if_neg h0, bind_some]
        by_cases h1 : m < l[i]
        · rw [decide_eq_true h1, cond_true]
          exact ⟨_, rfl, ⟨fun _ => ⟨l[i], List.mem_cons_self, by omega⟩, fun _ => by omega⟩⟩
        · rw [decide_eq_false h1, cond_false, w64_id (by omega) (by omega)]
          obtain ⟨j, e, q⟩ := idx_all m l hl (k - 1) (i + 1) f (by omega) (by omega) (by omega)
          refine ⟨j, e, q.trans ?_⟩
          constructor
          · rintro ⟨x, hx, hn⟩
            exact ⟨x, List.mem_cons_of_mem _ hx, hn⟩
          · rintro ⟨x, hx, hn⟩
            rcases List.mem_cons.1 hx with rfl | hx
            · exact absurd ⟨by omega, by omega⟩ hn
            · exact ⟨x, hx, hn⟩
    · rw [if_neg (by omega)]
      refine ⟨-1, rfl, ?_⟩
      rw [List.drop_eq_nil_of_le (by omega)]; simp
theorem within_eq (m : Int) (l : List Int) (hl : l.length < 1000) : plan_within m l = some (l.all fun x => decide (0 ≤ x ∧ x ≤ m)) := by
  unfold plan_within slices_ContainsFunc_5954_plan_within_1 slices_IndexFunc_7bbb_plan_within_1
  obtain ⟨j, e, q⟩ := idx_all m l hl _ 0 FUEL rfl (by omega) (fuel_lt (by omega))
  rw [show ((0 : Nat) : Int) = 0 from rfl] at e
  rw [e, bind_some, bind_some]
  congr 1
  rw [List.drop_zero] at q
  by_cases h : 0 ≤ j
  · rw [decide_eq_true h, Bool.not_true]
    obtain ⟨x, hx, hn⟩ := q.1 h
    symm
    rw [List.all_eq_false]
    exact ⟨x, hx, by simpa using hn⟩
  · rw [decide_eq_false h, Bool.not_false]
    symm
    rw [List.all_eq_true]
    intro x hx
    refine decide_eq_true ?_
    by_cases hc : 0 ≤ x ∧ x ≤ m
    · exact hc
    · exact absurd (q.2 ⟨x, hx, hc⟩) h
/-- a valid need -/
def vnB (n : TNeed) : Bool := decide ((0 ≤ n.Depth ∧ n.Depth ≤ 6) ∧ (0 ≤ n.Revoked ∧ n.Revoked ≤ ((2 ^ n.Depth.toNat : Nat) : Int)) ∧ (0 ≤ n.Storage ∧ n.Storage ≤ 10000) ∧ (0 ≤ n.Headers ∧ n.Headers ≤ 1000) ∧ (0 ≤ n.HeaderPrice ∧ n.HeaderPrice ≤ 1000) ∧ (0 ≤ n.StoragePrice ∧ n.StoragePrice ≤ 1000))
theorem need_eq (n : TNeed) : plan_CheckNeed n = some (if vnB n = true then 0 else 2) := by
  unfold plan_CheckNeed vnB
  rw [within_eq _ _ (by simp), bind_some]
  simp only [List.all_cons, List.all_nil, Bool.and_true]
  by_cases h1 : 0 ≤ n.Depth ∧ n.Depth ≤ 6
  · rw [decide_eq_true h1, Bool.not_true, cond_false]
    obtain ⟨d, hd⟩ : ∃ d : Nat, n.Depth = (d : Int) := ⟨n.Depth.toNat, by omega⟩
    rw [hd, shGn, bind_some, shlD (by omega), within_eq _ _ (by simp), bind_some, Int.toNat_natCast]
    simp only [List.all_cons, List.all_nil, Bool.and_true]
    by_cases h2 : 0 ≤ n.Revoked ∧ n.Revoked ≤ ((2 ^ d : Nat) : Int)
    · rw [decide_eq_true h2, Bool.not_true, cond_false, within_eq _ _ (by simp), bind_some]
      simp only [List.all_cons, List.all_nil, Bool.and_true]
      by_cases h3 : 0 ≤ n.Storage ∧ n.Storage ≤ 10000
      · rw [decide_eq_true h3, Bool.not_true, cond_false, within_eq _ _ (by simp), bind_some]
        simp only [List.all_cons, List.all_nil, Bool.and_true]
        unfold plan_CheckNeed_J1
        rw [← Bool.decide_and, ← Bool.decide_and]
        by_cases h4 : (0 ≤ n.Headers ∧ n.Headers ≤ 1000) ∧ (0 ≤ n.HeaderPrice ∧ n.HeaderPrice ≤ 1000) ∧ (0 ≤ n.StoragePrice ∧ n.StoragePrice ≤ 1000)
        · rw [decide_eq_true h4, decide_eq_true ⟨by omega, h2, h3, h4⟩]; rfl
        · rw [decide_eq_false h4, decide_eq_false fun h => h4 h.2.2.2]; rfl
      · rw [decide_eq_false h3, decide_eq_false fun h => h3 h.2.2.1]; rfl
    · rw [decide_eq_false h2, decide_eq_false fun h => h2 h.2.1]; rfl
  · rw [decide_eq_false h1, decide_eq_false fun h => h1 h.1]; rfl
/-- the numbers of labels -/
def stoN (k d : Nat) : Int := ((cover_Storage (sch k d)).getD (0, 0)).1
theorem sto_all : ∀ k ∈ [1, 2, 3], ∀ d ∈ List.range 7, cover_Storage (sch k d) = some (stoN k d, 0) ∧ 1 ≤ stoN k d ∧ stoN k d ≤ 22 := by decide +kernel
theorem wst_le : ∀ k ∈ [1, 2, 3], ∀ d ∈ List.range 7, ∀ r ∈ List.range (2 ^ d + 1), 1 ≤ (wst k d r).1 ∧ (wst k d r).1 ≤ 32 := by decide +kernel
/-- a choice of these numbers -/
def mkC (n : TNeed) (k : BitVec 8) (a b c : Int) (l : List Int) : TChoice := ⟨k, decide (c ≤ n.Storage), a, b, 67 + 18 * a + 16 * b, c, n.Headers * n.HeaderPrice * (67 + 18 * a + 16 * b) + n.StoragePrice * c * ((2 ^ n.Depth.toNat : Nat) : Int), l⟩
theorem cost_le {n : TNeed} (h : vnB n = true) {hd c : Int} (h1 : 0 ≤ hd ∧ hd ≤ 1000) (h2 : 0 ≤ c ∧ c ≤ 400) : (0 ≤ n.Headers * n.HeaderPrice ∧ n.Headers * n.HeaderPrice ≤ 1000000) ∧ (0 ≤ n.Headers * n.HeaderPrice * hd ∧ n.Headers * n.HeaderPrice * hd ≤ 1000000000) ∧ (0 ≤ n.StoragePrice * c ∧ n.StoragePrice * c ≤ 400000) ∧ (0 ≤ n.StoragePrice * c * ((2 ^ n.Depth.toNat : Nat) : Int) ∧ n.StoragePrice * c * ((2 ^ n.Depth.toNat : Nat) : Int) ≤ 25600000) := by
  obtain ⟨⟨a1, a2⟩, _, _, ⟨b1, b2⟩, ⟨c1, c2⟩, ⟨d1, d2⟩⟩ := of_decide_eq_true h
  have h64 := pow64 (d := n.Depth.toNat) (by omega)
  have e1 := Int.mul_nonneg b1 c1
  have e2 : n.Headers * n.HeaderPrice ≤ 1000 * 1000 := Int.mul_le_mul b2 c2 c1 (by omega)
  have e3 := Int.mul_nonneg e1 h1.1
  have e4 : n.Headers * n.HeaderPrice * hd ≤ 1000000 * 1000 := Int.mul_le_mul (by omega) h1.2 h1.1 (by omega)
  have e5 := Int.mul_nonneg d1 h2.1
  have e6 : n.StoragePrice * c ≤ 1000 * 400 := Int.mul_le_mul d2 h2.2 h2.1 (by omega)
  have e7 : 0 ≤ n.StoragePrice * c * ((2 ^ n.Depth.toNat : Nat) : Int) := Int.mul_nonneg e5 (by omega)
  have e8 : n.StoragePrice * c * ((2 ^ n.Depth.toNat : Nat) : Int) ≤ 400000 * 64 := Int.mul_le_mul (by omega) (by omega) (by omega) (by omega)
  omega
theorem choose_J1 {n : TNeed} (h : vnB n = true) (k : BitVec 8) {a b c : Int} (ha : 0 ≤ a ∧ a ≤ 32) (hb : 0 ≤ b ∧ b ≤ 8) (hc : 0 ≤ c ∧ c ≤ 400) (l : List Int) : plan_Choose_J1 n k a b c l = some (mkC n k a b c l, 0) := by
  obtain ⟨q1, q2, q3, q4⟩ := cost_le h (hd := 67 + 18 * a + 16 * b) (by omega) hc
  have hd := (of_decide_eq_true h).1
  obtain ⟨d, hd2⟩ : ∃ d : Nat, n.Depth = (d : Int) := ⟨n.Depth.toNat, by omega⟩
  have e1 : w64 (67 + w64 (18 * a)) = 67 + 18 * a := by rw [w64_id (n := 18 * a) (by omega) (by omega), w64_id (by omega) (by omega)]
  have e2 : w64 (w64 (67 + w64 (18 * a)) + w64 (16 * b)) = 67 + 18 * a + 16 * b := by rw [e1, w64_id (n := 16 * b) (by omega) (by omega), w64_id (by omega) (by omega)]
  unfold plan_Choose_J1 mkC
  rw [e2, w64_id (n := n.Headers * n.HeaderPrice) (by omega) (by omega), w64_id (n := n.Headers * n.HeaderPrice * (67 + 18 * a + 16 * b)) (by omega) (by omega), w64_id (n := n.StoragePrice * c) (by omega) (by omega)]
  rw [hd2] at q4 ⊢
  rw [shGn, bind_some]
  unfold shlI
  rw [Int.toNat_natCast] at q4 ⊢
  rw [Nat.min_eq_left (by omega), show (2 : Int) ^ d = ((2 ^ d : Nat) : Int) from by rw [Int.natCast_pow]; rfl, w64_id (n := n.StoragePrice * c * ((2 ^ d : Nat) : Int)) (by omega) (by omega), w64_id (by omega) (by omega)]
/-- the scheme with a polynomial of a need -/
def sch4 (n : TNeed) : TScheme := ⟨4#8, n.Depth, mxI n.Revoked 1, n.Group⟩
/-- the choice for a kind from 1 to 3 -/
def ch3 (n : TNeed) (k : Nat) : TChoice := mkC n (BitVec.ofNat 8 k) (wst k n.Depth.toNat n.Revoked.toNat).1 0 (16 * stoN k n.Depth.toNat) (lst k n.Depth.toNat n.Revoked.toNat)
def ch4 (n : TNeed) : TChoice := if plV (sch4 n) = true then mkC n 4#8 0 (mxI n.Revoked 1) 8 [] else ⟨4#8, false, 0, 0, 0, 0, 0, []⟩
def chN (n : TNeed) (k : Nat) : TChoice := if k = 4 then ch4 n else ch3 n k
def zC : TChoice := ⟨0#8, false, 0, 0, 0, 0, 0, []⟩
theorem choose_no {n : TNeed} (h : vnB n = false) (k : BitVec 8) : plan_Choose n k = some (zC, 2) := by
  unfold plan_Choose
  rw [need_eq, bind_some, h]; rfl
theorem of8_lt {k : Nat} (hk : k ≤ 4) : (BitVec.ofNat 8 k).toNat = k := by rw [BitVec.toNat_ofNat]; omega
theorem need_nat {n : TNeed} (h : vnB n = true) : ∃ d r : Nat, n.Depth = (d : Int) ∧ n.Revoked = (r : Int) ∧ d ≤ 6 ∧ r ≤ 2 ^ d := by
  obtain ⟨⟨a1, a2⟩, ⟨b1, b2⟩, _⟩ := of_decide_eq_true h
  exact ⟨n.Depth.toNat, n.Revoked.toNat, by omega, by omega, by omega, by omega⟩
theorem ch_bounds {n : TNeed} (h : vnB n = true) {k : Nat} (hk : 1 ≤ k ∧ k ≤ 3) : (0 ≤ (wst k n.Depth.toNat n.Revoked.toNat).1 ∧ (wst k n.Depth.toNat n.Revoked.toNat).1 ≤ 32) ∧ (0 ≤ 16 * stoN k n.Depth.toNat ∧ 16 * stoN k n.Depth.toNat ≤ 400) := by
  obtain ⟨d, r, hd, hr, h6, hr2⟩ := need_nat h
  rw [hd, hr, Int.toNat_natCast, Int.toNat_natCast]
  obtain ⟨hkm, hdm⟩ := kd_mem hk h6
  obtain ⟨_, s1, s2⟩ := sto_all k hkm d hdm
  obtain ⟨w1, w2⟩ := wst_le k hkm d hdm r (List.mem_range.2 (by omega))
  omega
theorem choose_ok {n : TNeed} (h : vnB n = true) {k : Nat} (hk : 1 ≤ k ∧ k ≤ 4) : plan_Choose n (BitVec.ofNat 8 k) = some (chN n k, 0) := by
  obtain ⟨d, r, hd, hr, h6, hr2⟩ := need_nat h
  have h64 := pow64 h6
  unfold plan_Choose
  rw [need_eq, bind_some, h, if_pos rfl, if_neg (by decide), if_neg (fun hc => by rw [BitVec.lt_def, of8_lt hk.2] at hc; simp at hc; omega), decide_eq_false (fun hc => by rw [BitVec.lt_def, of8_lt hk.2] at hc; simp at hc; omega)]
  unfold plan_Choose_J2
  rw [cond_false]
  by_cases h4 : k = 4
  · subst h4
    rw [if_pos rfl]
    unfold chN
    rw [if_pos rfl]
    show Option.bind (poly_Check (sch4 n)) _ = _
    rw [pcheck_eq, bind_some]
    unfold ch4
    cases hp : plV (sch4 n) with
    | false => rw [if_neg (show ¬ false = true by simp), if_pos (show (30 : Int) ≠ 0 by decide), if_neg (show ¬ false = true by simp)]
    | true =>
      have hg := plV_deg hp
      have hm : 1 ≤ mxI n.Revoked 1 ∧ mxI n.Revoked 1 ≤ 8 := hg.2.2.2
      rw [if_pos (show true = true from rfl), if_neg (show ¬ (0 : Int) ≠ 0 by decide), if_pos (show true = true from rfl)]
      exact choose_J1 h _ (by omega) (by omega) (by omega) _
  · have hk3 : 1 ≤ k ∧ k ≤ 3 := by omega
    rw [if_neg (fun hc => by have := congrArg BitVec.toNat hc; rw [of8_lt hk.2] at this; simp at this; omega)]
    unfold chN
    rw [if_neg h4]
    have hs : (TScheme.mk (BitVec.ofNat 8 k) n.Depth 0 (TGroup.mk 0#64 0#64 0#64)) = sch k d := by rw [hd]; rfl
    obtain ⟨hkm, hdm⟩ := kd_mem hk3 h6
    obtain ⟨s0, s1, s2⟩ := sto_all k hkm d hdm
    obtain ⟨w1, w2⟩ := wst_le k hkm d hdm r (List.mem_range.2 (by omega))
    rw [hs, nt hk3 h6, bind_some, s0, bind_some, hr, worst_tb hk3 h6 hr2, bind_some]
    rw [show n.Depth = (d : Int) from hd, (list_tb hk3 h6 hr2).1, bind_some]
    simp only
    rw [w64_id (n := 16 * stoN k d) (by omega) (by omega), choose_J1 h _ (by omega) (by omega) (by omega)]
    unfold ch3
    rw [hd, hr, Int.toNat_natCast, Int.toNat_natCast]
/-- the best one so far, and its cost -/
def bs2 (b : BitVec 8 × Int) (k : BitVec 8) (c : TChoice) : BitVec 8 × Int := if c.Fits = true ∧ (b.1 = 0#8 ∨ c.Cost < b.2) then (k, c.Cost) else b
/-- of a list of choices, one is the best so far -/
def BsI (l : List TChoice) (b : BitVec 8 × Int) : Prop := (b.1 = 0#8 ∧ ∀ c ∈ l, c.Fits = false) ∨ ∃ i, ∃ h : i < l.length, b.1 = BitVec.ofNat 8 (i + 1) ∧ l[i].Fits = true ∧ l[i].Cost = b.2 ∧ ∀ j (hj : j < l.length), l[j].Fits = true → b.2 ≤ l[j].Cost ∧ (l[j].Cost = b.2 → i ≤ j)
theorem bs_nil : BsI [] (0#8, 0) := .inl ⟨rfl, nofun⟩
theorem bs_snoc {l : List TChoice} {b : BitVec 8 × Int} (h : BsI l b) (hl : l.length < 100) (c : TChoice) : BsI (l ++ [c]) (bs2 b (BitVec.ofNat 8 (l.length + 1)) c) := by
  unfold bs2
  rcases h with ⟨h1, h2⟩ | ⟨i, hi, h1, h2, h3, h4⟩
  · cases hf : c.Fits with
    | false =>
      rw [if_neg (by simp)]
      refine .inl ⟨h1, fun x hx => ?_⟩
      rcases List.mem_append.1 hx with hx | hx
      · exact h2 x hx
      · rw [List.mem_singleton.1 hx]; exact hf
    | true =>
      rw [if_pos ⟨rfl, .inl h1⟩]
      refine .inr ⟨l.length, by simp, rfl, by simpa using hf, by simp, fun j hj hjf => ?_⟩
      rw [List.length_append, List.length_singleton] at hj
      by_cases hjl : j < l.length
      · rw [List.getElem_append_left hjl, h2 _ (List.getElem_mem hjl)] at hjf; cases hjf
      · obtain rfl : j = l.length := by omega
        simp
  · have hb0 : b.1 ≠ 0#8 := by rw [h1]; intro hc; have := congrArg BitVec.toNat hc; rw [BitVec.toNat_ofNat] at this; simp at this; omega
    by_cases hc : c.Fits = true ∧ (b.1 = 0#8 ∨ c.Cost < b.2)
    · rw [if_pos hc]
      have hlt := hc.2.resolve_left hb0
      refine .inr ⟨l.length, by simp, rfl, by simpa using hc.1, by simp, fun j hj hjf => ?_⟩
      rw [List.length_append, List.length_singleton] at hj
      by_cases hjl : j < l.length
      · rw [List.getElem_append_left hjl] at hjf ⊢
        have := (h4 j hjl hjf).1
        simp only
        exact ⟨by omega, fun he => by omega⟩
      · obtain rfl : j = l.length := by omega
        simp
    · rw [if_neg hc]
      refine .inr ⟨i, by rw [List.length_append]; omega, h1, by rw [List.getElem_append_left hi]; exact h2, by rw [List.getElem_append_left hi]; exact h3, fun j hj hjf => ?_⟩
      rw [List.length_append, List.length_singleton] at hj
      by_cases hjl : j < l.length
      · rw [List.getElem_append_left hjl] at hjf ⊢; exact h4 j hjl hjf
      · obtain rfl : j = l.length := by omega
        rw [List.getElem_append_right (by omega)] at hjf ⊢
        simp only [Nat.sub_self, List.getElem_singleton] at hjf ⊢
        have : ¬ c.Cost < b.2 := fun hx => hc ⟨hjf, .inr hx⟩
        exact ⟨by omega, fun _ => by omega⟩
theorem make_step {n : TNeed} (h : vnB n = true) (rec : BitVec 8 × List TChoice × BitVec 8 → Option (TPlan × Int)) {l : List TChoice} {b : BitVec 8 × Int} (hb : BsI l b) (hl : l.length < 4) : plan_Make_L1 n rec (BitVec.ofNat 8 (l.length + 1), l, b.1) = rec (BitVec.ofNat 8 (l.length + 2), l ++ [chN n (l.length + 1)], (bs2 b (BitVec.ofNat 8 (l.length + 1)) (chN n (l.length + 1))).1) := by
  unfold plan_Make_L1
  simp only
  rw [if_pos (by rw [BitVec.le_def, of8_lt (by omega)]; simp; omega), choose_ok h (by omega), bind_some, if_neg (by simp), appG_some (by simp; omega), bind_some]
  generalize chN n (l.length + 1) = c
  have hk : BitVec.ofNat 8 (l.length + 1) + 1#8 = BitVec.ofNat 8 (l.length + 2) := by apply BitVec.eq_of_toNat_eq; simp
  unfold plan_Make_J2 bs2
  rw [hk]
  simp only
  cases hf : c.Fits with
  | false => rw [cond_false, cond_false, if_neg (by simp)]
  | true =>
    rw [cond_true]
    rcases hb with ⟨h1, h2⟩ | ⟨i, hi, h1, h2, h3, h4⟩
    · rw [if_pos h1, if_pos ⟨rfl, .inl h1⟩, cond_true]
    · have hb0 : b.1 ≠ 0#8 := by rw [h1]; intro hc; have := congrArg BitVec.toNat hc; rw [BitVec.toNat_ofNat] at this; simp at this; omega
      rw [if_neg hb0]
      have hg : getI (l ++ [c]) (un8 (b.1 - 1#8)) = some l[i] := by
        have : un8 (b.1 - 1#8) = (i : Int) := by
          unfold un8; rw [h1, BitVec.toNat_sub, BitVec.toNat_ofNat]; simp; omega
        rw [this, getI_some (by rw [List.length_append]; omega), List.getElem_append_left hi]
      rw [hg, bind_some, h3]
      by_cases hlt : c.Cost < b.2
      · rw [decide_eq_true hlt, cond_true, if_pos ⟨rfl, .inr hlt⟩]
      · rw [decide_eq_false hlt, cond_false, if_neg fun hc => hlt (hc.2.resolve_left hb0)]
def bestP (n : TNeed) : BitVec 8 × Int := bs2 (bs2 (bs2 (bs2 (0#8, 0) 1#8 (chN n 1)) 2#8 (chN n 2)) 3#8 (chN n 3)) 4#8 (chN n 4)
def chs (n : TNeed) : List TChoice := [chN n 1, chN n 2, chN n 3, chN n 4]
def plP (n : TNeed) : TPlan := ⟨chs n, (bestP n).1⟩
theorem best_spec (n : TNeed) : BsI (chs n) (bestP n) := by
  have h1 := bs_snoc bs_nil (by simp) (chN n 1)
  have h2 := bs_snoc h1 (by simp) (chN n 2)
  have h3 := bs_snoc h2 (by simp) (chN n 3)
  exact bs_snoc h3 (by simp) (chN n 4)
theorem make_ok {n : TNeed} (h : vnB n = true) : plan_Make n = some (plP n, 0) := by
  unfold plan_Make
  have h1 := bs_snoc bs_nil (by simp) (chN n 1)
  have h2 := bs_snoc h1 (by simp) (chN n 2)
  have h3 := bs_snoc h2 (by simp) (chN n 3)
  rw [F5, fix_step, show (1#8, ([] : List TChoice), 0#8) = (BitVec.ofNat 8 (([] : List TChoice).length + 1), [], (0#8, (0 : Int)).1) from rfl, make_step h _ bs_nil (by simp)]
  rw [fix_step]
  refine (make_step h _ h1 (by simp)).trans ?_
  rw [fix_step]
  refine (make_step h _ h2 (by simp)).trans ?_
  rw [fix_step]
  refine (make_step h _ h3 (by simp)).trans ?_
  rw [fix_step]
  rfl
theorem make_no {n : TNeed} (h : vnB n = false) : plan_Make n = some (⟨[], 0#8⟩, 2) := by
  unfold plan_Make
  rw [F5, fix_step]
  unfold plan_Make_L1
  simp only
  rw [if_pos (by decide), choose_no h, bind_some]; rfl
end Go.Sx.Pn

end
section
set_option linter.unusedVariables false
set_option linter.unusedSimpArgs false
set_option maxRecDepth 100000
namespace Go.Sx.Pn
open Go Go.Sx
theorem cov_ll : ∀ k ∈ [1, 2, 3], ∀ d ∈ List.range 7, ∀ x ∈ ll k d, (covP (sch k d) x.2.1).2 = 0 ∧ ((covP (sch k d) x.2.1).1.length : Int) = x.2.2 := by decide +kernel
end Go.Sx.Pn

end
section
set_option linter.unusedVariables false
set_option linter.unusedSimpArgs false
set_option maxRecDepth 100000
namespace Go.Sx.Pn
open Go Go.Sx Go.Sx.Po
/-- the same numbers -/
def numE (c w : TChoice) : Prop := c.Kind = w.Kind ∧ c.Fits = w.Fits ∧ c.Items = w.Items ∧ c.Points = w.Points ∧ c.Header = w.Header ∧ c.Storage = w.Storage ∧ c.Cost = w.Cost
instance (c w : TChoice) : Decidable (numE c w) := inferInstanceAs (Decidable (_ ∧ _))
/-- a witness that may stand -/
def witB (n : TNeed) (c : TChoice) : Bool := if c.Kind = 4#8 then decide (c.Witness = []) else decide ((covP ⟨c.Kind, n.Depth, 0, ⟨0#64, 0#64, 0#64⟩⟩ c.Witness).2 = 0 ∧ (c.Witness.length : Int) ≤ n.Revoked ∧ ((covP ⟨c.Kind, n.Depth, 0, ⟨0#64, 0#64, 0#64⟩⟩ c.Witness).1.length : Int) = c.Items)
def agrB (n : TNeed) (c w : TChoice) : Bool := decide (numE c w) && witB n c
theorem agr_J2 (n : TNeed) (c : TChoice) (hl : c.Witness.length * 8 ≤ 140737488355328) : plan_agrees_J1 n c true = some (witB n c) := by
  unfold plan_agrees_J1 witB
  rw [Bool.not_true, cond_false]
  unfold plan_agrees_J2
  by_cases h4 : c.Kind = 4#8
  · rw [decide_eq_true h4, cond_true, cond_true, if_pos h4]
    congr 1
    rw [decide_eq_decide]
    constructor
    · intro h; exact List.length_eq_zero_iff.1 (by omega)
    · intro h; rw [h]; rfl
  · rw [decide_eq_false h4, cond_false, if_neg h4, pcover_eq _ _ hl, bind_some]
    generalize covP ⟨c.Kind, n.Depth, 0, ⟨0#64, 0#64, 0#64⟩⟩ c.Witness = x
    by_cases a : x.2 = 0
    · rw [if_pos a]
      by_cases b : (c.Witness.length : Int) ≤ n.Revoked
      · rw [if_pos b]
        congr 1
        rw [decide_eq_decide]
        exact ⟨fun h => ⟨a, b, h⟩, fun h => h.2.2⟩
      · rw [if_neg b, decide_eq_false fun h => b h.2.1]
    · rw [if_neg a, decide_eq_false fun h => a h.1]
theorem agr_no (n : TNeed) (c : TChoice) : plan_agrees_J1 n c false = some false := rfl
theorem agrees_eq (n : TNeed) (c w : TChoice) (hl : c.Witness.length * 8 ≤ 140737488355328) : plan_agrees n c w = some (agrB n c w) := by
  unfold plan_agrees agrB
  by_cases h1 : c.Kind = w.Kind
  · rw [if_pos h1]
    by_cases h2 : c.Fits = w.Fits
    · rw [h2, beq_self_eq_true, cond_true]
      by_cases h3 : c.Items = w.Items ∧ c.Points = w.Points ∧ c.Header = w.Header ∧ c.Storage = w.Storage ∧ c.Cost = w.Cost
      · obtain ⟨e1, e2, e3, e4, e5⟩ := h3
        rw [decide_eq_true (show TA5_i64.mk c.Items c.Points c.Header c.Storage c.Cost = TA5_i64.mk w.Items w.Points w.Header w.Storage w.Cost by rw [e1, e2, e3, e4, e5]), agr_J2 n c hl, decide_eq_true (show numE c w from ⟨h1, h2, e1, e2, e3, e4, e5⟩), Bool.true_and]
      · rw [decide_eq_false (fun h => h3 (by injection h with a b c d e; exact ⟨a, b, c, d, e⟩)), agr_no, decide_eq_false (fun h => h3 h.2.2), Bool.false_and]
    · have : (c.Fits == w.Fits) = false := by simpa using h2
      rw [this, cond_false, agr_no, decide_eq_false (fun h => h2 h.2.1), Bool.false_and]
  · rw [if_neg h1, agr_no, decide_eq_false (fun h => h1 h.1), Bool.false_and]
theorem eqf_loop (n : TNeed) (p q : List TChoice) (hw : ∀ c ∈ p, c.Witness.length * 8 ≤ 140737488355328) (hp : p.length < 1000000) (hlen : p.length = q.length) : ∀ (k i f : Nat), p.length - i = k → i ≤ p.length → k < f → fixN (slices_EqualFunc_ff82_plan_Check_1_L1 p q n) f (i : Int) = some (((p.drop i).zip (q.drop i)).all fun x => agrB n x.1 x.2)
  | k, i, 0, _, _, hf => by omega
  | k, i, f + 1, hk, hi, hf => by
    rw [fix_step]
    unfold slices_EqualFunc_ff82_plan_Check_1_L1
    by_cases h : i < p.length
    · rw [if_pos (by omega), getI_some h, bind_some, getI_some (show i < q.length by omega), bind_some]
      unfold plan_Check_1
      rw [agrees_eq _ _ _ (hw _ (List.getElem_mem h)), bind_some, bind_some, List.drop_eq_getElem_cons h, List.drop_eq_getElem_cons (show i < q.length by omega), List.zip_cons_cons, List.all_cons]
      cases agrB n p[i] q[i] with
      | false => rw [Bool.not_false, cond_true, Bool.false_and]
      | true => rw [Bool.not_true, cond_false, Bool.true_and, w64_id (by omega) (by omega)]; exact eqf_loop n p q hw hp hlen (k - 1) (i + 1) f (by omega) (by omega) (by omega)
    · rw [if_neg (by omega), List.drop_eq_nil_of_le (by omega)]; rfl
def eqfB (n : TNeed) (p q : List TChoice) : Bool := decide (p.length = q.length) && (p.zip q).all fun x => agrB n x.1 x.2
theorem eqf_eq (n : TNeed) (p q : List TChoice) (hw : ∀ c ∈ p, c.Witness.length * 8 ≤ 140737488355328) (hp : p.length < 1000000) : slices_EqualFunc_ff82_plan_Check_1 p q n = some (eqfB n p q) := by
  unfold slices_EqualFunc_ff82_plan_Check_1 eqfB
  by_cases h : p.length = q.length
  · rw [if_neg (by omega), decide_eq_true h, Bool.true_and]
    have := eqf_loop n p q hw hp h _ 0 FUEL rfl (by omega) (fuel_lt (by omega))
    rw [show ((0 : Nat) : Int) = 0 from rfl] at this
    rw [this]; simp
  · rw [if_pos (by omega), decide_eq_false h, Bool.false_and]
theorem pck_eq {n : TNeed} (h : vnB n = true) (p : TPlan) (hw : ∀ c ∈ p.Choices, c.Witness.length * 8 ≤ 140737488355328) (hp : p.Choices.length < 1000000) : plan_Check n p = some (if p.Best = (bestP n).1 ∧ eqfB n p.Choices (chs n) = true then 0 else 100) := by
  unfold plan_Check
  rw [make_ok h, bind_some, if_neg (by simp)]
  show (if p.Best ≠ (bestP n).1 then _ else Option.bind (slices_EqualFunc_ff82_plan_Check_1 p.Choices (chs n) n) _) = _
  by_cases hb : p.Best = (bestP n).1
  · rw [if_neg (by simpa using hb), eqf_eq n _ _ hw hp, bind_some]
    unfold plan_Check_J1
    cases he : eqfB n p.Choices (chs n) with
    | false => rw [if_neg (by simp)]; rfl
    | true => rw [if_pos ⟨hb, rfl⟩]; rfl
  · rw [if_pos hb, if_neg (fun hc => hb hc.1)]; rfl
/-- the worst list may stand -/
theorem wit_ch {n : TNeed} (h : vnB n = true) {k : Nat} (hk : 1 ≤ k ∧ k ≤ 4) : witB n (chN n k) = true := by
  obtain ⟨d, r, hd, hr, h6, hr2⟩ := need_nat h
  by_cases h4 : k = 4
  · subst h4
    unfold chN
    rw [if_pos rfl]
    unfold ch4
    split <;> rfl
  · have hk3 : 1 ≤ k ∧ k ≤ 3 := by omega
    unfold chN
    rw [if_neg h4]
    unfold witB
    have hne : BitVec.ofNat 8 k ≠ 4#8 := fun hc => by have := congrArg BitVec.toNat hc; rw [of8_lt hk.2] at this; simp at this; omega
    rw [if_neg (show ¬ (ch3 n k).Kind = 4#8 from hne)]
    obtain ⟨hkm, hdm⟩ := kd_mem hk3 h6
    obtain ⟨_, l2, l3⟩ := list_tb hk3 h6 hr2
    obtain ⟨c1, c2⟩ := cov_ll k hkm d hdm _ l2
    refine decide_eq_true ?_
    show (covP ⟨BitVec.ofNat 8 k, n.Depth, 0, ⟨0#64, 0#64, 0#64⟩⟩ (lst k n.Depth.toNat n.Revoked.toNat)).2 = 0 ∧ _ ∧ ((covP ⟨BitVec.ofNat 8 k, n.Depth, 0, ⟨0#64, 0#64, 0#64⟩⟩ (lst k n.Depth.toNat n.Revoked.toNat)).1.length : Int) = (wst k n.Depth.toNat n.Revoked.toNat).1
    rw [hd, hr, Int.toNat_natCast, Int.toNat_natCast]
    refine ⟨c1, ?_, c2⟩
    show ((lst k n.Depth.toNat n.Revoked.toNat).length : Int) ≤ _
    rw [hd, hr, Int.toNat_natCast, Int.toNat_natCast]; omega
theorem agr_self {n : TNeed} (h : vnB n = true) {k : Nat} (hk : 1 ≤ k ∧ k ≤ 4) : agrB n (chN n k) (chN n k) = true := by
  unfold agrB
  rw [wit_ch h hk, Bool.and_true]
  exact decide_eq_true ⟨rfl, rfl, rfl, rfl, rfl, rfl, rfl⟩
theorem chs_wit {n : TNeed} (h : vnB n = true) {k : Nat} (hk : 1 ≤ k ∧ k ≤ 4) : (chN n k).Witness.length ≤ 64 := by
  obtain ⟨d, r, hd, hr, h6, hr2⟩ := need_nat h
  have h64 := pow64 h6
  unfold chN
  split
  · unfold ch4; split <;> exact Nat.zero_le _
  · have hk3 : 1 ≤ k ∧ k ≤ 3 := by omega
    obtain ⟨_, l2, l3⟩ := list_tb hk3 h6 hr2
    show (lst k n.Depth.toNat n.Revoked.toNat).length ≤ 64
    rw [hd, hr, Int.toNat_natCast, Int.toNat_natCast]; omega
theorem chs_mem {n : TNeed} {c : TChoice} (hc : c ∈ chs n) : ∃ k, (1 ≤ k ∧ k ≤ 4) ∧ c = chN n k := by
  unfold chs at hc
  simp only [List.mem_cons, List.not_mem_nil, or_false] at hc
  rcases hc with rfl | rfl | rfl | rfl
  · exact ⟨1, by omega, rfl⟩
  · exact ⟨2, by omega, rfl⟩
  · exact ⟨3, by omega, rfl⟩
  · exact ⟨4, by omega, rfl⟩
theorem pck_self {n : TNeed} (h : vnB n = true) : plan_Check n (plP n) = some 0 := by
  rw [pck_eq h _ (fun c hc => by obtain ⟨k, hk, rfl⟩ := chs_mem hc; have := chs_wit h hk; omega) (by show (chs n).length < _; simp [chs])]
  have he : eqfB n (chs n) (chs n) = true := by
    unfold eqfB chs
    rw [decide_eq_true rfl, Bool.true_and]
    simp only [List.zip_cons_cons, List.zip_nil_right, List.all_cons, List.all_nil, Bool.and_true]
    rw [agr_self h (by omega), agr_self h (by omega), agr_self h (by omega), agr_self h (by omega)]; rfl
  exact congrArg some (if_pos ⟨rfl, he⟩)
theorem chs_at {n : TNeed} {i : Nat} (hi : i < 4) : (chs n)[i]'(by unfold chs; simpa using hi) = chN n (i + 1) := by
  rcases (show i = 0 ∨ i = 1 ∨ i = 2 ∨ i = 3 by omega) with rfl | rfl | rfl | rfl <;> rfl
theorem chs_get {n : TNeed} {i : Nat} (hi : i < 4) : getI (chs n) (i : Int) = some (chN n (i + 1)) := by
  rw [getI_some (show i < (chs n).length by unfold chs; simpa using hi), chs_at hi]
theorem ch_kind (n : TNeed) {k : Nat} : (chN n k).Kind = BitVec.ofNat 8 k := by
  unfold chN
  split
  · rename_i h; subst h; unfold ch4; split <;> rfl
  · rfl
/-- what the best kind is -/
theorem best_cases (n : TNeed) : ((bestP n).1 = 0#8 ∧ ∀ j, j < 4 → (chN n (j + 1)).Fits = false) ∨ ∃ i, i < 4 ∧ (bestP n).1 = BitVec.ofNat 8 (i + 1) ∧ (chN n (i + 1)).Fits = true ∧ (∀ j, j < 4 → (chN n (j + 1)).Fits = true → (chN n (i + 1)).Cost ≤ (chN n (j + 1)).Cost ∧ ((chN n (j + 1)).Cost = (chN n (i + 1)).Cost → i ≤ j)) := by
  have hlen : (chs n).length = 4 := rfl
  rcases best_spec n with ⟨h1, h2⟩ | ⟨i, hi, h1, h2, h3, h4⟩
  · refine .inl ⟨h1, fun j hj => ?_⟩
    rw [← chs_at hj]; exact h2 _ (List.getElem_mem _)
  · have hi4 : i < 4 := hi
    rw [chs_at hi4] at h2 h3
    refine .inr ⟨i, hi, h1, h2, fun j hj hf => ?_⟩
    have := h4 j (by omega) (by rw [chs_at hj]; exact hf)
    rw [chs_at hj] at this
    rw [h3]; exact this
end Go.Sx.Pn

end
section
set_option linter.unusedVariables false
set_option maxRecDepth 100000
namespace Go.Sx.Pn
open Go Go.Sx
theorem alive10 : law10_alive = some true := by kernel_rfl
end Go.Sx.Pn

end
