/- merged by mg.py: Nm Vb Vp Ls Pse Fq Byp Pop Poq Pos Ip Iq Ir Iv Alp Oa Og Oh De Oi Oj OpnQe LawQe -/
import Derived.Test.YtkdghilkigojgaaPaM
import Derived.Test.YtkdghilkigojgaaFy
import Derived.Test.YtkdghilkigojgaaPbM
import Derived.Test.YtkdghilkigojgaaPcM
import Derived.Test.YtkdghilkigojgaaPl
import Derived.Test.YtkdghilkigojgaaPdM
import Derived.Test.YtkdghilkigojgaaPl4M
import Derived.KernelRfl
import Derived.Test.YtkdghilkigojgaaPln
import Derived.Test.YtkdghilkigojgaaOpn
import Derived.Test.YtkdghilkigojgaaRows
import Derived.Test.YtkdghilkigojgaaQeM
section
/- Numbers modulo, plainly: primes, powers, groups; the program's and the document's come to the same. -/
set_option linter.unusedVariables false
set_option linter.unusedSimpArgs false
set_option maxRecDepth 100000
namespace Go.Sx.Po
open Go

abbrev bn (n : Nat) : BitVec 64 := BitVec.ofNat 64 n
theorem bn_of (x : BitVec 64) : ∃ n, n < 18446744073709551616 ∧ x = bn n := ⟨x.toNat, x.isLt, by simp [bn]⟩
theorem bn_nat {n : Nat} (h : n < 18446744073709551616) : (bn n).toNat = n := by rw [bn, BitVec.toNat_ofNat]; exact Nat.mod_eq_of_lt h
theorem bn_inj {a b : Nat} (ha : a < 18446744073709551616) (hb : b < 18446744073709551616) : bn a = bn b ↔ a = b := by
  constructor
  · intro h; rw [← bn_nat ha, ← bn_nat hb, h]
  · intro h; rw [h]
theorem bn_lt {a b : Nat} (ha : a < 18446744073709551616) (hb : b < 18446744073709551616) : bn a < bn b ↔ a < b := by rw [BitVec.lt_def, bn_nat ha, bn_nat hb]
theorem bn_le {a b : Nat} (ha : a < 18446744073709551616) (hb : b < 18446744073709551616) : bn a ≤ bn b ↔ a ≤ b := by rw [BitVec.le_def, bn_nat ha, bn_nat hb]
theorem bn_mul (a b : Nat) : bn a * bn b = bn (a * b) := by apply BitVec.eq_of_toNat_eq; simp [bn]
theorem bn_add (a b : Nat) : bn a + bn b = bn (a + b) := by apply BitVec.eq_of_toNat_eq; simp [bn]
theorem bn_sub {a b : Nat} (ha : a < 18446744073709551616) (h : b ≤ a) : bn a - bn b = bn (a - b) := by
  apply BitVec.eq_of_toNat_eq
  rw [BitVec.toNat_sub, bn_nat ha, bn_nat (by omega), bn_nat (by omega)]; omega
theorem bn_shr (n : Nat) (h : n < 18446744073709551616) : bn n >>> 1 = bn (n / 2) := by
  apply BitVec.eq_of_toNat_eq
  rw [BitVec.toNat_ushiftRight, bn_nat h, bn_nat (by omega), Nat.shiftRight_eq_div_pow]
theorem bn_and1 (n : Nat) (h : n < 18446744073709551616) : bn n &&& 1#64 = bn (n % 2) := by
  apply BitVec.eq_of_toNat_eq
  rw [BitVec.toNat_and, bn_nat h, bn_nat (n := n % 2) (by omega)]
  exact Nat.and_one_is_mod n
theorem remU_bn {a m : Nat} (ha : a < 18446744073709551616) (hm : 0 < m) (hm2 : m < 18446744073709551616) : remU (bn a) (bn m) = some (bn (a % m)) := by
  have := Nat.mod_lt a hm
  unfold remU
  rw [if_neg (fun h => by have := (bn_inj (b := 0) hm2 (by omega)).1 h; omega)]
  congr 1
  apply BitVec.eq_of_toNat_eq
  rw [BitVec.toNat_umod, bn_nat ha, bn_nat hm2, bn_nat (by omega)]
theorem quoU_bn {a m : Nat} (ha : a < 18446744073709551616) (hm : 0 < m) (hm2 : m < 18446744073709551616) : quoU (bn a) (bn m) = some (bn (a / m)) := by
  have := Nat.div_le_self a m
  unfold quoU
  rw [if_neg (fun h => by have := (bn_inj (b := 0) hm2 (by omega)).1 h; omega)]
  congr 1
  apply BitVec.eq_of_toNat_eq
  rw [BitVec.toNat_udiv, bn_nat ha, bn_nat hm2, bn_nat (by omega)]
/-! primes -/
def Prm (n : Nat) : Prop := 2 ≤ n ∧ ∀ e, 2 ≤ e → e * e ≤ n → n % e ≠ 0
theorem prime_loop {n : Nat} (hn : n ≤ 1048575) (T : Bool) (F : (BitVec 64 → Option Bool) → BitVec 64 → Option Bool) (hF : ∀ rec a, F rec a = if a * a ≤ bn n then Option.bind (remU (bn n) a) fun x4 => if x4 = 0#64 then some false else rec (a + 1#64) else some T) :
    ∀ (m d f : Nat), d + m = 1025 → m < f → 2 ≤ d → ∃ b, fixN F f (bn d) = some b ∧ (b = true ↔ T = true ∧ ∀ e, d ≤ e → e * e ≤ n → n % e ≠ 0)
  | m, d, 0, _, h, _ => by omega
  | 0, d, f + 1, hd, _, h2 => by
    obtain rfl : d = 1025 := by omega
    rw [fix_step, hF, bn_mul, if_neg (by rw [bn_le (by omega) (by omega)]; omega)]
    refine ⟨T, rfl, fun h => ⟨h, fun e he hen => ?_⟩, fun h => h.1⟩
    have := Nat.mul_le_mul he he
    omega
  | m + 1, d, f + 1, hd, hf, h2 => by
    have hdd : d * d ≤ 1025 * 1025 := Nat.mul_le_mul (by omega) (by omega)
    rw [fix_step, hF, bn_mul]
    by_cases hle : d * d ≤ n
    · rw [if_pos ((bn_le (by omega) (by omega)).2 hle), remU_bn (by omega) (by omega) (by omega), bind_some]
      by_cases hz : n % d = 0
      · rw [hz, if_pos rfl]
        exact ⟨false, rfl, (fun h => by cases h), fun h => absurd hz (h.2 d (Nat.le_refl _) hle)⟩
      · have hzn : ¬ bn (n % d) = 0#64 := fun h => hz ((bn_inj (b := 0) (by have := Nat.mod_lt n (show 0 < d by omega); omega) (by omega)).1 h)
        rw [if_neg hzn, show (1#64) = bn 1 from rfl, bn_add]
        obtain ⟨b, e1, e2⟩ := prime_loop hn T F hF m (d + 1) f (by omega) (by omega) (by omega)
        refine ⟨b, e1, ?_⟩
        rw [e2]
        refine and_congr_right fun _ => ⟨fun h e he hen => ?_, fun h e he => h e (by omega)⟩
        rcases Nat.lt_or_ge d e with h' | h'
        · exact h e (by omega) hen
        · obtain rfl : e = d := by omega
          exact hz
    · rw [if_neg (fun h => hle ((bn_le (by omega) (by omega)).1 h))]
      refine ⟨T, rfl, fun h => ⟨h, fun e he hen => ?_⟩, fun h => h.1⟩
      have := Nat.mul_le_mul he he
      omega
theorem prime_eq {n : Nat} (h64 : n < 18446744073709551616) : ∃ b, number_prime (bn n) = some b ∧ (b = true ↔ n ≤ 1048575 ∧ Prm n) := by
  unfold number_prime number_prime_J1
  by_cases h2 : n < 2
  · rw [if_pos ((bn_lt h64 (b := 2) (by omega)).2 h2)]
    exact ⟨false, rfl, (fun h => by cases h), fun h => by have := h.2.1; omega⟩
  · rw [if_neg (fun h => h2 ((bn_lt h64 (b := 2) (by omega)).1 h))]
    by_cases hg : 1048575 < n
    · rw [decide_eq_true ((bn_lt (a := 1048575) (by omega) h64).2 hg)]
      exact ⟨false, rfl, (fun h => by cases h), fun h => by omega⟩
    · rw [decide_eq_false (fun h => hg ((bn_lt (a := 1048575) (by omega) h64).1 h)), cond_false]
      obtain ⟨b, e1, e2⟩ := prime_loop (n := n) (by omega) true (number_prime_L2 (bn n)) (fun rec a => rfl) 1023 2 FUEL (by omega) (fuel_lt (by omega)) (by omega)
      refine ⟨b, e1, ?_⟩
      rw [e2]; unfold Prm
      exact ⟨fun h => ⟨by omega, by omega, h.2⟩, fun h => ⟨rfl, h.2.2⟩⟩
theorem isPrime_eq {n : Nat} (hn : n ≤ 1048575) : ∃ b, ref01_IsPrime (bn n) = some b ∧ (b = true ↔ Prm n) := by
  obtain ⟨b, e1, e2⟩ := prime_loop (n := n) hn (decide (2#64 ≤ bn n)) (ref01_IsPrime_L1 (bn n)) (fun rec a => rfl) 1023 2 FUEL (by omega) (fuel_lt (by omega)) (by omega)
  refine ⟨b, e1, ?_⟩
  rw [e2, decide_eq_true_eq, show (2#64) = bn 2 from rfl, bn_le (by omega) (by omega)]; rfl
/-! powers -/
theorem pow_half (x n : Nat) : x ^ n = x ^ (n % 2) * (x * x) ^ (n / 2) := by
  have : x ^ n = x ^ (n % 2 + 2 * (n / 2)) := by congr 1; omega
  rw [this, Nat.pow_add, Nat.pow_mul, Nat.pow_two]
theorem pow_step {m x n o : Nat} : o * x ^ n % m = (if n % 2 = 1 then o * x % m else o) * (x * x % m) ^ (n / 2) % m := by
  rw [pow_half x n]
  rcases Nat.mod_two_eq_zero_or_one n with h | h
  · rw [h, if_neg (by omega), Nat.pow_zero, Nat.one_mul, Nat.mul_mod o ((x * x % m) ^ (n / 2)), ← Nat.pow_mod, ← Nat.mul_mod]
  · rw [h, if_pos rfl, Nat.pow_one, Nat.mul_mod (o * x % m), Nat.mod_mod, ← Nat.pow_mod, ← Nat.mul_mod, Nat.mul_assoc]
theorem power_loop {m : Nat} (hm : 0 < m) (hm2 : m < 4294967296) : ∀ (k n x o f : Nat), n < 2 ^ k → k ≤ 64 → k < f → x < m → o < m → fixN (number_power_L1 (bn m)) f (bn x, bn n, bn o) = some (bn (o * x ^ n % m))
  | k, n, x, o, 0, _, _, h, _, _ => by omega
  | 0, n, x, o, f + 1, hn, _, _, hx, ho => by
    obtain rfl : n = 0 := by simp at hn; exact hn
    rw [fix_step]; simp only [number_power_L1]
    rw [if_neg (by decide), Nat.pow_zero, Nat.mul_one, Nat.mod_eq_of_lt ho]
  | k + 1, n, x, o, f + 1, hn, hk, hf, hx, ho => by
    have hn64 : n < 18446744073709551616 := Nat.lt_of_lt_of_le hn (Nat.le_trans (Nat.pow_le_pow_right (by omega) hk) (by decide))
    have hxx : x * x < 18446744073709551616 := Nat.lt_of_le_of_lt (Nat.mul_le_mul (Nat.le_of_lt hx) (Nat.le_of_lt hx)) (by have := Nat.mul_lt_mul'' hm2 hm2; omega)
    have hox : o * x < 18446744073709551616 := Nat.lt_of_le_of_lt (Nat.mul_le_mul (Nat.le_of_lt ho) (Nat.le_of_lt hx)) (by have := Nat.mul_lt_mul'' hm2 hm2; omega)
    rw [fix_step]; simp only [number_power_L1]
    by_cases h0 : n = 0
    · subst h0
      rw [if_neg (by decide), Nat.pow_zero, Nat.mul_one, Nat.mod_eq_of_lt ho]
    · rw [if_pos ((bn_lt (a := 0) (by omega) hn64).2 (by omega)), bn_and1 n hn64, show shG (un 1#64) = some 1 from by decide, bn_mul, bn_mul, remU_bn hxx hm (by omega), remU_bn hox hm (by omega), pow_step]
      simp only [bind_some]
      rw [bn_shr n hn64]
      have hlt : n / 2 < 2 ^ k := by rw [Nat.pow_succ] at hn; omega
      have h1 := Nat.mod_lt (x * x) hm
      have h2 := Nat.mod_lt (o * x) hm
      by_cases hodd : n % 2 = 1
      · rw [if_pos (by rw [hodd]), if_pos hodd]
        exact power_loop hm hm2 k (n / 2) _ _ f hlt (by omega) (by omega) h1 h2
      · rw [if_neg (fun h => hodd ((bn_inj (b := 1) (by omega) (by omega)).1 h)), if_neg hodd]
        exact power_loop hm hm2 k (n / 2) _ _ f hlt (by omega) (by omega) h1 ho
theorem power_eq {b n m : Nat} (hb : b < 18446744073709551616) (hn : n < 18446744073709551616) (hm : 0 < m) (hm2 : m < 4294967296) : number_power (bn b) (bn n) (bn m) = some (bn (b ^ n % m)) := by
  unfold number_power
  rw [show (1#64) = bn 1 from rfl, remU_bn (by omega) hm (by omega), bind_some, remU_bn hb hm (by omega), bind_some, power_loop hm hm2 64 n _ _ FUEL (by omega) (by omega) (fuel_lt (by omega)) (Nat.mod_lt _ hm) (Nat.mod_lt _ hm), Nat.mod_mul_mod, Nat.one_mul, ← Nat.pow_mod]
theorem rpower_loop {m : Nat} (hm : 0 < m) (hm2 : m < 4294967296) : ∀ (k n x o f : Nat), n < 2 ^ k → k ≤ 64 → k < f → x < m → o < m → fixN (ref01_Power_L1 (bn m)) f (bn n, bn o, bn x) = some (bn (o * x ^ n % m))
  | k, n, x, o, 0, _, _, h, _, _ => by omega
  | 0, n, x, o, f + 1, hn, _, _, hx, ho => by
    obtain rfl : n = 0 := by simp at hn; exact hn
    rw [fix_step]; simp only [ref01_Power_L1]
    rw [if_neg (by decide), Nat.pow_zero, Nat.mul_one, Nat.mod_eq_of_lt ho]
  | k + 1, n, x, o, f + 1, hn, hk, hf, hx, ho => by
    have hn64 : n < 18446744073709551616 := Nat.lt_of_lt_of_le hn (Nat.le_trans (Nat.pow_le_pow_right (by omega) hk) (by decide))
    have hxx : x * x < 18446744073709551616 := Nat.lt_of_le_of_lt (Nat.mul_le_mul (Nat.le_of_lt hx) (Nat.le_of_lt hx)) (by have := Nat.mul_lt_mul'' hm2 hm2; omega)
    have hox : o * x < 18446744073709551616 := Nat.lt_of_le_of_lt (Nat.mul_le_mul (Nat.le_of_lt ho) (Nat.le_of_lt hx)) (by have := Nat.mul_lt_mul'' hm2 hm2; omega)
    rw [fix_step]; simp only [ref01_Power_L1]
    by_cases h0 : n = 0
    · subst h0
      rw [if_neg (by decide), Nat.pow_zero, Nat.mul_one, Nat.mod_eq_of_lt ho]
    · unfold ref01_Power_J2
      rw [if_pos ((bn_lt (a := 0) (by omega) hn64).2 (by omega)), show (2#64) = bn 2 from rfl, remU_bn hn64 (by omega) (by omega), bn_mul, bn_mul, remU_bn hxx hm (by omega), remU_bn hox hm (by omega), quoU_bn hn64 (by omega) (by omega), pow_step]
      simp only [bind_some]
      have hlt : n / 2 < 2 ^ k := by rw [Nat.pow_succ] at hn; omega
      have h1 := Nat.mod_lt (x * x) hm
      have h2 := Nat.mod_lt (o * x) hm
      by_cases hodd : n % 2 = 1
      · rw [if_pos (by rw [hodd]), if_pos hodd]
        exact rpower_loop hm hm2 k (n / 2) _ _ f hlt (by omega) (by omega) h1 h2
      · rw [if_neg (fun h => hodd ((bn_inj (b := 1) (by omega) (by omega)).1 h)), if_neg hodd]
        exact rpower_loop hm hm2 k (n / 2) _ _ f hlt (by omega) (by omega) h1 ho
theorem rpower_eq {b n m : Nat} (hb : b < 18446744073709551616) (hn : n < 18446744073709551616) (hm : 0 < m) (hm2 : m < 4294967296) : ref01_Power (bn b) (bn n) (bn m) = some (bn (b ^ n % m)) := by
  unfold ref01_Power
  rw [show (1#64) = bn 1 from rfl, remU_bn (by omega) hm (by omega), bind_some, remU_bn hb hm (by omega), bind_some, rpower_loop hm hm2 64 n _ _ FUEL (by omega) (by omega) (fuel_lt (by omega)) (Nat.mod_lt _ hm) (Nat.mod_lt _ hm), Nat.mod_mul_mod, Nat.one_mul, ← Nat.pow_mod]
end Go.Sx.Po

end
section
/- Bytes and words, plainly; and loops of n rounds. -/
set_option linter.unusedVariables false
set_option linter.unusedSimpArgs false
set_option maxRecDepth 100000
namespace Go.Sx.Po
open Go

theorem fix_go {τ R : Type} (F : (τ → Option R) → τ → Option R) (I : Nat → τ → Prop) (n : Nat) (r : Option R) (hn : n < 9223372036854775808) {s : τ} (h0 : I 0 s) (hs : ∀ j s, j < n → I j s → ∃ s', I (j + 1) s' ∧ ∀ rec, F rec s = rec s') (he : ∀ s, I n s → ∀ rec, F rec s = r) : fixN F FUEL s = r :=
  fix_run F I n r hs he n 0 FUEL s (by omega) (fuel_lt hn) h0
def valB (l : List (BitVec 8)) : BitVec 64 := l.foldl (fun n c => 256#64 * n + c.setWidth 64) 0#64
theorem shl_or (a : BitVec 64) (c : BitVec 8) : (a <<< 8) ||| (c.setWidth 64) = 256#64 * a + c.setWidth 64 := by
  have e1 : 256#64 * a = a <<< 8 := by
    apply BitVec.eq_of_toNat_eq
    rw [BitVec.toNat_mul, BitVec.toNat_shiftLeft, Nat.shiftLeft_eq, Nat.mul_comm]; rfl
  rw [e1]
  symm
  apply BitVec.add_eq_or_of_and_eq_zero
  apply BitVec.eq_of_getLsbD_eq
  intro j hj
  rw [BitVec.getLsbD_and, BitVec.getLsbD_shiftLeft, BitVec.getLsbD_setWidth, BitVec.getLsbD_zero]
  by_cases h : j < 8
  · simp [h]
  · simp [BitVec.getLsbD_of_ge c j (by omega)]
theorem valB_snoc (l : List (BitVec 8)) (c : BitVec 8) : valB (l ++ [c]) = 256#64 * valB l + c.setWidth 64 := by simp [valB]
theorem sh_step (x : BitVec 64) (s : Nat) : 256#64 * (x >>> (s + 8)) + ((x >>> s).setWidth 8).setWidth 64 = x >>> s := by
  rw [← shl_or]
  apply BitVec.eq_of_getLsbD_eq
  intro i hi
  simp only [BitVec.getLsbD_or, BitVec.getLsbD_shiftLeft, BitVec.getLsbD_ushiftRight, BitVec.getLsbD_setWidth]
  by_cases h : i < 8
  · simp [h, hi]
  · simp [h, hi, show s + 8 + (i - 8) = s + i from by omega]
theorem valB_w8 (x : BitVec 64) : valB (w8 x) = x := by
  have h0 : valB [] = x >>> 64 := by
    apply BitVec.eq_of_getLsbD_eq
    intro i hi
    rw [BitVec.getLsbD_ushiftRight, BitVec.getLsbD_of_ge x _ (by omega)]; simp [valB]
  have st : ∀ (l : List (BitVec 8)) (i : Nat), i ≤ 7 → valB l = x >>> (56 - 8 * i + 8) → valB (l ++ [byt x i]) = x >>> (56 - 8 * i) := fun l i hi hl => by
    rw [valB_snoc, hl]; exact sh_step x (56 - 8 * i)
  have h1 := st [] 0 (by omega) h0
  have h2 := st _ 1 (by omega) h1
  have h3 := st _ 2 (by omega) h2
  have h4 := st _ 3 (by omega) h3
  have h5 := st _ 4 (by omega) h4
  have h6 := st _ 5 (by omega) h5
  have h7 := st _ 6 (by omega) h6
  have h8 := st _ 7 (by omega) h7
  rw [show 56 - 8 * 7 = 0 from rfl, BitVec.ushiftRight_zero] at h8
  exact h8
theorem value_loop (l : List (BitVec 8)) (hx : l.length ≤ 1000) : ∀ (m i fuel : Nat), l.length - i = m → i ≤ l.length → m < fuel → fixN (ref02_Value_L1 l) fuel (valB (l.take i), (i : Int)) = some (valB l)
  | m, i, 0, _, _, hf => by omega
  | 0, i, fuel + 1, hm, hi, hf => by
    rw [fix_step]; simp only [ref02_Value_L1]; rw [if_neg (by omega), List.take_of_length_le (by omega)]
  | m + 1, i, fuel + 1, hm, hi, hf => by
    rw [fix_step]; simp only [ref02_Value_L1]
    rw [if_pos (by omega), getI_some (by omega), bind_some, ← valB_snoc, ← take_snoc _ _ (by omega), w64_id (by omega) (by omega)]
    exact value_loop l hx m (i + 1) fuel (by omega) (by omega) (by omega)
theorem value_eq (l : List (BitVec 8)) (h : l.length ≤ 1000) : ref02_Value l = some (valB l) := value_loop l h _ 0 FUEL rfl (by omega) (fuel_lt (by omega))
theorem kby_w8 (k : W2) : kby k = w8 k.1 ++ w8 k.2 := rfl
theorem words_aux (k : W2) (A B : List (BitVec 8)) (hA : A.length = 8) (hB : B.length = 8) (hk : kby k = A ++ B) : cipher_wordsOf k = some ⟨valB A, valB B⟩ := by
  unfold cipher_wordsOf
  refine fix_go _ (fun j x => x = ((j : Int), valB (A.take j), valB (B.take j))) 8 _ (by omega) (by simp [valB]) ?_ ?_
  · rintro j _ hj rfl
    refine ⟨_, rfl, fun rec => ?_⟩
    have h1 : j < A.length := by omega
    have h2 : j < B.length := by omega
    have g1 : getI (kby k) (j : Int) = some A[j] := by rw [hk, getI_some (by rw [List.length_append]; omega), List.getElem_append_left h1]
    have g2 : getI (kby k) ((8 + j : Nat) : Int) = some B[j] := by
      rw [hk, getI_some (by rw [List.length_append]; omega), List.getElem_append_right (by omega)]
      congr 2; omega
    simp only [cipher_wordsOf_L1]
    rw [if_pos (by omega), show shG (un 8#64) = some 8 from by decide, bind_some, g1, bind_some, bind_some, w64_id (n := 8 + (j : Int)) (by omega) (by omega), show (8 : Int) + (j : Int) = ((8 + j : Nat) : Int) from by omega, g2, bind_some, shl_or, shl_or, ← valB_snoc, ← valB_snoc, ← take_snoc _ _ h1, ← take_snoc _ _ h2, w64_nat (by omega)]
  · rintro _ rfl rec
    simp only [cipher_wordsOf_L1]
    rw [if_neg (by omega), List.take_of_length_le (by omega), List.take_of_length_le (by omega)]
theorem words_eq (k : W2) : cipher_wordsOf k = some ⟨k.1, k.2⟩ := by
  rw [words_aux k _ _ (w8_len _) (w8_len _) (kby_w8 k), valB_w8, valB_w8]
theorem number_eq (k : W2) (n m : BitVec 64) (hm : m ≠ 0#64) : cipher_Number k n m = some ((drv k (un8 3#8) n).1 % m) := by
  unfold cipher_Number
  rw [if_neg hm, words_eq, bind_some]
  simp only
  unfold remU
  rw [if_neg hm]; rfl
theorem rnumber_eq (k : W2) (n m : BitVec 64) (hm : m ≠ 0#64) : ref02_Number k n m = some ((drv k (un8 3#8) n).1 % m) := by
  unfold ref02_Number
  rw [if_neg hm, List.drop_zero, kby_w8, List.take_left' (w8_len _), value_eq _ (by rw [w8_len]; omega), bind_some, valB_w8]
  unfold remU
  rw [if_neg hm]; rfl
end Go.Sx.Po

end
section
/- Schemes with a polynomial, plainly: valid, coefficients, values. -/
set_option linter.unusedVariables false
set_option linter.unusedSimpArgs false
set_option maxRecDepth 100000
namespace Go.Sx.Po
open Go

def GrpOk (p q g : Nat) : Prop := (p ≤ 1048575 ∧ Prm p) ∧ (q ≤ 1048575 ∧ Prm q) ∧ (p - 1) % q = 0 ∧ 2 ≤ g ∧ g < p ∧ g ^ q % p = 1
theorem group_eq {p q g : Nat} (hp : p < 18446744073709551616) (hq : q < 18446744073709551616) (hg : g < 18446744073709551616) :
    ∃ b, number_CheckGroup ⟨bn p, bn q, bn g⟩ = some (if b = true then 0 else 13) ∧ ref01_ValidGroup ⟨bn p, bn q, bn g⟩ = some b ∧ (b = true ↔ GrpOk p q g) := by
  obtain ⟨b1, e1, i1⟩ := prime_eq hp
  obtain ⟨b2, e2, i2⟩ := prime_eq hq
  unfold number_CheckGroup ref01_ValidGroup
  simp only
  rw [e1, bind_some, show (1048575#64) = bn 1048575 from rfl]
  have no : ∀ (h : ¬ GrpOk p q g), (false = true ↔ GrpOk p q g) := fun h => ⟨(fun e => by cases e), fun e => absurd e h⟩
  by_cases hP : p ≤ 1048575 ∧ Prm p
  · have c0 : ¬ bn 1048575 < bn p := fun h => by have := (bn_lt (by omega) hp).1 h; omega
    rw [i1.2 hP, if_neg c0]
    obtain ⟨c1, f1, j1⟩ := isPrime_eq hP.1
    rw [f1, bind_some, j1.2 hP.2]
    simp only [Bool.not_true, cond_false]
    rw [e2, bind_some]
    by_cases hQ : q ≤ 1048575 ∧ Prm q
    · have c0' : ¬ bn 1048575 < bn q := fun h => by have := (bn_lt (by omega) hq).1 h; omega
      rw [i2.2 hQ, if_neg c0']
      obtain ⟨c2, f2, j2⟩ := isPrime_eq hQ.1
      rw [f2, bind_some, j2.2 hQ.2]
      simp only [Bool.not_true, cond_false]
      have hp2 := hP.2.1
      have hq2 := hQ.2.1
      rw [show (1#64) = bn 1 from rfl, bn_sub hp (by omega), remU_bn (by omega) (by omega) hq, bind_some, bind_some]
      have hmod := Nat.mod_lt (p - 1) (show 0 < q by omega)
      unfold number_CheckGroup_J1 ref01_ValidGroup_J1
      simp only
      by_cases hz : (p - 1) % q = 0
      · rw [hz, if_neg (by simp), decide_eq_false (by simp), cond_false, show (2#64) = bn 2 from rfl]
        by_cases h2 : 2 ≤ g
        · have c3 : ¬ bn g < bn 2 := fun h => by have := (bn_lt hg (by omega)).1 h; omega
          have c4 : bn 2 ≤ bn g := (bn_le (by omega) hg).2 h2
          rw [if_neg c3, if_pos c4]
          by_cases h3 : g < p
          · have c5 : ¬ bn p ≤ bn g := fun h => by have := (bn_le hp hg).1 h; omega
            have c6 : bn g < bn p := (bn_lt hg hp).2 h3
            rw [if_neg c5, if_pos c6, power_eq hg hq (by omega) (by omega), rpower_eq hg hq (by omega) (by omega), bind_some, bind_some]
            have hpm := Nat.mod_lt (g ^ q) (show 0 < p by omega)
            have hone : bn (g ^ q % p) = bn 1 ↔ g ^ q % p = 1 := bn_inj (by omega) (by omega)
            refine ⟨decide (bn (g ^ q % p) = bn 1), ?_, rfl, ?_⟩
            · by_cases h4 : bn (g ^ q % p) = bn 1
              · rw [decide_eq_false (by simpa using h4), decide_eq_true h4]; rfl
              · rw [decide_eq_true h4, decide_eq_false h4]; rfl
            · rw [decide_eq_true_eq, hone]
              exact ⟨fun h => ⟨hP, hQ, hz, h2, h3, h⟩, fun h => h.2.2.2.2.2⟩
          · have c5 : bn p ≤ bn g := (bn_le hp hg).2 (by omega)
            have c6 : ¬ bn g < bn p := fun h => h3 ((bn_lt hg hp).1 h)
            rw [if_pos c5, if_neg c6]
            exact ⟨false, rfl, rfl, no fun h => h3 h.2.2.2.2.1⟩
        · have c3 : bn g < bn 2 := (bn_lt hg (by omega)).2 (by omega)
          have c4 : ¬ bn 2 ≤ bn g := fun h => h2 ((bn_le (by omega) hg).1 h)
          rw [if_pos c3, if_neg c4]
          exact ⟨false, rfl, rfl, no fun h => h2 h.2.2.2.1⟩
      · have hz' : bn ((p - 1) % q) ≠ 0#64 := fun h => hz ((bn_inj (b := 0) (by omega) (by omega)).1 h)
        rw [if_pos hz', decide_eq_true hz']
        exact ⟨false, rfl, rfl, no fun h => hz h.2.2.1⟩
    · have hb2 : b2 = false := by cases b2 with | false => rfl | true => exact absurd (i2.1 rfl) hQ
      rw [hb2]
      refine ⟨false, rfl, ?_, no fun h => hQ h.2.1⟩
      by_cases hg' : 1048575 < q
      · have c0' : bn 1048575 < bn q := (bn_lt (by omega) hq).2 hg'
        rw [if_pos c0']; rfl
      · have c0' : ¬ bn 1048575 < bn q := fun h => hg' ((bn_lt (by omega) hq).1 h)
        rw [if_neg c0']
        obtain ⟨c2, f2, j2⟩ := isPrime_eq (n := q) (by omega)
        have : c2 = false := by cases c2 with | false => rfl | true => exact absurd ⟨by omega, j2.1 rfl⟩ hQ
        rw [f2, bind_some, this]; rfl
  · have hb1 : b1 = false := by cases b1 with | false => rfl | true => exact absurd (i1.1 rfl) hP
    rw [hb1]
    refine ⟨false, rfl, ?_, no fun h => hP h.1⟩
    by_cases hg' : 1048575 < p
    · have c0 : bn 1048575 < bn p := (bn_lt (by omega) hp).2 hg'
      rw [if_pos c0]; rfl
    · have c0 : ¬ bn 1048575 < bn p := fun h => hg' ((bn_lt (by omega) hp).1 h)
      rw [if_neg c0]
      obtain ⟨c1, f1, j1⟩ := isPrime_eq (n := p) (by omega)
      have : c1 = false := by cases c1 with | false => rfl | true => exact absurd ⟨by omega, j1.1 rfl⟩ hP
      rw [f1, bind_some, this]; rfl
/-! schemes -/
theorem recv_fin : ∀ d : Fin 7, ref03_Receivers (d.1 : Int) = some ((2 ^ d.1 : Nat) : Int) := by decide +kernel
theorem recv_eq {d : Nat} (h : d ≤ 6) : ref03_Receivers (d : Int) = some ((2 ^ d : Nat) : Int) := recv_fin ⟨d, by omega⟩
theorem shl_fin : ∀ d : Fin 7, shlI 1 d.1 = ((2 ^ d.1 : Nat) : Int) := by decide +kernel
theorem shl1 {d : Nat} (h : d ≤ 6) : shlI 1 d = ((2 ^ d : Nat) : Int) := shl_fin ⟨d, by omega⟩
theorem shG_nat (n : Nat) : shG (n : Int) = some n := by unfold shG; rw [if_pos (by omega)]; rfl
theorem pow_le64 {d : Nat} (h : d ≤ 6) : 2 ^ d ≤ 64 := Nat.le_trans (Nat.pow_le_pow_right (by omega) h) (by decide)
theorem wd_nat (n : Nat) : wd (n : Int) = bn n := by unfold wd bn; exact BitVec.ofInt_natCast 64 n
/-- a valid scheme, in numbers -/
structure Vld (s : TScheme) (d t p q g : Nat) : Prop where
  kind : s.Kind = 4#8
  depth : s.Depth = (d : Int)
  deg : s.Degree = (t : Int)
  d6 : d ≤ 6
  t1 : 1 ≤ t
  t8 : t ≤ 8
  grp : s.Group = ⟨bn p, bn q, bn g⟩
  ok : GrpOk p q g
  big : 2 ^ d + t < q
theorem valid_eq (s : TScheme) : (poly_valid s = some false ∧ ref04_Valid s = some false) ∨ (poly_valid s = some true ∧ ref04_Valid s = some true ∧ ∃ d t p q g, Vld s d t p q g) := by
  obtain ⟨kd, dp, dg, ⟨P, Q, G⟩⟩ := s
  obtain ⟨p, hp, rfl⟩ := bn_of P
  obtain ⟨q, hq, rfl⟩ := bn_of Q
  obtain ⟨g, hg, rfl⟩ := bn_of G
  unfold poly_valid ref04_Valid ref04_Valid_J1
  simp only
  by_cases h1 : kd = 4#8
  · rw [if_pos h1, if_neg (show ¬ kd ≠ 4#8 from fun h => h h1)]
    by_cases h2 : 0 ≤ dp
    · rw [if_pos h2, if_neg (show ¬ dp < 0 by omega)]
      by_cases h3 : dp ≤ 6
      · rw [if_pos h3, if_neg (show ¬ 6 < dp by omega)]
        by_cases h4 : 1 ≤ dg
        · rw [if_pos h4, if_neg (show ¬ dg < 1 by omega)]
          by_cases h5 : dg ≤ 8
          · rw [if_pos h5, if_neg (show ¬ 8 < dg by omega)]
            obtain ⟨b, e1, e2, i⟩ := group_eq hp hq hg
            rw [e1, e2, bind_some, bind_some]
            cases b with
            | false => exact .inl ⟨rfl, rfl⟩
            | true =>
              obtain ⟨d, rfl⟩ : ∃ d : Nat, dp = (d : Int) := ⟨dp.toNat, by omega⟩
              obtain ⟨t, rfl⟩ : ∃ t : Nat, dg = (t : Int) := ⟨dg.toNat, by omega⟩
              have h64 := pow_le64 (d := d) (by omega)
              have hpp := Nat.two_pow_pos d
              simp only [Bool.not_true, cond_false, if_true]
              rw [shG_nat, bind_some, recv_eq (by omega), bind_some, shl1 (by omega), w64_id (by omega) (by omega), show ((2 ^ d : Nat) : Int) + (t : Int) = ((2 ^ d + t : Nat) : Int) from by omega, wd_nat]
              by_cases hlt : 2 ^ d + t < q
              · rw [decide_eq_true ((bn_lt (by omega) hq).2 hlt)]
                exact .inr ⟨rfl, rfl, d, t, p, q, g, ⟨h1, rfl, rfl, by omega, by omega, by omega, rfl, i.1 rfl, hlt⟩⟩
              · rw [decide_eq_false (fun h => hlt ((bn_lt (by omega) hq).1 h))]; exact .inl ⟨rfl, rfl⟩
          · rw [if_neg h5, if_pos (show 8 < dg by omega)]; exact .inl ⟨rfl, rfl⟩
        · rw [if_neg h4, if_pos (show dg < 1 by omega)]; exact .inl ⟨rfl, rfl⟩
      · rw [if_neg h3, if_pos (show 6 < dp by omega)]; exact .inl ⟨rfl, rfl⟩
    · rw [if_neg h2, if_pos (show dp < 0 by omega)]; exact .inl ⟨rfl, rfl⟩
  · rw [if_neg h1, if_pos (show kd ≠ 4#8 from h1)]; exact .inl ⟨rfl, rfl⟩
theorem Vld.qb {s : TScheme} {d t p q g : Nat} (h : Vld s d t p q g) : 2 ≤ q ∧ q ≤ 1048575 := ⟨h.ok.2.1.2.1, h.ok.2.1.1⟩
theorem Vld.pb {s : TScheme} {d t p q g : Nat} (h : Vld s d t p q g) : 2 ≤ p ∧ p ≤ 1048575 := ⟨h.ok.1.2.1, h.ok.1.1⟩
/-! coefficients -/
def cfN (root : W2) (q i : Nat) : Nat := (drv (drv root (un8 40#8) 0#64) (un8 3#8) (bn i)).1.toNat % q
def cfs (root : W2) (q t : Nat) : List Nat := (List.range (t + 1)).map (cfN root q)
theorem cfs_lt {root : W2} {q t : Nat} (hq : 0 < q) : ∀ c ∈ cfs root q t, c < q := by
  intro c hc
  obtain ⟨i, _, rfl⟩ := List.mem_map.1 hc
  exact Nat.mod_lt _ hq
theorem mod_bn (x : BitVec 64) {q : Nat} (hq : 0 < q) (hq2 : q < 18446744073709551616) : x % bn q = bn (x.toNat % q) := by
  apply BitVec.eq_of_toNat_eq
  have := Nat.mod_lt x.toNat hq
  rw [BitVec.toNat_umod, bn_nat hq2, bn_nat (by omega)]
theorem bn_ne0 {q : Nat} (hq : 0 < q) (hq2 : q < 18446744073709551616) : bn q ≠ 0#64 := fun h => by have := (bn_inj (b := 0) hq2 (by omega)).1 h; omega
theorem secret_eq {s : TScheme} {d t p q g : Nat} (h : Vld s d t p q g) (root : W2) : poly_secret root s = some ((cfs root q t).map bn) := by
  obtain ⟨q1, q2⟩ := h.qb
  have ht := h.t8
  unfold poly_secret
  rw [h.deg, w64_id (by omega) (by omega), show (t : Int) + 1 = ((t + 1 : Nat) : Int) from by omega, mkL, if_pos (by omega), bind_some, Int.toNat_natCast]
  refine fix_go _ (fun j x => x = ((List.range (t + 1)).map (fun i => if i < j then bn (cfN root q i) else 0#64), (j : Int))) (t + 1) _ (by omega) ?_ ?_ ?_
  · congr 1
    apply List.ext_getElem
    · simp
    · intro i _ _; simp
  · rintro j _ hj rfl
    refine ⟨_, rfl, fun rec => ?_⟩
    simp only [poly_secret_L1]
    have hjl : j < ((List.range (t + 1)).map (fun i => if i < j then bn (cfN root q i) else 0#64)).length := by simpa using hj
    rw [if_pos (by simp; omega), h.grp, wd_nat]
    simp only
    rw [number_eq _ _ _ (bn_ne0 (by omega) (by omega)), bind_some, getI_some hjl, bind_some, Int.toNat_natCast, w64_nat (by omega), mod_bn _ (by omega) (by omega)]
    congr 2
    apply List.ext_getElem
    · simp
    · intro i h1 h2
      rw [List.getElem_set]
      simp only [List.getElem_map, List.getElem_range]
      by_cases e : j = i
      · subst e; rw [if_pos rfl, if_pos (by omega)]; rfl
      · rw [if_neg e]
        by_cases e2 : i < j
        · rw [if_pos e2, if_pos (by omega)]
        · rw [if_neg e2, if_neg (by omega)]
  · rintro _ rfl rec
    simp only [poly_secret_L1]
    rw [if_neg (by simp)]
    congr 1
    unfold cfs
    rw [List.map_map]
    apply List.map_congr_left
    intro i hi
    rw [if_pos (List.mem_range.1 hi)]; rfl
/-! values -/
def evN (l : List Nat) (x : Nat) : Nat := l.foldr (fun c a => c + x * a) 0
theorem mul2_eq {q a b : Nat} (hq : 2 ≤ q) (hq2 : q ≤ 1048575) (ha : a < q) (hb : b < q) : poly_field_mul (bn q) [bn a, bn b] = some (bn (a * b % q)) := by
  unfold poly_field_mul
  have hab : a * b < 18446744073709551616 := Nat.lt_of_le_of_lt (Nat.mul_le_mul (Nat.le_of_lt ha) (Nat.le_of_lt hb)) (by have := Nat.mul_le_mul hq2 hq2; omega)
  rw [show FUEL = 18446744073709551613 + 1 + 1 + 1 from rfl, fix_step]
  simp only [poly_field_mul_L1]
  rw [if_pos (by simp), show getI [bn a, bn b] 0 = some (bn a) from rfl, bind_some, show (1#64) = bn 1 from rfl, bn_mul, Nat.one_mul, remU_bn (by omega) (by omega) (by omega), bind_some, Nat.mod_eq_of_lt ha, show w64 (0 + 1) = 1 from by decide, fix_step]
  simp only [poly_field_mul_L1]
  rw [if_pos (by simp), show getI [bn a, bn b] 1 = some (bn b) from rfl, bind_some, bn_mul, remU_bn hab (by omega) (by omega), bind_some, show w64 (1 + 1) = 2 from by decide, fix_step]
  simp only [poly_field_mul_L1]
  rw [if_neg (by simp)]
theorem back_loop (l : List (BitVec 64)) (hl : l.length < 4611686018427387904) : ∀ (k f : Nat), k ≤ l.length → k < f → fixN (slices_Backward_1_20b1_L1 l) f ((k : Int) - 1) = some ((List.range k).reverse.map fun i : Nat => ((i : Int), l.getD i 0#64))
  | k, 0, _, h => by omega
  | 0, f + 1, _, _ => by
    rw [fix_step]; simp only [slices_Backward_1_20b1_L1]; rw [if_neg (by omega)]; rfl
  | k + 1, f + 1, hk, hf => by
    rw [fix_step]; simp only [slices_Backward_1_20b1_L1]
    rw [show ((k + 1 : Nat) : Int) - 1 = (k : Int) from by omega, if_pos (by omega), getI_some (by omega), bind_some, w64_id (by omega) (by omega), back_loop l hl k f (by omega) (by omega), yl_some', List.range_succ, List.reverse_append, List.map_append]
    have hkk : k < l.length := by omega
    simp [hkk]
theorem at_loop {q x : Nat} (hq : 2 ≤ q) (hq2 : q ≤ 1048575) (hx : x < q) (l : List Nat) (hl : ∀ c ∈ l, c < q) : ∀ (k : Nat), k ≤ l.length → itL (poly_polynomial_at_R1 (bn q) (bn x)) poly_polynomial_at_D1 ((List.range k).reverse.map fun i : Nat => ((i : Int), (l.map bn).getD i 0#64)) (bn (evN (l.drop k) x % q)) = some (bn (evN l x % q))
  | 0, _ => by rw [List.drop_zero]; rfl
  | k + 1, hk => by
    have hkl : k < l.length := by omega
    rw [List.range_succ, List.reverse_append, List.map_append, show ([k].reverse.map fun i : Nat => ((i : Int), (l.map bn).getD i 0#64)) = [((k : Int), bn l[k])] from by simp [List.getD, hkl], List.singleton_append, itL_cons]
    simp only [poly_polynomial_at_R1]
    have hc := hl _ (List.getElem_mem hkl)
    have hm := Nat.mod_lt (evN (l.drop (k + 1)) x) (show 0 < q by omega)
    have hm2 := Nat.mod_lt (evN (l.drop (k + 1)) x % q * x) (show 0 < q by omega)
    rw [mul2_eq hq hq2 hm hx, bind_some, bn_add, remU_bn (by omega) (by omega) (by omega), bind_some]
    have he : (evN (l.drop (k + 1)) x % q * x % q + l[k]) % q = evN (l.drop k) x % q := by
      rw [List.drop_eq_getElem_cons hkl, show evN (l[k] :: l.drop (k + 1)) x = l[k] + x * evN (l.drop (k + 1)) x from rfl, Nat.mod_mul_mod, Nat.mod_add_mod, Nat.add_comm, Nat.mul_comm]
    rw [he]
    exact at_loop hq hq2 hx l hl k (by omega)
theorem at_eq {q x : Nat} (hq : 2 ≤ q) (hq2 : q ≤ 1048575) (hx : x < q) (l : List Nat) (hl : ∀ c ∈ l, c < q) (hlen : l.length < 4611686018427387904) : poly_polynomial_at (l.map bn) (bn q) (bn x) = some (bn (evN l x % q)) := by
  unfold poly_polynomial_at slices_Backward_dc0b slices_Backward_1_20b1
  rw [bind_some, w64_id (by rw [List.length_map]; omega) (by rw [List.length_map]; omega), back_loop _ (by rw [List.length_map]; exact hlen) _ FUEL (Nat.le_refl _) (fuel_lt (by rw [List.length_map]; omega)), bind_some, List.length_map]
  have := at_loop hq hq2 hx l hl l.length (Nat.le_refl _)
  rw [List.drop_length, show evN [] x % q = 0 from by simp [evN]] at this
  exact this
end Go.Sx.Po

end
section
/- Lists of receivers, plainly; things compared with themselves. -/
set_option linter.unusedVariables false
set_option linter.unusedSimpArgs false
set_option maxRecDepth 100000
namespace Go.Sx.Po
open Go

/-- whether numbers are receivers, in ascending order -/
def lstB (d : Nat) (l : List Int) : Bool := (List.range l.length).all fun j => decide (0 ≤ l.getD j 0 ∧ l.getD j 0 < ((2 ^ d : Nat) : Int)) && (decide (j = 0) || decide (l.getD (j - 1) 0 < l.getD j 0))
theorem getD_some {l : List Int} {j : Nat} (h : j < l.length) : l.getD j 0 = l[j] := by simp [List.getD, h]
/-- a loop that leaves at the first element without a property -/
theorem all_itL {R : Type} (p : Nat → Bool) (D E : Option R) : ∀ (l : List Nat) (F : Nat → (Unit → Option R) → Unit → Option R), (∀ a ∈ l, ∀ nx s, F a nx s = bif p a then nx s else E) → itL F (fun _ => D) l () = bif l.all p then D else E
  | [], F, h => rfl
  | a :: l, F, h => by
    rw [itL_cons, h a (by simp), List.all_cons]
    cases p a with
    | false => rfl
    | true => rw [cond_true, Bool.true_and]; exact all_itL p D E l F (fun b hb => h b (by simp [hb]))
theorem rlist_eq {d : Nat} (h6 : d ≤ 6) (l : List Int) (hl : l.length < 4611686018427387904) : ref03_IsList (d : Int) l = some (lstB d l) := by
  unfold ref03_IsList lstB
  have := fix_range l.length (ref03_IsList_L1 (d : Int) l) (fun j (_ : Unit) => (j : Int)) (fun j nx s => bif decide (0 ≤ l.getD j 0 ∧ l.getD j 0 < ((2 ^ d : Nat) : Int)) && (decide (j = 0) || decide (l.getD (j - 1) 0 < l.getD j 0)) then nx s else some false) (fun _ => some true)
    (fun rec j hj _ => by
      simp only [ref03_IsList_L1, ref03_IsList_J2]
      rw [if_pos (by omega), getI_some hj, bind_some, bind_some, recv_eq h6, bind_some, getD_some hj, w64_nat (by omega)]
      by_cases h : 0 ≤ l[j]
      · rw [if_neg (by omega)]
        by_cases h2 : l[j] < ((2 ^ d : Nat) : Int)
        · rw [if_neg (by omega), decide_eq_true ⟨h, h2⟩]
          simp only [Bool.true_and]
          by_cases h0 : j = 0
          · rw [if_neg (by omega), decide_eq_true h0]; rfl
          · have hj1 : j - 1 < l.length := by omega
            rw [if_pos (by omega), bind_some, w64_id (by omega) (by omega), show (j : Int) - 1 = ((j - 1 : Nat) : Int) from by omega, getI_some hj1, bind_some, decide_eq_false h0, Bool.false_or, getD_some hj1]
            by_cases h1 : l[j] ≤ l[j - 1]
            · rw [decide_eq_true h1, decide_eq_false (by omega)]; rfl
            · rw [decide_eq_false h1, decide_eq_true (by omega)]; rfl
        · rw [if_pos (by omega), decide_eq_false (by omega)]; rfl
      · rw [if_pos (by omega), decide_eq_false (by omega)]; rfl)
    (fun rec _ => by simp only [ref03_IsList_L1]; rw [if_neg (by omega)]) (f := FUEL) (fuel_lt (by omega)) ()
  rw [show ((0 : Nat) : Int) = 0 from rfl] at this
  rw [this, all_itL _ (some true) (some false) _ _ (fun a _ nx s => rfl)]
  cases (List.range l.length).all _ <;> rfl
theorem lst_all {d : Nat} {l : List Int} (h : lstB d l = true) {j : Nat} (hj : j < l.length) : (0 ≤ l[j] ∧ l[j] < ((2 ^ d : Nat) : Int)) ∧ (j = 0 ∨ l.getD (j - 1) 0 < l[j]) := by
  have := List.all_eq_true.1 h j (by simpa using hj)
  rw [Bool.and_eq_true, decide_eq_true_eq, getD_some hj, Bool.or_eq_true, decide_eq_true_eq, decide_eq_true_eq] at this
  exact this
/-- the receivers of a list, as numbers -/
theorem lst_nat {d : Nat} {l : List Int} (h : lstB d l = true) : ∃ ln : List Nat, l = ln.map (fun n : Nat => (n : Int)) ∧ (∀ n ∈ ln, n < 2 ^ d) ∧ ln.Pairwise (· < ·) := by
  refine ⟨l.map Int.toNat, ?_, ?_, ?_⟩
  · rw [List.map_map]
    apply List.ext_getElem
    · simp
    · intro i h1 h2
      have := (lst_all h h1).1.1
      simp only [List.getElem_map, Function.comp_apply]; omega
  · intro n hn
    obtain ⟨a, ha, rfl⟩ := List.mem_map.1 hn
    obtain ⟨j, hj, rfl⟩ := List.mem_iff_getElem.1 ha
    have := (lst_all h hj).1; omega
  · rw [List.pairwise_iff_getElem]
    have key : ∀ (m i : Nat) (h2 : i + m + 1 < l.length), l[i] < l[i + m + 1] := by
      intro m
      induction m with
      | zero =>
        intro i h2
        have := (lst_all h h2).2
        rw [getD_some (by omega)] at this
        simp only [Nat.add_zero, Nat.add_sub_cancel] at this ⊢
        omega
      | succ m ih =>
        intro i h2
        have h3 := ih i (by omega)
        have := (lst_all h h2).2
        rw [getD_some (by omega)] at this
        have e : l[i + (m + 1) + 1 - 1]'(by omega) = l[i + m + 1]'(by omega) := by congr 1
        rw [e] at this
        omega
    intro i j hi hj hij
    simp only [List.length_map] at hi hj
    simp only [List.getElem_map]
    have h1 := (lst_all h hi).1
    have h2 := key (j - i - 1) i (by omega)
    have e : l[i + (j - i - 1) + 1]'(by omega) = l[j] := by congr 1; omega
    rw [e] at h2
    omega
theorem lst_of {d : Nat} {ln : List Nat} (h1 : ∀ n ∈ ln, n < 2 ^ d) (h2 : ln.Pairwise (· < ·)) : lstB d (ln.map fun n : Nat => (n : Int)) = true := by
  unfold lstB
  rw [List.all_eq_true]
  intro j hj
  have hj' : j < ln.length := by simpa using hj
  have hl : j < (ln.map fun n : Nat => (n : Int)).length := by simpa using hj'
  rw [getD_some hl, List.getElem_map]
  have ha := h1 _ (List.getElem_mem hj')
  rw [Bool.and_eq_true, decide_eq_true_eq, Bool.or_eq_true, decide_eq_true_eq, decide_eq_true_eq]
  refine ⟨by omega, ?_⟩
  by_cases h0 : j = 0
  · exact .inl h0
  · right
    rw [getD_some (by simp; omega), List.getElem_map]
    have := (List.pairwise_iff_getElem.1 h2) (j - 1) j (by omega) hj' (by omega)
    omega
/-! the same -/
theorem same_go {R : Type} (n : Nat) (F : (Int → Option R) → Int → Option R) (r : Option R) (hn : n < 4611686018427387904) (h1 : ∀ rec (j : Nat), j < n → F rec (j : Int) = rec ((j + 1 : Nat) : Int)) (h2 : ∀ rec, F rec (n : Int) = r) : fixN F FUEL 0 = r :=
  fix_go F (fun j s => s = (j : Int)) n r (by omega) rfl (fun j s hj hs => ⟨_, rfl, fun rec => by rw [hs]; exact h1 rec j hj⟩) (fun s hs rec => by rw [hs]; exact h2 rec)
end Go.Sx.Po

end
section
/- Sealing with a polynomial, plainly: what a header is; both sides come to it. -/
set_option linter.unusedVariables false
set_option linter.unusedSimpArgs false
set_option maxRecDepth 100000
namespace Go.Sx.Po
open Go

theorem pmod_eq {b n p : Nat} (hb : b < 18446744073709551616) (hn : n < 18446744073709551616) (hp : 1 ≤ p) (hp2 : p < 4294967296) : number_PowMod (bn b) (bn n) (bn p) = some (bn (b ^ n % p), 0) := by
  unfold number_PowMod number_modulus
  rw [show (1#64) = bn 1 from rfl, if_pos ((bn_le (by omega) (by omega)).2 hp), bind_some, show (4294967296#64) = bn 4294967296 from rfl, decide_eq_true ((bn_lt (by omega) (by omega)).2 hp2)]
  simp only [Bool.not_true, cond_false]
  rw [power_eq hb hn (by omega) hp2, bind_some]
section
variable {s : TScheme} {d t p q g : Nat}
theorem ppow_eq (h : Vld s d t p q g) {b n : Nat} (hb : b < 18446744073709551616) (hn : n < 18446744073709551616) : poly_power s (bn b) (bn n) = some (bn (b ^ n % p)) := by
  obtain ⟨p1, p2⟩ := h.pb
  unfold poly_power
  rw [h.grp]
  simp only
  rw [pmod_eq hb hn (by omega) (by omega), bind_some]
end
/-- the value of the secret polynomial -/
def fN (root : W2) (q t x : Nat) : Nat := evN (cfs root q t) x % q
/-- the exponent of a header's base -/
def rN (root : W2) (q : Nat) (nonce : BitVec 64) : Nat := 1 + (drv (drv root (un8 41#8) nonce) (un8 3#8) 0#64).1.toNat % (q - 1)
def baseN (root : W2) (p q g : Nat) (nonce : BitVec 64) : Nat := g ^ rN root q nonce % p
def ptN (root : W2) (p q t b x : Nat) : TPoint := ⟨bn x, bn (b ^ fN root q t x % p)⟩
/-- the numbers at which a header has points -/
def xsN (d t : Nat) (ln : List Nat) : List Nat := ln.map (· + 1) ++ (List.range (t - ln.length)).map fun i => 2 ^ d + 1 + i
def hdN (root : W2) (d t p q g : Nat) (ln : List Nat) (session : W2) (nonce : BitVec 64) : THeader :=
  ⟨[], bn (baseN root p q g nonce), (xsN d t ln).map (ptN root p q t (baseN root p q g nonce)), encr (drv k0 (un8 42#8) (bn (baseN root p q g nonce ^ fN root q t 0 % p))) session, drv session (un8 53#8) 0#64⟩
theorem xsN_len {d t : Nat} {ln : List Nat} (h : ln.length ≤ t) : (xsN d t ln).length = t := by simp [xsN]; omega
section
variable {s : TScheme} {d t p q g : Nat}
theorem fN_lt (h : Vld s d t p q g) (root : W2) (x : Nat) : fN root q t x < q := Nat.mod_lt _ (by have := h.qb; omega)
theorem baseN_lt (h : Vld s d t p q g) (root : W2) (nonce : BitVec 64) : baseN root p q g nonce < p := Nat.mod_lt _ (by have := h.pb; omega)
theorem cfs_len (root : W2) : (cfs root q t).length = t + 1 := by simp [cfs]
theorem xs_lt (h : Vld s d t p q g) {ln : List Nat} (hl : ∀ n ∈ ln, n < 2 ^ d) {x : Nat} (hx : x ∈ xsN d t ln) : 1 ≤ x ∧ x < q := by
  have := h.big
  have hpp := Nat.two_pow_pos d
  rcases List.mem_append.1 hx with hx | hx
  · obtain ⟨n, hn, rfl⟩ := List.mem_map.1 hx
    have := hl n hn; omega
  · obtain ⟨n, hn, rfl⟩ := List.mem_map.1 hx
    have := List.mem_range.1 hn; omega
theorem rnum_lt (h : Vld s d t p q g) (root : W2) (nonce : BitVec 64) : 1 ≤ rN root q nonce ∧ rN root q nonce < q := by
  have hb := h.big
  have := Nat.mod_lt (drv (drv root (un8 41#8) nonce) (un8 3#8) 0#64).1.toNat (show 0 < q - 1 by have := Nat.two_pow_pos d; omega)
  unfold rN; omega
theorem nonce_eq (h : Vld s d t p q g) (root : W2) (nonce : BitVec 64) : cipher_Number (drv root (un8 41#8) nonce) 0#64 (bn q - 1#64) = some (bn (rN root q nonce - 1)) ∧ ref02_Number (drv root (un8 41#8) nonce) 0#64 (bn q - 1#64) = some (bn (rN root q nonce - 1)) := by
  obtain ⟨q1, q2⟩ := h.qb
  have hb := h.big
  have := Nat.two_pow_pos d
  have ht := h.t1
  have e : rN root q nonce - 1 = (drv (drv root (un8 41#8) nonce) (un8 3#8) 0#64).1.toNat % (q - 1) := by unfold rN; omega
  rw [show (1#64) = bn 1 from rfl, bn_sub (by omega) (by omega), number_eq _ _ _ (bn_ne0 (by omega) (by omega)), rnumber_eq _ _ _ (bn_ne0 (by omega) (by omega)), mod_bn _ (by omega) (by omega), e]
  exact ⟨rfl, rfl⟩
theorem lift_eq (h : Vld s d t p q g) (root : W2) {b x : Nat} (hb : b < p) (hx : x < q) (it : List TItem) (pts : List TPoint) (k1 k2 : W2) :
    poly_Seal_1 (bn x) s ⟨it, bn b, pts, k1, k2⟩ ((cfs root q t).map bn) (bn q) = some (bn (b ^ fN root q t x % p)) := by
  obtain ⟨q1, q2⟩ := h.qb
  obtain ⟨p1, p2⟩ := h.pb
  have hf := fN_lt h root x
  have ht := h.t8
  unfold poly_Seal_1
  rw [at_eq q1 q2 hx _ (cfs_lt (by omega)) (by rw [cfs_len]; omega), bind_some]
  simp only
  rw [show evN (cfs root q t) x % q = fN root q t x from rfl, ppow_eq h (by omega) (by omega), bind_some]
theorem plist_loop (h : Vld s d t p q g) (root : W2) (l : List Int) (session : W2) (nonce : BitVec 64) (hl : l.length < 4611686018427387904) :
    fixN (poly_Seal_L1 root s l session nonce) FUEL 0 = bif lstB d l then (if s.Degree < (l.length : Int) then some (⟨[], 0#64, [], k0, k0⟩, 4) else Option.bind (poly_secret root s) fun x => poly_Seal_J3 root s l session nonce x) else some (⟨[], 0#64, [], k0, k0⟩, 2) := by
  have h64 := pow_le64 h.d6
  have hpp := Nat.two_pow_pos d
  have := fix_range l.length (poly_Seal_L1 root s l session nonce) (fun j (_ : Unit) => (j : Int)) (fun j nx u => bif decide (0 ≤ l.getD j 0 ∧ l.getD j 0 < ((2 ^ d : Nat) : Int)) && (decide (j = 0) || decide (l.getD (j - 1) 0 < l.getD j 0)) then nx u else some (⟨[], 0#64, [], k0, k0⟩, 2)) (fun _ => if s.Degree < (l.length : Int) then some (⟨[], 0#64, [], k0, k0⟩, 4) else Option.bind (poly_secret root s) fun x => poly_Seal_J3 root s l session nonce x)
    (fun rec j hj _ => by
      simp only [poly_Seal_L1, poly_Seal_J2]
      rw [if_pos (by omega), getI_some hj, bind_some, h.depth, shG_nat, bind_some, shl1 h.d6, getD_some hj, w64_nat (by omega)]
      by_cases h1 : l[j] < 0
      · rw [if_pos h1, decide_eq_false (by omega)]; rfl
      · rw [if_neg h1]
        by_cases h2 : ((2 ^ d : Nat) : Int) ≤ l[j]
        · rw [if_pos h2, decide_eq_false (by omega)]; rfl
        · rw [if_neg h2, decide_eq_true (show 0 ≤ l[j] ∧ l[j] < ((2 ^ d : Nat) : Int) by omega), Bool.true_and]
          by_cases h0 : j = 0
          · rw [if_neg (by omega), decide_eq_true h0]; rfl
          · have hj1 : j - 1 < l.length := by omega
            rw [if_pos (by omega), w64_id (by omega) (by omega), show (j : Int) - 1 = ((j - 1 : Nat) : Int) from by omega, getI_some hj1, bind_some, decide_eq_false h0, Bool.false_or, getD_some hj1]
            by_cases h3 : l[j] ≤ l[j - 1]
            · rw [decide_eq_true h3, decide_eq_false (by omega)]; rfl
            · rw [decide_eq_false h3, decide_eq_true (by omega)]; rfl)
    (fun rec _ => by simp only [poly_Seal_L1]; rw [if_neg (by omega)]) (f := FUEL) (fuel_lt (by omega)) ()
  rw [show ((0 : Nat) : Int) = 0 from rfl] at this
  rw [this, all_itL _ _ _ _ _ (fun a _ nx u => rfl)]; rfl
theorem more_loop (h : Vld s d t p q g) (root : W2) (session : W2) (nonce : BitVec 64) {b : Nat} (hb : b < p) (pts : List TPoint) (hk : pts.length ≤ t) :
    fixN (poly_Seal_L6 s session ((cfs root q t).map bn) (bn b)) FUEL (w64 (((2 ^ d : Nat) : Int) + 1), pts) = some (⟨[], bn b, pts ++ (List.range (t - pts.length)).map (fun i => ptN root p q t b (2 ^ d + 1 + i)), encr (drv k0 (un8 42#8) (bn (b ^ fN root q t 0 % p))) session, drv session (un8 53#8) 0#64⟩, 0) := by
  have h64 := pow_le64 h.d6
  have hpp := Nat.two_pow_pos d
  have ht := h.t8
  have hbig := h.big
  obtain ⟨q1, q2⟩ := h.qb
  refine fix_go _ (fun j st => st = (((2 ^ d + 1 + j : Nat) : Int), pts ++ (List.range j).map (fun i => ptN root p q t b (2 ^ d + 1 + i)))) (t - pts.length) _ (by omega) ?_ ?_ ?_
  · rw [w64_nat (by omega)]; simp
  · rintro j _ hj rfl
    refine ⟨_, rfl, fun rec => ?_⟩
    simp only [poly_Seal_L6]
    rw [if_pos (by rw [h.deg]; simp; omega), h.grp, wd_nat]
    simp only
    rw [lift_eq h root hb (show 2 ^ d + 1 + j < q by omega), bind_some, appG_some (by simp; omega), bind_some, w64_nat (by omega), List.range_succ, List.map_append, ← List.append_assoc]; rfl
  · rintro _ rfl rec
    simp only [poly_Seal_L6]
    rw [if_neg (by rw [h.deg]; simp; omega), h.grp, show (0#64) = bn 0 from rfl]
    simp only
    rw [lift_eq h root hb (show 0 < q by omega), bind_some]; rfl
theorem first_loop (h : Vld s d t p q g) (root : W2) {ln : List Nat} (hl : ∀ n ∈ ln, n < 2 ^ d) (hlen : ln.length ≤ t) (session : W2) (nonce : BitVec 64) {b : Nat} (hb : b < p) :
    fixN (poly_Seal_L5 s (ln.map fun n : Nat => (n : Int)) session ((cfs root q t).map bn) (bn b)) FUEL (0, []) = some (⟨[], bn b, (xsN d t ln).map (ptN root p q t b), encr (drv k0 (un8 42#8) (bn (b ^ fN root q t 0 % p))) session, drv session (un8 53#8) 0#64⟩, 0) := by
  have h64 := pow_le64 h.d6
  have hpp := Nat.two_pow_pos d
  have ht := h.t8
  have hbig := h.big
  obtain ⟨q1, q2⟩ := h.qb
  refine fix_go _ (fun j st => st = ((j : Int), (ln.take j).map fun n => ptN root p q t b (n + 1))) ln.length _ (by omega) (by simp) ?_ ?_
  · rintro j _ hj rfl
    refine ⟨_, rfl, fun rec => ?_⟩
    have hn := hl _ (List.getElem_mem hj)
    simp only [poly_Seal_L5]
    rw [if_pos (by simp; omega), getI_some (by simpa using hj), bind_some, List.getElem_map, w64_nat (by omega), wd_nat, h.grp]
    simp only
    rw [lift_eq h root hb (show ln[j] + 1 < q by omega), bind_some, appG_some (by simp; omega), bind_some, w64_nat (by omega), take_snoc ln j hj, List.map_append]; rfl
  · rintro _ rfl rec
    simp only [poly_Seal_L5]
    rw [if_neg (by simp), h.depth, shG_nat, bind_some, shl1 h.d6, List.take_length, more_loop h root session nonce hb _ (by simpa using hlen)]
    simp only [xsN, List.map_append, List.map_map, List.length_map]; rfl
theorem pseal_eq (h : Vld s d t p q g) (e1 : poly_valid s = some true) (root : W2) {ln : List Nat} (hl : ∀ n ∈ ln, n < 2 ^ d) (ho : ln.Pairwise (· < ·)) (hlen : ln.length ≤ t) (session : W2) (nonce : BitVec 64) :
    poly_Seal root s (ln.map fun n : Nat => (n : Int)) session nonce = some (hdN root d t p q g ln session nonce, 0) := by
  have ht := h.t8
  obtain ⟨r1, r2⟩ := rnum_lt h root nonce
  obtain ⟨p1, p2⟩ := h.pb
  obtain ⟨q1, q2⟩ := h.qb
  have hgp := h.ok.2.2.2.2.1
  unfold poly_Seal
  rw [e1, bind_some]
  simp only [Bool.not_true, cond_false]
  rw [plist_loop h root _ session nonce (by simp; omega), lst_of hl ho, cond_true, if_neg (by rw [h.deg]; simp; omega), secret_eq h, bind_some]
  unfold poly_Seal_J3 poly_Seal_J4
  rw [h.grp]
  simp only
  rw [(nonce_eq h root nonce).1, bind_some, show (1#64) = bn 1 from rfl, bn_add, show 1 + (rN root q nonce - 1) = rN root q nonce from by omega, ppow_eq h (by omega) (by omega), bind_some]
  have := first_loop h root hl hlen session nonce (baseN_lt h root nonce)
  rw [show bn (baseN root p q g nonce) = bn (g ^ rN root q nonce % p) from rfl] at this
  rw [this]; rfl
end
end Go.Sx.Po

end
section
/- Numbers modulo a prime as a field: Fin q; what the program's and the document's calls come to. -/
set_option linter.unusedVariables false
set_option linter.unusedSimpArgs false
set_option linter.unusedSectionVars false
set_option maxRecDepth 100000
namespace Go.Sx.Po
open Go

/-- a number modulo q -/
def fi (q : Nat) [NeZero q] (n : Nat) : Fin q := Fin.ofNat q n
/-- its word -/
abbrev fe {q : Nat} (a : Fin q) : BitVec 64 := bn a.val
section
variable {q : Nat} [NeZero q]
theorem fi_val (n : Nat) : (fi q n).val = n % q := rfl
theorem fi_self (a : Fin q) : fi q a.val = a := by apply Fin.ext; rw [fi_val]; exact Nat.mod_eq_of_lt a.isLt
theorem fi_add (a b : Nat) : fi q (a + b) = fi q a + fi q b := by apply Fin.ext; simp [fi, Fin.ofNat, Fin.add_def]
theorem fi_mul (a b : Nat) : fi q (a * b) = fi q a * fi q b := by apply Fin.ext; simp [fi, Fin.ofNat, Fin.mul_def]
theorem fi_mod (n : Nat) : fi q (n % q) = fi q n := by apply Fin.ext; rw [fi_val, fi_val, Nat.mod_mod]
theorem fi_0 : fi q 0 = 0 := rfl
theorem fi_1 : fi q 1 = 1 := rfl
theorem fi_q : fi q q = 0 := by apply Fin.ext; rw [fi_val, Nat.mod_self]; rfl
theorem fi_sub {a b : Nat} (h : b ≤ a) : fi q (a - b) = fi q a - fi q b := by
  have := fi_add (q := q) (a - b) b
  rw [Nat.sub_add_cancel h] at this
  grind
theorem fi_lt {n : Nat} (h : n < q) : (fi q n).val = n := Nat.mod_eq_of_lt h
theorem fi_inj {a b : Nat} (ha : a < q) (hb : b < q) (h : fi q a = fi q b) : a = b := by rw [← fi_lt ha, ← fi_lt hb, h]
theorem fe_fi {n : Nat} (h : n < q) : fe (fi q n) = bn n := by unfold fe; rw [fi_lt h]
theorem fmul_eq (q1 : 2 ≤ q) (q2 : q ≤ 1048575) (a b : Fin q) : poly_field_mul (bn q) [fe a, fe b] = some (fe (a * b)) := by
  rw [mul2_eq q1 q2 a.isLt b.isLt]; rfl
theorem fsub_eq (q1 : 2 ≤ q) (q2 : q ≤ 1048575) (a b : Fin q) : poly_field_sub (bn q) (fe a) (fe b) = some (fe (a - b)) := by
  have ha := a.isLt
  have hb := b.isLt
  unfold poly_field_sub fe
  rw [bn_add, bn_sub (by omega) (by omega), remU_bn (by omega) (by omega) (by omega), bind_some, Fin.sub_def]
  simp only
  congr 3; omega
/-! inverses -/
theorem gcd_prm {q a : Nat} (hP : Prm q) (h0 : 0 < a) (h1 : a < q) : Nat.gcd q a = 1 := by
  have hg : Nat.gcd q a ∣ q := Nat.gcd_dvd_left q a
  have hga : Nat.gcd q a ∣ a := Nat.gcd_dvd_right q a
  have hle := Nat.le_of_dvd h0 hga
  have hpos : 0 < Nat.gcd q a := Nat.gcd_pos_of_pos_right _ h0
  rcases Nat.lt_or_ge (Nat.gcd q a) 2 with h | h
  · omega
  · exfalso
    obtain ⟨k, hk⟩ := hg
    have hk2 : 2 ≤ k := by
      rcases k with _ | _ | k
      · simp at hk; omega
      · simp at hk; omega
      · omega
    rcases Nat.le_total (Nat.gcd q a) k with hgk | hgk
    · refine hP.2 _ h ?_ (Nat.mod_eq_zero_of_dvd ⟨k, hk⟩)
      calc _ ≤ Nat.gcd q a * k := Nat.mul_le_mul_left _ hgk
        _ = q := hk.symm
    · refine hP.2 k hk2 ?_ (Nat.mod_eq_zero_of_dvd ⟨Nat.gcd q a, by rw [Nat.mul_comm]; exact hk⟩)
      calc k * k ≤ Nat.gcd q a * k := Nat.mul_le_mul_right _ hgk
        _ = q := hk.symm
theorem wd_bn (n : Nat) : wd (n : Int) = bn n := wd_nat n
theorem tdivN (a b : Nat) : Int.tdiv (a : Int) (b : Int) = ((a / b : Nat) : Int) := rfl
theorem tmodN (a b : Nat) : Int.tmod (a : Int) (b : Int) = ((a % b : Nat) : Int) := rfl
theorem tmodNeg (a b : Nat) : Int.tmod (-(a : Int)) (b : Int) = -((a % b : Nat) : Int) := by rw [Int.neg_tmod]; rfl
theorem quoI_some {a b : Int} (h : b ≠ 0) : quoI a b = some (w64 (a.tdiv b)) := if_neg h
theorem remI_some {a b : Int} (h : b ≠ 0) : remI a b = some (a.tmod b) := if_neg h
theorem inv_end {m : Nat} (m1 : 2 ≤ m) (m2 : m ≤ 1048575) (σ : Int) (hσ : σ = 1 ∨ σ = -1) (S : Nat) (hS : S ≤ m) :
    ∃ x : Nat, x < m ∧ (∃ j : Int, (x : Int) = σ * S + j * m) ∧ (Option.bind (remI (σ * S) (w64 (un (bn m)))) fun x12 => (Option.bind (remI (w64 (x12 + (w64 (un (bn m))))) (w64 (un (bn m)))) fun x13 => ((some (wd x13, (0 : Int)))))) = some (bn x, 0) := by
  have hun : w64 (un (bn m)) = (m : Int) := by rw [show un (bn m) = (m : Int) from by unfold un; rw [bn_nat (by omega)]]; exact w64_id (by omega) (by omega)
  have hlt := Nat.mod_lt S (show 0 < m by omega)
  have hdm := Nat.div_add_mod S m
  rw [hun, remI_some (by omega), bind_some]
  rcases hσ with rfl | rfl
  · refine ⟨S % m, hlt, ⟨-((S / m : Nat) : Int), ?_⟩, ?_⟩
    · have : ((m * (S / m) + S % m : Nat) : Int) = (S : Int) := by rw [hdm]
      grind
    · rw [Int.one_mul, tmodN, w64_id (by omega) (by omega), remI_some (by omega), bind_some, show ((S % m : Nat) : Int) + (m : Int) = ((S % m + m : Nat) : Int) from by omega, tmodN, Nat.add_mod_right, Nat.mod_mod, wd_bn]
  · refine ⟨(m - S % m) % m, Nat.mod_lt _ (by omega), ⟨((S / m : Nat) : Int) + (if S % m = 0 then 0 else 1), ?_⟩, ?_⟩
    · have : ((m * (S / m) + S % m : Nat) : Int) = (S : Int) := by rw [hdm]
      by_cases h0 : S % m = 0
      · rw [if_pos h0, h0, Nat.sub_zero, Nat.mod_self]; rw [h0] at this; grind
      · rw [if_neg h0, Nat.mod_eq_of_lt (by omega)]
        have e : ((m - S % m : Nat) : Int) = (m : Int) - ((S % m : Nat) : Int) := by omega
        rw [e]; grind
    · rw [show (-1 : Int) * (S : Int) = -(S : Int) from by omega, tmodNeg, w64_id (by omega) (by omega), remI_some (by omega), bind_some, show -((S % m : Nat) : Int) + (m : Int) = ((m - S % m : Nat) : Int) from by omega, tmodN, wd_bn]
theorem inv_loop {m : Nat} (m1 : 2 ≤ m) (m2 : m ≤ 1048575) (a : Int) : ∀ (f R N S T : Nat) (σ k l : Int), (σ = 1 ∨ σ = -1) → N < f → R ≤ m → N < R → S ≤ m → R * T + N * S = m → Nat.gcd R N = 1 → (R : Int) = (σ * S) * a + k * m → (N : Int) = (-σ * T) * a + l * m →
    ∃ x : Nat, x < m ∧ (∃ j : Int, (x : Int) * a = 1 + j * m) ∧ fixN (number_InvMod_L1 (bn m)) f ((R : Int), (N : Int), σ * S, -σ * T) = some (bn x, 0)
  | 0, R, N, S, T, σ, k, l, _, h, _, _, _, _, _, _, _ => by omega
  | f + 1, R, N, S, T, σ, k, l, hσ, hf, hR, hNR, hS, hm, hg, h1, h2 => by
    rw [fix_step]; simp only [number_InvMod_L1]
    by_cases h0 : N = 0
    · subst h0
      rw [if_neg (by simp)]
      have hR1 : R = 1 := by simpa using hg
      subst hR1
      rw [if_neg (by simp)]
      obtain ⟨x, x1, ⟨j, x2⟩, x3⟩ := inv_end m1 m2 σ hσ S hS
      refine ⟨x, x1, ⟨j * a - k, ?_⟩, x3⟩
      rw [x2]; grind
    · have hq0 : R / N * N ≤ R := Nat.div_mul_le_self R N
      have hdm := Nat.div_add_mod R N
      have hlt := Nat.mod_lt R (show 0 < N by omega)
      have hqm : R / N ≤ m := Nat.le_trans (Nat.div_le_self R N) hR
      have hgr : Nat.gcd N (R % N) = 1 := by rw [← hg, Nat.gcd_comm R N, Nat.gcd_rec N R, Nat.gcd_comm]
      rw [if_pos (by omega), quoI_some (by omega), bind_some, tdivN]
      generalize R / N = Q at *
      generalize R % N = M at *
      have hTm : T ≤ m := by
        have : 1 * T ≤ R * T := Nat.mul_le_mul_right _ (by omega)
        omega
      have hqT : Q * T ≤ m := by
        have h3 : N * (Q * T) ≤ R * T := by rw [← Nat.mul_assoc]; exact Nat.mul_le_mul_right _ (by rw [Nat.mul_comm]; exact hq0)
        have h4 : 1 * (Q * T) ≤ N * (Q * T) := Nat.mul_le_mul_right _ (by omega)
        omega
      rw [w64_id (n := ((Q : Nat) : Int)) (by omega) (by omega)]
      have e1 : w64 ((R : Int) - w64 (((Q : Nat) : Int) * (N : Int))) = ((M : Nat) : Int) := by
        have : ((Q : Nat) : Int) * (N : Int) = ((Q * N : Nat) : Int) := by push_cast; rfl
        rw [this, w64_id (n := ((Q * N : Nat) : Int)) (by omega) (by omega), w64_id (by omega) (by omega)]
        rw [Nat.mul_comm] at hq0
        have : ((N * (Q) + M : Nat) : Int) = (R : Int) := by rw [hdm]
        rw [Nat.mul_comm (Q) N]; omega
      have e2 : w64 (((Q : Nat) : Int) * (-σ * (T : Int))) = -σ * ((Q * T : Nat) : Int) := by
        have e : ((Q : Nat) : Int) * (-σ * (T : Int)) = -σ * ((Q * T : Nat) : Int) := by push_cast; grind
        rw [e]
        rcases hσ with rfl | rfl <;> exact w64_id (by omega) (by omega)
      have e3 : w64 (σ * (S : Int) - -σ * ((Q * T : Nat) : Int)) = -(-σ) * ((S + Q * T : Nat) : Int) := by
        have e : σ * (S : Int) - -σ * ((Q * T : Nat) : Int) = -(-σ) * ((S + Q * T : Nat) : Int) := by push_cast; grind
        rw [e]
        rcases hσ with rfl | rfl <;> exact w64_id (by omega) (by omega)
      rw [e1, e2, e3]
      have hc : ((N * (Q) + M : Nat) : Int) = (R : Int) := by rw [hdm]
      refine inv_loop m1 m2 a f N (M) T (S + Q * T) (-σ) l (k - ((Q : Nat) : Int) * l) (by rcases hσ with rfl | rfl <;> simp) (by omega) (by omega) hlt hTm ?_ ?_ ?_ ?_
      · have : N * (S + Q * T) + M * T = N * S + (N * (Q) + M) * T := by grind
        rw [this, hdm]; omega
      · exact hgr
      · exact h2
      · push_cast at hc ⊢
        grind
theorem inverse_loop (q1 : 2 ≤ q) (q2 : q ≤ 1048575) (α : Fin q) : ∀ (f A B : Nat) (X Y : Fin q), B < f → A ≤ q → B ≤ q → Nat.gcd A B = 1 → fi q A = X * α → fi q B = Y * α →
    ∃ x : Fin q, x * α = 1 ∧ fixN (ref01_Inverse_L1 (bn q)) f (bn A, fe X, bn B, fe Y) = some (fe x, true)
  | 0, A, B, X, Y, h, _, _, _, _, _ => by omega
  | f + 1, A, B, X, Y, hf, hA, hB, hg, h1, h2 => by
    rw [fix_step]; simp only [ref01_Inverse_L1]
    have hX := X.isLt
    have hY := Y.isLt
    by_cases h0 : B = 0
    · subst h0
      have hA1 : A = 1 := by simpa using hg
      subst hA1
      rw [if_neg (by simp)]
      exact ⟨X, h1.symm.trans fi_1, rfl⟩
    · have hlt := Nat.mod_lt A (show 0 < B by omega)
      have hdm := Nat.div_add_mod A B
      have hle := Nat.div_le_self A B
      have hq0 : A / B * B ≤ A := Nat.div_mul_le_self A B
      have hz : ¬ bn B = 0#64 := bn_ne0 (by omega) (by omega)
      have hmq := Nat.mod_lt (A / B) (show 0 < q by omega)
      have hp1 : A / B % q * Y.val ≤ 1048575 * 1048575 := Nat.mul_le_mul (by omega) (by omega)
      have hm2 := Nat.mod_lt (A / B % q * Y.val) (show 0 < q by omega)
      rw [if_pos hz, quoU_bn (by omega) (by omega) (by omega), bind_some, remU_bn (by omega) (by omega) (by omega), bind_some, bn_mul, remU_bn (by omega) (by omega) (by omega), bind_some, bn_sub (by omega) (by omega), bn_add, remU_bn (by omega) (by omega) (by omega), bind_some, bn_mul, bn_sub (by omega) (by omega)]
      have e : A - A / B * B = A % B := by rw [Nat.mul_comm] at hq0 ⊢; omega
      rw [e]
      have hA' : fi q A = fi q B * fi q (A / B) + fi q (A % B) := by rw [← fi_mul, ← fi_add, hdm]
      have hY' : fi q ((X.val + (q - A / B % q * Y.val % q)) % q) = X - fi q (A / B) * Y := by
        rw [fi_mod, fi_add, fi_self, fi_sub (by omega), fi_q, fi_mod, fi_mul, fi_mod, fi_self]; grind
      rw [show bn ((X.val + (q - A / B % q * Y.val % q)) % q) = fe (X - fi q (A / B) * Y) from by rw [← hY', fe_fi (Nat.mod_lt _ (by omega))]]
      refine inverse_loop q1 q2 α f B (A % B) Y _ (by omega) hB (by omega) ?_ h2 ?_
      · rw [← hg, Nat.gcd_comm A B, Nat.gcd_rec B A, Nat.gcd_comm]
      · grind
/-- both ways to the inverse -/
theorem inv_eq (hP : Prm q) (q2 : q ≤ 1048575) {α : Fin q} (hα : α ≠ 0) : ∃ x : Fin q, α * x = 1 ∧ number_InvMod (fe α) (bn q) = some (fe x, 0) ∧ ref01_Inverse (fe α) (bn q) = some (fe x, true) := by
  have q1 := hP.1
  have ha := α.isLt
  have h0 : 0 < α.val := by
    rcases Nat.eq_zero_or_pos α.val with h | h
    · exact absurd (Fin.ext h) hα
    · exact h
  have hg := gcd_prm hP h0 ha
  obtain ⟨x, x1, ⟨j, x2⟩, x3⟩ := inv_loop q1 q2 (α.val : Int) FUEL q α.val 0 1 (-1) 1 0 (.inr rfl) (fuel_lt (by omega)) (Nat.le_refl _) ha (by omega) (by omega) hg (by simp) (by simp)
  obtain ⟨y, y1, y2⟩ := inverse_loop q1 q2 α FUEL α.val q 1 0 (fuel_lt (by omega)) (by omega) (Nat.le_refl _) (by rw [Nat.gcd_comm]; exact hg) (by rw [fi_self]; grind) (by rw [fi_q]; grind)
  have hx : fi q x * α = 1 := by
    have h1 : fi q (x * α.val) = fi q x * α := by rw [fi_mul, fi_self]
    rw [← h1]
    apply Fin.ext
    have e1 : (1 : Fin q).val = 1 := Nat.mod_eq_of_lt (show 1 < q by omega)
    rw [fi_val, e1]
    have h2 : ((x * α.val % q : Nat) : Int) = 1 := by
      push_cast
      rw [x2, Int.add_mul_emod_self_right]
      exact Int.emod_eq_of_lt (by omega) (by omega)
    omega
  have hxy : fi q x = y := by grind
  refine ⟨y, by grind, ?_, ?_⟩
  · unfold number_InvMod number_modulus
    have hun : ∀ n : Nat, n < 9223372036854775807 → w64 (un (bn n)) = (n : Int) := fun n hn => by rw [show un (bn n) = (n : Int) from by unfold un; rw [bn_nat (by omega)]]; exact w64_id (by omega) (by omega)
    rw [show (1#64) = bn 1 from rfl, if_pos ((bn_le (by omega) (by omega)).2 (by omega)), bind_some, show (4294967296#64) = bn 4294967296 from rfl, decide_eq_true ((bn_lt (by omega) (by omega)).2 (by omega))]
    simp only [Bool.not_true, cond_false]
    rw [remU_bn (by omega) (by omega) (by omega), bind_some, Nat.mod_eq_of_lt ha, hun q (by omega), hun _ (by omega)]
    rw [show (0 : Int) = -1 * ((0 : Nat) : Int) from by simp, show (1 : Int) = -(-1) * ((1 : Nat) : Int) from by simp] 
    rw [← hxy, fe_fi x1]
    exact x3
  · unfold ref01_Inverse
    rw [show (1#64) = bn 1 from rfl, remU_bn (by omega) (by omega) (by omega), bind_some, remU_bn (by omega) (by omega) (by omega), bind_some, Nat.mod_eq_of_lt ha, Nat.mod_eq_of_lt (show 1 < q by omega)]
    have e1 : bn 1 = fe (1 : Fin q) := by unfold fe; rw [show (1 : Fin q).val = 1 from Nat.mod_eq_of_lt (show 1 < q by omega)]
    have e0 : (0#64) = fe (0 : Fin q) := rfl
    rw [e1, e0]
    exact y2
end
end Go.Sx.Po

end
section
/- The document's cipher on the mirrors: Decrypt is decr. -/
set_option linter.unusedVariables false
set_option linter.unusedSimpArgs false
namespace Go.Sx.Po.Cy
open Go

/-- the number in some bytes -/
def valB (l : List (BitVec 8)) : BitVec 64 := l.foldl (fun n c => 256#64 * n + c.setWidth 64) 0#64
theorem valB_snoc (l : List (BitVec 8)) (c : BitVec 8) : valB (l ++ [c]) = 256#64 * valB l + c.setWidth 64 := by simp [valB]
theorem value_loop (l : List (BitVec 8)) (hx : l.length ≤ 1000) : ∀ (m i fuel : Nat), l.length - i = m → i ≤ l.length → m < fuel → fixN (ref02_Value_L1 l) fuel (valB (l.take i), (i : Int)) = some (valB l)
  | m, i, 0, _, _, hf => by omega
  | 0, i, fuel + 1, hm, hi, hf => by
    rw [fix_step]; simp only [ref02_Value_L1]; rw [if_neg (by omega), List.take_of_length_le (by omega)]
  | m + 1, i, fuel + 1, hm, hi, hf => by
    rw [fix_step]; simp only [ref02_Value_L1]
    rw [if_pos (by omega), getI_some (by omega), bind_some, ← valB_snoc, ← take_snoc _ _ (by omega), w64_id (by omega) (by omega)]
    exact value_loop l hx m (i + 1) fuel (by omega) (by omega) (by omega)
theorem value_eq (l : List (BitVec 8)) (h : l.length ≤ 1000) : ref02_Value l = some (valB l) := value_loop l h _ 0 FUEL rfl (by omega) (fuel_lt (by omega))
theorem shl_or (a : BitVec 64) (c : BitVec 8) : (a <<< 8) ||| (c.setWidth 64) = 256#64 * a + c.setWidth 64 := by
  have e1 : 256#64 * a = a <<< 8 := by
    apply BitVec.eq_of_toNat_eq
    rw [BitVec.toNat_mul, BitVec.toNat_shiftLeft, Nat.shiftLeft_eq, Nat.mul_comm]; rfl
  rw [e1]
  symm
  apply BitVec.add_eq_or_of_and_eq_zero
  apply BitVec.eq_of_getLsbD_eq
  intro j hj
  rw [BitVec.getLsbD_and, BitVec.getLsbD_shiftLeft, BitVec.getLsbD_setWidth, BitVec.getLsbD_zero]
  by_cases h : j < 8
  · simp [h]
  · simp [BitVec.getLsbD_of_ge c j (by omega)]
theorem byt_wd (x : BitVec 64) (k : Nat) : (byt x k).setWidth 64 = wd (bt x k) := by
  rw [wd_bt]
  apply BitVec.eq_of_toNat_eq
  unfold byt
  rw [BitVec.toNat_setWidth, BitVec.toNat_setWidth, BitVec.toNat_and]
  have : (255#64 : BitVec 64).toNat = 2 ^ 8 - 1 := rfl
  rw [this, Nat.and_two_pow_sub_one_eq_mod]
  omega
theorem val_st (x : BitVec 64) (k : Nat) (hk : k < 8) : 256#64 * (x >>> (64 - 8 * k)) + (byt x k).setWidth 64 = x >>> (64 - 8 * (k + 1)) := by
  rw [← shl_or, byt_wd, shl_step x k hk]
theorem val_w8 (x : BitVec 64) : valB (w8 x) = x := by
  have h0 := val_st x 0 (by decide)
  have h1 := val_st x 1 (by decide)
  have h2 := val_st x 2 (by decide)
  have h3 := val_st x 3 (by decide)
  have h4 := val_st x 4 (by decide)
  have h5 := val_st x 5 (by decide)
  have h6 := val_st x 6 (by decide)
  have h7 := val_st x 7 (by decide)
  have hz : x >>> 64 = 0#64 := by apply BitVec.eq_of_toNat_eq; rw [BitVec.toNat_ushiftRight, Nat.shiftRight_eq_div_pow, Nat.div_eq_of_lt x.isLt]; rfl
  simp only [Nat.mul_zero, Nat.sub_zero, hz] at h0
  simp only [valB, w8, List.foldl_cons, List.foldl_nil, h0, h1, h2, h3, h4, h5, h6, h7]
  simp
theorem words_eq (p : W2) : ref02_words p = some p := by
  unfold ref02_words
  rw [show ((kby p).take 8).drop 0 = w8 p.1 from rfl, show ((kby p).take 16).drop 8 = w8 p.2 from rfl, value_eq _ (by rw [w8_len]; omega), bind_some, value_eq _ (by rw [w8_len]; omega), bind_some, val_w8, val_w8]
end Go.Sx.Po.Cy

end
section
/- Opening with a polynomial, plainly: what a right header is, the factors, the mask; both sides come to it. -/
set_option linter.unusedVariables false
set_option linter.unusedSimpArgs false
set_option linter.unusedSectionVars false
set_option maxRecDepth 100000
namespace Go.Sx.Po
open Go

/-! ### the first element with a property -/
theorem find_loop {α : Type} (l : List α) (hl : l.length < 4611686018427387904) (p : α → Bool) (F : (Int → Option Int) → Int → Option Int)
    (h1 : ∀ rec (j : Nat) (hj : j < l.length), F rec (j : Int) = bif p l[j] then some (j : Int) else rec ((j + 1 : Nat) : Int)) (h2 : ∀ rec, F rec (l.length : Int) = some (-1)) :
    ∀ (m j f : Nat), j + m = l.length → m < f → fixN F f (j : Int) = some (match (l.drop j).findIdx? p with | some i => ((j + i : Nat) : Int) | none => -1)
  | m, j, 0, _, h => by omega
  | 0, j, f + 1, hj, _ => by
    have : j = l.length := by omega
    subst this
    rw [fix_step, h2, List.drop_length]; rfl
  | m + 1, j, f + 1, hj, hf => by
    have hjl : j < l.length := by omega
    rw [fix_step, h1 _ j hjl, List.drop_eq_getElem_cons hjl, List.findIdx?_cons]
    cases hp : p l[j] with
    | true => rw [cond_true]; simp
    | false =>
      rw [cond_false, find_loop l hl p F h1 h2 m (j + 1) f (by omega) (by omega)]
      simp only [Bool.false_eq_true, if_false]
      cases (l.drop (j + 1)).findIdx? p with
      | none => rfl
      | some i => simp only [Option.map_some]; congr 2; omega
theorem find_go {α : Type} (l : List α) (hl : l.length < 4611686018427387904) (p : α → Bool) (F : (Int → Option Int) → Int → Option Int)
    (h1 : ∀ rec (j : Nat) (hj : j < l.length), F rec (j : Int) = bif p l[j] then some (j : Int) else rec ((j + 1 : Nat) : Int)) (h2 : ∀ rec, F rec (l.length : Int) = some (-1)) :
    fixN F FUEL 0 = some (match l.findIdx? p with | some i => (i : Int) | none => -1) := by
  have := find_loop l hl p F h1 h2 l.length 0 FUEL (by omega) (fuel_lt (by omega))
  rw [List.drop_zero, show ((0 : Nat) : Int) = 0 from rfl] at this
  rw [this]
  cases l.findIdx? p with
  | none => rfl
  | some i => simp
theorem idx_any {α : Type} (l : List α) (p : α → Bool) : decide ((0 : Int) ≤ (match l.findIdx? p with | some i => (i : Int) | none => -1)) = l.any p := by
  cases h : l.findIdx? p with
  | none =>
    have : l.any p = false := by
      rw [List.findIdx?_eq_none_iff] at h
      rw [List.any_eq_false]; intro x hx; rw [h x hx]; simp
    rw [this]; rfl
  | some i =>
    have : l.any p = true := by
      have h3 := List.findIdx?_eq_some_iff_getElem.1 h
      obtain ⟨h4, h5, _⟩ := h3
      exact List.any_eq_true.2 ⟨_, List.getElem_mem h4, h5⟩
    rw [this]; simp
/-! ### distinct points -/
theorem same_any (l : List TPoint) (hl : l.length < 4611686018427387904) (y : TPoint) : slices_ContainsFunc_9e39_poly_distinct_1 l y = some (l.any fun x => decide (x.X = y.X)) := by
  unfold slices_ContainsFunc_9e39_poly_distinct_1 slices_IndexFunc_7a5d_poly_distinct_1
  rw [find_go l hl (fun x => decide (x.X = y.X)) _ (fun rec j hj => by
    simp only [slices_IndexFunc_7a5d_poly_distinct_1_L1, poly_distinct_1]
    rw [if_pos (by omega), getI_some hj, bind_some, bind_some, w64_nat (by omega)]) (fun rec => by
    simp only [slices_IndexFunc_7a5d_poly_distinct_1_L1]; rw [if_neg (by omega)]), bind_some, idx_any]
theorem nodup_range {β : Type} [DecidableEq β] (l : List β) : ((List.range l.length).all fun j => !((l.take j).any fun x => decide (some x = l[j]?))) = decide l.Nodup := by
  rw [Bool.eq_iff_iff, decide_eq_true_eq, List.all_eq_true]
  constructor
  · intro h
    rw [List.Nodup, List.pairwise_iff_getElem]
    intro i j hi hj hij he
    have := h j (by simpa using hj)
    rw [Bool.not_eq_true', List.any_eq_false] at this
    refine this l[i] ?_ (by simp [he, hj])
    rw [List.mem_take_iff_getElem]
    exact ⟨i, by omega, rfl⟩
  · intro h j hj
    have hj' : j < l.length := by simpa using hj
    rw [Bool.not_eq_true', List.any_eq_false]
    intro x hx he
    rw [List.mem_take_iff_getElem] at hx
    obtain ⟨i, hi, rfl⟩ := hx
    rw [decide_eq_true_eq, List.getElem?_eq_getElem hj'] at he
    exact List.pairwise_iff_getElem.1 h i j (by omega) hj' (by omega) (Option.some.inj he)
def dstB (l : List TPoint) : Bool := decide (l.map (·.X)).Nodup
theorem distinct_eq (l : List TPoint) (hl : l.length < 4611686018427387904) : poly_distinct l = some (dstB l) := by
  unfold poly_distinct dstB
  have := fix_range l.length (poly_distinct_L1 l) (fun j (_ : Unit) => (j : Int)) (fun j nx u => bif !(((l.map (·.X)).take j).any fun x => decide (some x = (l.map (·.X))[j]?)) then nx u else some false) (fun _ => some true)
    (fun rec j hj _ => by
      simp only [poly_distinct_L1]
      have hs : sliG l 0 (j : Int) = some (l.take j) := by unfold sliG; rw [if_pos (by omega)]; simp
      rw [if_pos (by omega), getI_some hj, bind_some, hs, bind_some, same_any _ (by rw [List.length_take]; omega), bind_some, w64_nat (by omega)]
      have e : ((l.take j).any fun x => decide (x.X = l[j].X)) = (((l.map (·.X)).take j).any fun x => decide (some x = (l.map (·.X))[j]?)) := by
        rw [← List.map_take, List.any_map]
        congr 1; funext x
        simp [hj]
      rw [e]
      cases (((l.map (·.X)).take j).any fun x => decide (some x = (l.map (·.X))[j]?)) <;> rfl)
    (fun rec _ => by simp only [poly_distinct_L1]; rw [if_neg (by omega)]) (f := FUEL) (fuel_lt (by omega)) ()
  rw [show ((0 : Nat) : Int) = 0 from rfl] at this
  rw [this, all_itL _ (some true) (some false) _ _ (fun a _ nx s => rfl)]
  have h2 := nodup_range (l.map (·.X))
  rw [List.length_map] at h2
  rw [h2]
  cases decide (l.map (·.X)).Nodup <;> rfl
/-! ### right headers -/
end Go.Sx.Po

end
section
/- Opening with a polynomial, plainly, on: the document's test of a header, the factors, the mask. -/
set_option linter.unusedVariables false
set_option linter.unusedSimpArgs false
set_option linter.unusedSectionVars false
set_option maxRecDepth 100000
namespace Go.Sx.Po
open Go

/-! ### factors -/
open Classical in
/-- the inverse -/
noncomputable def iv {q : Nat} [NeZero q] (a : Fin q) : Fin q := if h : ∃ x, a * x = 1 then Classical.choose h else 0
section
variable {q : Nat} [NeZero q]
theorem iv_spec (hP : Prm q) (q2 : q ≤ 1048575) {a : Fin q} (ha : a ≠ 0) : a * iv a = 1 ∧ number_InvMod (fe a) (bn q) = some (fe (iv a), 0) ∧ ref01_Inverse (fe a) (bn q) = some (fe (iv a), true) := by
  obtain ⟨x, h1, h2, h3⟩ := inv_eq hP q2 ha
  have h4 : a * iv a = 1 := by
    unfold iv; rw [dif_pos ⟨x, h1⟩]; exact Classical.choose_spec (p := fun x => a * x = 1) ⟨x, h1⟩
  have : x = iv a := by grind
  rw [← this]
  exact ⟨h1, h2, h3⟩
theorem fin1 (q1 : 2 ≤ q) : (1 : Fin q).val = 1 := Nat.mod_eq_of_lt (show 1 < q by omega)
theorem one_ne (q1 : 2 ≤ q) : (1 : Fin q) ≠ 0 := fun h => by
  have := congrArg Fin.val h
  rw [fin1 q1] at this
  exact absurd this (by simp)
theorem mul_ne (hP : Prm q) (q2 : q ≤ 1048575) {a b : Fin q} (ha : a ≠ 0) (hb : b ≠ 0) : a * b ≠ 0 := fun h => by
  have h1 := (iv_spec hP q2 ha).1
  have h2 := (iv_spec hP q2 hb).1
  refine one_ne hP.1 ?_
  have : (a * b) * (iv a * iv b) = 1 := by grind
  rw [h] at this
  grind
theorem fdiv_eq (hP : Prm q) (q2 : q ≤ 1048575) {a b : Fin q} (hb : b ≠ 0) : poly_field_div (bn q) (fe a) (fe b) = some (fe (a * iv b)) := by
  unfold poly_field_div
  rw [(iv_spec hP q2 hb).2.1, bind_some, fmul_eq hP.1 q2, bind_some]
/-! ### the mask -/
variable {s : TScheme} {d t p g : Nat}
end
end Go.Sx.Po

end
section
/- Opening with a polynomial: the program's Open is the document's. -/
set_option linter.unusedVariables false
set_option linter.unusedSimpArgs false
set_option linter.unusedSectionVars false
set_option maxRecDepth 100000
namespace Go.Sx.Po
open Go

theorem bn_toNat (x : BitVec 64) : bn x.toNat = x := by simp [bn]
section
variable {s : TScheme} {d t p q g : Nat}
/-- the mask's points, as numbers -/
def Xa (q : Nat) [NeZero q] (l : List TPoint) (k : Nat) : Fin q := fi q (l.getD k default).X.toNat
end
end Go.Sx.Po

end
section
/- Interpolation modulo a prime, plainly: values of polynomials, there is only one, divided differences, Newton's form. -/
set_option linter.unusedVariables false
set_option linter.unusedSimpArgs false
set_option linter.unusedSectionVars false
set_option maxRecDepth 100000
namespace Go.Sx.Po
open Go

section
variable {q : Nat} [NeZero q]
/-- the value of a polynomial -/
def evF (l : List (Fin q)) (x : Fin q) : Fin q := l.foldr (fun c a => c + x * a) 0
theorem evF_nil (x : Fin q) : evF [] x = 0 := rfl
theorem evF_cons (a : Fin q) (l : List (Fin q)) (x : Fin q) : evF (a :: l) x = a + x * evF l x := rfl
theorem evF_zeros (n : Nat) (x : Fin q) : evF (List.replicate n 0) x = 0 := by
  induction n with
  | zero => rfl
  | succ n ih => rw [List.replicate_succ, evF_cons, ih]; grind
theorem evF_app0 : ∀ (l : List (Fin q)) (n : Nat) (x : Fin q), evF (l ++ List.replicate n 0) x = evF l x
  | [], n, x => evF_zeros n x
  | a :: l, n, x => by rw [List.cons_append, evF_cons, evF_cons, evF_app0 l]
theorem evF_zip (r x : Fin q) : ∀ (a b : List (Fin q)), a.length = b.length → evF (List.zipWith (fun u v => u - v * r) a b) x = evF a x - evF b x * r
  | [], [], _ => by simp only [List.zipWith_nil_left, evF_nil]; grind
  | u :: a, v :: b, h => by
    have ih := evF_zip r x a b (by simpa using h)
    rw [List.zipWith_cons_cons, evF_cons, evF_cons, evF_cons, ih]; grind
/-- a polynomial times (x - r), plus c -/
theorem evF_lin (c r x : Fin q) (u : List (Fin q)) : evF (List.zipWith (fun a b => a - b * r) (c :: u) (u ++ [0])) x = c + (x - r) * evF u x := by
  rw [evF_zip r x _ _ (by simp), evF_cons, show [(0 : Fin q)] = List.replicate 1 0 from rfl, evF_app0]; grind
/-! there is only one -/
theorem sub_ne {a b : Fin q} (h : a ≠ b) : a - b ≠ 0 := fun e => h (by grind)
/-! divided differences -/
/-- the divided difference of f at the points of a list and x -/
noncomputable def dd (f : Fin q → Fin q) : List (Fin q) → Fin q → Fin q
  | [], x => f x
  | a :: S, x => (dd f S x - dd f S a) * iv (x - a)
theorem dd_swap (hP : Prm q) (q2 : q ≤ 1048575) (f : Fin q → Fin q) (S : List (Fin q)) {a b : Fin q} (h : a ≠ b) : dd f (a :: S) b = dd f (b :: S) a := by
  have h1 := (iv_spec hP q2 (sub_ne h)).1
  have h2 := (iv_spec hP q2 (sub_ne (Ne.symm h))).1
  simp only [dd]
  grind
theorem dd_perm (hP : Prm q) (q2 : q ≤ 1048575) (f : Fin q → Fin q) {S T : List (Fin q)} (h : S.Perm T) : S.Nodup → ∀ x, x ∉ S → dd f S x = dd f T x := by
  induction h with
  | nil => intro _ _ _; rfl
  | cons a hp ih =>
    intro hn x hx
    rw [List.nodup_cons] at hn
    simp only [dd]
    rw [ih hn.2 x (fun h => hx (by simp [h])), ih hn.2 a hn.1]
  | swap a b S =>
    intro hn x hx
    have hxb : x ≠ b := fun e => hx (by simp [e])
    have hxa : x ≠ a := fun e => hx (by simp [e])
    have hba : b ≠ a := fun e => by rw [List.nodup_cons] at hn; exact hn.1 (by simp [e])
    have i1 := (iv_spec hP q2 (sub_ne hxb)).1
    have i2 := (iv_spec hP q2 (sub_ne hxa)).1
    have i3 := (iv_spec hP q2 (sub_ne hba)).1
    have i4 := (iv_spec hP q2 (sub_ne (Ne.symm hba))).1
    simp only [dd]
    generalize dd f S x = u at *
    generalize dd f S a = v at *
    generalize dd f S b = w at *
    generalize iv (x - a) = xa at *
    generalize iv (x - b) = xb at *
    generalize iv (b - a) = ba at *
    generalize iv (a - b) = ab at *
    have e : ab = -ba := by grind
    subst e
    have k1 : ((u - v) * xa - (w - v) * ba) * xb - ((u - w) * xb - (v - w) * -ba) * xa = 0 := by
      have : ((x - a) * (x - b) * (b - a)) * (((u - v) * xa - (w - v) * ba) * xb - ((u - w) * xb - (v - w) * -ba) * xa) = 0 := by grind
      have n1 := mul_ne hP q2 (mul_ne hP q2 (sub_ne hxa) (sub_ne hxb)) (sub_ne hba)
      have n2 := (iv_spec hP q2 n1).1
      grind
    grind
  | trans h1 h2 ih1 ih2 =>
    intro hn x hx
    rw [ih1 hn x hx, ih2 (h1.nodup_iff.1 hn) x (fun h => hx (h1.mem_iff.2 h))]
end
end Go.Sx.Po

end
section
/- Interpolation modulo a prime: the document's Lie, as a list of coefficients, and its values. -/
set_option linter.unusedVariables false
set_option linter.unusedSimpArgs false
set_option linter.unusedSectionVars false
set_option maxRecDepth 100000
namespace Go.Sx.Po
open Go

section
variable {q : Nat} [NeZero q]
def lst (f : Nat → Fin q) (n : Nat) : List (BitVec 64) := (List.range n).map fun k => fe (f k)
theorem lst_len (f : Nat → Fin q) (n : Nat) : (lst f n).length = n := by simp [lst]
theorem lst_get {f : Nat → Fin q} {n k : Nat} (h : k < n) : getI (lst f n) (k : Int) = some (fe (f k)) := by
  rw [getI_some (by rw [lst_len]; exact h)]; simp [lst]
theorem lst_set (f : Nat → Fin q) (n i : Nat) (v : Fin q) : (lst f n).set i (fe v) = lst (fun k => if k = i then v else f k) n := by
  apply List.ext_getElem
  · simp [lst]
  · intro k h1 h2
    rw [List.getElem_set]
    simp only [lst, List.getElem_map, List.getElem_range]
    by_cases e : i = k
    · rw [if_pos e, if_pos e.symm]
    · rw [if_neg e, if_neg (Ne.symm e)]
theorem lst_congr {f g : Nat → Fin q} {n : Nat} (h : ∀ k, k < n → f k = g k) : lst f n = lst g n := by
  unfold lst
  apply List.map_congr_left
  intro k hk
  rw [h k (List.mem_range.1 hk)]
/-- an element of a list of numbers -/
def el (l : List (Fin q)) (k : Nat) : Fin q := l.getD k 0
theorem el_some {l : List (Fin q)} {k : Nat} (h : k < l.length) : el l k = l[k] := by unfold el; rw [List.getD_eq_getElem?_getD, List.getElem?_eq_getElem h]; rfl
theorem lst_of_list (l : List (Fin q)) : l.map fe = lst (el l) l.length := by
  apply List.ext_getElem
  · simp [lst]
  · intro k h1 h2
    simp only [lst, List.getElem_map, List.getElem_range]
    rw [el_some]
theorem list_of_lst (l : List (Fin q)) (f : Nat → Fin q) (h : ∀ k (hk : k < l.length), l[k] = f k) : lst f l.length = l.map fe := by
  rw [lst_of_list]; exact lst_congr fun k hk => by rw [el_some hk, h k hk]
theorem mkL_zeros (n : Nat) (h : n * 8 ≤ 140737488355328) : mkL 8 (n : Int) 0#64 = some (lst (fun _ => (0 : Fin q)) n) := by
  unfold mkL
  rw [if_pos (by omega), Int.toNat_natCast]
  congr 1
  apply List.ext_getElem
  · simp [lst]
  · intro k h1 h2
    simp [lst]; rfl
/-- a list of coefficients times (x - r), plus c -/
def linL (c r : Fin q) (u : List (Fin q)) : List (Fin q) := List.zipWith (fun a b => a - b * r) (c :: u) (u ++ [0])
theorem linL_len (c r : Fin q) (u : List (Fin q)) : (linL c r u).length = u.length + 1 := by simp [linL]
/-! the document's sum -/
variable (X Y : Nat → Fin q)
end
end Go.Sx.Po

end
section
/- Interpolation modulo a prime: the program's Newton form comes to the same list. -/
set_option linter.unusedVariables false
set_option linter.unusedSimpArgs false
set_option linter.unusedSectionVars false
set_option maxRecDepth 100000
namespace Go.Sx.Po
open Go

theorem back_loop2 (l : List (BitVec 64)) (hl : l.length < 4611686018427387904) : ∀ (k f : Nat), k ≤ l.length → k < f → fixN (slices_Backward_1_c271_L1 l) f ((k : Int) - 1) = some ((List.range k).reverse.map fun i : Nat => ((i : Int), l.getD i 0#64))
  | k, 0, _, h => by omega
  | 0, f + 1, _, _ => by
    rw [fix_step]; simp only [slices_Backward_1_c271_L1]; rw [if_neg (by omega)]; rfl
  | k + 1, f + 1, hk, hf => by
    rw [fix_step]; simp only [slices_Backward_1_c271_L1]
    rw [show ((k + 1 : Nat) : Int) - 1 = (k : Int) from by omega, if_pos (by omega), getI_some (by omega), bind_some, w64_id (by omega) (by omega), back_loop2 l hl k f (by omega) (by omega), yl_some', List.range_succ, List.reverse_append, List.map_append]
    have hkk : k < l.length := by omega
    simp [hkk]
section
variable {q : Nat} [NeZero q] (X Y : Nat → Fin q)
/-- the table of divided differences behind step s -/
noncomputable def Tt : Nat → Nat → Fin q
  | 0, k => Y k
  | s + 1, k => if k < s + 1 then Tt s k else (Tt s k - Tt s (k - 1)) * iv (X k - X (k - (s + 1)))
/-- the coefficients behind m points, from the last one on -/
noncomputable def uL (n : Nat) : Nat → List (Fin q)
  | 0 => []
  | m + 1 => linL (Tt X Y (n - 1) (n - 1 - m)) (X (n - 1 - m)) (uL n m)
theorem uL_len (n : Nat) : ∀ m, (uL X Y n m).length = m
  | 0 => rfl
  | m + 1 => by rw [uL, linL_len, uL_len n m]
variable {s : TScheme} {d t p g : Nat}
theorem table_loop (h : Vld s d t p q g) (pts : List TPoint) (n : Nat) (hpn : pts.length = n) (hn : n < 900) (hX : ∀ k (hk : k < pts.length), pts[k].X = fe (X k)) (hne : ∀ k j, k < n → j < n → k ≠ j → X j - X k ≠ 0) (st : Nat) (hst : st + 1 < n) (rec3 : List (BitVec 64) × Int → Option (List (BitVec 64) × Int)) :
    fixN (poly_Interpolate_L4 s pts ((st + 1 : Nat) : Int) rec3) FUEL (lst (Tt X Y st) n, w64 ((n : Int) - 1)) = rec3 (lst (Tt X Y (st + 1)) n, ((st + 2 : Nat) : Int)) := by
  have hP := h.ok.2.1.2
  have q2 := h.ok.2.1.1
  have q1 := hP.1
  refine fix_go _ (fun j x => x = (lst (fun k => if n - 1 - j < k then Tt X Y (st + 1) k else Tt X Y st k) n, ((n - 1 - j : Nat) : Int))) (n - 1 - st) _ (by omega) ?_ ?_ ?_
  · rw [w64_id (by omega) (by omega), show ((n : Int) - 1) = ((n - 1 - 0 : Nat) : Int) from by omega]
    congr 1
    apply lst_congr
    intro k hk
    rw [if_neg (by omega)]
  · rintro j _ hj rfl
    refine ⟨_, rfl, fun rec => ?_⟩
    obtain ⟨i, hi⟩ : ∃ i, n - 1 - j = i := ⟨_, rfl⟩
    have hi2 : i < n := by omega
    have e1 : w64 ((i : Int) - 1) = ((i - 1 : Nat) : Int) := by rw [w64_id (by omega) (by omega)]; omega
    have e2 : w64 ((i : Int) - ((st + 1 : Nat) : Int)) = ((i - (st + 1) : Nat) : Int) := by rw [w64_id (by omega) (by omega)]; omega
    have h3 := hne (i - (st + 1)) i (by omega) hi2 (by omega)
    simp only [poly_Interpolate_L4]
    rw [hi, if_pos (by omega), lst_get hi2, bind_some, e1, lst_get (by omega), bind_some, getI_some (by omega), bind_some, e2, getI_some (by omega), bind_some, if_neg (by omega), if_neg (by omega), h.grp, hX i (by omega), hX (i - (st + 1)) (by omega)]
    simp only
    rw [fsub_eq q1 q2, bind_some, fsub_eq q1 q2, bind_some, fdiv_eq hP q2 h3, bind_some, bind_some, Int.toNat_natCast, lst_set, show n - 1 - (j + 1) = i - 1 from by omega]
    congr 2
    apply lst_congr
    intro k hk
    by_cases a1 : k = i
    · subst a1
      rw [if_pos rfl, if_pos (by omega)]
      simp only [Tt]
      rw [if_neg (by omega)]
    · rw [if_neg a1]
      by_cases a2 : i < k
      · rw [if_pos a2, if_pos (by omega)]
      · rw [if_neg a2, if_neg (by omega)]
  · rintro _ rfl rec
    simp only [poly_Interpolate_L4]
    rw [if_neg (by omega), w64_nat (by omega)]
    congr 2
    apply lst_congr
    intro k hk
    by_cases a2 : n - 1 - (n - 1 - st) < k
    · rw [if_pos a2]
    · rw [if_neg a2]; simp only [Tt]; rw [if_pos (by omega)]
/-- one point more -/
theorem horner_loop (h : Vld s d t p q g) (pts : List TPoint) (n : Nat) (hpn : pts.length = n) (hn : n < 900) (hX : ∀ k (hk : k < pts.length), pts[k].X = fe (X k)) (nx : List (BitVec 64) → Option (List (BitVec 64) × Int)) (i : Nat) (hi : i < n) (c : Fin q) (f : Nat → Fin q) :
    fixN (poly_Interpolate_L6 s pts nx (i : Int) (fe c)) FUEL (w64 ((n : Int) - 1), lst f n) = nx (lst (fun k => if k = 0 then c - f 0 * X i else f (k - 1) - f k * X i) n) := by
  have hP := h.ok.2.1.2
  have q2 := h.ok.2.1.1
  have q1 := hP.1
  refine fix_go _ (fun j x => x = (((n - 1 - j : Nat) : Int), lst (fun k => if n - 1 - j < k then f (k - 1) - f k * X i else f k) n)) (n - 1) _ (by omega) ?_ ?_ ?_
  · rw [w64_id (by omega) (by omega), show ((n : Int) - 1) = ((n - 1 - 0 : Nat) : Int) from by omega]
    congr 1
    apply lst_congr
    intro k hk
    rw [if_neg (by omega)]
  · rintro j _ hj rfl
    refine ⟨_, rfl, fun rec => ?_⟩
    obtain ⟨m, hm⟩ : ∃ m, n - 1 - j = m := ⟨_, rfl⟩
    have hm2 : m < n := by omega
    have e1 : w64 ((m : Int) - 1) = ((m - 1 : Nat) : Int) := by rw [w64_id (by omega) (by omega)]; omega
    simp only [poly_Interpolate_L6]
    rw [hm, if_pos (by omega), e1, lst_get (by omega), bind_some, lst_get hm2, bind_some, getI_some (by omega), bind_some, if_neg (by omega), if_neg (by omega), h.grp, hX i (by omega)]
    simp only
    rw [fmul_eq q1 q2, bind_some, fsub_eq q1 q2, bind_some, bind_some, Int.toNat_natCast, lst_set, show n - 1 - (j + 1) = m - 1 from by omega]
    congr 2
    apply lst_congr
    intro k hk
    by_cases a1 : k = m
    · subst a1; rw [if_pos rfl, if_pos (by omega)]
    · rw [if_neg a1]
      by_cases a2 : m < k
      · rw [if_pos a2, if_pos (by omega)]
      · rw [if_neg a2, if_neg (by omega)]
  · rintro _ rfl rec
    simp only [poly_Interpolate_L6]
    have e0 : getI (lst (fun k => if n - 1 - (n - 1) < k then f (k - 1) - f k * X i else f k) n) 0 = some (fe (f 0)) := by
      have := lst_get (f := fun k => if n - 1 - (n - 1) < k then f (k - 1) - f k * X i else f k) (show 0 < n by omega)
      rw [if_neg (by omega)] at this; exact this
    rw [if_neg (by omega), e0, bind_some, getI_some (by omega), bind_some, h.grp, hX i (by omega)]
    simp only
    rw [fmul_eq q1 q2, bind_some, fsub_eq q1 q2, bind_some, bind_some, show (0 : Int).toNat = 0 from rfl, lst_set]
    congr 1
    apply lst_congr
    intro k hk
    by_cases a1 : k = 0
    · rw [if_pos a1, if_pos a1]
    · rw [if_neg a1, if_neg a1, if_pos (by omega)]
theorem newton_loop (h : Vld s d t p q g) (pts : List TPoint) (n : Nat) (hpn : pts.length = n) (hn : n < 900) (hX : ∀ k (hk : k < pts.length), pts[k].X = fe (X k)) : ∀ k, k ≤ n →
    itL (poly_Interpolate_R5 s pts) poly_Interpolate_D5 ((List.range k).reverse.map fun i : Nat => ((i : Int), (lst (Tt X Y (n - 1)) n).getD i 0#64)) ((uL X Y n (n - k) ++ List.replicate k 0).map fe) = some ((uL X Y n n).map fe, 0)
  | 0, _ => by
    rw [List.replicate_zero, List.append_nil, Nat.sub_zero]; rfl
  | k + 1, hk => by
    have hk' : k < n := by omega
    have hul := uL_len X Y n (n - (k + 1))
    have hge : (lst (Tt X Y (n - 1)) n).getD k 0#64 = fe (Tt X Y (n - 1) k) := by
      rw [List.getD_eq_getElem?_getD, List.getElem?_eq_getElem (by rw [lst_len]; exact hk')]; simp [lst]
    rw [List.range_succ, List.reverse_append, List.map_append, show ([k].reverse.map fun i : Nat => ((i : Int), (lst (Tt X Y (n - 1)) n).getD i 0#64)) = [((k : Int), fe (Tt X Y (n - 1) k))] from by simp only [List.reverse_singleton, List.map_cons, List.map_nil, hge], List.singleton_append, itL_cons]
    simp only [poly_Interpolate_R5]
    have hlen : (uL X Y n (n - (k + 1)) ++ List.replicate (k + 1) 0).length = n := by rw [List.length_append, hul, List.length_replicate]; omega
    generalize hu : uL X Y n (n - (k + 1)) = u at *
    rw [List.length_map, hlen, lst_of_list (u ++ List.replicate (k + 1) 0), hlen, horner_loop X h pts n hpn hn hX _ k hk']
    have e3 : n - k = n - (k + 1) + 1 := by omega
    have e4 : n - 1 - (n - (k + 1)) = k := by omega
    have eU : uL X Y n (n - k) = linL (Tt X Y (n - 1) k) (X k) u := by rw [e3, uL, e4, hu]
    have hfin := newton_loop h pts n hpn hn hX k (by omega)
    rw [eU] at hfin
    rw [← hfin]
    congr 1
    have hll := linL_len (Tt X Y (n - 1) k) (X k) u
    have hL : (linL (Tt X Y (n - 1) k) (X k) u ++ List.replicate k 0).length = n := by rw [List.length_append, hll, List.length_replicate]; omega
    have := list_of_lst (linL (Tt X Y (n - 1) k) (X k) u ++ List.replicate k 0) (fun m => if m = 0 then Tt X Y (n - 1) k - el (u ++ List.replicate (k + 1) 0) 0 * X k else el (u ++ List.replicate (k + 1) 0) (m - 1) - el (u ++ List.replicate (k + 1) 0) m * X k) (fun m hm => by
      rw [hL] at hm
      have hz : ∀ j, j < n → el (u ++ List.replicate (k + 1) 0) j = if hj : j < u.length then u[j] else 0 := by
        intro j hj
        rw [el_some (by omega)]
        by_cases e : j < u.length
        · rw [dif_pos e, List.getElem_append_left e]
        · rw [dif_neg e, List.getElem_append_right (by omega), List.getElem_replicate]
      rw [hz m hm, hz 0 (by omega), hz (m - 1) (by omega)]
      by_cases e : m < u.length + 1
      · rw [List.getElem_append_left (by omega)]
        simp only [linL, List.getElem_zipWith]
        have e2 : (u ++ [(0 : Fin q)])[m]'(by simp; omega) = if hj : m < u.length then u[m] else 0 := by
          by_cases e5 : m < u.length
          · rw [dif_pos e5, List.getElem_append_left e5]
          · rw [dif_neg e5, List.getElem_append_right (by omega)]; simp
        rw [e2]
        cases m with
        | zero => rw [if_pos rfl]; rfl
        | succ m => rw [if_neg (by omega), List.getElem_cons_succ, Nat.add_sub_cancel, dif_pos (show m < u.length by omega)]
      · rw [List.getElem_append_right (by omega), List.getElem_replicate, if_neg (by omega), dif_neg (by omega), dif_neg (by omega)]; grind)
    rw [hL] at this
    exact this
theorem newton_eq (h : Vld s d t p q g) (pts : List TPoint) (n : Nat) (hpn : pts.length = n) (h1 : 1 ≤ n) (hn : n < 900) (hX : ∀ k (hk : k < pts.length), pts[k].X = fe (X k)) (hY : ∀ k (hk : k < pts.length), pts[k].Y = fe (Y k)) (hne : ∀ k j, k < n → j < n → k ≠ j → X j - X k ≠ 0) :
    poly_Interpolate_J1 s pts false = some ((uL X Y n n).map fe, 0) := by
  unfold poly_Interpolate_J1
  rw [cond_false, hpn, mkL_zeros (q := q) _ (by omega), bind_some]
  have h3 : fixN (poly_Interpolate_L3 s pts) FUEL (lst Y n, 1) = some ((uL X Y n n).map fe, 0) := by
    refine fix_go _ (fun st x => x = (lst (Tt X Y st) n, ((st + 1 : Nat) : Int))) (n - 1) _ (by omega) (by rfl) ?_ ?_
    · rintro st _ hst rfl
      refine ⟨_, rfl, fun rec => ?_⟩
      simp only [poly_Interpolate_L3]
      rw [lst_len, if_pos (by omega)]
      exact table_loop X Y h pts n hpn hn hX hne st (by omega) rec
    · rintro _ rfl rec
      simp only [poly_Interpolate_L3]
      unfold slices_Backward_f243 slices_Backward_1_c271
      rw [lst_len, if_neg (by omega), mkL_zeros (q := q) _ (by omega), bind_some, bind_some, lst_len, w64_id (by omega) (by omega), back_loop2 _ (by rw [lst_len]; omega) n FUEL (by rw [lst_len]; omega) (fuel_lt (by omega)), bind_some]
      have := newton_loop X Y h pts n hpn hn hX n (Nat.le_refl _)
      rw [Nat.sub_self] at this
      have e : lst (fun _ => (0 : Fin q)) n = (uL X Y n 0 ++ List.replicate n 0).map fe := by
        have := list_of_lst (List.replicate n (0 : Fin q)) (fun _ => 0) (fun k hk => by simp)
        rw [List.length_replicate] at this
        exact this
      rw [e]
      exact this
  refine fix_go _ (fun j x => x = (lst (fun k => if k < j then Y k else 0) n, (j : Int))) n _ (by omega) (by simp) ?_ ?_
  · rintro j _ hj rfl
    refine ⟨_, rfl, fun rec => ?_⟩
    simp only [poly_Interpolate_L2]
    rw [if_pos (by omega), getI_some (by omega), bind_some, lst_get hj, bind_some, hY j (by omega), Int.toNat_natCast, lst_set, w64_nat (by omega)]
    congr 2
    apply lst_congr
    intro k hk
    by_cases e : k = j
    · subst e; rw [if_pos rfl, if_pos (by omega)]
    · rw [if_neg e]
      by_cases e2 : k < j
      · rw [if_pos e2, if_pos (by omega)]
      · rw [if_neg e2, if_neg (by omega)]
  · rintro _ rfl rec
    simp only [poly_Interpolate_L2]
    rw [if_neg (by omega)]
    have e : lst (fun k => if k < n then Y k else 0) n = lst Y n := lst_congr fun k hk => by rw [if_pos hk]
    rw [e]; exact h3
/-! what the Newton form is worth -/
/-- the values at the points -/
def fy (n : Nat) (x : Fin q) : Fin q := match (List.range n).find? (fun k => decide (X k = x)) with | some k => Y k | none => 0
theorem fy_eq {n : Nat} (hne : ∀ k j, k < n → j < n → k ≠ j → X j - X k ≠ 0) {k : Nat} (hk : k < n) : fy X Y n (X k) = Y k := by
  unfold fy
  cases e : (List.range n).find? (fun j => decide (X j = X k)) with
  | none =>
    have := List.find?_eq_none.1 e k (List.mem_range.2 hk)
    simp at this
  | some j =>
    have h1 := List.find?_some e
    have h2 := List.mem_range.1 (List.mem_of_find?_eq_some e)
    simp only [decide_eq_true_eq] at h1
    by_cases ejk : j = k
    · rw [ejk]
    · exact absurd (by rw [h1]; grind) (hne k j hk h2 (Ne.symm ejk))
/-- the points from a to b -/
def seg (a b : Nat) : List (Fin q) := (List.range' a (b - a)).map X
theorem seg_nil (a : Nat) : seg X a a = [] := by simp [seg]
theorem seg_cons {a b : Nat} (h : a < b) : seg X a b = X a :: seg X (a + 1) b := by
  unfold seg
  obtain ⟨m, hm⟩ : ∃ m, b - a = m + 1 := ⟨b - a - 1, by omega⟩
  rw [hm, List.range'_succ, List.map_cons, show b - (a + 1) = m from by omega]
theorem seg_snoc {a b : Nat} (h : a ≤ b) : seg X a (b + 1) = seg X a b ++ [X b] := by
  unfold seg
  rw [show b + 1 - a = (b - a) + 1 from by omega, List.range'_concat, List.map_append]
  simp; congr 1; omega
theorem seg_nodup {n a b : Nat} (hb : b ≤ n) (hne : ∀ k j, k < n → j < n → k ≠ j → X j - X k ≠ 0) : (seg X a b).Nodup := by
  unfold seg
  rw [List.Nodup, List.pairwise_map]
  refine List.Pairwise.imp_of_mem ?_ (List.nodup_range' (step := 1) (s := a) (n := b - a))
  intro i j hi hj hij he
  have hi' := List.mem_range'_1.1 hi
  have hj' := List.mem_range'_1.1 hj
  exact hne i j (by omega) (by omega) hij (by rw [he]; grind)
theorem seg_not {n a b k : Nat} (hb : b ≤ n) (hk : k < n) (hkab : k < a ∨ b ≤ k) (hne : ∀ k j, k < n → j < n → k ≠ j → X j - X k ≠ 0) : X k ∉ seg X a b := by
  unfold seg
  intro hm
  obtain ⟨j, hj, he⟩ := List.mem_map.1 hm
  have hj' := List.mem_range'_1.1 hj
  exact hne k j hk (by omega) (by omega) (by rw [he]; grind)
theorem ne_of {n k j : Nat} (hne : ∀ k j, k < n → j < n → k ≠ j → X j - X k ≠ 0) (hk : k < n) (hj : j < n) (h : k ≠ j) : X k ≠ X j := fun e => hne k j hk hj h (by rw [e]; grind)
theorem Tt_dd (hP : Prm q) (q2 : q ≤ 1048575) {n : Nat} (hne : ∀ k j, k < n → j < n → k ≠ j → X j - X k ≠ 0) : ∀ st k, st ≤ k → k < n → Tt X Y st k = dd (fy X Y n) (seg X (k - st) k) (X k)
  | 0, k, _, hk => by
    rw [Nat.sub_zero, seg_nil]; simp only [Tt, dd]; rw [fy_eq X Y hne hk]
  | st + 1, k, hs, hk => by
    have ih1 := Tt_dd hP q2 hne st k (by omega) hk
    have ih2 := Tt_dd hP q2 hne st (k - 1) (by omega) (by omega)
    simp only [Tt]
    rw [if_neg (by omega), ih1, ih2, seg_cons X (show k - (st + 1) < k by omega)]
    simp only [dd]
    rw [show k - (st + 1) + 1 = k - st from by omega]
    congr 2
    obtain ⟨a, ha⟩ : ∃ a, k - (st + 1) = a := ⟨_, rfl⟩
    obtain ⟨b, hb⟩ : ∃ b, k = b + 1 := ⟨k - 1, by omega⟩
    subst hb
    rw [ha, show b + 1 - st = a + 1 from by omega, Nat.add_sub_cancel, show b - st = a from by omega]
    by_cases e : a = b
    · subst e
      rw [seg_nil, seg_nil]
    · rw [seg_cons X (show a < b by omega), seg_snoc X (show a + 1 ≤ b by omega), dd_swap hP q2 _ _ (ne_of X hne (show a < n by omega) (show b < n by omega) e)]
      symm
      refine dd_perm hP q2 _ (List.perm_append_singleton _ _) ?_ _ ?_
      · have := seg_nodup X (a := a + 1) (b := b + 1) (by omega) hne
        rwa [seg_snoc X (show a + 1 ≤ b by omega)] at this
      · have := seg_not X (a := a + 1) (b := b + 1) (k := a) (by omega) (by omega) (.inl (by omega)) hne
        rwa [seg_snoc X (show a + 1 ≤ b by omega)] at this
theorem Tt_last {n k : Nat} : ∀ m, Tt X Y (k + m) k = Tt X Y k k
  | 0 => rfl
  | m + 1 => by rw [show k + (m + 1) = (k + m) + 1 from rfl]; simp only [Tt]; rw [if_pos (by omega)]; exact Tt_last (n := n) m
theorem newton_ev (hP : Prm q) (q2 : q ≤ 1048575) {n : Nat} (hne : ∀ k j, k < n → j < n → k ≠ j → X j - X k ≠ 0) : ∀ m j, m ≤ n → n - m ≤ j → j < n → evF (uL X Y n m) (X j) = dd (fy X Y n) (seg X 0 (n - m)) (X j)
  | 0, j, _, h1, h2 => by omega
  | m + 1, j, hm, h1, h2 => by
    obtain ⟨i, hi⟩ : ∃ i, n - 1 - m = i := ⟨_, rfl⟩
    have hin : i < n := by omega
    have hd : Tt X Y (n - 1) i = dd (fy X Y n) (seg X 0 i) (X i) := by
      have := Tt_last X Y (n := n) (k := i) (n - 1 - i)
      rw [show i + (n - 1 - i) = n - 1 from by omega] at this
      rw [this, Tt_dd X Y hP q2 hne i i (Nat.le_refl _) hin, Nat.sub_self]
    rw [uL, hi, linL, evF_lin, hd, show n - (m + 1) = i from by omega]
    by_cases e : j = i
    · subst e; grind
    · have ih := newton_ev hP q2 hne m j (by omega) (by omega) h2
      rw [ih, show n - m = i + 1 from by omega, seg_snoc X (Nat.zero_le i)]
      have hp : dd (fy X Y n) (seg X 0 i ++ [X i]) (X j) = dd (fy X Y n) (X i :: seg X 0 i) (X j) := by
        refine dd_perm hP q2 _ (List.perm_append_singleton _ _) ?_ _ ?_
        · have := seg_nodup X (a := 0) (b := i + 1) (by omega) hne
          rwa [seg_snoc X (Nat.zero_le i)] at this
        · have := seg_not X (a := 0) (b := i + 1) (k := j) (by omega) h2 (.inr (by omega)) hne
          rwa [seg_snoc X (Nat.zero_le i)] at this
      rw [hp]
      simp only [dd]
      have h3 := (iv_spec hP q2 (hne i j hin h2 (Ne.symm e))).1
      grind
theorem newton_val (hP : Prm q) (q2 : q ≤ 1048575) {n : Nat} (hne : ∀ k j, k < n → j < n → k ≠ j → X j - X k ≠ 0) {j : Nat} (hj : j < n) : evF (uL X Y n n) (X j) = Y j := by
  rw [newton_ev X Y hP q2 hne n j (Nat.le_refl _) (by omega) hj, Nat.sub_self, seg_nil]
  exact fy_eq X Y hne hj
end
end Go.Sx.Po

end
section
/- Values and interpolation: the program's calls are the document's. -/
set_option linter.unusedVariables false
set_option linter.unusedSimpArgs false
set_option linter.unusedSectionVars false
set_option maxRecDepth 100000
namespace Go.Sx.Po
open Go

/-! values -/
theorem max_lt (Q : BitVec 64) : ∀ (l : List (BitVec 64)) (a : BitVec 64), (l.foldl mxU a < Q) ↔ (a < Q ∧ ∀ x ∈ l, x < Q)
  | [], a => by simp
  | b :: l, a => by
    rw [List.foldl_cons, max_lt Q l]
    have : mxU a b < Q ↔ (a < Q ∧ b < Q) := by
      unfold mxU
      split
      · rename_i h; rw [BitVec.lt_def] at *; constructor
        · intro h2; rw [BitVec.lt_def]; exact ⟨by omega, h2⟩
        · intro h2; exact h2.2
      · rename_i h; rw [BitVec.lt_def] at *; constructor
        · intro h2; rw [BitVec.lt_def]; exact ⟨h2, by omega⟩
        · intro h2; exact h2.1
    rw [this]
    constructor
    · rintro ⟨⟨h1, h2⟩, h3⟩; exact ⟨h1, fun x hx => by rcases List.mem_cons.1 hx with rfl | hx; exact h2; exact h3 x hx⟩
    · rintro ⟨h1, h2⟩; exact ⟨⟨h1, h2 b (by simp)⟩, fun x hx => h2 x (by simp [hx])⟩
theorem max_eq (l : List (BitVec 64)) (hl : l.length < 4611686018427387904) (h0 : 1 ≤ l.length) : ∃ m, slices_Max_6ac0 l = some m ∧ ∀ Q, m < Q ↔ ∀ x ∈ l, x < Q := by
  refine ⟨l.foldl mxU l[0], ?_, fun Q => ?_⟩
  · unfold slices_Max_6ac0
    rw [if_neg (by omega), show (0 : Int) = ((0 : Nat) : Int) from rfl, getI_some (by omega), bind_some]
    refine fix_go _ (fun j x => x = ((l.take (j + 1)).foldl mxU l[0], ((j + 1 : Nat) : Int))) (l.length - 1) _ (by omega) ?_ ?_ ?_
    · have : l.take 1 = [l[0]] := by
        rw [show (1 : Nat) = 0 + 1 from rfl, take_snoc l 0 (by omega)]; simp
      rw [this]; simp [mxU]
    · rintro j _ hj rfl
      refine ⟨_, rfl, fun rec => ?_⟩
      simp only [slices_Max_6ac0_L1]
      rw [if_pos (by omega), getI_some (by omega), bind_some, w64_nat (by omega), take_snoc l (j + 1) (by omega), List.foldl_append]; rfl
    · rintro _ rfl rec
      simp only [slices_Max_6ac0_L1]
      rw [if_neg (by omega), List.take_of_length_le (by omega)]
  · rw [max_lt]
    exact ⟨fun h => h.2, fun h => ⟨h _ (List.getElem_mem (by omega)), h⟩⟩
section
variable {s : TScheme} {d t p q g : Nat}
/-- the value of right coefficients at a right number -/
theorem value_val (h : Vld s d t p q g) (e1 : poly_valid s = some true) (ln : List Nat) (hl : ∀ c ∈ ln, c < q) (hlen : ln.length = t + 1) {x : Nat} (hx : x < q) : poly_Value s (ln.map bn) (bn x) = some (bn (evN ln x % q), 0) := by
  obtain ⟨q1, q2⟩ := h.qb
  have ht := h.t8
  obtain ⟨m, m1, m2⟩ := max_eq (ln.map bn) (by simp; omega) (by simp; omega)
  have hm : m < bn q := (m2 _).2 fun x hx => by
    obtain ⟨c, hc, rfl⟩ := List.mem_map.1 hx
    exact (bn_lt (by have := hl c hc; omega) (by omega)).2 (hl c hc)
  unfold poly_Value poly_Value_J1
  rw [e1, bind_some]
  simp only [Bool.not_true, cond_false]
  rw [if_neg (by rw [h.deg, w64_id (by omega) (by omega), List.length_map]; omega), m1, bind_some, h.grp]
  simp only
  rw [if_neg (by rw [BitVec.le_def]; rw [BitVec.lt_def] at hm; omega), decide_eq_false (by rw [bn_le (by omega) (by omega)]; omega), cond_false, at_eq q1 q2 hx ln hl (by omega), bind_some]
end
/-! interpolation -/
/-- whether points are right -/
def rtB (Q : BitVec 64) (l : List TPoint) : Bool := (l.all fun x => decide (x.X < Q) && decide (x.Y < Q)) && dstB l
theorem bounds_any (s : TScheme) (l : List TPoint) (hl : l.length < 4611686018427387904) : slices_ContainsFunc_9e39_poly_Interpolate_1 l s = some (!(l.all fun x => decide (x.X < s.Group.Q) && decide (x.Y < s.Group.Q))) := by
  unfold slices_ContainsFunc_9e39_poly_Interpolate_1 slices_IndexFunc_7a5d_poly_Interpolate_1
  have hp : ∀ x : TPoint, poly_Interpolate_1 x s = some (!(decide (x.X < s.Group.Q) && decide (x.Y < s.Group.Q))) := by
    intro x
    unfold poly_Interpolate_1
    by_cases h : s.Group.Q ≤ x.X
    · rw [if_pos h, decide_eq_false (by rw [BitVec.lt_def]; rw [BitVec.le_def] at h; omega)]; rfl
    · rw [if_neg h, decide_eq_true (show x.X < s.Group.Q by rw [BitVec.lt_def]; rw [BitVec.le_def] at h; omega)]
      by_cases h2 : s.Group.Q ≤ x.Y
      · rw [decide_eq_true h2, decide_eq_false (by rw [BitVec.lt_def]; rw [BitVec.le_def] at h2; omega)]; rfl
      · rw [decide_eq_false h2, decide_eq_true (by rw [BitVec.lt_def]; rw [BitVec.le_def] at h2; omega)]; rfl
  rw [find_go l hl (fun x => !(decide (x.X < s.Group.Q) && decide (x.Y < s.Group.Q))) _ (fun rec j hj => by
    simp only [slices_IndexFunc_7a5d_poly_Interpolate_1_L1]
    rw [if_pos (by omega), getI_some hj, bind_some, hp, bind_some, w64_nat (by omega)]) (fun rec => by
    simp only [slices_IndexFunc_7a5d_poly_Interpolate_1_L1]; rw [if_neg (by omega)]), bind_some, idx_any]
  congr 1
  induction l with
  | nil => rfl
  | cons a l ih => rw [List.any_cons, List.all_cons, ih (by simp at hl; omega)]; cases (decide (a.X < s.Group.Q) && decide (a.Y < s.Group.Q)) <;> simp
/-- the points as numbers modulo q -/
def Yb (q : Nat) [NeZero q] (l : List TPoint) (k : Nat) : Fin q := fi q (l.getD k default).Y.toNat
theorem right_facts {q : Nat} [NeZero q] (hq : q ≤ 1048575) {l : List TPoint} (h : rtB (bn q) l = true) :
    (∀ k (hk : k < l.length), l[k].X = fe (Xa q l k)) ∧ (∀ k (hk : k < l.length), l[k].Y = fe (Yb q l k)) ∧ (∀ k j, k < l.length → j < l.length → k ≠ j → Xa q l j - Xa q l k ≠ 0) := by
  simp only [rtB, Bool.and_eq_true] at h
  have hall : ∀ x ∈ l, x.X.toNat < q ∧ x.Y.toNat < q := by
    intro x hx
    have := List.all_eq_true.1 h.1 x hx
    simp only [Bool.and_eq_true, decide_eq_true_eq, BitVec.lt_def] at this
    rwa [bn_nat (by omega)] at this
  have gd : ∀ k (hk : k < l.length), l.getD k default = l[k] := fun k hk => by rw [List.getD_eq_getElem?_getD, List.getElem?_eq_getElem hk]; rfl
  refine ⟨fun k hk => ?_, fun k hk => ?_, fun k j hk hj hkj => ?_⟩
  · unfold Xa; rw [gd k hk, fe_fi (hall _ (List.getElem_mem hk)).1, bn_toNat]
  · unfold Yb; rw [gd k hk, fe_fi (hall _ (List.getElem_mem hk)).2, bn_toNat]
  · intro he
    have e1 : Xa q l k = Xa q l j := by grind
    unfold Xa at e1
    rw [gd k hk, gd j hj] at e1
    have e2 := fi_inj (hall _ (List.getElem_mem hk)).1 (hall _ (List.getElem_mem hj)).1 e1
    have e3 : l[k].X = l[j].X := BitVec.eq_of_toNat_eq e2
    have h3 := h.2
    unfold dstB at h3
    rw [decide_eq_true_eq, List.Nodup, List.pairwise_iff_getElem] at h3
    rcases Nat.lt_or_gt_of_ne hkj with hlt | hlt
    · exact h3 k j (by simpa using hk) (by simpa using hj) hlt (by simpa using e3)
    · exact h3 j k (by simpa using hj) (by simpa using hk) hlt (by simpa using e3.symm)
section
variable {s : TScheme} {d t p q g : Nat}
theorem interp_val [NeZero q] (h : Vld s d t p q g) (e1 : poly_valid s = some true) (l : List TPoint) (hl : l.length < 4611686018427387904) :
    poly_Interpolate s l = if l.length = t + 1 ∧ rtB (bn q) l = true then some ((uL (Xa q l) (Yb q l) (t + 1) (t + 1)).map fe, 0) else some ([], 2) := by
  obtain ⟨q1, q2⟩ := h.qb
  have ht := h.t8
  unfold poly_Interpolate
  rw [e1, bind_some]
  simp only [Bool.not_true, cond_false]
  by_cases hlen : (l.length : Int) = w64 (s.Degree + 1)
  · have hlt : l.length = t + 1 := by rw [h.deg, w64_id (by omega) (by omega)] at hlen; omega
    rw [if_neg (by simpa using hlen), bounds_any s l hl, bind_some]
    by_cases hb : (l.all fun x => decide (x.X < s.Group.Q) && decide (x.Y < s.Group.Q)) = true
    · rw [hb]
      simp only [Bool.not_true, cond_false]
      rw [distinct_eq l hl, bind_some]
      cases hd : dstB l with
      | false =>
        have : ¬ (l.length = t + 1 ∧ rtB (bn q) l = true) := fun e => by have := e.2; simp [rtB, hd] at this
        rw [if_neg this]; rfl
      | true =>
        have hr : rtB (bn q) l = true := by unfold rtB; rw [h.grp] at hb; simp only at hb; rw [hb, hd]; rfl
        obtain ⟨f1, f2, f3⟩ := right_facts q2 hr
        rw [if_pos ⟨hlt, hr⟩, Bool.not_true, newton_eq (Xa q l) (Yb q l) h l (t + 1) hlt (by omega) (by omega) f1 f2 (by rw [← hlt]; exact f3)]
    · have hb2 : (l.all fun x => decide (x.X < s.Group.Q) && decide (x.Y < s.Group.Q)) = false := by simpa using hb
      have : ¬ (l.length = t + 1 ∧ rtB (bn q) l = true) := fun e => by
        have := e.2
        rw [h.grp] at hb2; simp only at hb2
        unfold rtB at this; rw [hb2] at this; cases this
      rw [hb2, if_neg this]; rfl
  · have : ¬ (l.length = t + 1 ∧ rtB (bn q) l = true) := fun e => hlen (by rw [h.deg, w64_id (by omega) (by omega)]; omega)
    rw [if_pos (by simpa using hlen), if_neg this]; rfl
end
end Go.Sx.Po

end
section
/- alive (layer 4): the chapter's examples hold. -/
set_option linter.unusedVariables false
set_option linter.unusedSimpArgs false
set_option maxRecDepth 100000
namespace Go.Sx
open Go

/-- law04_alive_J1 with what follows it left open -/
def aliveJ (f : Bool → Option Bool) (x1 : TScheme) (a4 : Bool) : Option (Bool) := (bif a4 then (some false) else Option.bind (poly_Seal (72057594037927936#64, 0#64) x1 [1] (144115188075855872#64, 0#64) 5#64) fun x5 => (Option.bind (poly_Secret (72057594037927936#64, 0#64) x1 0) fun x6 => (Option.bind (poly_Secret (72057594037927936#64, 0#64) x1 1) fun x7 => (Option.bind (poly_Open x1 x6.1 x5.1) fun x8 => (Option.bind (poly_Open x1 x7.1 x5.1) fun x9 => (Option.bind (law04_points x5.1 x5.2 [2#64, 5#64]) fun x18 => ((bif (!x18) then (f true) else (if x6.2 ≠ 0 then (f true) else (if x6.1.Share.X ≠ 1#64 then (f true) else (if x7.2 ≠ 0 then (f true) else (if x8.2 ≠ 0 then (f true) else (if x8.1 ≠ (144115188075855872#64, 0#64) then (f true) else (f (decide (x9.2 ≠ 6))))))))))))))))
def aliveA (f : Bool → Option Bool) : Option Bool := Option.bind (law04_small) fun x1 => (Option.bind (poly_Value x1 [3#64, 0#64, 2#64] 4#64) fun x2 => (Option.bind (poly_Interpolate x1 [(TPoint.mk 1#64 5#64), (TPoint.mk 4#64 2#64), (TPoint.mk 0#64 3#64)]) fun x3 => (Option.bind (poly_Check x1) fun x19 => ((if x19 ≠ 0 then (aliveJ f x1 true) else (if x2.2 ≠ 0 then (aliveJ f x1 true) else (if x2.1 ≠ 2#64 then (aliveJ f x1 true) else Option.bind (law04_words x3.1 x3.2 [3#64, 0#64, 2#64]) fun x20 => ((aliveJ f x1 (!x20))))))))))
theorem alive_of : law04_alive = aliveA law04_alive_J2 := by
  unfold law04_alive aliveA law04_alive_J1 aliveJ; rfl
theorem alive_go (f : Bool → Option Bool) : aliveA f = f false := by kernel_rfl
def aliveK : W2 := (72057594037927936#64, 0#64)
def aliveP : List TLabel := [⟨3, 0, drv aliveK (un8 32#8) 0#64⟩, ⟨4, 0, drv (drv aliveK (un8 31#8) 0#64) (un8 31#8) 0#64⟩]
theorem alive_full : poly_Full aliveK 2 = some (⟨2, [⟨1, 0, aliveK⟩]⟩, 0) := by kernel_rfl
theorem alive_sort : aliveP.mergeSort (fun a b => decide (a.Node ≤ b.Node)) = aliveP := List.mergeSort_of_pairwise (by decide +kernel)
theorem alive_pun : poly_Puncture ⟨2, [⟨1, 0, aliveK⟩]⟩ 1 = some (⟨2, aliveP⟩, 0) := by
  have : poly_Puncture ⟨2, [⟨1, 0, aliveK⟩]⟩ 1 = some (⟨2, aliveP.mergeSort (fun a b => decide (a.Node ≤ b.Node))⟩, 0) := by kernel_rfl
  rw [this, alive_sort]
def aliveB (f : TPunctured × Int) (q : TPunctured × Int) : Option Bool := Option.bind (poly_Evaluate q.1 1) fun x13 => (Option.bind (poly_Evaluate q.1 0) fun x14 => (Option.bind (poly_Evaluate f.1 0) fun x15 => (Option.bind (law04_nodes f.1 f.2 [1]) fun x16 => ((bif x16 then Option.bind (law04_nodes q.1 q.2 [3, 4]) fun x17 => ((bif x17 then (if x13.2 = 6 then (if x14.2 = 0 then (if x15.2 = 0 then (some (decide (x14.1 = x15.1))) else (some false)) else (some false)) else (some false)) else (some false))) else (some false))))))
theorem alive_B : aliveB (⟨2, [⟨1, 0, aliveK⟩]⟩, 0) (⟨2, aliveP⟩, 0) = some true := by decide +kernel
theorem alive4_eq : law04_alive = some true := by
  rw [alive_of, alive_go]
  unfold law04_alive_J2
  rw [cond_false, show ((72057594037927936#64, 0#64) : W2) = aliveK from rfl, alive_full, bind_some, alive_pun, bind_some]
  exact alive_B
end Go.Sx

end
section
/- Secrets and values, as numbers: for the outright laws. -/
set_option linter.unusedVariables false
set_option linter.unusedSimpArgs false
set_option linter.unusedSectionVars false
set_option maxRecDepth 100000
namespace Go.Sx.Po
open Go

theorem fe_inj {q : Nat} (q2 : q ≤ 1048575) {a b : Fin q} (h : fe a = fe b) : a = b := by
  have ha := a.isLt
  have hb := b.isLt
  unfold fe at h
  exact Fin.ext ((bn_inj (by omega) (by omega)).1 h)
theorem evN_evF {q : Nat} [NeZero q] (x : Fin q) : ∀ (l : List (Fin q)), fi q (evN (l.map Fin.val) x.val) = evF l x
  | [] => rfl
  | a :: l => by
    have ih := evN_evF x l
    rw [evF_cons, List.map_cons]
    show fi q (a.val + x.val * evN (l.map Fin.val) x.val) = _
    rw [fi_add, fi_mul, fi_self, fi_self, ih]
section
variable {s : TScheme} {d t p q g : Nat}
theorem value_fin [NeZero q] (h : Vld s d t p q g) (e1 : poly_valid s = some true) (l : List (Fin q)) (hlen : l.length = t + 1) (x : Fin q) : poly_Value s (l.map fe) (fe x) = some (fe (evF l x), 0) := by
  have h1 := value_val h e1 (l.map Fin.val) (fun c hc => by obtain ⟨a, _, rfl⟩ := List.mem_map.1 hc; exact a.isLt) (by simp [hlen]) x.isLt
  have e3 : (l.map Fin.val).map bn = l.map (fe (q := q)) := by rw [List.map_map]; rfl
  rw [e3] at h1
  show poly_Value s (l.map fe) (bn x.val) = _
  rw [h1, ← evN_evF]
  rfl
/-- the secret polynomial -/
def cfF (root : W2) (q t : Nat) [NeZero q] : List (Fin q) := (cfs root q t).map (fi q)
theorem cfF_len (root : W2) [NeZero q] : (cfF root q t).length = t + 1 := by rw [cfF, List.length_map, cfs_len]
theorem cfF_fe (h : Vld s d t p q g) (root : W2) [NeZero q] : (cfF root q t).map fe = (cfs root q t).map bn := by
  rw [cfF, List.map_map]
  exact List.map_congr_left fun c hc => fe_fi (cfs_lt (by have := h.qb; omega) c hc)
theorem coef_fin [NeZero q] (h : Vld s d t p q g) (e1 : poly_valid s = some true) (root : W2) : poly_Coefficients root s = some ((cfF root q t).map fe, 0) := by
  unfold poly_Coefficients
  rw [e1, bind_some]
  simp only [Bool.not_true, cond_false]
  rw [secret_eq h, bind_some, cfF_fe h]
theorem fN_fin [NeZero q] (root : W2) (x : Nat) (hx : x < q) : fN root q t x = (evF (cfF root q t) (fi q x)).val := by
  rw [← evN_evF]
  unfold fN cfF
  rw [List.map_map, fi_lt hx, fi_val]
  congr 2
  have : ∀ c ∈ cfs root q t, (Fin.val ∘ fi q) c = c := fun c hc => fi_lt (cfs_lt (by omega) c hc)
  exact ((List.map_congr_left this).trans (List.map_id _)).symm
theorem secret_fin [NeZero q] (h : Vld s d t p q g) (e1 : poly_valid s = some true) (root : W2) {u : Nat} (hu : u < 2 ^ d) : poly_Secret root s (u : Int) = some (⟨(u : Int), [], ⟨bn (u + 1), fe (evF (cfF root q t) (fi q (u + 1)))⟩⟩, 0) := by
  have h64 := pow_le64 h.d6
  obtain ⟨q1, q2⟩ := h.qb
  have hb := h.big
  have ht := h.t8
  have hcl : (cfs root q t).length = t + 1 := cfs_len root
  unfold poly_Secret poly_Secret_J1
  rw [e1, bind_some]
  simp only [Bool.not_true, cond_false]
  rw [if_neg (by omega), h.depth, shG_nat, bind_some, shl1 h.d6, decide_eq_false (by omega), cond_false, secret_eq h, bind_some, h.grp, wd_nat, show (1#64) = bn 1 from rfl, bn_add]
  simp only
  rw [at_eq q1 q2 (by omega) _ (cfs_lt (by omega)) (by omega), bind_some]
  have := fN_fin (t := t) root (u + 1) (show u + 1 < q by omega)
  unfold fN at this
  rw [this]
end
end Go.Sx.Po

end
section
/- The group of a scheme, plainly: powers of the generator; what Seal returns. -/
set_option linter.unusedVariables false
set_option linter.unusedSimpArgs false
set_option linter.unusedSectionVars false
set_option maxRecDepth 100000
namespace Go.Sx.Po
open Go

section
variable {p q g : Nat}
theorem gp_p (h : GrpOk p q g) : 2 ≤ p := by have := h.2.2.2.1; have := h.2.2.2.2.1; omega
theorem gp_mul (h : GrpOk p q g) (k : Nat) : g ^ (q * k) % p = 1 := by
  rw [Nat.pow_mul, Nat.pow_mod, h.2.2.2.2.2, Nat.one_pow, Nat.mod_eq_of_lt (by have := gp_p h; omega)]
theorem gp_mod (h : GrpOk p q g) (n : Nat) : g ^ n % p = g ^ (n % q) % p := by
  conv => lhs; rw [← Nat.div_add_mod n q, Nat.pow_add, Nat.mul_mod, gp_mul h, Nat.one_mul, Nat.mod_mod]
theorem gp_cong (h : GrpOk p q g) {a b : Nat} (e : a % q = b % q) : g ^ a % p = g ^ b % p := by rw [gp_mod h a, gp_mod h b, e]
theorem gp_one (h : GrpOk p q g) {n : Nat} (e : g ^ n % p = 1) : n % q = 0 := by
  have hq := h.2.1.2.1
  have q2 := h.2.1.1
  have hg := h.2.2.2.1
  have hgp := h.2.2.2.2.1
  haveI : NeZero q := ⟨by omega⟩
  refine Decidable.byContradiction fun hn => ?_
  have hne : fi q n ≠ 0 := fun h0 => hn (by have := congrArg Fin.val h0; rw [fi_val] at this; exact this)
  have h1 : fi q n * iv (fi q n) = 1 := (iv_spec h.2.1.2 q2 hne).1
  have h2 : fi q (n * (iv (fi q n)).val) = fi q 1 := by rw [fi_mul, fi_self, h1, fi_1]
  have h3 : n * (iv (fi q n)).val % q = 1 % q := by have := congrArg Fin.val h2; rw [fi_val, fi_val] at this; exact this
  have h4 := gp_cong h h3
  rw [Nat.pow_one, Nat.mod_eq_of_lt hgp, Nat.pow_mul, Nat.pow_mod, e, Nat.one_pow, Nat.mod_eq_of_lt (by omega)] at h4
  omega
theorem gp_inj (h : GrpOk p q g) {a b : Nat} (e : g ^ a % p = g ^ b % p) : a % q = b % q := by
  have hq := h.2.1.2.1
  have e1 : g ^ (a + a * (q - 1)) % p = 1 := by
    rw [show a + a * (q - 1) = q * a from by rw [Nat.mul_sub_one, Nat.mul_comm q a]; have := Nat.le_mul_of_pos_right a (show 0 < q by omega); omega]; exact gp_mul h a
  have e2 : g ^ (b + a * (q - 1)) % p = 1 := by
    rw [Nat.pow_add, Nat.mul_mod, ← e, ← Nat.mul_mod, ← Nat.pow_add]; exact e1
  have e3 := gp_one h e2
  have e4 := gp_one h e1
  have : (b + a * (q - 1) + a) % q = (a + a * (q - 1) + b) % q := by congr 1; omega
  rw [Nat.add_mod, e3, Nat.zero_add, Nat.mod_mod, Nat.add_mod (a + a * (q - 1)) b, e4, Nat.zero_add, Nat.mod_mod] at this
  exact this
end
section
variable {s : TScheme} {d t p q g : Nat}
theorem base_pow (root : W2) (nonce : BitVec 64) (n : Nat) : baseN root p q g nonce ^ n % p = g ^ (rN root q nonce * n) % p := by
  unfold baseN; rw [← Nat.pow_mod, ← Nat.pow_mul]
theorem base_inj (h : Vld s d t p q g) (root : W2) (nonce : BitVec 64) {v w : Nat} (hv : v < q) (hw : w < q) (e : baseN root p q g nonce ^ v % p = baseN root p q g nonce ^ w % p) : v = w := by
  obtain ⟨q1, q2⟩ := h.qb
  haveI : NeZero q := ⟨by omega⟩
  obtain ⟨r1, r2⟩ := rnum_lt h root nonce
  rw [base_pow, base_pow] at e
  have e1 := gp_inj h.ok e
  have e2 : fi q (rN root q nonce) * fi q v = fi q (rN root q nonce) * fi q w := by rw [← fi_mul, ← fi_mul]; exact Fin.ext e1
  have hne : fi q (rN root q nonce) ≠ 0 := fun h0 => by have := congrArg Fin.val h0; rw [fi_lt r2] at this; exact absurd this (by show ¬ rN root q nonce = 0; omega)
  have h1 : fi q (rN root q nonce) * iv (fi q (rN root q nonce)) = 1 := (iv_spec h.ok.2.1.2 q2 hne).1
  refine fi_inj hv hw ?_
  have e3 : iv (fi q (rN root q nonce)) * (fi q (rN root q nonce) * fi q v) = iv (fi q (rN root q nonce)) * (fi q (rN root q nonce) * fi q w) := by rw [e2]
  grind
/-- what Seal returns -/
theorem seal_cases (root : W2) (s : TScheme) (l : List Int) (hl : l.length < 4611686018427387904) (session : W2) (nonce : BitVec 64) :
    (ref04_Valid s = some false ∧ ∃ r, poly_Seal root s l session nonce = some (r, 30)) ∨
    ∃ d t p q g, Vld s d t p q g ∧ poly_valid s = some true ∧ ref04_Valid s = some true ∧ ((∃ r, lstB d l = false ∧ poly_Seal root s l session nonce = some (r, 2)) ∨ (∃ r, lstB d l = true ∧ t < l.length ∧ poly_Seal root s l session nonce = some (r, 4)) ∨
      ∃ ln : List Nat, l = ln.map (fun n : Nat => (n : Int)) ∧ lstB d l = true ∧ (∀ n ∈ ln, n < 2 ^ d) ∧ ln.Pairwise (· < ·) ∧ ln.length ≤ t ∧ poly_Seal root s l session nonce = some (hdN root d t p q g ln session nonce, 0)) := by
  rcases valid_eq s with ⟨e1, e2⟩ | ⟨e1, e2, d, t, p, q, g, h⟩
  · refine .inl ⟨e2, ⟨[], 0#64, [], k0, k0⟩, ?_⟩
    unfold poly_Seal; rw [e1, bind_some]; rfl
  · refine .inr ⟨d, t, p, q, g, h, e1, e2, ?_⟩
    cases hb : lstB d l with
    | false =>
      refine .inl ⟨⟨[], 0#64, [], k0, k0⟩, rfl, ?_⟩
      unfold poly_Seal; rw [e1, bind_some]; simp only [Bool.not_true, cond_false]; rw [plist_loop h root l session nonce hl, hb]; rfl
    | true =>
      by_cases hlen : s.Degree < (l.length : Int)
      · refine .inr (.inl ⟨⟨[], 0#64, [], k0, k0⟩, rfl, by rw [h.deg] at hlen; omega, ?_⟩)
        unfold poly_Seal; rw [e1, bind_some]; simp only [Bool.not_true, cond_false]; rw [plist_loop h root l session nonce hl, hb, cond_true, if_pos hlen]
      · obtain ⟨ln, rfl, h1, h2⟩ := lst_nat hb
        rw [h.deg] at hlen
        have h3 : ln.length ≤ t := by simp at hlen; omega
        exact .inr (.inr ⟨ln, rfl, rfl, h1, h2, h3, pseal_eq h e1 root h1 h2 h3 session nonce⟩)
end
end Go.Sx.Po

end
section
/- Lagrange's sum at 0, and the product that Open makes. -/
set_option linter.unusedVariables false
set_option linter.unusedSimpArgs false
set_option linter.unusedSectionVars false
set_option maxRecDepth 100000
namespace Go.Sx.Po
open Go

section
variable {q : Nat} [NeZero q] (X Y : Nat → Fin q)
end
end Go.Sx.Po

end
section
/- What is decrypted is what was encrypted. -/
set_option linter.unusedVariables false
set_option linter.unusedSimpArgs false
set_option maxRecDepth 100000
namespace Go.Sx.Po
open Go

end Go.Sx.Po

end
section
/- Opening what was sealed, plainly. -/
set_option linter.unusedVariables false
set_option linter.unusedSimpArgs false
set_option linter.unusedSectionVars false
set_option maxRecDepth 100000
namespace Go.Sx.Po
open Go

section
variable {s : TScheme} {d t p q g : Nat}
theorem bn_nodup {l : List Nat} (hq : q ≤ 1048575) (hl : ∀ x ∈ l, x < q) (h : l.Nodup) : (l.map bn).Nodup := by
  rw [List.Nodup, List.pairwise_map]
  refine List.Pairwise.imp_of_mem (fun ha hb hne e => hne ((bn_inj (by have := hl _ ha; omega) (by have := hl _ hb; omega)).1 e)) h
theorem xs_nodup {ln : List Nat} (hl : ∀ n ∈ ln, n < 2 ^ d) (ho : ln.Pairwise (· < ·)) : (xsN d t ln).Nodup := by
  unfold xsN
  rw [List.nodup_append]
  refine ⟨?_, ?_, ?_⟩
  · rw [List.Nodup, List.pairwise_map]; exact ho.imp fun {a b} hab e => by omega
  · rw [List.Nodup, List.pairwise_map]; exact List.nodup_range.imp fun {a b} hab e => hab (by omega)
  · intro a ha b hb e
    obtain ⟨n, hn, rfl⟩ := List.mem_map.1 ha
    obtain ⟨m, _, rfl⟩ := List.mem_map.1 hb
    have := hl n hn; omega
end
end Go.Sx.Po

end
section
/- Interpolation at given numbers, plainly. -/
set_option linter.unusedVariables false
set_option linter.unusedSimpArgs false
set_option linter.unusedSectionVars false
set_option maxRecDepth 100000
namespace Go.Sx.Po
open Go

section
variable {s : TScheme} {d t p q g : Nat}
theorem interp_at [NeZero q] (h : Vld s d t p q g) (e1 : poly_valid s = some true) (zs : List Nat) (hz : ∀ x ∈ zs, x < q) (hn : zs.Nodup) (hlen : zs.length = t + 1) (y : Nat → Fin q) :
    ∃ P : List (Fin q), P.length = t + 1 ∧ poly_Interpolate s (zs.map fun x => (⟨bn x, fe (y x)⟩ : TPoint)) = some (P.map fe, 0) ∧ ∀ x ∈ zs, evF P (fi q x) = y x := by
  obtain ⟨q1, q2⟩ := h.qb
  have ht := h.t8
  have hP := h.ok.2.1.2
  obtain ⟨O, hO⟩ : ∃ O, (zs.map fun x => (⟨bn x, fe (y x)⟩ : TPoint)) = O := ⟨_, rfl⟩
  have hOl : O.length = t + 1 := by rw [← hO, List.length_map, hlen]
  have hr : rtB (bn q) O = true := by
    unfold rtB dstB
    rw [Bool.and_eq_true, List.all_eq_true]
    constructor
    · intro a ha
      rw [← hO] at ha
      obtain ⟨x, hx, rfl⟩ := List.mem_map.1 ha
      rw [Bool.and_eq_true]
      exact ⟨decide_eq_true ((bn_lt (by have := hz x hx; omega) (by omega)).2 (hz x hx)), decide_eq_true ((bn_lt (by have := (y x).isLt; omega) (by omega)).2 (y x).isLt)⟩
    · rw [← hO, List.map_map]
      exact decide_eq_true (bn_nodup q2 hz hn)
  obtain ⟨f1, f2, f3⟩ := right_facts q2 hr
  rw [hO]
  refine ⟨_, uL_len _ _ _ _, by rw [interp_val h e1 O (by omega), if_pos ⟨hOl, hr⟩], fun x hx => ?_⟩
  obtain ⟨k, hk, rfl⟩ := List.mem_iff_getElem.1 hx
  have hkO : k < O.length := by omega
  have a1 := f1 k hkO
  have a2 := f2 k hkO
  have hg : O[k] = ⟨bn zs[k], fe (y zs[k])⟩ := by simp only [← hO, List.getElem_map]
  rw [hg] at a1 a2
  have e3 : fi q zs[k] = Xa q O k := fe_inj q2 (by rw [fe_fi (hz _ hx)]; exact a1)
  have e4 : y zs[k] = Yb q O k := fe_inj q2 a2
  rw [e3, e4]
  exact newton_val _ _ hP q2 (fun k j hk hj h3 => f3 k j (by omega) (by omega) h3) (by omega)
end
end Go.Sx.Po

end
section
/- How the arguments' types are opened. Printed by rows2.py. -/
set_option linter.unusedVariables false
set_option linter.unusedSimpArgs false
set_option maxRecDepth 100000
namespace Go.Sx
open Go Go.RowKit Go.Proofs
theorem op_TGroup {H : Type} {enc : TypeId × Value → H} {W : World} {fuel : Nat} {cs : List Value} {x : DataW H × List MemPlace} (h : Tr enc Try.prog W fuel 26 cs x) : ∃ (m : TGroup), cs = TGroup.cs m := by
  obtain ⟨xs, n, rfl, rfl, hl, hx, hf⟩ := DataW.trod_struct Try.underlying26 h
  replace hl : cs.length = 3 := hl.trans (by kernel_rfl)
  replace hx : xs.length = 3 := hx
  obtain ⟨y0, e0⟩ := some_at (i := 0) hx rfl
  have h0 : Tr enc Try.prog W n 24 ((cs.drop 0).take 1) y0 := fld hf (i := 0) rfl rfl rfl (by kernel_rfl) e0
  obtain ⟨m0, c0⟩ := op_u64 Try.underlying24 h0
  obtain ⟨y1, e1⟩ := some_at (i := 1) hx rfl
  have h1 : Tr enc Try.prog W n 24 ((cs.drop 1).take 1) y1 := fld hf (i := 1) rfl rfl rfl (by kernel_rfl) e1
  obtain ⟨m1, c1⟩ := op_u64 Try.underlying24 h1
  obtain ⟨y2, e2⟩ := some_at (i := 2) hx rfl
  have h2 : Tr enc Try.prog W n 24 ((cs.drop 2).take 1) y2 := fld hf (i := 2) rfl rfl rfl (by kernel_rfl) e2
  obtain ⟨m2, c2⟩ := op_u64 Try.underlying24 h2
  have q := cat_end hl
  replace q := cat_step (o := 2) (k := 1) c2 q
  replace q := cat_step (o := 1) (k := 1) c1 q
  replace q := cat_step (o := 0) (k := 1) c0 q
  exact ⟨⟨m0, m1, m2⟩, q⟩
def TScheme.ok (x : TScheme) : Prop := I64 x.Depth ∧ I64 x.Degree
theorem op_TScheme {H : Type} {enc : TypeId × Value → H} {W : World} {fuel : Nat} {cs : List Value} {x : DataW H × List MemPlace} (h : Tr enc Try.prog W fuel 28 cs x) : ∃ (m : TScheme), cs = TScheme.cs m ∧ TScheme.ok m := by
  obtain ⟨xs, n, rfl, rfl, hl, hx, hf⟩ := DataW.trod_struct Try.underlying28 h
  replace hl : cs.length = 6 := hl.trans (by kernel_rfl)
  replace hx : xs.length = 4 := hx
  obtain ⟨y0, e0⟩ := some_at (i := 0) hx rfl
  have h0 : Tr enc Try.prog W n 5 ((cs.drop 0).take 1) y0 := fld hf (i := 0) rfl rfl rfl (by kernel_rfl) e0
  obtain ⟨m0, c0⟩ := op_u8 Try.underlying5 h0
  obtain ⟨y1, e1⟩ := some_at (i := 1) hx rfl
  have h1 : Tr enc Try.prog W n 3 ((cs.drop 1).take 1) y1 := fld hf (i := 1) rfl rfl rfl (by kernel_rfl) e1
  obtain ⟨m1, c1, k1⟩ := op_i64 Try.underlying3 h1
  obtain ⟨y2, e2⟩ := some_at (i := 2) hx rfl
  have h2 : Tr enc Try.prog W n 3 ((cs.drop 2).take 1) y2 := fld hf (i := 2) rfl rfl rfl (by kernel_rfl) e2
  obtain ⟨m2, c2, k2⟩ := op_i64 Try.underlying3 h2
  obtain ⟨y3, e3⟩ := some_at (i := 3) hx rfl
  have h3 : Tr enc Try.prog W n 26 ((cs.drop 3).take 3) y3 := fld hf (i := 3) rfl rfl rfl (by kernel_rfl) e3
  obtain ⟨m3, c3⟩ := op_TGroup h3
  have q := cat_end hl
  replace q := cat_step (o := 3) (k := 3) c3 q
  replace q := cat_step (o := 2) (k := 1) c2 q
  replace q := cat_step (o := 1) (k := 1) c1 q
  replace q := cat_step (o := 0) (k := 1) c0 q
  exact ⟨⟨m0, m1, m2, m3⟩, q, ⟨k1, k2⟩⟩
end Go.Sx

end
section
/- PolyHidden on the mirrors: the session key is hidden from the revoked receivers together. -/
set_option linter.unusedVariables false
set_option linter.unusedSimpArgs false
set_option maxRecDepth 100000
namespace Go.Sx
open Go Po

theorem law04_PolyHidden_ok (p0 : W2) (p1 : TScheme) (p2 : List Int) (p3 : W2) (p4 p5 p6 : BitVec 64) (i1 : TScheme.ok p1) (i2 : ∀ a ∈ p2, I64 a) (i2l : p2.length * 8 ≤ 140737488351232) : law04_PolyHidden p0 p1 p2 p3 p4 p5 p6 = some true := by
  unfold law04_PolyHidden law04_PolyHidden_J1 law04_PolyHidden_J2
  rw [alive4_eq, bind_some]
  rcases seal_cases p0 p1 p2 (by omega) p3 p4 with ⟨e2, r, hr⟩ | ⟨d, t, p, q, g, h, e1, e2, ⟨r, hb, hr⟩ | ⟨r, hb, hlt, hr⟩ | ⟨ln, rfl, hb, hl, ho, hlen, hs⟩⟩
  · rw [e2]; rfl
  · rw [e2, bind_some]
    simp only [Bool.not_true, cond_false]
    rw [h.depth, rlist_eq h.d6 _ (by omega), hb]; rfl
  · rw [e2, bind_some]
    simp only [Bool.not_true, cond_false]
    rw [h.depth, rlist_eq h.d6 _ (by omega), hb, bind_some]
    simp only [Bool.not_true, cond_false]
    rw [h.deg, if_pos (by omega)]; rfl
  · obtain ⟨q1, q2⟩ := h.qb
    obtain ⟨pp1, pp2⟩ := h.pb
    haveI : NeZero q := ⟨by omega⟩
    have ht := h.t8
    have hbig := h.big
    have h64 := pow_le64 h.d6
    rw [e2, bind_some]
    simp only [Bool.not_true, cond_false]
    rw [h.depth, rlist_eq h.d6 _ (by omega), hb, bind_some]
    simp only [Bool.not_true, cond_false]
    rw [h.deg, if_neg (by rw [List.length_map]; omega), h.grp]
    dsimp only
    by_cases hv0 : bn q ≤ p5
    · rw [if_pos hv0]; rfl
    rw [if_neg hv0]
    by_cases hw0 : bn q ≤ p6
    · rw [decide_eq_true hw0]; rfl
    rw [decide_eq_false hw0, cond_false]
    obtain ⟨v, hv1, rfl⟩ := bn_of p5
    obtain ⟨w, hw1, rfl⟩ := bn_of p6
    rw [bn_le (by omega) hv1] at hv0
    rw [bn_le (by omega) hw1] at hw0
    have hv : v < q := by omega
    have hw : w < q := by omega
    have hbl := baseN_lt h p0 p4
    have hx : ∀ x ∈ xsN d t ln, 1 ≤ x ∧ x < q := fun x hx => xs_lt h hl hx
    have hxl := xsN_len (d := d) hlen
    have hH1 : (hdN p0 d t p q g ln p3 p4).Base = bn (baseN p0 p q g p4) := rfl
    have hH2 : (hdN p0 d t p q g ln p3 p4).Points = (xsN d t ln).map (ptN p0 p q t (baseN p0 p q g p4)) := rfl
    generalize hdN p0 d t p q g ln p3 p4 = H at hs hH1 hH2
    have hval : ∀ x, x < q → fN p0 q t x = (evF (cfF p0 q t) (fi q x)).val := fun x hx => fN_fin p0 x hx
    -- the other polynomial
    obtain ⟨P, hP1, hP2, hP3⟩ := interp_at h e1 (0 :: xsN d t ln) (fun x hh => by
      rcases List.mem_cons.1 hh with rfl | hh
      · omega
      · exact (hx x hh).2) (List.nodup_cons.2 ⟨fun hh => by have := (hx 0 hh).1; omega, xs_nodup hl ho⟩) (by rw [List.length_cons, hxl]) (fun x => if x = 0 then fi q v else evF (cfF p0 q t) (fi q x))
    have hP0 : evF P 0 = fi q v := by have := hP3 0 (by simp); rw [if_pos rfl, fi_0] at this; exact this
    have hPx : ∀ x ∈ xsN d t ln, evF P (fi q x) = evF (cfF p0 q t) (fi q x) := fun x hh => by
      have := hP3 x (by simp [hh]); rw [if_neg (by have := (hx x hh).1; omega)] at this; exact this
    have hPv : ∀ x ∈ xsN d t ln, poly_Value p1 (P.map fe) (bn x) = some (bn (fN p0 q t x), 0) := fun x hh => by
      have := value_fin h e1 P hP1 (fi q x)
      rw [fe_fi (hx x hh).2, hPx x hh] at this
      rw [this, hval x (hx x hh).2]
    rw [hs, bind_some, coef_fin h e1, bind_some, if_neg (by simp), if_neg (by simp), decide_eq_false (by
      show ¬ ((H.Points.length : Int) ≠ _)
      rw [hH2, List.length_map, hxl]; simp), cond_false]
    refine fix_go _ (fun j s => s = ((⟨0#64, bn v⟩ : TPoint) :: ((xsN d t ln).take j).map (fun x => (⟨bn x, bn (fN p0 q t x)⟩ : TPoint)), (j : Int))) t _ (by omega) rfl ?_ ?_
    · rintro j _ hj rfl
      refine ⟨_, rfl, fun rec => ?_⟩
      have hjx : j < (xsN d t ln).length := by omega
      have hm := List.getElem_mem hjx
      have hv2 := value_fin h e1 (cfF p0 q t) (cfF_len p0) (fi q (xsN d t ln)[j])
      rw [fe_fi (hx _ hm).2] at hv2
      simp only [law04_PolyHidden_L3]
      rw [hH2, if_pos (by rw [List.length_map]; omega), getI_some (by rw [List.length_map]; exact hjx), bind_some, List.getElem_map]
      simp only [ptN]
      rw [hv2, bind_some, if_neg (by simp), bind_some, appG_some (by simp; omega), bind_some, w64_nat (by omega), take_snoc _ j hjx, List.map_append, List.cons_append, show fe (evF (cfF p0 q t) (fi q (xsN d t ln)[j])) = bn (fN p0 q t (xsN d t ln)[j]) from by rw [hval _ (hx _ hm).2]]
      rfl
    · rintro _ rfl rec
      have hO : ((⟨0#64, bn v⟩ : TPoint) :: ((xsN d t ln).take t).map (fun x => (⟨bn x, bn (fN p0 q t x)⟩ : TPoint))) = (0 :: xsN d t ln).map (fun x => (⟨bn x, fe (if x = 0 then fi q v else evF (cfF p0 q t) (fi q x))⟩ : TPoint)) := by
        rw [List.take_of_length_le (by omega), List.map_cons, if_pos rfl, fe_fi hv]
        congr 1
        refine List.map_congr_left fun x hh => ?_
        rw [if_neg (by have := (hx x hh).1; omega), hval x (hx x hh).2]
      have hv3 := value_fin h e1 P hP1 0
      rw [hP0, fe_fi hv, show fe (0 : Fin q) = 0#64 from rfl] at hv3
      simp only [law04_PolyHidden_L3, law04_PolyHidden_J4]
      rw [if_neg (by rw [hH2, List.length_map]; omega), hO, hP2, bind_some, hv3, bind_some, if_neg (by simp), if_neg (by simp), decide_eq_false (by simp), cond_false]
      refine same_go t _ _ (by omega) (fun rec j hj => ?_) (fun rec => ?_)
      · have hjx : j < (xsN d t ln).length := by omega
        have hm := List.getElem_mem hjx
        have hfl := fN_lt h p0 (xsN d t ln)[j]
        simp only [law04_PolyHidden_L5, law04_PolyHidden_J6]
        rw [hH2, if_pos (by rw [List.length_map]; omega), getI_some (by rw [List.length_map]; exact hjx), bind_some, List.getElem_map]
        simp only [ptN]
        rw [hPv _ hm, bind_some, hH1, h.grp]
        dsimp only
        rw [pmod_eq (by omega) (by omega) (by omega) (by omega), bind_some, if_neg (by simp), if_neg (by simp), bind_some, decide_eq_false (by simp), cond_false, w64_nat (by omega)]
      · simp only [law04_PolyHidden_L5]
        rw [if_neg (by rw [hH2, List.length_map]; omega)]
        have hlnl : ln.length ≤ 8 := by omega
        refine same_go ln.length _ _ (by omega) (fun rec j hj => ?_) (fun rec => ?_)
        · have hm : ln[j] + 1 ∈ xsN d t ln := List.mem_append.2 (.inl (List.mem_map.2 ⟨ln[j], List.getElem_mem hj, rfl⟩))
          have hlj := hl _ (List.getElem_mem hj)
          simp only [law04_PolyHidden_L7, law04_PolyHidden_J8, law04_PolyHidden_J9]
          rw [if_pos (by rw [List.length_map]; omega), getI_some (by rw [List.length_map]; exact hj), bind_some, List.getElem_map, secret_fin h e1 p0 hlj, bind_some]
          dsimp only
          rw [hPv _ hm, bind_some, if_neg (by simp), if_neg (by simp), show fe (evF (cfF p0 q t) (fi q (ln[j] + 1))) = bn (fN p0 q t (ln[j] + 1)) from by rw [hval _ (hx _ hm).2], decide_eq_false (by simp), cond_false, w64_nat (by omega)]
        · simp only [law04_PolyHidden_L7]
          rw [if_neg (by rw [List.length_map]; omega), hH1, h.grp]
          dsimp only
          rw [pmod_eq (by omega) (by omega) (by omega) (by omega), bind_some, pmod_eq (by omega) (by omega) (by omega) (by omega), bind_some, cond_true, if_pos rfl, if_pos rfl]
          have m1 := Nat.mod_lt (baseN p0 p q g p4 ^ v) (show 0 < p by omega)
          have m2 := Nat.mod_lt (baseN p0 p q g p4 ^ w) (show 0 < p by omega)
          by_cases hvw : v = w
          · rw [hvw]; simp
          · have n1 : ¬ bn (baseN p0 p q g p4 ^ v % p) = bn (baseN p0 p q g p4 ^ w % p) := fun e => hvw (base_inj h p0 p4 hv hw ((bn_inj (by omega) (by omega)).1 e))
            have n2 : ¬ bn v = bn w := fun e => hvw ((bn_inj hv1 hw1).1 e)
            rw [decide_eq_false n1, decide_eq_false n2]; rfl
end Go.Sx

end
