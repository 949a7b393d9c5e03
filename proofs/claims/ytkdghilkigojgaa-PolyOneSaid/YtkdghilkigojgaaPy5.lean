/- merged by mg.py: Nm Vb Vp Ls Pse Fq Byp Pop Poq Pos Ip Iq Ir Iv Alp Oa OpnQb LawQb -/
import Derived.Test.YtkdghilkigojgaaPaM
import Derived.Test.YtkdghilkigojgaaFy
import Derived.Test.YtkdghilkigojgaaPbM
import Derived.Test.YtkdghilkigojgaaPcM
import Derived.Test.YtkdghilkigojgaaPl
import Derived.Test.YtkdghilkigojgaaPdM
import Derived.Test.YtkdghilkigojgaaPl4M
import Derived.KernelRfl
import Derived.Test.YtkdghilkigojgaaOpn
import Derived.Test.YtkdghilkigojgaaRows
import Derived.Test.YtkdghilkigojgaaQbM
section
/- Numbers modulo, plainly: primes, powers, groups; the program's and the document's come to the same. -/
set_option linter.unusedVariables false
set_option linter.unusedSimpArgs false
set_option maxRecDepth 100000
namespace Go.Sx.Po
open Go

abbrev bn (n : Nat) : BitVec 64 := BitVec.ofNat 64 n
theorem bn_of (x : BitVec 64) : ∃ n, n < 18446744073709551616 ∧ x = bn n := ⟨x.toNat, x.isLt, by simp [bn]⟩
theorem bn_nat {n : Nat} (h : n < 18446744073709551616) : (bn n).toNat = n := by rw [bn, BitVec.toNat_ofNat]; exact Nat.mod_eq_of_lt h
theorem bn_inj {a b : Nat} (ha : a < 18446744073709551616) (hb : b < 18446744073709551616) : bn a = bn b ↔ a = b := by
  constructor
  · intro h; rw [← bn_nat ha, ← bn_nat hb, h]
  · intro h; rw [h]
theorem bn_lt {a b : Nat} (ha : a < 18446744073709551616) (hb : b < 18446744073709551616) : bn a < bn b ↔ a < b := by rw [BitVec.lt_def, bn_nat ha, bn_nat hb]
theorem bn_le {a b : Nat} (ha : a < 18446744073709551616) (hb : b < 18446744073709551616) : bn a ≤ bn b ↔ a ≤ b := by rw [BitVec.le_def, bn_nat ha, bn_nat hb]
theorem bn_mul (a b : Nat) : bn a * bn b = bn (a * b) := by apply BitVec.eq_of_toNat_eq; simp [bn]
theorem bn_add (a b : Nat) : bn a + bn b = bn (a + b) := by apply BitVec.eq_of_toNat_eq; simp [bn]
theorem bn_sub {a b : Nat} (ha : a < 18446744073709551616) (h : b ≤ a) : bn a - bn b = bn (a - b) := by
  apply BitVec.eq_of_toNat_eq
  rw [BitVec.toNat_sub, bn_nat ha, bn_nat (by omega), bn_nat (by omega)]; omega
theorem bn_shr (n : Nat) (h : n < 18446744073709551616) : bn n >>> 1 = bn (n / 2) := by
  apply BitVec.eq_of_toNat_eq
  rw [BitVec.toNat_ushiftRight, bn_nat h, bn_nat (by omega), Nat.shiftRight_eq_div_pow]
theorem bn_and1 (n : Nat) (h : n < 18446744073709551616) : bn n &&& 1#64 = bn (n % 2) := by
  apply BitVec.eq_of_toNat_eq
  rw [BitVec.toNat_and, bn_nat h, bn_nat (n := n % 2) (by omega)]
  exact Nat.and_one_is_mod n
theorem remU_bn {a m : Nat} (ha : a < 18446744073709551616) (hm : 0 < m) (hm2 : m < 18446744073709551616) : remU (bn a) (bn m) = some (bn (a % m)) := by
  have := Nat.mod_lt a hm
  unfold remU
  rw [if_neg (fun h => by have := (bn_inj (b := 0) hm2 (by omega)).1 h; omega)]
  congr 1
  apply BitVec.eq_of_toNat_eq
  rw [BitVec.toNat_umod, bn_nat ha, bn_nat hm2, bn_nat (by omega)]
theorem quoU_bn {a m : Nat} (ha : a < 18446744073709551616) (hm : 0 < m) (hm2 : m < 18446744073709551616) : quoU (bn a) (bn m) = some (bn (a / m)) := by
  have := Nat.div_le_self a m
  unfold quoU
  rw [if_neg (fun h => by have := (bn_inj (b := 0) hm2 (by omega)).1 h; omega)]
  congr 1
  apply BitVec.eq_of_toNat_eq
  rw [BitVec.toNat_udiv, bn_nat ha, bn_nat hm2, bn_nat (by omega)]
/-! primes -/
def Prm (n : Nat) : Prop := 2 ≤ n ∧ ∀ e, 2 ≤ e → e * e ≤ n → n % e ≠ 0
theorem prime_loop {n : Nat} (hn : n ≤ 1048575) (T : Bool) (F : (BitVec 64 → Option Bool) → BitVec 64 → Option Bool) (hF : ∀ rec a, F rec a = if a * a ≤ bn n then Option.bind (remU (bn n) a) fun x4 => if x4 = 0#64 then some false else rec (a + 1#64) else some T) :
    ∀ (m d f : Nat), d + m = 1025 → m < f → 2 ≤ d → ∃ b, fixN F f (bn d) = some b ∧ (b = true ↔ T = true ∧ ∀ e, d ≤ e → e * e ≤ n → n % e ≠ 0)
  | m, d, 0, _, h, _ => by omega
  | 0, d, f + 1, hd, _, h2 => by
    obtain rfl : d = 1025 := by omega
    rw [fix_step, hF, bn_mul, if_neg (by rw [bn_le (by omega) (by omega)]; omega)]
    refine ⟨T, rfl, fun h => ⟨h, fun e he hen => ?_⟩, fun h => h.1⟩
    have := Nat.mul_le_mul he he
    omega
  | m + 1, d, f + 1, hd, hf, h2 => by
    have hdd : d * d ≤ 1025 * 1025 := Nat.mul_le_mul (by omega) (by omega)
    rw [fix_step, hF, bn_mul]
    by_cases hle : d * d ≤ n
    · rw [if_pos ((bn_le (by omega) (by omega)).2 hle), remU_bn (by omega) (by omega) (by omega), bind_some]
      by_cases hz : n % d = 0
      · rw [hz, if_pos rfl]
        exact ⟨false, rfl, (fun h => by cases h), fun h => absurd hz (h.2 d (Nat.le_refl _) hle)⟩
      · have hzn : ¬ bn (n % d) = 0#64 := fun h => hz ((bn_inj (b := 0) (by have := Nat.mod_lt n (show 0 < d by omega); omega) (by omega)).1 h)
        rw [if_neg hzn, show (1#64) = bn 1 from rfl, bn_add]
        obtain ⟨b, e1, e2⟩ := prime_loop hn T F hF m (d + 1) f (by omega) (by omega) (by omega)
        refine ⟨b, e1, ?_⟩
        rw [e2]
        refine and_congr_right fun _ => ⟨fun h e he hen => ?_, fun h e he => h e (by omega)⟩
        rcases Nat.lt_or_ge d e with h' | h'
        · exact h e (by omega) hen
        · obtain rfl : e = d := by omega
          exact hz
    · rw [if_neg (fun h => hle ((bn_le (by omega) (by omega)).1 h))]
      refine ⟨T, rfl, fun h => ⟨h, fun e he hen => ?_⟩, fun h => h.1⟩
      have := Nat.mul_le_mul he he
      omega
theorem prime_eq {n : Nat} (h64 : n < 18446744073709551616) : ∃ b, number_prime (bn n) = some b ∧ (b = true ↔ n ≤ 1048575 ∧ Prm n) := by
  unfold number_prime number_prime_J1
  by_cases h2 : n < 2
  · rw [if_pos ((bn_lt h64 (b := 2) (by omega)).2 h2)]
    exact ⟨false, rfl, (fun h => by cases h), fun h => by have := h.2.1; omega⟩
  · rw [if_neg (fun h => h2 ((bn_lt h64 (b := 2) (by omega)).1 h))]
    by_cases hg : 1048575 < n
    · rw [decide_eq_true ((bn_lt (a := 1048575) (by omega) h64).2 hg)]
      exact ⟨false, rfl, (fun h => by cases h), fun h => by omega⟩
    · rw [decide_eq_false (fun h => hg ((bn_lt (a := 1048575) (by omega) h64).1 h)), cond_false]
      obtain ⟨b, e1, e2⟩ := prime_loop (n := n) (by omega) true (number_prime_L2 (bn n)) (fun rec a => rfl) 1023 2 FUEL (by omega) (fuel_lt (by omega)) (by omega)
      refine ⟨b, e1, ?_⟩
      rw [e2]; unfold Prm
      exact ⟨fun h => ⟨by omega, by omega, h.2⟩, fun h => ⟨rfl, h.2.2⟩⟩
theorem isPrime_eq {n : Nat} (hn : n ≤ 1048575) : ∃ b, ref01_IsPrime (bn n) = some b ∧ (b = true ↔ Prm n) := by
  obtain ⟨b, e1, e2⟩ := prime_loop (n := n) hn (decide (2#64 ≤ bn n)) (ref01_IsPrime_L1 (bn n)) (fun rec a => rfl) 1023 2 FUEL (by omega) (fuel_lt (by omega)) (by omega)
  refine ⟨b, e1, ?_⟩
  rw [e2, decide_eq_true_eq, show (2#64) = bn 2 from rfl, bn_le (by omega) (by omega)]; rfl
/-! powers -/
theorem pow_half (x n : Nat) : x ^ n = x ^ (n % 2) * (x * x) ^ (n / 2) := by
  have : x ^ n = x ^ (n % 2 + 2 * (n / 2)) := by congr 1; omega
  rw [this, Nat.pow_add, Nat.pow_mul, Nat.pow_two]
theorem pow_step {m x n o : Nat} : o * x ^ n % m = (if n % 2 = 1 then o * x % m else o) * (x * x % m) ^ (n / 2) % m := by
  rw [pow_half x n]
  rcases Nat.mod_two_eq_zero_or_one n with h | h
  · rw [h, if_neg (by omega), Nat.pow_zero, Nat.one_mul, Nat.mul_mod o ((x * x % m) ^ (n / 2)), ← Nat.pow_mod, ← Nat.mul_mod]
  · rw [h, if_pos rfl, Nat.pow_one, Nat.mul_mod (o * x % m), Nat.mod_mod, ← Nat.pow_mod, ← Nat.mul_mod, Nat.mul_assoc]
theorem power_loop {m : Nat} (hm : 0 < m) (hm2 : m < 4294967296) : ∀ (k n x o f : Nat), n < 2 ^ k → k ≤ 64 → k < f → x < m → o < m → fixN (number_power_L1 (bn m)) f (bn x, bn n, bn o) = some (bn (o * x ^ n % m))
  | k, n, x, o, 0, _, _, h, _, _ => by omega
  | 0, n, x, o, f + 1, hn, _, _, hx, ho => by
    obtain rfl : n = 0 := by simp at hn; exact hn
    rw [fix_step]; simp only [number_power_L1]
    rw [if_neg (by decide), Nat.pow_zero, Nat.mul_one, Nat.mod_eq_of_lt ho]
  | k + 1, n, x, o, f + 1, hn, hk, hf, hx, ho => by
    have hn64 : n < 18446744073709551616 := Nat.lt_of_lt_of_le hn (Nat.le_trans (Nat.pow_le_pow_right (by omega) hk) (by decide))
    have hxx : x * x < 18446744073709551616 := Nat.lt_of_le_of_lt (Nat.mul_le_mul (Nat.le_of_lt hx) (Nat.le_of_lt hx)) (by have := Nat.mul_lt_mul'' hm2 hm2; omega)
    have hox : o * x < 18446744073709551616 := Nat.lt_of_le_of_lt (Nat.mul_le_mul (Nat.le_of_lt ho) (Nat.le_of_lt hx)) (by have := Nat.mul_lt_mul'' hm2 hm2; omega)
    rw [fix_step]; simp only [number_power_L1]
    by_cases h0 : n = 0
    · subst h0
      rw [if_neg (by decide), Nat.pow_zero, Nat.mul_one, Nat.mod_eq_of_lt ho]
    · rw [if_pos ((bn_lt (a := 0) (by omega) hn64).2 (by omega)), bn_and1 n hn64, show shG (un 1#64) = some 1 from by decide, bn_mul, bn_mul, remU_bn hxx hm (by omega), remU_bn hox hm (by omega), pow_step]
      simp only [bind_some]
      rw [bn_shr n hn64]
      have hlt : n / 2 < 2 ^ k := by rw [Nat.pow_succ] at hn; omega
      have h1 := Nat.mod_lt (x * x) hm
      have h2 := Nat.mod_lt (o * x) hm
      by_cases hodd : n % 2 = 1
      · rw [if_pos (by rw [hodd]), if_pos hodd]
        exact power_loop hm hm2 k (n / 2) _ _ f hlt (by omega) (by omega) h1 h2
      · rw [if_neg (fun h => hodd ((bn_inj (b := 1) (by omega) (by omega)).1 h)), if_neg hodd]
        exact power_loop hm hm2 k (n / 2) _ _ f hlt (by omega) (by omega) h1 ho
theorem power_eq {b n m : Nat} (hb : b < 18446744073709551616) (hn : n < 18446744073709551616) (hm : 0 < m) (hm2 : m < 4294967296) : number_power (bn b) (bn n) (bn m) = some (bn (b ^ n % m)) := by
  unfold number_power
  rw [show (1#64) = bn 1 from rfl, remU_bn (by omega) hm (by omega), bind_some, remU_bn hb hm (by omega), bind_some, power_loop hm hm2 64 n _ _ FUEL (by omega) (by omega) (fuel_lt (by omega)) (Nat.mod_lt _ hm) (Nat.mod_lt _ hm), Nat.mod_mul_mod, Nat.one_mul, ← Nat.pow_mod]
theorem rpower_loop {m : Nat} (hm : 0 < m) (hm2 : m < 4294967296) : ∀ (k n x o f : Nat), n < 2 ^ k → k ≤ 64 → k < f → x < m → o < m → fixN (ref01_Power_L1 (bn m)) f (bn n, bn o, bn x) = some (bn (o * x ^ n % m))
  | k, n, x, o, 0, _, _, h, _, _ => by omega
  | 0, n, x, o, f + 1, hn, _, _, hx, ho => by
    obtain rfl : n = 0 := by simp at hn; exact hn
    rw [fix_step]; simp only [ref01_Power_L1]
    rw [if_neg (by decide), Nat.pow_zero, Nat.mul_one, Nat.mod_eq_of_lt ho]
  | k + 1, n, x, o, f + 1, hn, hk, hf, hx, ho => by
    have hn64 : n < 18446744073709551616 := Nat.lt_of_lt_of_le hn (Nat.le_trans (Nat.pow_le_pow_right (by omega) hk) (by decide))
    have hxx : x * x < 18446744073709551616 := Nat.lt_of_le_of_lt (Nat.mul_le_mul (Nat.le_of_lt hx) (Nat.le_of_lt hx)) (by have := Nat.mul_lt_mul'' hm2 hm2; omega)
    have hox : o * x < 18446744073709551616 := Nat.lt_of_le_of_lt (Nat.mul_le_mul (Nat.le_of_lt ho) (Nat.le_of_lt hx)) (by have := Nat.mul_lt_mul'' hm2 hm2; omega)
    rw [fix_step]; simp only [ref01_Power_L1]
    by_cases h0 : n = 0
    · subst h0
      rw [if_neg (by decide), Nat.pow_zero, Nat.mul_one, Nat.mod_eq_of_lt ho]
    · unfold ref01_Power_J2
      rw [if_pos ((bn_lt (a := 0) (by omega) hn64).2 (by omega)), show (2#64) = bn 2 from rfl, remU_bn hn64 (by omega) (by omega), bn_mul, bn_mul, remU_bn hxx hm (by omega), remU_bn hox hm (by omega), quoU_bn hn64 (by omega) (by omega), pow_step]
      simp only [bind_some]
      have hlt : n / 2 < 2 ^ k := by rw [Nat.pow_succ] at hn; omega
      have h1 := Nat.mod_lt (x * x) hm
      have h2 := Nat.mod_lt (o * x) hm
      by_cases hodd : n % 2 = 1
      · rw [if_pos (by rw [hodd]), if_pos hodd]
        exact rpower_loop hm hm2 k (n / 2) _ _ f hlt (by omega) (by omega) h1 h2
      · rw [if_neg (fun h => hodd ((bn_inj (b := 1) (by omega) (by omega)).1 h)), if_neg hodd]
        exact rpower_loop hm hm2 k (n / 2) _ _ f hlt (by omega) (by omega) h1 ho
theorem rpower_eq {b n m : Nat} (hb : b < 18446744073709551616) (hn : n < 18446744073709551616) (hm : 0 < m) (hm2 : m < 4294967296) : ref01_Power (bn b) (bn n) (bn m) = some (bn (b ^ n % m)) := by
  unfold ref01_Power
  rw [show (1#64) = bn 1 from rfl, remU_bn (by omega) hm (by omega), bind_some, remU_bn hb hm (by omega), bind_some, rpower_loop hm hm2 64 n _ _ FUEL (by omega) (by omega) (fuel_lt (by omega)) (Nat.mod_lt _ hm) (Nat.mod_lt _ hm), Nat.mod_mul_mod, Nat.one_mul, ← Nat.pow_mod]
end Go.Sx.Po

end
section
/- Bytes and words, plainly; and loops of n rounds. -/
set_option linter.unusedVariables false
set_option linter.unusedSimpArgs false
set_option maxRecDepth 100000
namespace Go.Sx.Po
open Go

theorem fix_go {τ R : Type} (F : (τ → Option R) → τ → Option R) (I : Nat → τ → Prop) (n : Nat) (r : Option R) (hn : n < 9223372036854775808) {s : τ} (h0 : I 0 s) (hs : ∀ j s, j < n → I j s → ∃ s', I (j + 1) s' ∧ ∀ rec, F rec s = rec s') (he : ∀ s, I n s → ∀ rec, F rec s = r) : fixN F FUEL s = r :=
  fix_run F I n r hs he n 0 FUEL s (by omega) (fuel_lt hn) h0
def valB (l : List (BitVec 8)) : BitVec 64 := l.foldl (fun n c => 256#64 * n + c.setWidth 64) 0#64
theorem shl_or (a : BitVec 64) (c : BitVec 8) : (a <<< 8) ||| (c.setWidth 64) = 256#64 * a + c.setWidth 64 := by
  have e1 : 256#64 * a = a <<< 8 := by
    apply BitVec.eq_of_toNat_eq
    rw [BitVec.toNat_mul, BitVec.toNat_shiftLeft, Nat.shiftLeft_eq, Nat.mul_comm]; rfl
  rw [e1]
  symm
  apply BitVec.add_eq_or_of_and_eq_zero
  apply BitVec.eq_of_getLsbD_eq
  intro j hj
  rw [BitVec.getLsbD_and, BitVec.getLsbD_shiftLeft, BitVec.getLsbD_setWidth, BitVec.getLsbD_zero]
  by_cases h : j < 8
  · simp [h]
  · simp [BitVec.getLsbD_of_ge c j (by omega)]
theorem valB_snoc (l : List (BitVec 8)) (c : BitVec 8) : valB (l ++ [c]) = 256#64 * valB l + c.setWidth 64 := by simp [valB]
theorem sh_step (x : BitVec 64) (s : Nat) : 256#64 * (x >>> (s + 8)) + ((x >>> s).setWidth 8).setWidth 64 = x >>> s := by
  rw [← shl_or]
  apply BitVec.eq_of_getLsbD_eq
  intro i hi
  simp only [BitVec.getLsbD_or, BitVec.getLsbD_shiftLeft, BitVec.getLsbD_ushiftRight, BitVec.getLsbD_setWidth]
  by_cases h : i < 8
  · simp [h, hi]
  · simp [h, hi, show s + 8 + (i - 8) = s + i from by omega]
theorem valB_w8 (x : BitVec 64) : valB (w8 x) = x := by
  have h0 : valB [] = x >>> 64 := by
    apply BitVec.eq_of_getLsbD_eq
    intro i hi
    rw [BitVec.getLsbD_ushiftRight, BitVec.getLsbD_of_ge x _ (by omega)]; simp [valB]
  have st : ∀ (l : List (BitVec 8)) (i : Nat), i ≤ 7 → valB l = x >>> (56 - 8 * i + 8) → valB (l ++ [byt x i]) = x >>> (56 - 8 * i) := fun l i hi hl => by
    rw [valB_snoc, hl]; exact sh_step x (56 - 8 * i)
  have h1 := st [] 0 (by omega) h0
  have h2 := st _ 1 (by omega) h1
  have h3 := st _ 2 (by omega) h2
  have h4 := st _ 3 (by omega) h3
  have h5 := st _ 4 (by omega) h4
  have h6 := st _ 5 (by omega) h5
  have h7 := st _ 6 (by omega) h6
  have h8 := st _ 7 (by omega) h7
  rw [show 56 - 8 * 7 = 0 from rfl, BitVec.ushiftRight_zero] at h8
  exact h8
theorem value_loop (l : List (BitVec 8)) (hx : l.length ≤ 1000) : ∀ (m i fuel : Nat), l.length - i = m → i ≤ l.length → m < fuel → fixN (ref02_Value_L1 l) fuel (valB (l.take i), (i : Int)) = some (valB l)
  | m, i, 0, _, _, hf => by omega
  | 0, i, fuel + 1, hm, hi, hf => by
    rw [fix_step]; simp only [ref02_Value_L1]; rw [if_neg (by omega), List.take_of_length_le (by omega)]
  | m + 1, i, fuel + 1, hm, hi, hf => by
    rw [fix_step]; simp only [ref02_Value_L1]
    rw [if_pos (by omega), getI_some (by omega), bind_some, ← valB_snoc, ← take_snoc _ _ (by omega), w64_id (by omega) (by omega)]
    exact value_loop l hx m (i + 1) fuel (by omega) (by omega) (by omega)
theorem value_eq (l : List (BitVec 8)) (h : l.length ≤ 1000) : ref02_Value l = some (valB l) := value_loop l h _ 0 FUEL rfl (by omega) (fuel_lt (by omega))
theorem kby_w8 (k : W2) : kby k = w8 k.1 ++ w8 k.2 := rfl
theorem words_aux (k : W2) (A B : List (BitVec 8)) (hA : A.length = 8) (hB : B.length = 8) (hk : kby k = A ++ B) : cipher_wordsOf k = some ⟨valB A, valB B⟩ := by
  unfold cipher_wordsOf
  refine fix_go _ (fun j x => x = ((j : Int), valB (A.take j), valB (B.take j))) 8 _ (by omega) (by simp [valB]) ?_ ?_
  · rintro j _ hj rfl
    refine ⟨_, rfl, fun rec => ?_⟩
    have h1 : j < A.length := by omega
    have h2 : j < B.length := by omega
    have g1 : getI (kby k) (j : Int) = some A[j] := by rw [hk, getI_some (by rw [List.length_append]; omega), List.getElem_append_left h1]
    have g2 : getI (kby k) ((8 + j : Nat) : Int) = some B[j] := by
      rw [hk, getI_some (by rw [List.length_append]; omega), List.getElem_append_right (by omega)]
      congr 2; omega
    simp only [cipher_wordsOf_L1]
    rw [if_pos (by omega), show shG (un 8#64) = some 8 from by decide, bind_some, g1, bind_some, bind_some, w64_id (n := 8 + (j : Int)) (by omega) (by omega), show (8 : Int) + (j : Int) = ((8 + j : Nat) : Int) from by omega, g2, bind_some, shl_or, shl_or, ← valB_snoc, ← valB_snoc, ← take_snoc _ _ h1, ← take_snoc _ _ h2, w64_nat (by omega)]
  · rintro _ rfl rec
    simp only [cipher_wordsOf_L1]
    rw [if_neg (by omega), List.take_of_length_le (by omega), List.take_of_length_le (by omega)]
theorem words_eq (k : W2) : cipher_wordsOf k = some ⟨k.1, k.2⟩ := by
  rw [words_aux k _ _ (w8_len _) (w8_len _) (kby_w8 k), valB_w8, valB_w8]
theorem number_eq (k : W2) (n m : BitVec 64) (hm : m ≠ 0#64) : cipher_Number k n m = some ((drv k (un8 3#8) n).1 % m) := by
  unfold cipher_Number
  rw [if_neg hm, words_eq, bind_some]
  simp only
  unfold remU
  rw [if_neg hm]; rfl
theorem rnumber_eq (k : W2) (n m : BitVec 64) (hm : m ≠ 0#64) : ref02_Number k n m = some ((drv k (un8 3#8) n).1 % m) := by
  unfold ref02_Number
  rw [if_neg hm, List.drop_zero, kby_w8, List.take_left' (w8_len _), value_eq _ (by rw [w8_len]; omega), bind_some, valB_w8]
  unfold remU
  rw [if_neg hm]; rfl
end Go.Sx.Po

end
section
/- Schemes with a polynomial, plainly: valid, coefficients, values. -/
set_option linter.unusedVariables false
set_option linter.unusedSimpArgs false
set_option maxRecDepth 100000
namespace Go.Sx.Po
open Go

def GrpOk (p q g : Nat) : Prop := (p ≤ 1048575 ∧ Prm p) ∧ (q ≤ 1048575 ∧ Prm q) ∧ (p - 1) % q = 0 ∧ 2 ≤ g ∧ g < p ∧ g ^ q % p = 1
theorem group_eq {p q g : Nat} (hp : p < 18446744073709551616) (hq : q < 18446744073709551616) (hg : g < 18446744073709551616) :
    ∃ b, number_CheckGroup ⟨bn p, bn q, bn g⟩ = some (if b = true then 0 else 13) ∧ ref01_ValidGroup ⟨bn p, bn q, bn g⟩ = some b ∧ (b = true ↔ GrpOk p q g) := by
  obtain ⟨b1, e1, i1⟩ := prime_eq hp
  obtain ⟨b2, e2, i2⟩ := prime_eq hq
  unfold number_CheckGroup ref01_ValidGroup
  simp only
  rw [e1, bind_some, show (1048575#64) = bn 1048575 from rfl]
  have no : ∀ (h : ¬ GrpOk p q g), (false = true ↔ GrpOk p q g) := fun h => ⟨(fun e => by cases e), fun e => absurd e h⟩
  by_cases hP : p ≤ 1048575 ∧ Prm p
  · have c0 : ¬ bn 1048575 < bn p := fun h => by have := (bn_lt (by omega) hp).1 h; omega
    rw [i1.2 hP, if_neg c0]
    obtain ⟨c1, f1, j1⟩ := isPrime_eq hP.1
    rw [f1, bind_some, j1.2 hP.2]
    simp only [Bool.not_true, cond_false]
    rw [e2, bind_some]
    by_cases hQ : q ≤ 1048575 ∧ Prm q
    · have c0' : ¬ bn 1048575 < bn q := fun h => by have := (bn_lt (by omega) hq).1 h; omega
      rw [i2.2 hQ, if_neg c0']
      obtain ⟨c2, f2, j2⟩ := isPrime_eq hQ.1
      rw [f2, bind_some, j2.2 hQ.2]
      simp only [Bool.not_true, cond_false]
      have hp2 := hP.2.1
      have hq2 := hQ.2.1
      rw [show (1#64) = bn 1 from rfl, bn_sub hp (by omega), remU_bn (by omega) (by omega) hq, bind_some, bind_some]
      have hmod := Nat.mod_lt (p - 1) (show 0 < q by omega)
      unfold number_CheckGroup_J1 ref01_ValidGroup_J1
      simp only
      by_cases hz : (p - 1) % q = 0
      · rw [hz, if_neg (by simp), decide_eq_false (by simp), cond_false, show (2#64) = bn 2 from rfl]
        by_cases h2 : 2 ≤ g
        · have c3 : ¬ bn g < bn 2 := fun h => by have := (bn_lt hg (by omega)).1 h; omega
          have c4 : bn 2 ≤ bn g := (bn_le (by omega) hg).2 h2
          rw [if_neg c3, if_pos c4]
          by_cases h3 : g < p
          · have c5 : ¬ bn p ≤ bn g := fun h => by have := (bn_le hp hg).1 h; omega
            have c6 : bn g < bn p := (bn_lt hg hp).2 h3
            rw [if_neg c5, if_pos c6, power_eq hg hq (by omega) (by omega), rpower_eq hg hq (by omega) (by omega), bind_some, bind_some]
            have hpm := Nat.mod_lt (g ^ q) (show 0 < p by omega)
            have hone : bn (g ^ q % p) = bn 1 ↔ g ^ q % p = 1 := bn_inj (by omega) (by omega)
            refine ⟨decide (bn (g ^ q % p) = bn 1), ?_, rfl, ?_⟩
            · by_cases h4 : bn (g ^ q % p) = bn 1
              · rw [decide_eq_false (by simpa using h4), decide_eq_true h4]; rfl
              · rw [decide_eq_true h4, decide_eq_false h4]; rfl
            · rw [decide_eq_true_eq, hone]
              exact ⟨fun h => ⟨hP, hQ, hz, h2, h3, h⟩, fun h => h.2.2.2.2.2⟩
          · have c5 : bn p ≤ bn g := (bn_le hp hg).2 (by omega)
            have c6 : ¬ bn g < bn p := fun h => h3 ((bn_lt hg hp).1 h)
            rw [if_pos c5, if_neg c6]
            exact ⟨false, rfl, rfl, no fun h => h3 h.2.2.2.2.1⟩
        · have c3 : bn g < bn 2 := (bn_lt hg (by omega)).2 (by omega)
          have c4 : ¬ bn 2 ≤ bn g := fun h => h2 ((bn_le (by omega) hg).1 h)
          rw [if_pos c3, if_neg c4]
          exact ⟨false, rfl, rfl, no fun h => h2 h.2.2.2.1⟩
      · have hz' : bn ((p - 1) % q) ≠ 0#64 := fun h => hz ((bn_inj (b := 0) (by omega) (by omega)).1 h)
        rw [if_pos hz', decide_eq_true hz']
        exact ⟨false, rfl, rfl, no fun h => hz h.2.2.1⟩
    · have hb2 : b2 = false := by cases b2 with | false => rfl | true => exact absurd (i2.1 rfl) hQ
      rw [hb2]
      refine ⟨false, rfl, ?_, no fun h => hQ h.2.1⟩
      by_cases hg' : 1048575 < q
      · have c0' : bn 1048575 < bn q := (bn_lt (by omega) hq).2 hg'
        rw [if_pos c0']; rfl
      · have c0' : ¬ bn 1048575 < bn q := fun h => hg' ((bn_lt (by omega) hq).1 h)
        rw [if_neg c0']
        obtain ⟨c2, f2, j2⟩ := isPrime_eq (n := q) (by omega)
        have : c2 = false := by cases c2 with | false => rfl | true => exact absurd ⟨by omega, j2.1 rfl⟩ hQ
        rw [f2, bind_some, this]; rfl
  · have hb1 : b1 = false := by cases b1 with | false => rfl | true => exact absurd (i1.1 rfl) hP
    rw [hb1]
    refine ⟨false, rfl, ?_, no fun h => hP h.1⟩
    by_cases hg' : 1048575 < p
    · have c0 : bn 1048575 < bn p := (bn_lt (by omega) hp).2 hg'
      rw [if_pos c0]; rfl
    · have c0 : ¬ bn 1048575 < bn p := fun h => hg' ((bn_lt (by omega) hp).1 h)
      rw [if_neg c0]
      obtain ⟨c1, f1, j1⟩ := isPrime_eq (n := p) (by omega)
      have : c1 = false := by cases c1 with | false => rfl | true => exact absurd ⟨by omega, j1.1 rfl⟩ hP
      rw [f1, bind_some, this]; rfl
/-! schemes -/
theorem recv_fin : ∀ d : Fin 7, ref03_Receivers (d.1 : Int) = some ((2 ^ d.1 : Nat) : Int) := by decide +kernel
theorem recv_eq {d : Nat} (h : d ≤ 6) : ref03_Receivers (d : Int) = some ((2 ^ d : Nat) : Int) := recv_fin ⟨d, by omega⟩
theorem shl_fin : ∀ d : Fin 7, shlI 1 d.1 = ((2 ^ d.1 : Nat) : Int) := by decide +kernel
theorem shl1 {d : Nat} (h : d ≤ 6) : shlI 1 d = ((2 ^ d : Nat) : Int) := shl_fin ⟨d, by omega⟩
theorem shG_nat (n : Nat) : shG (n : Int) = some n := by unfold shG; rw [if_pos (by omega)]; rfl
theorem pow_le64 {d : Nat} (h : d ≤ 6) : 2 ^ d ≤ 64 := Nat.le_trans (Nat.pow_le_pow_right (by omega) h) (by decide)
theorem wd_nat (n : Nat) : wd (n : Int) = bn n := by unfold wd bn; exact BitVec.ofInt_natCast 64 n
/-- a valid scheme, in numbers -/
structure Vld (s : TScheme) (d t p q g : Nat) : Prop where
  kind : s.Kind = 4#8
  depth : s.Depth = (d : Int)
  deg : s.Degree = (t : Int)
  d6 : d ≤ 6
  t1 : 1 ≤ t
  t8 : t ≤ 8
  grp : s.Group = ⟨bn p, bn q, bn g⟩
  ok : GrpOk p q g
  big : 2 ^ d + t < q
theorem valid_eq (s : TScheme) : (poly_valid s = some false ∧ ref04_Valid s = some false) ∨ (poly_valid s = some true ∧ ref04_Valid s = some true ∧ ∃ d t p q g, Vld s d t p q g) := by
  obtain ⟨kd, dp, dg, ⟨P, Q, G⟩⟩ := s
  obtain ⟨p, hp, rfl⟩ := bn_of P
  obtain ⟨q, hq, rfl⟩ := bn_of Q
  obtain ⟨g, hg, rfl⟩ := bn_of G
  unfold poly_valid ref04_Valid ref04_Valid_J1
  simp only
  by_cases h1 : kd = 4#8
  · rw [if_pos h1, if_neg (show ¬ kd ≠ 4#8 from fun h => h h1)]
    by_cases h2 : 0 ≤ dp
    · rw [if_pos h2, if_neg (show ¬ dp < 0 by omega)]
      by_cases h3 : dp ≤ 6
      · rw [if_pos h3, if_neg (show ¬ 6 < dp by omega)]
        by_cases h4 : 1 ≤ dg
        · rw [if_pos h4, if_neg (show ¬ dg < 1 by omega)]
          by_cases h5 : dg ≤ 8
          · rw [if_pos h5, if_neg (show ¬ 8 < dg by omega)]
            obtain ⟨b, e1, e2, i⟩ := group_eq hp hq hg
            rw [e1, e2, bind_some, bind_some]
            cases b with
            | false => exact .inl ⟨rfl, rfl⟩
            | true =>
              obtain ⟨d, rfl⟩ : ∃ d : Nat, dp = (d : Int) := ⟨dp.toNat, by omega⟩
              obtain ⟨t, rfl⟩ : ∃ t : Nat, dg = (t : Int) := ⟨dg.toNat, by omega⟩
              have h64 := pow_le64 (d := d) (by omega)
              have hpp := Nat.two_pow_pos d
              simp only [Bool.not_true, cond_false, if_true]
              rw [shG_nat, bind_some, recv_eq (by omega), bind_some, shl1 (by omega), w64_id (by omega) (by omega), show ((2 ^ d : Nat) : Int) + (t : Int) = ((2 ^ d + t : Nat) : Int) from by omega, wd_nat]
              by_cases hlt : 2 ^ d + t < q
              · rw [decide_eq_true ((bn_lt (by omega) hq).2 hlt)]
                exact .inr ⟨rfl, rfl, d, t, p, q, g, ⟨h1, rfl, rfl, by omega, by omega, by omega, rfl, i.1 rfl, hlt⟩⟩
              · rw [decide_eq_false (fun h => hlt ((bn_lt (by omega) hq).1 h))]; exact .inl ⟨rfl, rfl⟩
          · rw [if_neg h5, if_pos (show 8 < dg by omega)]; exact .inl ⟨rfl, rfl⟩
        · rw [if_neg h4, if_pos (show dg < 1 by omega)]; exact .inl ⟨rfl, rfl⟩
      · rw [if_neg h3, if_pos (show 6 < dp by omega)]; exact .inl ⟨rfl, rfl⟩
    · rw [if_neg h2, if_pos (show dp < 0 by omega)]; exact .inl ⟨rfl, rfl⟩
  · rw [if_neg h1, if_pos (show kd ≠ 4#8 from h1)]; exact .inl ⟨rfl, rfl⟩
theorem Vld.qb {s : TScheme} {d t p q g : Nat} (h : Vld s d t p q g) : 2 ≤ q ∧ q ≤ 1048575 := ⟨h.ok.2.1.2.1, h.ok.2.1.1⟩
theorem Vld.pb {s : TScheme} {d t p q g : Nat} (h : Vld s d t p q g) : 2 ≤ p ∧ p ≤ 1048575 := ⟨h.ok.1.2.1, h.ok.1.1⟩
/-! coefficients -/
def cfN (root : W2) (q i : Nat) : Nat := (drv (drv root (un8 40#8) 0#64) (un8 3#8) (bn i)).1.toNat % q
def cfs (root : W2) (q t : Nat) : List Nat := (List.range (t + 1)).map (cfN root q)
theorem cfs_lt {root : W2} {q t : Nat} (hq : 0 < q) : ∀ c ∈ cfs root q t, c < q := by
  intro c hc
  obtain ⟨i, _, rfl⟩ := List.mem_map.1 hc
  exact Nat.mod_lt _ hq
theorem mod_bn (x : BitVec 64) {q : Nat} (hq : 0 < q) (hq2 : q < 18446744073709551616) : x % bn q = bn (x.toNat % q) := by
  apply BitVec.eq_of_toNat_eq
  have := Nat.mod_lt x.toNat hq
  rw [BitVec.toNat_umod, bn_nat hq2, bn_nat (by omega)]
theorem bn_ne0 {q : Nat} (hq : 0 < q) (hq2 : q < 18446744073709551616) : bn q ≠ 0#64 := fun h => by have := (bn_inj (b := 0) hq2 (by omega)).1 h; omega
theorem secret_eq {s : TScheme} {d t p q g : Nat} (h : Vld s d t p q g) (root : W2) : poly_secret root s = some ((cfs root q t).map bn) := by
  obtain ⟨q1, q2⟩ := h.qb
  have ht := h.t8
  unfold poly_secret
  rw [h.deg, w64_id (by omega) (by omega), show (t : Int) + 1 = ((t + 1 : Nat) : Int) from by omega, mkL, if_pos (by omega), bind_some, Int.toNat_natCast]
  refine fix_go _ (fun j x => x = ((List.range (t + 1)).map (fun i => if i < j then bn (cfN root q i) else 0#64), (j : Int))) (t + 1) _ (by omega) ?_ ?_ ?_
  · congr 1
    apply List.ext_getElem
    · simp
    · intro i _ _; simp
  · rintro j _ hj rfl
    refine ⟨_, rfl, fun rec => ?_⟩
    simp only [poly_secret_L1]
    have hjl : j < ((List.range (t + 1)).map (fun i => if i < j then bn (cfN root q i) else 0#64)).length := by simpa using hj
    rw [if_pos (by simp; omega), h.grp, wd_nat]
    simp only
    rw [number_eq _ _ _ (bn_ne0 (by omega) (by omega)), bind_some, getI_some hjl, bind_some, Int.toNat_natCast, w64_nat (by omega), mod_bn _ (by omega) (by omega)]
    congr 2
    apply List.ext_getElem
    · simp
    · intro i h1 h2
      rw [List.getElem_set]
      simp only [List.getElem_map, List.getElem_range]
      by_cases e : j = i
      · subst e; rw [if_pos rfl, if_pos (by omega)]; rfl
      · rw [if_neg e]
        by_cases e2 : i < j
        · rw [if_pos e2, if_pos (by omega)]
        · rw [if_neg e2, if_neg (by omega)]
  · rintro _ rfl rec
    simp only [poly_secret_L1]
    rw [if_neg (by simp)]
    congr 1
    unfold cfs
    rw [List.map_map]
    apply List.map_congr_left
    intro i hi
    rw [if_pos (List.mem_range.1 hi)]; rfl
theorem rsecret_eq {s : TScheme} {d t p q g : Nat} (h : Vld s d t p q g) (root : W2) : ref04_CoefficientsOf root s = some ((cfs root q t).map bn) := by
  obtain ⟨q1, q2⟩ := h.qb
  have ht := h.t8
  unfold ref04_CoefficientsOf
  refine fix_go _ (fun j x => x = ((List.range j).map (fun i => bn (cfN root q i)), (j : Int))) (t + 1) _ (by omega) (by simp) ?_ ?_
  · rintro j _ hj rfl
    refine ⟨_, rfl, fun rec => ?_⟩
    simp only [ref04_CoefficientsOf_L1]
    rw [h.deg, if_pos (by omega), h.grp, wd_nat]
    simp only
    rw [rnumber_eq _ _ _ (bn_ne0 (by omega) (by omega)), bind_some, appG_some (by simp; omega), bind_some, w64_nat (by omega), mod_bn _ (by omega) (by omega), List.range_succ, List.map_append]; rfl
  · rintro _ rfl rec
    simp only [ref04_CoefficientsOf_L1]
    rw [h.deg, if_neg (by omega)]
    unfold cfs
    rw [List.map_map]; rfl
/-! values -/
def evN (l : List Nat) (x : Nat) : Nat := l.foldr (fun c a => c + x * a) 0
theorem evN_snoc (x : Nat) : ∀ (l : List Nat) (c : Nat), evN (l ++ [c]) x = evN l x + c * x ^ l.length
  | [], c => by simp [evN]
  | a :: l, c => by
    have := evN_snoc x l c
    simp only [evN] at this ⊢
    rw [List.cons_append, List.foldr_cons, List.foldr_cons, this, List.length_cons, Nat.pow_succ, Nat.mul_add, Nat.add_assoc]
    congr 2
    rw [Nat.mul_left_comm, Nat.mul_comm x]
theorem mul2_eq {q a b : Nat} (hq : 2 ≤ q) (hq2 : q ≤ 1048575) (ha : a < q) (hb : b < q) : poly_field_mul (bn q) [bn a, bn b] = some (bn (a * b % q)) := by
  unfold poly_field_mul
  have hab : a * b < 18446744073709551616 := Nat.lt_of_le_of_lt (Nat.mul_le_mul (Nat.le_of_lt ha) (Nat.le_of_lt hb)) (by have := Nat.mul_le_mul hq2 hq2; omega)
  rw [show FUEL = 18446744073709551613 + 1 + 1 + 1 from rfl, fix_step]
  simp only [poly_field_mul_L1]
  rw [if_pos (by simp), show getI [bn a, bn b] 0 = some (bn a) from rfl, bind_some, show (1#64) = bn 1 from rfl, bn_mul, Nat.one_mul, remU_bn (by omega) (by omega) (by omega), bind_some, Nat.mod_eq_of_lt ha, show w64 (0 + 1) = 1 from by decide, fix_step]
  simp only [poly_field_mul_L1]
  rw [if_pos (by simp), show getI [bn a, bn b] 1 = some (bn b) from rfl, bind_some, bn_mul, remU_bn hab (by omega) (by omega), bind_some, show w64 (1 + 1) = 2 from by decide, fix_step]
  simp only [poly_field_mul_L1]
  rw [if_neg (by simp)]
theorem back_loop (l : List (BitVec 64)) (hl : l.length < 4611686018427387904) : ∀ (k f : Nat), k ≤ l.length → k < f → fixN (slices_Backward_1_20b1_L1 l) f ((k : Int) - 1) = some ((List.range k).reverse.map fun i : Nat => ((i : Int), l.getD i 0#64))
  | k, 0, _, h => by omega
  | 0, f + 1, _, _ => by
    rw [fix_step]; simp only [slices_Backward_1_20b1_L1]; rw [if_neg (by omega)]; rfl
  | k + 1, f + 1, hk, hf => by
    rw [fix_step]; simp only [slices_Backward_1_20b1_L1]
    rw [show ((k + 1 : Nat) : Int) - 1 = (k : Int) from by omega, if_pos (by omega), getI_some (by omega), bind_some, w64_id (by omega) (by omega), back_loop l hl k f (by omega) (by omega), yl_some', List.range_succ, List.reverse_append, List.map_append]
    have hkk : k < l.length := by omega
    simp [hkk]
theorem at_loop {q x : Nat} (hq : 2 ≤ q) (hq2 : q ≤ 1048575) (hx : x < q) (l : List Nat) (hl : ∀ c ∈ l, c < q) : ∀ (k : Nat), k ≤ l.length → itL (poly_polynomial_at_R1 (bn q) (bn x)) poly_polynomial_at_D1 ((List.range k).reverse.map fun i : Nat => ((i : Int), (l.map bn).getD i 0#64)) (bn (evN (l.drop k) x % q)) = some (bn (evN l x % q))
  | 0, _ => by rw [List.drop_zero]; rfl
  | k + 1, hk => by
    have hkl : k < l.length := by omega
    rw [List.range_succ, List.reverse_append, List.map_append, show ([k].reverse.map fun i : Nat => ((i : Int), (l.map bn).getD i 0#64)) = [((k : Int), bn l[k])] from by simp [List.getD, hkl], List.singleton_append, itL_cons]
    simp only [poly_polynomial_at_R1]
    have hc := hl _ (List.getElem_mem hkl)
    have hm := Nat.mod_lt (evN (l.drop (k + 1)) x) (show 0 < q by omega)
    have hm2 := Nat.mod_lt (evN (l.drop (k + 1)) x % q * x) (show 0 < q by omega)
    rw [mul2_eq hq hq2 hm hx, bind_some, bn_add, remU_bn (by omega) (by omega) (by omega), bind_some]
    have he : (evN (l.drop (k + 1)) x % q * x % q + l[k]) % q = evN (l.drop k) x % q := by
      rw [List.drop_eq_getElem_cons hkl, show evN (l[k] :: l.drop (k + 1)) x = l[k] + x * evN (l.drop (k + 1)) x from rfl, Nat.mod_mul_mod, Nat.mod_add_mod, Nat.add_comm, Nat.mul_comm]
    rw [he]
    exact at_loop hq hq2 hx l hl k (by omega)
theorem at_eq {q x : Nat} (hq : 2 ≤ q) (hq2 : q ≤ 1048575) (hx : x < q) (l : List Nat) (hl : ∀ c ∈ l, c < q) (hlen : l.length < 4611686018427387904) : poly_polynomial_at (l.map bn) (bn q) (bn x) = some (bn (evN l x % q)) := by
  unfold poly_polynomial_at slices_Backward_dc0b slices_Backward_1_20b1
  rw [bind_some, w64_id (by rw [List.length_map]; omega) (by rw [List.length_map]; omega), back_loop _ (by rw [List.length_map]; exact hlen) _ FUEL (Nat.le_refl _) (fuel_lt (by rw [List.length_map]; omega)), bind_some, List.length_map]
  have := at_loop hq hq2 hx l hl l.length (Nat.le_refl _)
  rw [List.drop_length, show evN [] x % q = 0 from by simp [evN]] at this
  exact this
theorem value_of_eq {q x : Nat} (hq : 2 ≤ q) (hq2 : q ≤ 1048575) (hx : x < q) (l : List Nat) (hl : ∀ c ∈ l, c < q) (hlen : l.length < 4611686018427387904) : ref04_ValueOf (bn q) (l.map bn) (bn x) = some (bn (evN l x % q)) := by
  unfold ref04_ValueOf
  refine fix_go _ (fun j s => s = (bn (evN (l.take j) x % q), bn (x ^ j % q), (j : Int))) l.length _ (by omega) ?_ ?_ ?_
  · rw [List.take_zero, Nat.pow_zero, Nat.mod_eq_of_lt (show 1 < q by omega), show evN [] x % q = 0 from by simp [evN]]; rfl
  · rintro j _ hj rfl
    refine ⟨_, rfl, fun rec => ?_⟩
    have hc := hl _ (List.getElem_mem hj)
    have hm := Nat.mod_lt (evN (l.take j) x) (show 0 < q by omega)
    have hm2 := Nat.mod_lt (x ^ j) (show 0 < q by omega)
    have hp1 : l[j] * (x ^ j % q) ≤ 1048575 * 1048575 := Nat.mul_le_mul (by omega) (by omega)
    have hp2 : x ^ j % q * x ≤ 1048575 * 1048575 := Nat.mul_le_mul (by omega) (by omega)
    simp only [ref04_ValueOf_L1]
    rw [if_pos (by simp; omega), getI_some (by simpa using hj), bind_some, List.getElem_map, bn_mul, bn_add, remU_bn (by omega) (by omega) (by omega), bind_some, bn_mul, remU_bn (by omega) (by omega) (by omega), bind_some, w64_nat (by omega), take_snoc l j hj, evN_snoc, List.length_take, Nat.min_eq_left (by omega)]
    congr 2
    · rw [Nat.mod_add_mod, Nat.add_mod, Nat.mul_mod_mod, ← Nat.add_mod]
    · rw [Nat.mod_mul_mod, Nat.pow_succ]
  · rintro _ rfl rec
    simp only [ref04_ValueOf_L1]
    rw [if_neg (by simp), List.take_length]
end Go.Sx.Po

end
section
/- Lists of receivers, plainly; things compared with themselves. -/
set_option linter.unusedVariables false
set_option linter.unusedSimpArgs false
set_option maxRecDepth 100000
namespace Go.Sx.Po
open Go

/-- whether numbers are receivers, in ascending order -/
def lstB (d : Nat) (l : List Int) : Bool := (List.range l.length).all fun j => decide (0 ≤ l.getD j 0 ∧ l.getD j 0 < ((2 ^ d : Nat) : Int)) && (decide (j = 0) || decide (l.getD (j - 1) 0 < l.getD j 0))
theorem getD_some {l : List Int} {j : Nat} (h : j < l.length) : l.getD j 0 = l[j] := by simp [List.getD, h]
/-- a loop that leaves at the first element without a property -/
theorem all_itL {R : Type} (p : Nat → Bool) (D E : Option R) : ∀ (l : List Nat) (F : Nat → (Unit → Option R) → Unit → Option R), (∀ a ∈ l, ∀ nx s, F a nx s = bif p a then nx s else E) → itL F (fun _ => D) l () = bif l.all p then D else E
  | [], F, h => rfl
  | a :: l, F, h => by
    rw [itL_cons, h a (by simp), List.all_cons]
    cases p a with
    | false => rfl
    | true => rw [cond_true, Bool.true_and]; exact all_itL p D E l F (fun b hb => h b (by simp [hb]))
theorem rlist_eq {d : Nat} (h6 : d ≤ 6) (l : List Int) (hl : l.length < 4611686018427387904) : ref03_IsList (d : Int) l = some (lstB d l) := by
  unfold ref03_IsList lstB
  have := fix_range l.length (ref03_IsList_L1 (d : Int) l) (fun j (_ : Unit) => (j : Int)) (fun j nx s => bif decide (0 ≤ l.getD j 0 ∧ l.getD j 0 < ((2 ^ d : Nat) : Int)) && (decide (j = 0) || decide (l.getD (j - 1) 0 < l.getD j 0)) then nx s else some false) (fun _ => some true)
    (fun rec j hj _ => by
      simp only [ref03_IsList_L1, ref03_IsList_J2]
      rw [if_pos (by omega), getI_some hj, bind_some, bind_some, recv_eq h6, bind_some, getD_some hj, w64_nat (by omega)]
      by_cases h : 0 ≤ l[j]
      · rw [if_neg (by omega)]
        by_cases h2 : l[j] < ((2 ^ d : Nat) : Int)
        · rw [if_neg (by omega), decide_eq_true ⟨h, h2⟩]
          simp only [Bool.true_and]
          by_cases h0 : j = 0
          · rw [if_neg (by omega), decide_eq_true h0]; rfl
          · have hj1 : j - 1 < l.length := by omega
            rw [if_pos (by omega), bind_some, w64_id (by omega) (by omega), show (j : Int) - 1 = ((j - 1 : Nat) : Int) from by omega, getI_some hj1, bind_some, decide_eq_false h0, Bool.false_or, getD_some hj1]
            by_cases h1 : l[j] ≤ l[j - 1]
            · rw [decide_eq_true h1, decide_eq_false (by omega)]; rfl
            · rw [decide_eq_false h1, decide_eq_true (by omega)]; rfl
        · rw [if_pos (by omega), decide_eq_false (by omega)]; rfl
      · rw [if_pos (by omega), decide_eq_false (by omega)]; rfl)
    (fun rec _ => by simp only [ref03_IsList_L1]; rw [if_neg (by omega)]) (f := FUEL) (fuel_lt (by omega)) ()
  rw [show ((0 : Nat) : Int) = 0 from rfl] at this
  rw [this, all_itL _ (some true) (some false) _ _ (fun a _ nx s => rfl)]
  cases (List.range l.length).all _ <;> rfl
theorem lst_all {d : Nat} {l : List Int} (h : lstB d l = true) {j : Nat} (hj : j < l.length) : (0 ≤ l[j] ∧ l[j] < ((2 ^ d : Nat) : Int)) ∧ (j = 0 ∨ l.getD (j - 1) 0 < l[j]) := by
  have := List.all_eq_true.1 h j (by simpa using hj)
  rw [Bool.and_eq_true, decide_eq_true_eq, getD_some hj, Bool.or_eq_true, decide_eq_true_eq, decide_eq_true_eq] at this
  exact this
/-- the receivers of a list, as numbers -/
theorem lst_nat {d : Nat} {l : List Int} (h : lstB d l = true) : ∃ ln : List Nat, l = ln.map (fun n : Nat => (n : Int)) ∧ (∀ n ∈ ln, n < 2 ^ d) ∧ ln.Pairwise (· < ·) := by
  refine ⟨l.map Int.toNat, ?_, ?_, ?_⟩
  · rw [List.map_map]
    apply List.ext_getElem
    · simp
    · intro i h1 h2
      have := (lst_all h h1).1.1
      simp only [List.getElem_map, Function.comp_apply]; omega
  · intro n hn
    obtain ⟨a, ha, rfl⟩ := List.mem_map.1 hn
    obtain ⟨j, hj, rfl⟩ := List.mem_iff_getElem.1 ha
    have := (lst_all h hj).1; omega
  · rw [List.pairwise_iff_getElem]
    have key : ∀ (m i : Nat) (h2 : i + m + 1 < l.length), l[i] < l[i + m + 1] := by
      intro m
      induction m with
      | zero =>
        intro i h2
        have := (lst_all h h2).2
        rw [getD_some (by omega)] at this
        simp only [Nat.add_zero, Nat.add_sub_cancel] at this ⊢
        omega
      | succ m ih =>
        intro i h2
        have h3 := ih i (by omega)
        have := (lst_all h h2).2
        rw [getD_some (by omega)] at this
        have e : l[i + (m + 1) + 1 - 1]'(by omega) = l[i + m + 1]'(by omega) := by congr 1
        rw [e] at this
        omega
    intro i j hi hj hij
    simp only [List.length_map] at hi hj
    simp only [List.getElem_map]
    have h1 := (lst_all h hi).1
    have h2 := key (j - i - 1) i (by omega)
    have e : l[i + (j - i - 1) + 1]'(by omega) = l[j] := by congr 1; omega
    rw [e] at h2
    omega
theorem lst_of {d : Nat} {ln : List Nat} (h1 : ∀ n ∈ ln, n < 2 ^ d) (h2 : ln.Pairwise (· < ·)) : lstB d (ln.map fun n : Nat => (n : Int)) = true := by
  unfold lstB
  rw [List.all_eq_true]
  intro j hj
  have hj' : j < ln.length := by simpa using hj
  have hl : j < (ln.map fun n : Nat => (n : Int)).length := by simpa using hj'
  rw [getD_some hl, List.getElem_map]
  have ha := h1 _ (List.getElem_mem hj')
  rw [Bool.and_eq_true, decide_eq_true_eq, Bool.or_eq_true, decide_eq_true_eq, decide_eq_true_eq]
  refine ⟨by omega, ?_⟩
  by_cases h0 : j = 0
  · exact .inl h0
  · right
    rw [getD_some (by simp; omega), List.getElem_map]
    have := (List.pairwise_iff_getElem.1 h2) (j - 1) j (by omega) hj' (by omega)
    omega
/-! the same -/
theorem same_go {R : Type} (n : Nat) (F : (Int → Option R) → Int → Option R) (r : Option R) (hn : n < 4611686018427387904) (h1 : ∀ rec (j : Nat), j < n → F rec (j : Int) = rec ((j + 1 : Nat) : Int)) (h2 : ∀ rec, F rec (n : Int) = r) : fixN F FUEL 0 = r :=
  fix_go F (fun j s => s = (j : Int)) n r (by omega) rfl (fun j s hj hs => ⟨_, rfl, fun rec => by rw [hs]; exact h1 rec j hj⟩) (fun s hs rec => by rw [hs]; exact h2 rec)
theorem sameI_self (l : List Int) (hl : l.length < 4611686018427387904) : ref03_SameInts l l = some true := by
  unfold ref03_SameInts
  rw [if_neg (by simp)]
  exact same_go l.length _ _ hl (fun rec j hj => by simp only [ref03_SameInts_L1]; rw [if_pos (by omega), getI_some hj, bind_some, bind_some, if_neg (by simp), w64_nat (by omega)]) (fun rec => by simp only [ref03_SameInts_L1]; rw [if_neg (by omega)])
theorem sameH_self (p : THeader) (hi : p.Items.length < 4611686018427387904) (hp : p.Points.length < 4611686018427387904) : ref03_SameHeader p p = some true := by
  unfold ref03_SameHeader ref03_SameHeader_J1
  rw [if_neg (by simp), if_neg (by simp), if_neg (by simp), if_neg (by simp), decide_eq_false (by simp), cond_false]
  have h3 : fixN (ref03_SameHeader_L3 p p) FUEL 0 = some true := same_go p.Points.length _ _ hp (fun rec j hj => by simp only [ref03_SameHeader_L3]; rw [if_pos (by omega), getI_some hj, bind_some, bind_some, if_neg (by simp), w64_nat (by omega)]) (fun rec => by simp only [ref03_SameHeader_L3]; rw [if_neg (by omega)])
  exact same_go p.Items.length _ _ hi (fun rec j hj => by simp only [ref03_SameHeader_L2]; rw [if_pos (by omega), getI_some hj, bind_some, bind_some, if_neg (by simp), w64_nat (by omega)]) (fun rec => by simp only [ref03_SameHeader_L2]; rw [if_neg (by omega)]; exact h3)
end Go.Sx.Po

end
section
/- Sealing with a polynomial, plainly: what a header is; both sides come to it. -/
set_option linter.unusedVariables false
set_option linter.unusedSimpArgs false
set_option maxRecDepth 100000
namespace Go.Sx.Po
open Go

theorem pmod_eq {b n p : Nat} (hb : b < 18446744073709551616) (hn : n < 18446744073709551616) (hp : 1 ≤ p) (hp2 : p < 4294967296) : number_PowMod (bn b) (bn n) (bn p) = some (bn (b ^ n % p), 0) := by
  unfold number_PowMod number_modulus
  rw [show (1#64) = bn 1 from rfl, if_pos ((bn_le (by omega) (by omega)).2 hp), bind_some, show (4294967296#64) = bn 4294967296 from rfl, decide_eq_true ((bn_lt (by omega) (by omega)).2 hp2)]
  simp only [Bool.not_true, cond_false]
  rw [power_eq hb hn (by omega) hp2, bind_some]
section
variable {s : TScheme} {d t p q g : Nat}
theorem ppow_eq (h : Vld s d t p q g) {b n : Nat} (hb : b < 18446744073709551616) (hn : n < 18446744073709551616) : poly_power s (bn b) (bn n) = some (bn (b ^ n % p)) := by
  obtain ⟨p1, p2⟩ := h.pb
  unfold poly_power
  rw [h.grp]
  simp only
  rw [pmod_eq hb hn (by omega) (by omega), bind_some]
end
/-- the value of the secret polynomial -/
def fN (root : W2) (q t x : Nat) : Nat := evN (cfs root q t) x % q
/-- the exponent of a header's base -/
def rN (root : W2) (q : Nat) (nonce : BitVec 64) : Nat := 1 + (drv (drv root (un8 41#8) nonce) (un8 3#8) 0#64).1.toNat % (q - 1)
def baseN (root : W2) (p q g : Nat) (nonce : BitVec 64) : Nat := g ^ rN root q nonce % p
def ptN (root : W2) (p q t b x : Nat) : TPoint := ⟨bn x, bn (b ^ fN root q t x % p)⟩
/-- the numbers at which a header has points -/
def xsN (d t : Nat) (ln : List Nat) : List Nat := ln.map (· + 1) ++ (List.range (t - ln.length)).map fun i => 2 ^ d + 1 + i
def hdN (root : W2) (d t p q g : Nat) (ln : List Nat) (session : W2) (nonce : BitVec 64) : THeader :=
  ⟨[], bn (baseN root p q g nonce), (xsN d t ln).map (ptN root p q t (baseN root p q g nonce)), encr (drv k0 (un8 42#8) (bn (baseN root p q g nonce ^ fN root q t 0 % p))) session, drv session (un8 53#8) 0#64⟩
theorem xsN_len {d t : Nat} {ln : List Nat} (h : ln.length ≤ t) : (xsN d t ln).length = t := by simp [xsN]; omega
section
variable {s : TScheme} {d t p q g : Nat}
theorem fN_lt (h : Vld s d t p q g) (root : W2) (x : Nat) : fN root q t x < q := Nat.mod_lt _ (by have := h.qb; omega)
theorem baseN_lt (h : Vld s d t p q g) (root : W2) (nonce : BitVec 64) : baseN root p q g nonce < p := Nat.mod_lt _ (by have := h.pb; omega)
theorem cfs_len (root : W2) : (cfs root q t).length = t + 1 := by simp [cfs]
theorem xs_lt (h : Vld s d t p q g) {ln : List Nat} (hl : ∀ n ∈ ln, n < 2 ^ d) {x : Nat} (hx : x ∈ xsN d t ln) : 1 ≤ x ∧ x < q := by
  have := h.big
  have hpp := Nat.two_pow_pos d
  rcases List.mem_append.1 hx with hx | hx
  · obtain ⟨n, hn, rfl⟩ := List.mem_map.1 hx
    have := hl n hn; omega
  · obtain ⟨n, hn, rfl⟩ := List.mem_map.1 hx
    have := List.mem_range.1 hn; omega
theorem rnum_lt (h : Vld s d t p q g) (root : W2) (nonce : BitVec 64) : 1 ≤ rN root q nonce ∧ rN root q nonce < q := by
  have hb := h.big
  have := Nat.mod_lt (drv (drv root (un8 41#8) nonce) (un8 3#8) 0#64).1.toNat (show 0 < q - 1 by have := Nat.two_pow_pos d; omega)
  unfold rN; omega
theorem nonce_eq (h : Vld s d t p q g) (root : W2) (nonce : BitVec 64) : cipher_Number (drv root (un8 41#8) nonce) 0#64 (bn q - 1#64) = some (bn (rN root q nonce - 1)) ∧ ref02_Number (drv root (un8 41#8) nonce) 0#64 (bn q - 1#64) = some (bn (rN root q nonce - 1)) := by
  obtain ⟨q1, q2⟩ := h.qb
  have hb := h.big
  have := Nat.two_pow_pos d
  have ht := h.t1
  have e : rN root q nonce - 1 = (drv (drv root (un8 41#8) nonce) (un8 3#8) 0#64).1.toNat % (q - 1) := by unfold rN; omega
  rw [show (1#64) = bn 1 from rfl, bn_sub (by omega) (by omega), number_eq _ _ _ (bn_ne0 (by omega) (by omega)), rnumber_eq _ _ _ (bn_ne0 (by omega) (by omega)), mod_bn _ (by omega) (by omega), e]
  exact ⟨rfl, rfl⟩
theorem lift_eq (h : Vld s d t p q g) (root : W2) {b x : Nat} (hb : b < p) (hx : x < q) (it : List TItem) (pts : List TPoint) (k1 k2 : W2) :
    poly_Seal_1 (bn x) s ⟨it, bn b, pts, k1, k2⟩ ((cfs root q t).map bn) (bn q) = some (bn (b ^ fN root q t x % p)) := by
  obtain ⟨q1, q2⟩ := h.qb
  obtain ⟨p1, p2⟩ := h.pb
  have hf := fN_lt h root x
  have ht := h.t8
  unfold poly_Seal_1
  rw [at_eq q1 q2 hx _ (cfs_lt (by omega)) (by rw [cfs_len]; omega), bind_some]
  simp only
  rw [show evN (cfs root q t) x % q = fN root q t x from rfl, ppow_eq h (by omega) (by omega), bind_some]
theorem plist_loop (h : Vld s d t p q g) (root : W2) (l : List Int) (session : W2) (nonce : BitVec 64) (hl : l.length < 4611686018427387904) :
    fixN (poly_Seal_L1 root s l session nonce) FUEL 0 = bif lstB d l then (if s.Degree < (l.length : Int) then some (⟨[], 0#64, [], k0, k0⟩, 4) else Option.bind (poly_secret root s) fun x => poly_Seal_J3 root s l session nonce x) else some (⟨[], 0#64, [], k0, k0⟩, 2) := by
  have h64 := pow_le64 h.d6
  have hpp := Nat.two_pow_pos d
  have := fix_range l.length (poly_Seal_L1 root s l session nonce) (fun j (_ : Unit) => (j : Int)) (fun j nx u => bif decide (0 ≤ l.getD j 0 ∧ l.getD j 0 < ((2 ^ d : Nat) : Int)) && (decide (j = 0) || decide (l.getD (j - 1) 0 < l.getD j 0)) then nx u else some (⟨[], 0#64, [], k0, k0⟩, 2)) (fun _ => if s.Degree < (l.length : Int) then some (⟨[], 0#64, [], k0, k0⟩, 4) else Option.bind (poly_secret root s) fun x => poly_Seal_J3 root s l session nonce x)
    (fun rec j hj _ => by
      simp only [poly_Seal_L1, poly_Seal_J2]
      rw [if_pos (by omega), getI_some hj, bind_some, h.depth, shG_nat, bind_some, shl1 h.d6, getD_some hj, w64_nat (by omega)]
      by_cases h1 : l[j] < 0
      · rw [if_pos h1, decide_eq_false (by omega)]; rfl
      · rw [if_neg h1]
        by_cases h2 : ((2 ^ d : Nat) : Int) ≤ l[j]
        · rw [if_pos h2, decide_eq_false (by omega)]; rfl
        · rw [if_neg h2, decide_eq_true (show 0 ≤ l[j] ∧ l[j] < ((2 ^ d : Nat) : Int) by omega), Bool.true_and]
          by_cases h0 : j = 0
          · rw [if_neg (by omega), decide_eq_true h0]; rfl
          · have hj1 : j - 1 < l.length := by omega
            rw [if_pos (by omega), w64_id (by omega) (by omega), show (j : Int) - 1 = ((j - 1 : Nat) : Int) from by omega, getI_some hj1, bind_some, decide_eq_false h0, Bool.false_or, getD_some hj1]
            by_cases h3 : l[j] ≤ l[j - 1]
            · rw [decide_eq_true h3, decide_eq_false (by omega)]; rfl
            · rw [decide_eq_false h3, decide_eq_true (by omega)]; rfl)
    (fun rec _ => by simp only [poly_Seal_L1]; rw [if_neg (by omega)]) (f := FUEL) (fuel_lt (by omega)) ()
  rw [show ((0 : Nat) : Int) = 0 from rfl] at this
  rw [this, all_itL _ _ _ _ _ (fun a _ nx u => rfl)]; rfl
theorem more_loop (h : Vld s d t p q g) (root : W2) (session : W2) (nonce : BitVec 64) {b : Nat} (hb : b < p) (pts : List TPoint) (hk : pts.length ≤ t) :
    fixN (poly_Seal_L6 s session ((cfs root q t).map bn) (bn b)) FUEL (w64 (((2 ^ d : Nat) : Int) + 1), pts) = some (⟨[], bn b, pts ++ (List.range (t - pts.length)).map (fun i => ptN root p q t b (2 ^ d + 1 + i)), encr (drv k0 (un8 42#8) (bn (b ^ fN root q t 0 % p))) session, drv session (un8 53#8) 0#64⟩, 0) := by
  have h64 := pow_le64 h.d6
  have hpp := Nat.two_pow_pos d
  have ht := h.t8
  have hbig := h.big
  obtain ⟨q1, q2⟩ := h.qb
  refine fix_go _ (fun j st => st = (((2 ^ d + 1 + j : Nat) : Int), pts ++ (List.range j).map (fun i => ptN root p q t b (2 ^ d + 1 + i)))) (t - pts.length) _ (by omega) ?_ ?_ ?_
  · rw [w64_nat (by omega)]; simp
  · rintro j _ hj rfl
    refine ⟨_, rfl, fun rec => ?_⟩
    simp only [poly_Seal_L6]
    rw [if_pos (by rw [h.deg]; simp; omega), h.grp, wd_nat]
    simp only
    rw [lift_eq h root hb (show 2 ^ d + 1 + j < q by omega), bind_some, appG_some (by simp; omega), bind_some, w64_nat (by omega), List.range_succ, List.map_append, ← List.append_assoc]; rfl
  · rintro _ rfl rec
    simp only [poly_Seal_L6]
    rw [if_neg (by rw [h.deg]; simp; omega), h.grp, show (0#64) = bn 0 from rfl]
    simp only
    rw [lift_eq h root hb (show 0 < q by omega), bind_some]; rfl
theorem first_loop (h : Vld s d t p q g) (root : W2) {ln : List Nat} (hl : ∀ n ∈ ln, n < 2 ^ d) (hlen : ln.length ≤ t) (session : W2) (nonce : BitVec 64) {b : Nat} (hb : b < p) :
    fixN (poly_Seal_L5 s (ln.map fun n : Nat => (n : Int)) session ((cfs root q t).map bn) (bn b)) FUEL (0, []) = some (⟨[], bn b, (xsN d t ln).map (ptN root p q t b), encr (drv k0 (un8 42#8) (bn (b ^ fN root q t 0 % p))) session, drv session (un8 53#8) 0#64⟩, 0) := by
  have h64 := pow_le64 h.d6
  have hpp := Nat.two_pow_pos d
  have ht := h.t8
  have hbig := h.big
  obtain ⟨q1, q2⟩ := h.qb
  refine fix_go _ (fun j st => st = ((j : Int), (ln.take j).map fun n => ptN root p q t b (n + 1))) ln.length _ (by omega) (by simp) ?_ ?_
  · rintro j _ hj rfl
    refine ⟨_, rfl, fun rec => ?_⟩
    have hn := hl _ (List.getElem_mem hj)
    simp only [poly_Seal_L5]
    rw [if_pos (by simp; omega), getI_some (by simpa using hj), bind_some, List.getElem_map, w64_nat (by omega), wd_nat, h.grp]
    simp only
    rw [lift_eq h root hb (show ln[j] + 1 < q by omega), bind_some, appG_some (by simp; omega), bind_some, w64_nat (by omega), take_snoc ln j hj, List.map_append]; rfl
  · rintro _ rfl rec
    simp only [poly_Seal_L5]
    rw [if_neg (by simp), h.depth, shG_nat, bind_some, shl1 h.d6, List.take_length, more_loop h root session nonce hb _ (by simpa using hlen)]
    simp only [xsN, List.map_append, List.map_map, List.length_map]; rfl
theorem pseal_eq (h : Vld s d t p q g) (e1 : poly_valid s = some true) (root : W2) {ln : List Nat} (hl : ∀ n ∈ ln, n < 2 ^ d) (ho : ln.Pairwise (· < ·)) (hlen : ln.length ≤ t) (session : W2) (nonce : BitVec 64) :
    poly_Seal root s (ln.map fun n : Nat => (n : Int)) session nonce = some (hdN root d t p q g ln session nonce, 0) := by
  have ht := h.t8
  obtain ⟨r1, r2⟩ := rnum_lt h root nonce
  obtain ⟨p1, p2⟩ := h.pb
  obtain ⟨q1, q2⟩ := h.qb
  have hgp := h.ok.2.2.2.2.1
  unfold poly_Seal
  rw [e1, bind_some]
  simp only [Bool.not_true, cond_false]
  rw [plist_loop h root _ session nonce (by simp; omega), lst_of hl ho, cond_true, if_neg (by rw [h.deg]; simp; omega), secret_eq h, bind_some]
  unfold poly_Seal_J3 poly_Seal_J4
  rw [h.grp]
  simp only
  rw [(nonce_eq h root nonce).1, bind_some, show (1#64) = bn 1 from rfl, bn_add, show 1 + (rN root q nonce - 1) = rN root q nonce from by omega, ppow_eq h (by omega) (by omega), bind_some]
  have := first_loop h root hl hlen session nonce (baseN_lt h root nonce)
  rw [show bn (baseN root p q g nonce) = bn (g ^ rN root q nonce % p) from rfl] at this
  rw [this]; rfl
theorem rseal_eq (h : Vld s d t p q g) (e2 : ref04_Valid s = some true) (root : W2) {ln : List Nat} (hl : ∀ n ∈ ln, n < 2 ^ d) (ho : ln.Pairwise (· < ·)) (hlen : ln.length ≤ t) (session : W2) (nonce : BitVec 64) :
    ref04_Seal root s (ln.map fun n : Nat => (n : Int)) session nonce = some (hdN root d t p q g ln session nonce, 0) := by
  have ht := h.t8
  have h64 := pow_le64 h.d6
  have hpp := Nat.two_pow_pos d
  have hbig := h.big
  obtain ⟨r1, r2⟩ := rnum_lt h root nonce
  obtain ⟨p1, p2⟩ := h.pb
  obtain ⟨q1, q2⟩ := h.qb
  have hgp := h.ok.2.2.2.2.1
  have hxl := xsN_len (d := d) hlen
  have hb := baseN_lt h root nonce
  unfold ref04_Seal
  rw [e2, bind_some]
  simp only [Bool.not_true, cond_false]
  rw [h.depth, rlist_eq h.d6 _ (by simp; omega), lst_of hl ho, bind_some]
  simp only [Bool.not_true, cond_false]
  rw [if_neg (by rw [h.deg]; simp; omega)]
  unfold ref04_SealOf ref04_SealOf_J1
  rw [rsecret_eq h, bind_some, h.grp]
  simp only
  rw [(nonce_eq h root nonce).2, bind_some, show (1#64) = bn 1 from rfl, bn_add, show 1 + (rN root q nonce - 1) = rN root q nonce from by omega, rpower_eq (by omega) (by omega) (by omega) (by omega), bind_some]
  have hrun : fixN (ref04_SealOf_L2 s (ln.map fun n : Nat => (n : Int)) session ((cfs root q t).map bn) (bn (g ^ rN root q nonce % p))) FUEL (0, []) = some (hdN root d t p q g ln session nonce) := by
    rw [show g ^ rN root q nonce % p = baseN root p q g nonce from rfl]
    have hval : ∀ {x : Nat}, x < q → ref04_ValueOf (bn q) ((cfs root q t).map bn) (bn x) = some (bn (fN root q t x)) := fun hx => value_of_eq q1 q2 hx _ (cfs_lt (by omega)) (by rw [cfs_len]; omega)
    have hpow : ∀ x, ref01_Power (bn (baseN root p q g nonce)) (bn (fN root q t x)) (bn p) = some (bn (baseN root p q g nonce ^ fN root q t x % p)) := fun x => rpower_eq (by omega) (by have := fN_lt h root x; omega) (by omega) (by omega)
    refine fix_go _ (fun j st => st = ((j : Int), ((xsN d t ln).take j).map (ptN root p q t (baseN root p q g nonce)))) t _ (by omega) (by simp) ?_ ?_
    · rintro j _ hj rfl
      refine ⟨_, rfl, fun rec => ?_⟩
      have hjx : j < (xsN d t ln).length := by omega
      simp only [ref04_SealOf_L2, ref04_SealOf_J3]
      rw [h.deg, if_pos (by omega), h.depth, recv_eq h.d6, bind_some, h.grp]
      simp only
      have fin : ∀ x, (xsN d t ln)[j] = x → x < q → (Option.bind (ref04_ValueOf (bn q) ((cfs root q t).map bn) (bn x)) fun x15 => Option.bind (ref01_Power (bn (baseN root p q g nonce)) x15 (bn p)) fun x16 => Option.bind (appG 16 (((xsN d t ln).take j).map (ptN root p q t (baseN root p q g nonce))) [⟨bn x, x16⟩]) fun l17 => rec (w64 ((j : Int) + 1), l17)) = rec (((j + 1 : Nat) : Int), ((xsN d t ln).take (j + 1)).map (ptN root p q t (baseN root p q g nonce))) := by
        intro x hx hxq
        rw [hval hxq, bind_some, hpow, bind_some, appG_some (by simp; omega), bind_some, w64_nat (by omega), take_snoc _ j hjx, List.map_append, hx]; rfl
      by_cases hjl : j < ln.length
      · have hn := hl _ (List.getElem_mem hjl)
        rw [if_pos (by simp; omega), getI_some (by simpa using hjl), bind_some, List.getElem_map, wd_nat, show (1#64) = bn 1 from rfl, bn_add]
        exact fin _ (by simp [xsN, List.getElem_append, hjl]) (by omega)
      · rw [if_neg (by simp; omega), w64_nat (by omega), w64_id (n := ((2 ^ d + 1 : Nat) : Int) + (j : Int)) (by omega) (by omega), List.length_map, w64_id (by omega) (by omega), show ((2 ^ d + 1 : Nat) : Int) + (j : Int) - (ln.length : Int) = ((2 ^ d + 1 + (j - ln.length) : Nat) : Int) from by omega, wd_nat]
        exact fin _ (by simp [xsN, List.getElem_append, hjl]) (by omega)
    · rintro _ rfl rec
      simp only [ref04_SealOf_L2]
      rw [h.deg, if_neg (by omega), h.grp, show (0#64) = bn 0 from rfl]
      simp only
      rw [hval (by omega), bind_some, hpow, bind_some, List.take_of_length_le (by omega)]; rfl
  rw [hrun, bind_some]
end
theorem seal_same (root : W2) (s : TScheme) (l : List Int) (hl : l.length < 4611686018427387904) (session : W2) (nonce : BitVec 64) : ∃ r, poly_Seal root s l session nonce = some r ∧ ref04_Seal root s l session nonce = some r ∧ r.1.Items = [] ∧ r.1.Points.length ≤ 8 := by
  rcases valid_eq s with ⟨e1, e2⟩ | ⟨e1, e2, d, t, p, q, g, h⟩
  · refine ⟨(⟨[], 0#64, [], k0, k0⟩, 30), ?_, ?_, rfl, by simp⟩
    · unfold poly_Seal; rw [e1, bind_some]; rfl
    · unfold ref04_Seal; rw [e2, bind_some]; rfl
  · cases hb : lstB d l with
    | false =>
      refine ⟨(⟨[], 0#64, [], k0, k0⟩, 2), ?_, ?_, rfl, by simp⟩
      · unfold poly_Seal; rw [e1, bind_some]; simp only [Bool.not_true, cond_false]; rw [plist_loop h root l session nonce hl, hb]; rfl
      · unfold ref04_Seal; rw [e2, bind_some, h.depth, rlist_eq h.d6 l hl, hb]; rfl
    | true =>
      by_cases hlen : s.Degree < (l.length : Int)
      · refine ⟨(⟨[], 0#64, [], k0, k0⟩, 4), ?_, ?_, rfl, by simp⟩
        · unfold poly_Seal; rw [e1, bind_some]; simp only [Bool.not_true, cond_false]; rw [plist_loop h root l session nonce hl, hb, cond_true, if_pos hlen]
        · unfold ref04_Seal; rw [e2, bind_some, h.depth, rlist_eq h.d6 l hl, hb]; simp only [Bool.not_true, cond_false]; rw [bind_some]; simp only [Bool.not_true, cond_false]; rw [if_pos hlen]
      · obtain ⟨ln, rfl, h1, h2⟩ := lst_nat hb
        rw [h.deg] at hlen
        have h3 : ln.length ≤ t := by simp at hlen; omega
        have ht := h.t8
        exact ⟨_, pseal_eq h e1 root h1 h2 h3 session nonce, rseal_eq h e2 root h1 h2 h3 session nonce, rfl, by simp [hdN, xsN_len h3]; omega⟩
end Go.Sx.Po

end
section
/- Numbers modulo a prime as a field: Fin q; what the program's and the document's calls come to. -/
set_option linter.unusedVariables false
set_option linter.unusedSimpArgs false
set_option linter.unusedSectionVars false
set_option maxRecDepth 100000
namespace Go.Sx.Po
open Go

/-- a number modulo q -/
def fi (q : Nat) [NeZero q] (n : Nat) : Fin q := Fin.ofNat q n
/-- its word -/
abbrev fe {q : Nat} (a : Fin q) : BitVec 64 := bn a.val
section
variable {q : Nat} [NeZero q]
theorem fi_val (n : Nat) : (fi q n).val = n % q := rfl
theorem fi_self (a : Fin q) : fi q a.val = a := by apply Fin.ext; rw [fi_val]; exact Nat.mod_eq_of_lt a.isLt
theorem fi_add (a b : Nat) : fi q (a + b) = fi q a + fi q b := by apply Fin.ext; simp [fi, Fin.ofNat, Fin.add_def]
theorem fi_mul (a b : Nat) : fi q (a * b) = fi q a * fi q b := by apply Fin.ext; simp [fi, Fin.ofNat, Fin.mul_def]
theorem fi_mod (n : Nat) : fi q (n % q) = fi q n := by apply Fin.ext; rw [fi_val, fi_val, Nat.mod_mod]
theorem fi_0 : fi q 0 = 0 := rfl
theorem fi_1 : fi q 1 = 1 := rfl
theorem fi_q : fi q q = 0 := by apply Fin.ext; rw [fi_val, Nat.mod_self]; rfl
theorem fi_sub {a b : Nat} (h : b ≤ a) : fi q (a - b) = fi q a - fi q b := by
  have := fi_add (q := q) (a - b) b
  rw [Nat.sub_add_cancel h] at this
  grind
theorem fi_lt {n : Nat} (h : n < q) : (fi q n).val = n := Nat.mod_eq_of_lt h
theorem fi_inj {a b : Nat} (ha : a < q) (hb : b < q) (h : fi q a = fi q b) : a = b := by rw [← fi_lt ha, ← fi_lt hb, h]
theorem fe_fi {n : Nat} (h : n < q) : fe (fi q n) = bn n := by unfold fe; rw [fi_lt h]
theorem fmul_eq (q1 : 2 ≤ q) (q2 : q ≤ 1048575) (a b : Fin q) : poly_field_mul (bn q) [fe a, fe b] = some (fe (a * b)) := by
  rw [mul2_eq q1 q2 a.isLt b.isLt]; rfl
theorem fsub_eq (q1 : 2 ≤ q) (q2 : q ≤ 1048575) (a b : Fin q) : poly_field_sub (bn q) (fe a) (fe b) = some (fe (a - b)) := by
  have ha := a.isLt
  have hb := b.isLt
  unfold poly_field_sub fe
  rw [bn_add, bn_sub (by omega) (by omega), remU_bn (by omega) (by omega) (by omega), bind_some, Fin.sub_def]
  simp only
  congr 3; omega
theorem fminus_eq (q1 : 2 ≤ q) (q2 : q ≤ 1048575) (a b : Fin q) : ref04_minus (bn q) (fe a) (fe b) = some (fe (a - b)) := by
  have ha := a.isLt
  have hb := b.isLt
  unfold ref04_minus fe
  rw [remU_bn (by omega) (by omega) (by omega), bind_some, Nat.mod_eq_of_lt hb, bn_add, bn_sub (by omega) (by omega), remU_bn (by omega) (by omega) (by omega), bind_some, Fin.sub_def]
  simp only
  congr 3; omega
/-! inverses -/
theorem gcd_prm {q a : Nat} (hP : Prm q) (h0 : 0 < a) (h1 : a < q) : Nat.gcd q a = 1 := by
  have hg : Nat.gcd q a ∣ q := Nat.gcd_dvd_left q a
  have hga : Nat.gcd q a ∣ a := Nat.gcd_dvd_right q a
  have hle := Nat.le_of_dvd h0 hga
  have hpos : 0 < Nat.gcd q a := Nat.gcd_pos_of_pos_right _ h0
  rcases Nat.lt_or_ge (Nat.gcd q a) 2 with h | h
  · omega
  · exfalso
    obtain ⟨k, hk⟩ := hg
    have hk2 : 2 ≤ k := by
      rcases k with _ | _ | k
      · simp at hk; omega
      · simp at hk; omega
      · omega
    rcases Nat.le_total (Nat.gcd q a) k with hgk | hgk
    · refine hP.2 _ h ?_ (Nat.mod_eq_zero_of_dvd ⟨k, hk⟩)
      calc _ ≤ Nat.gcd q a * k := Nat.mul_le_mul_left _ hgk
        _ = q := hk.symm
    · refine hP.2 k hk2 ?_ (Nat.mod_eq_zero_of_dvd ⟨Nat.gcd q a, by rw [Nat.mul_comm]; exact hk⟩)
      calc k * k ≤ Nat.gcd q a * k := Nat.mul_le_mul_right _ hgk
        _ = q := hk.symm
theorem wd_bn (n : Nat) : wd (n : Int) = bn n := wd_nat n
theorem tdivN (a b : Nat) : Int.tdiv (a : Int) (b : Int) = ((a / b : Nat) : Int) := rfl
theorem tmodN (a b : Nat) : Int.tmod (a : Int) (b : Int) = ((a % b : Nat) : Int) := rfl
theorem tmodNeg (a b : Nat) : Int.tmod (-(a : Int)) (b : Int) = -((a % b : Nat) : Int) := by rw [Int.neg_tmod]; rfl
theorem quoI_some {a b : Int} (h : b ≠ 0) : quoI a b = some (w64 (a.tdiv b)) := if_neg h
theorem remI_some {a b : Int} (h : b ≠ 0) : remI a b = some (a.tmod b) := if_neg h
theorem inv_end {m : Nat} (m1 : 2 ≤ m) (m2 : m ≤ 1048575) (σ : Int) (hσ : σ = 1 ∨ σ = -1) (S : Nat) (hS : S ≤ m) :
    ∃ x : Nat, x < m ∧ (∃ j : Int, (x : Int) = σ * S + j * m) ∧ (Option.bind (remI (σ * S) (w64 (un (bn m)))) fun x12 => (Option.bind (remI (w64 (x12 + (w64 (un (bn m))))) (w64 (un (bn m)))) fun x13 => ((some (wd x13, (0 : Int)))))) = some (bn x, 0) := by
  have hun : w64 (un (bn m)) = (m : Int) := by rw [show un (bn m) = (m : Int) from by unfold un; rw [bn_nat (by omega)]]; exact w64_id (by omega) (by omega)
  have hlt := Nat.mod_lt S (show 0 < m by omega)
  have hdm := Nat.div_add_mod S m
  rw [hun, remI_some (by omega), bind_some]
  rcases hσ with rfl | rfl
  · refine ⟨S % m, hlt, ⟨-((S / m : Nat) : Int), ?_⟩, ?_⟩
    · have : ((m * (S / m) + S % m : Nat) : Int) = (S : Int) := by rw [hdm]
      grind
    · rw [Int.one_mul, tmodN, w64_id (by omega) (by omega), remI_some (by omega), bind_some, show ((S % m : Nat) : Int) + (m : Int) = ((S % m + m : Nat) : Int) from by omega, tmodN, Nat.add_mod_right, Nat.mod_mod, wd_bn]
  · refine ⟨(m - S % m) % m, Nat.mod_lt _ (by omega), ⟨((S / m : Nat) : Int) + (if S % m = 0 then 0 else 1), ?_⟩, ?_⟩
    · have : ((m * (S / m) + S % m : Nat) : Int) = (S : Int) := by rw [hdm]
      by_cases h0 : S % m = 0
      · rw [if_pos h0, h0, Nat.sub_zero, Nat.mod_self]; rw [h0] at this; grind
      · rw [if_neg h0, Nat.mod_eq_of_lt (by omega)]
        have e : ((m - S % m : Nat) : Int) = (m : Int) - ((S % m : Nat) : Int) := by omega
        rw [e]; grind
    · rw [show (-1 : Int) * (S : Int) = -(S : Int) from by omega, tmodNeg, w64_id (by omega) (by omega), remI_some (by omega), bind_some, show -((S % m : Nat) : Int) + (m : Int) = ((m - S % m : Nat) : Int) from by omega, tmodN, wd_bn]
theorem inv_loop {m : Nat} (m1 : 2 ≤ m) (m2 : m ≤ 1048575) (a : Int) : ∀ (f R N S T : Nat) (σ k l : Int), (σ = 1 ∨ σ = -1) → N < f → R ≤ m → N < R → S ≤ m → R * T + N * S = m → Nat.gcd R N = 1 → (R : Int) = (σ * S) * a + k * m → (N : Int) = (-σ * T) * a + l * m →
    ∃ x : Nat, x < m ∧ (∃ j : Int, (x : Int) * a = 1 + j * m) ∧ fixN (number_InvMod_L1 (bn m)) f ((R : Int), (N : Int), σ * S, -σ * T) = some (bn x, 0)
  | 0, R, N, S, T, σ, k, l, _, h, _, _, _, _, _, _, _ => by omega
  | f + 1, R, N, S, T, σ, k, l, hσ, hf, hR, hNR, hS, hm, hg, h1, h2 => by
    rw [fix_step]; simp only [number_InvMod_L1]
    by_cases h0 : N = 0
    · subst h0
      rw [if_neg (by simp)]
      have hR1 : R = 1 := by simpa using hg
      subst hR1
      rw [if_neg (by simp)]
      obtain ⟨x, x1, ⟨j, x2⟩, x3⟩ := inv_end m1 m2 σ hσ S hS
      refine ⟨x, x1, ⟨j * a - k, ?_⟩, x3⟩
      rw [x2]; grind
    · have hq0 : R / N * N ≤ R := Nat.div_mul_le_self R N
      have hdm := Nat.div_add_mod R N
      have hlt := Nat.mod_lt R (show 0 < N by omega)
      have hqm : R / N ≤ m := Nat.le_trans (Nat.div_le_self R N) hR
      have hgr : Nat.gcd N (R % N) = 1 := by rw [← hg, Nat.gcd_comm R N, Nat.gcd_rec N R, Nat.gcd_comm]
      rw [if_pos (by omega), quoI_some (by omega), bind_some, tdivN]
      generalize R / N = Q at *
      generalize R % N = M at *
      have hTm : T ≤ m := by
        have : 1 * T ≤ R * T := Nat.mul_le_mul_right _ (by omega)
        omega
      have hqT : Q * T ≤ m := by
        have h3 : N * (Q * T) ≤ R * T := by rw [← Nat.mul_assoc]; exact Nat.mul_le_mul_right _ (by rw [Nat.mul_comm]; exact hq0)
        have h4 : 1 * (Q * T) ≤ N * (Q * T) := Nat.mul_le_mul_right _ (by omega)
        omega
      rw [w64_id (n := ((Q : Nat) : Int)) (by omega) (by omega)]
      have e1 : w64 ((R : Int) - w64 (((Q : Nat) : Int) * (N : Int))) = ((M : Nat) : Int) := by
        have : ((Q : Nat) : Int) * (N : Int) = ((Q * N : Nat) : Int) := by push_cast; rfl
        rw [this, w64_id (n := ((Q * N : Nat) : Int)) (by omega) (by omega), w64_id (by omega) (by omega)]
        rw [Nat.mul_comm] at hq0
        have : ((N * (Q) + M : Nat) : Int) = (R : Int) := by rw [hdm]
        rw [Nat.mul_comm (Q) N]; omega
      have e2 : w64 (((Q : Nat) : Int) * (-σ * (T : Int))) = -σ * ((Q * T : Nat) : Int) := by
        have e : ((Q : Nat) : Int) * (-σ * (T : Int)) = -σ * ((Q * T : Nat) : Int) := by push_cast; grind
        rw [e]
        rcases hσ with rfl | rfl <;> exact w64_id (by omega) (by omega)
      have e3 : w64 (σ * (S : Int) - -σ * ((Q * T : Nat) : Int)) = -(-σ) * ((S + Q * T : Nat) : Int) := by
        have e : σ * (S : Int) - -σ * ((Q * T : Nat) : Int) = -(-σ) * ((S + Q * T : Nat) : Int) := by push_cast; grind
        rw [e]
        rcases hσ with rfl | rfl <;> exact w64_id (by omega) (by omega)
      rw [e1, e2, e3]
      have hc : ((N * (Q) + M : Nat) : Int) = (R : Int) := by rw [hdm]
      refine inv_loop m1 m2 a f N (M) T (S + Q * T) (-σ) l (k - ((Q : Nat) : Int) * l) (by rcases hσ with rfl | rfl <;> simp) (by omega) (by omega) hlt hTm ?_ ?_ ?_ ?_
      · have : N * (S + Q * T) + M * T = N * S + (N * (Q) + M) * T := by grind
        rw [this, hdm]; omega
      · exact hgr
      · exact h2
      · push_cast at hc ⊢
        grind
theorem inverse_loop (q1 : 2 ≤ q) (q2 : q ≤ 1048575) (α : Fin q) : ∀ (f A B : Nat) (X Y : Fin q), B < f → A ≤ q → B ≤ q → Nat.gcd A B = 1 → fi q A = X * α → fi q B = Y * α →
    ∃ x : Fin q, x * α = 1 ∧ fixN (ref01_Inverse_L1 (bn q)) f (bn A, fe X, bn B, fe Y) = some (fe x, true)
  | 0, A, B, X, Y, h, _, _, _, _, _ => by omega
  | f + 1, A, B, X, Y, hf, hA, hB, hg, h1, h2 => by
    rw [fix_step]; simp only [ref01_Inverse_L1]
    have hX := X.isLt
    have hY := Y.isLt
    by_cases h0 : B = 0
    · subst h0
      have hA1 : A = 1 := by simpa using hg
      subst hA1
      rw [if_neg (by simp)]
      exact ⟨X, h1.symm.trans fi_1, rfl⟩
    · have hlt := Nat.mod_lt A (show 0 < B by omega)
      have hdm := Nat.div_add_mod A B
      have hle := Nat.div_le_self A B
      have hq0 : A / B * B ≤ A := Nat.div_mul_le_self A B
      have hz : ¬ bn B = 0#64 := bn_ne0 (by omega) (by omega)
      have hmq := Nat.mod_lt (A / B) (show 0 < q by omega)
      have hp1 : A / B % q * Y.val ≤ 1048575 * 1048575 := Nat.mul_le_mul (by omega) (by omega)
      have hm2 := Nat.mod_lt (A / B % q * Y.val) (show 0 < q by omega)
      rw [if_pos hz, quoU_bn (by omega) (by omega) (by omega), bind_some, remU_bn (by omega) (by omega) (by omega), bind_some, bn_mul, remU_bn (by omega) (by omega) (by omega), bind_some, bn_sub (by omega) (by omega), bn_add, remU_bn (by omega) (by omega) (by omega), bind_some, bn_mul, bn_sub (by omega) (by omega)]
      have e : A - A / B * B = A % B := by rw [Nat.mul_comm] at hq0 ⊢; omega
      rw [e]
      have hA' : fi q A = fi q B * fi q (A / B) + fi q (A % B) := by rw [← fi_mul, ← fi_add, hdm]
      have hY' : fi q ((X.val + (q - A / B % q * Y.val % q)) % q) = X - fi q (A / B) * Y := by
        rw [fi_mod, fi_add, fi_self, fi_sub (by omega), fi_q, fi_mod, fi_mul, fi_mod, fi_self]; grind
      rw [show bn ((X.val + (q - A / B % q * Y.val % q)) % q) = fe (X - fi q (A / B) * Y) from by rw [← hY', fe_fi (Nat.mod_lt _ (by omega))]]
      refine inverse_loop q1 q2 α f B (A % B) Y _ (by omega) hB (by omega) ?_ h2 ?_
      · rw [← hg, Nat.gcd_comm A B, Nat.gcd_rec B A, Nat.gcd_comm]
      · grind
/-- both ways to the inverse -/
theorem inv_eq (hP : Prm q) (q2 : q ≤ 1048575) {α : Fin q} (hα : α ≠ 0) : ∃ x : Fin q, α * x = 1 ∧ number_InvMod (fe α) (bn q) = some (fe x, 0) ∧ ref01_Inverse (fe α) (bn q) = some (fe x, true) := by
  have q1 := hP.1
  have ha := α.isLt
  have h0 : 0 < α.val := by
    rcases Nat.eq_zero_or_pos α.val with h | h
    · exact absurd (Fin.ext h) hα
    · exact h
  have hg := gcd_prm hP h0 ha
  obtain ⟨x, x1, ⟨j, x2⟩, x3⟩ := inv_loop q1 q2 (α.val : Int) FUEL q α.val 0 1 (-1) 1 0 (.inr rfl) (fuel_lt (by omega)) (Nat.le_refl _) ha (by omega) (by omega) hg (by simp) (by simp)
  obtain ⟨y, y1, y2⟩ := inverse_loop q1 q2 α FUEL α.val q 1 0 (fuel_lt (by omega)) (by omega) (Nat.le_refl _) (by rw [Nat.gcd_comm]; exact hg) (by rw [fi_self]; grind) (by rw [fi_q]; grind)
  have hx : fi q x * α = 1 := by
    have h1 : fi q (x * α.val) = fi q x * α := by rw [fi_mul, fi_self]
    rw [← h1]
    apply Fin.ext
    have e1 : (1 : Fin q).val = 1 := Nat.mod_eq_of_lt (show 1 < q by omega)
    rw [fi_val, e1]
    have h2 : ((x * α.val % q : Nat) : Int) = 1 := by
      push_cast
      rw [x2, Int.add_mul_emod_self_right]
      exact Int.emod_eq_of_lt (by omega) (by omega)
    omega
  have hxy : fi q x = y := by grind
  refine ⟨y, by grind, ?_, ?_⟩
  · unfold number_InvMod number_modulus
    have hun : ∀ n : Nat, n < 9223372036854775807 → w64 (un (bn n)) = (n : Int) := fun n hn => by rw [show un (bn n) = (n : Int) from by unfold un; rw [bn_nat (by omega)]]; exact w64_id (by omega) (by omega)
    rw [show (1#64) = bn 1 from rfl, if_pos ((bn_le (by omega) (by omega)).2 (by omega)), bind_some, show (4294967296#64) = bn 4294967296 from rfl, decide_eq_true ((bn_lt (by omega) (by omega)).2 (by omega))]
    simp only [Bool.not_true, cond_false]
    rw [remU_bn (by omega) (by omega) (by omega), bind_some, Nat.mod_eq_of_lt ha, hun q (by omega), hun _ (by omega)]
    rw [show (0 : Int) = -1 * ((0 : Nat) : Int) from by simp, show (1 : Int) = -(-1) * ((1 : Nat) : Int) from by simp] 
    rw [← hxy, fe_fi x1]
    exact x3
  · unfold ref01_Inverse
    rw [show (1#64) = bn 1 from rfl, remU_bn (by omega) (by omega) (by omega), bind_some, remU_bn (by omega) (by omega) (by omega), bind_some, Nat.mod_eq_of_lt ha, Nat.mod_eq_of_lt (show 1 < q by omega)]
    have e1 : bn 1 = fe (1 : Fin q) := by unfold fe; rw [show (1 : Fin q).val = 1 from Nat.mod_eq_of_lt (show 1 < q by omega)]
    have e0 : (0#64) = fe (0 : Fin q) := rfl
    rw [e1, e0]
    exact y2
end
end Go.Sx.Po

end
section
/- The document's cipher on the mirrors: Decrypt is decr. -/
set_option linter.unusedVariables false
set_option linter.unusedSimpArgs false
namespace Go.Sx.Po.Cy
open Go

theorem bytes_step (n : Nat) (x : BitVec 64) (l : List (BitVec 8)) (k : Nat) (hk : k < 8) (hl : l.length = k) : fixN (ref02_Bytes_L1 8) (n + 1) (x, l, (k : Int)) = fixN (ref02_Bytes_L1 8) n (x >>> 8, x.setWidth 8 :: l, ((k + 1 : Nat) : Int)) := by
  rw [fix_step]
  simp only [ref02_Bytes_L1]
  rw [if_pos (by omega), remU256, bind_some, appG_some (by simp; omega), bind_some, quo256, bind_some, rem256, w64_id (by omega) (by omega)]
  rfl
theorem bytes_eq (x : BitVec 64) : ref02_Bytes x 8 = some (w8 x) := by
  unfold ref02_Bytes
  rw [show FUEL = 18446744073709551607 + 9 from rfl, show (0 : Int) = ((0 : Nat) : Int) from rfl]
  rw [bytes_step _ _ _ 0 (by decide) rfl, bytes_step _ _ _ 1 (by decide) rfl, bytes_step _ _ _ 2 (by decide) rfl, bytes_step _ _ _ 3 (by decide) rfl, bytes_step _ _ _ 4 (by decide) rfl, bytes_step _ _ _ 5 (by decide) rfl, bytes_step _ _ _ 6 (by decide) rfl, bytes_step _ _ _ 7 (by decide) rfl, fix_step]
  simp only [ref02_Bytes_L1]
  rw [if_neg (by omega)]
  simp only [← BitVec.shiftRight_add]
  rfl
/-- the number in some bytes -/
def valB (l : List (BitVec 8)) : BitVec 64 := l.foldl (fun n c => 256#64 * n + c.setWidth 64) 0#64
theorem valB_snoc (l : List (BitVec 8)) (c : BitVec 8) : valB (l ++ [c]) = 256#64 * valB l + c.setWidth 64 := by simp [valB]
theorem value_loop (l : List (BitVec 8)) (hx : l.length ≤ 1000) : ∀ (m i fuel : Nat), l.length - i = m → i ≤ l.length → m < fuel → fixN (ref02_Value_L1 l) fuel (valB (l.take i), (i : Int)) = some (valB l)
  | m, i, 0, _, _, hf => by omega
  | 0, i, fuel + 1, hm, hi, hf => by
    rw [fix_step]; simp only [ref02_Value_L1]; rw [if_neg (by omega), List.take_of_length_le (by omega)]
  | m + 1, i, fuel + 1, hm, hi, hf => by
    rw [fix_step]; simp only [ref02_Value_L1]
    rw [if_pos (by omega), getI_some (by omega), bind_some, ← valB_snoc, ← take_snoc _ _ (by omega), w64_id (by omega) (by omega)]
    exact value_loop l hx m (i + 1) fuel (by omega) (by omega) (by omega)
theorem value_eq (l : List (BitVec 8)) (h : l.length ≤ 1000) : ref02_Value l = some (valB l) := value_loop l h _ 0 FUEL rfl (by omega) (fuel_lt (by omega))
theorem shl_or (a : BitVec 64) (c : BitVec 8) : (a <<< 8) ||| (c.setWidth 64) = 256#64 * a + c.setWidth 64 := by
  have e1 : 256#64 * a = a <<< 8 := by
    apply BitVec.eq_of_toNat_eq
    rw [BitVec.toNat_mul, BitVec.toNat_shiftLeft, Nat.shiftLeft_eq, Nat.mul_comm]; rfl
  rw [e1]
  symm
  apply BitVec.add_eq_or_of_and_eq_zero
  apply BitVec.eq_of_getLsbD_eq
  intro j hj
  rw [BitVec.getLsbD_and, BitVec.getLsbD_shiftLeft, BitVec.getLsbD_setWidth, BitVec.getLsbD_zero]
  by_cases h : j < 8
  · simp [h]
  · simp [BitVec.getLsbD_of_ge c j (by omega)]
theorem byt_wd (x : BitVec 64) (k : Nat) : (byt x k).setWidth 64 = wd (bt x k) := by
  rw [wd_bt]
  apply BitVec.eq_of_toNat_eq
  unfold byt
  rw [BitVec.toNat_setWidth, BitVec.toNat_setWidth, BitVec.toNat_and]
  have : (255#64 : BitVec 64).toNat = 2 ^ 8 - 1 := rfl
  rw [this, Nat.and_two_pow_sub_one_eq_mod]
  omega
theorem val_st (x : BitVec 64) (k : Nat) (hk : k < 8) : 256#64 * (x >>> (64 - 8 * k)) + (byt x k).setWidth 64 = x >>> (64 - 8 * (k + 1)) := by
  rw [← shl_or, byt_wd, shl_step x k hk]
theorem val_w8 (x : BitVec 64) : valB (w8 x) = x := by
  have h0 := val_st x 0 (by decide)
  have h1 := val_st x 1 (by decide)
  have h2 := val_st x 2 (by decide)
  have h3 := val_st x 3 (by decide)
  have h4 := val_st x 4 (by decide)
  have h5 := val_st x 5 (by decide)
  have h6 := val_st x 6 (by decide)
  have h7 := val_st x 7 (by decide)
  have hz : x >>> 64 = 0#64 := by apply BitVec.eq_of_toNat_eq; rw [BitVec.toNat_ushiftRight, Nat.shiftRight_eq_div_pow, Nat.div_eq_of_lt x.isLt]; rfl
  simp only [Nat.mul_zero, Nat.sub_zero, hz] at h0
  simp only [valB, w8, List.foldl_cons, List.foldl_nil, h0, h1, h2, h3, h4, h5, h6, h7]
  simp
theorem words_eq (p : W2) : ref02_words p = some p := by
  unfold ref02_words
  rw [show ((kby p).take 8).drop 0 = w8 p.1 from rfl, show ((kby p).take 16).drop 8 = w8 p.2 from rfl, value_eq _ (by rw [w8_len]; omega), bind_some, value_eq _ (by rw [w8_len]; omega), bind_some, val_w8, val_w8]
theorem rotr_eq (x : BitVec 64) (n : Nat) (h1 : 1 ≤ n) (h2 : n ≤ 63) : ref02_rotr x (n : Int) = some (rotl x (64 - n)) := by
  unfold ref02_rotr rotl
  have e1 : shG (n : Int) = some n := by unfold shG; rw [if_pos (by omega)]; rfl
  have e2 : shG (w64 (64 - (n : Int))) = some (64 - n) := by rw [w64_id (by omega) (by omega)]; unfold shG; rw [if_pos (by omega)]; congr 1; omega
  rw [e1, bind_some, e2, bind_some, BitVec.or_comm, show 64 - (64 - n) = n from by omega]
theorem rotl_eq (x : BitVec 64) (n : Nat) (h1 : 1 ≤ n) (h2 : n ≤ 63) : ref02_rotl x (n : Int) = some (rotl x n) := by
  unfold ref02_rotl
  rw [w64_id (by omega) (by omega), show (64 : Int) - (n : Int) = ((64 - n : Nat) : Int) from by omega, rotr_eq x (64 - n) (by omega) (by omega), bind_some, show 64 - (64 - n) = n from by omega]
def rks (k : W2) (n : Nat) : List (BitVec 64) := (List.range n).map fun i => (ks k i).2
theorem rks_succ (k : W2) (n : Nat) : rks k (n + 1) = rks k n ++ [(ks k n).2] := by simp [rks, List.range_succ]
theorem rks_len (k : W2) (n : Nat) : (rks k n).length = n := by simp [rks]
theorem rk_loop (k : W2) : ∀ (m i f : Nat), i + m = 31 → m < f → fixN ref02_roundKeys_L1 f ((ks k i).1, (ks k i).2, rks k (i + 1), (i : Int)) = some (rks k 32)
  | m, i, 0, _, h => by omega
  | 0, i, f + 1, hi, _ => by
    obtain rfl : i = 31 := by omega
    rw [fix_step]; simp only [ref02_roundKeys_L1]; rw [if_neg (by omega)]
  | m + 1, i, f + 1, hi, hf => by
    rw [fix_step]; simp only [ref02_roundKeys_L1]
    have r1 := rotr_eq (ks k i).1 8 (by omega) (by omega)
    have r2 := rotl_eq (ks k i).2 3 (by omega) (by omega)
    rw [show ((8 : Nat) : Int) = 8 from rfl] at r1
    rw [show ((3 : Nat) : Int) = 3 from rfl] at r2
    rw [if_pos (by omega), r1, bind_some, r2, bind_some, appG_some (by rw [rks_len]; simp; omega), bind_some, w64_id (by omega) (by omega)]
    have e1 : (((ks k i).2 + rotl (ks k i).1 (64 - 8)) ^^^ wd (i : Int)) = (ks k (i + 1)).1 := by simp [ks, rnd, BitVec.add_comm]
    have e2 : rotl (ks k i).2 3 ^^^ (ks k (i + 1)).1 = (ks k (i + 1)).2 := by simp [ks, rnd]
    rw [e1, e2, ← rks_succ]
    exact rk_loop k m (i + 1) f (by omega) (by omega)
theorem rk_eq (k : W2) : ref02_roundKeys k = some (rks k 32) := by
  unfold ref02_roundKeys
  rw [words_eq, bind_some]
  exact rk_loop k 31 0 FUEL (by omega) (fuel_lt (by omega))
theorem rkey2_loop (l : List (BitVec 8)) (hl : l.length = 16) : ∀ (m i fuel : Nat) (p : W2), 16 - i = m → i ≤ 16 → m < fuel → (kby p).take i = l.take i → fixN (ref02_key_L1 l) fuel ((i : Int), p) = some (ofB l)
  | m, i, 0, p, _, _, hf, _ => by omega
  | 0, i, fuel + 1, p, hm, hi, hf, hp => by
    rw [fix_step]; simp only [ref02_key_L1, ref02_key_J2]; rw [if_neg (by omega)]
    obtain rfl : i = 16 := by omega
    simp only [cond_false]
    congr 1
    apply kby_inj
    rw [kby_ofB (by omega), ← hp, List.take_of_length_le (by simp [kby])]
  | m + 1, i, fuel + 1, p, hm, hi, hf, hp => by
    rw [fix_step]; simp only [ref02_key_L1, ref02_key_J2]
    have hk : i < (kby p).length := by rw [kby_len]; omega
    rw [if_pos (by omega), decide_eq_true (by omega)]
    simp only [cond_true]
    rw [getI_some (by omega), bind_some, getI_some hk, bind_some]
    have hks : kset p (i : Int) (l[i]'(by omega)) = some (ofB ((kby p).set i (l[i]'(by omega)))) := by unfold kset; rw [if_pos (by omega)]; rfl
    rw [hks, bind_some, w64_id (by omega) (by omega)]
    refine rkey2_loop l hl m (i + 1) fuel _ (by omega) (by omega) (by omega) ?_
    have hq := (kset_eq hks).2
    rw [Int.toNat_natCast] at hq
    rw [hq, take_snoc _ i (by rw [List.length_set]; exact hk), take_snoc l i (by omega), List.take_set_of_le (Nat.le_refl i), hp]
    simp
theorem block_eq (x y : BitVec 64) : ref02_block x y = some (x, y) := by
  unfold ref02_block ref02_key
  rw [bytes_eq, bind_some, bytes_eq, bind_some, appG_some (by simp [w8]), bind_some]
  have := rkey2_loop (w8 x ++ w8 y) (by simp [w8]) _ 0 FUEL k0 rfl (by omega) (fuel_lt (by omega)) (by simp)
  rw [show ((0 : Nat) : Int) = 0 from rfl] at this
  rw [this, bind_some, show w8 x ++ w8 y = kby (x, y) ++ [] from rfl, ofB_kby]
theorem decTo_st (k b : W2) (j : Nat) (h : j < 32) : decTo k b j = rndB (decTo k b (j + 1)) (ks k j).2 := by
  unfold decTo
  rw [show 32 - j = 32 - (j + 1) + 1 from by omega, List.range_succ, List.foldl_append, List.foldl_cons, List.foldl_nil, show 31 - (32 - (j + 1)) = j from by omega]
theorem dec_loop (k b : W2) : ∀ (i f : Nat), i ≤ 32 → i < f → fixN (ref02_Decrypt_L1 (rks k 32)) f ((decTo k b i).1, (decTo k b i).2, (i : Int) - 1) = some (decr k b)
  | i, 0, _, h => by omega
  | 0, f + 1, _, _ => by
    rw [fix_step]; simp only [ref02_Decrypt_L1]; rw [if_neg (by omega), block_eq, bind_some]; rfl
  | i + 1, f + 1, hi, hf => by
    rw [fix_step]; simp only [ref02_Decrypt_L1]
    have r1 := rotr_eq ((decTo k b (i + 1)).2 ^^^ (decTo k b (i + 1)).1) 3 (by omega) (by omega)
    have r2 := rotl_eq (((decTo k b (i + 1)).1 ^^^ (ks k i).2) - rotl ((decTo k b (i + 1)).2 ^^^ (decTo k b (i + 1)).1) (64 - 3)) 8 (by omega) (by omega)
    rw [show ((8 : Nat) : Int) = 8 from rfl] at r2
    rw [show ((3 : Nat) : Int) = 3 from rfl] at r1
    have hg : getI (rks k 32) (i : Int) = some (ks k i).2 := by
      rw [getI_some (by rw [rks_len]; omega)]; simp [rks]
    rw [if_pos (by omega), r1, bind_some, show ((i + 1 : Nat) : Int) - 1 = (i : Int) from by omega, hg, bind_some, r2, bind_some, w64_id (by omega) (by omega)]
    have ih := dec_loop k b i f (by omega) (by omega)
    rw [decTo_st k b i (by omega)] at ih
    unfold rndB at ih
    rw [BitVec.xor_comm (decTo k b (i + 1)).2]
    exact ih
theorem rdecr_eq (k b : W2) : ref02_Decrypt k b = some (decr k b) := by
  unfold ref02_Decrypt
  rw [words_eq, bind_some, rk_eq, bind_some]
  exact dec_loop k b 32 FUEL (by omega) (fuel_lt (by omega))
end Go.Sx.Po.Cy

end
section
/- Opening with a polynomial, plainly: what a right header is, the factors, the mask; both sides come to it. -/
set_option linter.unusedVariables false
set_option linter.unusedSimpArgs false
set_option linter.unusedSectionVars false
set_option maxRecDepth 100000
namespace Go.Sx.Po
open Go

/-! ### the first element with a property -/
theorem find_loop {α : Type} (l : List α) (hl : l.length < 4611686018427387904) (p : α → Bool) (F : (Int → Option Int) → Int → Option Int)
    (h1 : ∀ rec (j : Nat) (hj : j < l.length), F rec (j : Int) = bif p l[j] then some (j : Int) else rec ((j + 1 : Nat) : Int)) (h2 : ∀ rec, F rec (l.length : Int) = some (-1)) :
    ∀ (m j f : Nat), j + m = l.length → m < f → fixN F f (j : Int) = some (match (l.drop j).findIdx? p with | some i => ((j + i : Nat) : Int) | none => -1)
  | m, j, 0, _, h => by omega
  | 0, j, f + 1, hj, _ => by
    have : j = l.length := by omega
    subst this
    rw [fix_step, h2, List.drop_length]; rfl
  | m + 1, j, f + 1, hj, hf => by
    have hjl : j < l.length := by omega
    rw [fix_step, h1 _ j hjl, List.drop_eq_getElem_cons hjl, List.findIdx?_cons]
    cases hp : p l[j] with
    | true => rw [cond_true]; simp
    | false =>
      rw [cond_false, find_loop l hl p F h1 h2 m (j + 1) f (by omega) (by omega)]
      simp only [Bool.false_eq_true, if_false]
      cases (l.drop (j + 1)).findIdx? p with
      | none => rfl
      | some i => simp only [Option.map_some]; congr 2; omega
theorem find_go {α : Type} (l : List α) (hl : l.length < 4611686018427387904) (p : α → Bool) (F : (Int → Option Int) → Int → Option Int)
    (h1 : ∀ rec (j : Nat) (hj : j < l.length), F rec (j : Int) = bif p l[j] then some (j : Int) else rec ((j + 1 : Nat) : Int)) (h2 : ∀ rec, F rec (l.length : Int) = some (-1)) :
    fixN F FUEL 0 = some (match l.findIdx? p with | some i => (i : Int) | none => -1) := by
  have := find_loop l hl p F h1 h2 l.length 0 FUEL (by omega) (fuel_lt (by omega))
  rw [List.drop_zero, show ((0 : Nat) : Int) = 0 from rfl] at this
  rw [this]
  cases l.findIdx? p with
  | none => rfl
  | some i => simp
theorem idx_any {α : Type} (l : List α) (p : α → Bool) : decide ((0 : Int) ≤ (match l.findIdx? p with | some i => (i : Int) | none => -1)) = l.any p := by
  cases h : l.findIdx? p with
  | none =>
    have : l.any p = false := by
      rw [List.findIdx?_eq_none_iff] at h
      rw [List.any_eq_false]; intro x hx; rw [h x hx]; simp
    rw [this]; rfl
  | some i =>
    have : l.any p = true := by
      have h3 := List.findIdx?_eq_some_iff_getElem.1 h
      obtain ⟨h4, h5, _⟩ := h3
      exact List.any_eq_true.2 ⟨_, List.getElem_mem h4, h5⟩
    rw [this]; simp
/-! ### distinct points -/
theorem same_any (l : List TPoint) (hl : l.length < 4611686018427387904) (y : TPoint) : slices_ContainsFunc_9e39_poly_distinct_1 l y = some (l.any fun x => decide (x.X = y.X)) := by
  unfold slices_ContainsFunc_9e39_poly_distinct_1 slices_IndexFunc_7a5d_poly_distinct_1
  rw [find_go l hl (fun x => decide (x.X = y.X)) _ (fun rec j hj => by
    simp only [slices_IndexFunc_7a5d_poly_distinct_1_L1, poly_distinct_1]
    rw [if_pos (by omega), getI_some hj, bind_some, bind_some, w64_nat (by omega)]) (fun rec => by
    simp only [slices_IndexFunc_7a5d_poly_distinct_1_L1]; rw [if_neg (by omega)]), bind_some, idx_any]
theorem nodup_range {β : Type} [DecidableEq β] (l : List β) : ((List.range l.length).all fun j => !((l.take j).any fun x => decide (some x = l[j]?))) = decide l.Nodup := by
  rw [Bool.eq_iff_iff, decide_eq_true_eq, List.all_eq_true]
  constructor
  · intro h
    rw [List.Nodup, List.pairwise_iff_getElem]
    intro i j hi hj hij he
    have := h j (by simpa using hj)
    rw [Bool.not_eq_true', List.any_eq_false] at this
    refine this l[i] ?_ (by simp [he, hj])
    rw [List.mem_take_iff_getElem]
    exact ⟨i, by omega, rfl⟩
  · intro h j hj
    have hj' : j < l.length := by simpa using hj
    rw [Bool.not_eq_true', List.any_eq_false]
    intro x hx he
    rw [List.mem_take_iff_getElem] at hx
    obtain ⟨i, hi, rfl⟩ := hx
    rw [decide_eq_true_eq, List.getElem?_eq_getElem hj'] at he
    exact List.pairwise_iff_getElem.1 h i j (by omega) hj' (by omega) (Option.some.inj he)
def dstB (l : List TPoint) : Bool := decide (l.map (·.X)).Nodup
theorem distinct_eq (l : List TPoint) (hl : l.length < 4611686018427387904) : poly_distinct l = some (dstB l) := by
  unfold poly_distinct dstB
  have := fix_range l.length (poly_distinct_L1 l) (fun j (_ : Unit) => (j : Int)) (fun j nx u => bif !(((l.map (·.X)).take j).any fun x => decide (some x = (l.map (·.X))[j]?)) then nx u else some false) (fun _ => some true)
    (fun rec j hj _ => by
      simp only [poly_distinct_L1]
      have hs : sliG l 0 (j : Int) = some (l.take j) := by unfold sliG; rw [if_pos (by omega)]; simp
      rw [if_pos (by omega), getI_some hj, bind_some, hs, bind_some, same_any _ (by rw [List.length_take]; omega), bind_some, w64_nat (by omega)]
      have e : ((l.take j).any fun x => decide (x.X = l[j].X)) = (((l.map (·.X)).take j).any fun x => decide (some x = (l.map (·.X))[j]?)) := by
        rw [← List.map_take, List.any_map]
        congr 1; funext x
        simp [hj]
      rw [e]
      cases (((l.map (·.X)).take j).any fun x => decide (some x = (l.map (·.X))[j]?)) <;> rfl)
    (fun rec _ => by simp only [poly_distinct_L1]; rw [if_neg (by omega)]) (f := FUEL) (fuel_lt (by omega)) ()
  rw [show ((0 : Nat) : Int) = 0 from rfl] at this
  rw [this, all_itL _ (some true) (some false) _ _ (fun a _ nx s => rfl)]
  have h2 := nodup_range (l.map (·.X))
  rw [List.length_map] at h2
  rw [h2]
  cases decide (l.map (·.X)).Nodup <;> rfl
/-! ### right headers -/
/-- a point within the bounds -/
def ptB (s : TScheme) (x : TPoint) : Bool := decide (1#64 ≤ x.X) && decide (x.X < s.Group.Q) && decide (1#64 ≤ x.Y) && decide (x.Y < s.Group.P)
def hdB (s : TScheme) (h : THeader) : Bool := decide (h.Items = []) && decide (1#64 ≤ h.Base) && decide (h.Base < s.Group.P) && decide ((h.Points.length : Int) = s.Degree) && dstB h.Points && h.Points.all (ptB s)
def shB (s : TScheme) (c : TSecret) : Bool := decide (1#64 ≤ c.Share.X) && decide (c.Share.X < s.Group.Q) && decide (c.Share.Y < s.Group.Q)
theorem fits_loop (s : TScheme) (c : TSecret) (l : List TPoint) (hl : l.length < 4611686018427387904) : ∀ (m j f : Nat) (b : Bool), j + m = l.length → m < f → fixN (poly_fits_L4 s c l (l.length : Int)) f (b, (j : Int)) = some (b && (l.drop j).all (ptB s) && decide (c.Share.Y < s.Group.Q))
  | m, j, 0, b, _, h => by omega
  | 0, j, f + 1, b, hj, _ => by
    have : j = l.length := by omega
    subst this
    rw [fix_step]; simp only [poly_fits_L4]
    rw [if_neg (by omega), List.drop_length]
    unfold poly_fits_J2
    cases b <;> simp
  | m + 1, j, f + 1, b, hj, hf => by
    have hjl : j < l.length := by omega
    rw [fix_step]; simp only [poly_fits_L4]
    rw [if_pos (by omega), getI_some hjl, bind_some, w64_nat (by omega), List.drop_eq_getElem_cons hjl, List.all_cons]
    cases b with
    | false => unfold poly_fits_J2; simp
    | true =>
      simp only [Bool.not_true, cond_false, Bool.true_and]
      have ih := fun b => fits_loop s c l hl m (j + 1) f b (by omega) (by omega)
      by_cases a1 : 1#64 ≤ l[j].X
      · rw [if_pos a1]
        by_cases a2 : l[j].X < s.Group.Q
        · rw [if_pos a2]
          by_cases a3 : 1#64 ≤ l[j].Y
          · rw [if_pos a3, ih]; simp [ptB, a1, a2, a3]
          · rw [if_neg a3, ih]; simp [ptB, a3]
        · rw [if_neg a2, ih]; simp [ptB, a2]
      · rw [if_neg a1, ih]; simp [ptB, a1]
theorem fits_eq (s : TScheme) (c : TSecret) (h : THeader) (hl : h.Points.length * 16 ≤ 140737488351232) (hg : 1#64 < s.Group.P) : poly_fits s c h = some (hdB s h && shB s c) := by
  have j1 : ∀ b, poly_fits_J1 s c h b = some (b && h.Points.all (ptB s) && shB s c) := by
    intro b
    unfold poly_fits_J1 slices_Clone_3bad poly_fits_J3
    rw [appG_some (by simp; omega), bind_some, List.nil_append, bind_some, appG_some (by simp; omega), bind_some]
    have := fits_loop s c (h.Points ++ [⟨c.Share.X, 1#64⟩]) (by simp; omega) _ 0 FUEL b (by rw [Nat.zero_add]) (fuel_lt (by simp; omega))
    rw [show ((0 : Nat) : Int) = 0 from rfl] at this
    rw [this, List.drop_zero, List.all_append]
    congr 1
    have : [(⟨c.Share.X, 1#64⟩ : TPoint)].all (ptB s) = (decide (1#64 ≤ c.Share.X) && decide (c.Share.X < s.Group.Q)) := by simp [ptB, hg]
    rw [this]; unfold shB
    cases b <;> cases h.Points.all (ptB s) <;> simp
  unfold poly_fits
  by_cases a0 : h.Items = []
  · rw [if_pos (by rw [a0]; rfl)]
    by_cases a1 : 1#64 ≤ h.Base
    · rw [if_pos a1]
      by_cases a2 : h.Base < s.Group.P
      · rw [if_pos a2]
        by_cases a3 : (h.Points.length : Int) = s.Degree
        · rw [if_pos a3, distinct_eq _ (by omega), bind_some, j1]; simp [hdB, a0, a1, a2, a3]
        · rw [if_neg a3, j1]; simp [hdB, a3]
      · rw [if_neg a2, j1]; simp [hdB, a2]
    · rw [if_neg a1, j1]; simp [hdB, a1]
  · rw [if_neg (by intro e; exact a0 (List.length_eq_zero_iff.1 (by omega))), j1]; simp [hdB, a0]
end Go.Sx.Po

end
section
/- Opening with a polynomial, plainly, on: the document's test of a header, the factors, the mask. -/
set_option linter.unusedVariables false
set_option linter.unusedSimpArgs false
set_option linter.unusedSectionVars false
set_option maxRecDepth 100000
namespace Go.Sx.Po
open Go

theorem all_and {α : Type} (l : List α) (f g : α → Bool) : (l.all fun x => f x && g x) = (l.all f && l.all g) := by
  induction l with
  | nil => rfl
  | cons a l ih => simp only [List.all_cons, ih]; cases f a <;> cases g a <;> simp
theorem range_all {α : Type} (l : List α) (f : α → Bool) (d : α) : ((List.range l.length).all fun j => f (l.getD j d)) = l.all f := by
  rw [Bool.eq_iff_iff, List.all_eq_true, List.all_eq_true]
  constructor
  · intro h x hx
    obtain ⟨j, hj, rfl⟩ := List.mem_iff_getElem.1 hx
    have := h j (by simpa using hj)
    rwa [List.getD_eq_getElem?_getD, List.getElem?_eq_getElem hj] at this
  · intro h j hj
    have hj' : j < l.length := by simpa using hj
    rw [List.getD_eq_getElem?_getD, List.getElem?_eq_getElem hj']
    exact h _ (List.getElem_mem hj')
theorem valid_hd (s : TScheme) (h : THeader) (hl : h.Points.length < 4611686018427387904) : ref04_ValidHeader s h = some (hdB s h) := by
  have inner : ∀ (j : Nat) (hj : j < h.Points.length) (rec2 : Int → Option Bool), fixN (ref04_ValidHeader_L4 h (j : Int) rec2 h.Points[j]) FUEL 0 = bif ((h.Points.take j).any fun x => decide (x.X = h.Points[j].X)) then some false else rec2 ((j + 1 : Nat) : Int) := by
    intro j hj rec2
    have := fix_range j (ref04_ValidHeader_L4 h (j : Int) rec2 h.Points[j]) (fun k (_ : Unit) => (k : Int)) (fun k nx u => bif !decide ((h.Points.getD k default).X = h.Points[j].X) then nx u else some false) (fun _ => rec2 ((j + 1 : Nat) : Int))
      (fun rec k hk _ => by
        have hk' : k < h.Points.length := by omega
        have e : h.Points.getD k default = h.Points[k] := by rw [List.getD_eq_getElem?_getD, List.getElem?_eq_getElem hk']; rfl
        simp only [ref04_ValidHeader_L4]
        rw [if_pos (by omega), getI_some hk', bind_some, e, w64_nat (by omega)]
        by_cases hx : h.Points[k].X = h.Points[j].X
        · rw [if_pos hx, decide_eq_true hx]; rfl
        · rw [if_neg hx, decide_eq_false hx]; rfl)
      (fun rec _ => by simp only [ref04_ValidHeader_L4]; rw [if_neg (by omega), w64_nat (by omega)]) (f := FUEL) (fuel_lt (by omega)) ()
    rw [show ((0 : Nat) : Int) = 0 from rfl] at this
    rw [this, all_itL _ (rec2 ((j + 1 : Nat) : Int)) (some false) _ _ (fun a _ nx s => rfl)]
    have e : ((List.range j).all fun k => !decide ((h.Points.getD k default).X = h.Points[j].X)) = !((h.Points.take j).any fun x => decide (x.X = h.Points[j].X)) := by
      rw [Bool.eq_iff_iff, List.all_eq_true, Bool.not_eq_true', List.any_eq_false]
      constructor
      · intro h1 x hx
        rw [List.mem_take_iff_getElem] at hx
        obtain ⟨i, hi, rfl⟩ := hx
        have hi' : i < h.Points.length := by omega
        have := h1 i (List.mem_range.2 (by omega))
        rw [List.getD_eq_getElem?_getD, List.getElem?_eq_getElem hi'] at this
        simpa using this
      · intro h1 k hk
        have hk1 := List.mem_range.1 hk
        have hk' : k < h.Points.length := by omega
        have := h1 h.Points[k] (by rw [List.mem_take_iff_getElem]; exact ⟨k, by omega, rfl⟩)
        rw [List.getD_eq_getElem?_getD, List.getElem?_eq_getElem hk']
        simpa using this
    rw [e]
    cases ((h.Points.take j).any fun x => decide (x.X = h.Points[j].X)) <;> rfl
  have outer : fixN (ref04_ValidHeader_L2 s h) FUEL 0 = some (dstB h.Points && h.Points.all (ptB s)) := by
    have := fix_range h.Points.length (ref04_ValidHeader_L2 s h) (fun j (_ : Unit) => (j : Int)) (fun j nx u => bif ptB s (h.Points.getD j default) && !(((h.Points.map (·.X)).take j).any fun x => decide (some x = (h.Points.map (·.X))[j]?)) then nx u else some false) (fun _ => some true)
      (fun rec j hj _ => by
        have e : h.Points.getD j default = h.Points[j] := by rw [List.getD_eq_getElem?_getD, List.getElem?_eq_getElem hj]; rfl
        have e2 : (((h.Points.map (·.X)).take j).any fun x => decide (some x = (h.Points.map (·.X))[j]?)) = ((h.Points.take j).any fun x => decide (x.X = h.Points[j].X)) := by
          rw [← List.map_take, List.any_map]; congr 1; funext x; simp [hj]
        simp only [ref04_ValidHeader_L2, ref04_ValidHeader_J3]
        rw [if_pos (by omega), getI_some hj, bind_some, e, e2]
        by_cases a1 : h.Points[j].X < 1#64
        · rw [if_pos a1]; have : ¬ 1#64 ≤ h.Points[j].X := by rw [BitVec.le_def]; rw [BitVec.lt_def] at a1; omega
          simp [ptB, this]
        · rw [if_neg a1]; have b1 : 1#64 ≤ h.Points[j].X := by rw [BitVec.le_def]; rw [BitVec.lt_def] at a1; omega
          by_cases a2 : s.Group.Q ≤ h.Points[j].X
          · rw [if_pos a2]; have : ¬ h.Points[j].X < s.Group.Q := by rw [BitVec.lt_def]; rw [BitVec.le_def] at a2; omega
            simp [ptB, this]
          · rw [if_neg a2]; have b2 : h.Points[j].X < s.Group.Q := by rw [BitVec.lt_def]; rw [BitVec.le_def] at a2; omega
            by_cases a3 : h.Points[j].Y < 1#64
            · rw [if_pos a3]; have : ¬ 1#64 ≤ h.Points[j].Y := by rw [BitVec.le_def]; rw [BitVec.lt_def] at a3; omega
              simp [ptB, this]
            · rw [if_neg a3]; have b3 : 1#64 ≤ h.Points[j].Y := by rw [BitVec.le_def]; rw [BitVec.lt_def] at a3; omega
              by_cases a4 : s.Group.P ≤ h.Points[j].Y
              · rw [decide_eq_true a4]; have : ¬ h.Points[j].Y < s.Group.P := by rw [BitVec.lt_def]; rw [BitVec.le_def] at a4; omega
                simp [ptB, this]
              · rw [decide_eq_false a4, cond_false, inner j hj]; have b4 : h.Points[j].Y < s.Group.P := by rw [BitVec.lt_def]; rw [BitVec.le_def] at a4; omega
                have : ptB s h.Points[j] = true := by simp [ptB, b1, b2, b3, b4]
                rw [this]
                cases ((h.Points.take j).any fun x => decide (x.X = h.Points[j].X)) <;> rfl)
      (fun rec _ => by simp only [ref04_ValidHeader_L2]; rw [if_neg (by omega)]) (f := FUEL) (fuel_lt (by omega)) ()
    rw [show ((0 : Nat) : Int) = 0 from rfl] at this
    rw [this, all_itL _ (some true) (some false) _ _ (fun a _ nx s => rfl), all_and, range_all]
    have h2 := nodup_range (h.Points.map (·.X))
    rw [List.length_map] at h2
    rw [h2]; unfold dstB
    cases decide (h.Points.map (·.X)).Nodup <;> cases h.Points.all (ptB s) <;> rfl
  unfold ref04_ValidHeader ref04_ValidHeader_J1
  by_cases a0 : h.Items = []
  · rw [if_neg (by rw [a0]; simp)]
    by_cases a1 : h.Base < 1#64
    · rw [if_pos a1]; have : ¬ 1#64 ≤ h.Base := by rw [BitVec.le_def]; rw [BitVec.lt_def] at a1; omega
      simp [hdB, this]
    · rw [if_neg a1]; have b1 : 1#64 ≤ h.Base := by rw [BitVec.le_def]; rw [BitVec.lt_def] at a1; omega
      by_cases a2 : s.Group.P ≤ h.Base
      · rw [if_pos a2]; have : ¬ h.Base < s.Group.P := by rw [BitVec.lt_def]; rw [BitVec.le_def] at a2; omega
        simp [hdB, this]
      · rw [if_neg a2]; have b2 : h.Base < s.Group.P := by rw [BitVec.lt_def]; rw [BitVec.le_def] at a2; omega
        by_cases a3 : (h.Points.length : Int) = s.Degree
        · rw [decide_eq_false (by simpa using a3), cond_false, outer]; simp [hdB, a0, b1, b2, a3]
        · rw [decide_eq_true a3]; simp [hdB, a3]
  · rw [if_pos (by intro e; exact a0 (List.length_eq_zero_iff.1 (by omega)))]; simp [hdB, a0]
/-! ### factors -/
open Classical in
/-- the inverse -/
noncomputable def iv {q : Nat} [NeZero q] (a : Fin q) : Fin q := if h : ∃ x, a * x = 1 then Classical.choose h else 0
section
variable {q : Nat} [NeZero q]
theorem iv_spec (hP : Prm q) (q2 : q ≤ 1048575) {a : Fin q} (ha : a ≠ 0) : a * iv a = 1 ∧ number_InvMod (fe a) (bn q) = some (fe (iv a), 0) ∧ ref01_Inverse (fe a) (bn q) = some (fe (iv a), true) := by
  obtain ⟨x, h1, h2, h3⟩ := inv_eq hP q2 ha
  have h4 : a * iv a = 1 := by
    unfold iv; rw [dif_pos ⟨x, h1⟩]; exact Classical.choose_spec (p := fun x => a * x = 1) ⟨x, h1⟩
  have : x = iv a := by grind
  rw [← this]
  exact ⟨h1, h2, h3⟩
theorem fin1 (q1 : 2 ≤ q) : (1 : Fin q).val = 1 := Nat.mod_eq_of_lt (show 1 < q by omega)
theorem one_ne (q1 : 2 ≤ q) : (1 : Fin q) ≠ 0 := fun h => by
  have := congrArg Fin.val h
  rw [fin1 q1] at this
  exact absurd this (by simp)
theorem mul_ne (hP : Prm q) (q2 : q ≤ 1048575) {a b : Fin q} (ha : a ≠ 0) (hb : b ≠ 0) : a * b ≠ 0 := fun h => by
  have h1 := (iv_spec hP q2 ha).1
  have h2 := (iv_spec hP q2 hb).1
  refine one_ne hP.1 ?_
  have : (a * b) * (iv a * iv b) = 1 := by grind
  rw [h] at this
  grind
theorem fdiv_eq (hP : Prm q) (q2 : q ≤ 1048575) {a b : Fin q} (hb : b ≠ 0) : poly_field_div (bn q) (fe a) (fe b) = some (fe (a * iv b)) := by
  unfold poly_field_div
  rw [(iv_spec hP q2 hb).2.1, bind_some, fmul_eq hP.1 q2, bind_some]
/-- above and under, of the first k numbers -/
def abF (X : Nat → Fin q) (j : Nat) : Nat → Fin q × Fin q
  | 0 => (1, 1)
  | k + 1 => if k ≠ j then ((abF X j k).1 * X k, (abF X j k).2 * (X k - X j)) else abF X j k
noncomputable def facF (X : Nat → Fin q) (j : Nat) : Nat → Fin q
  | 0 => 1
  | k + 1 => if k = j then facF X j k else facF X j k * X k * iv (X k - X j)
theorem ab_fac (hP : Prm q) (q2 : q ≤ 1048575) (X : Nat → Fin q) (j : Nat) : ∀ (n : Nat), (∀ k, k < n → k ≠ j → X k - X j ≠ 0) → (abF X j n).2 ≠ 0 ∧ facF X j n * (abF X j n).2 = (abF X j n).1
  | 0, _ => ⟨one_ne hP.1, by simp only [facF, abF]; grind⟩
  | n + 1, h => by
    obtain ⟨h1, h2⟩ := ab_fac hP q2 X j n (fun k hk => h k (by omega))
    simp only [facF, abF]
    by_cases e : n = j
    · rw [if_pos e, if_neg (by simpa using e)]; exact ⟨h1, h2⟩
    · rw [if_neg e, if_pos e]
      have h3 := h n (by omega) e
      have h4 := (iv_spec hP q2 h3).1
      exact ⟨mul_ne hP q2 h1 h3, by simp only; grind⟩
theorem fac_eq (hP : Prm q) (q2 : q ≤ 1048575) (X : Nat → Fin q) (j n : Nat) (h : ∀ k, k < n → k ≠ j → X k - X j ≠ 0) : (abF X j n).1 * iv (abF X j n).2 = facF X j n := by
  obtain ⟨h1, h2⟩ := ab_fac hP q2 X j n h
  have h3 := (iv_spec hP q2 h1).1
  grind
theorem factor_eq (hP : Prm q) (q2 : q ≤ 1048575) (X : Nat → Fin q) (n j : Nat) (hn : n < 4611686018427387904) (hj : j < n) (h : ∀ k, k < n → k ≠ j → X k - X j ≠ 0) :
    ref04_factor (bn q) ((List.range n).map fun k => fe (X k)) (j : Int) = some (fe (facF X j n)) := by
  have q1 := hP.1
  unfold ref04_factor
  refine fix_go _ (fun k st => st = (fe (facF X j k), (k : Int))) n _ (by omega) ?_ ?_ ?_
  · simp only [facF]
    rw [show fe (1 : Fin q) = 1#64 from by unfold fe; rw [fin1 q1]]; rfl
  · rintro k _ hk rfl
    refine ⟨_, rfl, fun rec => ?_⟩
    simp only [ref04_factor_L1, facF]
    rw [if_pos (by simp; omega), w64_nat (by omega)]
    by_cases e : k = j
    · rw [if_pos (by omega), if_pos e]
    · have h3 := h k hk e
      have hA := (facF X j k).isLt
      have hX := (X k).isLt
      have hI := (iv (X k - X j)).isLt
      have hp1 : (facF X j k).val * (X k).val ≤ 1048575 * 1048575 := Nat.mul_le_mul (by omega) (by omega)
      have hm1 := Nat.mod_lt ((facF X j k).val * (X k).val) (show 0 < q by omega)
      have hp2 : (facF X j k).val * (X k).val % q * (iv (X k - X j)).val ≤ 1048575 * 1048575 := Nat.mul_le_mul (by omega) (by omega)
      rw [if_neg (by omega), if_neg e, getI_some (by simpa using hk), bind_some, getI_some (by simpa using hj), bind_some]
      simp only [List.getElem_map, List.getElem_range]
      rw [fminus_eq q1 q2, bind_some, (iv_spec hP q2 h3).2.2, bind_some, bind_some, bn_mul, remU_bn (by omega) (by omega) (by omega), bind_some]
      simp only
      rw [bn_mul, remU_bn (by omega) (by omega) (by omega), bind_some]; rfl
  · rintro _ rfl rec
    simp only [ref04_factor_L1]
    rw [if_neg (by simp)]
/-! ### the mask -/
/-- the product of the points' powers -/
noncomputable def zF (p : Nat) (X : Nat → Fin q) (Y : Nat → Nat) (n : Nat) : Nat → Nat
  | 0 => 1
  | j + 1 => zF p X Y n j * (Y j ^ (facF X j n).val % p) % p
variable {s : TScheme} {d t p g : Nat}
theorem zF_lt (hp : 2 ≤ p) (X : Nat → Fin q) (Y : Nat → Nat) (n : Nat) : ∀ j, zF p X Y n j < p
  | 0 => by simp only [zF]; omega
  | j + 1 => Nat.mod_lt _ (by omega)
theorem open_loop (h : Vld s d t p q g) (hd : THeader) (l : List TPoint) (X : Nat → Fin q) (Y : Nat → Nat) (hl : l.length < 4611686018427387904) (hX : ∀ k (hk : k < l.length), l[k].X = fe (X k)) (hY : ∀ k (hk : k < l.length), l[k].Y = bn (Y k) ∧ Y k < p) (hne : ∀ k j, k < l.length → j < l.length → k ≠ j → X k - X j ≠ 0) :
    fixN (poly_Open_L1 s hd l) FUEL (1#64, 0) = poly_Open_J3 hd (decr (drv k0 (un8 42#8) (bn (zF p X Y l.length l.length))) hd.Box) := by
  obtain ⟨p1, p2⟩ := h.pb
  have hP := h.ok.2.1.2
  have q2 := h.ok.2.1.1
  have q1 := hP.1
  refine fix_go _ (fun j st => st = (bn (zF p X Y l.length j), (j : Int))) l.length _ (by omega) (by simp [zF]) ?_ ?_
  · rintro j _ hj rfl
    refine ⟨_, rfl, fun rec => ?_⟩
    have hz := zF_lt p1 X Y l.length j
    have hin : fixN (poly_Open_L2 s l (bn (zF p X Y l.length j)) (j : Int) rec l[j]) FUEL (1#64, 1#64, 0) = rec (bn (zF p X Y l.length (j + 1)), ((j + 1 : Nat) : Int)) := by
      refine fix_go _ (fun k st => st = (fe (abF X j k).1, fe (abF X j k).2, (k : Int))) l.length _ (by omega) ?_ ?_ ?_
      · simp only [abF]
        rw [show fe (1 : Fin q) = 1#64 from by unfold fe; rw [fin1 q1]]; rfl
      · rintro k _ hk rfl
        refine ⟨_, rfl, fun rec2 => ?_⟩
        simp only [poly_Open_L2, abF]
        rw [if_pos (by omega), getI_some hk, bind_some, w64_nat (by omega)]
        by_cases e : k = j
        · rw [if_neg (by omega), if_neg (by simpa using e)]
        · rw [if_pos (by omega), if_pos e, h.grp, hX k hk, hX j hj]
          simp only
          rw [fmul_eq q1 q2, bind_some, fsub_eq q1 q2, bind_some, fmul_eq q1 q2, bind_some]
      · rintro _ rfl rec2
        simp only [poly_Open_L2]
        have hne' : ∀ k, k < l.length → k ≠ j → X k - X j ≠ 0 := fun k hk he => hne k j hk hj he
        have hf := (facF X j l.length).isLt
        obtain ⟨hy, hy2⟩ := hY j hj
        rw [if_neg (by omega), h.grp]
        simp only
        rw [fdiv_eq hP q2 (ab_fac hP q2 X j l.length hne').1, bind_some, fac_eq hP q2 X j l.length hne', hy, ppow_eq h (by omega) (by omega), bind_some, mul2_eq p1 p2 hz (Nat.mod_lt _ (by omega)), bind_some, w64_nat (by omega)]
        rfl
    simp only [poly_Open_L1]
    rw [if_pos (by omega), getI_some hj, bind_some]
    exact hin
  · rintro _ rfl rec
    simp only [poly_Open_L1]
    rw [if_neg (by omega)]
    unfold poly_maskKey
    rw [bind_some]
theorem ropen_loop (h : Vld s d t p q g) (hd : THeader) (n : Nat) (X : Nat → Fin q) (Y : Nat → Nat) (hn : n < 4611686018427387904) (hY : ∀ k, k < n → Y k < p) (hne : ∀ k j, k < n → j < n → k ≠ j → X k - X j ≠ 0) :
    fixN (ref04_Open_L3 s hd ((List.range n).map fun k => fe (X k)) ((List.range n).map fun k => bn (Y k))) FUEL (1#64, 0) = ref04_Open_J4 hd (decr (drv k0 (un8 42#8) (bn (zF p X Y n n))) hd.Box) := by
  obtain ⟨p1, p2⟩ := h.pb
  have hP := h.ok.2.1.2
  have q2 := h.ok.2.1.1
  have q1 := hP.1
  refine fix_go _ (fun j st => st = (bn (zF p X Y n j), (j : Int))) n _ (by omega) (by simp [zF]) ?_ ?_
  · rintro j _ hj rfl
    refine ⟨_, rfl, fun rec => ?_⟩
    have hz := zF_lt p1 X Y n j
    have hf := (facF X j n).isLt
    have hy2 := hY j hj
    have hm := Nat.mod_lt (Y j ^ (facF X j n).val) (show 0 < p by omega)
    have hp2 : zF p X Y n j * (Y j ^ (facF X j n).val % p) ≤ 1048575 * 1048575 := Nat.mul_le_mul (by omega) (by omega)
    simp only [ref04_Open_L3]
    rw [if_pos (by simp; omega), getI_some (by simpa using hj), bind_some, h.grp]
    simp only [List.getElem_map, List.getElem_range]
    rw [factor_eq hP q2 X n j hn hj (fun k hk he => hne k j hk hj he), bind_some, rpower_eq (by omega) (by omega) (by omega) (by omega), bind_some, bn_mul, remU_bn (by omega) (by omega) (by omega), bind_some, w64_nat (by omega)]
    rfl
  · rintro _ rfl rec
    simp only [ref04_Open_L3]
    rw [if_neg (by simp)]
    unfold ref04_MaskKey
    rw [bind_some, Cy.rdecr_eq, bind_some]
end
end Go.Sx.Po

end
section
/- Opening with a polynomial: the program's Open is the document's. -/
set_option linter.unusedVariables false
set_option linter.unusedSimpArgs false
set_option linter.unusedSectionVars false
set_option maxRecDepth 100000
namespace Go.Sx.Po
open Go

theorem bn_toNat (x : BitVec 64) : bn x.toNat = x := by simp [bn]
theorem map_range {α β : Type} (l : List α) (f : α → β) (g : Nat → β) (h : ∀ k (hk : k < l.length), f l[k] = g k) : l.map f = (List.range l.length).map g := by
  apply List.ext_getElem
  · simp
  · intro i h1 h2
    simp only [List.getElem_map, List.getElem_range]
    exact h i (by simpa using h1)
/-- all points of an opening -/
def allP (c : TSecret) (h : THeader) (p : Nat) : List TPoint := ⟨c.Share.X, bn (h.Base.toNat ^ c.Share.Y.toNat % p)⟩ :: h.Points
section
variable {s : TScheme} {d t p q g : Nat}
theorem open_val (hv : Vld s d t p q g) (e1 : poly_valid s = some true) (c : TSecret) (h : THeader) (hl : h.Points.length * 16 ≤ 140737488351232) :
    poly_Open s c h = if hdB s h = true ∧ shB s c = true then (if dstB (allP c h p) = true then fixN (poly_Open_L1 s h (allP c h p)) FUEL (1#64, 0) else some (k0, 6)) else some (k0, 8) := by
  obtain ⟨p1, p2⟩ := hv.pb
  unfold poly_Open
  rw [e1, bind_some, fits_eq s c h hl (by rw [hv.grp]; exact (bn_lt (a := 1) (by omega) (by omega)).2 (by omega)), bind_some]
  simp only [Bool.not_true, cond_false]
  cases h1 : hdB s h with
  | false => simp
  | true =>
    cases h2 : shB s c with
    | false => simp
    | true =>
      have hb := h.Base.isLt
      have hy := c.Share.Y.isLt
      have e := ppow_eq hv hb hy
      rw [bn_toNat, bn_toNat] at e
      simp only [Bool.and_self, Bool.not_true, cond_false]
      rw [e, bind_some, appG_some (by simp; omega), bind_some, if_pos (by simp)]
      have e2 : [(⟨c.Share.X, bn (h.Base.toNat ^ c.Share.Y.toNat % p)⟩ : TPoint)] ++ h.Points = allP c h p := rfl
      rw [e2, distinct_eq _ (by simp [allP]; omega), bind_some]
      cases dstB (allP c h p) <;> simp
theorem ropen_val (hv : Vld s d t p q g) (e2 : ref04_Valid s = some true) (c : TSecret) (h : THeader) (hl : h.Points.length * 16 ≤ 140737488351232) :
    ref04_Open s c h = if hdB s h = true ∧ shB s c = true then (if dstB (allP c h p) = true then fixN (ref04_Open_L3 s h ((allP c h p).map (·.X)) ((allP c h p).map (·.Y))) FUEL (1#64, 0) else some (k0, 6)) else some (k0, 8) := by
  obtain ⟨p1, p2⟩ := hv.pb
  unfold ref04_Open ref04_Open_J1
  rw [e2, bind_some, valid_hd s h (by omega), bind_some]
  simp only [Bool.not_true, cond_false]
  cases h1 : hdB s h with
  | false => simp
  | true =>
    simp only [Bool.not_true, cond_false, true_and]
    by_cases a1 : c.Share.X < 1#64
    · rw [if_pos a1]; have : ¬ 1#64 ≤ c.Share.X := by rw [BitVec.le_def]; rw [BitVec.lt_def] at a1; omega
      simp [shB, this]
    · rw [if_neg a1]; have b1 : 1#64 ≤ c.Share.X := by rw [BitVec.le_def]; rw [BitVec.lt_def] at a1; omega
      by_cases a2 : s.Group.Q ≤ c.Share.X
      · rw [if_pos a2]; have : ¬ c.Share.X < s.Group.Q := by rw [BitVec.lt_def]; rw [BitVec.le_def] at a2; omega
        simp [shB, this]
      · rw [if_neg a2]; have b2 : c.Share.X < s.Group.Q := by rw [BitVec.lt_def]; rw [BitVec.le_def] at a2; omega
        by_cases a3 : s.Group.Q ≤ c.Share.Y
        · rw [decide_eq_true a3]; have : ¬ c.Share.Y < s.Group.Q := by rw [BitVec.lt_def]; rw [BitVec.le_def] at a3; omega
          simp [shB, this]
        · rw [decide_eq_false a3, cond_false]; have b3 : c.Share.Y < s.Group.Q := by rw [BitVec.lt_def]; rw [BitVec.le_def] at a3; omega
          have hs : shB s c = true := by simp [shB, b1, b2, b3]
          have hb := h.Base.isLt
          have hy := c.Share.Y.isLt
          have e := rpower_eq hb hy (show 0 < p by omega) (show p < 4294967296 by omega)
          rw [bn_toNat, bn_toNat] at e
          rw [if_pos hs, hv.grp]
          simp only
          rw [e, bind_some]
          have := fix_range h.Points.length (ref04_Open_L2 s c h) (fun j (_ : Unit) => (c.Share.X :: (h.Points.take j).map (·.X), bn (h.Base.toNat ^ c.Share.Y.toNat % p) :: (h.Points.take j).map (·.Y), (j : Int))) (fun j nx u => bif !decide ((h.Points.getD j default).X = c.Share.X) then nx u else some (k0, 6)) (fun _ => fixN (ref04_Open_L3 s h ((allP c h p).map (·.X)) ((allP c h p).map (·.Y))) FUEL (1#64, 0))
            (fun rec j hj _ => by
              have ee : h.Points.getD j default = h.Points[j] := by rw [List.getD_eq_getElem?_getD, List.getElem?_eq_getElem hj]; rfl
              simp only [ref04_Open_L2]
              rw [if_pos (by omega), getI_some hj, bind_some, ee]
              by_cases hx : h.Points[j].X = c.Share.X
              · rw [if_pos hx, decide_eq_true hx]; rfl
              · rw [if_neg hx, decide_eq_false hx, bind_some, appG_some (by simp; omega), bind_some, bind_some, appG_some (by simp; omega), bind_some, w64_nat (by omega), take_snoc _ j hj, List.map_append, List.map_append]; rfl)
            (fun rec _ => by
              simp only [ref04_Open_L2]
              rw [if_neg (by omega), List.take_length]; rfl) (f := FUEL) (fuel_lt (by omega)) ()
          rw [show ((0 : Nat) : Int) = 0 from rfl] at this
          simp only [List.take_zero, List.map_nil] at this
          rw [this, all_itL _ _ (some (k0, 6)) _ _ (fun a _ nx s => rfl), range_all h.Points (fun x => !decide (x.X = c.Share.X)) default]
          have hd : dstB h.Points = true := by
            simp only [hdB, Bool.and_eq_true] at h1; exact h1.1.2
          have e3 : dstB (allP c h p) = h.Points.all (fun x => !decide (x.X = c.Share.X)) := by
            rw [Bool.eq_iff_iff, List.all_eq_true]
            unfold dstB allP at *
            rw [decide_eq_true_eq] at hd ⊢
            rw [List.map_cons, List.nodup_cons]
            constructor
            · rintro ⟨n1, _⟩ x hx
              rw [Bool.not_eq_true', decide_eq_false_iff_not]
              intro he; exact n1 (List.mem_map.2 ⟨x, hx, he⟩)
            · intro n1
              refine ⟨fun hm => ?_, hd⟩
              obtain ⟨x, hx, he⟩ := List.mem_map.1 hm
              have := n1 x hx
              rw [Bool.not_eq_true', decide_eq_false_iff_not] at this
              exact this he
          rw [e3]
          cases h.Points.all (fun x => !decide (x.X = c.Share.X)) <;> rfl
/-- the mask's points, as numbers -/
def Xa (q : Nat) [NeZero q] (l : List TPoint) (k : Nat) : Fin q := fi q (l.getD k default).X.toNat
def Ya (l : List TPoint) (k : Nat) : Nat := (l.getD k default).Y.toNat
theorem pts_facts [NeZero q] (hv : Vld s d t p q g) (c : TSecret) (h : THeader) (h1 : hdB s h = true) (h2 : shB s c = true) (h3 : dstB (allP c h p) = true) :
    (∀ k (hk : k < (allP c h p).length), (allP c h p)[k].X = fe (Xa q (allP c h p) k)) ∧ (∀ k (hk : k < (allP c h p).length), (allP c h p)[k].Y = bn (Ya (allP c h p) k) ∧ Ya (allP c h p) k < p) ∧
    (∀ k j, k < (allP c h p).length → j < (allP c h p).length → k ≠ j → Xa q (allP c h p) k - Xa q (allP c h p) j ≠ 0) := by
  obtain ⟨p1, p2⟩ := hv.pb
  obtain ⟨q1, q2⟩ := hv.qb
  have hall : ∀ x ∈ allP c h p, x.X.toNat < q ∧ x.Y.toNat < p := by
    intro x hx
    rcases List.mem_cons.1 hx with rfl | hx
    · simp only [shB, Bool.and_eq_true, decide_eq_true_eq, hv.grp] at h2
      have := h2.1.2
      rw [BitVec.lt_def, bn_nat (by omega)] at this
      have hm := Nat.mod_lt (h.Base.toNat ^ c.Share.Y.toNat) (show 0 < p by omega)
      exact ⟨this, by simp only; rw [bn_nat (by omega)]; exact hm⟩
    · simp only [hdB, Bool.and_eq_true] at h1
      have := List.all_eq_true.1 h1.2 x hx
      simp only [ptB, Bool.and_eq_true, decide_eq_true_eq, hv.grp, BitVec.lt_def] at this
      rw [bn_nat (by omega), bn_nat (by omega)] at this
      exact ⟨this.1.1.2, this.2⟩
  have gd : ∀ k (hk : k < (allP c h p).length), (allP c h p).getD k default = (allP c h p)[k] := fun k hk => by rw [List.getD_eq_getElem?_getD, List.getElem?_eq_getElem hk]; rfl
  refine ⟨fun k hk => ?_, fun k hk => ?_, fun k j hk hj hkj => ?_⟩
  · unfold Xa; rw [gd k hk, fe_fi (hall _ (List.getElem_mem hk)).1, bn_toNat]
  · unfold Ya; rw [gd k hk, bn_toNat]; exact ⟨rfl, (hall _ (List.getElem_mem hk)).2⟩
  · intro he
    have e1 : Xa q (allP c h p) k = Xa q (allP c h p) j := by grind
    unfold Xa at e1
    rw [gd k hk, gd j hj] at e1
    have e2 := fi_inj (hall _ (List.getElem_mem hk)).1 (hall _ (List.getElem_mem hj)).1 e1
    have e3 : (allP c h p)[k].X = (allP c h p)[j].X := BitVec.eq_of_toNat_eq e2
    unfold dstB at h3
    rw [decide_eq_true_eq, List.Nodup, List.pairwise_iff_getElem] at h3
    rcases Nat.lt_or_gt_of_ne hkj with hlt | hlt
    · exact h3 k j (by simpa using hk) (by simpa using hj) hlt (by simpa using e3)
    · exact h3 j k (by simpa using hj) (by simpa using hk) hlt (by simpa using e3.symm)
theorem open_same (s : TScheme) (c : TSecret) (h : THeader) (hl : h.Points.length * 16 ≤ 140737488351232) : ∃ r, poly_Open s c h = some r ∧ ref04_Open s c h = some r := by
  rcases valid_eq s with ⟨e1, e2⟩ | ⟨e1, e2, d, t, p, q, g, hv⟩
  · refine ⟨(k0, 30), ?_, ?_⟩
    · unfold poly_Open; rw [e1, bind_some]; rfl
    · unfold ref04_Open; rw [e2, bind_some]; rfl
  · obtain ⟨q1, q2⟩ := hv.qb
    haveI : NeZero q := ⟨by omega⟩
    rw [open_val hv e1 c h hl, ropen_val hv e2 c h hl]
    by_cases hb : hdB s h = true ∧ shB s c = true
    · rw [if_pos hb, if_pos hb]
      by_cases hd : dstB (allP c h p) = true
      · rw [if_pos hd, if_pos hd]
        obtain ⟨f1, f2, f3⟩ := pts_facts hv c h hb.1 hb.2 hd
        have hlen : (allP c h p).length < 4611686018427387904 := by simp [allP]; omega
        rw [open_loop hv h (allP c h p) (Xa q (allP c h p)) (Ya (allP c h p)) hlen f1 f2 f3, map_range (allP c h p) (·.X) (fun k => fe (Xa q (allP c h p) k)) f1, map_range (allP c h p) (·.Y) (fun k => bn (Ya (allP c h p) k)) (fun k hk => (f2 k hk).1),
          ropen_loop hv h _ (Xa q (allP c h p)) (Ya (allP c h p)) hlen (fun k hk => (f2 k hk).2) f3]
        unfold poly_Open_J3 ref04_Open_J4
        split <;> exact ⟨_, rfl, rfl⟩
      · rw [if_neg hd, if_neg hd]; exact ⟨_, rfl, rfl⟩
    · rw [if_neg hb, if_neg hb]; exact ⟨_, rfl, rfl⟩
end
theorem sameC_self (p : TSecret) (hl : p.Labels.length < 4611686018427387904) : ref03_SameSecret p p = some true := by
  unfold ref03_SameSecret ref03_SameSecret_J1
  rw [if_neg (by simp), if_neg (by simp), decide_eq_false (by simp), cond_false]
  exact same_go p.Labels.length _ _ hl (fun rec j hj => by simp only [ref03_SameSecret_L2]; rw [if_pos (by omega), getI_some hj, bind_some, bind_some, if_neg (by simp), w64_nat (by omega)]) (fun rec => by simp only [ref03_SameSecret_L2]; rw [if_neg (by omega)])
end Go.Sx.Po

end
section
/- Interpolation modulo a prime, plainly: values of polynomials, there is only one, divided differences, Newton's form. -/
set_option linter.unusedVariables false
set_option linter.unusedSimpArgs false
set_option linter.unusedSectionVars false
set_option maxRecDepth 100000
namespace Go.Sx.Po
open Go

section
variable {q : Nat} [NeZero q]
/-- the value of a polynomial -/
def evF (l : List (Fin q)) (x : Fin q) : Fin q := l.foldr (fun c a => c + x * a) 0
theorem evF_nil (x : Fin q) : evF [] x = 0 := rfl
theorem evF_cons (a : Fin q) (l : List (Fin q)) (x : Fin q) : evF (a :: l) x = a + x * evF l x := rfl
theorem evF_zeros (n : Nat) (x : Fin q) : evF (List.replicate n 0) x = 0 := by
  induction n with
  | zero => rfl
  | succ n ih => rw [List.replicate_succ, evF_cons, ih]; grind
theorem evF_app0 : ∀ (l : List (Fin q)) (n : Nat) (x : Fin q), evF (l ++ List.replicate n 0) x = evF l x
  | [], n, x => evF_zeros n x
  | a :: l, n, x => by rw [List.cons_append, evF_cons, evF_cons, evF_app0 l]
theorem evF_zip (r x : Fin q) : ∀ (a b : List (Fin q)), a.length = b.length → evF (List.zipWith (fun u v => u - v * r) a b) x = evF a x - evF b x * r
  | [], [], _ => by simp only [List.zipWith_nil_left, evF_nil]; grind
  | u :: a, v :: b, h => by
    have ih := evF_zip r x a b (by simpa using h)
    rw [List.zipWith_cons_cons, evF_cons, evF_cons, evF_cons, ih]; grind
theorem evF_add (x : Fin q) : ∀ (a b : List (Fin q)), a.length = b.length → evF (List.zipWith (· + ·) a b) x = evF a x + evF b x
  | [], [], _ => by simp only [List.zipWith_nil_left, evF_nil]; grind
  | u :: a, v :: b, h => by
    have ih := evF_add x a b (by simpa using h)
    rw [List.zipWith_cons_cons, evF_cons, evF_cons, evF_cons, ih]; grind
theorem evF_sub (x : Fin q) : ∀ (a b : List (Fin q)), a.length = b.length → evF (List.zipWith (· - ·) a b) x = evF a x - evF b x
  | [], [], _ => by simp only [List.zipWith_nil_left, evF_nil]; grind
  | u :: a, v :: b, h => by
    have ih := evF_sub x a b (by simpa using h)
    rw [List.zipWith_cons_cons, evF_cons, evF_cons, evF_cons, ih]; grind
theorem evF_scale (v x : Fin q) : ∀ (a : List (Fin q)), evF (a.map (· * v)) x = evF a x * v
  | [] => by simp only [List.map_nil, evF_nil]; grind
  | u :: a => by
    have ih := evF_scale v x a
    rw [List.map_cons, evF_cons, evF_cons, ih]; grind
/-- a polynomial times (x - r), plus c -/
theorem evF_lin (c r x : Fin q) (u : List (Fin q)) : evF (List.zipWith (fun a b => a - b * r) (c :: u) (u ++ [0])) x = c + (x - r) * evF u x := by
  rw [evF_zip r x _ _ (by simp), evF_cons, show [(0 : Fin q)] = List.replicate 1 0 from rfl, evF_app0]; grind
/-! there is only one -/
/-- a polynomial without its value at r, divided by (x - r) -/
def quot (r : Fin q) : List (Fin q) → List (Fin q)
  | [] => []
  | [_] => []
  | _ :: b :: t => evF (b :: t) r :: quot r (b :: t)
theorem quot_len (r : Fin q) : ∀ (c : List (Fin q)), (quot r c).length = c.length - 1
  | [] => rfl
  | [_] => rfl
  | a :: b :: t => by
    have := quot_len r (b :: t)
    rw [quot, List.length_cons, this]; simp
theorem quot_ev (r x : Fin q) : ∀ (c : List (Fin q)), evF c x - evF c r = (x - r) * evF (quot r c) x
  | [] => by simp only [quot, evF_nil]; grind
  | [a] => by simp only [quot, evF_cons, evF_nil]; grind
  | a :: b :: t => by
    have := quot_ev r x (b :: t)
    rw [quot, evF_cons a (b :: t) x, evF_cons a (b :: t) r, evF_cons _ (quot r (b :: t)) x]
    generalize evF (b :: t) x = u at *
    generalize evF (b :: t) r = v at *
    grind
theorem quot_zero (r : Fin q) : ∀ (c : List (Fin q)), (∀ a ∈ quot r c, a = 0) → evF c r = 0 → ∀ a ∈ c, a = 0
  | [], _, _ => by simp
  | [a], _, h => by
    rw [evF_cons, evF_nil] at h
    intro b hb
    rw [List.mem_singleton.1 hb]; grind
  | a :: b :: t, hq, h => by
    have h1 : evF (b :: t) r = 0 := hq _ (by simp [quot])
    have h2 := quot_zero r (b :: t) (fun x hx => hq x (by simp [quot, hx])) h1
    intro x hx
    rcases List.mem_cons.1 hx with rfl | hx
    · rw [evF_cons, h1] at h; grind
    · exact h2 x hx
theorem sub_ne {a b : Fin q} (h : a ≠ b) : a - b ≠ 0 := fun e => h (by grind)
theorem roots_zero (hP : Prm q) (q2 : q ≤ 1048575) : ∀ (xs c : List (Fin q)), xs.Nodup → c.length = xs.length → (∀ x ∈ xs, evF c x = 0) → ∀ a ∈ c, a = 0
  | [], c, _, hl, _ => by
    have : c = [] := List.length_eq_zero_iff.1 hl
    subst this; simp
  | r :: xs, c, hn, hl, hr => by
    rw [List.nodup_cons] at hn
    have h0 := hr r (by simp)
    refine quot_zero r c ?_ h0
    refine roots_zero hP q2 xs (quot r c) hn.2 (by rw [quot_len, hl]; simp) fun x hx => ?_
    have h1 := quot_ev r x c
    rw [h0, hr x (by simp [hx])] at h1
    have hne : x - r ≠ 0 := sub_ne fun e => hn.1 (e ▸ hx)
    have h2 := (iv_spec hP q2 hne).1
    grind
theorem only_one (hP : Prm q) (q2 : q ≤ 1048575) {xs a b : List (Fin q)} (hn : xs.Nodup) (ha : a.length = xs.length) (hb : b.length = xs.length) (h : ∀ x ∈ xs, evF a x = evF b x) : a = b := by
  have h0 := roots_zero hP q2 xs (List.zipWith (· - ·) a b) hn (by simp [ha, hb]) fun x hx => by rw [evF_sub x a b (by omega), h x hx]; grind
  apply List.ext_getElem (by omega)
  intro i h1 h2
  have := h0 ((List.zipWith (· - ·) a b)[i]'(by simp; omega)) (List.getElem_mem _)
  rw [List.getElem_zipWith] at this
  grind
/-! divided differences -/
/-- the divided difference of f at the points of a list and x -/
noncomputable def dd (f : Fin q → Fin q) : List (Fin q) → Fin q → Fin q
  | [], x => f x
  | a :: S, x => (dd f S x - dd f S a) * iv (x - a)
theorem dd_swap (hP : Prm q) (q2 : q ≤ 1048575) (f : Fin q → Fin q) (S : List (Fin q)) {a b : Fin q} (h : a ≠ b) : dd f (a :: S) b = dd f (b :: S) a := by
  have h1 := (iv_spec hP q2 (sub_ne h)).1
  have h2 := (iv_spec hP q2 (sub_ne (Ne.symm h))).1
  simp only [dd]
  grind
theorem dd_perm (hP : Prm q) (q2 : q ≤ 1048575) (f : Fin q → Fin q) {S T : List (Fin q)} (h : S.Perm T) : S.Nodup → ∀ x, x ∉ S → dd f S x = dd f T x := by
  induction h with
  | nil => intro _ _ _; rfl
  | cons a hp ih =>
    intro hn x hx
    rw [List.nodup_cons] at hn
    simp only [dd]
    rw [ih hn.2 x (fun h => hx (by simp [h])), ih hn.2 a hn.1]
  | swap a b S =>
    intro hn x hx
    have hxb : x ≠ b := fun e => hx (by simp [e])
    have hxa : x ≠ a := fun e => hx (by simp [e])
    have hba : b ≠ a := fun e => by rw [List.nodup_cons] at hn; exact hn.1 (by simp [e])
    have i1 := (iv_spec hP q2 (sub_ne hxb)).1
    have i2 := (iv_spec hP q2 (sub_ne hxa)).1
    have i3 := (iv_spec hP q2 (sub_ne hba)).1
    have i4 := (iv_spec hP q2 (sub_ne (Ne.symm hba))).1
    simp only [dd]
    generalize dd f S x = u at *
    generalize dd f S a = v at *
    generalize dd f S b = w at *
    generalize iv (x - a) = xa at *
    generalize iv (x - b) = xb at *
    generalize iv (b - a) = ba at *
    generalize iv (a - b) = ab at *
    have e : ab = -ba := by grind
    subst e
    have k1 : ((u - v) * xa - (w - v) * ba) * xb - ((u - w) * xb - (v - w) * -ba) * xa = 0 := by
      have : ((x - a) * (x - b) * (b - a)) * (((u - v) * xa - (w - v) * ba) * xb - ((u - w) * xb - (v - w) * -ba) * xa) = 0 := by grind
      have n1 := mul_ne hP q2 (mul_ne hP q2 (sub_ne hxa) (sub_ne hxb)) (sub_ne hba)
      have n2 := (iv_spec hP q2 n1).1
      grind
    grind
  | trans h1 h2 ih1 ih2 =>
    intro hn x hx
    rw [ih1 hn x hx, ih2 (h1.nodup_iff.1 hn) x (fun h => hx (h1.mem_iff.2 h))]
end
end Go.Sx.Po

end
section
/- Interpolation modulo a prime: the document's Lie, as a list of coefficients, and its values. -/
set_option linter.unusedVariables false
set_option linter.unusedSimpArgs false
set_option linter.unusedSectionVars false
set_option maxRecDepth 100000
namespace Go.Sx.Po
open Go

section
variable {q : Nat} [NeZero q]
def lst (f : Nat → Fin q) (n : Nat) : List (BitVec 64) := (List.range n).map fun k => fe (f k)
theorem lst_len (f : Nat → Fin q) (n : Nat) : (lst f n).length = n := by simp [lst]
theorem lst_get {f : Nat → Fin q} {n k : Nat} (h : k < n) : getI (lst f n) (k : Int) = some (fe (f k)) := by
  rw [getI_some (by rw [lst_len]; exact h)]; simp [lst]
theorem lst_set (f : Nat → Fin q) (n i : Nat) (v : Fin q) : (lst f n).set i (fe v) = lst (fun k => if k = i then v else f k) n := by
  apply List.ext_getElem
  · simp [lst]
  · intro k h1 h2
    rw [List.getElem_set]
    simp only [lst, List.getElem_map, List.getElem_range]
    by_cases e : i = k
    · rw [if_pos e, if_pos e.symm]
    · rw [if_neg e, if_neg (Ne.symm e)]
theorem lst_congr {f g : Nat → Fin q} {n : Nat} (h : ∀ k, k < n → f k = g k) : lst f n = lst g n := by
  unfold lst
  apply List.map_congr_left
  intro k hk
  rw [h k (List.mem_range.1 hk)]
/-- an element of a list of numbers -/
def el (l : List (Fin q)) (k : Nat) : Fin q := l.getD k 0
theorem el_some {l : List (Fin q)} {k : Nat} (h : k < l.length) : el l k = l[k] := by unfold el; rw [List.getD_eq_getElem?_getD, List.getElem?_eq_getElem h]; rfl
theorem lst_of_list (l : List (Fin q)) : l.map fe = lst (el l) l.length := by
  apply List.ext_getElem
  · simp [lst]
  · intro k h1 h2
    simp only [lst, List.getElem_map, List.getElem_range]
    rw [el_some]
theorem list_of_lst (l : List (Fin q)) (f : Nat → Fin q) (h : ∀ k (hk : k < l.length), l[k] = f k) : lst f l.length = l.map fe := by
  rw [lst_of_list]; exact lst_congr fun k hk => by rw [el_some hk, h k hk]
theorem fadd_eq (q1 : 2 ≤ q) (q2 : q ≤ 1048575) (a b : Fin q) : remU (fe a + fe b) (bn q) = some (fe (a + b)) := by
  have ha := a.isLt
  have hb := b.isLt
  unfold fe
  rw [bn_add, remU_bn (by omega) (by omega) (by omega)]; rfl
theorem fmulR_eq (q1 : 2 ≤ q) (q2 : q ≤ 1048575) (a b : Fin q) : remU (fe a * fe b) (bn q) = some (fe (a * b)) := by
  have ha := a.isLt
  have hb := b.isLt
  have hp : a.val * b.val ≤ 1048575 * 1048575 := Nat.mul_le_mul (by omega) (by omega)
  unfold fe
  rw [bn_mul, remU_bn (by omega) (by omega) (by omega)]; rfl
theorem mkL_zeros (n : Nat) (h : n * 8 ≤ 140737488355328) : mkL 8 (n : Int) 0#64 = some (lst (fun _ => (0 : Fin q)) n) := by
  unfold mkL
  rw [if_pos (by omega), Int.toNat_natCast]
  congr 1
  apply List.ext_getElem
  · simp [lst]
  · intro k h1 h2
    simp [lst]; rfl
/-- a list of coefficients times (x - r), plus c -/
def linL (c r : Fin q) (u : List (Fin q)) : List (Fin q) := List.zipWith (fun a b => a - b * r) (c :: u) (u ++ [0])
theorem linL_len (c r : Fin q) (u : List (Fin q)) : (linL c r u).length = u.length + 1 := by simp [linL]
/-- the element before -/
def pvl (l : List (Fin q)) (k : Nat) : Fin q := if k = 0 then 0 else el l (k - 1)
theorem linear_eq (q1 : 2 ≤ q) (q2 : q ≤ 1048575) (l : List (Fin q)) (r : Fin q) (hl : l.length < 1000) : ref04_linear (bn q) (l.map fe) (fe r) = some ((linL 0 r l).map fe) := by
  have hL : ∀ k, k < l.length → getI (l.map fe) (k : Int) = some (fe (el l k)) := fun k hk => by rw [lst_of_list, lst_get hk]
  unfold ref04_linear
  rw [List.length_map, w64_nat (by omega), mkL_zeros (q := q) _ (by omega), bind_some]
  refine fix_go _ (fun i st => st = (lst (fun k => if k < i then pvl l k - el l k * r else if k = i then pvl l k else 0) (l.length + 1), (i : Int))) l.length _ (by omega) ?_ ?_ ?_
  · congr 1
    apply lst_congr
    intro k hk
    by_cases e : k = 0
    · subst e; simp [pvl]
    · rw [if_neg (by omega), if_neg e]
  · rintro i _ hi rfl
    refine ⟨_, rfl, fun rec => ?_⟩
    simp only [ref04_linear_L1]
    rw [if_pos (by simp; omega), w64_nat (by omega), lst_get (by omega), bind_some, hL i hi, bind_some, if_neg (by omega), if_neg (by omega), fadd_eq q1 q2, bind_some, bind_some, Int.toNat_natCast, lst_set, lst_get (by omega), bind_some, bind_some, fmulR_eq q1 q2, bind_some, if_neg (by omega), if_neg (by omega), if_pos rfl, fminus_eq q1 q2, bind_some, bind_some, Int.toNat_natCast, lst_set]
    congr 2
    apply lst_congr
    intro k hk
    by_cases e1 : k = i
    · subst e1; rw [if_pos rfl, if_pos (by omega)]
    · rw [if_neg e1]
      by_cases e2 : k = i + 1
      · subst e2; rw [if_pos rfl, if_neg (by omega), if_pos rfl]; simp only [pvl]; rw [if_neg (by omega), Nat.add_sub_cancel]; grind
      · rw [if_neg e2]
        by_cases e3 : k < i
        · rw [if_pos e3, if_pos (by omega)]
        · rw [if_neg e3, if_neg e1, if_neg (by omega), if_neg e2]
  · rintro _ rfl rec
    simp only [ref04_linear_L1]
    rw [if_neg (by simp)]
    have e := linL_len 0 r l
    rw [← e]
    congr 1
    refine list_of_lst _ _ fun k hk => ?_
    rw [e] at hk
    simp only [linL, List.getElem_zipWith]
    have ha : (0 :: l)[k]'(by simp; omega) = pvl l k := by
      cases k with
      | zero => rfl
      | succ k => rw [List.getElem_cons_succ, pvl, if_neg (by omega), Nat.add_sub_cancel, el_some (by omega)]
    rw [ha]
    by_cases e2 : k < l.length
    · rw [if_pos e2, List.getElem_append_left e2, el_some e2]
    · have : k = l.length := by omega
      subst this
      rw [if_neg (by omega), if_pos rfl, List.getElem_append_right (by omega)]
      simp only [Nat.sub_self, List.getElem_cons_zero]; grind
/-! the document's sum -/
variable (X Y : Nat → Fin q)
/-- the polynomial with a point's value at its number and 0 at the others -/
noncomputable def basL (j : Nat) : Nat → List (Fin q)
  | 0 => [Y j]
  | k + 1 => if k = j then basL j k else (linL 0 (X k) (basL j k)).map (· * iv (X j - X k))
noncomputable def outL (n : Nat) : Nat → List (Fin q)
  | 0 => List.replicate n 0
  | j + 1 => List.zipWith (· + ·) (outL n j) (basL X Y j n)
theorem basL_len (j : Nat) : ∀ k, (basL X Y j k).length = if j < k then k else k + 1
  | 0 => rfl
  | k + 1 => by
    have ih := basL_len j k
    simp only [basL]
    by_cases e : k = j
    · rw [if_pos e, ih, if_neg (by omega), if_pos (by omega)]
    · rw [if_neg e, List.length_map, linL_len, ih]
      by_cases e2 : j < k
      · rw [if_pos e2, if_pos (by omega)]
      · rw [if_neg e2, if_neg (by omega)]
theorem outL_len (n : Nat) : ∀ j, j ≤ n → (outL X Y n j).length = n
  | 0, _ => by simp [outL]
  | j + 1, h => by
    have := basL_len X Y j n
    rw [if_pos (by omega)] at this
    simp [outL, outL_len n j (by omega), this]
theorem bas_zero (hP : Prm q) (q2 : q ≤ 1048575) (j i : Nat) (hij : i ≠ j) : ∀ k, i < k → evF (basL X Y j k) (X i) = 0
  | 0, h => by omega
  | k + 1, h => by
    simp only [basL]
    by_cases e : k = j
    · rw [if_pos e]; exact bas_zero hP q2 j i hij k (by omega)
    · rw [if_neg e, evF_scale, linL, evF_lin]
      by_cases e2 : i = k
      · subst e2; grind
      · rw [bas_zero hP q2 j i hij k (by omega)]; grind
theorem bas_own (hP : Prm q) (q2 : q ≤ 1048575) (j n : Nat) (hne : ∀ k, k < n → k ≠ j → X j - X k ≠ 0) : ∀ k, k ≤ n → evF (basL X Y j k) (X j) = Y j
  | 0, _ => by simp only [basL, evF_cons, evF_nil]; grind
  | k + 1, h => by
    have ih := bas_own hP q2 j n hne k (by omega)
    simp only [basL]
    by_cases e : k = j
    · rw [if_pos e]; exact ih
    · have h1 := (iv_spec hP q2 (hne k (by omega) e)).1
      rw [if_neg e, evF_scale, linL, evF_lin, ih]; grind
theorem out_ev (hP : Prm q) (q2 : q ≤ 1048575) (n i : Nat) (hi : i < n) (hne : ∀ k j, k < n → j < n → k ≠ j → X j - X k ≠ 0) : ∀ j, j ≤ n → evF (outL X Y n j) (X i) = if i < j then Y i else 0
  | 0, _ => by simp only [outL]; rw [evF_zeros, if_neg (by omega)]
  | j + 1, h => by
    have hb := basL_len X Y j n
    rw [if_pos (by omega)] at hb
    simp only [outL]
    rw [evF_add _ _ _ (by rw [outL_len X Y n j (by omega), hb]), out_ev hP q2 n i hi hne j (by omega)]
    by_cases e : i = j
    · subst e
      rw [bas_own X Y hP q2 i n (fun k hk he => hne k i hk hi he) n (Nat.le_refl _), if_neg (by omega), if_pos (by omega)]; grind
    · rw [bas_zero X Y hP q2 j i e n hi]
      by_cases e2 : i < j
      · rw [if_pos e2, if_pos (by omega)]; grind
      · rw [if_neg e2, if_neg (by omega)]; grind
theorem lie_eq (hP : Prm q) (q2 : q ≤ 1048575) (pts : List TPoint) (hn : pts.length < 900) (hX : ∀ k (hk : k < pts.length), pts[k].X = fe (X k)) (hY : ∀ k (hk : k < pts.length), pts[k].Y = fe (Y k)) (hne : ∀ k j, k < pts.length → j < pts.length → k ≠ j → X j - X k ≠ 0) :
    ref04_Lie (bn q) pts = some ((outL X Y pts.length pts.length).map fe) := by
  have q1 := hP.1
  unfold ref04_Lie
  rw [mkL_zeros (q := q) _ (by omega), bind_some]
  refine fix_go _ (fun j st => st = ((outL X Y pts.length j).map fe, (j : Int))) pts.length _ (by omega) ?_ ?_ ?_
  · congr 1
    have := list_of_lst (List.replicate pts.length (0 : Fin q)) (fun _ => 0) (fun k hk => by simp)
    rw [List.length_replicate] at this
    exact this
  · rintro j _ hj rfl
    refine ⟨_, rfl, fun rec => ?_⟩
    have hol := outL_len X Y pts.length j (by omega)
    have hbl : ∀ k, (basL X Y j k).length ≤ k + 1 := fun k => by rw [basL_len]; split <;> omega
    have hin : fixN (ref04_Lie_L2 (bn q) pts ((outL X Y pts.length j).map fe) (j : Int) rec) FUEL ([pts[j].Y], 0) = rec ((outL X Y pts.length (j + 1)).map fe, ((j + 1 : Nat) : Int)) := by
      refine fix_go _ (fun k st => st = ((basL X Y j k).map fe, (k : Int))) pts.length _ (by omega) ?_ ?_ ?_
      · simp only [basL, List.map_cons, List.map_nil]; rw [hY j hj]; rfl
      · rintro k _ hk rfl
        refine ⟨_, rfl, fun rec2 => ?_⟩
        have hbk := hbl k
        simp only [ref04_Lie_L2, basL]
        rw [if_pos (by omega), w64_nat (by omega)]
        by_cases e : k = j
        · rw [if_pos (by omega), if_pos e]
        · have h3 := hne k j hk hj e
          rw [if_neg (by omega), if_neg e, getI_some hj, bind_some, getI_some hk, bind_some, hX j hj, hX k hk, fminus_eq q1 q2, bind_some, (iv_spec hP q2 h3).2.2, bind_some, bind_some, hX k hk, linear_eq q1 q2 _ _ (by omega), bind_some]
          have hll := linL_len 0 (X k) (basL X Y j k)
          generalize hu : linL 0 (X k) (basL X Y j k) = u at *
          rw [lst_of_list u]
          refine fix_go _ (fun m st => st = (lst (fun i => if i < m then el u i * iv (X j - X k) else el u i) u.length, (m : Int))) u.length _ (by omega) ?_ ?_ ?_
          · simp
          · rintro m _ hm rfl
            refine ⟨_, rfl, fun rec3 => ?_⟩
            simp only [ref04_Lie_L3]
            rw [if_pos (by rw [lst_len]; omega), lst_get hm, bind_some, if_neg (by omega), fmulR_eq q1 q2, bind_some, bind_some, Int.toNat_natCast, lst_set, w64_nat (by omega)]
            congr 2
            apply lst_congr
            intro i hi
            by_cases e1 : i = m
            · subst e1; rw [if_pos rfl, if_pos (by omega)]
            · rw [if_neg e1]
              by_cases e2 : i < m
              · rw [if_pos e2, if_pos (by omega)]
              · rw [if_neg e2, if_neg (by omega)]
          · rintro _ rfl rec3
            simp only [ref04_Lie_L3]
            rw [if_neg (by rw [lst_len]; omega), w64_nat (by omega)]
            congr 2
            have := list_of_lst (u.map (· * iv (X j - X k))) (fun i => if i < u.length then el u i * iv (X j - X k) else el u i) (fun i hi => by
              have hi' : i < u.length := by simpa using hi
              rw [if_pos hi', List.getElem_map, el_some hi'])
            rw [List.length_map] at this
            exact this
      · rintro _ rfl rec2
        simp only [ref04_Lie_L2]
        have hb := basL_len X Y j pts.length
        rw [if_pos (by omega)] at hb
        rw [if_neg (by omega)]
        generalize hu : basL X Y j pts.length = u at *
        generalize hv : outL X Y pts.length j = v at *
        rw [lst_of_list v, hol]
        refine fix_go _ (fun m st => st = (lst (fun i => if i < m then el v i + el u i else el v i) pts.length, (m : Int))) pts.length _ (by omega) ?_ ?_ ?_
        · simp
        · rintro m _ hm rfl
          refine ⟨_, rfl, fun rec3 => ?_⟩
          simp only [ref04_Lie_L4]
          rw [if_pos (by rw [List.length_map]; omega), lst_get hm, bind_some, lst_of_list u, hb, lst_get hm, bind_some, if_neg (by omega), fadd_eq q1 q2, bind_some, bind_some, Int.toNat_natCast, lst_set, w64_nat (by omega)]
          congr 2
          apply lst_congr
          intro i hi
          by_cases e1 : i = m
          · subst e1; rw [if_pos rfl, if_pos (by omega)]
          · rw [if_neg e1]
            by_cases e2 : i < m
            · rw [if_pos e2, if_pos (by omega)]
            · rw [if_neg e2, if_neg (by omega)]
        · rintro _ rfl rec3
          simp only [ref04_Lie_L4]
          rw [if_neg (by rw [List.length_map]; omega), w64_nat (by omega)]
          congr 2
          simp only [outL]
          rw [hu, hv]
          have := list_of_lst (List.zipWith (· + ·) v u) (fun i => if i < pts.length then el v i + el u i else el v i) (fun i hi => by
            have hi' : i < pts.length := by simp at hi; omega
            rw [if_pos hi', List.getElem_zipWith, el_some (by omega), el_some (by omega)])
          rw [List.length_zipWith, hol, hb, Nat.min_self] at this
          exact this
    simp only [ref04_Lie_L1]
    rw [if_pos (by omega), getI_some hj, bind_some]
    exact hin
  · rintro _ rfl rec
    simp only [ref04_Lie_L1]
    rw [if_neg (by omega)]
end
end Go.Sx.Po

end
section
/- Interpolation modulo a prime: the program's Newton form comes to the same list. -/
set_option linter.unusedVariables false
set_option linter.unusedSimpArgs false
set_option linter.unusedSectionVars false
set_option maxRecDepth 100000
namespace Go.Sx.Po
open Go

theorem back_loop2 (l : List (BitVec 64)) (hl : l.length < 4611686018427387904) : ∀ (k f : Nat), k ≤ l.length → k < f → fixN (slices_Backward_1_c271_L1 l) f ((k : Int) - 1) = some ((List.range k).reverse.map fun i : Nat => ((i : Int), l.getD i 0#64))
  | k, 0, _, h => by omega
  | 0, f + 1, _, _ => by
    rw [fix_step]; simp only [slices_Backward_1_c271_L1]; rw [if_neg (by omega)]; rfl
  | k + 1, f + 1, hk, hf => by
    rw [fix_step]; simp only [slices_Backward_1_c271_L1]
    rw [show ((k + 1 : Nat) : Int) - 1 = (k : Int) from by omega, if_pos (by omega), getI_some (by omega), bind_some, w64_id (by omega) (by omega), back_loop2 l hl k f (by omega) (by omega), yl_some', List.range_succ, List.reverse_append, List.map_append]
    have hkk : k < l.length := by omega
    simp [hkk]
section
variable {q : Nat} [NeZero q] (X Y : Nat → Fin q)
/-- the table of divided differences behind step s -/
noncomputable def Tt : Nat → Nat → Fin q
  | 0, k => Y k
  | s + 1, k => if k < s + 1 then Tt s k else (Tt s k - Tt s (k - 1)) * iv (X k - X (k - (s + 1)))
/-- the coefficients behind m points, from the last one on -/
noncomputable def uL (n : Nat) : Nat → List (Fin q)
  | 0 => []
  | m + 1 => linL (Tt X Y (n - 1) (n - 1 - m)) (X (n - 1 - m)) (uL n m)
theorem uL_len (n : Nat) : ∀ m, (uL X Y n m).length = m
  | 0 => rfl
  | m + 1 => by rw [uL, linL_len, uL_len n m]
variable {s : TScheme} {d t p g : Nat}
theorem table_loop (h : Vld s d t p q g) (pts : List TPoint) (n : Nat) (hpn : pts.length = n) (hn : n < 900) (hX : ∀ k (hk : k < pts.length), pts[k].X = fe (X k)) (hne : ∀ k j, k < n → j < n → k ≠ j → X j - X k ≠ 0) (st : Nat) (hst : st + 1 < n) (rec3 : List (BitVec 64) × Int → Option (List (BitVec 64) × Int)) :
    fixN (poly_Interpolate_L4 s pts ((st + 1 : Nat) : Int) rec3) FUEL (lst (Tt X Y st) n, w64 ((n : Int) - 1)) = rec3 (lst (Tt X Y (st + 1)) n, ((st + 2 : Nat) : Int)) := by
  have hP := h.ok.2.1.2
  have q2 := h.ok.2.1.1
  have q1 := hP.1
  refine fix_go _ (fun j x => x = (lst (fun k => if n - 1 - j < k then Tt X Y (st + 1) k else Tt X Y st k) n, ((n - 1 - j : Nat) : Int))) (n - 1 - st) _ (by omega) ?_ ?_ ?_
  · rw [w64_id (by omega) (by omega), show ((n : Int) - 1) = ((n - 1 - 0 : Nat) : Int) from by omega]
    congr 1
    apply lst_congr
    intro k hk
    rw [if_neg (by omega)]
  · rintro j _ hj rfl
    refine ⟨_, rfl, fun rec => ?_⟩
    obtain ⟨i, hi⟩ : ∃ i, n - 1 - j = i := ⟨_, rfl⟩
    have hi2 : i < n := by omega
    have e1 : w64 ((i : Int) - 1) = ((i - 1 : Nat) : Int) := by rw [w64_id (by omega) (by omega)]; omega
    have e2 : w64 ((i : Int) - ((st + 1 : Nat) : Int)) = ((i - (st + 1) : Nat) : Int) := by rw [w64_id (by omega) (by omega)]; omega
    have h3 := hne (i - (st + 1)) i (by omega) hi2 (by omega)
    simp only [poly_Interpolate_L4]
    rw [hi, if_pos (by omega), lst_get hi2, bind_some, e1, lst_get (by omega), bind_some, getI_some (by omega), bind_some, e2, getI_some (by omega), bind_some, if_neg (by omega), if_neg (by omega), h.grp, hX i (by omega), hX (i - (st + 1)) (by omega)]
    simp only
    rw [fsub_eq q1 q2, bind_some, fsub_eq q1 q2, bind_some, fdiv_eq hP q2 h3, bind_some, bind_some, Int.toNat_natCast, lst_set, show n - 1 - (j + 1) = i - 1 from by omega]
    congr 2
    apply lst_congr
    intro k hk
    by_cases a1 : k = i
    · subst a1
      rw [if_pos rfl, if_pos (by omega)]
      simp only [Tt]
      rw [if_neg (by omega)]
    · rw [if_neg a1]
      by_cases a2 : i < k
      · rw [if_pos a2, if_pos (by omega)]
      · rw [if_neg a2, if_neg (by omega)]
  · rintro _ rfl rec
    simp only [poly_Interpolate_L4]
    rw [if_neg (by omega), w64_nat (by omega)]
    congr 2
    apply lst_congr
    intro k hk
    by_cases a2 : n - 1 - (n - 1 - st) < k
    · rw [if_pos a2]
    · rw [if_neg a2]; simp only [Tt]; rw [if_pos (by omega)]
/-- one point more -/
theorem horner_loop (h : Vld s d t p q g) (pts : List TPoint) (n : Nat) (hpn : pts.length = n) (hn : n < 900) (hX : ∀ k (hk : k < pts.length), pts[k].X = fe (X k)) (nx : List (BitVec 64) → Option (List (BitVec 64) × Int)) (i : Nat) (hi : i < n) (c : Fin q) (f : Nat → Fin q) :
    fixN (poly_Interpolate_L6 s pts nx (i : Int) (fe c)) FUEL (w64 ((n : Int) - 1), lst f n) = nx (lst (fun k => if k = 0 then c - f 0 * X i else f (k - 1) - f k * X i) n) := by
  have hP := h.ok.2.1.2
  have q2 := h.ok.2.1.1
  have q1 := hP.1
  refine fix_go _ (fun j x => x = (((n - 1 - j : Nat) : Int), lst (fun k => if n - 1 - j < k then f (k - 1) - f k * X i else f k) n)) (n - 1) _ (by omega) ?_ ?_ ?_
  · rw [w64_id (by omega) (by omega), show ((n : Int) - 1) = ((n - 1 - 0 : Nat) : Int) from by omega]
    congr 1
    apply lst_congr
    intro k hk
    rw [if_neg (by omega)]
  · rintro j _ hj rfl
    refine ⟨_, rfl, fun rec => ?_⟩
    obtain ⟨m, hm⟩ : ∃ m, n - 1 - j = m := ⟨_, rfl⟩
    have hm2 : m < n := by omega
    have e1 : w64 ((m : Int) - 1) = ((m - 1 : Nat) : Int) := by rw [w64_id (by omega) (by omega)]; omega
    simp only [poly_Interpolate_L6]
    rw [hm, if_pos (by omega), e1, lst_get (by omega), bind_some, lst_get hm2, bind_some, getI_some (by omega), bind_some, if_neg (by omega), if_neg (by omega), h.grp, hX i (by omega)]
    simp only
    rw [fmul_eq q1 q2, bind_some, fsub_eq q1 q2, bind_some, bind_some, Int.toNat_natCast, lst_set, show n - 1 - (j + 1) = m - 1 from by omega]
    congr 2
    apply lst_congr
    intro k hk
    by_cases a1 : k = m
    · subst a1; rw [if_pos rfl, if_pos (by omega)]
    · rw [if_neg a1]
      by_cases a2 : m < k
      · rw [if_pos a2, if_pos (by omega)]
      · rw [if_neg a2, if_neg (by omega)]
  · rintro _ rfl rec
    simp only [poly_Interpolate_L6]
    have e0 : getI (lst (fun k => if n - 1 - (n - 1) < k then f (k - 1) - f k * X i else f k) n) 0 = some (fe (f 0)) := by
      have := lst_get (f := fun k => if n - 1 - (n - 1) < k then f (k - 1) - f k * X i else f k) (show 0 < n by omega)
      rw [if_neg (by omega)] at this; exact this
    rw [if_neg (by omega), e0, bind_some, getI_some (by omega), bind_some, h.grp, hX i (by omega)]
    simp only
    rw [fmul_eq q1 q2, bind_some, fsub_eq q1 q2, bind_some, bind_some, show (0 : Int).toNat = 0 from rfl, lst_set]
    congr 1
    apply lst_congr
    intro k hk
    by_cases a1 : k = 0
    · rw [if_pos a1, if_pos a1]
    · rw [if_neg a1, if_neg a1, if_pos (by omega)]
theorem newton_loop (h : Vld s d t p q g) (pts : List TPoint) (n : Nat) (hpn : pts.length = n) (hn : n < 900) (hX : ∀ k (hk : k < pts.length), pts[k].X = fe (X k)) : ∀ k, k ≤ n →
    itL (poly_Interpolate_R5 s pts) poly_Interpolate_D5 ((List.range k).reverse.map fun i : Nat => ((i : Int), (lst (Tt X Y (n - 1)) n).getD i 0#64)) ((uL X Y n (n - k) ++ List.replicate k 0).map fe) = some ((uL X Y n n).map fe, 0)
  | 0, _ => by
    rw [List.replicate_zero, List.append_nil, Nat.sub_zero]; rfl
  | k + 1, hk => by
    have hk' : k < n := by omega
    have hul := uL_len X Y n (n - (k + 1))
    have hge : (lst (Tt X Y (n - 1)) n).getD k 0#64 = fe (Tt X Y (n - 1) k) := by
      rw [List.getD_eq_getElem?_getD, List.getElem?_eq_getElem (by rw [lst_len]; exact hk')]; simp [lst]
    rw [List.range_succ, List.reverse_append, List.map_append, show ([k].reverse.map fun i : Nat => ((i : Int), (lst (Tt X Y (n - 1)) n).getD i 0#64)) = [((k : Int), fe (Tt X Y (n - 1) k))] from by simp only [List.reverse_singleton, List.map_cons, List.map_nil, hge], List.singleton_append, itL_cons]
    simp only [poly_Interpolate_R5]
    have hlen : (uL X Y n (n - (k + 1)) ++ List.replicate (k + 1) 0).length = n := by rw [List.length_append, hul, List.length_replicate]; omega
    generalize hu : uL X Y n (n - (k + 1)) = u at *
    rw [List.length_map, hlen, lst_of_list (u ++ List.replicate (k + 1) 0), hlen, horner_loop X h pts n hpn hn hX _ k hk']
    have e3 : n - k = n - (k + 1) + 1 := by omega
    have e4 : n - 1 - (n - (k + 1)) = k := by omega
    have eU : uL X Y n (n - k) = linL (Tt X Y (n - 1) k) (X k) u := by rw [e3, uL, e4, hu]
    have hfin := newton_loop h pts n hpn hn hX k (by omega)
    rw [eU] at hfin
    rw [← hfin]
    congr 1
    have hll := linL_len (Tt X Y (n - 1) k) (X k) u
    have hL : (linL (Tt X Y (n - 1) k) (X k) u ++ List.replicate k 0).length = n := by rw [List.length_append, hll, List.length_replicate]; omega
    have := list_of_lst (linL (Tt X Y (n - 1) k) (X k) u ++ List.replicate k 0) (fun m => if m = 0 then Tt X Y (n - 1) k - el (u ++ List.replicate (k + 1) 0) 0 * X k else el (u ++ List.replicate (k + 1) 0) (m - 1) - el (u ++ List.replicate (k + 1) 0) m * X k) (fun m hm => by
      rw [hL] at hm
      have hz : ∀ j, j < n → el (u ++ List.replicate (k + 1) 0) j = if hj : j < u.length then u[j] else 0 := by
        intro j hj
        rw [el_some (by omega)]
        by_cases e : j < u.length
        · rw [dif_pos e, List.getElem_append_left e]
        · rw [dif_neg e, List.getElem_append_right (by omega), List.getElem_replicate]
      rw [hz m hm, hz 0 (by omega), hz (m - 1) (by omega)]
      by_cases e : m < u.length + 1
      · rw [List.getElem_append_left (by omega)]
        simp only [linL, List.getElem_zipWith]
        have e2 : (u ++ [(0 : Fin q)])[m]'(by simp; omega) = if hj : m < u.length then u[m] else 0 := by
          by_cases e5 : m < u.length
          · rw [dif_pos e5, List.getElem_append_left e5]
          · rw [dif_neg e5, List.getElem_append_right (by omega)]; simp
        rw [e2]
        cases m with
        | zero => rw [if_pos rfl]; rfl
        | succ m => rw [if_neg (by omega), List.getElem_cons_succ, Nat.add_sub_cancel, dif_pos (show m < u.length by omega)]
      · rw [List.getElem_append_right (by omega), List.getElem_replicate, if_neg (by omega), dif_neg (by omega), dif_neg (by omega)]; grind)
    rw [hL] at this
    exact this
theorem newton_eq (h : Vld s d t p q g) (pts : List TPoint) (n : Nat) (hpn : pts.length = n) (h1 : 1 ≤ n) (hn : n < 900) (hX : ∀ k (hk : k < pts.length), pts[k].X = fe (X k)) (hY : ∀ k (hk : k < pts.length), pts[k].Y = fe (Y k)) (hne : ∀ k j, k < n → j < n → k ≠ j → X j - X k ≠ 0) :
    poly_Interpolate_J1 s pts false = some ((uL X Y n n).map fe, 0) := by
  unfold poly_Interpolate_J1
  rw [cond_false, hpn, mkL_zeros (q := q) _ (by omega), bind_some]
  have h3 : fixN (poly_Interpolate_L3 s pts) FUEL (lst Y n, 1) = some ((uL X Y n n).map fe, 0) := by
    refine fix_go _ (fun st x => x = (lst (Tt X Y st) n, ((st + 1 : Nat) : Int))) (n - 1) _ (by omega) (by rfl) ?_ ?_
    · rintro st _ hst rfl
      refine ⟨_, rfl, fun rec => ?_⟩
      simp only [poly_Interpolate_L3]
      rw [lst_len, if_pos (by omega)]
      exact table_loop X Y h pts n hpn hn hX hne st (by omega) rec
    · rintro _ rfl rec
      simp only [poly_Interpolate_L3]
      unfold slices_Backward_f243 slices_Backward_1_c271
      rw [lst_len, if_neg (by omega), mkL_zeros (q := q) _ (by omega), bind_some, bind_some, lst_len, w64_id (by omega) (by omega), back_loop2 _ (by rw [lst_len]; omega) n FUEL (by rw [lst_len]; omega) (fuel_lt (by omega)), bind_some]
      have := newton_loop X Y h pts n hpn hn hX n (Nat.le_refl _)
      rw [Nat.sub_self] at this
      have e : lst (fun _ => (0 : Fin q)) n = (uL X Y n 0 ++ List.replicate n 0).map fe := by
        have := list_of_lst (List.replicate n (0 : Fin q)) (fun _ => 0) (fun k hk => by simp)
        rw [List.length_replicate] at this
        exact this
      rw [e]
      exact this
  refine fix_go _ (fun j x => x = (lst (fun k => if k < j then Y k else 0) n, (j : Int))) n _ (by omega) (by simp) ?_ ?_
  · rintro j _ hj rfl
    refine ⟨_, rfl, fun rec => ?_⟩
    simp only [poly_Interpolate_L2]
    rw [if_pos (by omega), getI_some (by omega), bind_some, lst_get hj, bind_some, hY j (by omega), Int.toNat_natCast, lst_set, w64_nat (by omega)]
    congr 2
    apply lst_congr
    intro k hk
    by_cases e : k = j
    · subst e; rw [if_pos rfl, if_pos (by omega)]
    · rw [if_neg e]
      by_cases e2 : k < j
      · rw [if_pos e2, if_pos (by omega)]
      · rw [if_neg e2, if_neg (by omega)]
  · rintro _ rfl rec
    simp only [poly_Interpolate_L2]
    rw [if_neg (by omega)]
    have e : lst (fun k => if k < n then Y k else 0) n = lst Y n := lst_congr fun k hk => by rw [if_pos hk]
    rw [e]; exact h3
/-! what the Newton form is worth -/
/-- the values at the points -/
def fy (n : Nat) (x : Fin q) : Fin q := match (List.range n).find? (fun k => decide (X k = x)) with | some k => Y k | none => 0
theorem fy_eq {n : Nat} (hne : ∀ k j, k < n → j < n → k ≠ j → X j - X k ≠ 0) {k : Nat} (hk : k < n) : fy X Y n (X k) = Y k := by
  unfold fy
  cases e : (List.range n).find? (fun j => decide (X j = X k)) with
  | none =>
    have := List.find?_eq_none.1 e k (List.mem_range.2 hk)
    simp at this
  | some j =>
    have h1 := List.find?_some e
    have h2 := List.mem_range.1 (List.mem_of_find?_eq_some e)
    simp only [decide_eq_true_eq] at h1
    by_cases ejk : j = k
    · rw [ejk]
    · exact absurd (by rw [h1]; grind) (hne k j hk h2 (Ne.symm ejk))
/-- the points from a to b -/
def seg (a b : Nat) : List (Fin q) := (List.range' a (b - a)).map X
theorem seg_nil (a : Nat) : seg X a a = [] := by simp [seg]
theorem seg_cons {a b : Nat} (h : a < b) : seg X a b = X a :: seg X (a + 1) b := by
  unfold seg
  obtain ⟨m, hm⟩ : ∃ m, b - a = m + 1 := ⟨b - a - 1, by omega⟩
  rw [hm, List.range'_succ, List.map_cons, show b - (a + 1) = m from by omega]
theorem seg_snoc {a b : Nat} (h : a ≤ b) : seg X a (b + 1) = seg X a b ++ [X b] := by
  unfold seg
  rw [show b + 1 - a = (b - a) + 1 from by omega, List.range'_concat, List.map_append]
  simp; congr 1; omega
theorem seg_nodup {n a b : Nat} (hb : b ≤ n) (hne : ∀ k j, k < n → j < n → k ≠ j → X j - X k ≠ 0) : (seg X a b).Nodup := by
  unfold seg
  rw [List.Nodup, List.pairwise_map]
  refine List.Pairwise.imp_of_mem ?_ (List.nodup_range' (step := 1) (s := a) (n := b - a))
  intro i j hi hj hij he
  have hi' := List.mem_range'_1.1 hi
  have hj' := List.mem_range'_1.1 hj
  exact hne i j (by omega) (by omega) hij (by rw [he]; grind)
theorem seg_not {n a b k : Nat} (hb : b ≤ n) (hk : k < n) (hkab : k < a ∨ b ≤ k) (hne : ∀ k j, k < n → j < n → k ≠ j → X j - X k ≠ 0) : X k ∉ seg X a b := by
  unfold seg
  intro hm
  obtain ⟨j, hj, he⟩ := List.mem_map.1 hm
  have hj' := List.mem_range'_1.1 hj
  exact hne k j hk (by omega) (by omega) (by rw [he]; grind)
theorem ne_of {n k j : Nat} (hne : ∀ k j, k < n → j < n → k ≠ j → X j - X k ≠ 0) (hk : k < n) (hj : j < n) (h : k ≠ j) : X k ≠ X j := fun e => hne k j hk hj h (by rw [e]; grind)
theorem Tt_dd (hP : Prm q) (q2 : q ≤ 1048575) {n : Nat} (hne : ∀ k j, k < n → j < n → k ≠ j → X j - X k ≠ 0) : ∀ st k, st ≤ k → k < n → Tt X Y st k = dd (fy X Y n) (seg X (k - st) k) (X k)
  | 0, k, _, hk => by
    rw [Nat.sub_zero, seg_nil]; simp only [Tt, dd]; rw [fy_eq X Y hne hk]
  | st + 1, k, hs, hk => by
    have ih1 := Tt_dd hP q2 hne st k (by omega) hk
    have ih2 := Tt_dd hP q2 hne st (k - 1) (by omega) (by omega)
    simp only [Tt]
    rw [if_neg (by omega), ih1, ih2, seg_cons X (show k - (st + 1) < k by omega)]
    simp only [dd]
    rw [show k - (st + 1) + 1 = k - st from by omega]
    congr 2
    obtain ⟨a, ha⟩ : ∃ a, k - (st + 1) = a := ⟨_, rfl⟩
    obtain ⟨b, hb⟩ : ∃ b, k = b + 1 := ⟨k - 1, by omega⟩
    subst hb
    rw [ha, show b + 1 - st = a + 1 from by omega, Nat.add_sub_cancel, show b - st = a from by omega]
    by_cases e : a = b
    · subst e
      rw [seg_nil, seg_nil]
    · rw [seg_cons X (show a < b by omega), seg_snoc X (show a + 1 ≤ b by omega), dd_swap hP q2 _ _ (ne_of X hne (show a < n by omega) (show b < n by omega) e)]
      symm
      refine dd_perm hP q2 _ (List.perm_append_singleton _ _) ?_ _ ?_
      · have := seg_nodup X (a := a + 1) (b := b + 1) (by omega) hne
        rwa [seg_snoc X (show a + 1 ≤ b by omega)] at this
      · have := seg_not X (a := a + 1) (b := b + 1) (k := a) (by omega) (by omega) (.inl (by omega)) hne
        rwa [seg_snoc X (show a + 1 ≤ b by omega)] at this
theorem Tt_last {n k : Nat} : ∀ m, Tt X Y (k + m) k = Tt X Y k k
  | 0 => rfl
  | m + 1 => by rw [show k + (m + 1) = (k + m) + 1 from rfl]; simp only [Tt]; rw [if_pos (by omega)]; exact Tt_last (n := n) m
theorem newton_ev (hP : Prm q) (q2 : q ≤ 1048575) {n : Nat} (hne : ∀ k j, k < n → j < n → k ≠ j → X j - X k ≠ 0) : ∀ m j, m ≤ n → n - m ≤ j → j < n → evF (uL X Y n m) (X j) = dd (fy X Y n) (seg X 0 (n - m)) (X j)
  | 0, j, _, h1, h2 => by omega
  | m + 1, j, hm, h1, h2 => by
    obtain ⟨i, hi⟩ : ∃ i, n - 1 - m = i := ⟨_, rfl⟩
    have hin : i < n := by omega
    have hd : Tt X Y (n - 1) i = dd (fy X Y n) (seg X 0 i) (X i) := by
      have := Tt_last X Y (n := n) (k := i) (n - 1 - i)
      rw [show i + (n - 1 - i) = n - 1 from by omega] at this
      rw [this, Tt_dd X Y hP q2 hne i i (Nat.le_refl _) hin, Nat.sub_self]
    rw [uL, hi, linL, evF_lin, hd, show n - (m + 1) = i from by omega]
    by_cases e : j = i
    · subst e; grind
    · have ih := newton_ev hP q2 hne m j (by omega) (by omega) h2
      rw [ih, show n - m = i + 1 from by omega, seg_snoc X (Nat.zero_le i)]
      have hp : dd (fy X Y n) (seg X 0 i ++ [X i]) (X j) = dd (fy X Y n) (X i :: seg X 0 i) (X j) := by
        refine dd_perm hP q2 _ (List.perm_append_singleton _ _) ?_ _ ?_
        · have := seg_nodup X (a := 0) (b := i + 1) (by omega) hne
          rwa [seg_snoc X (Nat.zero_le i)] at this
        · have := seg_not X (a := 0) (b := i + 1) (k := j) (by omega) h2 (.inr (by omega)) hne
          rwa [seg_snoc X (Nat.zero_le i)] at this
      rw [hp]
      simp only [dd]
      have h3 := (iv_spec hP q2 (hne i j hin h2 (Ne.symm e))).1
      grind
theorem newton_val (hP : Prm q) (q2 : q ≤ 1048575) {n : Nat} (hne : ∀ k j, k < n → j < n → k ≠ j → X j - X k ≠ 0) {j : Nat} (hj : j < n) : evF (uL X Y n n) (X j) = Y j := by
  rw [newton_ev X Y hP q2 hne n j (Nat.le_refl _) (by omega) hj, Nat.sub_self, seg_nil]
  exact fy_eq X Y hne hj
/-- both lists are the same -/
theorem newton_lie (hP : Prm q) (q2 : q ≤ 1048575) {n : Nat} (hne : ∀ k j, k < n → j < n → k ≠ j → X j - X k ≠ 0) : uL X Y n n = outL X Y n n := by
  have hs : (seg X 0 n).length = n := by simp [seg]
  refine only_one hP q2 (seg_nodup X (a := 0) (b := n) (Nat.le_refl _) hne) (by rw [uL_len, hs]) (by rw [outL_len X Y n n (Nat.le_refl _), hs]) fun x hx => ?_
  obtain ⟨j, hj, rfl⟩ := List.mem_map.1 hx
  have hj' := List.mem_range'_1.1 hj
  rw [newton_val X Y hP q2 hne (by omega), out_ev X Y hP q2 n j (by omega) hne n (Nat.le_refl _), if_pos (by omega)]
end
end Go.Sx.Po

end
section
/- Values and interpolation: the program's calls are the document's. -/
set_option linter.unusedVariables false
set_option linter.unusedSimpArgs false
set_option linter.unusedSectionVars false
set_option maxRecDepth 100000
namespace Go.Sx.Po
open Go

theorem sameW_self (l : List (BitVec 64)) (hl : l.length < 4611686018427387904) : ref04_SameWords l l = some true := by
  unfold ref04_SameWords
  rw [if_neg (by simp)]
  exact same_go l.length _ _ hl (fun rec j hj => by simp only [ref04_SameWords_L1]; rw [if_pos (by omega), getI_some hj, bind_some, bind_some, if_neg (by simp), w64_nat (by omega)]) (fun rec => by simp only [ref04_SameWords_L1]; rw [if_neg (by omega)])
theorem coef_same (root : W2) (s : TScheme) : ∃ r, poly_Coefficients root s = some r ∧ ref04_Coefficients root s = some r ∧ r.1.length < 4611686018427387904 := by
  unfold poly_Coefficients ref04_Coefficients
  rcases valid_eq s with ⟨e1, e2⟩ | ⟨e1, e2, d, t, p, q, g, h⟩
  · rw [e1, e2]; exact ⟨_, rfl, rfl, by simp⟩
  · have ht := h.t8
    rw [e1, e2, bind_some, bind_some]
    simp only [Bool.not_true, cond_false]
    rw [secret_eq h, rsecret_eq h, bind_some]
    exact ⟨_, rfl, rfl, by rw [List.length_map, cfs_len]; omega⟩
theorem check_same (s : TScheme) : ∃ r, poly_Check s = some r ∧ ref04_Check s = some r := by
  unfold poly_Check ref04_Check
  rcases valid_eq s with ⟨e1, e2⟩ | ⟨e1, e2, _⟩ <;> rw [e1, e2] <;> exact ⟨_, rfl, rfl⟩
/-! values -/
theorem max_lt (Q : BitVec 64) : ∀ (l : List (BitVec 64)) (a : BitVec 64), (l.foldl mxU a < Q) ↔ (a < Q ∧ ∀ x ∈ l, x < Q)
  | [], a => by simp
  | b :: l, a => by
    rw [List.foldl_cons, max_lt Q l]
    have : mxU a b < Q ↔ (a < Q ∧ b < Q) := by
      unfold mxU
      split
      · rename_i h; rw [BitVec.lt_def] at *; constructor
        · intro h2; rw [BitVec.lt_def]; exact ⟨by omega, h2⟩
        · intro h2; exact h2.2
      · rename_i h; rw [BitVec.lt_def] at *; constructor
        · intro h2; rw [BitVec.lt_def]; exact ⟨h2, by omega⟩
        · intro h2; exact h2.1
    rw [this]
    constructor
    · rintro ⟨⟨h1, h2⟩, h3⟩; exact ⟨h1, fun x hx => by rcases List.mem_cons.1 hx with rfl | hx; exact h2; exact h3 x hx⟩
    · rintro ⟨h1, h2⟩; exact ⟨⟨h1, h2 b (by simp)⟩, fun x hx => h2 x (by simp [hx])⟩
theorem max_eq (l : List (BitVec 64)) (hl : l.length < 4611686018427387904) (h0 : 1 ≤ l.length) : ∃ m, slices_Max_6ac0 l = some m ∧ ∀ Q, m < Q ↔ ∀ x ∈ l, x < Q := by
  refine ⟨l.foldl mxU l[0], ?_, fun Q => ?_⟩
  · unfold slices_Max_6ac0
    rw [if_neg (by omega), show (0 : Int) = ((0 : Nat) : Int) from rfl, getI_some (by omega), bind_some]
    refine fix_go _ (fun j x => x = ((l.take (j + 1)).foldl mxU l[0], ((j + 1 : Nat) : Int))) (l.length - 1) _ (by omega) ?_ ?_ ?_
    · have : l.take 1 = [l[0]] := by
        rw [show (1 : Nat) = 0 + 1 from rfl, take_snoc l 0 (by omega)]; simp
      rw [this]; simp [mxU]
    · rintro j _ hj rfl
      refine ⟨_, rfl, fun rec => ?_⟩
      simp only [slices_Max_6ac0_L1]
      rw [if_pos (by omega), getI_some (by omega), bind_some, w64_nat (by omega), take_snoc l (j + 1) (by omega), List.foldl_append]; rfl
    · rintro _ rfl rec
      simp only [slices_Max_6ac0_L1]
      rw [if_neg (by omega), List.take_of_length_le (by omega)]
  · rw [max_lt]
    exact ⟨fun h => h.2, fun h => ⟨h _ (List.getElem_mem (by omega)), h⟩⟩
theorem polynomial_eq (s : TScheme) (l : List (BitVec 64)) (hl : l.length < 4611686018427387904) (he : (l.length : Int) = w64 (s.Degree + 1)) : ref04_Polynomial s l = some (l.all fun x => decide (x < s.Group.Q)) := by
  unfold ref04_Polynomial
  rw [if_neg (by simpa using he)]
  have := fix_range l.length (ref04_Polynomial_L1 s l) (fun j (_ : Unit) => (j : Int)) (fun j nx u => bif decide (l.getD j 0#64 < s.Group.Q) then nx u else some false) (fun _ => some true)
    (fun rec j hj _ => by
      have e : l.getD j 0#64 = l[j] := by rw [List.getD_eq_getElem?_getD, List.getElem?_eq_getElem hj]; rfl
      simp only [ref04_Polynomial_L1]
      rw [if_pos (by omega), getI_some hj, bind_some, e, w64_nat (by omega)]
      by_cases h : s.Group.Q ≤ l[j]
      · rw [if_pos h, decide_eq_false (by rw [BitVec.lt_def]; rw [BitVec.le_def] at h; omega)]; rfl
      · rw [if_neg h, decide_eq_true (by rw [BitVec.lt_def]; rw [BitVec.le_def] at h; omega)]; rfl)
    (fun rec _ => by simp only [ref04_Polynomial_L1]; rw [if_neg (by omega)]) (f := FUEL) (fuel_lt (by omega)) ()
  rw [show ((0 : Nat) : Int) = 0 from rfl] at this
  rw [this, all_itL _ (some true) (some false) _ _ (fun a _ nx s => rfl), range_all l (fun x => decide (x < s.Group.Q)) 0#64]
  cases l.all _ <;> rfl
theorem words_nat {q : Nat} (hq : q < 18446744073709551616) (l : List (BitVec 64)) (h : ∀ x ∈ l, x < bn q) : ∃ ln : List Nat, l = ln.map bn ∧ ∀ c ∈ ln, c < q := by
  refine ⟨l.map (·.toNat), ?_, ?_⟩
  · rw [List.map_map]
    conv => lhs; rw [← List.map_id l]
    apply List.map_congr_left
    intro x _; simp [bn]
  · intro c hc
    obtain ⟨x, hx, rfl⟩ := List.mem_map.1 hc
    have := h x hx
    rwa [BitVec.lt_def, bn_nat hq] at this
section
variable {s : TScheme} {d t p q g : Nat}
/-- the value of right coefficients at a right number -/
theorem value_val (h : Vld s d t p q g) (e1 : poly_valid s = some true) (ln : List Nat) (hl : ∀ c ∈ ln, c < q) (hlen : ln.length = t + 1) {x : Nat} (hx : x < q) : poly_Value s (ln.map bn) (bn x) = some (bn (evN ln x % q), 0) := by
  obtain ⟨q1, q2⟩ := h.qb
  have ht := h.t8
  obtain ⟨m, m1, m2⟩ := max_eq (ln.map bn) (by simp; omega) (by simp; omega)
  have hm : m < bn q := (m2 _).2 fun x hx => by
    obtain ⟨c, hc, rfl⟩ := List.mem_map.1 hx
    exact (bn_lt (by have := hl c hc; omega) (by omega)).2 (hl c hc)
  unfold poly_Value poly_Value_J1
  rw [e1, bind_some]
  simp only [Bool.not_true, cond_false]
  rw [if_neg (by rw [h.deg, w64_id (by omega) (by omega), List.length_map]; omega), m1, bind_some, h.grp]
  simp only
  rw [if_neg (by rw [BitVec.le_def]; rw [BitVec.lt_def] at hm; omega), decide_eq_false (by rw [bn_le (by omega) (by omega)]; omega), cond_false, at_eq q1 q2 hx ln hl (by omega), bind_some]
end
theorem value_same (s : TScheme) (l : List (BitVec 64)) (x : BitVec 64) (hl : l.length < 4611686018427387904) : ∃ r, poly_Value s l x = some r ∧ ref04_Value s l x = some r := by
  unfold poly_Value ref04_Value poly_Value_J1 ref04_Value_J1
  rcases valid_eq s with ⟨e1, e2⟩ | ⟨e1, e2, d, t, p, q, g, h⟩
  · rw [e1, e2]; exact ⟨_, rfl, rfl⟩
  · obtain ⟨q1, q2⟩ := h.qb
    have ht := h.t8
    rw [e1, e2, bind_some, bind_some]
    simp only [Bool.not_true, cond_false]
    by_cases hlen : (l.length : Int) = w64 (s.Degree + 1)
    · have hlt : (l.length : Int) = t + 1 := by rw [hlen, h.deg, w64_id (by omega) (by omega)]
      obtain ⟨m, m1, m2⟩ := max_eq l hl (by omega)
      rw [if_neg (by simpa using hlen), m1, bind_some, polynomial_eq s l hl hlen, bind_some]
      by_cases hall : ∀ y ∈ l, y < s.Group.Q
      · have ha : (l.all fun x => decide (x < s.Group.Q)) = true := List.all_eq_true.2 fun y hy => decide_eq_true (hall y hy)
        have hm := (m2 s.Group.Q).2 hall
        rw [ha, if_neg (by rw [BitVec.le_def]; rw [BitVec.lt_def] at hm; omega)]
        simp only [Bool.not_true, cond_false]
        by_cases hx : s.Group.Q ≤ x
        · rw [decide_eq_true hx]; exact ⟨_, rfl, rfl⟩
        · rw [decide_eq_false hx, cond_false, cond_false]
          rw [h.grp] at hall hx ⊢
          simp only at hall hx ⊢
          obtain ⟨ln, rfl, h2⟩ := words_nat (by omega) l hall
          have hx2 : x.toNat < q := by rw [BitVec.le_def, bn_nat (by omega)] at hx; omega
          rw [← bn_toNat x, at_eq q1 q2 hx2 ln h2 (by simp at hl; exact hl), value_of_eq q1 q2 hx2 ln h2 (by simp at hl; exact hl)]
          exact ⟨_, rfl, rfl⟩
      · have ha : (l.all fun x => decide (x < s.Group.Q)) = false := by
          rw [Bool.eq_false_iff]; intro e; exact hall fun y hy => of_decide_eq_true (List.all_eq_true.1 e y hy)
        have hm : ¬ m < s.Group.Q := fun e => hall ((m2 _).1 e)
        rw [ha, if_pos (by rw [BitVec.le_def]; rw [BitVec.lt_def] at hm; omega)]
        exact ⟨_, rfl, rfl⟩
    · rw [if_pos (by simpa using hlen)]
      unfold ref04_Polynomial
      rw [if_pos (by simpa using hlen)]
      exact ⟨_, rfl, rfl⟩
/-! interpolation -/
/-- whether points are right -/
def rtB (Q : BitVec 64) (l : List TPoint) : Bool := (l.all fun x => decide (x.X < Q) && decide (x.Y < Q)) && dstB l
theorem right_eq (Q : BitVec 64) (l : List TPoint) (hl : l.length < 4611686018427387904) : ref04_Right Q l = some (rtB Q l) := by
  have inner : ∀ (j : Nat) (hj : j < l.length) (rec2 : Int → Option Bool), fixN (ref04_Right_L3 l (j : Int) rec2) FUEL 0 = bif ((l.take j).any fun x => decide (x.X = l[j].X)) then some false else rec2 ((j + 1 : Nat) : Int) := by
    intro j hj rec2
    have := fix_range j (ref04_Right_L3 l (j : Int) rec2) (fun k (_ : Unit) => (k : Int)) (fun k nx u => bif !decide ((l.getD k default).X = l[j].X) then nx u else some false) (fun _ => rec2 ((j + 1 : Nat) : Int))
      (fun rec k hk _ => by
        have hk' : k < l.length := by omega
        have e : l.getD k default = l[k] := by rw [List.getD_eq_getElem?_getD, List.getElem?_eq_getElem hk']; rfl
        simp only [ref04_Right_L3]
        rw [if_pos (by omega), getI_some hk', bind_some, getI_some hj, bind_some, e, w64_nat (by omega)]
        by_cases hx : l[k].X = l[j].X
        · rw [if_pos hx, decide_eq_true hx]; rfl
        · rw [if_neg hx, decide_eq_false hx]; rfl)
      (fun rec _ => by simp only [ref04_Right_L3]; rw [if_neg (by omega), w64_nat (by omega)]) (f := FUEL) (fuel_lt (by omega)) ()
    rw [show ((0 : Nat) : Int) = 0 from rfl] at this
    rw [this, all_itL _ (rec2 ((j + 1 : Nat) : Int)) (some false) _ _ (fun a _ nx s => rfl)]
    have e : ((List.range j).all fun k => !decide ((l.getD k default).X = l[j].X)) = !((l.take j).any fun x => decide (x.X = l[j].X)) := by
      rw [Bool.eq_iff_iff, List.all_eq_true, Bool.not_eq_true', List.any_eq_false]
      constructor
      · intro h1 x hx
        rw [List.mem_take_iff_getElem] at hx
        obtain ⟨i, hi, rfl⟩ := hx
        have hi' : i < l.length := by omega
        have := h1 i (List.mem_range.2 (by omega))
        rw [List.getD_eq_getElem?_getD, List.getElem?_eq_getElem hi'] at this
        simpa using this
      · intro h1 k hk
        have hk1 := List.mem_range.1 hk
        have hk' : k < l.length := by omega
        have := h1 l[k] (by rw [List.mem_take_iff_getElem]; exact ⟨k, by omega, rfl⟩)
        rw [List.getD_eq_getElem?_getD, List.getElem?_eq_getElem hk']
        simpa using this
    rw [e]
    cases ((l.take j).any fun x => decide (x.X = l[j].X)) <;> rfl
  unfold ref04_Right rtB
  have := fix_range l.length (ref04_Right_L1 Q l) (fun j (_ : Unit) => (j : Int)) (fun j nx u => bif (decide ((l.getD j default).X < Q) && decide ((l.getD j default).Y < Q)) && !(((l.map (·.X)).take j).any fun x => decide (some x = (l.map (·.X))[j]?)) then nx u else some false) (fun _ => some true)
    (fun rec j hj _ => by
      have e : l.getD j default = l[j] := by rw [List.getD_eq_getElem?_getD, List.getElem?_eq_getElem hj]; rfl
      have e2 : (((l.map (·.X)).take j).any fun x => decide (some x = (l.map (·.X))[j]?)) = ((l.take j).any fun x => decide (x.X = l[j].X)) := by
        rw [← List.map_take, List.any_map]; congr 1; funext x; simp [hj]
      simp only [ref04_Right_L1, ref04_Right_J2]
      rw [if_pos (by omega), getI_some hj, bind_some, e, e2]
      by_cases a1 : Q ≤ l[j].X
      · rw [if_pos a1]; have : ¬ l[j].X < Q := by rw [BitVec.lt_def]; rw [BitVec.le_def] at a1; omega
        simp [this]
      · rw [if_neg a1, bind_some]; have b1 : l[j].X < Q := by rw [BitVec.lt_def]; rw [BitVec.le_def] at a1; omega
        by_cases a2 : Q ≤ l[j].Y
        · rw [decide_eq_true a2]; have : ¬ l[j].Y < Q := by rw [BitVec.lt_def]; rw [BitVec.le_def] at a2; omega
          simp [this]
        · rw [decide_eq_false a2, cond_false, inner j hj]; have b2 : l[j].Y < Q := by rw [BitVec.lt_def]; rw [BitVec.le_def] at a2; omega
          rw [decide_eq_true b1, decide_eq_true b2]
          cases ((l.take j).any fun x => decide (x.X = l[j].X)) <;> rfl)
    (fun rec _ => by simp only [ref04_Right_L1]; rw [if_neg (by omega)]) (f := FUEL) (fuel_lt (by omega)) ()
  rw [show ((0 : Nat) : Int) = 0 from rfl] at this
  rw [this, all_itL _ (some true) (some false) _ _ (fun a _ nx s => rfl), all_and, range_all l (fun x => decide (x.X < Q) && decide (x.Y < Q)) default]
  have h2 := nodup_range (l.map (·.X))
  rw [List.length_map] at h2
  rw [h2]; unfold dstB
  cases decide (l.map (·.X)).Nodup <;> cases l.all (fun x => decide (x.X < Q) && decide (x.Y < Q)) <;> rfl
theorem bounds_any (s : TScheme) (l : List TPoint) (hl : l.length < 4611686018427387904) : slices_ContainsFunc_9e39_poly_Interpolate_1 l s = some (!(l.all fun x => decide (x.X < s.Group.Q) && decide (x.Y < s.Group.Q))) := by
  unfold slices_ContainsFunc_9e39_poly_Interpolate_1 slices_IndexFunc_7a5d_poly_Interpolate_1
  have hp : ∀ x : TPoint, poly_Interpolate_1 x s = some (!(decide (x.X < s.Group.Q) && decide (x.Y < s.Group.Q))) := by
    intro x
    unfold poly_Interpolate_1
    by_cases h : s.Group.Q ≤ x.X
    · rw [if_pos h, decide_eq_false (by rw [BitVec.lt_def]; rw [BitVec.le_def] at h; omega)]; rfl
    · rw [if_neg h, decide_eq_true (show x.X < s.Group.Q by rw [BitVec.lt_def]; rw [BitVec.le_def] at h; omega)]
      by_cases h2 : s.Group.Q ≤ x.Y
      · rw [decide_eq_true h2, decide_eq_false (by rw [BitVec.lt_def]; rw [BitVec.le_def] at h2; omega)]; rfl
      · rw [decide_eq_false h2, decide_eq_true (by rw [BitVec.lt_def]; rw [BitVec.le_def] at h2; omega)]; rfl
  rw [find_go l hl (fun x => !(decide (x.X < s.Group.Q) && decide (x.Y < s.Group.Q))) _ (fun rec j hj => by
    simp only [slices_IndexFunc_7a5d_poly_Interpolate_1_L1]
    rw [if_pos (by omega), getI_some hj, bind_some, hp, bind_some, w64_nat (by omega)]) (fun rec => by
    simp only [slices_IndexFunc_7a5d_poly_Interpolate_1_L1]; rw [if_neg (by omega)]), bind_some, idx_any]
  congr 1
  induction l with
  | nil => rfl
  | cons a l ih => rw [List.any_cons, List.all_cons, ih (by simp at hl; omega)]; cases (decide (a.X < s.Group.Q) && decide (a.Y < s.Group.Q)) <;> simp
/-- the points as numbers modulo q -/
def Yb (q : Nat) [NeZero q] (l : List TPoint) (k : Nat) : Fin q := fi q (l.getD k default).Y.toNat
theorem right_facts {q : Nat} [NeZero q] (hq : q ≤ 1048575) {l : List TPoint} (h : rtB (bn q) l = true) :
    (∀ k (hk : k < l.length), l[k].X = fe (Xa q l k)) ∧ (∀ k (hk : k < l.length), l[k].Y = fe (Yb q l k)) ∧ (∀ k j, k < l.length → j < l.length → k ≠ j → Xa q l j - Xa q l k ≠ 0) := by
  simp only [rtB, Bool.and_eq_true] at h
  have hall : ∀ x ∈ l, x.X.toNat < q ∧ x.Y.toNat < q := by
    intro x hx
    have := List.all_eq_true.1 h.1 x hx
    simp only [Bool.and_eq_true, decide_eq_true_eq, BitVec.lt_def] at this
    rwa [bn_nat (by omega)] at this
  have gd : ∀ k (hk : k < l.length), l.getD k default = l[k] := fun k hk => by rw [List.getD_eq_getElem?_getD, List.getElem?_eq_getElem hk]; rfl
  refine ⟨fun k hk => ?_, fun k hk => ?_, fun k j hk hj hkj => ?_⟩
  · unfold Xa; rw [gd k hk, fe_fi (hall _ (List.getElem_mem hk)).1, bn_toNat]
  · unfold Yb; rw [gd k hk, fe_fi (hall _ (List.getElem_mem hk)).2, bn_toNat]
  · intro he
    have e1 : Xa q l k = Xa q l j := by grind
    unfold Xa at e1
    rw [gd k hk, gd j hj] at e1
    have e2 := fi_inj (hall _ (List.getElem_mem hk)).1 (hall _ (List.getElem_mem hj)).1 e1
    have e3 : l[k].X = l[j].X := BitVec.eq_of_toNat_eq e2
    have h3 := h.2
    unfold dstB at h3
    rw [decide_eq_true_eq, List.Nodup, List.pairwise_iff_getElem] at h3
    rcases Nat.lt_or_gt_of_ne hkj with hlt | hlt
    · exact h3 k j (by simpa using hk) (by simpa using hj) hlt (by simpa using e3)
    · exact h3 j k (by simpa using hj) (by simpa using hk) hlt (by simpa using e3.symm)
section
variable {s : TScheme} {d t p q g : Nat}
theorem interp_val [NeZero q] (h : Vld s d t p q g) (e1 : poly_valid s = some true) (l : List TPoint) (hl : l.length < 4611686018427387904) :
    poly_Interpolate s l = if l.length = t + 1 ∧ rtB (bn q) l = true then some ((uL (Xa q l) (Yb q l) (t + 1) (t + 1)).map fe, 0) else some ([], 2) := by
  obtain ⟨q1, q2⟩ := h.qb
  have ht := h.t8
  unfold poly_Interpolate
  rw [e1, bind_some]
  simp only [Bool.not_true, cond_false]
  by_cases hlen : (l.length : Int) = w64 (s.Degree + 1)
  · have hlt : l.length = t + 1 := by rw [h.deg, w64_id (by omega) (by omega)] at hlen; omega
    rw [if_neg (by simpa using hlen), bounds_any s l hl, bind_some]
    by_cases hb : (l.all fun x => decide (x.X < s.Group.Q) && decide (x.Y < s.Group.Q)) = true
    · rw [hb]
      simp only [Bool.not_true, cond_false]
      rw [distinct_eq l hl, bind_some]
      cases hd : dstB l with
      | false =>
        have : ¬ (l.length = t + 1 ∧ rtB (bn q) l = true) := fun e => by have := e.2; simp [rtB, hd] at this
        rw [if_neg this]; rfl
      | true =>
        have hr : rtB (bn q) l = true := by unfold rtB; rw [h.grp] at hb; simp only at hb; rw [hb, hd]; rfl
        obtain ⟨f1, f2, f3⟩ := right_facts q2 hr
        rw [if_pos ⟨hlt, hr⟩, Bool.not_true, newton_eq (Xa q l) (Yb q l) h l (t + 1) hlt (by omega) (by omega) f1 f2 (by rw [← hlt]; exact f3)]
    · have hb2 : (l.all fun x => decide (x.X < s.Group.Q) && decide (x.Y < s.Group.Q)) = false := by simpa using hb
      have : ¬ (l.length = t + 1 ∧ rtB (bn q) l = true) := fun e => by
        have := e.2
        rw [h.grp] at hb2; simp only at hb2
        unfold rtB at this; rw [hb2] at this; cases this
      rw [hb2, if_neg this]; rfl
  · have : ¬ (l.length = t + 1 ∧ rtB (bn q) l = true) := fun e => hlen (by rw [h.deg, w64_id (by omega) (by omega)]; omega)
    rw [if_pos (by simpa using hlen), if_neg this]; rfl
theorem rinterp_val [NeZero q] (h : Vld s d t p q g) (e2 : ref04_Valid s = some true) (l : List TPoint) (hl : l.length < 4611686018427387904) :
    ref04_Interpolate s l = if l.length = t + 1 ∧ rtB (bn q) l = true then some ((outL (Xa q l) (Yb q l) (t + 1) (t + 1)).map fe, 0) else some ([], 2) := by
  obtain ⟨q1, q2⟩ := h.qb
  have ht := h.t8
  unfold ref04_Interpolate ref04_Interpolate_J1
  rw [e2, bind_some]
  simp only [Bool.not_true, cond_false]
  by_cases hlen : (l.length : Int) = w64 (s.Degree + 1)
  · have hlt : l.length = t + 1 := by rw [h.deg, w64_id (by omega) (by omega)] at hlen; omega
    rw [if_neg (by simpa using hlen), right_eq _ l hl, bind_some, h.grp]
    simp only
    cases hr : rtB (bn q) l with
    | false => rw [if_neg (by simp)]; rfl
    | true =>
      obtain ⟨f1, f2, f3⟩ := right_facts q2 hr
      have := lie_eq (Xa q l) (Yb q l) h.ok.2.1.2 q2 l (by omega) f1 f2 f3
      rw [hlt] at this
      rw [if_pos ⟨hlt, rfl⟩, Bool.not_true, cond_false, this, bind_some]
  · have : ¬ (l.length = t + 1 ∧ rtB (bn q) l = true) := fun e => hlen (by rw [h.deg, w64_id (by omega) (by omega)]; omega)
    rw [if_pos (by simpa using hlen), if_neg this]; rfl
end
theorem interp_same (s : TScheme) (l : List TPoint) (hl : l.length < 4611686018427387904) : ∃ r, poly_Interpolate s l = some r ∧ ref04_Interpolate s l = some r ∧ r.1.length < 4611686018427387904 := by
  rcases valid_eq s with ⟨e1, e2⟩ | ⟨e1, e2, d, t, p, q, g, h⟩
  · refine ⟨([], 30), ?_, ?_, by simp⟩
    · unfold poly_Interpolate; rw [e1]; rfl
    · unfold ref04_Interpolate; rw [e2]; rfl
  · obtain ⟨q1, q2⟩ := h.qb
    have ht := h.t8
    haveI : NeZero q := ⟨by omega⟩
    rw [interp_val h e1 l hl, rinterp_val h e2 l hl]
    by_cases hc : l.length = t + 1 ∧ rtB (bn q) l = true
    · obtain ⟨f1, f2, f3⟩ := right_facts q2 hc.2
      rw [if_pos hc, if_pos hc, newton_lie (Xa q l) (Yb q l) h.ok.2.1.2 q2 (n := t + 1) (by rw [← hc.1]; exact f3)]
      exact ⟨_, rfl, rfl, by rw [List.length_map, outL_len _ _ _ _ (Nat.le_refl _)]; omega⟩
    · rw [if_neg hc, if_neg hc]; exact ⟨_, rfl, rfl, by simp⟩
end Go.Sx.Po

end
section
/- alive (layer 4): the chapter's examples hold. -/
set_option linter.unusedVariables false
set_option linter.unusedSimpArgs false
set_option maxRecDepth 100000
namespace Go.Sx
open Go

/-- law04_alive_J1 with what follows it left open -/
def aliveJ (f : Bool → Option Bool) (x1 : TScheme) (a4 : Bool) : Option (Bool) := (bif a4 then (some false) else Option.bind (poly_Seal (72057594037927936#64, 0#64) x1 [1] (144115188075855872#64, 0#64) 5#64) fun x5 => (Option.bind (poly_Secret (72057594037927936#64, 0#64) x1 0) fun x6 => (Option.bind (poly_Secret (72057594037927936#64, 0#64) x1 1) fun x7 => (Option.bind (poly_Open x1 x6.1 x5.1) fun x8 => (Option.bind (poly_Open x1 x7.1 x5.1) fun x9 => (Option.bind (law04_points x5.1 x5.2 [2#64, 5#64]) fun x18 => ((bif (!x18) then (f true) else (if x6.2 ≠ 0 then (f true) else (if x6.1.Share.X ≠ 1#64 then (f true) else (if x7.2 ≠ 0 then (f true) else (if x8.2 ≠ 0 then (f true) else (if x8.1 ≠ (144115188075855872#64, 0#64) then (f true) else (f (decide (x9.2 ≠ 6))))))))))))))))
def aliveA (f : Bool → Option Bool) : Option Bool := Option.bind (law04_small) fun x1 => (Option.bind (poly_Value x1 [3#64, 0#64, 2#64] 4#64) fun x2 => (Option.bind (poly_Interpolate x1 [(TPoint.mk 1#64 5#64), (TPoint.mk 4#64 2#64), (TPoint.mk 0#64 3#64)]) fun x3 => (Option.bind (poly_Check x1) fun x19 => ((if x19 ≠ 0 then (aliveJ f x1 true) else (if x2.2 ≠ 0 then (aliveJ f x1 true) else (if x2.1 ≠ 2#64 then (aliveJ f x1 true) else Option.bind (law04_words x3.1 x3.2 [3#64, 0#64, 2#64]) fun x20 => ((aliveJ f x1 (!x20))))))))))
theorem alive_of : law04_alive = aliveA law04_alive_J2 := by
  unfold law04_alive aliveA law04_alive_J1 aliveJ; rfl
theorem alive_go (f : Bool → Option Bool) : aliveA f = f false := by kernel_rfl
def aliveK : W2 := (72057594037927936#64, 0#64)
def aliveP : List TLabel := [⟨3, 0, drv aliveK (un8 32#8) 0#64⟩, ⟨4, 0, drv (drv aliveK (un8 31#8) 0#64) (un8 31#8) 0#64⟩]
theorem alive_full : poly_Full aliveK 2 = some (⟨2, [⟨1, 0, aliveK⟩]⟩, 0) := by kernel_rfl
theorem alive_sort : aliveP.mergeSort (fun a b => decide (a.Node ≤ b.Node)) = aliveP := List.mergeSort_of_pairwise (by decide +kernel)
theorem alive_pun : poly_Puncture ⟨2, [⟨1, 0, aliveK⟩]⟩ 1 = some (⟨2, aliveP⟩, 0) := by
  have : poly_Puncture ⟨2, [⟨1, 0, aliveK⟩]⟩ 1 = some (⟨2, aliveP.mergeSort (fun a b => decide (a.Node ≤ b.Node))⟩, 0) := by kernel_rfl
  rw [this, alive_sort]
def aliveB (f : TPunctured × Int) (q : TPunctured × Int) : Option Bool := Option.bind (poly_Evaluate q.1 1) fun x13 => (Option.bind (poly_Evaluate q.1 0) fun x14 => (Option.bind (poly_Evaluate f.1 0) fun x15 => (Option.bind (law04_nodes f.1 f.2 [1]) fun x16 => ((bif x16 then Option.bind (law04_nodes q.1 q.2 [3, 4]) fun x17 => ((bif x17 then (if x13.2 = 6 then (if x14.2 = 0 then (if x15.2 = 0 then (some (decide (x14.1 = x15.1))) else (some false)) else (some false)) else (some false)) else (some false))) else (some false))))))
theorem alive_B : aliveB (⟨2, [⟨1, 0, aliveK⟩]⟩, 0) (⟨2, aliveP⟩, 0) = some true := by decide +kernel
theorem alive4_eq : law04_alive = some true := by
  rw [alive_of, alive_go]
  unfold law04_alive_J2
  rw [cond_false, show ((72057594037927936#64, 0#64) : W2) = aliveK from rfl, alive_full, bind_some, alive_pun, bind_some]
  exact alive_B
end Go.Sx

end
section
/- Secrets and values, as numbers: for the outright laws. -/
set_option linter.unusedVariables false
set_option linter.unusedSimpArgs false
set_option linter.unusedSectionVars false
set_option maxRecDepth 100000
namespace Go.Sx.Po
open Go

theorem fe_inj {q : Nat} (q2 : q ≤ 1048575) {a b : Fin q} (h : fe a = fe b) : a = b := by
  have ha := a.isLt
  have hb := b.isLt
  unfold fe at h
  exact Fin.ext ((bn_inj (by omega) (by omega)).1 h)
theorem evN_evF {q : Nat} [NeZero q] (x : Fin q) : ∀ (l : List (Fin q)), fi q (evN (l.map Fin.val) x.val) = evF l x
  | [] => rfl
  | a :: l => by
    have ih := evN_evF x l
    rw [evF_cons, List.map_cons]
    show fi q (a.val + x.val * evN (l.map Fin.val) x.val) = _
    rw [fi_add, fi_mul, fi_self, fi_self, ih]
section
variable {s : TScheme} {d t p q g : Nat}
theorem value_fin [NeZero q] (h : Vld s d t p q g) (e1 : poly_valid s = some true) (l : List (Fin q)) (hlen : l.length = t + 1) (x : Fin q) : poly_Value s (l.map fe) (fe x) = some (fe (evF l x), 0) := by
  have h1 := value_val h e1 (l.map Fin.val) (fun c hc => by obtain ⟨a, _, rfl⟩ := List.mem_map.1 hc; exact a.isLt) (by simp [hlen]) x.isLt
  have e3 : (l.map Fin.val).map bn = l.map (fe (q := q)) := by rw [List.map_map]; rfl
  rw [e3] at h1
  show poly_Value s (l.map fe) (bn x.val) = _
  rw [h1, ← evN_evF]
  rfl
/-- a list of right coefficients -/
theorem words_fin [NeZero q] (h : Vld s d t p q g) {l : List (BitVec 64)} (hl : ∀ x ∈ l, x < bn q) : ∃ lf : List (Fin q), l = lf.map fe := by
  obtain ⟨q1, q2⟩ := h.qb
  refine ⟨l.map fun x => fi q x.toNat, ?_⟩
  rw [List.map_map]
  refine (List.map_id l).symm.trans (List.map_congr_left fun x hx => ?_)
  have := hl x hx
  rw [BitVec.lt_def, bn_nat (by omega)] at this
  show x = fe (fi q x.toNat)
  rw [fe_fi this, bn_toNat]
theorem value_out [NeZero q] (h : Vld s d t p q g) (e1 : poly_valid s = some true) (l : List (Fin q)) (hlen : l.length = t + 1) {x : BitVec 64} (hx : ¬ x < bn q) : poly_Value s (l.map fe) x = some (0#64, 2) := by
  obtain ⟨q1, q2⟩ := h.qb
  have ht := h.t8
  obtain ⟨m, m1, m2⟩ := max_eq (l.map (fe (q := q))) (by simp; omega) (by simp; omega)
  have hm : m < bn q := (m2 _).2 fun x hx => by
    obtain ⟨c, hc, rfl⟩ := List.mem_map.1 hx
    exact (bn_lt (by have := c.isLt; omega) (by omega)).2 c.isLt
  unfold poly_Value poly_Value_J1
  rw [e1, bind_some]
  simp only [Bool.not_true, cond_false]
  rw [if_neg (by rw [h.deg, w64_id (by omega) (by omega), List.length_map]; omega), m1, bind_some, h.grp]
  simp only
  rw [if_neg (by rw [BitVec.le_def]; rw [BitVec.lt_def] at hm; omega), decide_eq_true (by rw [BitVec.le_def]; rw [BitVec.lt_def] at hx; omega), cond_true]
/-- the secret polynomial -/
def cfF (root : W2) (q t : Nat) [NeZero q] : List (Fin q) := (cfs root q t).map (fi q)
theorem cfF_len (root : W2) [NeZero q] : (cfF root q t).length = t + 1 := by rw [cfF, List.length_map, cfs_len]
theorem cfF_fe (h : Vld s d t p q g) (root : W2) [NeZero q] : (cfF root q t).map fe = (cfs root q t).map bn := by
  rw [cfF, List.map_map]
  exact List.map_congr_left fun c hc => fe_fi (cfs_lt (by have := h.qb; omega) c hc)
theorem coef_fin [NeZero q] (h : Vld s d t p q g) (e1 : poly_valid s = some true) (root : W2) : poly_Coefficients root s = some ((cfF root q t).map fe, 0) := by
  unfold poly_Coefficients
  rw [e1, bind_some]
  simp only [Bool.not_true, cond_false]
  rw [secret_eq h, bind_some, cfF_fe h]
theorem fN_fin [NeZero q] (root : W2) (x : Nat) (hx : x < q) : fN root q t x = (evF (cfF root q t) (fi q x)).val := by
  rw [← evN_evF]
  unfold fN cfF
  rw [List.map_map, fi_lt hx, fi_val]
  congr 2
  have : ∀ c ∈ cfs root q t, (Fin.val ∘ fi q) c = c := fun c hc => fi_lt (cfs_lt (by omega) c hc)
  exact ((List.map_congr_left this).trans (List.map_id _)).symm
theorem secret_fin [NeZero q] (h : Vld s d t p q g) (e1 : poly_valid s = some true) (root : W2) {u : Nat} (hu : u < 2 ^ d) : poly_Secret root s (u : Int) = some (⟨(u : Int), [], ⟨bn (u + 1), fe (evF (cfF root q t) (fi q (u + 1)))⟩⟩, 0) := by
  have h64 := pow_le64 h.d6
  obtain ⟨q1, q2⟩ := h.qb
  have hb := h.big
  have ht := h.t8
  have hcl : (cfs root q t).length = t + 1 := cfs_len root
  unfold poly_Secret poly_Secret_J1
  rw [e1, bind_some]
  simp only [Bool.not_true, cond_false]
  rw [if_neg (by omega), h.depth, shG_nat, bind_some, shl1 h.d6, decide_eq_false (by omega), cond_false, secret_eq h, bind_some, h.grp, wd_nat, show (1#64) = bn 1 from rfl, bn_add]
  simp only
  rw [at_eq q1 q2 (by omega) _ (cfs_lt (by omega)) (by omega), bind_some]
  have := fN_fin (t := t) root (u + 1) (show u + 1 < q by omega)
  unfold fN at this
  rw [this]
theorem secret_bad (h : Vld s d t p q g) (e1 : poly_valid s = some true) (root : W2) {u : Int} (hu : ¬ (0 ≤ u ∧ u < ((2 ^ d : Nat) : Int))) : ∃ c, poly_Secret root s u = some (c, 2) := by
  have h64 := pow_le64 h.d6
  unfold poly_Secret poly_Secret_J1
  rw [e1, bind_some]
  simp only [Bool.not_true, cond_false]
  by_cases hn : u < 0
  · rw [if_pos hn]; exact ⟨_, rfl⟩
  · rw [if_neg hn, h.depth, shG_nat, bind_some, shl1 h.d6, decide_eq_true (by omega)]; exact ⟨_, rfl⟩
end
theorem words_self (l : List (BitVec 64)) (hl : l.length < 4611686018427387904) : law04_words l 0 l = some true := by
  unfold law04_words; rw [if_pos rfl, sameW_self _ hl, bind_some]
end Go.Sx.Po

end
section
/- How the arguments' types are opened. Printed by rows2.py. -/
set_option linter.unusedVariables false
set_option linter.unusedSimpArgs false
set_option maxRecDepth 100000
namespace Go.Sx
open Go Go.RowKit Go.Proofs
theorem op_TGroup {H : Type} {enc : TypeId × Value → H} {W : World} {fuel : Nat} {cs : List Value} {x : DataW H × List MemPlace} (h : Tr enc Try.prog W fuel 26 cs x) : ∃ (m : TGroup), cs = TGroup.cs m := by
  obtain ⟨xs, n, rfl, rfl, hl, hx, hf⟩ := DataW.trod_struct Try.underlying26 h
  replace hl : cs.length = 3 := hl.trans (by kernel_rfl)
  replace hx : xs.length = 3 := hx
  obtain ⟨y0, e0⟩ := some_at (i := 0) hx rfl
  have h0 : Tr enc Try.prog W n 24 ((cs.drop 0).take 1) y0 := fld hf (i := 0) rfl rfl rfl (by kernel_rfl) e0
  obtain ⟨m0, c0⟩ := op_u64 Try.underlying24 h0
  obtain ⟨y1, e1⟩ := some_at (i := 1) hx rfl
  have h1 : Tr enc Try.prog W n 24 ((cs.drop 1).take 1) y1 := fld hf (i := 1) rfl rfl rfl (by kernel_rfl) e1
  obtain ⟨m1, c1⟩ := op_u64 Try.underlying24 h1
  obtain ⟨y2, e2⟩ := some_at (i := 2) hx rfl
  have h2 : Tr enc Try.prog W n 24 ((cs.drop 2).take 1) y2 := fld hf (i := 2) rfl rfl rfl (by kernel_rfl) e2
  obtain ⟨m2, c2⟩ := op_u64 Try.underlying24 h2
  have q := cat_end hl
  replace q := cat_step (o := 2) (k := 1) c2 q
  replace q := cat_step (o := 1) (k := 1) c1 q
  replace q := cat_step (o := 0) (k := 1) c0 q
  exact ⟨⟨m0, m1, m2⟩, q⟩
def TScheme.ok (x : TScheme) : Prop := I64 x.Depth ∧ I64 x.Degree
theorem op_TScheme {H : Type} {enc : TypeId × Value → H} {W : World} {fuel : Nat} {cs : List Value} {x : DataW H × List MemPlace} (h : Tr enc Try.prog W fuel 28 cs x) : ∃ (m : TScheme), cs = TScheme.cs m ∧ TScheme.ok m := by
  obtain ⟨xs, n, rfl, rfl, hl, hx, hf⟩ := DataW.trod_struct Try.underlying28 h
  replace hl : cs.length = 6 := hl.trans (by kernel_rfl)
  replace hx : xs.length = 4 := hx
  obtain ⟨y0, e0⟩ := some_at (i := 0) hx rfl
  have h0 : Tr enc Try.prog W n 5 ((cs.drop 0).take 1) y0 := fld hf (i := 0) rfl rfl rfl (by kernel_rfl) e0
  obtain ⟨m0, c0⟩ := op_u8 Try.underlying5 h0
  obtain ⟨y1, e1⟩ := some_at (i := 1) hx rfl
  have h1 : Tr enc Try.prog W n 3 ((cs.drop 1).take 1) y1 := fld hf (i := 1) rfl rfl rfl (by kernel_rfl) e1
  obtain ⟨m1, c1, k1⟩ := op_i64 Try.underlying3 h1
  obtain ⟨y2, e2⟩ := some_at (i := 2) hx rfl
  have h2 : Tr enc Try.prog W n 3 ((cs.drop 2).take 1) y2 := fld hf (i := 2) rfl rfl rfl (by kernel_rfl) e2
  obtain ⟨m2, c2, k2⟩ := op_i64 Try.underlying3 h2
  obtain ⟨y3, e3⟩ := some_at (i := 3) hx rfl
  have h3 : Tr enc Try.prog W n 26 ((cs.drop 3).take 3) y3 := fld hf (i := 3) rfl rfl rfl (by kernel_rfl) e3
  obtain ⟨m3, c3⟩ := op_TGroup h3
  have q := cat_end hl
  replace q := cat_step (o := 3) (k := 3) c3 q
  replace q := cat_step (o := 2) (k := 1) c2 q
  replace q := cat_step (o := 1) (k := 1) c1 q
  replace q := cat_step (o := 0) (k := 1) c0 q
  exact ⟨⟨m0, m1, m2, m3⟩, q, ⟨k1, k2⟩⟩
end Go.Sx

end
section
/- PolyOne on the mirrors: there is one polynomial through the points. -/
set_option linter.unusedVariables false
set_option linter.unusedSimpArgs false
set_option maxRecDepth 100000
namespace Go.Sx
open Go Po

theorem law04_PolyOne_ok (p0 : TScheme) (p1 p2 : List (BitVec 64)) (i0 : TScheme.ok p0) (i1 : p1.length * 8 ≤ 140737488351232) (i2 : p2.length * 8 ≤ 140737488351232) : law04_PolyOne p0 p1 p2 = some true := by
  unfold law04_PolyOne law04_PolyOne_J1
  rw [alive4_eq, bind_some]
  rcases valid_eq p0 with ⟨e1, e2⟩ | ⟨e1, e2, d, t, p, q, g, h⟩
  · rw [e2, bind_some]; rfl
  · obtain ⟨q1, q2⟩ := h.qb
    haveI : NeZero q := ⟨by omega⟩
    have ht := h.t8
    have hP := h.ok.2.1.2
    have hlen : w64 (p0.Degree + 1) = ((t + 1 : Nat) : Int) := by rw [h.deg, w64_nat (by omega)]
    rw [e2, bind_some]
    simp only [Bool.not_true, cond_false]
    by_cases hl : (p1.length : Int) = w64 (p0.Degree + 1)
    · have hl2 : p1.length = t + 1 := by rw [hlen] at hl; omega
      rw [polynomial_eq p0 p1 (by omega) hl, bind_some, h.grp]
      simp only
      by_cases ha : ∀ x ∈ p1, x < bn q
      · rw [show (p1.all fun x => decide (x < bn q)) = true from List.all_eq_true.2 fun y hy => decide_eq_true (ha y hy)]
        simp only [Bool.not_true, cond_false]
        rw [hlen]
        by_cases hx : p2.length = t + 1
        · rw [decide_eq_false (by rw [hx]; simp), cond_false]
          obtain ⟨lf, rfl⟩ := words_fin h ha
          rw [List.length_map] at hl2
          -- the points
          have hval : ∀ (x : BitVec 64), ∃ y e, poly_Value p0 (lf.map fe) x = some (y, e) ∧ (decide (e = 0) = decide (x < bn q)) ∧ (x < bn q → y = fe (evF lf (fi q x.toNat))) := by
            intro x
            by_cases hxq : x < bn q
            · have hxn : x.toNat < q := by rw [BitVec.lt_def, bn_nat (by omega)] at hxq; exact hxq
              have hxe : x = fe (fi q x.toNat) := by rw [fe_fi hxn, bn_toNat]
              refine ⟨_, 0, ?_, ?_, fun _ => rfl⟩
              · conv => lhs; rw [hxe]
                exact value_fin h e1 lf hl2 _
              · rw [decide_eq_true hxq]; rfl
            · exact ⟨_, 2, value_out h e1 lf hl2 hxq, by rw [decide_eq_false hxq]; rfl, fun e => absurd e hxq⟩
          let pt : BitVec 64 → TPoint := fun x => ⟨x, (Classical.choose (hval x))⟩
          have hpt : ∀ x, ∃ e, poly_Value p0 (lf.map fe) x = some ((pt x).Y, e) ∧ (decide (e = 0) = decide (x < bn q)) ∧ (x < bn q → (pt x).Y = fe (evF lf (fi q x.toNat))) := fun x => Classical.choose_spec (hval x)
          have hptX : ∀ x, (pt x).X = x := fun x => rfl
          clear_value pt
          refine fix_go _ (fun j s => s = ((p2.take j).map pt, (j : Int))) p2.length _ (by omega) rfl ?_ ?_
          · rintro j _ hj rfl
            refine ⟨_, rfl, fun rec => ?_⟩
            obtain ⟨e, v1, v2, v3⟩ := hpt p2[j]
            simp only [law04_PolyOne_L2]
            rw [if_pos (by omega), getI_some hj, bind_some, v1, bind_some, bind_some, h.grp]
            simp only
            rw [v2, bne_self_eq_false, cond_false, bind_some, appG_some (by simp; omega), bind_some, w64_nat (by omega), take_snoc p2 j hj, List.map_append]
            have : pt p2[j] = ⟨p2[j], (pt p2[j]).Y⟩ := by
              have := hptX p2[j]
              cases hh : pt p2[j] with
              | mk X Y => rw [hh] at this; simp only at this; rw [this]
            rw [List.map_singleton, ← this]
          · rintro _ rfl rec
            simp only [law04_PolyOne_L2]
            rw [if_neg (by omega), List.take_length, h.grp]
            simp only
            have hml : (p2.map pt).length = t + 1 := by rw [List.length_map, hx]
            rw [right_eq _ _ (by omega), bind_some]
            by_cases hr : rtB (bn q) (p2.map pt) = true
            · obtain ⟨hX, hY, hne⟩ := right_facts q2 hr
              rw [hr, interp_val h e1 _ (by omega), if_pos ⟨hml, hr⟩, bind_some]
              simp only [Bool.not_true, cond_false, cond_true]
              have huniq : uL (Xa q (p2.map pt)) (Yb q (p2.map pt)) (t + 1) (t + 1) = lf := by
                have hne' : ∀ k j, k < t + 1 → j < t + 1 → k ≠ j → Xa q (p2.map pt) j - Xa q (p2.map pt) k ≠ 0 := fun k j hk hj h3 => hne k j (by omega) (by omega) h3
                have hs : (seg (Xa q (p2.map pt)) 0 (t + 1)).length = t + 1 := by simp [seg]
                refine only_one hP q2 (seg_nodup _ (a := 0) (b := t + 1) (Nat.le_refl _) hne') (by rw [uL_len, hs]) (by rw [hl2, hs]) fun x hxx => ?_
                obtain ⟨j, hj, rfl⟩ := List.mem_map.1 hxx
                have hj' := List.mem_range'_1.1 hj
                have hjl : j < (p2.map pt).length := by omega
                have hj2 : j < p2.length := by omega
                rw [newton_val _ _ hP q2 hne' (by omega)]
                have a1 := hX j hjl
                have a2 := hY j hjl
                rw [List.getElem_map] at a1 a2
                rw [hptX] at a1
                obtain ⟨e, v1, v2, v3⟩ := hpt p2[j]
                have hlt : p2[j] < bn q := by rw [a1]; exact (bn_lt (by have := (Xa q (p2.map pt) j).isLt; omega) (by omega)).2 (Xa q (p2.map pt) j).isLt
                have := v3 hlt
                rw [a2] at this
                have e3 : fi q p2[j].toNat = Xa q (p2.map pt) j := by
                  rw [a1]; unfold fe; rw [bn_nat (by have := (Xa q (p2.map pt) j).isLt; omega), fi_self]
                rw [e3] at this
                exact fe_inj q2 this
              rw [huniq, words_self _ (by rw [List.length_map]; omega), bind_some]
            · rw [Bool.not_eq_true] at hr; rw [hr]; rfl
        · rw [decide_eq_true (by omega)]; rfl
      · rw [show (p1.all fun x => decide (x < bn q)) = false from by
          rw [Bool.eq_false_iff]; intro e; exact ha fun y hy => of_decide_eq_true (List.all_eq_true.1 e y hy)]
        rfl
    · have : ref04_Polynomial p0 p1 = some false := by unfold ref04_Polynomial; rw [if_pos (by simpa using hl)]
      rw [this]; rfl
end Go.Sx

end
