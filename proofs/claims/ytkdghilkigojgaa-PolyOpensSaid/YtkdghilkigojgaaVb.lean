/- Bytes and words, plainly; and loops of n rounds. -/
import Derived.Test.YtkdghilkigojgaaPaM
import Derived.Test.YtkdghilkigojgaaFy
set_option linter.unusedVariables false
set_option linter.unusedSimpArgs false
set_option maxRecDepth 100000
namespace Go.Sx.Po
open Go

theorem fix_go {τ R : Type} (F : (τ → Option R) → τ → Option R) (I : Nat → τ → Prop) (n : Nat) (r : Option R) (hn : n < 9223372036854775808) {s : τ} (h0 : I 0 s) (hs : ∀ j s, j < n → I j s → ∃ s', I (j + 1) s' ∧ ∀ rec, F rec s = rec s') (he : ∀ s, I n s → ∀ rec, F rec s = r) : fixN F FUEL s = r :=
  fix_run F I n r hs he n 0 FUEL s (by omega) (fuel_lt hn) h0
def valB (l : List (BitVec 8)) : BitVec 64 := l.foldl (fun n c => 256#64 * n + c.setWidth 64) 0#64
theorem shl_or (a : BitVec 64) (c : BitVec 8) : (a <<< 8) ||| (c.setWidth 64) = 256#64 * a + c.setWidth 64 := by
  have e1 : 256#64 * a = a <<< 8 := by
    apply BitVec.eq_of_toNat_eq
    rw [BitVec.toNat_mul, BitVec.toNat_shiftLeft, Nat.shiftLeft_eq, Nat.mul_comm]; rfl
  rw [e1]
  symm
  apply BitVec.add_eq_or_of_and_eq_zero
  apply BitVec.eq_of_getLsbD_eq
  intro j hj
  rw [BitVec.getLsbD_and, BitVec.getLsbD_shiftLeft, BitVec.getLsbD_setWidth, BitVec.getLsbD_zero]
  by_cases h : j < 8
  · simp [h]
  · simp [BitVec.getLsbD_of_ge c j (by omega)]
theorem valB_snoc (l : List (BitVec 8)) (c : BitVec 8) : valB (l ++ [c]) = 256#64 * valB l + c.setWidth 64 := by simp [valB]
theorem sh_step (x : BitVec 64) (s : Nat) : 256#64 * (x >>> (s + 8)) + ((x >>> s).setWidth 8).setWidth 64 = x >>> s := by
  rw [← shl_or]
  apply BitVec.eq_of_getLsbD_eq
  intro i hi
  simp only [BitVec.getLsbD_or, BitVec.getLsbD_shiftLeft, BitVec.getLsbD_ushiftRight, BitVec.getLsbD_setWidth]
  by_cases h : i < 8
  · simp [h, hi]
  · simp [h, hi, show s + 8 + (i - 8) = s + i from by omega]
theorem valB_w8 (x : BitVec 64) : valB (w8 x) = x := by
  have h0 : valB [] = x >>> 64 := by
    apply BitVec.eq_of_getLsbD_eq
    intro i hi
    rw [BitVec.getLsbD_ushiftRight, BitVec.getLsbD_of_ge x _ (by omega)]; simp [valB]
  have st : ∀ (l : List (BitVec 8)) (i : Nat), i ≤ 7 → valB l = x >>> (56 - 8 * i + 8) → valB (l ++ [byt x i]) = x >>> (56 - 8 * i) := fun l i hi hl => by
    rw [valB_snoc, hl]; exact sh_step x (56 - 8 * i)
  have h1 := st [] 0 (by omega) h0
  have h2 := st _ 1 (by omega) h1
  have h3 := st _ 2 (by omega) h2
  have h4 := st _ 3 (by omega) h3
  have h5 := st _ 4 (by omega) h4
  have h6 := st _ 5 (by omega) h5
  have h7 := st _ 6 (by omega) h6
  have h8 := st _ 7 (by omega) h7
  rw [show 56 - 8 * 7 = 0 from rfl, BitVec.ushiftRight_zero] at h8
  exact h8
theorem value_loop (l : List (BitVec 8)) (hx : l.length ≤ 1000) : ∀ (m i fuel : Nat), l.length - i = m → i ≤ l.length → m < fuel → fixN (ref02_Value_L1 l) fuel (valB (l.take i), (i : Int)) = some (valB l)
  | m, i, 0, _, _, hf => by omega
  | 0, i, fuel + 1, hm, hi, hf => by
    rw [fix_step]; simp only [ref02_Value_L1]; rw [if_neg (by omega), List.take_of_length_le (by omega)]
  | m + 1, i, fuel + 1, hm, hi, hf => by
    rw [fix_step]; simp only [ref02_Value_L1]
    rw [if_pos (by omega), getI_some (by omega), bind_some, ← valB_snoc, ← take_snoc _ _ (by omega), w64_id (by omega) (by omega)]
    exact value_loop l hx m (i + 1) fuel (by omega) (by omega) (by omega)
theorem value_eq (l : List (BitVec 8)) (h : l.length ≤ 1000) : ref02_Value l = some (valB l) := value_loop l h _ 0 FUEL rfl (by omega) (fuel_lt (by omega))
theorem kby_w8 (k : W2) : kby k = w8 k.1 ++ w8 k.2 := rfl
theorem words_aux (k : W2) (A B : List (BitVec 8)) (hA : A.length = 8) (hB : B.length = 8) (hk : kby k = A ++ B) : cipher_wordsOf k = some ⟨valB A, valB B⟩ := by
  unfold cipher_wordsOf
  refine fix_go _ (fun j x => x = ((j : Int), valB (A.take j), valB (B.take j))) 8 _ (by omega) (by simp [valB]) ?_ ?_
  · rintro j _ hj rfl
    refine ⟨_, rfl, fun rec => ?_⟩
    have h1 : j < A.length := by omega
    have h2 : j < B.length := by omega
    have g1 : getI (kby k) (j : Int) = some A[j] := by rw [hk, getI_some (by rw [List.length_append]; omega), List.getElem_append_left h1]
    have g2 : getI (kby k) ((8 + j : Nat) : Int) = some B[j] := by
      rw [hk, getI_some (by rw [List.length_append]; omega), List.getElem_append_right (by omega)]
      congr 2; omega
    simp only [cipher_wordsOf_L1]
    rw [if_pos (by omega), show shG (un 8#64) = some 8 from by decide, bind_some, g1, bind_some, bind_some, w64_id (n := 8 + (j : Int)) (by omega) (by omega), show (8 : Int) + (j : Int) = ((8 + j : Nat) : Int) from by omega, g2, bind_some, shl_or, shl_or, ← valB_snoc, ← valB_snoc, ← take_snoc _ _ h1, ← take_snoc _ _ h2, w64_nat (by omega)]
  · rintro _ rfl rec
    simp only [cipher_wordsOf_L1]
    rw [if_neg (by omega), List.take_of_length_le (by omega), List.take_of_length_le (by omega)]
theorem words_eq (k : W2) : cipher_wordsOf k = some ⟨k.1, k.2⟩ := by
  rw [words_aux k _ _ (w8_len _) (w8_len _) (kby_w8 k), valB_w8, valB_w8]
theorem number_eq (k : W2) (n m : BitVec 64) (hm : m ≠ 0#64) : cipher_Number k n m = some ((drv k (un8 3#8) n).1 % m) := by
  unfold cipher_Number
  rw [if_neg hm, words_eq, bind_some]
  simp only
  unfold remU
  rw [if_neg hm]; rfl
theorem rnumber_eq (k : W2) (n m : BitVec 64) (hm : m ≠ 0#64) : ref02_Number k n m = some ((drv k (un8 3#8) n).1 % m) := by
  unfold ref02_Number
  rw [if_neg hm, List.drop_zero, kby_w8, List.take_left' (w8_len _), value_eq _ (by rw [w8_len]; omega), bind_some, valB_w8]
  unfold remU
  rw [if_neg hm]; rfl
end Go.Sx.Po
