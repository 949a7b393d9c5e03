/- The document's cipher on the mirrors: Decrypt is decr. -/
import Derived.Test.YtkdghilkigojgaaPcM
import Derived.Test.YtkdghilkigojgaaPl
set_option linter.unusedVariables false
set_option linter.unusedSimpArgs false
namespace Go.Sx.Po.Cy
open Go

theorem bytes_step (n : Nat) (x : BitVec 64) (l : List (BitVec 8)) (k : Nat) (hk : k < 8) (hl : l.length = k) : fixN (ref02_Bytes_L1 8) (n + 1) (x, l, (k : Int)) = fixN (ref02_Bytes_L1 8) n (x >>> 8, x.setWidth 8 :: l, ((k + 1 : Nat) : Int)) := by
  rw [fix_step]
  simp only [ref02_Bytes_L1]
  rw [if_pos (by omega), remU256, bind_some, appG_some (by simp; omega), bind_some, quo256, bind_some, rem256, w64_id (by omega) (by omega)]
  rfl
theorem bytes_eq (x : BitVec 64) : ref02_Bytes x 8 = some (w8 x) := by
  unfold ref02_Bytes
  rw [show FUEL = 18446744073709551607 + 9 from rfl, show (0 : Int) = ((0 : Nat) : Int) from rfl]
  rw [bytes_step _ _ _ 0 (by decide) rfl, bytes_step _ _ _ 1 (by decide) rfl, bytes_step _ _ _ 2 (by decide) rfl, bytes_step _ _ _ 3 (by decide) rfl, bytes_step _ _ _ 4 (by decide) rfl, bytes_step _ _ _ 5 (by decide) rfl, bytes_step _ _ _ 6 (by decide) rfl, bytes_step _ _ _ 7 (by decide) rfl, fix_step]
  simp only [ref02_Bytes_L1]
  rw [if_neg (by omega)]
  simp only [← BitVec.shiftRight_add]
  rfl
/-- the number in some bytes -/
def valB (l : List (BitVec 8)) : BitVec 64 := l.foldl (fun n c => 256#64 * n + c.setWidth 64) 0#64
theorem valB_snoc (l : List (BitVec 8)) (c : BitVec 8) : valB (l ++ [c]) = 256#64 * valB l + c.setWidth 64 := by simp [valB]
theorem value_loop (l : List (BitVec 8)) (hx : l.length ≤ 1000) : ∀ (m i fuel : Nat), l.length - i = m → i ≤ l.length → m < fuel → fixN (ref02_Value_L1 l) fuel (valB (l.take i), (i : Int)) = some (valB l)
  | m, i, 0, _, _, hf => by omega
  | 0, i, fuel + 1, hm, hi, hf => by
    rw [fix_step]; simp only [ref02_Value_L1]; rw [if_neg (by omega), List.take_of_length_le (by omega)]
  | m + 1, i, fuel + 1, hm, hi, hf => by
    rw [fix_step]; simp only [ref02_Value_L1]
    rw [if_pos (by omega), getI_some (by omega), bind_some, ← valB_snoc, ← take_snoc _ _ (by omega), w64_id (by omega) (by omega)]
    exact value_loop l hx m (i + 1) fuel (by omega) (by omega) (by omega)
theorem value_eq (l : List (BitVec 8)) (h : l.length ≤ 1000) : ref02_Value l = some (valB l) := value_loop l h _ 0 FUEL rfl (by omega) (fuel_lt (by omega))
theorem shl_or (a : BitVec 64) (c : BitVec 8) : (a <<< 8) ||| (c.setWidth 64) = 256#64 * a + c.setWidth 64 := by
  have e1 : 256#64 * a = a <<< 8 := by
    apply BitVec.eq_of_toNat_eq
    rw [BitVec.toNat_mul, BitVec.toNat_shiftLeft, Nat.shiftLeft_eq, Nat.mul_comm]; rfl
  rw [e1]
  symm
  apply BitVec.add_eq_or_of_and_eq_zero
  apply BitVec.eq_of_getLsbD_eq
  intro j hj
  rw [BitVec.getLsbD_and, BitVec.getLsbD_shiftLeft, BitVec.getLsbD_setWidth, BitVec.getLsbD_zero]
  by_cases h : j < 8
  · simp [h]
  · simp [BitVec.getLsbD_of_ge c j (by omega)]
theorem byt_wd (x : BitVec 64) (k : Nat) : (byt x k).setWidth 64 = wd (bt x k) := by
  rw [wd_bt]
  apply BitVec.eq_of_toNat_eq
  unfold byt
  rw [BitVec.toNat_setWidth, BitVec.toNat_setWidth, BitVec.toNat_and]
  have : (255#64 : BitVec 64).toNat = 2 ^ 8 - 1 := rfl
  rw [this, Nat.and_two_pow_sub_one_eq_mod]
  omega
theorem val_st (x : BitVec 64) (k : Nat) (hk : k < 8) : 256#64 * (x >>> (64 - 8 * k)) + (byt x k).setWidth 64 = x >>> (64 - 8 * (k + 1)) := by
  rw [← shl_or, byt_wd, shl_step x k hk]
theorem val_w8 (x : BitVec 64) : valB (w8 x) = x := by
  have h0 := val_st x 0 (by decide)
  have h1 := val_st x 1 (by decide)
  have h2 := val_st x 2 (by decide)
  have h3 := val_st x 3 (by decide)
  have h4 := val_st x 4 (by decide)
  have h5 := val_st x 5 (by decide)
  have h6 := val_st x 6 (by decide)
  have h7 := val_st x 7 (by decide)
  have hz : x >>> 64 = 0#64 := by apply BitVec.eq_of_toNat_eq; rw [BitVec.toNat_ushiftRight, Nat.shiftRight_eq_div_pow, Nat.div_eq_of_lt x.isLt]; rfl
  simp only [Nat.mul_zero, Nat.sub_zero, hz] at h0
  simp only [valB, w8, List.foldl_cons, List.foldl_nil, h0, h1, h2, h3, h4, h5, h6, h7]
  simp
theorem words_eq (p : W2) : ref02_words p = some p := by
  unfold ref02_words
  rw [show ((kby p).take 8).drop 0 = w8 p.1 from rfl, show ((kby p).take 16).drop 8 = w8 p.2 from rfl, value_eq _ (by rw [w8_len]; omega), bind_some, value_eq _ (by rw [w8_len]; omega), bind_some, val_w8, val_w8]
theorem rotr_eq (x : BitVec 64) (n : Nat) (h1 : 1 ≤ n) (h2 : n ≤ 63) : ref02_rotr x (n : Int) = some (rotl x (64 - n)) := by
  unfold ref02_rotr rotl
  have e1 : shG (n : Int) = some n := by unfold shG; rw [if_pos (by omega)]; rfl
  have e2 : shG (w64 (64 - (n : Int))) = some (64 - n) := by rw [w64_id (by omega) (by omega)]; unfold shG; rw [if_pos (by omega)]; congr 1; omega
  rw [e1, bind_some, e2, bind_some, BitVec.or_comm, show 64 - (64 - n) = n from by omega]
theorem rotl_eq (x : BitVec 64) (n : Nat) (h1 : 1 ≤ n) (h2 : n ≤ 63) : ref02_rotl x (n : Int) = some (rotl x n) := by
  unfold ref02_rotl
  rw [w64_id (by omega) (by omega), show (64 : Int) - (n : Int) = ((64 - n : Nat) : Int) from by omega, rotr_eq x (64 - n) (by omega) (by omega), bind_some, show 64 - (64 - n) = n from by omega]
def rks (k : W2) (n : Nat) : List (BitVec 64) := (List.range n).map fun i => (ks k i).2
theorem rks_succ (k : W2) (n : Nat) : rks k (n + 1) = rks k n ++ [(ks k n).2] := by simp [rks, List.range_succ]
theorem rks_len (k : W2) (n : Nat) : (rks k n).length = n := by simp [rks]
theorem rk_loop (k : W2) : ∀ (m i f : Nat), i + m = 31 → m < f → fixN ref02_roundKeys_L1 f ((ks k i).1, (ks k i).2, rks k (i + 1), (i : Int)) = some (rks k 32)
  | m, i, 0, _, h => by omega
  | 0, i, f + 1, hi, _ => by
    obtain rfl : i = 31 := by omega
    rw [fix_step]; simp only [ref02_roundKeys_L1]; rw [if_neg (by omega)]
  | m + 1, i, f + 1, hi, hf => by
    rw [fix_step]; simp only [ref02_roundKeys_L1]
    have r1 := rotr_eq (ks k i).1 8 (by omega) (by omega)
    have r2 := rotl_eq (ks k i).2 3 (by omega) (by omega)
    rw [show ((8 : Nat) : Int) = 8 from rfl] at r1
    rw [show ((3 : Nat) : Int) = 3 from rfl] at r2
    rw [if_pos (by omega), r1, bind_some, r2, bind_some, appG_some (by rw [rks_len]; simp; omega), bind_some, w64_id (by omega) (by omega)]
    have e1 : (((ks k i).2 + rotl (ks k i).1 (64 - 8)) ^^^ wd (i : Int)) = (ks k (i + 1)).1 := by simp [ks, rnd, BitVec.add_comm]
    have e2 : rotl (ks k i).2 3 ^^^ (ks k (i + 1)).1 = (ks k (i + 1)).2 := by simp [ks, rnd]
    rw [e1, e2, ← rks_succ]
    exact rk_loop k m (i + 1) f (by omega) (by omega)
theorem rk_eq (k : W2) : ref02_roundKeys k = some (rks k 32) := by
  unfold ref02_roundKeys
  rw [words_eq, bind_some]
  exact rk_loop k 31 0 FUEL (by omega) (fuel_lt (by omega))
theorem rkey2_loop (l : List (BitVec 8)) (hl : l.length = 16) : ∀ (m i fuel : Nat) (p : W2), 16 - i = m → i ≤ 16 → m < fuel → (kby p).take i = l.take i → fixN (ref02_key_L1 l) fuel ((i : Int), p) = some (ofB l)
  | m, i, 0, p, _, _, hf, _ => by omega
  | 0, i, fuel + 1, p, hm, hi, hf, hp => by
    rw [fix_step]; simp only [ref02_key_L1, ref02_key_J2]; rw [if_neg (by omega)]
    obtain rfl : i = 16 := by omega
    simp only [cond_false]
    congr 1
    apply kby_inj
    rw [kby_ofB (by omega), ← hp, List.take_of_length_le (by simp [kby])]
  | m + 1, i, fuel + 1, p, hm, hi, hf, hp => by
    rw [fix_step]; simp only [ref02_key_L1, ref02_key_J2]
    have hk : i < (kby p).length := by rw [kby_len]; omega
    rw [if_pos (by omega), decide_eq_true (by omega)]
    simp only [cond_true]
    rw [getI_some (by omega), bind_some, getI_some hk, bind_some]
    have hks : kset p (i : Int) (l[i]'(by omega)) = some (ofB ((kby p).set i (l[i]'(by omega)))) := by unfold kset; rw [if_pos (by omega)]; rfl
    rw [hks, bind_some, w64_id (by omega) (by omega)]
    refine rkey2_loop l hl m (i + 1) fuel _ (by omega) (by omega) (by omega) ?_
    have hq := (kset_eq hks).2
    rw [Int.toNat_natCast] at hq
    rw [hq, take_snoc _ i (by rw [List.length_set]; exact hk), take_snoc l i (by omega), List.take_set_of_le (Nat.le_refl i), hp]
    simp
theorem block_eq (x y : BitVec 64) : ref02_block x y = some (x, y) := by
  unfold ref02_block ref02_key
  rw [bytes_eq, bind_some, bytes_eq, bind_some, appG_some (by simp [w8]), bind_some]
  have := rkey2_loop (w8 x ++ w8 y) (by simp [w8]) _ 0 FUEL k0 rfl (by omega) (fuel_lt (by omega)) (by simp)
  rw [show ((0 : Nat) : Int) = 0 from rfl] at this
  rw [this, bind_some, show w8 x ++ w8 y = kby (x, y) ++ [] from rfl, ofB_kby]
theorem decTo_st (k b : W2) (j : Nat) (h : j < 32) : decTo k b j = rndB (decTo k b (j + 1)) (ks k j).2 := by
  unfold decTo
  rw [show 32 - j = 32 - (j + 1) + 1 from by omega, List.range_succ, List.foldl_append, List.foldl_cons, List.foldl_nil, show 31 - (32 - (j + 1)) = j from by omega]
theorem dec_loop (k b : W2) : ∀ (i f : Nat), i ≤ 32 → i < f → fixN (ref02_Decrypt_L1 (rks k 32)) f ((decTo k b i).1, (decTo k b i).2, (i : Int) - 1) = some (decr k b)
  | i, 0, _, h => by omega
  | 0, f + 1, _, _ => by
    rw [fix_step]; simp only [ref02_Decrypt_L1]; rw [if_neg (by omega), block_eq, bind_some]; rfl
  | i + 1, f + 1, hi, hf => by
    rw [fix_step]; simp only [ref02_Decrypt_L1]
    have r1 := rotr_eq ((decTo k b (i + 1)).2 ^^^ (decTo k b (i + 1)).1) 3 (by omega) (by omega)
    have r2 := rotl_eq (((decTo k b (i + 1)).1 ^^^ (ks k i).2) - rotl ((decTo k b (i + 1)).2 ^^^ (decTo k b (i + 1)).1) (64 - 3)) 8 (by omega) (by omega)
    rw [show ((8 : Nat) : Int) = 8 from rfl] at r2
    rw [show ((3 : Nat) : Int) = 3 from rfl] at r1
    have hg : getI (rks k 32) (i : Int) = some (ks k i).2 := by
      rw [getI_some (by rw [rks_len]; omega)]; simp [rks]
    rw [if_pos (by omega), r1, bind_some, show ((i + 1 : Nat) : Int) - 1 = (i : Int) from by omega, hg, bind_some, r2, bind_some, w64_id (by omega) (by omega)]
    have ih := dec_loop k b i f (by omega) (by omega)
    rw [decTo_st k b i (by omega)] at ih
    unfold rndB at ih
    rw [BitVec.xor_comm (decTo k b (i + 1)).2]
    exact ih
theorem rdecr_eq (k b : W2) : ref02_Decrypt k b = some (decr k b) := by
  unfold ref02_Decrypt
  rw [words_eq, bind_some, rk_eq, bind_some]
  exact dec_loop k b 32 FUEL (by omega) (fuel_lt (by omega))
end Go.Sx.Po.Cy
