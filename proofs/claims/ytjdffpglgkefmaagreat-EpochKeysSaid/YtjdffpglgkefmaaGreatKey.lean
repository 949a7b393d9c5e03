/- Plain facts: keys as two words, and their bytes. -/
import Derived.Test.YtjdffpglgkefmaaGreatSxU
set_option linter.unusedVariables false
set_option linter.unusedSimpArgs false
namespace Go.Sx
open Go Go.RowKit

/-- a key: two words -/
abbrev W2 := BitVec 64 × BitVec 64
/-- byte i of a word, the highest first -/
def bt (x : BitVec 64) (i : Nat) : Int := un (x >>> (56 - 8 * i)) % 256
/-- the cells of a key -/
def kb (p : W2) : List Value := [.int .u8 (bt p.1 0), .int .u8 (bt p.1 1), .int .u8 (bt p.1 2), .int .u8 (bt p.1 3), .int .u8 (bt p.1 4), .int .u8 (bt p.1 5), .int .u8 (bt p.1 6), .int .u8 (bt p.1 7),
  .int .u8 (bt p.2 0), .int .u8 (bt p.2 1), .int .u8 (bt p.2 2), .int .u8 (bt p.2 3), .int .u8 (bt p.2 4), .int .u8 (bt p.2 5), .int .u8 (bt p.2 6), .int .u8 (bt p.2 7)]
abbrev kv (p : W2) : Value := .agg (kb p).toArray
theorem kb_length (p : W2) : (kb p).length = 16 := rfl
theorem bt_nonneg (x : BitVec 64) (i : Nat) : 0 ≤ bt x i := by unfold bt; omega
theorem bt_le (x : BitVec 64) (i : Nat) : bt x i ≤ 255 := by unfold bt; omega

theorem un_and255 (a : BitVec 64) : un (a &&& 255#64) = un a % 256 := by
  unfold un
  rw [BitVec.toNat_and]
  have : (255#64 : BitVec 64).toNat = 2 ^ 8 - 1 := rfl
  rw [this, Nat.and_two_pow_sub_one_eq_mod]
  omega
theorem wd_bt (x : BitVec 64) (i : Nat) : wd (bt x i) = (x >>> (56 - 8 * i)) &&& 255#64 := by
  unfold bt; rw [← un_and255, wd_un]
theorem bit255 (j : Nat) : (255#64 : BitVec 64).getLsbD j = decide (j < 8) := by
  rcases Nat.lt_or_ge j 64 with h | h
  · have : ∀ j : Fin 64, (255#64 : BitVec 64).getLsbD j.1 = decide (j.1 < 8) := by decide
    exact this ⟨j, h⟩
  · rw [BitVec.getLsbD_of_ge _ _ h]; simp; omega
/-- the words are put together byte by byte -/
theorem shl_step (x : BitVec 64) (k : Nat) (hk : k < 8) : (x >>> (64 - 8 * k)) <<< 8 ||| wd (bt x k) = x >>> (64 - 8 * (k + 1)) := by
  rw [wd_bt]
  apply BitVec.eq_of_getLsbD_eq
  intro j hj
  simp only [BitVec.getLsbD_or, BitVec.getLsbD_shiftLeft, BitVec.getLsbD_ushiftRight, BitVec.getLsbD_and, bit255]
  by_cases h : j < 8
  · have e : 56 - 8 * k + j = 64 - 8 * (k + 1) + j := by omega
    simp [h, e]
  · have e : 64 - 8 * k + (j - 8) = 64 - 8 * (k + 1) + j := by omega
    simp [h, hj, e]
theorem shr_64 (x : BitVec 64) : x >>> 64 = 0#64 := BitVec.ushiftRight_eq_zero (Nat.le_refl _)
theorem un_0 : un 0#64 = 0 := rfl
theorem kb_lo (p : W2) (k : Nat) (h : k < 8) : (kb p)[k]? = some (.int .u8 (bt p.1 k)) := by
  match k, h with
  | 0, _ | 1, _ | 2, _ | 3, _ | 4, _ | 5, _ | 6, _ | 7, _ => rfl
theorem kb_hi (p : W2) (k : Nat) (h : k < 8) : (kb p)[8 + k]? = some (.int .u8 (bt p.2 k)) := by
  match k, h with
  | 0, _ | 1, _ | 2, _ | 3, _ | 4, _ | 5, _ | 6, _ | 7, _ => rfl
theorem kb_ixlo (p : W2) (k : Nat) (h : k < 8) : (kb p)[0 + (k : Int).toNat * 1]? = some (.int .u8 (bt p.1 k)) := by simpa using kb_lo p k h
theorem kb_ixhi (p : W2) (k : Nat) (h : k < 8) : (kb p)[0 + (8 + (k : Int)).toNat * 1]? = some (.int .u8 (bt p.2 k)) := by
  have e : (8 + (k : Int)).toNat = 8 + k := by omega
  rw [Nat.zero_add, Nat.mul_one, e]; exact kb_hi p k h
theorem bt_inj {x y : BitVec 64} (h : ∀ i, i < 8 → bt x i = bt y i) : x = y := by
  have key : ∀ k, k ≤ 8 → x >>> (64 - 8 * k) = y >>> (64 - 8 * k) := by
    intro k
    induction k with
    | zero => intro _; simp [shr_64]
    | succ k ih =>
      intro hk
      rw [← shl_step x k (by omega), ← shl_step y k (by omega), ih (by omega), h k (by omega)]
  simpa using key 8 (Nat.le_refl _)
theorem kb_inj {p q : W2} (h : kb p = kb q) : p = q := by
  have e : ∀ k : Nat, (kb p)[k]? = (kb q)[k]? := fun k => by rw [h]
  refine Prod.ext (bt_inj fun i hi => ?_) (bt_inj fun i hi => ?_)
  · have := e i; rw [kb_lo p i hi, kb_lo q i hi] at this; simpa using this
  · have := e (8 + i); rw [kb_hi p i hi, kb_hi q i hi] at this; simpa using this
/-- a key while it is laid byte by byte: the first k bytes of either half are there -/
def kpart (p : W2) (k : Nat) : List Value := (List.range 16).map fun i => if i < 8 then (if i < k then .int .u8 (bt p.1 i) else .int .u8 0) else (if i - 8 < k then .int .u8 (bt p.2 (i - 8)) else .int .u8 0)
theorem kpart_0 (p : W2) : kpart p 0 = List.replicate 16 (.int .u8 0) := by simp [kpart, List.range, List.range.loop]
theorem kpart_8 (p : W2) : kpart p 8 = kb p := rfl
theorem kpart_length (p : W2) (k : Nat) : (kpart p k).length = 16 := by simp [kpart]
theorem kpart_step (p : W2) (k : Nat) (h : k < 8) : ((kpart p k).set k (.int .u8 (bt p.1 k))).set (8 + k) (.int .u8 (bt p.2 k)) = kpart p (k + 1) := by
  match k, h with
  | 0, _ | 1, _ | 2, _ | 3, _ | 4, _ | 5, _ | 6, _ | 7, _ => rfl
theorem kpart_set (p : W2) (k : Nat) (h : k < 8) : ((kpart p k).set (0 + (k : Int).toNat * 1) (.int .u8 (un (p.1 >>> (56 - 8 * (k : Int)).toNat) % 256))).set (0 + (8 + (k : Int)).toNat * 1) (.int .u8 (un (p.2 >>> (56 - 8 * (k : Int)).toNat) % 256)) = kpart p (k + 1) := by
  have e1 : 0 + (k : Int).toNat * 1 = k := by omega
  have e2 : 0 + (8 + (k : Int)).toNat * 1 = 8 + k := by omega
  have e3 : (56 - 8 * (k : Int)).toNat = 56 - 8 * k := by omega
  rw [e1, e2, e3]; exact kpart_step p k h
end Go.Sx
