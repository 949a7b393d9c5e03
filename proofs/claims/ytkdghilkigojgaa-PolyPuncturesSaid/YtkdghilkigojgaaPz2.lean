/- merged by mg.py: Byp Pop Poq Pos Ip Iq Ir Iv -/
import Derived.Test.YtkdghilkigojgaaPcM
import Derived.Test.YtkdghilkigojgaaPl
import Derived.Test.YtkdghilkigojgaaPz1
import Derived.Test.YtkdghilkigojgaaPdM
section
/- The document's cipher on the mirrors: Decrypt is decr. -/
set_option linter.unusedVariables false
set_option linter.unusedSimpArgs false
namespace Go.Sx.Po.Cy
open Go

theorem bytes_step (n : Nat) (x : BitVec 64) (l : List (BitVec 8)) (k : Nat) (hk : k < 8) (hl : l.length = k) : fixN (ref02_Bytes_L1 8) (n + 1) (x, l, (k : Int)) = fixN (ref02_Bytes_L1 8) n (x >>> 8, x.setWidth 8 :: l, ((k + 1 : Nat) : Int)) := by
  rw [fix_step]
  simp only [ref02_Bytes_L1]
  rw [if_pos (by omega), remU256, bind_some, appG_some (by simp; omega), bind_some, quo256, bind_some, rem256, w64_id (by omega) (by omega)]
  rfl
theorem bytes_eq (x : BitVec 64) : ref02_Bytes x 8 = some (w8 x) := by
  unfold ref02_Bytes
  rw [show FUEL = 18446744073709551607 + 9 from rfl, show (0 : Int) = ((0 : Nat) : Int) from rfl]
  rw [bytes_step _ _ _ 0 (by decide) rfl, bytes_step _ _ _ 1 (by decide) rfl, bytes_step _ _ _ 2 (by decide) rfl, bytes_step _ _ _ 3 (by decide) rfl, bytes_step _ _ _ 4 (by decide) rfl, bytes_step _ _ _ 5 (by decide) rfl, bytes_step _ _ _ 6 (by decide) rfl, bytes_step _ _ _ 7 (by decide) rfl, fix_step]
  simp only [ref02_Bytes_L1]
  rw [if_neg (by omega)]
  simp only [← BitVec.shiftRight_add]
  rfl
/-- the number in some bytes -/
def valB (l : List (BitVec 8)) : BitVec 64 := l.foldl (fun n c => 256#64 * n + c.setWidth 64) 0#64
theorem valB_snoc (l : List (BitVec 8)) (c : BitVec 8) : valB (l ++ [c]) = 256#64 * valB l + c.setWidth 64 := by simp [valB]
theorem value_loop (l : List (BitVec 8)) (hx : l.length ≤ 1000) : ∀ (m i fuel : Nat), l.length - i = m → i ≤ l.length → m < fuel → fixN (ref02_Value_L1 l) fuel (valB (l.take i), (i : Int)) = some (valB l)
  | m, i, 0, _, _, hf => by omega
  | 0, i, fuel + 1, hm, hi, hf => by
    rw [fix_step]; simp only [ref02_Value_L1]; rw [if_neg (by omega), List.take_of_length_le (by omega)]
  | m + 1, i, fuel + 1, hm, hi, hf => by
    rw [fix_step]; simp only [ref02_Value_L1]
    rw [if_pos (by omega), getI_some (by omega), bind_some, ← valB_snoc, ← take_snoc _ _ (by omega), w64_id (by omega) (by omega)]
    exact value_loop l hx m (i + 1) fuel (by omega) (by omega) (by omega)
theorem value_eq (l : List (BitVec 8)) (h : l.length ≤ 1000) : ref02_Value l = some (valB l) := value_loop l h _ 0 FUEL rfl (by omega) (fuel_lt (by omega))
theorem shl_or (a : BitVec 64) (c : BitVec 8) : (a <<< 8) ||| (c.setWidth 64) = 256#64 * a + c.setWidth 64 := by
  have e1 : 256#64 * a = a <<< 8 := by
    apply BitVec.eq_of_toNat_eq
    rw [BitVec.toNat_mul, BitVec.toNat_shiftLeft, Nat.shiftLeft_eq, Nat.mul_comm]; rfl
  rw [e1]
  symm
  apply BitVec.add_eq_or_of_and_eq_zero
  apply BitVec.eq_of_getLsbD_eq
  intro j hj
  rw [BitVec.getLsbD_and, BitVec.getLsbD_shiftLeft, BitVec.getLsbD_setWidth, BitVec.getLsbD_zero]
  by_cases h : j < 8
  · simp [h]
  · simp [BitVec.getLsbD_of_ge c j (by omega)]
theorem byt_wd (x : BitVec 64) (k : Nat) : (byt x k).setWidth 64 = wd (bt x k) := by
  rw [wd_bt]
  apply BitVec.eq_of_toNat_eq
  unfold byt
  rw [BitVec.toNat_setWidth, BitVec.toNat_setWidth, BitVec.toNat_and]
  have : (255#64 : BitVec 64).toNat = 2 ^ 8 - 1 := rfl
  rw [this, Nat.and_two_pow_sub_one_eq_mod]
  omega
theorem val_st (x : BitVec 64) (k : Nat) (hk : k < 8) : 256#64 * (x >>> (64 - 8 * k)) + (byt x k).setWidth 64 = x >>> (64 - 8 * (k + 1)) := by
  rw [← shl_or, byt_wd, shl_step x k hk]
theorem val_w8 (x : BitVec 64) : valB (w8 x) = x := by
  have h0 := val_st x 0 (by decide)
  have h1 := val_st x 1 (by decide)
  have h2 := val_st x 2 (by decide)
  have h3 := val_st x 3 (by decide)
  have h4 := val_st x 4 (by decide)
  have h5 := val_st x 5 (by decide)
  have h6 := val_st x 6 (by decide)
  have h7 := val_st x 7 (by decide)
  have hz : x >>> 64 = 0#64 := by apply BitVec.eq_of_toNat_eq; rw [BitVec.toNat_ushiftRight, Nat.shiftRight_eq_div_pow, Nat.div_eq_of_lt x.isLt]; rfl
  simp only [Nat.mul_zero, Nat.sub_zero, hz] at h0
  simp only [valB, w8, List.foldl_cons, List.foldl_nil, h0, h1, h2, h3, h4, h5, h6, h7]
  simp
theorem words_eq (p : W2) : ref02_words p = some p := by
  unfold ref02_words
  rw [show ((kby p).take 8).drop 0 = w8 p.1 from rfl, show ((kby p).take 16).drop 8 = w8 p.2 from rfl, value_eq _ (by rw [w8_len]; omega), bind_some, value_eq _ (by rw [w8_len]; omega), bind_some, val_w8, val_w8]
theorem rotr_eq (x : BitVec 64) (n : Nat) (h1 : 1 ≤ n) (h2 : n ≤ 63) : ref02_rotr x (n : Int) = some (rotl x (64 - n)) := by
  unfold ref02_rotr rotl
  have e1 : shG (n : Int) = some n := by unfold shG; rw [if_pos (by omega)]; rfl
  have e2 : shG (w64 (64 - (n : Int))) = some (64 - n) := by rw [w64_id (by omega) (by omega)]; unfold shG; rw [if_pos (by omega)]; congr 1; omega
  rw [e1, bind_some, e2, bind_some, BitVec.or_comm, show 64 - (64 - n) = n from by omega]
theorem rotl_eq (x : BitVec 64) (n : Nat) (h1 : 1 ≤ n) (h2 : n ≤ 63) : ref02_rotl x (n : Int) = some (rotl x n) := by
  unfold ref02_rotl
  rw [w64_id (by omega) (by omega), show (64 : Int) - (n : Int) = ((64 - n : Nat) : Int) from by omega, rotr_eq x (64 - n) (by omega) (by omega), bind_some, show 64 - (64 - n) = n from by omega]
def rks (k : W2) (n : Nat) : List (BitVec 64) := (List.range n).map fun i => (ks k i).2
theorem rks_succ (k : W2) (n : Nat) : rks k (n + 1) = rks k n ++ [(ks k n).2] := by simp [rks, List.range_succ]
theorem rks_len (k : W2) (n : Nat) : (rks k n).length = n := by simp [rks]
theorem rk_loop (k : W2) : ∀ (m i f : Nat), i + m = 31 → m < f → fixN ref02_roundKeys_L1 f ((ks k i).1, (ks k i).2, rks k (i + 1), (i : Int)) = some (rks k 32)
  | m, i, 0, _, h => by omega
  | 0, i, f + 1, hi, _ => by
    obtain rfl : i = 31 := by omega
    rw [fix_step]; simp only [ref02_roundKeys_L1]; rw [if_neg (by omega)]
  | m + 1, i, f + 1, hi, hf => by
    rw [fix_step]; simp only [ref02_roundKeys_L1]
    have r1 := rotr_eq (ks k i).1 8 (by omega) (by omega)
    have r2 := rotl_eq (ks k i).2 3 (by omega) (by omega)
    rw [show ((8 : Nat) : Int) = 8 from rfl] at r1
    rw [show ((3 : Nat) : Int) = 3 from rfl] at r2
    rw [if_pos (by omega), r1, bind_some, r2, bind_some, appG_some (by rw [rks_len]; simp; omega), bind_some, w64_id (by omega) (by omega)]
    have e1 : (((ks k i).2 + rotl (ks k i).1 (64 - 8)) ^^^ wd (i : Int)) = (ks k (i + 1)).1 := by simp [ks, rnd, BitVec.add_comm]
    have e2 : rotl (ks k i).2 3 ^^^ (ks k (i + 1)).1 = (ks k (i + 1)).2 := by simp [ks, rnd]
    rw [e1, e2, ← rks_succ]
    exact rk_loop k m (i + 1) f (by omega) (by omega)
theorem rk_eq (k : W2) : ref02_roundKeys k = some (rks k 32) := by
  unfold ref02_roundKeys
  rw [words_eq, bind_some]
  exact rk_loop k 31 0 FUEL (by omega) (fuel_lt (by omega))
theorem rkey2_loop (l : List (BitVec 8)) (hl : l.length = 16) : ∀ (m i fuel : Nat) (p : W2), 16 - i = m → i ≤ 16 → m < fuel → (kby p).take i = l.take i → fixN (ref02_key_L1 l) fuel ((i : Int), p) = some (ofB l)
  | m, i, 0, p, _, _, hf, _ => by omega
  | 0, i, fuel + 1, p, hm, hi, hf, hp => by
    rw [fix_step]; simp only [ref02_key_L1, ref02_key_J2]; rw [if_neg (by omega)]
    obtain rfl : i = 16 := by omega
    simp only [cond_false]
    congr 1
    apply kby_inj
    rw [kby_ofB (by omega), ← hp, List.take_of_length_le (by simp [kby])]
  | m + 1, i, fuel + 1, p, hm, hi, hf, hp => by
    rw [fix_step]; simp only [ref02_key_L1, ref02_key_J2]
    have hk : i < (kby p).length := by rw [kby_len]; omega
    rw [if_pos (by omega), decide_eq_true (by omega)]
    simp only [cond_true]
    rw [getI_some (by omega), bind_some, getI_some hk, bind_some]
    have hks : kset p (i : Int) (l[i]'(by omega)) = some (ofB ((kby p).set i (l[i]'(by omega)))) := by unfold kset; rw [if_pos (by omega)]; rfl
    rw [hks, bind_some, w64_id (by omega) (by omega)]
    refine rkey2_loop l hl m (i + 1) fuel _ (by omega) (by omega) (by omega) ?_
    have hq := (kset_eq hks).2
    rw [Int.toNat_natCast] at hq
    rw [hq, take_snoc _ i (by rw [List.length_set]; exact hk), take_snoc l i (by omega), List.take_set_of_le (Nat.le_refl i), hp]
    simp
theorem block_eq (x y : BitVec 64) : ref02_block x y = some (x, y) := by
  unfold ref02_block ref02_key
  rw [bytes_eq, bind_some, bytes_eq, bind_some, appG_some (by simp [w8]), bind_some]
  have := rkey2_loop (w8 x ++ w8 y) (by simp [w8]) _ 0 FUEL k0 rfl (by omega) (fuel_lt (by omega)) (by simp)
  rw [show ((0 : Nat) : Int) = 0 from rfl] at this
  rw [this, bind_some, show w8 x ++ w8 y = kby (x, y) ++ [] from rfl, ofB_kby]
theorem decTo_st (k b : W2) (j : Nat) (h : j < 32) : decTo k b j = rndB (decTo k b (j + 1)) (ks k j).2 := by
  unfold decTo
  rw [show 32 - j = 32 - (j + 1) + 1 from by omega, List.range_succ, List.foldl_append, List.foldl_cons, List.foldl_nil, show 31 - (32 - (j + 1)) = j from by omega]
theorem dec_loop (k b : W2) : ∀ (i f : Nat), i ≤ 32 → i < f → fixN (ref02_Decrypt_L1 (rks k 32)) f ((decTo k b i).1, (decTo k b i).2, (i : Int) - 1) = some (decr k b)
  | i, 0, _, h => by omega
  | 0, f + 1, _, _ => by
    rw [fix_step]; simp only [ref02_Decrypt_L1]; rw [if_neg (by omega), block_eq, bind_some]; rfl
  | i + 1, f + 1, hi, hf => by
    rw [fix_step]; simp only [ref02_Decrypt_L1]
    have r1 := rotr_eq ((decTo k b (i + 1)).2 ^^^ (decTo k b (i + 1)).1) 3 (by omega) (by omega)
    have r2 := rotl_eq (((decTo k b (i + 1)).1 ^^^ (ks k i).2) - rotl ((decTo k b (i + 1)).2 ^^^ (decTo k b (i + 1)).1) (64 - 3)) 8 (by omega) (by omega)
    rw [show ((8 : Nat) : Int) = 8 from rfl] at r2
    rw [show ((3 : Nat) : Int) = 3 from rfl] at r1
    have hg : getI (rks k 32) (i : Int) = some (ks k i).2 := by
      rw [getI_some (by rw [rks_len]; omega)]; simp [rks]
    rw [if_pos (by omega), r1, bind_some, show ((i + 1 : Nat) : Int) - 1 = (i : Int) from by omega, hg, bind_some, r2, bind_some, w64_id (by omega) (by omega)]
    have ih := dec_loop k b i f (by omega) (by omega)
    rw [decTo_st k b i (by omega)] at ih
    unfold rndB at ih
    rw [BitVec.xor_comm (decTo k b (i + 1)).2]
    exact ih
theorem rdecr_eq (k b : W2) : ref02_Decrypt k b = some (decr k b) := by
  unfold ref02_Decrypt
  rw [words_eq, bind_some, rk_eq, bind_some]
  exact dec_loop k b 32 FUEL (by omega) (fuel_lt (by omega))
end Go.Sx.Po.Cy

end
section
/- Opening with a polynomial, plainly: what a right header is, the factors, the mask; both sides come to it. -/
set_option linter.unusedVariables false
set_option linter.unusedSimpArgs false
set_option linter.unusedSectionVars false
set_option maxRecDepth 100000
namespace Go.Sx.Po
open Go

/-! ### the first element with a property -/
theorem find_loop {α : Type} (l : List α) (hl : l.length < 4611686018427387904) (p : α → Bool) (F : (Int → Option Int) → Int → Option Int)
    (h1 : ∀ rec (j : Nat) (hj : j < l.length), F rec (j : Int) = bif p l[j] then some (j : Int) else rec ((j + 1 : Nat) : Int)) (h2 : ∀ rec, F rec (l.length : Int) = some (-1)) :
    ∀ (m j f : Nat), j + m = l.length → m < f → fixN F f (j : Int) = some (match (l.drop j).findIdx? p with | some i => ((j + i : Nat) : Int) | none => -1)
  | m, j, 0, _, h => by omega
  | 0, j, f + 1, hj, _ => by
    have : j = l.length := by omega
    subst this
    rw [fix_step, h2, List.drop_length]; rfl
  | m + 1, j, f + 1, hj, hf => by
    have hjl : j < l.length := by omega
    rw [fix_step, h1 _ j hjl, List.drop_eq_getElem_cons hjl, List.findIdx?_cons]
    cases hp : p l[j] with
    | true => rw [cond_true]; simp
    | false =>
      rw [cond_false, find_loop l hl p F h1 h2 m (j + 1) f (by omega) (by omega)]
      simp only [Bool.false_eq_true, if_false]
      cases (l.drop (j + 1)).findIdx? p with
      | none => rfl
      | some i => simp only [Option.map_some]; congr 2; omega
theorem find_go {α : Type} (l : List α) (hl : l.length < 4611686018427387904) (p : α → Bool) (F : (Int → Option Int) → Int → Option Int)
    (h1 : ∀ rec (j : Nat) (hj : j < l.length), F rec (j : Int) = bif p l[j] then some (j : Int) else rec ((j + 1 : Nat) : Int)) (h2 : ∀ rec, F rec (l.length : Int) = some (-1)) :
    fixN F FUEL 0 = some (match l.findIdx? p with | some i => (i : Int) | none => -1) := by
  have := find_loop l hl p F h1 h2 l.length 0 FUEL (by omega) (fuel_lt (by omega))
  rw [List.drop_zero, show ((0 : Nat) : Int) = 0 from rfl] at this
  rw [this]
  cases l.findIdx? p with
  | none => rfl
  | some i => simp
theorem idx_any {α : Type} (l : List α) (p : α → Bool) : decide ((0 : Int) ≤ (match l.findIdx? p with | some i => (i : Int) | none => -1)) = l.any p := by
  cases h : l.findIdx? p with
  | none =>
    have : l.any p = false := by
      rw [List.findIdx?_eq_none_iff] at h
      rw [List.any_eq_false]; intro x hx; rw [h x hx]; simp
    rw [this]; rfl
  | some i =>
    have : l.any p = true := by
      have h3 := List.findIdx?_eq_some_iff_getElem.1 h
      obtain ⟨h4, h5, _⟩ := h3
      exact List.any_eq_true.2 ⟨_, List.getElem_mem h4, h5⟩
    rw [this]; simp
/-! ### distinct points -/
theorem same_any (l : List TPoint) (hl : l.length < 4611686018427387904) (y : TPoint) : slices_ContainsFunc_9e39_poly_distinct_1 l y = some (l.any fun x => decide (x.X = y.X)) := by
  unfold slices_ContainsFunc_9e39_poly_distinct_1 slices_IndexFunc_7a5d_poly_distinct_1
  rw [find_go l hl (fun x => decide (x.X = y.X)) _ (fun rec j hj => by
    simp only [slices_IndexFunc_7a5d_poly_distinct_1_L1, poly_distinct_1]
    rw [if_pos (by omega), getI_some hj, bind_some, bind_some, w64_nat (by omega)]) (fun rec => by
    simp only [slices_IndexFunc_7a5d_poly_distinct_1_L1]; rw [if_neg (by omega)]), bind_some, idx_any]
theorem nodup_range {β : Type} [DecidableEq β] (l : List β) : ((List.range l.length).all fun j => !((l.take j).any fun x => decide (some x = l[j]?))) = decide l.Nodup := by
  rw [Bool.eq_iff_iff, decide_eq_true_eq, List.all_eq_true]
  constructor
  · intro h
    rw [List.Nodup, List.pairwise_iff_getElem]
    intro i j hi hj hij he
    have := h j (by simpa using hj)
    rw [Bool.not_eq_true', List.any_eq_false] at this
    refine this l[i] ?_ (by simp [he, hj])
    rw [List.mem_take_iff_getElem]
    exact ⟨i, by omega, rfl⟩
  · intro h j hj
    have hj' : j < l.length := by simpa using hj
    rw [Bool.not_eq_true', List.any_eq_false]
    intro x hx he
    rw [List.mem_take_iff_getElem] at hx
    obtain ⟨i, hi, rfl⟩ := hx
    rw [decide_eq_true_eq, List.getElem?_eq_getElem hj'] at he
    exact List.pairwise_iff_getElem.1 h i j (by omega) hj' (by omega) (Option.some.inj he)
def dstB (l : List TPoint) : Bool := decide (l.map (·.X)).Nodup
theorem distinct_eq (l : List TPoint) (hl : l.length < 4611686018427387904) : poly_distinct l = some (dstB l) := by
  unfold poly_distinct dstB
  have := fix_range l.length (poly_distinct_L1 l) (fun j (_ : Unit) => (j : Int)) (fun j nx u => bif !(((l.map (·.X)).take j).any fun x => decide (some x = (l.map (·.X))[j]?)) then nx u else some false) (fun _ => some true)
    (fun rec j hj _ => by
      simp only [poly_distinct_L1]
      have hs : sliG l 0 (j : Int) = some (l.take j) := by unfold sliG; rw [if_pos (by omega)]; simp
      rw [if_pos (by omega), getI_some hj, bind_some, hs, bind_some, same_any _ (by rw [List.length_take]; omega), bind_some, w64_nat (by omega)]
      have e : ((l.take j).any fun x => decide (x.X = l[j].X)) = (((l.map (·.X)).take j).any fun x => decide (some x = (l.map (·.X))[j]?)) := by
        rw [← List.map_take, List.any_map]
        congr 1; funext x
        simp [hj]
      rw [e]
      cases (((l.map (·.X)).take j).any fun x => decide (some x = (l.map (·.X))[j]?)) <;> rfl)
    (fun rec _ => by simp only [poly_distinct_L1]; rw [if_neg (by omega)]) (f := FUEL) (fuel_lt (by omega)) ()
  rw [show ((0 : Nat) : Int) = 0 from rfl] at this
  rw [this, all_itL _ (some true) (some false) _ _ (fun a _ nx s => rfl)]
  have h2 := nodup_range (l.map (·.X))
  rw [List.length_map] at h2
  rw [h2]
  cases decide (l.map (·.X)).Nodup <;> rfl
/-! ### right headers -/
/-- a point within the bounds -/
def ptB (s : TScheme) (x : TPoint) : Bool := decide (1#64 ≤ x.X) && decide (x.X < s.Group.Q) && decide (1#64 ≤ x.Y) && decide (x.Y < s.Group.P)
def hdB (s : TScheme) (h : THeader) : Bool := decide (h.Items = []) && decide (1#64 ≤ h.Base) && decide (h.Base < s.Group.P) && decide ((h.Points.length : Int) = s.Degree) && dstB h.Points && h.Points.all (ptB s)
def shB (s : TScheme) (c : TSecret) : Bool := decide (1#64 ≤ c.Share.X) && decide (c.Share.X < s.Group.Q) && decide (c.Share.Y < s.Group.Q)
theorem fits_loop (s : TScheme) (c : TSecret) (l : List TPoint) (hl : l.length < 4611686018427387904) : ∀ (m j f : Nat) (b : Bool), j + m = l.length → m < f → fixN (poly_fits_L4 s c l (l.length : Int)) f (b, (j : Int)) = some (b && (l.drop j).all (ptB s) && decide (c.Share.Y < s.Group.Q))
  | m, j, 0, b, _, h => by omega
  | 0, j, f + 1, b, hj, _ => by
    have : j = l.length := by omega
    subst this
    rw [fix_step]; simp only [poly_fits_L4]
    rw [if_neg (by omega), List.drop_length]
    unfold poly_fits_J2
    cases b <;> simp
  | m + 1, j, f + 1, b, hj, hf => by
    have hjl : j < l.length := by omega
    rw [fix_step]; simp only [poly_fits_L4]
    rw [if_pos (by omega), getI_some hjl, bind_some, w64_nat (by omega), List.drop_eq_getElem_cons hjl, List.all_cons]
    cases b with
    | false => unfold poly_fits_J2; simp
    | true =>
      simp only [Bool.not_true, cond_false, Bool.true_and]
      have ih := fun b => fits_loop s c l hl m (j + 1) f b (by omega) (by omega)
      by_cases a1 : 1#64 ≤ l[j].X
      · rw [if_pos a1]
        by_cases a2 : l[j].X < s.Group.Q
        · rw [if_pos a2]
          by_cases a3 : 1#64 ≤ l[j].Y
          · rw [if_pos a3, ih]; simp [ptB, a1, a2, a3]
          · rw [if_neg a3, ih]; simp [ptB, a3]
        · rw [if_neg a2, ih]; simp [ptB, a2]
      · rw [if_neg a1, ih]; simp [ptB, a1]
theorem fits_eq (s : TScheme) (c : TSecret) (h : THeader) (hl : h.Points.length * 16 ≤ 140737488351232) (hg : 1#64 < s.Group.P) : poly_fits s c h = some (hdB s h && shB s c) := by
  have j1 : ∀ b, poly_fits_J1 s c h b = some (b && h.Points.all (ptB s) && shB s c) := by
    intro b
    unfold poly_fits_J1 slices_Clone_3bad poly_fits_J3
    rw [appG_some (by simp; omega), bind_some, List.nil_append, bind_some, appG_some (by simp; omega), bind_some]
    have := fits_loop s c (h.Points ++ [⟨c.Share.X, 1#64⟩]) (by simp; omega) _ 0 FUEL b (by rw [Nat.zero_add]) (fuel_lt (by simp; omega))
    rw [show ((0 : Nat) : Int) = 0 from rfl] at this
    rw [this, List.drop_zero, List.all_append]
    congr 1
    have : [(⟨c.Share.X, 1#64⟩ : TPoint)].all (ptB s) = (decide (1#64 ≤ c.Share.X) && decide (c.Share.X < s.Group.Q)) := by simp [ptB, hg]
    rw [this]; unfold shB
    cases b <;> cases h.Points.all (ptB s) <;> simp
  unfold poly_fits
  by_cases a0 : h.Items = []
  · rw [if_pos (by rw [a0]; rfl)]
    by_cases a1 : 1#64 ≤ h.Base
    · rw [if_pos a1]
      by_cases a2 : h.Base < s.Group.P
      · rw [if_pos a2]
        by_cases a3 : (h.Points.length : Int) = s.Degree
        · rw [if_pos a3, distinct_eq _ (by omega), bind_some, j1]; simp [hdB, a0, a1, a2, a3]
        · rw [if_neg a3, j1]; simp [hdB, a3]
      · rw [if_neg a2, j1]; simp [hdB, a2]
    · rw [if_neg a1, j1]; simp [hdB, a1]
  · rw [if_neg (by intro e; exact a0 (List.length_eq_zero_iff.1 (by omega))), j1]; simp [hdB, a0]
end Go.Sx.Po

end
section
/- Opening with a polynomial, plainly, on: the document's test of a header, the factors, the mask. -/
set_option linter.unusedVariables false
set_option linter.unusedSimpArgs false
set_option linter.unusedSectionVars false
set_option maxRecDepth 100000
namespace Go.Sx.Po
open Go

theorem all_and {α : Type} (l : List α) (f g : α → Bool) : (l.all fun x => f x && g x) = (l.all f && l.all g) := by
  induction l with
  | nil => rfl
  | cons a l ih => simp only [List.all_cons, ih]; cases f a <;> cases g a <;> simp
theorem range_all {α : Type} (l : List α) (f : α → Bool) (d : α) : ((List.range l.length).all fun j => f (l.getD j d)) = l.all f := by
  rw [Bool.eq_iff_iff, List.all_eq_true, List.all_eq_true]
  constructor
  · intro h x hx
    obtain ⟨j, hj, rfl⟩ := List.mem_iff_getElem.1 hx
    have := h j (by simpa using hj)
    rwa [List.getD_eq_getElem?_getD, List.getElem?_eq_getElem hj] at this
  · intro h j hj
    have hj' : j < l.length := by simpa using hj
    rw [List.getD_eq_getElem?_getD, List.getElem?_eq_getElem hj']
    exact h _ (List.getElem_mem hj')
theorem valid_hd (s : TScheme) (h : THeader) (hl : h.Points.length < 4611686018427387904) : ref04_ValidHeader s h = some (hdB s h) := by
  have inner : ∀ (j : Nat) (hj : j < h.Points.length) (rec2 : Int → Option Bool), fixN (ref04_ValidHeader_L4 h (j : Int) rec2 h.Points[j]) FUEL 0 = bif ((h.Points.take j).any fun x => decide (x.X = h.Points[j].X)) then some false else rec2 ((j + 1 : Nat) : Int) := by
    intro j hj rec2
    have := fix_range j (ref04_ValidHeader_L4 h (j : Int) rec2 h.Points[j]) (fun k (_ : Unit) => (k : Int)) (fun k nx u => bif !decide ((h.Points.getD k default).X = h.Points[j].X) then nx u else some false) (fun _ => rec2 ((j + 1 : Nat) : Int))
      (fun rec k hk _ => by
        have hk' : k < h.Points.length := by omega
        have e : h.Points.getD k default = h.Points[k] := by rw [List.getD_eq_getElem?_getD, List.getElem?_eq_getElem hk']; rfl
        simp only [ref04_ValidHeader_L4]
        rw [if_pos (by omega), getI_some hk', bind_some, e, w64_nat (by omega)]
        by_cases hx : h.Points[k].X = h.Points[j].X
        · rw [if_pos hx, decide_eq_true hx]; rfl
        · rw [if_neg hx, decide_eq_false hx]; rfl)
      (fun rec _ => by simp only [ref04_ValidHeader_L4]; rw [if_neg (by omega), w64_nat (by omega)]) (f := FUEL) (fuel_lt (by omega)) ()
    rw [show ((0 : Nat) : Int) = 0 from rfl] at this
    rw [this, all_itL _ (rec2 ((j + 1 : Nat) : Int)) (some false) _ _ (fun a _ nx s => rfl)]
    have e : ((List.range j).all fun k => !decide ((h.Points.getD k default).X = h.Points[j].X)) = !((h.Points.take j).any fun x => decide (x.X = h.Points[j].X)) := by
      rw [Bool.eq_iff_iff, List.all_eq_true, Bool.not_eq_true', List.any_eq_false]
      constructor
      · intro h1 x hx
        rw [List.mem_take_iff_getElem] at hx
        obtain ⟨i, hi, rfl⟩ := hx
        have hi' : i < h.Points.length := by omega
        have := h1 i (List.mem_range.2 (by omega))
        rw [List.getD_eq_getElem?_getD, List.getElem?_eq_getElem hi'] at this
        simpa using this
      · intro h1 k hk
        have hk1 := List.mem_range.1 hk
        have hk' : k < h.Points.length := by omega
        have := h1 h.Points[k] (by rw [List.mem_take_iff_getElem]; exact ⟨k, by omega, rfl⟩)
        rw [List.getD_eq_getElem?_getD, List.getElem?_eq_getElem hk']
        simpa using this
    rw [e]
    cases ((h.Points.take j).any fun x => decide (x.X = h.Points[j].X)) <;> rfl
  have outer : fixN (ref04_ValidHeader_L2 s h) FUEL 0 = some (dstB h.Points && h.Points.all (ptB s)) := by
    have := fix_range h.Points.length (ref04_ValidHeader_L2 s h) (fun j (_ : Unit) => (j : Int)) (fun j nx u => bif ptB s (h.Points.getD j default) && !(((h.Points.map (·.X)).take j).any fun x => decide (some x = (h.Points.map (·.X))[j]?)) then nx u else some false) (fun _ => some true)
      (fun rec j hj _ => by
        have e : h.Points.getD j default = h.Points[j] := by rw [List.getD_eq_getElem?_getD, List.getElem?_eq_getElem hj]; rfl
        have e2 : (((h.Points.map (·.X)).take j).any fun x => decide (some x = (h.Points.map (·.X))[j]?)) = ((h.Points.take j).any fun x => decide (x.X = h.Points[j].X)) := by
          rw [← List.map_take, List.any_map]; congr 1; funext x; simp [hj]
        simp only [ref04_ValidHeader_L2, ref04_ValidHeader_J3]
        rw [if_pos (by omega), getI_some hj, bind_some, e, e2]
        by_cases a1 : h.Points[j].X < 1#64
        · rw [if_pos a1]; have : ¬ 1#64 ≤ h.Points[j].X := by rw [BitVec.le_def]; rw [BitVec.lt_def] at a1; omega
          simp [ptB, this]
        · rw [if_neg a1]; have b1 : 1#64 ≤ h.Points[j].X := by rw [BitVec.le_def]; rw [BitVec.lt_def] at a1; omega
          by_cases a2 : s.Group.Q ≤ h.Points[j].X
          · rw [if_pos a2]; have : ¬ h.Points[j].X < s.Group.Q := by rw [BitVec.lt_def]; rw [BitVec.le_def] at a2; omega
            simp [ptB, this]
          · rw [if_neg a2]; have b2 : h.Points[j].X < s.Group.Q := by rw [BitVec.lt_def]; rw [BitVec.le_def] at a2; omega
            by_cases a3 : h.Points[j].Y < 1#64
            · rw [if_pos a3]; have : ¬ 1#64 ≤ h.Points[j].Y := by rw [BitVec.le_def]; rw [BitVec.lt_def] at a3; omega
              simp [ptB, this]
            · rw [if_neg a3]; have b3 : 1#64 ≤ h.Points[j].Y := by rw [BitVec.le_def]; rw [BitVec.lt_def] at a3; omega
              by_cases a4 : s.Group.P ≤ h.Points[j].Y
              · rw [decide_eq_true a4]; have : ¬ h.Points[j].Y < s.Group.P := by rw [BitVec.lt_def]; rw [BitVec.le_def] at a4; omega
                simp [ptB, this]
              · rw [decide_eq_false a4, cond_false, inner j hj]; have b4 : h.Points[j].Y < s.Group.P := by rw [BitVec.lt_def]; rw [BitVec.le_def] at a4; omega
                have : ptB s h.Points[j] = true := by simp [ptB, b1, b2, b3, b4]
                rw [this]
                cases ((h.Points.take j).any fun x => decide (x.X = h.Points[j].X)) <;> rfl)
      (fun rec _ => by simp only [ref04_ValidHeader_L2]; rw [if_neg (by omega)]) (f := FUEL) (fuel_lt (by omega)) ()
    rw [show ((0 : Nat) : Int) = 0 from rfl] at this
    rw [this, all_itL _ (some true) (some false) _ _ (fun a _ nx s => rfl), all_and, range_all]
    have h2 := nodup_range (h.Points.map (·.X))
    rw [List.length_map] at h2
    rw [h2]; unfold dstB
    cases decide (h.Points.map (·.X)).Nodup <;> cases h.Points.all (ptB s) <;> rfl
  unfold ref04_ValidHeader ref04_ValidHeader_J1
  by_cases a0 : h.Items = []
  · rw [if_neg (by rw [a0]; simp)]
    by_cases a1 : h.Base < 1#64
    · rw [if_pos a1]; have : ¬ 1#64 ≤ h.Base := by rw [BitVec.le_def]; rw [BitVec.lt_def] at a1; omega
      simp [hdB, this]
    · rw [if_neg a1]; have b1 : 1#64 ≤ h.Base := by rw [BitVec.le_def]; rw [BitVec.lt_def] at a1; omega
      by_cases a2 : s.Group.P ≤ h.Base
      · rw [if_pos a2]; have : ¬ h.Base < s.Group.P := by rw [BitVec.lt_def]; rw [BitVec.le_def] at a2; omega
        simp [hdB, this]
      · rw [if_neg a2]; have b2 : h.Base < s.Group.P := by rw [BitVec.lt_def]; rw [BitVec.le_def] at a2; omega
        by_cases a3 : (h.Points.length : Int) = s.Degree
        · rw [decide_eq_false (by simpa using a3), cond_false, outer]; simp [hdB, a0, b1, b2, a3]
        · rw [decide_eq_true a3]; simp [hdB, a3]
  · rw [if_pos (by intro e; exact a0 (List.length_eq_zero_iff.1 (by omega)))]; simp [hdB, a0]
/-! ### factors -/
open Classical in
/-- the inverse -/
noncomputable def iv {q : Nat} [NeZero q] (a : Fin q) : Fin q := if h : ∃ x, a * x = 1 then Classical.choose h else 0
section
variable {q : Nat} [NeZero q]
theorem iv_spec (hP : Prm q) (q2 : q ≤ 1048575) {a : Fin q} (ha : a ≠ 0) : a * iv a = 1 ∧ number_InvMod (fe a) (bn q) = some (fe (iv a), 0) ∧ ref01_Inverse (fe a) (bn q) = some (fe (iv a), true) := by
  obtain ⟨x, h1, h2, h3⟩ := inv_eq hP q2 ha
  have h4 : a * iv a = 1 := by
    unfold iv; rw [dif_pos ⟨x, h1⟩]; exact Classical.choose_spec (p := fun x => a * x = 1) ⟨x, h1⟩
  have : x = iv a := by grind
  rw [← this]
  exact ⟨h1, h2, h3⟩
theorem fin1 (q1 : 2 ≤ q) : (1 : Fin q).val = 1 := Nat.mod_eq_of_lt (show 1 < q by omega)
theorem one_ne (q1 : 2 ≤ q) : (1 : Fin q) ≠ 0 := fun h => by
  have := congrArg Fin.val h
  rw [fin1 q1] at this
  exact absurd this (by simp)
theorem mul_ne (hP : Prm q) (q2 : q ≤ 1048575) {a b : Fin q} (ha : a ≠ 0) (hb : b ≠ 0) : a * b ≠ 0 := fun h => by
  have h1 := (iv_spec hP q2 ha).1
  have h2 := (iv_spec hP q2 hb).1
  refine one_ne hP.1 ?_
  have : (a * b) * (iv a * iv b) = 1 := by grind
  rw [h] at this
  grind
theorem fdiv_eq (hP : Prm q) (q2 : q ≤ 1048575) {a b : Fin q} (hb : b ≠ 0) : poly_field_div (bn q) (fe a) (fe b) = some (fe (a * iv b)) := by
  unfold poly_field_div
  rw [(iv_spec hP q2 hb).2.1, bind_some, fmul_eq hP.1 q2, bind_some]
/-- above and under, of the first k numbers -/
def abF (X : Nat → Fin q) (j : Nat) : Nat → Fin q × Fin q
  | 0 => (1, 1)
  | k + 1 => if k ≠ j then ((abF X j k).1 * X k, (abF X j k).2 * (X k - X j)) else abF X j k
noncomputable def facF (X : Nat → Fin q) (j : Nat) : Nat → Fin q
  | 0 => 1
  | k + 1 => if k = j then facF X j k else facF X j k * X k * iv (X k - X j)
theorem ab_fac (hP : Prm q) (q2 : q ≤ 1048575) (X : Nat → Fin q) (j : Nat) : ∀ (n : Nat), (∀ k, k < n → k ≠ j → X k - X j ≠ 0) → (abF X j n).2 ≠ 0 ∧ facF X j n * (abF X j n).2 = (abF X j n).1
  | 0, _ => ⟨one_ne hP.1, by simp only [facF, abF]; grind⟩
  | n + 1, h => by
    obtain ⟨h1, h2⟩ := ab_fac hP q2 X j n (fun k hk => h k (by omega))
    simp only [facF, abF]
    by_cases e : n = j
    · rw [if_pos e, if_neg (by simpa using e)]; exact ⟨h1, h2⟩
    · rw [if_neg e, if_pos e]
      have h3 := h n (by omega) e
      have h4 := (iv_spec hP q2 h3).1
      exact ⟨mul_ne hP q2 h1 h3, by simp only; grind⟩
theorem fac_eq (hP : Prm q) (q2 : q ≤ 1048575) (X : Nat → Fin q) (j n : Nat) (h : ∀ k, k < n → k ≠ j → X k - X j ≠ 0) : (abF X j n).1 * iv (abF X j n).2 = facF X j n := by
  obtain ⟨h1, h2⟩ := ab_fac hP q2 X j n h
  have h3 := (iv_spec hP q2 h1).1
  grind
theorem factor_eq (hP : Prm q) (q2 : q ≤ 1048575) (X : Nat → Fin q) (n j : Nat) (hn : n < 4611686018427387904) (hj : j < n) (h : ∀ k, k < n → k ≠ j → X k - X j ≠ 0) :
    ref04_factor (bn q) ((List.range n).map fun k => fe (X k)) (j : Int) = some (fe (facF X j n)) := by
  have q1 := hP.1
  unfold ref04_factor
  refine fix_go _ (fun k st => st = (fe (facF X j k), (k : Int))) n _ (by omega) ?_ ?_ ?_
  · simp only [facF]
    rw [show fe (1 : Fin q) = 1#64 from by unfold fe; rw [fin1 q1]]; rfl
  · rintro k _ hk rfl
    refine ⟨_, rfl, fun rec => ?_⟩
    simp only [ref04_factor_L1, facF]
    rw [if_pos (by simp; omega), w64_nat (by omega)]
    by_cases e : k = j
    · rw [if_pos (by omega), if_pos e]
    · have h3 := h k hk e
      have hA := (facF X j k).isLt
      have hX := (X k).isLt
      have hI := (iv (X k - X j)).isLt
      have hp1 : (facF X j k).val * (X k).val ≤ 1048575 * 1048575 := Nat.mul_le_mul (by omega) (by omega)
      have hm1 := Nat.mod_lt ((facF X j k).val * (X k).val) (show 0 < q by omega)
      have hp2 : (facF X j k).val * (X k).val % q * (iv (X k - X j)).val ≤ 1048575 * 1048575 := Nat.mul_le_mul (by omega) (by omega)
      rw [if_neg (by omega), if_neg e, getI_some (by simpa using hk), bind_some, getI_some (by simpa using hj), bind_some]
      simp only [List.getElem_map, List.getElem_range]
      rw [fminus_eq q1 q2, bind_some, (iv_spec hP q2 h3).2.2, bind_some, bind_some, bn_mul, remU_bn (by omega) (by omega) (by omega), bind_some]
      simp only
      rw [bn_mul, remU_bn (by omega) (by omega) (by omega), bind_some]; rfl
  · rintro _ rfl rec
    simp only [ref04_factor_L1]
    rw [if_neg (by simp)]
/-! ### the mask -/
/-- the product of the points' powers -/
noncomputable def zF (p : Nat) (X : Nat → Fin q) (Y : Nat → Nat) (n : Nat) : Nat → Nat
  | 0 => 1
  | j + 1 => zF p X Y n j * (Y j ^ (facF X j n).val % p) % p
variable {s : TScheme} {d t p g : Nat}
theorem zF_lt (hp : 2 ≤ p) (X : Nat → Fin q) (Y : Nat → Nat) (n : Nat) : ∀ j, zF p X Y n j < p
  | 0 => by simp only [zF]; omega
  | j + 1 => Nat.mod_lt _ (by omega)
theorem open_loop (h : Vld s d t p q g) (hd : THeader) (l : List TPoint) (X : Nat → Fin q) (Y : Nat → Nat) (hl : l.length < 4611686018427387904) (hX : ∀ k (hk : k < l.length), l[k].X = fe (X k)) (hY : ∀ k (hk : k < l.length), l[k].Y = bn (Y k) ∧ Y k < p) (hne : ∀ k j, k < l.length → j < l.length → k ≠ j → X k - X j ≠ 0) :
    fixN (poly_Open_L1 s hd l) FUEL (1#64, 0) = poly_Open_J3 hd (decr (drv k0 (un8 42#8) (bn (zF p X Y l.length l.length))) hd.Box) := by
  obtain ⟨p1, p2⟩ := h.pb
  have hP := h.ok.2.1.2
  have q2 := h.ok.2.1.1
  have q1 := hP.1
  refine fix_go _ (fun j st => st = (bn (zF p X Y l.length j), (j : Int))) l.length _ (by omega) (by simp [zF]) ?_ ?_
  · rintro j _ hj rfl
    refine ⟨_, rfl, fun rec => ?_⟩
    have hz := zF_lt p1 X Y l.length j
    have hin : fixN (poly_Open_L2 s l (bn (zF p X Y l.length j)) (j : Int) rec l[j]) FUEL (1#64, 1#64, 0) = rec (bn (zF p X Y l.length (j + 1)), ((j + 1 : Nat) : Int)) := by
      refine fix_go _ (fun k st => st = (fe (abF X j k).1, fe (abF X j k).2, (k : Int))) l.length _ (by omega) ?_ ?_ ?_
      · simp only [abF]
        rw [show fe (1 : Fin q) = 1#64 from by unfold fe; rw [fin1 q1]]; rfl
      · rintro k _ hk rfl
        refine ⟨_, rfl, fun rec2 => ?_⟩
        simp only [poly_Open_L2, abF]
        rw [if_pos (by omega), getI_some hk, bind_some, w64_nat (by omega)]
        by_cases e : k = j
        · rw [if_neg (by omega), if_neg (by simpa using e)]
        · rw [if_pos (by omega), if_pos e, h.grp, hX k hk, hX j hj]
          simp only
          rw [fmul_eq q1 q2, bind_some, fsub_eq q1 q2, bind_some, fmul_eq q1 q2, bind_some]
      · rintro _ rfl rec2
        simp only [poly_Open_L2]
        have hne' : ∀ k, k < l.length → k ≠ j → X k - X j ≠ 0 := fun k hk he => hne k j hk hj he
        have hf := (facF X j l.length).isLt
        obtain ⟨hy, hy2⟩ := hY j hj
        rw [if_neg (by omega), h.grp]
        simp only
        rw [fdiv_eq hP q2 (ab_fac hP q2 X j l.length hne').1, bind_some, fac_eq hP q2 X j l.length hne', hy, ppow_eq h (by omega) (by omega), bind_some, mul2_eq p1 p2 hz (Nat.mod_lt _ (by omega)), bind_some, w64_nat (by omega)]
        rfl
    simp only [poly_Open_L1]
    rw [if_pos (by omega), getI_some hj, bind_some]
    exact hin
  · rintro _ rfl rec
    simp only [poly_Open_L1]
    rw [if_neg (by omega)]
    unfold poly_maskKey
    rw [bind_some]
theorem ropen_loop (h : Vld s d t p q g) (hd : THeader) (n : Nat) (X : Nat → Fin q) (Y : Nat → Nat) (hn : n < 4611686018427387904) (hY : ∀ k, k < n → Y k < p) (hne : ∀ k j, k < n → j < n → k ≠ j → X k - X j ≠ 0) :
    fixN (ref04_Open_L3 s hd ((List.range n).map fun k => fe (X k)) ((List.range n).map fun k => bn (Y k))) FUEL (1#64, 0) = ref04_Open_J4 hd (decr (drv k0 (un8 42#8) (bn (zF p X Y n n))) hd.Box) := by
  obtain ⟨p1, p2⟩ := h.pb
  have hP := h.ok.2.1.2
  have q2 := h.ok.2.1.1
  have q1 := hP.1
  refine fix_go _ (fun j st => st = (bn (zF p X Y n j), (j : Int))) n _ (by omega) (by simp [zF]) ?_ ?_
  · rintro j _ hj rfl
    refine ⟨_, rfl, fun rec => ?_⟩
    have hz := zF_lt p1 X Y n j
    have hf := (facF X j n).isLt
    have hy2 := hY j hj
    have hm := Nat.mod_lt (Y j ^ (facF X j n).val) (show 0 < p by omega)
    have hp2 : zF p X Y n j * (Y j ^ (facF X j n).val % p) ≤ 1048575 * 1048575 := Nat.mul_le_mul (by omega) (by omega)
    simp only [ref04_Open_L3]
    rw [if_pos (by simp; omega), getI_some (by simpa using hj), bind_some, h.grp]
    simp only [List.getElem_map, List.getElem_range]
    rw [factor_eq hP q2 X n j hn hj (fun k hk he => hne k j hk hj he), bind_some, rpower_eq (by omega) (by omega) (by omega) (by omega), bind_some, bn_mul, remU_bn (by omega) (by omega) (by omega), bind_some, w64_nat (by omega)]
    rfl
  · rintro _ rfl rec
    simp only [ref04_Open_L3]
    rw [if_neg (by simp)]
    unfold ref04_MaskKey
    rw [bind_some, Cy.rdecr_eq, bind_some]
end
end Go.Sx.Po

end
section
/- Opening with a polynomial: the program's Open is the document's. -/
set_option linter.unusedVariables false
set_option linter.unusedSimpArgs false
set_option linter.unusedSectionVars false
set_option maxRecDepth 100000
namespace Go.Sx.Po
open Go

theorem bn_toNat (x : BitVec 64) : bn x.toNat = x := by simp [bn]
theorem map_range {α β : Type} (l : List α) (f : α → β) (g : Nat → β) (h : ∀ k (hk : k < l.length), f l[k] = g k) : l.map f = (List.range l.length).map g := by
  apply List.ext_getElem
  · simp
  · intro i h1 h2
    simp only [List.getElem_map, List.getElem_range]
    exact h i (by simpa using h1)
/-- all points of an opening -/
def allP (c : TSecret) (h : THeader) (p : Nat) : List TPoint := ⟨c.Share.X, bn (h.Base.toNat ^ c.Share.Y.toNat % p)⟩ :: h.Points
section
variable {s : TScheme} {d t p q g : Nat}
theorem open_val (hv : Vld s d t p q g) (e1 : poly_valid s = some true) (c : TSecret) (h : THeader) (hl : h.Points.length * 16 ≤ 140737488351232) :
    poly_Open s c h = if hdB s h = true ∧ shB s c = true then (if dstB (allP c h p) = true then fixN (poly_Open_L1 s h (allP c h p)) FUEL (1#64, 0) else some (k0, 6)) else some (k0, 8) := by
  obtain ⟨p1, p2⟩ := hv.pb
  unfold poly_Open
  rw [e1, bind_some, fits_eq s c h hl (by rw [hv.grp]; exact (bn_lt (a := 1) (by omega) (by omega)).2 (by omega)), bind_some]
  simp only [Bool.not_true, cond_false]
  cases h1 : hdB s h with
  | false => simp
  | true =>
    cases h2 : shB s c with
    | false => simp
    | true =>
      have hb := h.Base.isLt
      have hy := c.Share.Y.isLt
      have e := ppow_eq hv hb hy
      rw [bn_toNat, bn_toNat] at e
      simp only [Bool.and_self, Bool.not_true, cond_false]
      rw [e, bind_some, appG_some (by simp; omega), bind_some, if_pos (by simp)]
      have e2 : [(⟨c.Share.X, bn (h.Base.toNat ^ c.Share.Y.toNat % p)⟩ : TPoint)] ++ h.Points = allP c h p := rfl
      rw [e2, distinct_eq _ (by simp [allP]; omega), bind_some]
      cases dstB (allP c h p) <;> simp
theorem ropen_val (hv : Vld s d t p q g) (e2 : ref04_Valid s = some true) (c : TSecret) (h : THeader) (hl : h.Points.length * 16 ≤ 140737488351232) :
    ref04_Open s c h = if hdB s h = true ∧ shB s c = true then (if dstB (allP c h p) = true then fixN (ref04_Open_L3 s h ((allP c h p).map (·.X)) ((allP c h p).map (·.Y))) FUEL (1#64, 0) else some (k0, 6)) else some (k0, 8) := by
  obtain ⟨p1, p2⟩ := hv.pb
  unfold ref04_Open ref04_Open_J1
  rw [e2, bind_some, valid_hd s h (by omega), bind_some]
  simp only [Bool.not_true, cond_false]
  cases h1 : hdB s h with
  | false => simp
  | true =>
    simp only [Bool.not_true, cond_false, true_and]
    by_cases a1 : c.Share.X < 1#64
    · rw [if_pos a1]; have : ¬ 1#64 ≤ c.Share.X := by rw [BitVec.le_def]; rw [BitVec.lt_def] at a1; omega
      simp [shB, this]
    · rw [if_neg a1]; have b1 : 1#64 ≤ c.Share.X := by rw [BitVec.le_def]; rw [BitVec.lt_def] at a1; omega
      by_cases a2 : s.Group.Q ≤ c.Share.X
      · rw [if_pos a2]; have : ¬ c.Share.X < s.Group.Q := by rw [BitVec.lt_def]; rw [BitVec.le_def] at a2; omega
        simp [shB, this]
      · rw [if_neg a2]; have b2 : c.Share.X < s.Group.Q := by rw [BitVec.lt_def]; rw [BitVec.le_def] at a2; omega
        by_cases a3 : s.Group.Q ≤ c.Share.Y
        · rw [decide_eq_true a3]; have : ¬ c.Share.Y < s.Group.Q := by rw [BitVec.lt_def]; rw [BitVec.le_def] at a3; omega
          simp [shB, this]
        · rw [decide_eq_false a3, cond_false]; have b3 : c.Share.Y < s.Group.Q := by rw [BitVec.lt_def]; rw [BitVec.le_def] at a3; omega
          have hs : shB s c = true := by simp [shB, b1, b2, b3]
          have hb := h.Base.isLt
          have hy := c.Share.Y.isLt
          have e := rpower_eq hb hy (show 0 < p by omega) (show p < 4294967296 by omega)
          rw [bn_toNat, bn_toNat] at e
          rw [if_pos hs, hv.grp]
          simp only
          rw [e, bind_some]
          have := fix_range h.Points.length (ref04_Open_L2 s c h) (fun j (_ : Unit) => (c.Share.X :: (h.Points.take j).map (·.X), bn (h.Base.toNat ^ c.Share.Y.toNat % p) :: (h.Points.take j).map (·.Y), (j : Int))) (fun j nx u => bif !decide ((h.Points.getD j default).X = c.Share.X) then nx u else some (k0, 6)) (fun _ => fixN (ref04_Open_L3 s h ((allP c h p).map (·.X)) ((allP c h p).map (·.Y))) FUEL (1#64, 0))
            (fun rec j hj _ => by
              have ee : h.Points.getD j default = h.Points[j] := by rw [List.getD_eq_getElem?_getD, List.getElem?_eq_getElem hj]; rfl
              simp only [ref04_Open_L2]
              rw [if_pos (by omega), getI_some hj, bind_some, ee]
              by_cases hx : h.Points[j].X = c.Share.X
              · rw [if_pos hx, decide_eq_true hx]; rfl
              · rw [if_neg hx, decide_eq_false hx, bind_some, appG_some (by simp; omega), bind_some, bind_some, appG_some (by simp; omega), bind_some, w64_nat (by omega), take_snoc _ j hj, List.map_append, List.map_append]; rfl)
            (fun rec _ => by
              simp only [ref04_Open_L2]
              rw [if_neg (by omega), List.take_length]; rfl) (f := FUEL) (fuel_lt (by omega)) ()
          rw [show ((0 : Nat) : Int) = 0 from rfl] at this
          simp only [List.take_zero, List.map_nil] at this
          rw [this, all_itL _ _ (some (k0, 6)) _ _ (fun a _ nx s => rfl), range_all h.Points (fun x => !decide (x.X = c.Share.X)) default]
          have hd : dstB h.Points = true := by
            simp only [hdB, Bool.and_eq_true] at h1; exact h1.1.2
          have e3 : dstB (allP c h p) = h.Points.all (fun x => !decide (x.X = c.Share.X)) := by
            rw [Bool.eq_iff_iff, List.all_eq_true]
            unfold dstB allP at *
            rw [decide_eq_true_eq] at hd ⊢
            rw [List.map_cons, List.nodup_cons]
            constructor
            · rintro ⟨n1, _⟩ x hx
              rw [Bool.not_eq_true', decide_eq_false_iff_not]
              intro he; exact n1 (List.mem_map.2 ⟨x, hx, he⟩)
            · intro n1
              refine ⟨fun hm => ?_, hd⟩
              obtain ⟨x, hx, he⟩ := List.mem_map.1 hm
              have := n1 x hx
              rw [Bool.not_eq_true', decide_eq_false_iff_not] at this
              exact this he
          rw [e3]
          cases h.Points.all (fun x => !decide (x.X = c.Share.X)) <;> rfl
/-- the mask's points, as numbers -/
def Xa (q : Nat) [NeZero q] (l : List TPoint) (k : Nat) : Fin q := fi q (l.getD k default).X.toNat
def Ya (l : List TPoint) (k : Nat) : Nat := (l.getD k default).Y.toNat
theorem pts_facts [NeZero q] (hv : Vld s d t p q g) (c : TSecret) (h : THeader) (h1 : hdB s h = true) (h2 : shB s c = true) (h3 : dstB (allP c h p) = true) :
    (∀ k (hk : k < (allP c h p).length), (allP c h p)[k].X = fe (Xa q (allP c h p) k)) ∧ (∀ k (hk : k < (allP c h p).length), (allP c h p)[k].Y = bn (Ya (allP c h p) k) ∧ Ya (allP c h p) k < p) ∧
    (∀ k j, k < (allP c h p).length → j < (allP c h p).length → k ≠ j → Xa q (allP c h p) k - Xa q (allP c h p) j ≠ 0) := by
  obtain ⟨p1, p2⟩ := hv.pb
  obtain ⟨q1, q2⟩ := hv.qb
  have hall : ∀ x ∈ allP c h p, x.X.toNat < q ∧ x.Y.toNat < p := by
    intro x hx
    rcases List.mem_cons.1 hx with rfl | hx
    · simp only [shB, Bool.and_eq_true, decide_eq_true_eq, hv.grp] at h2
      have := h2.1.2
      rw [BitVec.lt_def, bn_nat (by omega)] at this
      have hm := Nat.mod_lt (h.Base.toNat ^ c.Share.Y.toNat) (show 0 < p by omega)
      exact ⟨this, by simp only; rw [bn_nat (by omega)]; exact hm⟩
    · simp only [hdB, Bool.and_eq_true] at h1
      have := List.all_eq_true.1 h1.2 x hx
      simp only [ptB, Bool.and_eq_true, decide_eq_true_eq, hv.grp, BitVec.lt_def] at this
      rw [bn_nat (by omega), bn_nat (by omega)] at this
      exact ⟨this.1.1.2, this.2⟩
  have gd : ∀ k (hk : k < (allP c h p).length), (allP c h p).getD k default = (allP c h p)[k] := fun k hk => by rw [List.getD_eq_getElem?_getD, List.getElem?_eq_getElem hk]; rfl
  refine ⟨fun k hk => ?_, fun k hk => ?_, fun k j hk hj hkj => ?_⟩
  · unfold Xa; rw [gd k hk, fe_fi (hall _ (List.getElem_mem hk)).1, bn_toNat]
  · unfold Ya; rw [gd k hk, bn_toNat]; exact ⟨rfl, (hall _ (List.getElem_mem hk)).2⟩
  · intro he
    have e1 : Xa q (allP c h p) k = Xa q (allP c h p) j := by grind
    unfold Xa at e1
    rw [gd k hk, gd j hj] at e1
    have e2 := fi_inj (hall _ (List.getElem_mem hk)).1 (hall _ (List.getElem_mem hj)).1 e1
    have e3 : (allP c h p)[k].X = (allP c h p)[j].X := BitVec.eq_of_toNat_eq e2
    unfold dstB at h3
    rw [decide_eq_true_eq, List.Nodup, List.pairwise_iff_getElem] at h3
    rcases Nat.lt_or_gt_of_ne hkj with hlt | hlt
    · exact h3 k j (by simpa using hk) (by simpa using hj) hlt (by simpa using e3)
    · exact h3 j k (by simpa using hj) (by simpa using hk) hlt (by simpa using e3.symm)
theorem open_same (s : TScheme) (c : TSecret) (h : THeader) (hl : h.Points.length * 16 ≤ 140737488351232) : ∃ r, poly_Open s c h = some r ∧ ref04_Open s c h = some r := by
  rcases valid_eq s with ⟨e1, e2⟩ | ⟨e1, e2, d, t, p, q, g, hv⟩
  · refine ⟨(k0, 30), ?_, ?_⟩
    · unfold poly_Open; rw [e1, bind_some]; rfl
    · unfold ref04_Open; rw [e2, bind_some]; rfl
  · obtain ⟨q1, q2⟩ := hv.qb
    haveI : NeZero q := ⟨by omega⟩
    rw [open_val hv e1 c h hl, ropen_val hv e2 c h hl]
    by_cases hb : hdB s h = true ∧ shB s c = true
    · rw [if_pos hb, if_pos hb]
      by_cases hd : dstB (allP c h p) = true
      · rw [if_pos hd, if_pos hd]
        obtain ⟨f1, f2, f3⟩ := pts_facts hv c h hb.1 hb.2 hd
        have hlen : (allP c h p).length < 4611686018427387904 := by simp [allP]; omega
        rw [open_loop hv h (allP c h p) (Xa q (allP c h p)) (Ya (allP c h p)) hlen f1 f2 f3, map_range (allP c h p) (·.X) (fun k => fe (Xa q (allP c h p) k)) f1, map_range (allP c h p) (·.Y) (fun k => bn (Ya (allP c h p) k)) (fun k hk => (f2 k hk).1),
          ropen_loop hv h _ (Xa q (allP c h p)) (Ya (allP c h p)) hlen (fun k hk => (f2 k hk).2) f3]
        unfold poly_Open_J3 ref04_Open_J4
        split <;> exact ⟨_, rfl, rfl⟩
      · rw [if_neg hd, if_neg hd]; exact ⟨_, rfl, rfl⟩
    · rw [if_neg hb, if_neg hb]; exact ⟨_, rfl, rfl⟩
end
theorem sameC_self (p : TSecret) (hl : p.Labels.length < 4611686018427387904) : ref03_SameSecret p p = some true := by
  unfold ref03_SameSecret ref03_SameSecret_J1
  rw [if_neg (by simp), if_neg (by simp), decide_eq_false (by simp), cond_false]
  exact same_go p.Labels.length _ _ hl (fun rec j hj => by simp only [ref03_SameSecret_L2]; rw [if_pos (by omega), getI_some hj, bind_some, bind_some, if_neg (by simp), w64_nat (by omega)]) (fun rec => by simp only [ref03_SameSecret_L2]; rw [if_neg (by omega)])
end Go.Sx.Po

end
section
/- Interpolation modulo a prime, plainly: values of polynomials, there is only one, divided differences, Newton's form. -/
set_option linter.unusedVariables false
set_option linter.unusedSimpArgs false
set_option linter.unusedSectionVars false
set_option maxRecDepth 100000
namespace Go.Sx.Po
open Go

section
variable {q : Nat} [NeZero q]
/-- the value of a polynomial -/
def evF (l : List (Fin q)) (x : Fin q) : Fin q := l.foldr (fun c a => c + x * a) 0
theorem evF_nil (x : Fin q) : evF [] x = 0 := rfl
theorem evF_cons (a : Fin q) (l : List (Fin q)) (x : Fin q) : evF (a :: l) x = a + x * evF l x := rfl
theorem evF_zeros (n : Nat) (x : Fin q) : evF (List.replicate n 0) x = 0 := by
  induction n with
  | zero => rfl
  | succ n ih => rw [List.replicate_succ, evF_cons, ih]; grind
theorem evF_app0 : ∀ (l : List (Fin q)) (n : Nat) (x : Fin q), evF (l ++ List.replicate n 0) x = evF l x
  | [], n, x => evF_zeros n x
  | a :: l, n, x => by rw [List.cons_append, evF_cons, evF_cons, evF_app0 l]
theorem evF_zip (r x : Fin q) : ∀ (a b : List (Fin q)), a.length = b.length → evF (List.zipWith (fun u v => u - v * r) a b) x = evF a x - evF b x * r
  | [], [], _ => by simp only [List.zipWith_nil_left, evF_nil]; grind
  | u :: a, v :: b, h => by
    have ih := evF_zip r x a b (by simpa using h)
    rw [List.zipWith_cons_cons, evF_cons, evF_cons, evF_cons, ih]; grind
theorem evF_add (x : Fin q) : ∀ (a b : List (Fin q)), a.length = b.length → evF (List.zipWith (· + ·) a b) x = evF a x + evF b x
  | [], [], _ => by simp only [List.zipWith_nil_left, evF_nil]; grind
  | u :: a, v :: b, h => by
    have ih := evF_add x a b (by simpa using h)
    rw [List.zipWith_cons_cons, evF_cons, evF_cons, evF_cons, ih]; grind
theorem evF_sub (x : Fin q) : ∀ (a b : List (Fin q)), a.length = b.length → evF (List.zipWith (· - ·) a b) x = evF a x - evF b x
  | [], [], _ => by simp only [List.zipWith_nil_left, evF_nil]; grind
  | u :: a, v :: b, h => by
    have ih := evF_sub x a b (by simpa using h)
    rw [List.zipWith_cons_cons, evF_cons, evF_cons, evF_cons, ih]; grind
theorem evF_scale (v x : Fin q) : ∀ (a : List (Fin q)), evF (a.map (· * v)) x = evF a x * v
  | [] => by simp only [List.map_nil, evF_nil]; grind
  | u :: a => by
    have ih := evF_scale v x a
    rw [List.map_cons, evF_cons, evF_cons, ih]; grind
/-- a polynomial times (x - r), plus c -/
theorem evF_lin (c r x : Fin q) (u : List (Fin q)) : evF (List.zipWith (fun a b => a - b * r) (c :: u) (u ++ [0])) x = c + (x - r) * evF u x := by
  rw [evF_zip r x _ _ (by simp), evF_cons, show [(0 : Fin q)] = List.replicate 1 0 from rfl, evF_app0]; grind
/-! there is only one -/
/-- a polynomial without its value at r, divided by (x - r) -/
def quot (r : Fin q) : List (Fin q) → List (Fin q)
  | [] => []
  | [_] => []
  | _ :: b :: t => evF (b :: t) r :: quot r (b :: t)
theorem quot_len (r : Fin q) : ∀ (c : List (Fin q)), (quot r c).length = c.length - 1
  | [] => rfl
  | [_] => rfl
  | a :: b :: t => by
    have := quot_len r (b :: t)
    rw [quot, List.length_cons, this]; simp
theorem quot_ev (r x : Fin q) : ∀ (c : List (Fin q)), evF c x - evF c r = (x - r) * evF (quot r c) x
  | [] => by simp only [quot, evF_nil]; grind
  | [a] => by simp only [quot, evF_cons, evF_nil]; grind
  | a :: b :: t => by
    have := quot_ev r x (b :: t)
    rw [quot, evF_cons a (b :: t) x, evF_cons a (b :: t) r, evF_cons _ (quot r (b :: t)) x]
    generalize evF (b :: t) x = u at *
    generalize evF (b :: t) r = v at *
    grind
theorem quot_zero (r : Fin q) : ∀ (c : List (Fin q)), (∀ a ∈ quot r c, a = 0) → evF c r = 0 → ∀ a ∈ c, a = 0
  | [], _, _ => by simp
  | [a], _, h => by
    rw [evF_cons, evF_nil] at h
    intro b hb
    rw [List.mem_singleton.1 hb]; grind
  | a :: b :: t, hq, h => by
    have h1 : evF (b :: t) r = 0 := hq _ (by simp [quot])
    have h2 := quot_zero r (b :: t) (fun x hx => hq x (by simp [quot, hx])) h1
    intro x hx
    rcases List.mem_cons.1 hx with rfl | hx
    · rw [evF_cons, h1] at h; grind
    · exact h2 x hx
theorem sub_ne {a b : Fin q} (h : a ≠ b) : a - b ≠ 0 := fun e => h (by grind)
theorem roots_zero (hP : Prm q) (q2 : q ≤ 1048575) : ∀ (xs c : List (Fin q)), xs.Nodup → c.length = xs.length → (∀ x ∈ xs, evF c x = 0) → ∀ a ∈ c, a = 0
  | [], c, _, hl, _ => by
    have : c = [] := List.length_eq_zero_iff.1 hl
    subst this; simp
  | r :: xs, c, hn, hl, hr => by
    rw [List.nodup_cons] at hn
    have h0 := hr r (by simp)
    refine quot_zero r c ?_ h0
    refine roots_zero hP q2 xs (quot r c) hn.2 (by rw [quot_len, hl]; simp) fun x hx => ?_
    have h1 := quot_ev r x c
    rw [h0, hr x (by simp [hx])] at h1
    have hne : x - r ≠ 0 := sub_ne fun e => hn.1 (e ▸ hx)
    have h2 := (iv_spec hP q2 hne).1
    grind
theorem only_one (hP : Prm q) (q2 : q ≤ 1048575) {xs a b : List (Fin q)} (hn : xs.Nodup) (ha : a.length = xs.length) (hb : b.length = xs.length) (h : ∀ x ∈ xs, evF a x = evF b x) : a = b := by
  have h0 := roots_zero hP q2 xs (List.zipWith (· - ·) a b) hn (by simp [ha, hb]) fun x hx => by rw [evF_sub x a b (by omega), h x hx]; grind
  apply List.ext_getElem (by omega)
  intro i h1 h2
  have := h0 ((List.zipWith (· - ·) a b)[i]'(by simp; omega)) (List.getElem_mem _)
  rw [List.getElem_zipWith] at this
  grind
/-! divided differences -/
/-- the divided difference of f at the points of a list and x -/
noncomputable def dd (f : Fin q → Fin q) : List (Fin q) → Fin q → Fin q
  | [], x => f x
  | a :: S, x => (dd f S x - dd f S a) * iv (x - a)
theorem dd_swap (hP : Prm q) (q2 : q ≤ 1048575) (f : Fin q → Fin q) (S : List (Fin q)) {a b : Fin q} (h : a ≠ b) : dd f (a :: S) b = dd f (b :: S) a := by
  have h1 := (iv_spec hP q2 (sub_ne h)).1
  have h2 := (iv_spec hP q2 (sub_ne (Ne.symm h))).1
  simp only [dd]
  grind
theorem dd_perm (hP : Prm q) (q2 : q ≤ 1048575) (f : Fin q → Fin q) {S T : List (Fin q)} (h : S.Perm T) : S.Nodup → ∀ x, x ∉ S → dd f S x = dd f T x := by
  induction h with
  | nil => intro _ _ _; rfl
  | cons a hp ih =>
    intro hn x hx
    rw [List.nodup_cons] at hn
    simp only [dd]
    rw [ih hn.2 x (fun h => hx (by simp [h])), ih hn.2 a hn.1]
  | swap a b S =>
    intro hn x hx
    have hxb : x ≠ b := fun e => hx (by simp [e])
    have hxa : x ≠ a := fun e => hx (by simp [e])
    have hba : b ≠ a := fun e => by rw [List.nodup_cons] at hn; exact hn.1 (by simp [e])
    have i1 := (iv_spec hP q2 (sub_ne hxb)).1
    have i2 := (iv_spec hP q2 (sub_ne hxa)).1
    have i3 := (iv_spec hP q2 (sub_ne hba)).1
    have i4 := (iv_spec hP q2 (sub_ne (Ne.symm hba))).1
    simp only [dd]
    generalize dd f S x = u at *
    generalize dd f S a = v at *
    generalize dd f S b = w at *
    generalize iv (x - a) = xa at *
    generalize iv (x - b) = xb at *
    generalize iv (b - a) = ba at *
    generalize iv (a - b) = ab at *
    have e : ab = -ba := by grind
    subst e
    have k1 : ((u - v) * xa - (w - v) * ba) * xb - ((u - w) * xb - (v - w) * -ba) * xa = 0 := by
      have : ((x - a) * (x - b) * (b - a)) * (((u - v) * xa - (w - v) * ba) * xb - ((u - w) * xb - (v - w) * -ba) * xa) = 0 := by grind
      have n1 := mul_ne hP q2 (mul_ne hP q2 (sub_ne hxa) (sub_ne hxb)) (sub_ne hba)
      have n2 := (iv_spec hP q2 n1).1
      grind
    grind
  | trans h1 h2 ih1 ih2 =>
    intro hn x hx
    rw [ih1 hn x hx, ih2 (h1.nodup_iff.1 hn) x (fun h => hx (h1.mem_iff.2 h))]
end
end Go.Sx.Po

end
section
/- Interpolation modulo a prime: the document's Lie, as a list of coefficients, and its values. -/
set_option linter.unusedVariables false
set_option linter.unusedSimpArgs false
set_option linter.unusedSectionVars false
set_option maxRecDepth 100000
namespace Go.Sx.Po
open Go

section
variable {q : Nat} [NeZero q]
def lst (f : Nat → Fin q) (n : Nat) : List (BitVec 64) := (List.range n).map fun k => fe (f k)
theorem lst_len (f : Nat → Fin q) (n : Nat) : (lst f n).length = n := by simp [lst]
theorem lst_get {f : Nat → Fin q} {n k : Nat} (h : k < n) : getI (lst f n) (k : Int) = some (fe (f k)) := by
  rw [getI_some (by rw [lst_len]; exact h)]; simp [lst]
theorem lst_set (f : Nat → Fin q) (n i : Nat) (v : Fin q) : (lst f n).set i (fe v) = lst (fun k => if k = i then v else f k) n := by
  apply List.ext_getElem
  · simp [lst]
  · intro k h1 h2
    rw [List.getElem_set]
    simp only [lst, List.getElem_map, List.getElem_range]
    by_cases e : i = k
    · rw [if_pos e, if_pos e.symm]
    · rw [if_neg e, if_neg (Ne.symm e)]
theorem lst_congr {f g : Nat → Fin q} {n : Nat} (h : ∀ k, k < n → f k = g k) : lst f n = lst g n := by
  unfold lst
  apply List.map_congr_left
  intro k hk
  rw [h k (List.mem_range.1 hk)]
/-- an element of a list of numbers -/
def el (l : List (Fin q)) (k : Nat) : Fin q := l.getD k 0
theorem el_some {l : List (Fin q)} {k : Nat} (h : k < l.length) : el l k = l[k] := by unfold el; rw [List.getD_eq_getElem?_getD, List.getElem?_eq_getElem h]; rfl
theorem lst_of_list (l : List (Fin q)) : l.map fe = lst (el l) l.length := by
  apply List.ext_getElem
  · simp [lst]
  · intro k h1 h2
    simp only [lst, List.getElem_map, List.getElem_range]
    rw [el_some]
theorem list_of_lst (l : List (Fin q)) (f : Nat → Fin q) (h : ∀ k (hk : k < l.length), l[k] = f k) : lst f l.length = l.map fe := by
  rw [lst_of_list]; exact lst_congr fun k hk => by rw [el_some hk, h k hk]
theorem fadd_eq (q1 : 2 ≤ q) (q2 : q ≤ 1048575) (a b : Fin q) : remU (fe a + fe b) (bn q) = some (fe (a + b)) := by
  have ha := a.isLt
  have hb := b.isLt
  unfold fe
  rw [bn_add, remU_bn (by omega) (by omega) (by omega)]; rfl
theorem fmulR_eq (q1 : 2 ≤ q) (q2 : q ≤ 1048575) (a b : Fin q) : remU (fe a * fe b) (bn q) = some (fe (a * b)) := by
  have ha := a.isLt
  have hb := b.isLt
  have hp : a.val * b.val ≤ 1048575 * 1048575 := Nat.mul_le_mul (by omega) (by omega)
  unfold fe
  rw [bn_mul, remU_bn (by omega) (by omega) (by omega)]; rfl
theorem mkL_zeros (n : Nat) (h : n * 8 ≤ 140737488355328) : mkL 8 (n : Int) 0#64 = some (lst (fun _ => (0 : Fin q)) n) := by
  unfold mkL
  rw [if_pos (by omega), Int.toNat_natCast]
  congr 1
  apply List.ext_getElem
  · simp [lst]
  · intro k h1 h2
    simp [lst]; rfl
/-- a list of coefficients times (x - r), plus c -/
def linL (c r : Fin q) (u : List (Fin q)) : List (Fin q) := List.zipWith (fun a b => a - b * r) (c :: u) (u ++ [0])
theorem linL_len (c r : Fin q) (u : List (Fin q)) : (linL c r u).length = u.length + 1 := by simp [linL]
/-- the element before -/
def pvl (l : List (Fin q)) (k : Nat) : Fin q := if k = 0 then 0 else el l (k - 1)
theorem linear_eq (q1 : 2 ≤ q) (q2 : q ≤ 1048575) (l : List (Fin q)) (r : Fin q) (hl : l.length < 1000) : ref04_linear (bn q) (l.map fe) (fe r) = some ((linL 0 r l).map fe) := by
  have hL : ∀ k, k < l.length → getI (l.map fe) (k : Int) = some (fe (el l k)) := fun k hk => by rw [lst_of_list, lst_get hk]
  unfold ref04_linear
  rw [List.length_map, w64_nat (by omega), mkL_zeros (q := q) _ (by omega), bind_some]
  refine fix_go _ (fun i st => st = (lst (fun k => if k < i then pvl l k - el l k * r else if k = i then pvl l k else 0) (l.length + 1), (i : Int))) l.length _ (by omega) ?_ ?_ ?_
  · congr 1
    apply lst_congr
    intro k hk
    by_cases e : k = 0
    · subst e; simp [pvl]
    · rw [if_neg (by omega), if_neg e]
  · rintro i _ hi rfl
    refine ⟨_, rfl, fun rec => ?_⟩
    simp only [ref04_linear_L1]
    rw [if_pos (by simp; omega), w64_nat (by omega), lst_get (by omega), bind_some, hL i hi, bind_some, if_neg (by omega), if_neg (by omega), fadd_eq q1 q2, bind_some, bind_some, Int.toNat_natCast, lst_set, lst_get (by omega), bind_some, bind_some, fmulR_eq q1 q2, bind_some, if_neg (by omega), if_neg (by omega), if_pos rfl, fminus_eq q1 q2, bind_some, bind_some, Int.toNat_natCast, lst_set]
    congr 2
    apply lst_congr
    intro k hk
    by_cases e1 : k = i
    · subst e1; rw [if_pos rfl, if_pos (by omega)]
    · rw [if_neg e1]
      by_cases e2 : k = i + 1
      · subst e2; rw [if_pos rfl, if_neg (by omega), if_pos rfl]; simp only [pvl]; rw [if_neg (by omega), Nat.add_sub_cancel]; grind
      · rw [if_neg e2]
        by_cases e3 : k < i
        · rw [if_pos e3, if_pos (by omega)]
        · rw [if_neg e3, if_neg e1, if_neg (by omega), if_neg e2]
  · rintro _ rfl rec
    simp only [ref04_linear_L1]
    rw [if_neg (by simp)]
    have e := linL_len 0 r l
    rw [← e]
    congr 1
    refine list_of_lst _ _ fun k hk => ?_
    rw [e] at hk
    simp only [linL, List.getElem_zipWith]
    have ha : (0 :: l)[k]'(by simp; omega) = pvl l k := by
      cases k with
      | zero => rfl
      | succ k => rw [List.getElem_cons_succ, pvl, if_neg (by omega), Nat.add_sub_cancel, el_some (by omega)]
    rw [ha]
    by_cases e2 : k < l.length
    · rw [if_pos e2, List.getElem_append_left e2, el_some e2]
    · have : k = l.length := by omega
      subst this
      rw [if_neg (by omega), if_pos rfl, List.getElem_append_right (by omega)]
      simp only [Nat.sub_self, List.getElem_cons_zero]; grind
/-! the document's sum -/
variable (X Y : Nat → Fin q)
/-- the polynomial with a point's value at its number and 0 at the others -/
noncomputable def basL (j : Nat) : Nat → List (Fin q)
  | 0 => [Y j]
  | k + 1 => if k = j then basL j k else (linL 0 (X k) (basL j k)).map (· * iv (X j - X k))
noncomputable def outL (n : Nat) : Nat → List (Fin q)
  | 0 => List.replicate n 0
  | j + 1 => List.zipWith (· + ·) (outL n j) (basL X Y j n)
theorem basL_len (j : Nat) : ∀ k, (basL X Y j k).length = if j < k then k else k + 1
  | 0 => rfl
  | k + 1 => by
    have ih := basL_len j k
    simp only [basL]
    by_cases e : k = j
    · rw [if_pos e, ih, if_neg (by omega), if_pos (by omega)]
    · rw [if_neg e, List.length_map, linL_len, ih]
      by_cases e2 : j < k
      · rw [if_pos e2, if_pos (by omega)]
      · rw [if_neg e2, if_neg (by omega)]
theorem outL_len (n : Nat) : ∀ j, j ≤ n → (outL X Y n j).length = n
  | 0, _ => by simp [outL]
  | j + 1, h => by
    have := basL_len X Y j n
    rw [if_pos (by omega)] at this
    simp [outL, outL_len n j (by omega), this]
theorem bas_zero (hP : Prm q) (q2 : q ≤ 1048575) (j i : Nat) (hij : i ≠ j) : ∀ k, i < k → evF (basL X Y j k) (X i) = 0
  | 0, h => by omega
  | k + 1, h => by
    simp only [basL]
    by_cases e : k = j
    · rw [if_pos e]; exact bas_zero hP q2 j i hij k (by omega)
    · rw [if_neg e, evF_scale, linL, evF_lin]
      by_cases e2 : i = k
      · subst e2; grind
      · rw [bas_zero hP q2 j i hij k (by omega)]; grind
theorem bas_own (hP : Prm q) (q2 : q ≤ 1048575) (j n : Nat) (hne : ∀ k, k < n → k ≠ j → X j - X k ≠ 0) : ∀ k, k ≤ n → evF (basL X Y j k) (X j) = Y j
  | 0, _ => by simp only [basL, evF_cons, evF_nil]; grind
  | k + 1, h => by
    have ih := bas_own hP q2 j n hne k (by omega)
    simp only [basL]
    by_cases e : k = j
    · rw [if_pos e]; exact ih
    · have h1 := (iv_spec hP q2 (hne k (by omega) e)).1
      rw [if_neg e, evF_scale, linL, evF_lin, ih]; grind
theorem out_ev (hP : Prm q) (q2 : q ≤ 1048575) (n i : Nat) (hi : i < n) (hne : ∀ k j, k < n → j < n → k ≠ j → X j - X k ≠ 0) : ∀ j, j ≤ n → evF (outL X Y n j) (X i) = if i < j then Y i else 0
  | 0, _ => by simp only [outL]; rw [evF_zeros, if_neg (by omega)]
  | j + 1, h => by
    have hb := basL_len X Y j n
    rw [if_pos (by omega)] at hb
    simp only [outL]
    rw [evF_add _ _ _ (by rw [outL_len X Y n j (by omega), hb]), out_ev hP q2 n i hi hne j (by omega)]
    by_cases e : i = j
    · subst e
      rw [bas_own X Y hP q2 i n (fun k hk he => hne k i hk hi he) n (Nat.le_refl _), if_neg (by omega), if_pos (by omega)]; grind
    · rw [bas_zero X Y hP q2 j i e n hi]
      by_cases e2 : i < j
      · rw [if_pos e2, if_pos (by omega)]; grind
      · rw [if_neg e2, if_neg (by omega)]; grind
theorem lie_eq (hP : Prm q) (q2 : q ≤ 1048575) (pts : List TPoint) (hn : pts.length < 900) (hX : ∀ k (hk : k < pts.length), pts[k].X = fe (X k)) (hY : ∀ k (hk : k < pts.length), pts[k].Y = fe (Y k)) (hne : ∀ k j, k < pts.length → j < pts.length → k ≠ j → X j - X k ≠ 0) :
    ref04_Lie (bn q) pts = some ((outL X Y pts.length pts.length).map fe) := by
  have q1 := hP.1
  unfold ref04_Lie
  rw [mkL_zeros (q := q) _ (by omega), bind_some]
  refine fix_go _ (fun j st => st = ((outL X Y pts.length j).map fe, (j : Int))) pts.length _ (by omega) ?_ ?_ ?_
  · congr 1
    have := list_of_lst (List.replicate pts.length (0 : Fin q)) (fun _ => 0) (fun k hk => by simp)
    rw [List.length_replicate] at this
    exact this
  · rintro j _ hj rfl
    refine ⟨_, rfl, fun rec => ?_⟩
    have hol := outL_len X Y pts.length j (by omega)
    have hbl : ∀ k, (basL X Y j k).length ≤ k + 1 := fun k => by rw [basL_len]; split <;> omega
    have hin : fixN (ref04_Lie_L2 (bn q) pts ((outL X Y pts.length j).map fe) (j : Int) rec) FUEL ([pts[j].Y], 0) = rec ((outL X Y pts.length (j + 1)).map fe, ((j + 1 : Nat) : Int)) := by
      refine fix_go _ (fun k st => st = ((basL X Y j k).map fe, (k : Int))) pts.length _ (by omega) ?_ ?_ ?_
      · simp only [basL, List.map_cons, List.map_nil]; rw [hY j hj]; rfl
      · rintro k _ hk rfl
        refine ⟨_, rfl, fun rec2 => ?_⟩
        have hbk := hbl k
        simp only [ref04_Lie_L2, basL]
        rw [if_pos (by omega), w64_nat (by omega)]
        by_cases e : k = j
        · rw [if_pos (by omega), if_pos e]
        · have h3 := hne k j hk hj e
          rw [if_neg (by omega), if_neg e, getI_some hj, bind_some, getI_some hk, bind_some, hX j hj, hX k hk, fminus_eq q1 q2, bind_some, (iv_spec hP q2 h3).2.2, bind_some, bind_some, hX k hk, linear_eq q1 q2 _ _ (by omega), bind_some]
          have hll := linL_len 0 (X k) (basL X Y j k)
          generalize hu : linL 0 (X k) (basL X Y j k) = u at *
          rw [lst_of_list u]
          refine fix_go _ (fun m st => st = (lst (fun i => if i < m then el u i * iv (X j - X k) else el u i) u.length, (m : Int))) u.length _ (by omega) ?_ ?_ ?_
          · simp
          · rintro m _ hm rfl
            refine ⟨_, rfl, fun rec3 => ?_⟩
            simp only [ref04_Lie_L3]
            rw [if_pos (by rw [lst_len]; omega), lst_get hm, bind_some, if_neg (by omega), fmulR_eq q1 q2, bind_some, bind_some, Int.toNat_natCast, lst_set, w64_nat (by omega)]
            congr 2
            apply lst_congr
            intro i hi
            by_cases e1 : i = m
            · subst e1; rw [if_pos rfl, if_pos (by omega)]
            · rw [if_neg e1]
              by_cases e2 : i < m
              · rw [if_pos e2, if_pos (by omega)]
              · rw [if_neg e2, if_neg (by omega)]
          · rintro _ rfl rec3
            simp only [ref04_Lie_L3]
            rw [if_neg (by rw [lst_len]; omega), w64_nat (by omega)]
            congr 2
            have := list_of_lst (u.map (· * iv (X j - X k))) (fun i => if i < u.length then el u i * iv (X j - X k) else el u i) (fun i hi => by
              have hi' : i < u.length := by simpa using hi
              rw [if_pos hi', List.getElem_map, el_some hi'])
            rw [List.length_map] at this
            exact this
      · rintro _ rfl rec2
        simp only [ref04_Lie_L2]
        have hb := basL_len X Y j pts.length
        rw [if_pos (by omega)] at hb
        rw [if_neg (by omega)]
        generalize hu : basL X Y j pts.length = u at *
        generalize hv : outL X Y pts.length j = v at *
        rw [lst_of_list v, hol]
        refine fix_go _ (fun m st => st = (lst (fun i => if i < m then el v i + el u i else el v i) pts.length, (m : Int))) pts.length _ (by omega) ?_ ?_ ?_
        · simp
        · rintro m _ hm rfl
          refine ⟨_, rfl, fun rec3 => ?_⟩
          simp only [ref04_Lie_L4]
          rw [if_pos (by rw [List.length_map]; omega), lst_get hm, bind_some, lst_of_list u, hb, lst_get hm, bind_some, if_neg (by omega), fadd_eq q1 q2, bind_some, bind_some, Int.toNat_natCast, lst_set, w64_nat (by omega)]
          congr 2
          apply lst_congr
          intro i hi
          by_cases e1 : i = m
          · subst e1; rw [if_pos rfl, if_pos (by omega)]
          · rw [if_neg e1]
            by_cases e2 : i < m
            · rw [if_pos e2, if_pos (by omega)]
            · rw [if_neg e2, if_neg (by omega)]
        · rintro _ rfl rec3
          simp only [ref04_Lie_L4]
          rw [if_neg (by rw [List.length_map]; omega), w64_nat (by omega)]
          congr 2
          simp only [outL]
          rw [hu, hv]
          have := list_of_lst (List.zipWith (· + ·) v u) (fun i => if i < pts.length then el v i + el u i else el v i) (fun i hi => by
            have hi' : i < pts.length := by simp at hi; omega
            rw [if_pos hi', List.getElem_zipWith, el_some (by omega), el_some (by omega)])
          rw [List.length_zipWith, hol, hb, Nat.min_self] at this
          exact this
    simp only [ref04_Lie_L1]
    rw [if_pos (by omega), getI_some hj, bind_some]
    exact hin
  · rintro _ rfl rec
    simp only [ref04_Lie_L1]
    rw [if_neg (by omega)]
end
end Go.Sx.Po

end
section
/- Interpolation modulo a prime: the program's Newton form comes to the same list. -/
set_option linter.unusedVariables false
set_option linter.unusedSimpArgs false
set_option linter.unusedSectionVars false
set_option maxRecDepth 100000
namespace Go.Sx.Po
open Go

theorem back_loop2 (l : List (BitVec 64)) (hl : l.length < 4611686018427387904) : ∀ (k f : Nat), k ≤ l.length → k < f → fixN (slices_Backward_1_c271_L1 l) f ((k : Int) - 1) = some ((List.range k).reverse.map fun i : Nat => ((i : Int), l.getD i 0#64))
  | k, 0, _, h => by omega
  | 0, f + 1, _, _ => by
    rw [fix_step]; simp only [slices_Backward_1_c271_L1]; rw [if_neg (by omega)]; rfl
  | k + 1, f + 1, hk, hf => by
    rw [fix_step]; simp only [slices_Backward_1_c271_L1]
    rw [show ((k + 1 : Nat) : Int) - 1 = (k : Int) from by omega, if_pos (by omega), getI_some (by omega), bind_some, w64_id (by omega) (by omega), back_loop2 l hl k f (by omega) (by omega), yl_some', List.range_succ, List.reverse_append, List.map_append]
    have hkk : k < l.length := by omega
    simp [hkk]
section
variable {q : Nat} [NeZero q] (X Y : Nat → Fin q)
/-- the table of divided differences behind step s -/
noncomputable def Tt : Nat → Nat → Fin q
  | 0, k => Y k
  | s + 1, k => if k < s + 1 then Tt s k else (Tt s k - Tt s (k - 1)) * iv (X k - X (k - (s + 1)))
/-- the coefficients behind m points, from the last one on -/
noncomputable def uL (n : Nat) : Nat → List (Fin q)
  | 0 => []
  | m + 1 => linL (Tt X Y (n - 1) (n - 1 - m)) (X (n - 1 - m)) (uL n m)
theorem uL_len (n : Nat) : ∀ m, (uL X Y n m).length = m
  | 0 => rfl
  | m + 1 => by rw [uL, linL_len, uL_len n m]
variable {s : TScheme} {d t p g : Nat}
theorem table_loop (h : Vld s d t p q g) (pts : List TPoint) (n : Nat) (hpn : pts.length = n) (hn : n < 900) (hX : ∀ k (hk : k < pts.length), pts[k].X = fe (X k)) (hne : ∀ k j, k < n → j < n → k ≠ j → X j - X k ≠ 0) (st : Nat) (hst : st + 1 < n) (rec3 : List (BitVec 64) × Int → Option (List (BitVec 64) × Int)) :
    fixN (poly_Interpolate_L4 s pts ((st + 1 : Nat) : Int) rec3) FUEL (lst (Tt X Y st) n, w64 ((n : Int) - 1)) = rec3 (lst (Tt X Y (st + 1)) n, ((st + 2 : Nat) : Int)) := by
  have hP := h.ok.2.1.2
  have q2 := h.ok.2.1.1
  have q1 := hP.1
  refine fix_go _ (fun j x => x = (lst (fun k => if n - 1 - j < k then Tt X Y (st + 1) k else Tt X Y st k) n, ((n - 1 - j : Nat) : Int))) (n - 1 - st) _ (by omega) ?_ ?_ ?_
  · rw [w64_id (by omega) (by omega), show ((n : Int) - 1) = ((n - 1 - 0 : Nat) : Int) from by omega]
    congr 1
    apply lst_congr
    intro k hk
    rw [if_neg (by omega)]
  · rintro j _ hj rfl
    refine ⟨_, rfl, fun rec => ?_⟩
    obtain ⟨i, hi⟩ : ∃ i, n - 1 - j = i := ⟨_, rfl⟩
    have hi2 : i < n := by omega
    have e1 : w64 ((i : Int) - 1) = ((i - 1 : Nat) : Int) := by rw [w64_id (by omega) (by omega)]; omega
    have e2 : w64 ((i : Int) - ((st + 1 : Nat) : Int)) = ((i - (st + 1) : Nat) : Int) := by rw [w64_id (by omega) (by omega)]; omega
    have h3 := hne (i - (st + 1)) i (by omega) hi2 (by omega)
    simp only [poly_Interpolate_L4]
    rw [hi, if_pos (by omega), lst_get hi2, bind_some, e1, lst_get (by omega), bind_some, getI_some (by omega), bind_some, e2, getI_some (by omega), bind_some, if_neg (by omega), if_neg (by omega), h.grp, hX i (by omega), hX (i - (st + 1)) (by omega)]
    simp only
    rw [fsub_eq q1 q2, bind_some, fsub_eq q1 q2, bind_some, fdiv_eq hP q2 h3, bind_some, bind_some, Int.toNat_natCast, lst_set, show n - 1 - (j + 1) = i - 1 from by omega]
    congr 2
    apply lst_congr
    intro k hk
    by_cases a1 : k = i
    · subst a1
      rw [if_pos rfl, if_pos (by omega)]
      simp only [Tt]
      rw [if_neg (by omega)]
    · rw [if_neg a1]
      by_cases a2 : i < k
      · rw [if_pos a2, if_pos (by omega)]
      · rw [if_neg a2, if_neg (by omega)]
  · rintro _ rfl rec
    simp only [poly_Interpolate_L4]
    rw [if_neg (by omega), w64_nat (by omega)]
    congr 2
    apply lst_congr
    intro k hk
    by_cases a2 : n - 1 - (n - 1 - st) < k
    · rw [if_pos a2]
    · rw [if_neg a2]; simp only [Tt]; rw [if_pos (by omega)]
/-- one point more -/
theorem horner_loop (h : Vld s d t p q g) (pts : List TPoint) (n : Nat) (hpn : pts.length = n) (hn : n < 900) (hX : ∀ k (hk : k < pts.length), pts[k].X = fe (X k)) (nx : List (BitVec 64) → Option (List (BitVec 64) × Int)) (i : Nat) (hi : i < n) (c : Fin q) (f : Nat → Fin q) :
    fixN (poly_Interpolate_L6 s pts nx (i : Int) (fe c)) FUEL (w64 ((n : Int) - 1), lst f n) = nx (lst (fun k => if k = 0 then c - f 0 * X i else f (k - 1) - f k * X i) n) := by
  have hP := h.ok.2.1.2
  have q2 := h.ok.2.1.1
  have q1 := hP.1
  refine fix_go _ (fun j x => x = (((n - 1 - j : Nat) : Int), lst (fun k => if n - 1 - j < k then f (k - 1) - f k * X i else f k) n)) (n - 1) _ (by omega) ?_ ?_ ?_
  · rw [w64_id (by omega) (by omega), show ((n : Int) - 1) = ((n - 1 - 0 : Nat) : Int) from by omega]
    congr 1
    apply lst_congr
    intro k hk
    rw [if_neg (by omega)]
  · rintro j _ hj rfl
    refine ⟨_, rfl, fun rec => ?_⟩
    obtain ⟨m, hm⟩ : ∃ m, n - 1 - j = m := ⟨_, rfl⟩
    have hm2 : m < n := by omega
    have e1 : w64 ((m : Int) - 1) = ((m - 1 : Nat) : Int) := by rw [w64_id (by omega) (by omega)]; omega
    simp only [poly_Interpolate_L6]
    rw [hm, if_pos (by omega), e1, lst_get (by omega), bind_some, lst_get hm2, bind_some, getI_some (by omega), bind_some, if_neg (by omega), if_neg (by omega), h.grp, hX i (by omega)]
    simp only
    rw [fmul_eq q1 q2, bind_some, fsub_eq q1 q2, bind_some, bind_some, Int.toNat_natCast, lst_set, show n - 1 - (j + 1) = m - 1 from by omega]
    congr 2
    apply lst_congr
    intro k hk
    by_cases a1 : k = m
    · subst a1; rw [if_pos rfl, if_pos (by omega)]
    · rw [if_neg a1]
      by_cases a2 : m < k
      · rw [if_pos a2, if_pos (by omega)]
      · rw [if_neg a2, if_neg (by omega)]
  · rintro _ rfl rec
    simp only [poly_Interpolate_L6]
    have e0 : getI (lst (fun k => if n - 1 - (n - 1) < k then f (k - 1) - f k * X i else f k) n) 0 = some (fe (f 0)) := by
      have := lst_get (f := fun k => if n - 1 - (n - 1) < k then f (k - 1) - f k * X i else f k) (show 0 < n by omega)
      rw [if_neg (by omega)] at this; exact this
    rw [if_neg (by omega), e0, bind_some, getI_some (by omega), bind_some, h.grp, hX i (by omega)]
    simp only
    rw [fmul_eq q1 q2, bind_some, fsub_eq q1 q2, bind_some, bind_some, show (0 : Int).toNat = 0 from rfl, lst_set]
    congr 1
    apply lst_congr
    intro k hk
    by_cases a1 : k = 0
    · rw [if_pos a1, if_pos a1]
    · rw [if_neg a1, if_neg a1, if_pos (by omega)]
theorem newton_loop (h : Vld s d t p q g) (pts : List TPoint) (n : Nat) (hpn : pts.length = n) (hn : n < 900) (hX : ∀ k (hk : k < pts.length), pts[k].X = fe (X k)) : ∀ k, k ≤ n →
    itL (poly_Interpolate_R5 s pts) poly_Interpolate_D5 ((List.range k).reverse.map fun i : Nat => ((i : Int), (lst (Tt X Y (n - 1)) n).getD i 0#64)) ((uL X Y n (n - k) ++ List.replicate k 0).map fe) = some ((uL X Y n n).map fe, 0)
  | 0, _ => by
    rw [List.replicate_zero, List.append_nil, Nat.sub_zero]; rfl
  | k + 1, hk => by
    have hk' : k < n := by omega
    have hul := uL_len X Y n (n - (k + 1))
    have hge : (lst (Tt X Y (n - 1)) n).getD k 0#64 = fe (Tt X Y (n - 1) k) := by
      rw [List.getD_eq_getElem?_getD, List.getElem?_eq_getElem (by rw [lst_len]; exact hk')]; simp [lst]
    rw [List.range_succ, List.reverse_append, List.map_append, show ([k].reverse.map fun i : Nat => ((i : Int), (lst (Tt X Y (n - 1)) n).getD i 0#64)) = [((k : Int), fe (Tt X Y (n - 1) k))] from by simp only [List.reverse_singleton, List.map_cons, List.map_nil, hge], List.singleton_append, itL_cons]
    simp only [poly_Interpolate_R5]
    have hlen : (uL X Y n (n - (k + 1)) ++ List.replicate (k + 1) 0).length = n := by rw [List.length_append, hul, List.length_replicate]; omega
    generalize hu : uL X Y n (n - (k + 1)) = u at *
    rw [List.length_map, hlen, lst_of_list (u ++ List.replicate (k + 1) 0), hlen, horner_loop X h pts n hpn hn hX _ k hk']
    have e3 : n - k = n - (k + 1) + 1 := by omega
    have e4 : n - 1 - (n - (k + 1)) = k := by omega
    have eU : uL X Y n (n - k) = linL (Tt X Y (n - 1) k) (X k) u := by rw [e3, uL, e4, hu]
    have hfin := newton_loop h pts n hpn hn hX k (by omega)
    rw [eU] at hfin
    rw [← hfin]
    congr 1
    have hll := linL_len (Tt X Y (n - 1) k) (X k) u
    have hL : (linL (Tt X Y (n - 1) k) (X k) u ++ List.replicate k 0).length = n := by rw [List.length_append, hll, List.length_replicate]; omega
    have := list_of_lst (linL (Tt X Y (n - 1) k) (X k) u ++ List.replicate k 0) (fun m => if m = 0 then Tt X Y (n - 1) k - el (u ++ List.replicate (k + 1) 0) 0 * X k else el (u ++ List.replicate (k + 1) 0) (m - 1) - el (u ++ List.replicate (k + 1) 0) m * X k) (fun m hm => by
      rw [hL] at hm
      have hz : ∀ j, j < n → el (u ++ List.replicate (k + 1) 0) j = if hj : j < u.length then u[j] else 0 := by
        intro j hj
        rw [el_some (by omega)]
        by_cases e : j < u.length
        · rw [dif_pos e, List.getElem_append_left e]
        · rw [dif_neg e, List.getElem_append_right (by omega), List.getElem_replicate]
      rw [hz m hm, hz 0 (by omega), hz (m - 1) (by omega)]
      by_cases e : m < u.length + 1
      · rw [List.getElem_append_left (by omega)]
        simp only [linL, List.getElem_zipWith]
        have e2 : (u ++ [(0 : Fin q)])[m]'(by simp; omega) = if hj : m < u.length then u[m] else 0 := by
          by_cases e5 : m < u.length
          · rw [dif_pos e5, List.getElem_append_left e5]
          · rw [dif_neg e5, List.getElem_append_right (by omega)]; simp
        rw [e2]
        cases m with
        | zero => rw [if_pos rfl]; rfl
        | succ m => rw [if_neg (by omega), List.getElem_cons_succ, Nat.add_sub_cancel, dif_pos (show m < u.length by omega)]
      · rw [List.getElem_append_right (by omega), List.getElem_replicate, if_neg (by omega), dif_neg (by omega), dif_neg (by omega)]; grind)
    rw [hL] at this
    exact this
theorem newton_eq (h : Vld s d t p q g) (pts : List TPoint) (n : Nat) (hpn : pts.length = n) (h1 : 1 ≤ n) (hn : n < 900) (hX : ∀ k (hk : k < pts.length), pts[k].X = fe (X k)) (hY : ∀ k (hk : k < pts.length), pts[k].Y = fe (Y k)) (hne : ∀ k j, k < n → j < n → k ≠ j → X j - X k ≠ 0) :
    poly_Interpolate_J1 s pts false = some ((uL X Y n n).map fe, 0) := by
  unfold poly_Interpolate_J1
  rw [cond_false, hpn, mkL_zeros (q := q) _ (by omega), bind_some]
  have h3 : fixN (poly_Interpolate_L3 s pts) FUEL (lst Y n, 1) = some ((uL X Y n n).map fe, 0) := by
    refine fix_go _ (fun st x => x = (lst (Tt X Y st) n, ((st + 1 : Nat) : Int))) (n - 1) _ (by omega) (by rfl) ?_ ?_
    · rintro st _ hst rfl
      refine ⟨_, rfl, fun rec => ?_⟩
      simp only [poly_Interpolate_L3]
      rw [lst_len, if_pos (by omega)]
      exact table_loop X Y h pts n hpn hn hX hne st (by omega) rec
    · rintro _ rfl rec
      simp only [poly_Interpolate_L3]
      unfold slices_Backward_f243 slices_Backward_1_c271
      rw [lst_len, if_neg (by omega), mkL_zeros (q := q) _ (by omega), bind_some, bind_some, lst_len, w64_id (by omega) (by omega), back_loop2 _ (by rw [lst_len]; omega) n FUEL (by rw [lst_len]; omega) (fuel_lt (by omega)), bind_some]
      have := newton_loop X Y h pts n hpn hn hX n (Nat.le_refl _)
      rw [Nat.sub_self] at this
      have e : lst (fun _ => (0 : Fin q)) n = (uL X Y n 0 ++ List.replicate n 0).map fe := by
        have := list_of_lst (List.replicate n (0 : Fin q)) (fun _ => 0) (fun k hk => by simp)
        rw [List.length_replicate] at this
        exact this
      rw [e]
      exact this
  refine fix_go _ (fun j x => x = (lst (fun k => if k < j then Y k else 0) n, (j : Int))) n _ (by omega) (by simp) ?_ ?_
  · rintro j _ hj rfl
    refine ⟨_, rfl, fun rec => ?_⟩
    simp only [poly_Interpolate_L2]
    rw [if_pos (by omega), getI_some (by omega), bind_some, lst_get hj, bind_some, hY j (by omega), Int.toNat_natCast, lst_set, w64_nat (by omega)]
    congr 2
    apply lst_congr
    intro k hk
    by_cases e : k = j
    · subst e; rw [if_pos rfl, if_pos (by omega)]
    · rw [if_neg e]
      by_cases e2 : k < j
      · rw [if_pos e2, if_pos (by omega)]
      · rw [if_neg e2, if_neg (by omega)]
  · rintro _ rfl rec
    simp only [poly_Interpolate_L2]
    rw [if_neg (by omega)]
    have e : lst (fun k => if k < n then Y k else 0) n = lst Y n := lst_congr fun k hk => by rw [if_pos hk]
    rw [e]; exact h3
/-! what the Newton form is worth -/
/-- the values at the points -/
def fy (n : Nat) (x : Fin q) : Fin q := match (List.range n).find? (fun k => decide (X k = x)) with | some k => Y k | none => 0
theorem fy_eq {n : Nat} (hne : ∀ k j, k < n → j < n → k ≠ j → X j - X k ≠ 0) {k : Nat} (hk : k < n) : fy X Y n (X k) = Y k := by
  unfold fy
  cases e : (List.range n).find? (fun j => decide (X j = X k)) with
  | none =>
    have := List.find?_eq_none.1 e k (List.mem_range.2 hk)
    simp at this
  | some j =>
    have h1 := List.find?_some e
    have h2 := List.mem_range.1 (List.mem_of_find?_eq_some e)
    simp only [decide_eq_true_eq] at h1
    by_cases ejk : j = k
    · rw [ejk]
    · exact absurd (by rw [h1]; grind) (hne k j hk h2 (Ne.symm ejk))
/-- the points from a to b -/
def seg (a b : Nat) : List (Fin q) := (List.range' a (b - a)).map X
theorem seg_nil (a : Nat) : seg X a a = [] := by simp [seg]
theorem seg_cons {a b : Nat} (h : a < b) : seg X a b = X a :: seg X (a + 1) b := by
  unfold seg
  obtain ⟨m, hm⟩ : ∃ m, b - a = m + 1 := ⟨b - a - 1, by omega⟩
  rw [hm, List.range'_succ, List.map_cons, show b - (a + 1) = m from by omega]
theorem seg_snoc {a b : Nat} (h : a ≤ b) : seg X a (b + 1) = seg X a b ++ [X b] := by
  unfold seg
  rw [show b + 1 - a = (b - a) + 1 from by omega, List.range'_concat, List.map_append]
  simp; congr 1; omega
theorem seg_nodup {n a b : Nat} (hb : b ≤ n) (hne : ∀ k j, k < n → j < n → k ≠ j → X j - X k ≠ 0) : (seg X a b).Nodup := by
  unfold seg
  rw [List.Nodup, List.pairwise_map]
  refine List.Pairwise.imp_of_mem ?_ (List.nodup_range' (step := 1) (s := a) (n := b - a))
  intro i j hi hj hij he
  have hi' := List.mem_range'_1.1 hi
  have hj' := List.mem_range'_1.1 hj
  exact hne i j (by omega) (by omega) hij (by rw [he]; grind)
theorem seg_not {n a b k : Nat} (hb : b ≤ n) (hk : k < n) (hkab : k < a ∨ b ≤ k) (hne : ∀ k j, k < n → j < n → k ≠ j → X j - X k ≠ 0) : X k ∉ seg X a b := by
  unfold seg
  intro hm
  obtain ⟨j, hj, he⟩ := List.mem_map.1 hm
  have hj' := List.mem_range'_1.1 hj
  exact hne k j hk (by omega) (by omega) (by rw [he]; grind)
theorem ne_of {n k j : Nat} (hne : ∀ k j, k < n → j < n → k ≠ j → X j - X k ≠ 0) (hk : k < n) (hj : j < n) (h : k ≠ j) : X k ≠ X j := fun e => hne k j hk hj h (by rw [e]; grind)
theorem Tt_dd (hP : Prm q) (q2 : q ≤ 1048575) {n : Nat} (hne : ∀ k j, k < n → j < n → k ≠ j → X j - X k ≠ 0) : ∀ st k, st ≤ k → k < n → Tt X Y st k = dd (fy X Y n) (seg X (k - st) k) (X k)
  | 0, k, _, hk => by
    rw [Nat.sub_zero, seg_nil]; simp only [Tt, dd]; rw [fy_eq X Y hne hk]
  | st + 1, k, hs, hk => by
    have ih1 := Tt_dd hP q2 hne st k (by omega) hk
    have ih2 := Tt_dd hP q2 hne st (k - 1) (by omega) (by omega)
    simp only [Tt]
    rw [if_neg (by omega), ih1, ih2, seg_cons X (show k - (st + 1) < k by omega)]
    simp only [dd]
    rw [show k - (st + 1) + 1 = k - st from by omega]
    congr 2
    obtain ⟨a, ha⟩ : ∃ a, k - (st + 1) = a := ⟨_, rfl⟩
    obtain ⟨b, hb⟩ : ∃ b, k = b + 1 := ⟨k - 1, by omega⟩
    subst hb
    rw [ha, show b + 1 - st = a + 1 from by omega, Nat.add_sub_cancel, show b - st = a from by omega]
    by_cases e : a = b
    · subst e
      rw [seg_nil, seg_nil]
    · rw [seg_cons X (show a < b by omega), seg_snoc X (show a + 1 ≤ b by omega), dd_swap hP q2 _ _ (ne_of X hne (show a < n by omega) (show b < n by omega) e)]
      symm
      refine dd_perm hP q2 _ (List.perm_append_singleton _ _) ?_ _ ?_
      · have := seg_nodup X (a := a + 1) (b := b + 1) (by omega) hne
        rwa [seg_snoc X (show a + 1 ≤ b by omega)] at this
      · have := seg_not X (a := a + 1) (b := b + 1) (k := a) (by omega) (by omega) (.inl (by omega)) hne
        rwa [seg_snoc X (show a + 1 ≤ b by omega)] at this
theorem Tt_last {n k : Nat} : ∀ m, Tt X Y (k + m) k = Tt X Y k k
  | 0 => rfl
  | m + 1 => by rw [show k + (m + 1) = (k + m) + 1 from rfl]; simp only [Tt]; rw [if_pos (by omega)]; exact Tt_last (n := n) m
theorem newton_ev (hP : Prm q) (q2 : q ≤ 1048575) {n : Nat} (hne : ∀ k j, k < n → j < n → k ≠ j → X j - X k ≠ 0) : ∀ m j, m ≤ n → n - m ≤ j → j < n → evF (uL X Y n m) (X j) = dd (fy X Y n) (seg X 0 (n - m)) (X j)
  | 0, j, _, h1, h2 => by omega
  | m + 1, j, hm, h1, h2 => by
    obtain ⟨i, hi⟩ : ∃ i, n - 1 - m = i := ⟨_, rfl⟩
    have hin : i < n := by omega
    have hd : Tt X Y (n - 1) i = dd (fy X Y n) (seg X 0 i) (X i) := by
      have := Tt_last X Y (n := n) (k := i) (n - 1 - i)
      rw [show i + (n - 1 - i) = n - 1 from by omega] at this
      rw [this, Tt_dd X Y hP q2 hne i i (Nat.le_refl _) hin, Nat.sub_self]
    rw [uL, hi, linL, evF_lin, hd, show n - (m + 1) = i from by omega]
    by_cases e : j = i
    · subst e; grind
    · have ih := newton_ev hP q2 hne m j (by omega) (by omega) h2
      rw [ih, show n - m = i + 1 from by omega, seg_snoc X (Nat.zero_le i)]
      have hp : dd (fy X Y n) (seg X 0 i ++ [X i]) (X j) = dd (fy X Y n) (X i :: seg X 0 i) (X j) := by
        refine dd_perm hP q2 _ (List.perm_append_singleton _ _) ?_ _ ?_
        · have := seg_nodup X (a := 0) (b := i + 1) (by omega) hne
          rwa [seg_snoc X (Nat.zero_le i)] at this
        · have := seg_not X (a := 0) (b := i + 1) (k := j) (by omega) h2 (.inr (by omega)) hne
          rwa [seg_snoc X (Nat.zero_le i)] at this
      rw [hp]
      simp only [dd]
      have h3 := (iv_spec hP q2 (hne i j hin h2 (Ne.symm e))).1
      grind
theorem newton_val (hP : Prm q) (q2 : q ≤ 1048575) {n : Nat} (hne : ∀ k j, k < n → j < n → k ≠ j → X j - X k ≠ 0) {j : Nat} (hj : j < n) : evF (uL X Y n n) (X j) = Y j := by
  rw [newton_ev X Y hP q2 hne n j (Nat.le_refl _) (by omega) hj, Nat.sub_self, seg_nil]
  exact fy_eq X Y hne hj
/-- both lists are the same -/
theorem newton_lie (hP : Prm q) (q2 : q ≤ 1048575) {n : Nat} (hne : ∀ k j, k < n → j < n → k ≠ j → X j - X k ≠ 0) : uL X Y n n = outL X Y n n := by
  have hs : (seg X 0 n).length = n := by simp [seg]
  refine only_one hP q2 (seg_nodup X (a := 0) (b := n) (Nat.le_refl _) hne) (by rw [uL_len, hs]) (by rw [outL_len X Y n n (Nat.le_refl _), hs]) fun x hx => ?_
  obtain ⟨j, hj, rfl⟩ := List.mem_map.1 hx
  have hj' := List.mem_range'_1.1 hj
  rw [newton_val X Y hP q2 hne (by omega), out_ev X Y hP q2 n j (by omega) hne n (Nat.le_refl _), if_pos (by omega)]
end
end Go.Sx.Po

end
section
/- Values and interpolation: the program's calls are the document's. -/
set_option linter.unusedVariables false
set_option linter.unusedSimpArgs false
set_option linter.unusedSectionVars false
set_option maxRecDepth 100000
namespace Go.Sx.Po
open Go

theorem sameW_self (l : List (BitVec 64)) (hl : l.length < 4611686018427387904) : ref04_SameWords l l = some true := by
  unfold ref04_SameWords
  rw [if_neg (by simp)]
  exact same_go l.length _ _ hl (fun rec j hj => by simp only [ref04_SameWords_L1]; rw [if_pos (by omega), getI_some hj, bind_some, bind_some, if_neg (by simp), w64_nat (by omega)]) (fun rec => by simp only [ref04_SameWords_L1]; rw [if_neg (by omega)])
theorem coef_same (root : W2) (s : TScheme) : ∃ r, poly_Coefficients root s = some r ∧ ref04_Coefficients root s = some r ∧ r.1.length < 4611686018427387904 := by
  unfold poly_Coefficients ref04_Coefficients
  rcases valid_eq s with ⟨e1, e2⟩ | ⟨e1, e2, d, t, p, q, g, h⟩
  · rw [e1, e2]; exact ⟨_, rfl, rfl, by simp⟩
  · have ht := h.t8
    rw [e1, e2, bind_some, bind_some]
    simp only [Bool.not_true, cond_false]
    rw [secret_eq h, rsecret_eq h, bind_some]
    exact ⟨_, rfl, rfl, by rw [List.length_map, cfs_len]; omega⟩
theorem check_same (s : TScheme) : ∃ r, poly_Check s = some r ∧ ref04_Check s = some r := by
  unfold poly_Check ref04_Check
  rcases valid_eq s with ⟨e1, e2⟩ | ⟨e1, e2, _⟩ <;> rw [e1, e2] <;> exact ⟨_, rfl, rfl⟩
/-! values -/
theorem max_lt (Q : BitVec 64) : ∀ (l : List (BitVec 64)) (a : BitVec 64), (l.foldl mxU a < Q) ↔ (a < Q ∧ ∀ x ∈ l, x < Q)
  | [], a => by simp
  | b :: l, a => by
    rw [List.foldl_cons, max_lt Q l]
    have : mxU a b < Q ↔ (a < Q ∧ b < Q) := by
      unfold mxU
      split
      · rename_i h; rw [BitVec.lt_def] at *; constructor
        · intro h2; rw [BitVec.lt_def]; exact ⟨by omega, h2⟩
        · intro h2; exact h2.2
      · rename_i h; rw [BitVec.lt_def] at *; constructor
        · intro h2; rw [BitVec.lt_def]; exact ⟨h2, by omega⟩
        · intro h2; exact h2.1
    rw [this]
    constructor
    · rintro ⟨⟨h1, h2⟩, h3⟩; exact ⟨h1, fun x hx => by rcases List.mem_cons.1 hx with rfl | hx; exact h2; exact h3 x hx⟩
    · rintro ⟨h1, h2⟩; exact ⟨⟨h1, h2 b (by simp)⟩, fun x hx => h2 x (by simp [hx])⟩
theorem max_eq (l : List (BitVec 64)) (hl : l.length < 4611686018427387904) (h0 : 1 ≤ l.length) : ∃ m, slices_Max_6ac0 l = some m ∧ ∀ Q, m < Q ↔ ∀ x ∈ l, x < Q := by
  refine ⟨l.foldl mxU l[0], ?_, fun Q => ?_⟩
  · unfold slices_Max_6ac0
    rw [if_neg (by omega), show (0 : Int) = ((0 : Nat) : Int) from rfl, getI_some (by omega), bind_some]
    refine fix_go _ (fun j x => x = ((l.take (j + 1)).foldl mxU l[0], ((j + 1 : Nat) : Int))) (l.length - 1) _ (by omega) ?_ ?_ ?_
    · have : l.take 1 = [l[0]] := by
        rw [show (1 : Nat) = 0 + 1 from rfl, take_snoc l 0 (by omega)]; simp
      rw [this]; simp [mxU]
    · rintro j _ hj rfl
      refine ⟨_, rfl, fun rec => ?_⟩
      simp only [slices_Max_6ac0_L1]
      rw [if_pos (by omega), getI_some (by omega), bind_some, w64_nat (by omega), take_snoc l (j + 1) (by omega), List.foldl_append]; rfl
    · rintro _ rfl rec
      simp only [slices_Max_6ac0_L1]
      rw [if_neg (by omega), List.take_of_length_le (by omega)]
  · rw [max_lt]
    exact ⟨fun h => h.2, fun h => ⟨h _ (List.getElem_mem (by omega)), h⟩⟩
theorem polynomial_eq (s : TScheme) (l : List (BitVec 64)) (hl : l.length < 4611686018427387904) (he : (l.length : Int) = w64 (s.Degree + 1)) : ref04_Polynomial s l = some (l.all fun x => decide (x < s.Group.Q)) := by
  unfold ref04_Polynomial
  rw [if_neg (by simpa using he)]
  have := fix_range l.length (ref04_Polynomial_L1 s l) (fun j (_ : Unit) => (j : Int)) (fun j nx u => bif decide (l.getD j 0#64 < s.Group.Q) then nx u else some false) (fun _ => some true)
    (fun rec j hj _ => by
      have e : l.getD j 0#64 = l[j] := by rw [List.getD_eq_getElem?_getD, List.getElem?_eq_getElem hj]; rfl
      simp only [ref04_Polynomial_L1]
      rw [if_pos (by omega), getI_some hj, bind_some, e, w64_nat (by omega)]
      by_cases h : s.Group.Q ≤ l[j]
      · rw [if_pos h, decide_eq_false (by rw [BitVec.lt_def]; rw [BitVec.le_def] at h; omega)]; rfl
      · rw [if_neg h, decide_eq_true (by rw [BitVec.lt_def]; rw [BitVec.le_def] at h; omega)]; rfl)
    (fun rec _ => by simp only [ref04_Polynomial_L1]; rw [if_neg (by omega)]) (f := FUEL) (fuel_lt (by omega)) ()
  rw [show ((0 : Nat) : Int) = 0 from rfl] at this
  rw [this, all_itL _ (some true) (some false) _ _ (fun a _ nx s => rfl), range_all l (fun x => decide (x < s.Group.Q)) 0#64]
  cases l.all _ <;> rfl
theorem words_nat {q : Nat} (hq : q < 18446744073709551616) (l : List (BitVec 64)) (h : ∀ x ∈ l, x < bn q) : ∃ ln : List Nat, l = ln.map bn ∧ ∀ c ∈ ln, c < q := by
  refine ⟨l.map (·.toNat), ?_, ?_⟩
  · rw [List.map_map]
    conv => lhs; rw [← List.map_id l]
    apply List.map_congr_left
    intro x _; simp [bn]
  · intro c hc
    obtain ⟨x, hx, rfl⟩ := List.mem_map.1 hc
    have := h x hx
    rwa [BitVec.lt_def, bn_nat hq] at this
section
variable {s : TScheme} {d t p q g : Nat}
/-- the value of right coefficients at a right number -/
theorem value_val (h : Vld s d t p q g) (e1 : poly_valid s = some true) (ln : List Nat) (hl : ∀ c ∈ ln, c < q) (hlen : ln.length = t + 1) {x : Nat} (hx : x < q) : poly_Value s (ln.map bn) (bn x) = some (bn (evN ln x % q), 0) := by
  obtain ⟨q1, q2⟩ := h.qb
  have ht := h.t8
  obtain ⟨m, m1, m2⟩ := max_eq (ln.map bn) (by simp; omega) (by simp; omega)
  have hm : m < bn q := (m2 _).2 fun x hx => by
    obtain ⟨c, hc, rfl⟩ := List.mem_map.1 hx
    exact (bn_lt (by have := hl c hc; omega) (by omega)).2 (hl c hc)
  unfold poly_Value poly_Value_J1
  rw [e1, bind_some]
  simp only [Bool.not_true, cond_false]
  rw [if_neg (by rw [h.deg, w64_id (by omega) (by omega), List.length_map]; omega), m1, bind_some, h.grp]
  simp only
  rw [if_neg (by rw [BitVec.le_def]; rw [BitVec.lt_def] at hm; omega), decide_eq_false (by rw [bn_le (by omega) (by omega)]; omega), cond_false, at_eq q1 q2 hx ln hl (by omega), bind_some]
end
theorem value_same (s : TScheme) (l : List (BitVec 64)) (x : BitVec 64) (hl : l.length < 4611686018427387904) : ∃ r, poly_Value s l x = some r ∧ ref04_Value s l x = some r := by
  unfold poly_Value ref04_Value poly_Value_J1 ref04_Value_J1
  rcases valid_eq s with ⟨e1, e2⟩ | ⟨e1, e2, d, t, p, q, g, h⟩
  · rw [e1, e2]; exact ⟨_, rfl, rfl⟩
  · obtain ⟨q1, q2⟩ := h.qb
    have ht := h.t8
    rw [e1, e2, bind_some, bind_some]
    simp only [Bool.not_true, cond_false]
    by_cases hlen : (l.length : Int) = w64 (s.Degree + 1)
    · have hlt : (l.length : Int) = t + 1 := by rw [hlen, h.deg, w64_id (by omega) (by omega)]
      obtain ⟨m, m1, m2⟩ := max_eq l hl (by omega)
      rw [if_neg (by simpa using hlen), m1, bind_some, polynomial_eq s l hl hlen, bind_some]
      by_cases hall : ∀ y ∈ l, y < s.Group.Q
      · have ha : (l.all fun x => decide (x < s.Group.Q)) = true := List.all_eq_true.2 fun y hy => decide_eq_true (hall y hy)
        have hm := (m2 s.Group.Q).2 hall
        rw [ha, if_neg (by rw [BitVec.le_def]; rw [BitVec.lt_def] at hm; omega)]
        simp only [Bool.not_true, cond_false]
        by_cases hx : s.Group.Q ≤ x
        · rw [decide_eq_true hx]; exact ⟨_, rfl, rfl⟩
        · rw [decide_eq_false hx, cond_false, cond_false]
          rw [h.grp] at hall hx ⊢
          simp only at hall hx ⊢
          obtain ⟨ln, rfl, h2⟩ := words_nat (by omega) l hall
          have hx2 : x.toNat < q := by rw [BitVec.le_def, bn_nat (by omega)] at hx; omega
          rw [← bn_toNat x, at_eq q1 q2 hx2 ln h2 (by simp at hl; exact hl), value_of_eq q1 q2 hx2 ln h2 (by simp at hl; exact hl)]
          exact ⟨_, rfl, rfl⟩
      · have ha : (l.all fun x => decide (x < s.Group.Q)) = false := by
          rw [Bool.eq_false_iff]; intro e; exact hall fun y hy => of_decide_eq_true (List.all_eq_true.1 e y hy)
        have hm : ¬ m < s.Group.Q := fun e => hall ((m2 _).1 e)
        rw [ha, if_pos (by rw [BitVec.le_def]; rw [BitVec.lt_def] at hm; omega)]
        exact ⟨_, rfl, rfl⟩
    · rw [if_pos (by simpa using hlen)]
      unfold ref04_Polynomial
      rw [if_pos (by simpa using hlen)]
      exact ⟨_, rfl, rfl⟩
/-! interpolation -/
/-- whether points are right -/
def rtB (Q : BitVec 64) (l : List TPoint) : Bool := (l.all fun x => decide (x.X < Q) && decide (x.Y < Q)) && dstB l
theorem right_eq (Q : BitVec 64) (l : List TPoint) (hl : l.length < 4611686018427387904) : ref04_Right Q l = some (rtB Q l) := by
  have inner : ∀ (j : Nat) (hj : j < l.length) (rec2 : Int → Option Bool), fixN (ref04_Right_L3 l (j : Int) rec2) FUEL 0 = bif ((l.take j).any fun x => decide (x.X = l[j].X)) then some false else rec2 ((j + 1 : Nat) : Int) := by
    intro j hj rec2
    have := fix_range j (ref04_Right_L3 l (j : Int) rec2) (fun k (_ : Unit) => (k : Int)) (fun k nx u => bif !decide ((l.getD k default).X = l[j].X) then nx u else some false) (fun _ => rec2 ((j + 1 : Nat) : Int))
      (fun rec k hk _ => by
        have hk' : k < l.length := by omega
        have e : l.getD k default = l[k] := by rw [List.getD_eq_getElem?_getD, List.getElem?_eq_getElem hk']; rfl
        simp only [ref04_Right_L3]
        rw [if_pos (by omega), getI_some hk', bind_some, getI_some hj, bind_some, e, w64_nat (by omega)]
        by_cases hx : l[k].X = l[j].X
        · rw [if_pos hx, decide_eq_true hx]; rfl
        · rw [if_neg hx, decide_eq_false hx]; rfl)
      (fun rec _ => by simp only [ref04_Right_L3]; rw [if_neg (by omega), w64_nat (by omega)]) (f := FUEL) (fuel_lt (by omega)) ()
    rw [show ((0 : Nat) : Int) = 0 from rfl] at this
    rw [this, all_itL _ (rec2 ((j + 1 : Nat) : Int)) (some false) _ _ (fun a _ nx s => rfl)]
    have e : ((List.range j).all fun k => !decide ((l.getD k default).X = l[j].X)) = !((l.take j).any fun x => decide (x.X = l[j].X)) := by
      rw [Bool.eq_iff_iff, List.all_eq_true, Bool.not_eq_true', List.any_eq_false]
      constructor
      · intro h1 x hx
        rw [List.mem_take_iff_getElem] at hx
        obtain ⟨i, hi, rfl⟩ := hx
        have hi' : i < l.length := by omega
        have := h1 i (List.mem_range.2 (by omega))
        rw [List.getD_eq_getElem?_getD, List.getElem?_eq_getElem hi'] at this
        simpa using this
      · intro h1 k hk
        have hk1 := List.mem_range.1 hk
        have hk' : k < l.length := by omega
        have := h1 l[k] (by rw [List.mem_take_iff_getElem]; exact ⟨k, by omega, rfl⟩)
        rw [List.getD_eq_getElem?_getD, List.getElem?_eq_getElem hk']
        simpa using this
    rw [e]
    cases ((l.take j).any fun x => decide (x.X = l[j].X)) <;> rfl
  unfold ref04_Right rtB
  have := fix_range l.length (ref04_Right_L1 Q l) (fun j (_ : Unit) => (j : Int)) (fun j nx u => bif (decide ((l.getD j default).X < Q) && decide ((l.getD j default).Y < Q)) && !(((l.map (·.X)).take j).any fun x => decide (some x = (l.map (·.X))[j]?)) then nx u else some false) (fun _ => some true)
    (fun rec j hj _ => by
      have e : l.getD j default = l[j] := by rw [List.getD_eq_getElem?_getD, List.getElem?_eq_getElem hj]; rfl
      have e2 : (((l.map (·.X)).take j).any fun x => decide (some x = (l.map (·.X))[j]?)) = ((l.take j).any fun x => decide (x.X = l[j].X)) := by
        rw [← List.map_take, List.any_map]; congr 1; funext x; simp [hj]
      simp only [ref04_Right_L1, ref04_Right_J2]
      rw [if_pos (by omega), getI_some hj, bind_some, e, e2]
      by_cases a1 : Q ≤ l[j].X
      · rw [if_pos a1]; have : ¬ l[j].X < Q := by rw [BitVec.lt_def]; rw [BitVec.le_def] at a1; omega
        simp [this]
      · rw [if_neg a1, bind_some]; have b1 : l[j].X < Q := by rw [BitVec.lt_def]; rw [BitVec.le_def] at a1; omega
        by_cases a2 : Q ≤ l[j].Y
        · rw [decide_eq_true a2]; have : ¬ l[j].Y < Q := by rw [BitVec.lt_def]; rw [BitVec.le_def] at a2; omega
          simp [this]
        · rw [decide_eq_false a2, cond_false, inner j hj]; have b2 : l[j].Y < Q := by rw [BitVec.lt_def]; rw [BitVec.le_def] at a2; omega
          rw [decide_eq_true b1, decide_eq_true b2]
          cases ((l.take j).any fun x => decide (x.X = l[j].X)) <;> rfl)
    (fun rec _ => by simp only [ref04_Right_L1]; rw [if_neg (by omega)]) (f := FUEL) (fuel_lt (by omega)) ()
  rw [show ((0 : Nat) : Int) = 0 from rfl] at this
  rw [this, all_itL _ (some true) (some false) _ _ (fun a _ nx s => rfl), all_and, range_all l (fun x => decide (x.X < Q) && decide (x.Y < Q)) default]
  have h2 := nodup_range (l.map (·.X))
  rw [List.length_map] at h2
  rw [h2]; unfold dstB
  cases decide (l.map (·.X)).Nodup <;> cases l.all (fun x => decide (x.X < Q) && decide (x.Y < Q)) <;> rfl
theorem bounds_any (s : TScheme) (l : List TPoint) (hl : l.length < 4611686018427387904) : slices_ContainsFunc_9e39_poly_Interpolate_1 l s = some (!(l.all fun x => decide (x.X < s.Group.Q) && decide (x.Y < s.Group.Q))) := by
  unfold slices_ContainsFunc_9e39_poly_Interpolate_1 slices_IndexFunc_7a5d_poly_Interpolate_1
  have hp : ∀ x : TPoint, poly_Interpolate_1 x s = some (!(decide (x.X < s.Group.Q) && decide (x.Y < s.Group.Q))) := by
    intro x
    unfold poly_Interpolate_1
    by_cases h : s.Group.Q ≤ x.X
    · rw [if_pos h, decide_eq_false (by rw [BitVec.lt_def]; rw [BitVec.le_def] at h; omega)]; rfl
    · rw [if_neg h, decide_eq_true (show x.X < s.Group.Q by rw [BitVec.lt_def]; rw [BitVec.le_def] at h; omega)]
      by_cases h2 : s.Group.Q ≤ x.Y
      · rw [decide_eq_true h2, decide_eq_false (by rw [BitVec.lt_def]; rw [BitVec.le_def] at h2; omega)]; rfl
      · rw [decide_eq_false h2, decide_eq_true (by rw [BitVec.lt_def]; rw [BitVec.le_def] at h2; omega)]; rfl
  rw [find_go l hl (fun x => !(decide (x.X < s.Group.Q) && decide (x.Y < s.Group.Q))) _ (fun rec j hj => by
    simp only [slices_IndexFunc_7a5d_poly_Interpolate_1_L1]
    rw [if_pos (by omega), getI_some hj, bind_some, hp, bind_some, w64_nat (by omega)]) (fun rec => by
    simp only [slices_IndexFunc_7a5d_poly_Interpolate_1_L1]; rw [if_neg (by omega)]), bind_some, idx_any]
  congr 1
  induction l with
  | nil => rfl
  | cons a l ih => rw [List.any_cons, List.all_cons, ih (by simp at hl; omega)]; cases (decide (a.X < s.Group.Q) && decide (a.Y < s.Group.Q)) <;> simp
/-- the points as numbers modulo q -/
def Yb (q : Nat) [NeZero q] (l : List TPoint) (k : Nat) : Fin q := fi q (l.getD k default).Y.toNat
theorem right_facts {q : Nat} [NeZero q] (hq : q ≤ 1048575) {l : List TPoint} (h : rtB (bn q) l = true) :
    (∀ k (hk : k < l.length), l[k].X = fe (Xa q l k)) ∧ (∀ k (hk : k < l.length), l[k].Y = fe (Yb q l k)) ∧ (∀ k j, k < l.length → j < l.length → k ≠ j → Xa q l j - Xa q l k ≠ 0) := by
  simp only [rtB, Bool.and_eq_true] at h
  have hall : ∀ x ∈ l, x.X.toNat < q ∧ x.Y.toNat < q := by
    intro x hx
    have := List.all_eq_true.1 h.1 x hx
    simp only [Bool.and_eq_true, decide_eq_true_eq, BitVec.lt_def] at this
    rwa [bn_nat (by omega)] at this
  have gd : ∀ k (hk : k < l.length), l.getD k default = l[k] := fun k hk => by rw [List.getD_eq_getElem?_getD, List.getElem?_eq_getElem hk]; rfl
  refine ⟨fun k hk => ?_, fun k hk => ?_, fun k j hk hj hkj => ?_⟩
  · unfold Xa; rw [gd k hk, fe_fi (hall _ (List.getElem_mem hk)).1, bn_toNat]
  · unfold Yb; rw [gd k hk, fe_fi (hall _ (List.getElem_mem hk)).2, bn_toNat]
  · intro he
    have e1 : Xa q l k = Xa q l j := by grind
    unfold Xa at e1
    rw [gd k hk, gd j hj] at e1
    have e2 := fi_inj (hall _ (List.getElem_mem hk)).1 (hall _ (List.getElem_mem hj)).1 e1
    have e3 : l[k].X = l[j].X := BitVec.eq_of_toNat_eq e2
    have h3 := h.2
    unfold dstB at h3
    rw [decide_eq_true_eq, List.Nodup, List.pairwise_iff_getElem] at h3
    rcases Nat.lt_or_gt_of_ne hkj with hlt | hlt
    · exact h3 k j (by simpa using hk) (by simpa using hj) hlt (by simpa using e3)
    · exact h3 j k (by simpa using hj) (by simpa using hk) hlt (by simpa using e3.symm)
section
variable {s : TScheme} {d t p q g : Nat}
theorem interp_val [NeZero q] (h : Vld s d t p q g) (e1 : poly_valid s = some true) (l : List TPoint) (hl : l.length < 4611686018427387904) :
    poly_Interpolate s l = if l.length = t + 1 ∧ rtB (bn q) l = true then some ((uL (Xa q l) (Yb q l) (t + 1) (t + 1)).map fe, 0) else some ([], 2) := by
  obtain ⟨q1, q2⟩ := h.qb
  have ht := h.t8
  unfold poly_Interpolate
  rw [e1, bind_some]
  simp only [Bool.not_true, cond_false]
  by_cases hlen : (l.length : Int) = w64 (s.Degree + 1)
  · have hlt : l.length = t + 1 := by rw [h.deg, w64_id (by omega) (by omega)] at hlen; omega
    rw [if_neg (by simpa using hlen), bounds_any s l hl, bind_some]
    by_cases hb : (l.all fun x => decide (x.X < s.Group.Q) && decide (x.Y < s.Group.Q)) = true
    · rw [hb]
      simp only [Bool.not_true, cond_false]
      rw [distinct_eq l hl, bind_some]
      cases hd : dstB l with
      | false =>
        have : ¬ (l.length = t + 1 ∧ rtB (bn q) l = true) := fun e => by have := e.2; simp [rtB, hd] at this
        rw [if_neg this]; rfl
      | true =>
        have hr : rtB (bn q) l = true := by unfold rtB; rw [h.grp] at hb; simp only at hb; rw [hb, hd]; rfl
        obtain ⟨f1, f2, f3⟩ := right_facts q2 hr
        rw [if_pos ⟨hlt, hr⟩, Bool.not_true, newton_eq (Xa q l) (Yb q l) h l (t + 1) hlt (by omega) (by omega) f1 f2 (by rw [← hlt]; exact f3)]
    · have hb2 : (l.all fun x => decide (x.X < s.Group.Q) && decide (x.Y < s.Group.Q)) = false := by simpa using hb
      have : ¬ (l.length = t + 1 ∧ rtB (bn q) l = true) := fun e => by
        have := e.2
        rw [h.grp] at hb2; simp only at hb2
        unfold rtB at this; rw [hb2] at this; cases this
      rw [hb2, if_neg this]; rfl
  · have : ¬ (l.length = t + 1 ∧ rtB (bn q) l = true) := fun e => hlen (by rw [h.deg, w64_id (by omega) (by omega)]; omega)
    rw [if_pos (by simpa using hlen), if_neg this]; rfl
theorem rinterp_val [NeZero q] (h : Vld s d t p q g) (e2 : ref04_Valid s = some true) (l : List TPoint) (hl : l.length < 4611686018427387904) :
    ref04_Interpolate s l = if l.length = t + 1 ∧ rtB (bn q) l = true then some ((outL (Xa q l) (Yb q l) (t + 1) (t + 1)).map fe, 0) else some ([], 2) := by
  obtain ⟨q1, q2⟩ := h.qb
  have ht := h.t8
  unfold ref04_Interpolate ref04_Interpolate_J1
  rw [e2, bind_some]
  simp only [Bool.not_true, cond_false]
  by_cases hlen : (l.length : Int) = w64 (s.Degree + 1)
  · have hlt : l.length = t + 1 := by rw [h.deg, w64_id (by omega) (by omega)] at hlen; omega
    rw [if_neg (by simpa using hlen), right_eq _ l hl, bind_some, h.grp]
    simp only
    cases hr : rtB (bn q) l with
    | false => rw [if_neg (by simp)]; rfl
    | true =>
      obtain ⟨f1, f2, f3⟩ := right_facts q2 hr
      have := lie_eq (Xa q l) (Yb q l) h.ok.2.1.2 q2 l (by omega) f1 f2 f3
      rw [hlt] at this
      rw [if_pos ⟨hlt, rfl⟩, Bool.not_true, cond_false, this, bind_some]
  · have : ¬ (l.length = t + 1 ∧ rtB (bn q) l = true) := fun e => hlen (by rw [h.deg, w64_id (by omega) (by omega)]; omega)
    rw [if_pos (by simpa using hlen), if_neg this]; rfl
end
theorem interp_same (s : TScheme) (l : List TPoint) (hl : l.length < 4611686018427387904) : ∃ r, poly_Interpolate s l = some r ∧ ref04_Interpolate s l = some r ∧ r.1.length < 4611686018427387904 := by
  rcases valid_eq s with ⟨e1, e2⟩ | ⟨e1, e2, d, t, p, q, g, h⟩
  · refine ⟨([], 30), ?_, ?_, by simp⟩
    · unfold poly_Interpolate; rw [e1]; rfl
    · unfold ref04_Interpolate; rw [e2]; rfl
  · obtain ⟨q1, q2⟩ := h.qb
    have ht := h.t8
    haveI : NeZero q := ⟨by omega⟩
    rw [interp_val h e1 l hl, rinterp_val h e2 l hl]
    by_cases hc : l.length = t + 1 ∧ rtB (bn q) l = true
    · obtain ⟨f1, f2, f3⟩ := right_facts q2 hc.2
      rw [if_pos hc, if_pos hc, newton_lie (Xa q l) (Yb q l) h.ok.2.1.2 q2 (n := t + 1) (by rw [← hc.1]; exact f3)]
      exact ⟨_, rfl, rfl, by rw [List.length_map, outL_len _ _ _ _ (Nat.le_refl _)]; omega⟩
    · rw [if_neg hc, if_neg hc]; exact ⟨_, rfl, rfl, by simp⟩
end Go.Sx.Po

end
