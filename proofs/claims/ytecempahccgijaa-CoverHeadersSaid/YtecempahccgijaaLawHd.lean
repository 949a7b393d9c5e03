/- CoverHeaders on the mirrors: the program's encodings of headers are the document's, for every header and all bytes. -/
import Derived.Test.YtecempahccgijaaOpnHd
import Derived.Test.YtecempahccgijaaPl
set_option linter.unusedVariables false
set_option linter.unusedSimpArgs false
namespace Go.Sx
open Go

theorem andNot255 {n : Int} (h : I64 n) : bitI .andNot n 255 ≠ 0 ↔ (n < 0 ∨ 255 < n) := by
  have e1 : (BitVec.ofInt 64 n &&& ~~~(255#64)) = (BitVec.ofInt 64 n >>> 8) <<< 8 := by
    apply BitVec.eq_of_getLsbD_eq
    intro j hj
    simp only [BitVec.getLsbD_and, BitVec.getLsbD_not, bit255, BitVec.getLsbD_shiftLeft, BitVec.getLsbD_ushiftRight, hj, decide_true, Bool.true_and]
    by_cases h8 : j < 8
    · simp [h8]
    · simp [h8, show 8 + (j - 8) = j from by omega]
  have e2 : bitI .andNot n 255 = w64 (((BitVec.ofInt 64 n >>> 8) <<< 8).toNat : Int) := by
    unfold bitI bits
    show IntKind.i64.wrap _ = _
    rw [← e1]; rfl
  rw [e2, BitVec.toNat_shiftLeft, BitVec.toNat_ushiftRight, BitVec.toNat_ofInt, Nat.shiftRight_eq_div_pow, Nat.shiftLeft_eq]
  unfold I64 at h
  unfold w64
  rw [IntKind.wrap_i64]
  omega

theorem put_step (x : BitVec 64) (n : Nat) (l : List (BitVec 8)) (k : Nat) (hk : k ≤ 56) : fixN (cover_put_L1 x) (n + 1) (l, (k : Int)) = Option.bind (appG 1 l [(x >>> k).setWidth 8]) fun l' => fixN (cover_put_L1 x) n (l', (k : Int) - 8) := by
  rw [fix_step]
  simp only [cover_put_L1]
  rw [if_pos (by omega), show shG (k : Int) = some k from by unfold shG; rw [if_pos (by omega)]; rfl, bind_some, w64_id (by omega) (by omega)]
theorem put_eq (l : List (BitVec 8)) (x : BitVec 64) : cover_put l x = appG 1 l (w8 x) := by
  unfold cover_put
  rw [show FUEL = 18446744073709551607 + 9 from rfl]
  have hend : ∀ l', fixN (cover_put_L1 x) (18446744073709551607 + 1) (l', ((0 : Nat) : Int) - 8) = some l' := fun l' => by
    rw [fix_step]; simp only [cover_put_L1]; rw [if_neg (by omega)]
  have h0 : ∀ l', fixN (cover_put_L1 x) (18446744073709551607 + 2) (l', ((8 : Nat) : Int) - 8) = appG 1 l' [byt x 7] := fun l' => by
    have := put_step x (18446744073709551607 + 1) l' 0 (by decide)
    simp only [hend] at this
    refine Eq.trans (by exact this) ?_
    show _ = appG 1 l' [(x >>> 0).setWidth 8]
    cases appG 1 l' [(x >>> 0).setWidth 8] <;> rfl
  have hs : ∀ (m k j : Nat) (r : List (BitVec 8)), k ≤ 48 → k + 8 = 56 - 8 * j → (∀ l', fixN (cover_put_L1 x) (m + 1) (l', ((k + 8 : Nat) : Int) - 8) = appG 1 l' r) → k + 8 ≤ 56 →
      ∀ l', fixN (cover_put_L1 x) (m + 2) (l', ((k + 16 : Nat) : Int) - 8) = appG 1 l' (byt x j :: r) := fun m k j r hk hj ih hk2 l' => by
    have e : ((k + 16 : Nat) : Int) - 8 = ((k + 8 : Nat) : Int) := by omega
    rw [e, put_step x (m + 1) l' (k + 8) hk2]
    simp only [ih, app_app, List.singleton_append]
    rw [hj]; rfl
  have h1 := hs _ 0 6 _ (by omega) (by omega) h0 (by omega)
  have h2 := hs _ 8 5 _ (by omega) (by omega) h1 (by omega)
  have h3 := hs _ 16 4 _ (by omega) (by omega) h2 (by omega)
  have h4 := hs _ 24 3 _ (by omega) (by omega) h3 (by omega)
  have h5 := hs _ 32 2 _ (by omega) (by omega) h4 (by omega)
  have h6 := hs _ 40 1 _ (by omega) (by omega) h5 (by omega)
  have h7 := hs _ 48 0 _ (by omega) (by omega) h6 (by omega)
  exact h7 l
theorem bytes_step (n : Nat) (x : BitVec 64) (l : List (BitVec 8)) (k : Nat) (hk : k < 8) (hl : l.length = k) : fixN (ref02_Bytes_L1 8) (n + 1) (x, l, (k : Int)) = fixN (ref02_Bytes_L1 8) n (x >>> 8, x.setWidth 8 :: l, ((k + 1 : Nat) : Int)) := by
  rw [fix_step]
  simp only [ref02_Bytes_L1]
  rw [if_pos (by omega), remU256, bind_some, appG_some (by simp; omega), bind_some, quo256, bind_some, rem256, w64_id (by omega) (by omega)]
  rfl
theorem bytes_eq (x : BitVec 64) : ref02_Bytes x 8 = some (w8 x) := by
  unfold ref02_Bytes
  rw [show FUEL = 18446744073709551607 + 9 from rfl, show (0 : Int) = ((0 : Nat) : Int) from rfl]
  rw [bytes_step _ _ _ 0 (by decide) rfl, bytes_step _ _ _ 1 (by decide) rfl, bytes_step _ _ _ 2 (by decide) rfl, bytes_step _ _ _ 3 (by decide) rfl, bytes_step _ _ _ 4 (by decide) rfl, bytes_step _ _ _ 5 (by decide) rfl, bytes_step _ _ _ 6 (by decide) rfl, bytes_step _ _ _ 7 (by decide) rfl, fix_step]
  simp only [ref02_Bytes_L1]
  rw [if_neg (by omega)]
  simp only [← BitVec.shiftRight_add]
  rfl
/-! encodings -/
def OkItems (p : THeader) : Prop := ∀ a ∈ p.Items, I64 a.Subset.Node ∧ I64 a.Subset.Minus
theorem L5_eq (p : THeader) (rec : (List (BitVec 8) × Int) → Option (List (BitVec 8) × Int)) (s : List (BitVec 8) × Int) : cover_Encode_L5 p rec s = ref03_Encode_L4 p rec s := by
  obtain ⟨a, i⟩ := s
  simp only [cover_Encode_L5, ref03_Encode_L4, put_eq, bytes_eq, bind_some]
  split
  · cases h : getI p.Points i with
    | none => rfl
    | some y => simp only [Option.bind_some]
  · rfl
theorem L2_eq (p : THeader) (hp : OkItems p) (rec : (List (BitVec 8) × Int) → Option (List (BitVec 8) × Int)) (s : List (BitVec 8) × Int) : cover_Encode_L2 p rec s = ref03_Encode_L2 p rec s := by
  obtain ⟨a, i⟩ := s
  simp only [cover_Encode_L2, ref03_Encode_L2, put_eq, bytes_eq, bind_some, cover_Encode_J4, cover_Encode_J3, ref03_Encode_J3]
  split
  · cases h : getI p.Items i with
    | none => rfl
    | some y =>
      obtain ⟨h1, h2⟩ := hp y (getI_mem h)
      simp only [Option.bind_some]
      have e1 := andNot255 h1
      have e2 := andNot255 h2
      by_cases c1 : y.Subset.Node < 0 ∨ 255 < y.Subset.Node
      · rw [if_pos (e1.2 c1)]
        rcases c1 with c | c
        · rw [if_pos c]
        · rw [if_neg (by omega), if_pos c]
      · rw [if_neg (fun hc => c1 (e1.1 hc)), if_neg (by omega), if_neg (by omega)]
        by_cases c2 : y.Subset.Minus < 0
        · rw [if_pos c2, decide_eq_true (e2.2 (.inl c2))]
        · rw [if_neg c2]
          have : decide (bitI .andNot y.Subset.Minus 255 ≠ 0) = decide (255 < y.Subset.Minus) := by
            by_cases c3 : 255 < y.Subset.Minus
            · rw [decide_eq_true c3, decide_eq_true (e2.2 (.inr c3))]
            · rw [decide_eq_false c3, decide_eq_false (fun hc => by rcases e2.1 hc with h | h; exact c2 h; exact c3 h)]
          rw [this]
  · cases appG 1 a (w8 p.Base) with
    | none => rfl
    | some l =>
      simp only [Option.bind_some]
      cases appG 1 l [wd8 (p.Points.length : Int)] with
      | none => rfl
      | some l2 => simp only [Option.bind_some]; exact fix_eq (L5_eq p) _ _
theorem enc_eq (p : THeader) (hp : OkItems p) : cover_Encode p = ref03_Encode p := by
  unfold cover_Encode ref03_Encode cover_Encode_J1 ref03_Encode_J1
  simp only [fix_eq (L2_eq p hp)]
/-- they never fail -/
theorem L4_some (p : THeader) (hn : p.Points.length ≤ 8) : ∀ (m i fuel : Nat) (a : List (BitVec 8)), p.Points.length - i = m → i ≤ p.Points.length → m < fuel → a.length ≤ 10000 + 16 * i → ∃ r, fixN (ref03_Encode_L4 p) fuel (a, (i : Int)) = some r
  | m, i, 0, a, _, _, hf, _ => by omega
  | 0, i, fuel + 1, a, hm, hi, hf, ha => by
    rw [fix_step]; simp only [ref03_Encode_L4]
    rw [if_neg (by omega), appG_some (by simp [kby]; omega), bind_some, appG_some (by simp [kby]; omega), bind_some]
    exact ⟨_, rfl⟩
  | m + 1, i, fuel + 1, a, hm, hi, hf, ha => by
    rw [fix_step]; simp only [ref03_Encode_L4]
    rw [if_pos (by omega), getI_some (by omega), bind_some, bytes_eq, bind_some, appG_some (by simp [w8]; omega), bind_some, bind_some, bytes_eq, bind_some, appG_some (by simp [w8]; omega), bind_some, w64_id (by omega) (by omega)]
    exact L4_some p hn m (i + 1) fuel _ (by omega) (by omega) (by omega) (by simp [w8]; omega)
theorem L2_some (p : THeader) (hi' : p.Items.length ≤ 64) (hn : p.Points.length ≤ 8) : ∀ (m i fuel : Nat) (a : List (BitVec 8)), p.Items.length - i = m → i ≤ p.Items.length → m < fuel → a.length ≤ 1 + 18 * i → ∃ r, fixN (ref03_Encode_L2 p) fuel (a, (i : Int)) = some r
  | m, i, 0, a, _, _, hf, _ => by omega
  | 0, i, fuel + 1, a, hm, hi, hf, ha => by
    rw [fix_step]; simp only [ref03_Encode_L2]
    rw [if_neg (by omega), bytes_eq, bind_some, appG_some (by simp [w8]; omega), bind_some, appG_some (by simp [w8]; omega), bind_some]
    exact L4_some p hn _ 0 FUEL _ rfl (by omega) (fuel_lt (by omega)) (by simp [w8]; omega)
  | m + 1, i, fuel + 1, a, hm, hi, hf, ha => by
    rw [fix_step]; simp only [ref03_Encode_L2]
    rw [if_pos (by omega), getI_some (by omega), bind_some]
    have hj : ∀ b, ∃ r, ref03_Encode_J3 a (i : Int) (fixN (ref03_Encode_L2 p) fuel) p.Items[i] b = some r := fun b => by
      unfold ref03_Encode_J3
      cases b with
      | true => exact ⟨_, rfl⟩
      | false =>
        simp only [cond_false]
        rw [appG_some (by simp; omega), bind_some, appG_some (by simp [kby]; omega), bind_some, w64_id (by omega) (by omega)]
        exact L2_some p hi' hn m (i + 1) fuel _ (by omega) (by omega) (by omega) (by simp [kby]; omega)
    split
    · exact hj _
    · split
      · exact hj _
      · split
        · exact hj _
        · exact hj _
theorem enc_some (p : THeader) (hi : p.Items.length < 9223372036854775808) (hn : p.Points.length < 9223372036854775808) : ∃ r, ref03_Encode p = some r := by
  unfold ref03_Encode ref03_Encode_J1
  split
  · exact ⟨_, rfl⟩
  · by_cases h : (8 : Int) < p.Points.length
    · rw [decide_eq_true h]; exact ⟨_, rfl⟩
    · rw [decide_eq_false h]
      exact L2_some p (by omega) (by omega) _ 0 FUEL _ rfl (by omega) (fuel_lt (by omega)) (by simp)
/-! the same header -/
theorem same3 (p : THeader) (hn : p.Points.length < 4611686018427387904) : ∀ (m i fuel : Nat), p.Points.length - i = m → i ≤ p.Points.length → m < fuel → fixN (ref03_SameHeader_L3 p p) fuel (i : Int) = some true
  | m, i, 0, _, _, hf => by omega
  | 0, i, fuel + 1, hm, hi, hf => by rw [fix_step]; simp only [ref03_SameHeader_L3]; rw [if_neg (by omega)]
  | m + 1, i, fuel + 1, hm, hi, hf => by
    rw [fix_step]; simp only [ref03_SameHeader_L3]
    rw [if_pos (by omega), getI_some (by omega), bind_some, bind_some, if_neg (by simp), w64_id (by omega) (by omega)]
    exact same3 p hn m (i + 1) fuel (by omega) (by omega) (by omega)
theorem same2 (p : THeader) (hi' : p.Items.length < 4611686018427387904) (hn : p.Points.length < 4611686018427387904) : ∀ (m i fuel : Nat), p.Items.length - i = m → i ≤ p.Items.length → m < fuel → fixN (ref03_SameHeader_L2 p p) fuel (i : Int) = some true
  | m, i, 0, _, _, hf => by omega
  | 0, i, fuel + 1, hm, hi, hf => by
    rw [fix_step]; simp only [ref03_SameHeader_L2]; rw [if_neg (by omega)]
    exact same3 p hn _ 0 FUEL rfl (by omega) (fuel_lt (by omega))
  | m + 1, i, fuel + 1, hm, hi, hf => by
    rw [fix_step]; simp only [ref03_SameHeader_L2]
    rw [if_pos (by omega), getI_some (by omega), bind_some, bind_some, if_neg (by simp), w64_id (by omega) (by omega)]
    exact same2 p hi' hn m (i + 1) fuel (by omega) (by omega) (by omega)
theorem same_self (p : THeader) (hi : p.Items.length < 4611686018427387904) (hn : p.Points.length < 4611686018427387904) : ref03_SameHeader p p = some true := by
  unfold ref03_SameHeader ref03_SameHeader_J1
  simp only [ne_eq, not_true_eq_false, if_false, decide_false, cond_false]
  exact same2 p hi hn _ 0 FUEL rfl (by omega) (fuel_lt (by omega))
/-! reading -/
theorem mkL_some (n : Nat) (h : n ≤ 1000) : mkL 1 (n : Int) 0#8 = some (List.replicate n 0#8) := by unfold mkL; rw [if_pos (by omega)]; simp
theorem copy_pad (n : Nat) (s : List (BitVec 8)) : copyL (List.replicate n 0#8) s = pad n s := by simp [copyL, pad]
theorem take_eq (s : List (BitVec 8)) (n : Nat) (h : n ≤ 1000) : cover_source_take ⟨s⟩ (n : Int) = some (pad n s, ⟨s.drop n⟩) := by
  unfold cover_source_take
  rw [mkL_some n h, bind_some, copy_pad]
  have e : copyN (List.replicate n 0#8) s = ((min s.length n : Nat) : Int) := by simp [copyN]
  rw [e]
  have e2 : sliG s ((min s.length n : Nat) : Int) (s.length : Int) = some (s.drop n) := by
    unfold sliG
    rw [if_pos (by omega)]
    simp only [Int.toNat_natCast, List.take_length]
    congr 1
    rcases Nat.le_total s.length n with h | h
    · rw [Nat.min_eq_left h, List.drop_length, List.drop_eq_nil_of_le h]
    · rw [Nat.min_eq_right h]
  rw [e2]; rfl
theorem pad1 (s : List (BitVec 8)) : pad 1 s = [(pad 1 s).headD 0#8] := by
  have := pad_len 1 s
  match h : pad 1 s, this with
  | [a], _ => rfl
def hd1 (s : List (BitVec 8)) : BitVec 8 := (pad 1 s).headD 0#8
theorem byte_eq (s : List (BitVec 8)) : cover_source_byte ⟨s⟩ = some (un8 (hd1 s), ⟨s.drop 1⟩) := by
  unfold cover_source_byte
  have := take_eq s 1 (by omega)
  rw [show ((1 : Nat) : Int) = 1 from rfl] at this
  rw [this, bind_some]
  have e : getI (pad 1 s) 0 = some (hd1 s) := by rw [pad1]; rfl
  simp only [e]; rfl
theorem key_eq (s : List (BitVec 8)) : cover_source_key ⟨s⟩ = some (ofB (pad 16 s), ⟨s.drop 16⟩) := by
  unfold cover_source_key
  have := take_eq s 16 (by omega)
  rw [show ((16 : Nat) : Int) = 16 from rfl] at this
  rw [this, bind_some]
  have e : keyG (pad 16 s) = some (ofB (pad 16 s)) := by unfold keyG; rw [if_pos (by rw [pad_len]; omega)]
  simp only [e]; rfl
/-- the number in some bytes -/
def valB (l : List (BitVec 8)) : BitVec 64 := l.foldl (fun n c => 256#64 * n + c.setWidth 64) 0#64
theorem shl_or (a : BitVec 64) (c : BitVec 8) : (a <<< 8) ||| (c.setWidth 64) = 256#64 * a + c.setWidth 64 := by
  have e1 : 256#64 * a = a <<< 8 := by
    apply BitVec.eq_of_toNat_eq
    rw [BitVec.toNat_mul, BitVec.toNat_shiftLeft, Nat.shiftLeft_eq, Nat.mul_comm]; rfl
  rw [e1]
  symm
  apply BitVec.add_eq_or_of_and_eq_zero
  apply BitVec.eq_of_getLsbD_eq
  intro j hj
  rw [BitVec.getLsbD_and, BitVec.getLsbD_shiftLeft, BitVec.getLsbD_setWidth, BitVec.getLsbD_zero]
  by_cases h : j < 8
  · simp [h]
  · simp [BitVec.getLsbD_of_ge c j (by omega)]
theorem valB_snoc (l : List (BitVec 8)) (c : BitVec 8) : valB (l ++ [c]) = 256#64 * valB l + c.setWidth 64 := by simp [valB]
theorem uint_loop (x : List (BitVec 8) × Tcover_source) (hx : x.1.length ≤ 1000) : ∀ (m i fuel : Nat), x.1.length - i = m → i ≤ x.1.length → m < fuel → fixN (cover_source_uint_L1 x) fuel (valB (x.1.take i), (i : Int)) = some (valB x.1, x.2)
  | m, i, 0, _, _, hf => by omega
  | 0, i, fuel + 1, hm, hi, hf => by
    rw [fix_step]; simp only [cover_source_uint_L1]; rw [if_neg (by omega), List.take_of_length_le (by omega)]
  | m + 1, i, fuel + 1, hm, hi, hf => by
    rw [fix_step]; simp only [cover_source_uint_L1]
    rw [if_pos (by omega), getI_some (by omega), bind_some, show shG (un 8#64) = some 8 from by decide, bind_some, shl_or, ← valB_snoc, ← take_snoc _ _ (by omega), w64_id (by omega) (by omega)]
    exact uint_loop x hx m (i + 1) fuel (by omega) (by omega) (by omega)
theorem uint_eq (s : List (BitVec 8)) : cover_source_uint ⟨s⟩ = some (valB (pad 8 s), ⟨s.drop 8⟩) := by
  unfold cover_source_uint
  have := take_eq s 8 (by omega)
  rw [show ((8 : Nat) : Int) = 8 from rfl] at this
  rw [this, bind_some]
  exact uint_loop (pad 8 s, ⟨s.drop 8⟩) (by simp only [pad_len]; omega) _ 0 FUEL rfl (by omega) (fuel_lt (by simp only [pad_len]; omega))
theorem value_loop (l : List (BitVec 8)) (hx : l.length ≤ 1000) : ∀ (m i fuel : Nat), l.length - i = m → i ≤ l.length → m < fuel → fixN (ref02_Value_L1 l) fuel (valB (l.take i), (i : Int)) = some (valB l)
  | m, i, 0, _, _, hf => by omega
  | 0, i, fuel + 1, hm, hi, hf => by
    rw [fix_step]; simp only [ref02_Value_L1]; rw [if_neg (by omega), List.take_of_length_le (by omega)]
  | m + 1, i, fuel + 1, hm, hi, hf => by
    rw [fix_step]; simp only [ref02_Value_L1]
    rw [if_pos (by omega), getI_some (by omega), bind_some, ← valB_snoc, ← take_snoc _ _ (by omega), w64_id (by omega) (by omega)]
    exact value_loop l hx m (i + 1) fuel (by omega) (by omega) (by omega)
theorem value_eq (l : List (BitVec 8)) (h : l.length ≤ 1000) : ref02_Value l = some (valB l) := value_loop l h _ 0 FUEL rfl (by omega) (fuel_lt (by omega))
theorem pad_get (b : List (BitVec 8)) (i n k : Nat) (hk : k < n) : (pad n (b.drop i))[k]? = some (if i + k < b.length then b.getD (i + k) 0#8 else 0#8) := by
  unfold pad
  rw [List.getElem?_append, List.length_take, List.length_drop, List.getElem?_take, List.getElem?_drop, List.getElem?_replicate]
  by_cases h : i + k < b.length
  · rw [if_pos (by omega), if_pos hk, if_pos h]; simp [h]
  · rw [if_neg (by omega), if_pos (by omega), if_neg h]
theorem at_loop (b : List (BitVec 8)) (i n : Nat) (hb : b.length ≤ 140737488355328) (hi : i ≤ 140737488355328) (hn : n ≤ 1000) : ∀ (m k fuel : Nat), n - k = m → k ≤ n → m < fuel → fixN (ref03_at_L1 b (i : Int) (n : Int)) fuel ((pad n (b.drop i)).take k, (k : Int)) = some (pad n (b.drop i))
  | m, k, 0, _, _, hf => by omega
  | 0, k, fuel + 1, hm, hk, hf => by
    rw [fix_step]; simp only [ref03_at_L1]; rw [if_neg (by omega), List.take_of_length_le (by rw [pad_len]; omega)]
  | m + 1, k, fuel + 1, hm, hk, hf => by
    rw [fix_step]; simp only [ref03_at_L1]
    have hp := pad_get b i n k (by omega)
    have hlen := pad_len n (b.drop i)
    have hkl : k < (pad n (b.drop i)).length := by omega
    have hpk : (pad n (b.drop i))[k] = if i + k < b.length then b.getD (i + k) 0#8 else 0#8 := by
      rw [List.getElem?_eq_getElem hkl] at hp; exact Option.some.inj hp
    have ih := at_loop b i n hb hi hn m (k + 1) fuel (by omega) (by omega) (by omega)
    rw [take_snoc _ _ hkl, hpk] at ih
    rw [if_pos (by omega), w64_id (by omega) (by omega), w64_id (n := (k : Int) + 1) (by omega) (by omega)]
    by_cases h : i + k < b.length
    · rw [if_pos h] at ih
      rw [if_pos (by omega), show (i : Int) + (k : Int) = ((i + k : Nat) : Int) from by omega, getI_some h, bind_some, appG_some (by simp; omega), bind_some]
      rw [List.getD_eq_getElem?_getD, List.getElem?_eq_getElem h, Option.getD_some] at ih
      exact ih
    · rw [if_neg h] at ih
      rw [if_neg (by omega), appG_some (by simp; omega), bind_some]
      exact ih
theorem at_eq (b : List (BitVec 8)) (i n : Nat) (hb : b.length ≤ 140737488355328) (hi : i ≤ 140737488355328) (hn : n ≤ 1000) : ref03_at b (i : Int) (n : Int) = some (pad n (b.drop i)) := at_loop b i n hb hi hn _ 0 FUEL rfl (by omega) (fuel_lt (by omega))
theorem rkey_loop (l : List (BitVec 8)) (hl : 16 ≤ l.length) : ∀ (m i fuel : Nat) (p : W2), 16 - i = m → i ≤ 16 → m < fuel → (kby p).take i = l.take i → fixN (ref03_key_L1 l) fuel ((i : Int), p) = some (ofB l)
  | m, i, 0, p, _, _, hf, _ => by omega
  | 0, i, fuel + 1, p, hm, hi, hf, hp => by
    rw [fix_step]; simp only [ref03_key_L1]; rw [if_neg (by omega)]
    obtain rfl : i = 16 := by omega
    congr 1
    apply kby_inj
    rw [kby_ofB hl, ← hp, List.take_of_length_le (by simp [kby])]
  | m + 1, i, fuel + 1, p, hm, hi, hf, hp => by
    rw [fix_step]; simp only [ref03_key_L1]
    have hk : i < (kby p).length := by rw [kby_len]; omega
    rw [if_pos (by omega), getI_some (by omega), bind_some, getI_some hk, bind_some]
    have hks : kset p (i : Int) l[i] = some (ofB ((kby p).set i l[i])) := by unfold kset; rw [if_pos (by omega)]; rfl
    rw [hks, bind_some, w64_id (by omega) (by omega)]
    refine rkey_loop l hl m (i + 1) fuel _ (by omega) (by omega) (by omega) ?_
    have hq := (kset_eq hks).2
    rw [Int.toNat_natCast] at hq
    rw [hq, take_snoc _ i (by rw [List.length_set]; exact hk), take_snoc l i (by omega), List.take_set_of_le (Nat.le_refl i), hp]
    simp
theorem rkey_eq (l : List (BitVec 8)) (hl : 16 ≤ l.length) : ref03_key l = some (ofB l) := rkey_loop l hl _ 0 FUEL k0 rfl (by omega) (fuel_lt (by omega)) (by simp)
/-! decoding -/
def Small (r : THeader × Int) : Prop := r.1.Items.length ≤ 1000 ∧ r.1.Points.length ≤ 1000
theorem hd1_get (s : List (BitVec 8)) (r : List (BitVec 8)) : getI (pad 1 s ++ r) 0 = some (hd1 s) := by rw [pad1]; rfl
theorem drop_dd (b : List (BitVec 8)) (i j : Nat) : (b.drop i).drop j = b.drop (i + j) := by rw [List.drop_drop]
theorem dec2 (b : List (BitVec 8)) (hb : b.length ≤ 140737488355328) (items : List TItem) (hi : ∀ a ∈ items, I64 a.Subset.Node ∧ I64 a.Subset.Minus) (hl : items.length ≤ 255) (base : BitVec 64) (src : Tcover_source) (N : Nat) (hN : N ≤ 255) (src2 : Tcover_source) :
    ∀ (k i j fuel fuel' : Nat) (acc : List TPoint), k < fuel → k < fuel' → j + k = N → i ≤ 10000 + 16 * j → acc.length = j →
      ∃ r, fixN (cover_Decode_L2 b items (base, src) ((N : Int), src2)) fuel ((j : Int), ⟨b.drop i⟩, acc) = some r ∧ fixN (ref03_Decode_L2 b items base) fuel' ((i : Int), (k : Int), acc) = some r ∧ Small r
  | k, i, j, 0, _, acc, h, _, _, _, _ => by omega
  | k, i, j, _ + 1, 0, acc, _, h, _, _, _ => by omega
  | 0, i, j, fuel + 1, fuel' + 1, acc, _, _, hj, hb2, ha => by
    rw [fix_step, fix_step]
    simp only [cover_Decode_L2, ref03_Decode_L2]
    rw [if_neg (by omega), if_neg (by omega)]
    have a1 := at_eq b i 16 hb (by omega) (by omega)
    have a2 := at_eq b (i + 16) 16 hb (by omega) (by omega)
    rw [show ((16 : Nat) : Int) = 16 from rfl] at a1 a2
    rw [key_eq, bind_some, key_eq, bind_some, a1, bind_some, rkey_eq _ (by rw [pad_len]; omega), bind_some, w64_id (by omega) (by omega), show (i : Int) + 16 = ((i + 16 : Nat) : Int) from by omega, a2, bind_some, rkey_eq _ (by rw [pad_len]; omega), bind_some, drop_dd]
    have hok : OkItems (THeader.mk items base acc (ofB (pad 16 (b.drop i))) (ofB (pad 16 (b.drop (i + 16))))) := hi
    rw [enc_eq _ hok]
    obtain ⟨r, hr⟩ := enc_some (THeader.mk items base acc (ofB (pad 16 (b.drop i))) (ofB (pad 16 (b.drop (i + 16))))) (by simp only; omega) (by simp only; omega)
    rw [hr, bind_some, bind_some]
    have hs : ∀ a : Bool, ∃ r2, cover_Decode_J3 items (base, src) acc (ofB (pad 16 (b.drop i)), ⟨b.drop (i + 16)⟩) (ofB (pad 16 (b.drop (i + 16))), ⟨(b.drop (i + 16)).drop 16⟩) a = some r2 ∧ ref03_Decode_J3 items base acc (ofB (pad 16 (b.drop i))) (ofB (pad 16 (b.drop (i + 16)))) a = some r2 ∧ Small r2 := fun a => by
      unfold cover_Decode_J3 ref03_Decode_J3
      cases a with
      | true => exact ⟨_, rfl, rfl, by simp [Small]⟩
      | false => exact ⟨_, rfl, rfl, by simp only [Small]; omega⟩
    by_cases h2 : r.2 ≠ 0
    · rw [if_pos h2, if_pos h2]; exact hs true
    · rw [if_neg h2, if_neg h2]
      unfold bytes_Equal
      rw [bind_some]
      have e : (!decide (r.1 = b)) = decide (r.1 ≠ b) := by by_cases h : r.1 = b <;> simp [h]
      rw [e]; exact hs _
  | k + 1, i, j, fuel + 1, fuel' + 1, acc, h1, h2, hj, hb2, ha => by
    rw [fix_step, fix_step]
    simp only [cover_Decode_L2, ref03_Decode_L2]
    rw [if_pos (by omega), if_pos (by omega)]
    have a1 := at_eq b i 8 hb (by omega) (by omega)
    have a2 := at_eq b (i + 8) 8 hb (by omega) (by omega)
    rw [show ((8 : Nat) : Int) = 8 from rfl] at a1 a2
    rw [uint_eq, bind_some, uint_eq, bind_some, drop_dd, drop_dd, appG_some (by simp; omega), bind_some, w64_id (by omega) (by omega)]
    rw [a1, bind_some, value_eq _ (by rw [pad_len]; omega), bind_some, w64_id (n := (i : Int) + 8) (by omega) (by omega), show (i : Int) + 8 = ((i + 8 : Nat) : Int) from by omega, a2, bind_some, value_eq _ (by rw [pad_len]; omega), bind_some, appG_some (by simp; omega), bind_some, w64_id (by omega) (by omega), w64_id (by omega) (by omega)]
    rw [show (i : Int) + 16 = ((i + 8 + 8 : Nat) : Int) from by omega, show ((k + 1 : Nat) : Int) - 1 = (k : Int) from by omega, show (j : Int) + 1 = ((j + 1 : Nat) : Int) from by omega]
    exact dec2 b hb items hi hl base src N hN src2 k (i + 8 + 8) (j + 1) fuel fuel' _ (by omega) (by omega) (by omega) (by omega) (by simp [ha])
theorem dec1 (b : List (BitVec 8)) (hb : b.length ≤ 140737488355328) (N : Nat) (hN : N ≤ 255) (src : Tcover_source) :
    ∀ (k i j fuel fuel' : Nat) (acc : List TItem), k < fuel → k < fuel' → j + k = N → i ≤ 1 + 18 * j → acc.length = j → (∀ a ∈ acc, I64 a.Subset.Node ∧ I64 a.Subset.Minus) →
      ∃ r, fixN (cover_Decode_L1 b ((N : Int), src)) fuel ((j : Int), ⟨b.drop i⟩, acc) = some r ∧ fixN (ref03_Decode_L1 b) fuel' ((i : Int), (k : Int), acc) = some r ∧ Small r
  | k, i, j, 0, _, acc, h, _, _, _, _, _ => by omega
  | k, i, j, _ + 1, 0, acc, _, h, _, _, _, _ => by omega
  | 0, i, j, fuel + 1, fuel' + 1, acc, _, _, hj, hb2, ha, hok => by
    rw [fix_step, fix_step]
    simp only [cover_Decode_L1, ref03_Decode_L1]
    rw [if_neg (by omega), if_neg (by omega)]
    have a1 := at_eq b i 8 hb (by omega) (by omega)
    have a2 := at_eq b (i + 8) 1 hb (by omega) (by omega)
    rw [show ((8 : Nat) : Int) = 8 from rfl] at a1
    rw [show ((1 : Nat) : Int) = 1 from rfl] at a2
    have g2 : getI (pad 1 (b.drop (i + 8))) 0 = some (hd1 (b.drop (i + 8))) := by have := hd1_get (b.drop (i + 8)) []; rwa [List.append_nil] at this
    rw [uint_eq, bind_some, byte_eq, bind_some, drop_dd, drop_dd, a1, bind_some, value_eq _ (by rw [pad_len]; omega), bind_some, w64_id (by omega) (by omega), show (i : Int) + 8 = ((i + 8 : Nat) : Int) from by omega, a2, bind_some, g2, bind_some, w64_id (by omega) (by omega), show (i : Int) + 9 = ((i + 8 + 1 : Nat) : Int) from by omega]
    have hu := un8_le (hd1 (b.drop (i + 8)))
    have hu0 := un8_nn (hd1 (b.drop (i + 8)))
    obtain ⟨n, hn⟩ := Int.eq_ofNat_of_zero_le hu0
    rw [hn]
    exact dec2 b hb acc hok (by omega) _ _ n (by omega) _ n (i + 8 + 1) 0 FUEL FUEL [] (fuel_lt (by omega)) (fuel_lt (by omega)) (by omega) (by omega) rfl
  | k + 1, i, j, fuel + 1, fuel' + 1, acc, h1, h2, hj, hb2, ha, hok => by
    rw [fix_step, fix_step]
    simp only [cover_Decode_L1, ref03_Decode_L1]
    rw [if_pos (by omega), if_pos (by omega)]
    have a1 := at_eq b i 18 hb (by omega) (by omega)
    rw [show ((18 : Nat) : Int) = 18 from rfl] at a1
    have hp : pad 18 (b.drop i) = pad 1 (b.drop i) ++ (pad 1 (b.drop (i + 1)) ++ pad 16 (b.drop (i + 1 + 1))) := by
      rw [show 18 = 1 + (1 + 16) from rfl, pad_add, pad_add, drop_dd, drop_dd]
    have hx : pad 18 (b.drop i) = hd1 (b.drop i) :: hd1 (b.drop (i + 1)) :: pad 16 (b.drop (i + 1 + 1)) := by
      rw [hp, pad1 (b.drop i), pad1 (b.drop (i + 1))]; rfl
    have g0 : getI (pad 18 (b.drop i)) 0 = some (hd1 (b.drop i)) := by rw [hx]; rfl
    have g1 : getI (pad 18 (b.drop i)) 1 = some (hd1 (b.drop (i + 1))) := by rw [hx]; rfl
    have g2 : sliG (pad 18 (b.drop i)) 2 ((pad 18 (b.drop i)).length : Int) = some (pad 16 (b.drop (i + 1 + 1))) := by
      unfold sliG
      rw [if_pos (by rw [pad_len]; omega), Int.toNat_natCast, List.take_length, hx]; rfl
    rw [byte_eq, bind_some, byte_eq, bind_some, key_eq, bind_some, drop_dd, drop_dd, drop_dd, appG_some (by simp; omega), bind_some, w64_id (by omega) (by omega)]
    rw [a1, bind_some, g0, bind_some, g1, bind_some, g2, bind_some, rkey_eq _ (by rw [pad_len]; omega), bind_some, appG_some (by simp; omega), bind_some, w64_id (by omega) (by omega), w64_id (by omega) (by omega)]
    rw [show (i : Int) + 18 = ((i + 1 + 1 + 16 : Nat) : Int) from by omega, show ((k + 1 : Nat) : Int) - 1 = (k : Int) from by omega, show (j : Int) + 1 = ((j + 1 : Nat) : Int) from by omega]
    refine dec1 b hb N hN src k (i + 1 + 1 + 16) (j + 1) fuel fuel' _ (by omega) (by omega) (by omega) (by omega) (by simp [ha]) ?_
    intro a ha'
    rcases List.mem_append.1 ha' with h | h
    · exact hok a h
    · simp only [List.mem_singleton] at h; subst h
      have q1 := un8_nn (hd1 (b.drop i)); have q2 := un8_le (hd1 (b.drop i)); have q3 := un8_nn (hd1 (b.drop (i + 1))); have q4 := un8_le (hd1 (b.drop (i + 1)))
      simp only [I64]; omega
theorem dec_eq (b : List (BitVec 8)) (hb : b.length ≤ 140737488355328) : ∃ r, cover_Decode b = some r ∧ ref03_Decode b = some r ∧ Small r := by
  unfold cover_Decode ref03_Decode
  have a1 := at_eq b 0 1 hb (by omega) (by omega)
  rw [show ((1 : Nat) : Int) = 1 from rfl, show ((0 : Nat) : Int) = 0 from rfl, List.drop_zero] at a1
  have g2 : getI (pad 1 b) 0 = some (hd1 b) := by have := hd1_get b []; rwa [List.append_nil] at this
  rw [byte_eq, bind_some, a1, bind_some, g2, bind_some]
  have hu := un8_le (hd1 b)
  obtain ⟨n, hn⟩ := Int.eq_ofNat_of_zero_le (un8_nn (hd1 b))
  rw [hn]
  exact dec1 b hb n (by omega) _ n 1 0 FUEL FUEL [] (fuel_lt (by omega)) (fuel_lt (by omega)) (by omega) (by omega) rfl (by simp)
/-- the law -/
theorem law03_CoverHeaders_ok (p0 : THeader) (p1 : List (BitVec 8)) (h0 : THeader.ok p0) (h1 : p1.length * 1 ≤ 140737488351232) : law03_CoverHeaders p0 p1 = some true := by
  obtain ⟨⟨hi, hil⟩, hpl⟩ := h0
  unfold law03_CoverHeaders ref03_TwinHeader
  rw [appG_some (by simp; omega), bind_some, appG_some (by simp; omega), bind_some, bind_some, appG_some (by simp; omega), bind_some]
  simp only [List.nil_append]
  have hok : OkItems p0 := fun a ha => hi a ha
  rw [enc_eq p0 hok]
  obtain ⟨r, hr⟩ := enc_some p0 (by omega) (by omega)
  rw [hr, bind_some, bind_some, if_neg (by simp), if_neg (by simp), same_self p0 (by omega) (by omega), bind_some]
  unfold law03_CoverHeaders_J1
  obtain ⟨r2, e1, e2, hs⟩ := dec_eq p1 (by omega)
  simp only [Bool.not_true, cond_false]
  unfold Small at hs
  rw [e1, bind_some, e2, bind_some, same_self r2.1 (by omega) (by omega), bind_some]
  simp
end Go.Sx
