/- Packets and their bytes, plainly: what the program reads. -/
import Derived.Test.YtjdffpglgkefmaaPka
set_option linter.unusedVariables false
set_option linter.unusedSimpArgs false
set_option maxRecDepth 100000
namespace Go.Sx.Ep
open Go Go.Sx
abbrev By := List (BitVec 8)
/-! ### numbers out of bytes -/
def valB (l : By) : BitVec 64 := l.foldl (fun n c => 256#64 * n + c.setWidth 64) 0#64
theorem shl_or (a : BitVec 64) (c : BitVec 8) : (a <<< 8) ||| (c.setWidth 64) = 256#64 * a + c.setWidth 64 := by
  have e1 : 256#64 * a = a <<< 8 := by
    apply BitVec.eq_of_toNat_eq
    rw [BitVec.toNat_mul, BitVec.toNat_shiftLeft, Nat.shiftLeft_eq, Nat.mul_comm]; rfl
  rw [e1]
  symm
  apply BitVec.add_eq_or_of_and_eq_zero
  apply BitVec.eq_of_getLsbD_eq
  intro j hj
  rw [BitVec.getLsbD_and, BitVec.getLsbD_shiftLeft, BitVec.getLsbD_setWidth, BitVec.getLsbD_zero]
  by_cases h : j < 8
  · simp [h]
  · simp [BitVec.getLsbD_of_ge c j (by omega)]
theorem valB_snoc (l : By) (c : BitVec 8) : valB (l ++ [c]) = 256#64 * valB l + c.setWidth 64 := by simp [valB]
theorem sw_nat (c : BitVec 8) : (c.setWidth 64).toNat = c.toNat := by rw [BitVec.toNat_setWidth]; have := c.isLt; omega
theorem valB_nat : ∀ (k : Nat) (l : By), l.length = k → k ≤ 8 → (valB l).toNat < 256 ^ k ∧ (∀ c, k < 8 → (valB (l ++ [c])).toNat = 256 * (valB l).toNat + c.toNat)
  | 0, l, hl, _ => by
    obtain rfl := List.eq_nil_of_length_eq_zero hl
    refine ⟨by simp [valB], fun c _ => ?_⟩
    rw [valB_snoc, BitVec.toNat_add, sw_nat]; have := c.isLt; simp [valB]; omega
  | k + 1, l, hl, hk => by
    obtain ⟨m, c, rfl⟩ : ∃ m c, l = m ++ [c] := ⟨l.dropLast, l.getLast (by intro h; rw [h] at hl; simp at hl), (List.dropLast_concat_getLast _).symm⟩
    have hm : m.length = k := by simpa using hl
    obtain ⟨h1, h2⟩ := valB_nat k m hm (by omega)
    have h3 := h2 c (by omega)
    have hc := c.isLt
    have hb : (valB (m ++ [c])).toNat < 256 ^ (k + 1) := by rw [h3, Nat.pow_succ]; omega
    refine ⟨hb, fun d hd => ?_⟩
    have hlt : 256 ^ (k + 1) ≤ 256 ^ 7 := Nat.pow_le_pow_right (by decide) (by omega)
    have h256 : (256 : Nat) ^ 7 = 72057594037927936 := by decide
    rw [valB_snoc (m ++ [c]) d, BitVec.toNat_add, BitVec.toNat_mul, sw_nat]
    have := d.isLt
    show (256 * (valB (m ++ [c])).toNat % 18446744073709551616 + d.toNat) % 18446744073709551616 = _
    omega
theorem be_snoc (x : BitVec 64) : ∀ k, be x (k + 1) = be (x >>> 8) k ++ [x.setWidth 8]
  | 0 => by simp [be]
  | k + 1 => by
    rw [be, be_snoc x k]
    show _ = ((x >>> 8) >>> (8 * k)).setWidth 8 :: be (x >>> 8) k ++ [x.setWidth 8]
    rw [← BitVec.shiftRight_add, show 8 * (k + 1) = 8 + 8 * k from by omega]; rfl
theorem val_be : ∀ (k : Nat) (x : BitVec 64), x.toNat < 256 ^ k → k ≤ 8 → valB (be x k) = x
  | 0, x, h, _ => by
    have : x = 0#64 := BitVec.eq_of_toNat_eq (by simpa using h)
    subst this; rfl
  | k + 1, x, h, hk => by
    have h1 : (x >>> 8).toNat < 256 ^ k := by
      rw [BitVec.toNat_ushiftRight, Nat.shiftRight_eq_div_pow]
      rw [Nat.pow_succ] at h; omega
    have e := val_be k (x >>> 8) h1 (by omega)
    rw [be_snoc]
    apply BitVec.eq_of_toNat_eq
    rw [(valB_nat k _ (be_len _ _) (by omega)).2 _ (by omega), e, BitVec.toNat_ushiftRight, Nat.shiftRight_eq_div_pow, BitVec.toNat_setWidth]
    omega
theorem be_val : ∀ (k : Nat) (l : By), l.length = k → k ≤ 8 → be (valB l) k = l
  | 0, l, hl, _ => by obtain rfl := List.eq_nil_of_length_eq_zero hl; rfl
  | k + 1, l, hl, hk => by
    obtain ⟨m, c, rfl⟩ : ∃ m c, l = m ++ [c] := ⟨l.dropLast, l.getLast (by intro h; rw [h] at hl; simp at hl), (List.dropLast_concat_getLast _).symm⟩
    have hm : m.length = k := by simpa using hl
    have h3 := (valB_nat k m hm (by omega)).2 c (by omega)
    have hc := c.isLt
    have e1 : valB (m ++ [c]) >>> 8 = valB m := by
      apply BitVec.eq_of_toNat_eq
      rw [BitVec.toNat_ushiftRight, Nat.shiftRight_eq_div_pow, h3]; omega
    have e2 : (valB (m ++ [c])).setWidth 8 = c := by
      apply BitVec.eq_of_toNat_eq
      rw [BitVec.toNat_setWidth, h3]; omega
    rw [be_snoc, e1, e2, be_val k m hm (by omega)]
/-! ### a reader: what is left, if there was enough -/
def st : Option By → Tepoch_reader
  | some t => ⟨t, false⟩
  | none => ⟨[], true⟩
def pN (n : Nat) : Option By → By × Option By
  | some t => if n ≤ t.length then (t.take n, some (t.drop n)) else (List.replicate n 0#8, none)
  | none => (List.replicate n 0#8, none)
theorem pN_some (n : Nat) (t : By) : pN n (some t) = if n ≤ t.length then (t.take n, some (t.drop n)) else (List.replicate n 0#8, none) := rfl
theorem pN_len (n : Nat) (o : Option By) : (pN n o).1.length = n := by
  unfold pN; split
  · split <;> simp <;> omega
  · simp
theorem pN_fwd {n : Nat} {s t : By} (h : s.length = n) : pN n (some (s ++ t)) = (s, some t) := by
  rw [pN_some, if_pos (by simp; omega), List.take_left' h, List.drop_left' h]
theorem pN_back {n : Nat} {o : Option By} {t : By} (h : (pN n o).2 = some t) : o = some ((pN n o).1 ++ t) := by
  unfold pN at h ⊢
  split at h
  · split at h
    · rename_i u hu
      rw [if_pos hu]
      have : u.drop n = t := Option.some.inj h
      rw [← this, List.take_append_drop]
    · cases h
  · cases h
theorem mk0 (n : Nat) (h : n ≤ 100000) : mkL 1 (n : Int) 0#8 = some (List.replicate n 0#8) := by unfold mkL; rw [if_pos (by omega)]; simp
theorem take_eq (o : Option By) (n : Nat) {kk : Int} (hkk : kk = (n : Int)) (h : n ≤ 100000) : epoch_reader_take (st o) kk = some ((pN n o).1, st (pN n o).2) := by
  subst hkk; unfold epoch_reader_take
  have sl : ∀ t : By, n ≤ t.length → sliG t 0 (n : Int) = some (t.take n) ∧ sliG t (n : Int) (t.length : Int) = some (t.drop n) := fun t ht => by
    unfold sliG
    rw [if_pos (by omega), if_pos (by omega)]; simp
  cases o with
  | none =>
    by_cases hn : n = 0
    · subst hn; rfl
    · rw [if_pos (by simp [st]; omega), mk0 n h]; rfl
  | some t =>
    by_cases ht : n ≤ t.length
    · obtain ⟨s1, s2⟩ := sl t ht
      rw [if_neg (by simp [st]; omega)]
      rw [pN_some, if_pos ht]
      simp only [st, s1, s2, bind_some]
    · rw [if_pos (by simp [st]; omega), mk0 n h, pN_some, if_neg ht]; rfl
theorem num_run (x : By × Tepoch_reader) (hx : x.1.length ≤ 1000) : ∀ (m i fuel : Nat), x.1.length - i = m → i ≤ x.1.length → m < fuel → fixN (epoch_reader_number_L1 x) fuel (valB (x.1.take i), (i : Int)) = some (valB x.1, x.2)
  | m, i, 0, _, _, hf => by omega
  | 0, i, fuel + 1, hm, hi, hf => by
    rw [fix_step]; simp only [epoch_reader_number_L1]; rw [if_neg (by omega), List.take_of_length_le (by omega)]
  | m + 1, i, fuel + 1, hm, hi, hf => by
    rw [fix_step]; simp only [epoch_reader_number_L1]
    rw [if_pos (by omega), getI_some (by omega), bind_some, show shG (un 8#64) = some 8 from by decide, bind_some, shl_or, ← valB_snoc, ← take_snoc _ _ (by omega), w64_id (by omega) (by omega)]
    exact num_run x hx m (i + 1) fuel (by omega) (by omega) (by omega)
theorem rnum_eq (o : Option By) (k : Nat) {kk : Int} (hkk : kk = (k : Int)) (h : k ≤ 1000) : epoch_reader_number (st o) kk = some (valB (pN k o).1, st (pN k o).2) := by
  unfold epoch_reader_number
  rw [take_eq o k hkk (by omega), bind_some]
  exact num_run ((pN k o).1, st (pN k o).2) (by rw [pN_len]; omega) _ 0 FUEL rfl (by omega) (fuel_lt (by rw [pN_len]; omega))
def pB (o : Option By) : Int × Option By := (un8 ((pN 1 o).1.headD 0#8), (pN 1 o).2)
theorem one_eq {l : By} (h : l.length = 1) : l = [l.headD 0#8] := by
  match l, h with
  | [a], _ => rfl
theorem small_eq (o : Option By) : epoch_reader_small (st o) = some ((pB o).1, st (pB o).2) := by
  unfold epoch_reader_small
  rw [rnum_eq (kk := 1) o 1 rfl (by omega), bind_some]
  have e := one_eq (pN_len 1 o)
  have e2 : un (valB (pN 1 o).1) = un8 ((pN 1 o).1.headD 0#8) := by
    generalize (pN 1 o).1 = l at e
    rw [e]
    have := (valB_nat 0 [] rfl (by omega)).2 (l.headD 0#8) (by omega)
    rw [List.nil_append] at this
    unfold un un8
    rw [this]; simp [valB]
  simp only [e2]
  have := un8_nn ((pN 1 o).1.headD 0#8)
  have := un8_le ((pN 1 o).1.headD 0#8)
  rw [w64_id (by omega) (by omega)]; rfl
theorem wd8_un8 (c : BitVec 8) : wd8 (un8 c) = c := un8_inj (by
  have := c.isLt
  unfold un8 wd8; rw [BitVec.toNat_ofInt]; omega)
theorem un8_wd8 {n : Int} (h0 : 0 ≤ n) (h1 : n ≤ 255) : un8 (wd8 n) = n := by
  unfold un8 wd8
  rw [BitVec.toNat_ofInt]; omega
theorem pB_fwd (c : BitVec 8) (t : By) : pB (some ([c] ++ t)) = (un8 c, some t) := by unfold pB; rw [pN_fwd (n := 1) (s := [c]) rfl]; rfl
theorem pB_back {o : Option By} {t : By} (h : (pB o).2 = some t) : o = some ([wd8 (pB o).1] ++ t) := by
  have := pN_back (n := 1) (o := o) h
  unfold pB
  simp only [wd8_un8]
  rw [← one_eq (pN_len 1 o)]; exact this
theorem pB_le (o : Option By) : 0 ≤ (pB o).1 ∧ (pB o).1 ≤ 255 := ⟨un8_nn _, un8_le _⟩
def pK (o : Option By) : W2 × Option By := (ofB (pN 16 o).1, (pN 16 o).2)
theorem key_eq (o : Option By) : epoch_reader_key (st o) = some ((pK o).1, st (pK o).2) := by
  unfold epoch_reader_key
  rw [take_eq (kk := 16) o 16 rfl (by omega), bind_some]
  have e : keyG (pN 16 o).1 = some (ofB (pN 16 o).1) := by unfold keyG; rw [if_pos (by rw [pN_len]; omega)]
  simp only [e, bind_some]; rfl
theorem ofB_kby' (p : W2) : ofB (kby p) = p := by have := ofB_kby p []; rwa [List.append_nil] at this
theorem kby_ofB' {l : By} (h : l.length = 16) : kby (ofB l) = l := by rw [kby_ofB (by omega), List.take_of_length_le (by omega)]
theorem pK_fwd (p : W2) (t : By) : pK (some (kby p ++ t)) = (p, some t) := by unfold pK; rw [pN_fwd (kby_len p), ofB_kby']
theorem pK_back {o : Option By} {t : By} (h : (pK o).2 = some t) : o = some (kby (pK o).1 ++ t) := by
  have := pN_back (n := 16) (o := o) h
  unfold pK
  rw [kby_ofB' (pN_len 16 o)]; exact this
def pV (k : Nat) (o : Option By) : BitVec 64 × Option By := (valB (pN k o).1, (pN k o).2)
theorem pV_fwd {k : Nat} (x : BitVec 64) (t : By) (hx : x.toNat < 256 ^ k) (hk : k ≤ 8) : pV k (some (be x k ++ t)) = (x, some t) := by unfold pV; rw [pN_fwd (be_len x k), val_be k x hx hk]
theorem pV8 (x : BitVec 64) (t : By) : pV 8 (some (be x 8 ++ t)) = (x, some t) := pV_fwd x t x.isLt (by omega)
theorem pV_back {k : Nat} {o : Option By} {t : By} (h : (pV k o).2 = some t) (hk : k ≤ 8) : o = some (be (pV k o).1 k ++ t) := by
  have := pN_back (n := k) (o := o) h
  unfold pV
  rw [be_val k _ (pN_len k o) hk]; exact this
def pI (o : Option By) : TItem × Option By := (⟨⟨(pB o).1, (pB (pB o).2).1⟩, (pK (pB (pB o).2).2).1⟩, (pK (pB (pB o).2).2).2)
theorem item_eq (o : Option By) : epoch_reader_item (st o) = some ((pI o).1, st (pI o).2) := by
  unfold epoch_reader_item
  rw [small_eq, bind_some]; simp only
  rw [small_eq, bind_some]; simp only
  rw [key_eq, bind_some]; rfl
def pP (o : Option By) : TPoint × Option By := (⟨(pV 8 o).1, (pV 8 (pV 8 o).2).1⟩, (pV 8 (pV 8 o).2).2)
theorem point_eq (o : Option By) : epoch_reader_point (st o) = some ((pP o).1, st (pP o).2) := by
  unfold epoch_reader_point
  rw [rnum_eq (kk := 8) o 8 rfl (by omega), bind_some]; simp only
  rw [rnum_eq (kk := 8) _ 8 rfl (by omega), bind_some]; rfl
theorem pI_fwd {x : TItem} (h : OkI x) (t : By) : pI (some (itB x ++ t)) = (x, some t) := by
  obtain ⟨⟨h1, h2⟩, h3, h4⟩ := h
  unfold pI itB
  rw [show [wd8 x.Subset.Node, wd8 x.Subset.Minus] ++ kby x.Box ++ t = [wd8 x.Subset.Node] ++ ([wd8 x.Subset.Minus] ++ (kby x.Box ++ t)) from by simp, pB_fwd, pB_fwd, pK_fwd, un8_wd8 h1 (by omega), un8_wd8 h3 (by omega)]
theorem pI_back {o : Option By} {t : By} (h : (pI o).2 = some t) : o = some (itB (pI o).1 ++ t) := by
  have h1 := pK_back (o := (pB (pB o).2).2) h
  have h2 := pB_back h1
  have h3 := pB_back h2
  rw [h3]; congr 1; unfold pI itB
  rw [← h3]; simp
theorem pP_fwd (x : TPoint) (t : By) : pP (some (ptB x ++ t)) = (x, some t) := by
  unfold pP ptB
  rw [List.append_assoc, pV8, pV8]
theorem pP_back {o : Option By} {t : By} (h : (pP o).2 = some t) : o = some (ptB (pP o).1 ++ t) := by
  have h1 := pV_back (k := 8) (o := (pV 8 o).2) h (by omega)
  have h2 := pV_back (k := 8) h1 (by omega)
  rw [h2]; congr 1; unfold pP ptB
  rw [← h2]; simp
/-- n elements; nil once there was too little -/
def lp {α : Type} (one : Option By → α × Option By) : Nat → List α → Option By → List α × Option By
  | 0, acc, o => (acc, o)
  | _ + 1, _, none => ([], none)
  | n + 1, acc, some t => lp one n (acc ++ [(one (some t)).1]) (one (some t)).2
theorem lp_len {α : Type} (one : Option By → α × Option By) : ∀ (n : Nat) (acc : List α) (o : Option By), (lp one n acc o).1.length ≤ acc.length + n
  | 0, acc, o => by simp [lp]
  | n + 1, acc, none => by simp [lp]
  | n + 1, acc, some t => by
    have := lp_len one n (acc ++ [(one (some t)).1]) (one (some t)).2
    rw [lp]; simp at this; omega
theorem lp_back {α : Type} {one : Option By → α × Option By} {enc : α → By} (h1 : ∀ {o t}, (one o).2 = some t → o = some (enc (one o).1 ++ t)) : ∀ (n : Nat) (acc : List α) (o : Option By) (t : By), (lp one n acc o).2 = some t → ∃ l, (lp one n acc o).1 = acc ++ l ∧ l.length = n ∧ o = some (l.flatMap enc ++ t)
  | 0, acc, o, t, h => ⟨[], by simp [lp], rfl, by simpa [lp] using h⟩
  | n + 1, acc, none, t, h => by cases h
  | n + 1, acc, some u, t, h => by
    rw [lp] at h
    obtain ⟨l, a1, a2, a3⟩ := lp_back h1 n _ _ t h
    refine ⟨(one (some u)).1 :: l, ?_, by simp [a2], ?_⟩
    · rw [lp, a1]; simp
    · rw [List.flatMap_cons, List.append_assoc]; exact h1 a3
theorem lp_fwd {α : Type} {one : Option By → α × Option By} {enc : α → By} : ∀ (l acc : List α) (t : By), (∀ x ∈ l, ∀ t, one (some (enc x ++ t)) = (x, some t)) → lp one l.length acc (some (l.flatMap enc ++ t)) = (acc ++ l, some t)
  | [], acc, t, _ => by simp [lp]
  | x :: l, acc, t, h => by
    rw [List.length_cons, lp, List.flatMap_cons, List.append_assoc, h x (by simp), lp_fwd l (acc ++ [x]) t fun y hy => h y (by simp [hy])]
    simp
/-! ### Decode -/
def zP : TPacket := TPacket.mk 0#8 0 (THeader.mk [] 0#64 [] k0 k0) 0#8 0#64 [] k0
def fin (k : BitVec 8) (ep : Int) (hd : THeader) (lo : BitVec 8) (nu : BitVec 64) (da : By) (o : Option By) : TPacket × Int :=
  if (pK o).2 = some [] ∧ VP ⟨k, ep, hd, lo, nu, da, (pK o).1⟩ then (⟨k, ep, hd, lo, nu, da, (pK o).1⟩, 0) else (zP, 8)
theorem fin_eq (x1 : Int × Tepoch_reader) (o : Option By) (ep : Int) (its : List TItem) (ba : BitVec 64) (pts : List TPoint) (bx ck : W2) (lo : BitVec 8) (nu : BitVec 64) (da : By) (hl : its.length < 4611686018427387904) :
    epoch_Decode_J1 x1 (st o) ep its ba pts bx ck lo nu da = some (fin (wd8 x1.1) ep ⟨its, ba, pts, bx, ck⟩ lo nu da o) := by
  unfold epoch_Decode_J1
  rw [key_eq, bind_some]
  simp only
  unfold fin
  have hj : ∀ b : Bool, epoch_Decode_J2 x1 ep its ba pts bx ck lo nu da ((pK o).1, st (pK o).2) b = some (if b = true then (zP, 8) else (⟨wd8 x1.1, ep, ⟨its, ba, pts, bx, ck⟩, lo, nu, da, (pK o).1⟩, 0)) := fun b => by cases b <;> rfl
  simp only [hj]
  rw [chk_eq _ hl, bind_some]
  cases h : (pK o).2 with
  | none =>
    show some (zP, 8) = some _
    rw [if_neg (fun h => by cases h.1)]
  | some t =>
    rw [show (st (some t)).short = false from rfl, cond_false, show (st (some t)).b = t from rfl]
    cases t with
    | cons a t =>
      rw [if_pos (c := (0 : Int) < (((a :: t).length : Nat) : Int)) (by simp)]
      show some (zP, 8) = some _
      rw [if_neg (fun h => by cases h.1)]
    | nil =>
      rw [if_neg (c := (0 : Int) < ((([] : By).length : Nat) : Int)) (by simp)]
      by_cases hv : VP ⟨wd8 x1.1, ep, ⟨its, ba, pts, bx, ck⟩, lo, nu, da, (pK o).1⟩
      · rw [if_pos hv, if_neg (show ¬ decide ((0 : Int) ≠ 0) = true from by decide), if_pos ⟨rfl, hv⟩]
      · rw [if_neg hv, if_pos (show decide ((8 : Int) ≠ 0) = true from by decide), if_neg (fun h => hv h.2)]
/-- behind the points -/
def decQ (k : BitVec 8) (ep : Int) (its : List TItem) (ba : BitVec 64) (x : List TPoint × Option By) : TPacket × Int := fin k ep ⟨its, ba, x.1, (pK x.2).1, (pK (pK x.2).2).1⟩ 0#8 0#64 [] (pK (pK x.2).2).2
/-- behind the items -/
def decI (k : BitVec 8) (ep : Int) (x : List TItem × Option By) : TPacket × Int := decQ k ep x.1 (pV 8 x.2).1 (lp pP (pB (pV 8 x.2).2).1.toNat [] (pB (pV 8 x.2).2).2)
theorem pts_loop (x1 : Int × Tepoch_reader) (x24 : BitVec 64 × Tepoch_reader) (its : List TItem) (hits : its.length < 4611686018427387904) (x56 : BitVec 64 × Tepoch_reader) (x57 : Int × Tepoch_reader) (n : Nat) (hn : x57.1 = (n : Int)) (h255 : n ≤ 255) : ∀ (m j fuel : Nat) (acc : List TPoint) (o : Option By), n - j = m → j ≤ n → m < fuel → acc.length ≤ j →
    fixN (epoch_Decode_L5 x1 x24 its x56 x57) fuel (acc, (j : Int), st o) = some (decQ (wd8 x1.1) (w64 (un x24.1)) its x56.1 (lp pP m acc o))
  | m, j, 0, _, _, _, _, hf, _ => by omega
  | 0, j, fuel + 1, acc, o, hm, hj, hf, ha => by
    rw [fix_step]; simp only [epoch_Decode_L5]
    rw [if_neg (by omega), key_eq, bind_some]; simp only
    rw [key_eq, bind_some]; simp only
    rw [fin_eq _ _ _ _ _ _ _ _ _ _ _ hits]; rfl
  | m + 1, j, fuel + 1, acc, none, hm, hj, hf, ha => by
    rw [fix_step]; simp only [epoch_Decode_L5]
    rw [if_pos (by omega)]; simp only [st, cond_true]
    rw [show (⟨[], true⟩ : Tepoch_reader) = st none from rfl, key_eq, bind_some]; simp only
    rw [key_eq, bind_some]; simp only
    rw [fin_eq _ _ _ _ _ _ _ _ _ _ _ hits]; rfl
  | m + 1, j, fuel + 1, acc, some t, hm, hj, hf, ha => by
    rw [fix_step]; simp only [epoch_Decode_L5]
    rw [if_pos (by omega)]; simp only [st, cond_false]
    rw [show (⟨t, false⟩ : Tepoch_reader) = st (some t) from rfl, point_eq, bind_some]; simp only
    rw [appG_some (by simp; omega), bind_some, w64_nat (by omega)]
    exact pts_loop x1 x24 its hits x56 x57 n hn h255 m (j + 1) fuel _ _ (by omega) (by omega) (by omega) (by simp; omega)
theorem L45 (x1 : Int × Tepoch_reader) (x24 : BitVec 64 × Tepoch_reader) (a : BitVec 64 × Tepoch_reader) (b : Int × Tepoch_reader) : epoch_Decode_L4 x1 x24 a b = epoch_Decode_L5 x1 x24 [] a b := rfl
theorem its_end (x1 : Int × Tepoch_reader) (x24 : BitVec 64 × Tepoch_reader) (its : List TItem) (hits : its.length < 4611686018427387904) (o : Option By) :
    (Option.bind (epoch_reader_number (st o) 8) fun x56 => Option.bind (epoch_reader_small x56.2) fun x57 => fixN (epoch_Decode_L5 x1 x24 its x56 x57) FUEL ([], 0, x57.2)) = some (decI (wd8 x1.1) (w64 (un x24.1)) (its, o)) := by
  rw [rnum_eq (kk := 8) o 8 rfl (by omega), bind_some]; simp only
  rw [small_eq, bind_some]; simp only
  have hb := pB_le (pN 8 o).2
  have h0 : (((pB (pN 8 o).2).1.toNat : Nat) : Int) = (pB (pN 8 o).2).1 := Int.toNat_of_nonneg hb.1
  exact pts_loop x1 x24 its hits (valB (pN 8 o).1, st (pN 8 o).2) ((pB (pN 8 o).2).1, st (pB (pN 8 o).2).2) (pB (pN 8 o).2).1.toNat h0.symm (by omega) _ 0 FUEL [] (pB (pN 8 o).2).2 rfl (by omega) (fuel_lt (by show (pB (pN 8 o).2).1.toNat - 0 < _; omega)) (by simp)
theorem its_loop (x1 : Int × Tepoch_reader) (x24 : BitVec 64 × Tepoch_reader) (x25 : Int × Tepoch_reader) (n : Nat) (hn : x25.1 = (n : Int)) (h255 : n ≤ 255) : ∀ (m j fuel : Nat) (acc : List TItem) (o : Option By), n - j = m → j ≤ n → m < fuel → acc.length ≤ j →
    fixN (epoch_Decode_L3 x1 x24 x25) fuel (acc, (j : Int), st o) = some (decI (wd8 x1.1) (w64 (un x24.1)) (lp pI m acc o))
  | m, j, 0, _, _, _, _, hf, _ => by omega
  | 0, j, fuel + 1, acc, o, hm, hj, hf, ha => by
    rw [fix_step]; simp only [epoch_Decode_L3]
    rw [if_neg (by omega), its_end _ _ _ (by omega)]; rfl
  | m + 1, j, fuel + 1, acc, none, hm, hj, hf, ha => by
    rw [fix_step]; simp only [epoch_Decode_L3]
    rw [if_pos (by omega)]; simp only [st, cond_true, L45]
    rw [show (⟨[], true⟩ : Tepoch_reader) = st none from rfl, its_end _ _ _ (by simp)]; rfl
  | m + 1, j, fuel + 1, acc, some t, hm, hj, hf, ha => by
    rw [fix_step]; simp only [epoch_Decode_L3]
    rw [if_pos (by omega)]; simp only [st, cond_false]
    rw [show (⟨t, false⟩ : Tepoch_reader) = st (some t) from rfl, item_eq, bind_some]; simp only
    rw [appG_some (by simp; omega), bind_some, w64_nat (by omega)]
    exact its_loop x1 x24 x25 n hn h255 m (j + 1) fuel _ _ (by omega) (by omega) (by omega) (by simp; omega)
/-- content -/
def decC (k : BitVec 8) (o : Option By) : TPacket × Int :=
  fin k 0 ⟨[], 0#64, [], k0, k0⟩ (wd8 (pB o).1) (pV 8 (pB o).2).1 (pN (pV 2 (pV 8 (pB o).2).2).1.toNat (pV 2 (pV 8 (pB o).2).2).2).1 (pN (pV 2 (pV 8 (pB o).2).2).1.toNat (pV 2 (pV 8 (pB o).2).2).2).2
/-- a header -/
def decH (k : BitVec 8) (o : Option By) : TPacket × Int :=
  if 1099511627776#64 < (pV 8 o).1 then (zP, 8) else decI k (w64 (un (pV 8 o).1)) (lp pI (pB (pV 8 o).2).1.toNat [] (pB (pV 8 o).2).2)
def decP (b : By) : TPacket × Int := if wd8 (pB (some b)).1 = 2#8 then decC (wd8 (pB (some b)).1) (pB (some b)).2 else decH (wd8 (pB (some b)).1) (pB (some b)).2
theorem dec_eq (b : By) : epoch_Decode b = some (decP b) := by
  unfold epoch_Decode decP
  rw [show (⟨b, false⟩ : Tepoch_reader) = st (some b) from rfl, small_eq, bind_some]; simp only
  by_cases hk : wd8 (pB (some b)).1 = 2#8
  · rw [if_pos hk, if_pos hk, small_eq, bind_some]; simp only
    rw [rnum_eq (kk := 8) _ 8 rfl (by omega), bind_some]; simp only
    rw [rnum_eq (kk := 2) _ 2 rfl (by omega), bind_some]; simp only
    generalize ho : (pN 8 (pB (pB (some b)).2).2).2 = o2
    have hv : (valB (pN 2 o2).1).toNat < 65536 := (valB_nat 2 _ (pN_len 2 _) (by omega)).1
    have e : w64 (un (valB (pN 2 o2).1)) = ((valB (pN 2 o2).1).toNat : Int) := w64_id (by unfold un; omega) (by unfold un; omega)
    rw [take_eq _ _ e (by omega), bind_some]; simp only
    unfold slices_Clone_4733
    rw [appG_some (by rw [pN_len]; simp; omega), bind_some, bind_some, fin_eq _ _ _ _ _ _ _ _ _ _ _ (by simp)]
    unfold decC pV
    rw [ho]; rfl
  · rw [if_neg hk, if_neg hk, rnum_eq (kk := 8) _ 8 rfl (by omega), bind_some]; simp only
    unfold decH pV
    by_cases hm : 1099511627776#64 < valB (pN 8 (pB (some b)).2).1
    · rw [if_pos hm, if_pos hm]; rfl
    · rw [if_neg hm, if_neg hm, small_eq, bind_some]; simp only
      have hb := pB_le (pN 8 (pB (some b)).2).2
      have h0 : (((pB (pN 8 (pB (some b)).2).2).1.toNat : Nat) : Int) = (pB (pN 8 (pB (some b)).2).2).1 := Int.toNat_of_nonneg hb.1
      exact its_loop _ _ _ (pB (pN 8 (pB (some b)).2).2).1.toNat h0.symm (by omega) _ 0 FUEL [] _ rfl (by omega) (fuel_lt (by omega)) (by simp)
/-! ### what is read is what was written -/
theorem fin_back {k : BitVec 8} {ep : Int} {hd : THeader} {lo : BitVec 8} {nu : BitVec 64} {da : By} {o : Option By} (h : (fin k ep hd lo nu da o).2 = 0) :
    ∃ m, fin k ep hd lo nu da o = (⟨k, ep, hd, lo, nu, da, m⟩, 0) ∧ VP ⟨k, ep, hd, lo, nu, da, m⟩ ∧ o = some (kby m) := by
  unfold fin at h ⊢
  split at h
  · rename_i hc
    rw [if_pos hc]
    refine ⟨_, rfl, hc.2, ?_⟩
    have := pK_back hc.1
    rwa [List.append_nil] at this
  · cases h
theorem fin_or (k : BitVec 8) (ep : Int) (hd : THeader) (lo : BitVec 8) (nu : BitVec 64) (da : By) (o : Option By) : fin k ep hd lo nu da o = (zP, 8) ∨ (fin k ep hd lo nu da o).2 = 0 := by
  unfold fin; split
  · exact .inr rfl
  · exact .inl rfl
theorem dec_or (b : By) : decP b = (zP, 8) ∨ (decP b).2 = 0 := by
  unfold decP; split
  · exact fin_or _ _ _ _ _ _ _
  · unfold decH; split
    · exact .inl rfl
    · exact fin_or _ _ _ _ _ _ _
theorem len_wd8 {o : Option By} {n : Nat} (h : n = (pB o).1.toNat) : wd8 (n : Int) = wd8 (pB o).1 := by
  rw [h, Int.toNat_of_nonneg (pB_le o).1]
theorem wd_nat (x : BitVec 64) : wd ((x.toNat : Nat) : Int) = x := by
  apply BitVec.eq_of_toNat_eq; unfold wd; rw [BitVec.toNat_ofInt]; have := x.isLt; omega
theorem dec_back {b : By} (h : (decP b).2 = 0) : VP (decP b).1 ∧ bts (decP b).1 = b := by
  unfold decP at h ⊢
  split at h
  · rename_i hk
    rw [if_pos hk]
    obtain ⟨m, e, hv, ho⟩ := fin_back h
    unfold decC
    rw [e]
    refine ⟨hv, ?_⟩
    have h1 := pN_back ho
    have h2 := pV_back (k := 2) h1 (by omega)
    have h3 := pV_back (k := 8) h2 (by omega)
    have h4 := pB_back h3
    have h5 := pB_back h4
    refine Eq.trans ?_ (Option.some.inj h5).symm
    unfold bts bdy
    simp only
    rw [if_pos hk, pN_len, wd_nat]
    simp only [List.append_assoc]
  · rename_i hk
    rw [if_neg hk]
    unfold decH at h ⊢
    split at h
    · cases h
    · rename_i hm
      rw [if_neg hm]
      unfold decI decQ at h ⊢
      obtain ⟨m, e, hv, ho⟩ := fin_back h
      rw [e]
      refine ⟨hv, ?_⟩
      have h1 := pK_back ho
      have h2 := pK_back h1
      obtain ⟨lP, p1, p2, p3⟩ := lp_back (one := pP) (enc := ptB) pP_back _ _ _ _ h2
      have h3 := pB_back p3
      have h4 := pV_back (k := 8) h3 (by omega)
      obtain ⟨lI, i1, i2, i3⟩ := lp_back (one := pI) (enc := itB) pI_back _ _ _ _ h4
      have h5 := pB_back i3
      have h6 := pV_back (k := 8) h5 (by omega)
      have h7 := pB_back h6
      refine Eq.trans ?_ (Option.some.inj h7).symm
      unfold bts bdy
      simp only
      rw [if_neg hk, p1, i1, List.nil_append, List.nil_append, len_wd8 p2, len_wd8 i2]
      have hle : (pV 8 (pB (some b)).2).1.toNat ≤ 1099511627776 := by
        have : ¬ (1099511627776 < (pV 8 (pB (some b)).2).1.toNat) := fun h => hm (by rw [BitVec.lt_def]; exact h)
        omega
      rw [show w64 (un (pV 8 (pB (some b)).2).1) = (((pV 8 (pB (some b)).2).1.toNat : Nat) : Int) from w64_id (by unfold un; omega) (by unfold un; omega), wd_nat]
      simp only [List.append_assoc]
theorem fin_fwd {k : BitVec 8} {ep : Int} {hd : THeader} {lo : BitVec 8} {nu : BitVec 64} {da : By} (m : W2) (t : By) (hv : VP ⟨k, ep, hd, lo, nu, da, m⟩) : fin k ep hd lo nu da (some (kby m ++ t)) = if t = [] then (⟨k, ep, hd, lo, nu, da, m⟩, 0) else (zP, 8) := by
  unfold fin
  rw [pK_fwd]
  by_cases ht : t = []
  · subst ht; rw [if_pos ⟨rfl, hv⟩, if_pos rfl]
  · rw [if_neg (by simp [ht]), if_neg ht]
theorem dec_fwd {p : TPacket} (hv : VP p) (t : By) : decP (bts p ++ t) = if t = [] then (p, 0) else (zP, 8) := by
  obtain ⟨k, ep, ⟨its, ba, pts, bx, ck⟩, lo, nu, da, m⟩ := p
  unfold decP bts bdy
  simp only
  rw [List.append_assoc, List.append_assoc, pB_fwd, wd8_un8]
  simp only
  have hv' := hv
  rcases hv with ⟨hk, hh⟩ | ⟨hk, hc⟩
  · simp only at hk
    obtain ⟨⟨e0, e1⟩, c2, c3, c4, c5, c6, c7⟩ := hh
    simp only at c2 c3 c4 c5 c6 c7 e0 e1
    subst hk
    rw [if_neg (by decide), if_neg (by decide)]
    unfold decH
    have hen : (wd ep).toNat = ep.toNat := by unfold wd; rw [BitVec.toNat_ofInt]; omega
    have e8 : w64 (un (wd ep)) = ep := by unfold un; rw [hen, w64_id (by omega) (by omega)]; omega
    rw [List.append_assoc, pV8, if_neg (by rw [BitVec.lt_def, hen]; show ¬ 1099511627776 < ep.toNat; omega)]
    simp only
    rw [List.append_assoc, pB_fwd, e8, un8_wd8 (by omega) (by omega)]
    simp only [Int.toNat_natCast, List.append_assoc]
    rw [lp_fwd its [] _ fun x hx t => pI_fwd (c7 x hx) t]
    unfold decI
    simp only [List.nil_append]
    rw [pV8]
    simp only
    rw [pB_fwd, un8_wd8 (by omega) (by omega)]
    simp only [Int.toNat_natCast]
    rw [lp_fwd pts [] _ fun x _ t => pP_fwd x t]
    unfold decQ
    simp only [List.nil_append]
    rw [pK_fwd]
    simp only
    rw [pK_fwd]
    simp only
    subst c2; subst c3; subst c4
    exact fin_fwd m t hv'
  · simp only at hk
    obtain ⟨c1, c2, c3, c4⟩ := hc
    unfold Blank at c4
    simp only at c1 c2 c3 c4
    obtain ⟨b1, b2, b3, b4, b5⟩ := c4
    subst hk
    rw [if_pos rfl, if_pos rfl]
    unfold decC
    have hn : (wd (da.length : Int)).toNat = da.length := by unfold wd; rw [BitVec.toNat_ofInt]; omega
    simp only [List.append_assoc]
    rw [pB_fwd, wd8_un8]
    simp only
    rw [pV8]
    simp only
    rw [pV_fwd (k := 2) _ _ (by rw [hn]; show da.length < 65536; omega) (by omega)]
    simp only
    rw [hn, pN_fwd rfl]
    simp only
    subst c1; subst b1; subst b2; subst b3; subst b4; subst b5
    exact fin_fwd m t hv'
end Go.Sx.Ep
