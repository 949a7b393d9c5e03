/- Packets and their bytes, plainly: what the reference reads; both sides answer alike. -/
import Derived.Test.YtjdffpglgkefmaaPkb
set_option linter.unusedVariables false
set_option linter.unusedSimpArgs false
set_option maxRecDepth 100000
namespace Go.Sx.Ep
open Go Go.Sx
theorem valB_zero (k : Nat) : valB (List.replicate k 0#8) = 0#64 := by
  induction k with
  | zero => rfl
  | succ k ih => rw [List.replicate_succ', valB_snoc, ih]; rfl
theorem at_eq (b : By) (i k : Nat) {ii kk : Int} (hi : ii = (i : Int)) (hk : kk = (k : Int)) (hb : b.length ≤ 100000) (hi' : i ≤ 100000) (hk' : k ≤ 8) (h1 : 1 ≤ k) : ref05_at b ii kk = some (pV k (some (b.drop i))).1 := by
  subst hi; subst hk
  unfold ref05_at pV
  rw [w64_id (by omega) (by omega), pN_some, List.length_drop]
  by_cases h : b.length < i + k
  · rw [if_pos (by omega), if_neg (by omega), valB_zero]
  · rw [if_neg (by omega), if_pos (by omega)]
    refine goE _ (fun j x => x = (valB ((b.drop i).take j), (j : Int))) k _ (by omega) rfl ?_ ?_
    · rintro j _ hj rfl
      refine ⟨_, rfl, fun rec => ?_⟩
      simp only [ref05_at_L1]
      have e : ((i : Int) + (j : Int)) = ((i + j : Nat) : Int) := by omega
      rw [if_pos (by omega), w64_id (by omega) (by omega), e, getI_some (by omega), bind_some, w64_nat (by omega), take_snoc _ _ (by rw [List.length_drop]; omega), valB_snoc, List.getElem_drop]
    · rintro _ rfl rec
      simp only [ref05_at_L1]
      rw [if_neg (by omega)]
theorem rkey_eq (b : By) (i : Nat) {ii : Int} (hi : ii = (i : Int)) (hb : b.length ≤ 100000) (hi' : i ≤ 100000) : ref05_key b ii = some (pK (some (b.drop i))).1 := by
  subst hi
  unfold ref05_key pK
  rw [pN_some, List.length_drop]
  by_cases h : i + 16 ≤ b.length
  · rw [if_pos (by omega)]
    refine goE _ (fun j x => ∃ q, x = ((j : Int), q) ∧ kby q = (b.drop i).take j ++ List.replicate (16 - j) 0#8) 16 _ (by omega) ⟨k0, rfl, by rw [List.take_zero]; exact (by decide : kby k0 = [] ++ List.replicate 16 0#8)⟩ ?_ ?_
    · rintro j _ hj ⟨q, rfl, hq⟩
      have hlt : j < 16 := hj
      have hs : kset q (j : Int) b[i + j] = some (ofB ((kby q).set j b[i + j])) := by unfold kset; rw [if_pos (by omega)]; simp
      refine ⟨_, ⟨ofB ((kby q).set j b[i + j]), rfl, ?_⟩, fun rec => ?_⟩
      · rw [kby_ofB' (by simp [kby_len]), hq, take_snoc _ _ (by rw [List.length_drop]; omega), List.getElem_drop]
        have hl : ((b.drop i).take j).length = j := by rw [List.length_take, List.length_drop]; omega
        rw [List.set_append_right _ _ (by omega), hl, Nat.sub_self, show 16 - j = (16 - (j + 1)) + 1 from by omega, List.replicate_succ, List.set_cons_zero, List.append_assoc]; rfl
      · simp only [ref05_key_L1]
        have e : ((i : Int) + (j : Int)) = ((i + j : Nat) : Int) := by omega
        rw [if_pos (by omega), w64_id (by omega) (by omega), decide_eq_true (by omega)]
        unfold ref05_key_J2
        rw [cond_true, w64_id (by omega) (by omega), e, getI_some (by omega), bind_some, getI_some (by rw [kby_len]; omega), bind_some, hs, bind_some, w64_nat (by omega)]
    · rintro _ ⟨q, rfl, hq⟩ rec
      simp only [ref05_key_L1]
      rw [if_neg (by omega)]
      unfold ref05_key_J2
      rw [cond_false]
      congr 1
      rw [List.replicate_zero, List.append_nil] at hq
      rw [← hq, ofB_kby']
  · rw [if_neg (by omega)]
    rw [show FUEL = 18446744073709551615 + 1 from rfl, fix_step]
    simp only [ref05_key_L1]
    rw [if_pos (by omega), w64_id (by omega) (by omega), decide_eq_false (by omega)]
    rfl
/-- a byte as a number -/
theorem pV1 (o : Option By) : w64 (un (pV 1 o).1) = (pB o).1 := by
  have := small_eq o
  unfold epoch_reader_small at this
  rw [rnum_eq (kk := 1) o 1 rfl (by omega), bind_some] at this
  have h := congrArg (fun x => x.map Prod.fst) this
  exact Option.some.inj h
theorem pV1_8 (o : Option By) : (pV 1 o).1.setWidth 8 = wd8 (pB o).1 := by
  unfold pB pV
  rw [wd8_un8]
  have e := one_eq (pN_len 1 o)
  generalize (pN 1 o).1 = l at e
  rw [e]
  apply BitVec.eq_of_toNat_eq
  have := (valB_nat 0 [] rfl (by omega)).2 (l.headD 0#8) (by omega)
  rw [List.nil_append] at this
  generalize l.headD 0#8 = c at *
  have h2 := c.isLt
  rw [BitVec.toNat_setWidth, this, show (valB ([] : By)).toNat = 0 from rfl]
  show (256 * 0 + c.toNat) % 2 ^ 8 = c.toNat
  omega
/-- the item at a place -/
def itV (b : By) (j : Nat) : TItem := ⟨⟨(pB (some (b.drop (10 + 18 * j)))).1, (pB (some (b.drop (11 + 18 * j)))).1⟩, (pK (some (b.drop (12 + 18 * j)))).1⟩
def nI (b : By) : Nat := (pB (some (b.drop 9))).1.toNat
def oI (b : By) : Nat := 10 + 18 * nI b
def nP (b : By) : Nat := (pB (some (b.drop (oI b + 8)))).1.toNat
def ptV (b : By) (j : Nat) : TPoint := ⟨(pV 8 (some (b.drop (oI b + 9 + 16 * j)))).1, (pV 8 (some (b.drop (oI b + 17 + 16 * j)))).1⟩
def oP (b : By) : Nat := oI b + 9 + 16 * nP b
def hdV (b : By) : THeader := ⟨(List.range (nI b)).map (itV b), (pV 8 (some (b.drop (oI b)))).1, (List.range (nP b)).map (ptV b), (pK (some (b.drop (oP b)))).1, (pK (some (b.drop (oP b + 16)))).1⟩
def nD (b : By) : Nat := (pV 2 (some (b.drop 10))).1.toNat
/-- what the bytes could be -/
def rdV (b : By) : TPacket :=
  if wd8 (pB (some b)).1 = 2#8 then ⟨wd8 (pB (some b)).1, 0, ⟨[], 0#64, [], k0, k0⟩, wd8 (pB (some (b.drop 1))).1, (pV 8 (some (b.drop 2))).1, (if 12 + nD b ≤ b.length then (b.drop 12).take (nD b) else []), (pK (some (b.drop (12 + nD b)))).1⟩
  else ⟨wd8 (pB (some b)).1, (if (pV 8 (some (b.drop 1))).1 ≤ 1099511627776#64 then w64 (un (pV 8 (some (b.drop 1))).1) else 0), hdV b, 0#8, 0#64, [], (pK (some (b.drop (oP b + 32)))).1⟩
theorem nI_le (b : By) : nI b ≤ 255 := by have := pB_le (some (b.drop 9)); unfold nI; omega
theorem nP_le (b : By) : nP b ≤ 255 := by have := pB_le (some (b.drop (oI b + 8))); unfold nP; omega
theorem nD_lt (b : By) : nD b < 65536 := (valB_nat 2 _ (pN_len 2 _) (by omega)).1
theorem read_L (b : By) (hb : b.length ≤ 20000) (ep : Int) : ref05_read_J2 b (pV 1 (some b)).1 ep = some ⟨wd8 (pB (some b)).1, ep, hdV b, 0#8, 0#64, [], (pK (some (b.drop (oP b + 32)))).1⟩ := by
  unfold ref05_read_J2
  have hI := nI_le b
  have hP := nP_le b
  have hI0 : ((nI b : Nat) : Int) = (pB (some (b.drop 9))).1 := Int.toNat_of_nonneg (pB_le _).1
  have hP0 : ((nP b : Nat) : Int) = (pB (some (b.drop (oI b + 8)))).1 := Int.toNat_of_nonneg (pB_le _).1
  refine goE _ (fun j x => x = (((10 + 18 * j : Nat) : Int), (j : Int), (List.range j).map (itV b))) (nI b) _ (by omega) rfl ?_ ?_
  · rintro j _ hj rfl
    refine ⟨_, rfl, fun rec => ?_⟩
    simp only [ref05_read_L3]
    rw [at_eq b 9 1 (ii := 9) (kk := 1) rfl rfl (by omega) (by omega) (by omega) (by omega), bind_some, pV1, if_pos (by omega), at_eq b (10 + 18 * j) 1 (kk := 1) rfl rfl (by omega) (by omega) (by omega) (by omega), bind_some,
      w64_id (n := ((10 + 18 * j : Nat) : Int) + 1) (by omega) (by omega), at_eq b (11 + 18 * j) 1 (kk := 1) (by omega) rfl (by omega) (by omega) (by omega) (by omega), bind_some,
      w64_id (n := ((10 + 18 * j : Nat) : Int) + 2) (by omega) (by omega), rkey_eq b (12 + 18 * j) (by omega) (by omega) (by omega), bind_some, appG_some (by simp; omega), bind_some, w64_id (n := ((10 + 18 * j : Nat) : Int) + 18) (by omega) (by omega), w64_nat (by omega), pV1, pV1,
      show ((10 + 18 * j : Nat) : Int) + 18 = ((10 + 18 * (j + 1) : Nat) : Int) from by omega, List.range_succ, List.map_append]
    rfl
  · rintro _ rfl rec
    simp only [ref05_read_L3]
    rw [at_eq b 9 1 (ii := 9) (kk := 1) rfl rfl (by omega) (by omega) (by omega) (by omega), bind_some, pV1, if_neg (by omega), at_eq b (10 + 18 * nI b) 8 (kk := 8) rfl rfl (by omega) (by omega) (by omega) (by omega), bind_some,
      w64_id (n := ((10 + 18 * nI b : Nat) : Int) + 8) (by omega) (by omega), at_eq b (oI b + 8) 1 (kk := 1) (by unfold oI; omega) rfl (by omega) (by unfold oI; omega) (by omega) (by omega), bind_some, w64_id (n := ((10 + 18 * nI b : Nat) : Int) + 9) (by omega) (by omega)]
    have ho : oI b = 10 + 18 * nI b := rfl
    refine goE _ (fun j x => x = (((oI b + 9 + 16 * j : Nat) : Int), (j : Int), (List.range j).map (ptV b))) (nP b) _ (by omega) (by simp [ho]) ?_ ?_
    · rintro j _ hj rfl
      refine ⟨_, rfl, fun rec => ?_⟩
      simp only [ref05_read_L4]
      rw [pV1, if_pos (by omega), at_eq b (oI b + 9 + 16 * j) 8 (kk := 8) rfl rfl (by omega) (by omega) (by omega) (by omega), bind_some, w64_id (n := ((oI b + 9 + 16 * j : Nat) : Int) + 8) (by omega) (by omega), at_eq b (oI b + 17 + 16 * j) 8 (kk := 8) (by omega) rfl (by omega) (by omega) (by omega) (by omega), bind_some,
        appG_some (by simp; omega), bind_some, w64_id (n := ((oI b + 9 + 16 * j : Nat) : Int) + 16) (by omega) (by omega), w64_nat (by omega), show ((oI b + 9 + 16 * j : Nat) : Int) + 16 = ((oI b + 9 + 16 * (j + 1) : Nat) : Int) from by omega, List.range_succ, List.map_append]
      rfl
    · rintro _ rfl rec
      simp only [ref05_read_L4]
      have hoP : oP b = oI b + 9 + 16 * nP b := rfl
      rw [pV1, if_neg (by omega), rkey_eq b (oI b + 9 + 16 * nP b) rfl (by omega) (by omega), bind_some, w64_id (n := ((oI b + 9 + 16 * nP b : Nat) : Int) + 16) (by omega) (by omega), rkey_eq b (oP b + 16) (by omega) (by omega) (by omega), bind_some, w64_id (n := ((oI b + 9 + 16 * nP b : Nat) : Int) + 32) (by omega) (by omega), rkey_eq b (oP b + 32) (by omega) (by omega) (by omega), bind_some, pV1_8]
      rfl
theorem read_eq (b : By) (hb : b.length ≤ 20000) : ref05_read b = some (rdV b) := by
  unfold ref05_read
  have h0 := at_eq b 0 1 (ii := 0) (kk := 1) rfl rfl (by omega) (by omega) (by omega) (by omega)
  rw [List.drop_zero] at h0
  rw [h0, bind_some, pV1_8]
  unfold rdV
  by_cases hk : wd8 (pB (some b)).1 = 2#8
  · have hd := nD_lt b
    rw [if_pos hk, if_pos hk, at_eq b 1 1 (ii := 1) (kk := 1) rfl rfl (by omega) (by omega) (by omega) (by omega), bind_some, at_eq b 2 8 (ii := 2) (kk := 8) rfl rfl (by omega) (by omega) (by omega) (by omega), bind_some, at_eq b 10 2 (ii := 10) (kk := 2) rfl rfl (by omega) (by omega) (by omega) (by omega), bind_some]
    have e : w64 (un (pV 2 (some (b.drop 10))).1) = ((nD b : Nat) : Int) := w64_id (by unfold un; unfold nD at hd; omega) (by unfold un; unfold nD at hd; omega)
    rw [e, w64_id (n := 12 + ((nD b : Nat) : Int)) (by omega) (by omega)]
    have hj : ∀ a : By, ref05_read_J1 b (pV 1 (some b)).1 (pV 1 (some (b.drop 1))).1 (pV 8 (some (b.drop 2))).1 (pV 2 (some (b.drop 10))).1 a = some ⟨wd8 (pB (some b)).1, 0, ⟨[], 0#64, [], k0, k0⟩, wd8 (pB (some (b.drop 1))).1, (pV 8 (some (b.drop 2))).1, a, (pK (some (b.drop (12 + nD b)))).1⟩ := fun a => by
      unfold ref05_read_J1
      rw [e, w64_id (n := 12 + ((nD b : Nat) : Int)) (by omega) (by omega), rkey_eq b (12 + nD b) (by omega) (by omega) (by omega), bind_some, pV1_8, pV1_8]
    by_cases h : 12 + nD b ≤ b.length
    · have e2 : sliG b 12 (12 + ((nD b : Nat) : Int)) = some ((b.drop 12).take (nD b)) := by
        unfold sliG
        rw [if_pos (by omega), List.take_drop]
        congr 3
      rw [if_pos (by omega), e2, bind_some, appG_some (by simp; omega), bind_some, hj, if_pos h]; rfl
    · rw [if_neg (by omega), hj, if_neg h]
  · rw [if_neg hk, if_neg hk, at_eq b 1 8 (ii := 1) (kk := 8) rfl rfl (by omega) (by omega) (by omega) (by omega), bind_some]
    by_cases hm : (pV 8 (some (b.drop 1))).1 ≤ 1099511627776#64
    · rw [if_pos hm, bind_some, read_L b hb, if_pos hm]
    · rw [if_neg hm, read_L b hb, if_neg hm]
theorem rdV_sm (b : By) (hb : b.length ≤ 20000) : Sm (rdV b) := by
  have := nI_le b
  have := nP_le b
  unfold rdV Sm
  split
  · refine ⟨by simp, by simp, ?_⟩
    simp only
    split
    · rw [List.length_take, List.length_drop]; omega
    · simp
  · simp only [hdV, List.length_map, List.length_range, List.length_nil]; omega
theorem rdec_eq (b : By) (hb : b.length ≤ 20000) : ref05_Decode b = some (if VP (rdV b) ∧ bts (rdV b) = b then (rdV b, 0) else (zP, 8)) := by
  have hs := rdV_sm b hb
  unfold ref05_Decode
  rw [read_eq b hb, bind_some, rchk_eq _ (by have := hs.1; omega), bind_some]
  by_cases hv : VP (rdV b)
  · rw [decide_eq_true hv]
    simp only [Bool.not_true, cond_false]
    rw [rbts_eq _ hs, bind_some]
    unfold ref05_Decode_J1
    by_cases he : bts (rdV b) = b
    · rw [decide_eq_false (by simpa using he), if_pos ⟨hv, he⟩]; rfl
    · rw [decide_eq_true he, if_neg (fun h => he h.2)]; rfl
  · rw [decide_eq_false hv, if_neg (fun h => hv h.1)]; rfl
/-! ### a packet's bytes, read -/
theorem flat_dropB {α : Type} (f : α → By) (c : Nat) (hf : ∀ a, (f a).length = c) (r : By) : ∀ (i : Nat) (l : List α), i ≤ l.length → (l.flatMap f ++ r).drop (c * i) = (l.drop i).flatMap f ++ r
  | 0, l, _ => by simp
  | i + 1, [], h => by simp at h
  | i + 1, a :: l, h => by
    rw [List.flatMap_cons, List.append_assoc, show c * (i + 1) = (f a).length + c * i from by rw [hf, Nat.mul_add, Nat.mul_one, Nat.add_comm], ← List.drop_drop, List.drop_left, List.drop_succ_cons]
    exact flat_dropB f c hf r i l (by simpa using h)
theorem drop_at {b s t : By} {i n : Nat} (h : b.drop i = s ++ t) (hs : s.length = n) : b.drop (i + n) = t := by rw [← List.drop_drop, h, List.drop_left' hs]
theorem drop_fl {α : Type} {f : α → By} {c : Nat} (hf : ∀ a, (f a).length = c) {b r : By} {i : Nat} {l : List α} (h : b.drop i = l.flatMap f ++ r) (j : Nat) (hj : j ≤ l.length) : b.drop (i + c * j) = (l.drop j).flatMap f ++ r := by rw [← List.drop_drop, h, flat_dropB f c hf r j l hj]
theorem rd_bts {p : TPacket} (hv : VP p) : rdV (bts p) = p := by
  have hv0 := hv
  generalize hb : bts p = b
  unfold bts bdy at hb
  rw [List.append_assoc] at hb
  have b0 : pB (some b) = (un8 p.Kind, some (b.drop 1)) := by rw [← hb, pB_fwd]; rfl
  unfold rdV
  rw [b0]
  simp only [wd8_un8]
  rcases hv with ⟨hk, hh⟩ | ⟨hk, hc⟩
  · obtain ⟨⟨e0, e1⟩, c2, c3, c4, c5, c6, c7⟩ := hh
    have hk2 : ¬ p.Kind = 2#8 := by rw [hk]; decide
    rw [if_neg hk2]
    rw [if_neg hk2] at hb
    simp only [List.append_assoc] at hb
    have d1 := drop_at (b := b) (i := 0) (n := 1) (s := [p.Kind]) (by rw [List.drop_zero]; exact hb.symm) rfl
    rw [Nat.zero_add] at d1
    have d9 := drop_at (n := 8) d1 (be_len _ _)
    have d10 := drop_at (n := 1) d9 rfl
    have n1 : nI b = p.Head.Items.length := by unfold nI; rw [show (9 : Nat) = 1 + 8 from rfl, d9, pB_fwd, un8_wd8 (by omega) (by omega)]; simp
    have d10' : b.drop 10 = _ := d10
    have dI := fun j hj => drop_fl itB_len d10' j hj
    have dE := dI _ (Nat.le_refl _)
    rw [List.drop_length, List.flatMap_nil, List.nil_append] at dE
    have o1 : oI b = 10 + 18 * p.Head.Items.length := by unfold oI; rw [n1]
    rw [← o1] at dE
    have d8 := drop_at (n := 8) dE (be_len _ _)
    have n2 : nP b = p.Head.Points.length := by unfold nP; rw [d8, pB_fwd, un8_wd8 (by omega) (by omega)]; simp
    have dp0 := drop_at (n := 1) d8 rfl
    have dp0' : b.drop (oI b + 9) = _ := dp0
    have dP := fun j hj => drop_fl ptB_len dp0' j hj
    have dQ := dP _ (Nat.le_refl _)
    rw [List.drop_length, List.flatMap_nil, List.nil_append] at dQ
    have o2 : oP b = oI b + 9 + 16 * p.Head.Points.length := by unfold oP; rw [n2]
    rw [← o2] at dQ
    have dk := drop_at (n := 16) dQ (kby_len _)
    have dm := drop_at (n := 16) dk (kby_len _)
    have eI : (List.range (nI b)).map (itV b) = p.Head.Items := by
      rw [n1]
      apply List.ext_getElem
      · simp
      · intro i h1 h2
        rw [List.getElem_map, List.getElem_range]
        have hd := dI i (by omega)
        rw [List.drop_eq_getElem_cons h2, List.flatMap_cons, List.append_assoc] at hd
        obtain ⟨⟨q1, q2⟩, q3, q4⟩ := c7 _ (List.getElem_mem h2)
        generalize p.Head.Items[i] = x at *
        unfold itB at hd
        rw [show [wd8 x.Subset.Node, wd8 x.Subset.Minus] ++ kby x.Box = [wd8 x.Subset.Node] ++ ([wd8 x.Subset.Minus] ++ kby x.Box) from by simp, List.append_assoc, List.append_assoc] at hd
        have hd1 := drop_at (n := 1) hd rfl
        have hd2 := drop_at (n := 1) hd1 rfl
        unfold itV
        rw [hd, show 11 + 18 * i = 10 + 18 * i + 1 from by omega, hd1, show 12 + 18 * i = 10 + 18 * i + 1 + 1 from by omega, hd2, pB_fwd, pB_fwd, pK_fwd, un8_wd8 q1 (by omega), un8_wd8 q3 (by omega)]
    have eP : (List.range (nP b)).map (ptV b) = p.Head.Points := by
      rw [n2]
      apply List.ext_getElem
      · simp
      · intro i h1 h2
        rw [List.getElem_map, List.getElem_range]
        have hd := dP i (by omega)
        rw [List.drop_eq_getElem_cons h2, List.flatMap_cons, List.append_assoc] at hd
        generalize p.Head.Points[i] = x at *
        unfold ptB at hd
        rw [List.append_assoc] at hd
        have hd1 := drop_at (n := 8) hd (be_len _ _)
        unfold ptV
        rw [hd, show oI b + 17 + 16 * i = oI b + 9 + 16 * i + 8 from by omega, hd1, pV8, pV8]
    have hen : (wd p.Epoch).toNat = p.Epoch.toNat := by unfold wd; rw [BitVec.toNat_ofInt]; omega
    have hle : wd p.Epoch ≤ 1099511627776#64 := by rw [BitVec.le_def, hen]; show p.Epoch.toNat ≤ 1099511627776; omega
    unfold hdV
    rw [eI, eP, dE, dQ, dk, show oP b + 32 = oP b + 16 + 16 from rfl, dm, d1, pV8, pV8, pK_fwd, pK_fwd, if_pos hle]
    have km := pK_fwd p.Mac []
    rw [List.append_nil] at km
    rw [km]
    have e8 : w64 (un (wd p.Epoch)) = p.Epoch := by unfold un; rw [hen, w64_id (by omega) (by omega)]; omega
    rw [e8]
    obtain ⟨k, ep, ⟨its, ba, pts, bx, ck⟩, lo, nu, da, m⟩ := p
    simp only at *
    rw [c2, c3, c4]
  · obtain ⟨c1, c2, c3, b1, b2, b3, b4, b5⟩ := hc
    rw [if_pos hk]
    rw [if_pos hk] at hb
    simp only [List.append_assoc] at hb
    have d1 := drop_at (b := b) (i := 0) (n := 1) (s := [p.Kind]) (by rw [List.drop_zero]; exact hb.symm) rfl
    rw [Nat.zero_add] at d1
    have d2 := drop_at (n := 1) d1 rfl
    have d10 := drop_at (n := 8) d2 (be_len _ _)
    have d12 := drop_at (n := 2) d10 (be_len _ _)
    have hn : (wd (p.Data.length : Int)).toNat = p.Data.length := by unfold wd; rw [BitVec.toNat_ofInt]; omega
    have nd : nD b = p.Data.length := by
      unfold nD
      rw [show (10 : Nat) = 1 + 1 + 8 from rfl, d10, pV_fwd (k := 2) _ _ (by rw [hn]; show p.Data.length < 65536; omega) (by omega)]
      exact hn
    have dm := drop_at (n := p.Data.length) d12 rfl
    have hlen : 12 + p.Data.length ≤ b.length := by
      rw [← hb]; simp only [List.length_append, be_len, List.length_cons, List.length_nil, kby_len]; omega
    rw [nd, if_pos hlen, d1, show (2 : Nat) = 1 + 1 from rfl, d2, show (12 : Nat) = 1 + 1 + 8 + 2 from rfl, d12, dm, pB_fwd, pV8, wd8_un8, List.take_left' rfl]
    have km := pK_fwd p.Mac []
    rw [List.append_nil] at km
    rw [km]
    obtain ⟨k, ep, ⟨its, ba, pts, bx, ck⟩, lo, nu, da, m⟩ := p
    simp only at *
    subst c1; subst b1; subst b2; subst b3; subst b4; subst b5
    rfl
/-- both sides answer alike -/
theorem dec_same (b : By) (hb : b.length ≤ 20000) : ref05_Decode b = some (decP b) := by
  rw [rdec_eq b hb]
  congr 1
  rcases dec_or b with h | h
  · rw [h, if_neg]
    rintro ⟨hv, he⟩
    have := dec_fwd hv []
    rw [List.append_nil, he, h, if_pos rfl] at this
    cases congrArg Prod.snd this
  · obtain ⟨hv, he⟩ := dec_back h
    have := rd_bts hv
    rw [he] at this
    rw [this, if_pos ⟨hv, he⟩, ← h]
end Go.Sx.Ep
