/- MX: keys as bytes, strings of bytes, copy; calls that turn memory in drawn regions. -/
import Derived.Test.YtjdffpglgkefmaaGreatMirB
import Derived.Laws.IdiomStrings
import Derived.Laws.Strings
import Derived.Laws.IdiomCopy
set_option linter.unusedVariables false
set_option linter.unusedSimpArgs false
namespace Go.Sx
open Go Go.RowKit

/-! ### keys as bytes -/
def byt (x : BitVec 64) (i : Nat) : BitVec 8 := (x >>> (56 - 8 * i)).setWidth 8
/-- the bytes of a key -/
def kby (p : W2) : List (BitVec 8) := [byt p.1 0, byt p.1 1, byt p.1 2, byt p.1 3, byt p.1 4, byt p.1 5, byt p.1 6, byt p.1 7, byt p.2 0, byt p.2 1, byt p.2 2, byt p.2 3, byt p.2 4, byt p.2 5, byt p.2 6, byt p.2 7]
theorem kby_len (p : W2) : (kby p).length = 16 := rfl
theorem un8_byt (x : BitVec 64) (i : Nat) : un8 (byt x i) = bt x i := by
  unfold un8 byt bt un; rw [BitVec.toNat_setWidth]; omega
theorem kb_kby (p : W2) : kb p = ((kby p).map bvc).flatten := by
  simp only [kb, kby, List.map_cons, List.map_nil, List.flatten_cons, List.flatten_nil, List.cons_append, List.nil_append, bv, un8_byt]
/-- eight bytes as a word, the highest first -/
def wrd (b0 b1 b2 b3 b4 b5 b6 b7 : BitVec 8) : BitVec 64 := b0 ++ b1 ++ b2 ++ b3 ++ b4 ++ b5 ++ b6 ++ b7
theorem byt_wrd (b0 b1 b2 b3 b4 b5 b6 b7 : BitVec 8) : byt (wrd b0 b1 b2 b3 b4 b5 b6 b7) 0 = b0 ∧ byt (wrd b0 b1 b2 b3 b4 b5 b6 b7) 1 = b1 ∧ byt (wrd b0 b1 b2 b3 b4 b5 b6 b7) 2 = b2 ∧ byt (wrd b0 b1 b2 b3 b4 b5 b6 b7) 3 = b3 ∧ byt (wrd b0 b1 b2 b3 b4 b5 b6 b7) 4 = b4 ∧ byt (wrd b0 b1 b2 b3 b4 b5 b6 b7) 5 = b5 ∧ byt (wrd b0 b1 b2 b3 b4 b5 b6 b7) 6 = b6 ∧ byt (wrd b0 b1 b2 b3 b4 b5 b6 b7) 7 = b7 := by
  have key : ∀ (x y : BitVec 8), (∀ i, i < 8 → x.getLsbD i = y.getLsbD i) → x = y := fun x y h => BitVec.eq_of_getLsbD_eq (fun i hi => h i hi)
  refine ⟨?_, ?_, ?_, ?_, ?_, ?_, ?_, ?_⟩ <;>
  · apply key
    intro i hi
    simp only [byt, wrd, BitVec.getLsbD_setWidth, BitVec.getLsbD_ushiftRight, BitVec.getLsbD_append, hi, decide_true, Bool.true_and]
    repeat' split
    all_goals first | omega | (congr 1; omega)
/-- the key of sixteen bytes -/
def ofB : List (BitVec 8) → W2
  | b0 :: b1 :: b2 :: b3 :: b4 :: b5 :: b6 :: b7 :: c0 :: c1 :: c2 :: c3 :: c4 :: c5 :: c6 :: c7 :: _ => (wrd b0 b1 b2 b3 b4 b5 b6 b7, wrd c0 c1 c2 c3 c4 c5 c6 c7)
  | _ => k0
theorem kby_ofB {l : List (BitVec 8)} (h : 16 ≤ l.length) : kby (ofB l) = l.take 16 := by
  match l, h with
  | b0 :: b1 :: b2 :: b3 :: b4 :: b5 :: b6 :: b7 :: c0 :: c1 :: c2 :: c3 :: c4 :: c5 :: c6 :: c7 :: r, _ =>
    obtain ⟨h0, h1, h2, h3, h4, h5, h6, h7⟩ := byt_wrd b0 b1 b2 b3 b4 b5 b6 b7
    obtain ⟨g0, g1, g2, g3, g4, g5, g6, g7⟩ := byt_wrd c0 c1 c2 c3 c4 c5 c6 c7
    simp only [ofB, kby, h0, h1, h2, h3, h4, h5, h6, h7, g0, g1, g2, g3, g4, g5, g6, g7]
    rfl
theorem kby_inj {p q : W2} (h : kby p = kby q) : p = q := kb_inj (by rw [kb_kby, kb_kby, h])
theorem ofB_kby (p : W2) (r : List (BitVec 8)) : ofB (kby p ++ r) = p := kby_inj (by rw [kby_ofB (by simp [kby])]; rfl)
/-- sixteen bytes and more as a key -/
def keyG (l : List (BitVec 8)) : Option W2 := if 16 ≤ l.length then some (ofB l) else none
theorem keyG_eq {l : List (BitVec 8)} {p : W2} (h : keyG l = some p) : 16 ≤ l.length ∧ p = ofB l := by
  unfold keyG at h; split at h
  · exact ⟨‹_›, (Option.some.inj h).symm⟩
  · cases h
/-- a byte of a key that is put -/
def kset (p : W2) (i : Int) (b : BitVec 8) : Option W2 := if 0 ≤ i ∧ i < 16 then some (ofB ((kby p).set i.toNat b)) else none
theorem kset_eq {p q : W2} {i : Int} {b : BitVec 8} (h : kset p i b = some q) : (0 ≤ i ∧ i < 16) ∧ kby q = (kby p).set i.toNat b := by
  unfold kset at h; split at h
  · refine ⟨‹_›, ?_⟩
    cases h
    rw [kby_ofB (by simp [kby]), List.take_of_length_le (by simp [kby])]
  · cases h
section
variable {P : Program} {L : Slots} {w : World} {dst : Option Nat} {ty : TypeId} {pos : String} {af : Array Edge} {gu : Option (Nat × Bool)} {x y : Operand} {t e : TypeId} {z g o sz : Nat} {v : Value}
theorem rd_key {b : Nat} {cs : List Value} {p : W2} (hb : Bx w b t cs) (h : (cs.drop o).take 16 = kb p) : Rd w 1 b o 1 (.slice (some ⟨b, o, none⟩) 16 16) ((kby p).map bvc) :=
  rd_seg hb (ws_map _ (fun _ => rfl) (fun _ => rfl)) rfl (by rw [← kb_kby]; exact h)
theorem rd_keyP {b lo hi : Nat} {cs : List Value} {p : W2} (hb : Bx w b t cs) (h : (cs.drop o).take 16 = kb p) (h1 : Nat.ble lo hi = true) (h2 : Nat.ble hi 16 = true) : Rd w 1 b (o + lo) 1 (.slice (some ⟨b, o + lo, none⟩) (hi - lo) (16 - lo)) ((((kby p).take hi).drop lo).map bvc) := by
  have h1' := Nat.le_of_ble_eq_true h1
  have h2' := Nat.le_of_ble_eq_true h2
  have hw : Ws 1 ((kby p).map bvc) := ws_map _ (fun _ => rfl) (fun _ => rfl)
  have hf : ((((kby p).take hi).drop lo).map bvc).flatten = ((kb p).take hi).drop lo := by
    rw [List.map_drop, List.map_take, flat_drop _ _ hw.take, flat_take _ _ hw, ← kb_kby, Nat.mul_one, Nat.mul_one]
  have hk : (kb p).length = 16 := rfl
  have hl : (((kby p).take hi).drop lo).length = hi - lo := by rw [List.length_drop, List.length_take, kby_len]; omega
  refine rd_seg hb (ws_map _ (fun _ => rfl) (fun _ => rfl)) (by rw [List.length_map, hl]) ?_ (Nat.ble_eq_true_of_le (by omega))
  rw [hf, ← h, List.length_drop, List.length_take, ← List.drop_drop]
  apply List.ext_getElem?
  intro j
  simp only [List.getElem?_take, List.getElem?_drop]
  have hc : ((cs.drop o).take 16).length = 16 := by rw [h]; rfl
  simp only [List.length_take, List.length_drop] at hc ⊢
  by_cases hj : j < hi - lo
  · rw [if_pos (by omega), if_pos (by omega), if_pos (by omega)]
  · rw [if_neg (by omega), if_neg (by omega)]
/-- a slice as an array's address -/
theorem vv_s2a {l : List (BitVec 8)} {p : W2} {n : Nat} (hu : P.underlying t = some (.array 16 e)) (hx : ev L x = some v) (hr : Rd w z g o 1 v (l.map bvc)) (hk : keyG l = some p) : VV P L ⟨dst, .sliceToArrayPointer t x, ty, pos, af, gu⟩ w (.pointer (some ⟨g, o, none⟩)) := fun ρ hρ => by
  obtain ⟨h16, _⟩ := keyG_eq hk
  rcases hr.2 with ⟨_, h0, _⟩ | ⟨_, cap, rfl, _⟩
  · have : l = [] := by simpa using h0
    subst this; simp at h16
  · have hlt : ¬ (l.length < 16) := by omega
    refine run_v ?_
    rw [hρ _ _ hx]
    simp [Instr.arrayAt, run_underlying hu, hlt]
theorem vv_s2aL {l : List (BitVec 8)} {p : W2} (h1 : Agg P t 16) (hx : ev L x = some (.pointer (some ⟨g, o, none⟩))) (hr : Rd w z g o 1 v (l.map bvc)) (hk : keyG l = some p) : VV P L ⟨dst, .load t x, ty, pos, af, gu⟩ w (kv p) := fun ρ hρ => by
  obtain ⟨h16, rfl⟩ := keyG_eq hk
  rcases hr.2 with ⟨_, h0, _⟩ | ⟨_, cap, rfl, _, hcell⟩
  · have : l = [] := by simpa using h0
    subst this; simp at h16
  · have hkb : kb (ofB l) = ((l.take 16).map bvc).flatten := by rw [kb_kby, kby_ofB h16]
    have hld : (loadCells ⟨g, o, none⟩ (kb (ofB l)).length).run P w = .ok (kb (ofB l)).toArray w := run_loadCells_list w _ _ (fun j u hj => by
      rw [Addr.add_lit]
      refine hcell j u ?_
      rw [hkb, List.map_take, flat_take (sz := 1) _ _ hr.1, List.getElem?_take] at hj
      split at hj
      · exact hj
      · cases hj)
    have hl : (kb (ofB l)).length = 16 := rfl
    rw [hl] at hld
    refine run_v ?_
    rw [hρ _ _ hx]
    simp [Instr.loadAt, Instr.sureAddr, loadVar, (h1 w).1, (h1 w).2, hld]
/-! a key's bytes, one by one -/
theorem vv_ixK {b' off : Nat} {k : IntKind} {i : Int} {p : W2} {c : BitVec 8} (hu : P.underlying t = some (.array 16 e)) (hs : Siz P e 1) (hx : ev L x = some (.pointer (some ⟨b', off, none⟩))) (hy : ev L y = some (.int k i)) (hg : getI (kby p) i = some c) : VV P L ⟨dst, .indexAddr t x y, ty, pos, af, gu⟩ w (.pointer (some ⟨b', off + i.toNat * 1, none⟩)) :=
  vv_indexAddr hu hs hx hy (getI_nn hg) (by have := getI_lt hg; rw [kby_len] at this; omega)
theorem vv_ldK {b off q : Nat} {tb : TypeId} {cs : List Value} {p : W2} {i : Int} {c : BitVec 8} (h1 : One P t) (hx : ev L x = some (.pointer (some ⟨b, q, none⟩))) (hb : Bx w b tb cs) (h : (cs.drop off).take 16 = kb p) (hg : getI (kby p) i = some c) (hq : q = off + i.toNat) : VV P L ⟨dst, .load t x, ty, pos, af, gu⟩ w (bv c) := by
  refine vv_load1 h1 hx hb ?_
  have hi := getI_at hg
  have hlt : i.toNat < 16 := by have := getI_lt hg; have := getI_nn hg; rw [kby_len] at *; omega
  have e1 : (kb p)[i.toNat]? = some (bv c) := by
    have hw : Ws 1 ((kby p).map bvc) := ws_map _ (fun _ => rfl) (fun _ => rfl)
    have := hw.at (i.toNat) 0 (bvc c) (getm hi) (by omega)
    rw [kb_kby]
    simpa using this
  rw [← h, List.getElem?_take, if_pos hlt, List.getElem?_drop] at e1
  rw [hq]; exact e1
theorem spl_kb {cs : List Value} {off : Nat} {p q : W2} {i : Nat} {c : BitVec 8} (h : (cs.drop off).take 16 = kb p) (hi : i < 16) (hq : kby q = (kby p).set i c) (hl : off + 16 ≤ cs.length) : cs.set (off + i) (bv c) = spl cs off (kb q) := by
  have hkq : kb q = (kb p).set i (bv c) := by
    rw [kb_kby, kb_kby, hq]
    have e1 : ∀ (l : List (BitVec 8)) (i : Nat), ((l.set i c).map bvc).flatten = ((l.map bvc).flatten).set i (bv c) := by
      intro l
      induction l with
      | nil => intro i; simp
      | cons a l ih =>
        intro i
        cases i with
        | zero => simp
        | succ i => rw [List.set_cons_succ, List.map_cons, List.flatten_cons, ih, List.map_cons, List.flatten_cons]; rfl
    exact e1 _ _
  have hkl : (kb q).length = 16 := rfl
  apply List.ext_getElem?
  intro j
  rw [List.getElem?_set]
  unfold spl
  rw [hkl]
  by_cases h1 : j < off
  · rw [if_neg (by omega), List.append_assoc, List.getElem?_append_left (by simp; omega), List.getElem?_take_of_lt h1]
  · by_cases h2 : j < off + 16
    · rw [List.append_assoc, List.getElem?_append_right (by simp; omega), List.getElem?_append_left (by simp [hkl]; omega)]
      have e2 : j - (cs.take off).length = j - off := by simp; omega
      rw [e2, hkq, List.getElem?_set, ← h]
      by_cases h3 : i = j - off
      · rw [if_pos (by omega), if_pos h3]
        have : i < ((cs.drop off).take 16).length := by simp; omega
        rw [if_pos (by omega), if_pos this]
      · rw [if_neg (by omega), if_neg h3, List.getElem?_take_of_lt (by omega), List.getElem?_drop]
        congr 1; omega
    · rw [if_neg (by omega), List.append_assoc, List.getElem?_append_right (by simp; omega), List.getElem?_append_right (by simp [hkl]; omega), List.getElem?_drop]
      congr 1; simp [hkl]; omega
theorem ev_stK {b off qq : Nat} {tb : TypeId} {cs cs' : List Value} {p q : W2} {i : Int} {c : BitVec 8} (hs : Siz P t 1) (hx : ev L x = some (.pointer (some ⟨b, qq, none⟩))) (hy : ev L y = some (bv c)) (hb : Bx w b tb cs) (h : (cs.drop off).take 16 = kb p) (hk : kset p i c = some q) (hq : qq = off + i.toNat * 1) (hl : Nat.ble (off + 16) cs.length = true) (he : spl cs off (kb q) = cs') :
    EV P L ⟨dst, .store t x y, ty, pos, af, gu⟩ w fun _ w' => Bx w' b tb cs' ∧ Md b w w' := by
  obtain ⟨hi, hkq⟩ := kset_eq hk
  have hl' := Nat.le_of_ble_eq_true hl
  refine ev_st1 hs hx hy rfl hb (by simp; omega) ?_
  rw [← he, ← spl_kb h (by omega) hkq hl']
  congr 1; omega
/-! ### strings of bytes -/
def strB (l : List (BitVec 8)) : ByteArray := ⟨(l.map UInt8.ofBitVec).toArray⟩
abbrev stv (l : List (BitVec 8)) : Value := .string (strB l)
theorem vv_b2s {l : List (BitVec 8)} {s d : TypeId} (hs : P.underlying s = some (.slice e)) (he : P.underlying e = some (.int .u8)) (hd : P.underlying d = some .string) (hx : ev L x = some v) (hr : Rd w z g o 1 v (l.map bvc)) : VV P L ⟨dst, .convert s d x, ty, pos, af, gu⟩ w (stv l) := fun ρ hρ => by
  refine run_v ?_
  rw [hρ _ _ hx]
  rcases hr.2 with ⟨_, h0, a, cap, rfl⟩ | ⟨_, cap, rfl, _, hcell⟩
  · have : l = [] := by simpa using h0
    subst this
    rw [run_convert_bytes_string _ _ _ _ _ _ _ hs he hd]
    cases a with
    | none => simp [Conv.bytesToString, strB]; rfl
    | some a =>
      have := run_bytesToString (P := P) w a 0 cap [] (by simpa using run_loadCells_list (P := P) w a [] (by simp))
      rw [this]; rfl
  · have := run_convert_bytes_back (P := P) w s d e ⟨g, o, none⟩ cap (l.map UInt8.ofBitVec) hs he hd (fun j hj => by
      rw [Addr.add_lit]
      refine hcell j _ ?_
      have hj' : j < l.length := by simpa using hj
      have hw := hr.1.at j 0 (bvc l[j]) (by simp [hj']) (by omega)
      simp only [Nat.mul_one, Nat.add_zero] at hw
      rw [hw]
      simp [un8])
    rw [List.length_map] at this
    rw [List.length_map]; exact this
theorem strB_list (l : List (BitVec 8)) : (strB l).toList = l.map UInt8.ofBitVec := by rw [ByteArray.toList_eq]; simp [strB]
theorem ofbv_inj {l m : List (BitVec 8)} (h : l.map UInt8.ofBitVec = m.map UInt8.ofBitVec) : l = m := by
  have : Function.Injective UInt8.ofBitVec := fun a b h => by cases h; rfl
  exact (List.map_inj_right (fun _ _ h => this h)).1 h
theorem vv_eqlT {l m : List (BitVec 8)} {u : TypeId} (hx : ev L x = some (stv l)) (hy : ev L y = some (stv m)) : VV P L ⟨dst, .binOp .eql t x y u, ty, pos, af, gu⟩ w (.bool (decide (l = m))) := fun ρ hρ => by
  have : (l.map UInt8.ofBitVec == m.map UInt8.ofBitVec) = decide (l = m) := by
    by_cases h : l = m
    · subst h; simp
    · have : ¬ (l.map UInt8.ofBitVec = m.map UInt8.ofBitVec) := fun e => h (ofbv_inj e)
      simp [h, this]
  simp [execOp, hρ _ _ hx, hρ _ _ hy, go_sem, eqGuard, binOp, Op.stringOp, strB_list, this]
theorem vv_neqT {l m : List (BitVec 8)} {u : TypeId} (hx : ev L x = some (stv l)) (hy : ev L y = some (stv m)) : VV P L ⟨dst, .binOp .neq t x y u, ty, pos, af, gu⟩ w (.bool (decide (l ≠ m))) := fun ρ hρ => by
  have : (l.map UInt8.ofBitVec == m.map UInt8.ofBitVec) = decide (l = m) := by
    by_cases h : l = m
    · subst h; simp
    · have : ¬ (l.map UInt8.ofBitVec = m.map UInt8.ofBitVec) := fun e => h (ofbv_inj e)
      simp [h, this]
  simp [execOp, hρ _ _ hx, hρ _ _ hy, go_sem, eqGuard, binOp, Op.stringOp, strB_list, this]
end
/-! ### copy -/
/-- what is copied over the beginning of d -/
def copyL {α : Type} (d s : List α) : List α := s.take d.length ++ d.drop s.length
def copyN {α : Type} (d s : List α) : Int := ((min s.length d.length : Nat) : Int)
section
variable {P : Program} {L : Slots} {w : World} {dst : Option Nat} {ty : TypeId} {pos : String} {af : Array Edge} {gu : Option (Nat × Bool)} {x y : Operand} {t e : TypeId} {z g : Nat} {v : Value}
theorem ev_copy {α : Type} {c : α → List Value} {bytes z2 g2 o2 : Nat} {u : Value} {d s : List α} (ha : ApT P t e 1 bytes) (hx : ev L x = some v) (hy : ev L y = some u) (h : Own w z g e 1 v (d.map c)) (hr : Rd w z2 g2 o2 1 u (s.map c)) :
    EV P L ⟨dst, .call { callee := .builtin .copy, args := #[x, y], argTypes := #[t, t] }, ty, pos, af, gu⟩ w fun v' w' => v' = .int .i64 (copyN d s) ∧ Own w' z g e 1 v ((copyL d s).map c) ∧ Md g w w' := fun ρ hρ => by
  obtain ⟨i, zv, hi, hzv, hsz, hby, hzs⟩ := ha.info
  have hs1 : (P.info? e).map (·.size) = some 1 := by rw [hi]; simp [hsz]
  have fin : ∀ v' w', (Builtin.copy_ #[t, t] ty #[v, u]).run P w = .ok v' w' → (execOp ρ ⟨dst, .call { callee := .builtin .copy, args := #[x, y], argTypes := #[t, t] }, ty, pos, af, gu⟩).run P w = .ok (.value v') w' := fun v' w' h1 => by
    simp [execOp, resolve, invoke, builtin, hρ _ _ hx, hρ _ _ hy, h1]
  rcases hr.2 with ⟨hz2, hs0, a, cap, rfl⟩ | ⟨hz2, cap, rfl, hlt, hcell⟩
  · have hs0' : s = [] := by simpa using hs0
    subst hs0'
    have hv : ∃ d0 dl dc, v = .slice d0 dl dc := by
      rcases h.2 with ⟨_, rfl, _⟩ | ⟨_, c1, cur, rfl, _⟩ <;> exact ⟨_, _, _, rfl⟩
    obtain ⟨d0, dl, dc, rfl⟩ := hv
    refine .val _ _ (fin _ _ (run_copy_none w t t ty e d0 a dl dc 0 cap ha.und hs1 (by simp))) ⟨by simp [copyN, goInt], by simpa [copyL] using h, Md.refl _ _⟩
  · rcases h.2 with ⟨hz, rfl, hd0⟩ | ⟨hz, cap1, cur, rfl, hg, hn, hc1, hcs, htk⟩
    · have hd0' : d = [] := by simpa using hd0
      subst hd0'
      refine .val _ _ (fin _ _ (run_copy_none w t t ty e none (some ⟨g2, o2, none⟩) 0 0 _ cap ha.und hs1 (by simp))) ⟨by simp [copyN, goInt], by simpa [copyL] using h, Md.refl _ _⟩
    · have hbx : Bx w g e cur.toList := by unfold Bx; simpa using hg
      have hfs : (s.map c).flatten.length = s.length := by rw [hr.1.flat, List.length_map]; omega
      have hfd : (d.map c).flatten.length = d.length := by rw [h.1.flat, List.length_map]; omega
      have hcl : cur.toList.length = cap1 := by rw [show cur.toList.length = cap1 * 1 from hcs]; omega
      rw [List.length_map] at hn
      have hvl : ((s.map c).flatten.take (min s.length d.length)).length = min s.length d.length := by rw [List.length_take, hfs]; omega
      have hld : (loadCells ⟨g2, o2, none⟩ (min s.length d.length)).run P w = .ok ((s.map c).flatten.take (min s.length d.length)).toArray w := by
        have := run_loadCells_list (P := P) w ⟨g2, o2, none⟩ ((s.map c).flatten.take (min s.length d.length)) (fun j u hj => by
          rw [Addr.add_lit]
          refine hcell j u ?_
          rw [List.getElem?_take] at hj
          split at hj
          · exact hj
          · cases hj)
        rw [hvl] at this; exact this
      have hone : ∀ u ∈ (s.map c).flatten.take (min s.length d.length), u.oneCell' = true := fun u hu => hr.1.one u (List.mem_of_mem_take hu)
      obtain ⟨w', hrun, hb', hmd⟩ := run_storeCells (P := P) (off := 0) _ 0 w cur.toList hone hbx (by rw [hvl, hcl]; omega)
      refine .val _ w' (fin _ _ ?_) ⟨rfl, ⟨?_, .inr ⟨hz, cap1, (spl cur.toList 0 ((s.map c).flatten.take (min s.length d.length))).toArray, ?_, by simpa [Bx] using hb', ?_, hc1, ?_, ?_⟩⟩, hmd⟩
      · try simp only [Nat.add_zero] at hrun
        have e1 : Nat.min (s.map c).length (d.map c).length = min s.length d.length := by rw [List.length_map, List.length_map]
        simp [Builtin.copy_, run_underlying ha.und, Builtin.lenOf, Builtin.firstCells, sizeOf, typeInfo, hi, hsz, hld, hrun, goInt, copyN]
      · unfold copyL
        rw [List.map_append]
        exact ws_append (by rw [List.map_take]; exact hr.1.take) (by rw [List.map_drop]; exact h.1.drop)
      · have : (copyL d s).length = d.length := by simp [copyL]; omega
        simp [this]
      · have : (copyL d s).length = d.length := by simp [copyL]; omega
        rw [List.length_map, this]; exact hn
      · rw [List.size_toArray, spl_len _ _ _ (by rw [hvl, hcl]; omega), hcl]; omega
      · have hcp : (copyL d s).length = d.length := by simp [copyL]; omega
        rw [List.length_map, hcp, take_spl _ _ _ _ (by rw [hvl]; omega) (by rw [hcl]; omega)]
        rw [List.length_map] at htk
        rw [htk]
        unfold copyL spl
        rw [hvl, List.map_append, List.flatten_append, List.map_take, List.map_drop, flat_take (sz := 1) _ _ hr.1, flat_drop (sz := 1) _ _ h.1]
        simp only [List.take_zero, List.nil_append, Nat.zero_add, Nat.mul_one]
        congr 1
        · rcases Nat.le_total s.length d.length with hsd | hsd
          · rw [Nat.min_eq_left hsd, List.take_of_length_le (by omega), List.take_of_length_le (by omega)]
          · rw [Nat.min_eq_right hsd]
        · rcases Nat.le_total s.length d.length with hsd | hsd
          · rw [Nat.min_eq_left hsd]
          · rw [Nat.min_eq_right hsd, List.drop_eq_nil_of_le (by omega), List.drop_eq_nil_of_le (by omega)]
end
/-! ### drawn: a call that turns memory -/
theorem dd_kz {P : Program} {n : Nat} {ops : Array Oper} {Q : Slots → World → Prop} {rest : List (Nat × Nat)} {i : Nat} {dst : Option Nat} {op : Op} {ty : TypeId} {pos : String} {af : Array Edge} {gu : Option (Nat × Bool)} {L : Slots} {w w₀ : World} {ms : List Nat} {kp : Nat → Nat → Bool}
    {R : Value → World → Prop} (l : List (Nat × Nat)) (hi : ops[i]? = some ⟨dst, op, ty, pos, af, gu⟩) (hk : kp 0 i = false) (hg : gd ops L ⟨dst, op, ty, pos, af, gu⟩ = some true) (hd : inN n dst = true) (hv : EV P L ⟨dst, op, ty, pos, af, gu⟩ w R) (hS : Kp ms w₀ w) (hb : InA l (ms.map fun b => (1, b)) w₀.heap.size)
    (h : ∀ v w', R v w' → Kz l w w' ∧ SD P n ops Q (Hld ms w₀) kp rest (putL dst v L) w') : SD P n ops Q (Hld ms w₀) kp ((i, 2) :: rest) L w :=
  ⟨_, hi, hd, .inl ⟨hg, R, hv, fun v w' hR => ⟨fun lv hk' hS => by
    cases lv with
    | zero => rw [hk] at hk'; cases hk'
    | succ k => exact Kp.kz hS (h v w' hR).1 hb, (h v w' hR).2⟩⟩⟩
end Go.Sx
