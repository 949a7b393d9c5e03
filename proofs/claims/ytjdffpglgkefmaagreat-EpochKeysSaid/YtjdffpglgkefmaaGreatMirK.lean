/- MX: bits of bytes; copy into a key; what an array's value has at an index. -/
import Derived.Test.YtjdffpglgkefmaaGreatMirJ
set_option linter.unusedVariables false
set_option linter.unusedSimpArgs false
namespace Go.Sx
open Go Go.RowKit
theorem wrap_u8 (n : Int) : IntKind.u8.wrap n = n % 256 := by simp [IntKind.wrap, IntKind.bits, IntKind.signed]
theorem ofI8 (x : BitVec 8) : BitVec.ofInt 8 (un8 x) = x := by unfold un8; rw [BitVec.ofInt_natCast, BitVec.ofNat_toNat, BitVec.setWidth_eq]
theorem wr8 (x : BitVec 8) : IntKind.u8.wrap (x.toNat : Int) = un8 x := by rw [wrap_u8]; unfold un8; have := x.isLt; omega
theorem b_xor (x y : BitVec 8) : bits .xor .u8 (un8 x) (un8 y) = un8 (x ^^^ y) := by
  show IntKind.u8.wrap ((BitVec.ofInt 8 (un8 x) ^^^ BitVec.ofInt 8 (un8 y)).toNat : Int) = _
  rw [ofI8, ofI8, wr8]
theorem b_and (x y : BitVec 8) : bits .and .u8 (un8 x) (un8 y) = un8 (x &&& y) := by
  show IntKind.u8.wrap ((BitVec.ofInt 8 (un8 x) &&& BitVec.ofInt 8 (un8 y)).toNat : Int) = _
  rw [ofI8, ofI8, wr8]
theorem b_or (x y : BitVec 8) : bits .or .u8 (un8 x) (un8 y) = un8 (x ||| y) := by
  show IntKind.u8.wrap ((BitVec.ofInt 8 (un8 x) ||| BitVec.ofInt 8 (un8 y)).toNat : Int) = _
  rw [ofI8, ofI8, wr8]
section
variable {P : Program} {L : Slots} {w : World} {dst : Option Nat} {ty : TypeId} {pos : String} {af : Array Edge} {gu : Option (Nat × Bool)} {x y : Operand} {t u e : TypeId} {a b : BitVec 8}
theorem vv_xorB (hx : ev L x = some (bv a)) (hy : ev L y = some (bv b)) : VV P L ⟨dst, .binOp .xor t x y u, ty, pos, af, gu⟩ w (bv (a ^^^ b)) := vv_eq (vv_bits (by simp) hx hy) (by rw [b_xor])
theorem vv_andB (hx : ev L x = some (bv a)) (hy : ev L y = some (bv b)) : VV P L ⟨dst, .binOp .and t x y u, ty, pos, af, gu⟩ w (bv (a &&& b)) := vv_eq (vv_bits (by simp) hx hy) (by rw [b_and])
theorem vv_orB (hx : ev L x = some (bv a)) (hy : ev L y = some (bv b)) : VV P L ⟨dst, .binOp .or t x y u, ty, pos, af, gu⟩ w (bv (a ||| b)) := vv_eq (vv_bits (by simp) hx hy) (by rw [b_or])
theorem vv_remB {c : BitVec 8} (hx : ev L x = some (bv a)) (hy : ev L y = some (bv b)) (h : remU a b = some c) : VV P L ⟨dst, .binOp .rem t x y u, ty, pos, af, gu⟩ w (bv c) := by
  unfold remU at h
  split at h
  · cases h
  · rename_i hd; cases h
    have h0 : 0 < un8 b := by
      have := un8_nn b
      rcases Int.lt_or_eq_of_le this with h | h
      · exact h
      · exact absurd (un8_inj (show un8 b = un8 0#8 from by rw [← h]; rfl)) hd
    exact vv_eq (vv_rem hx hy (un8_nn a) h0) (congrArg (Value.int .u8) (by unfold un8; rw [BitVec.toNat_umod]; exact (Int.natCast_emod _ _).symm))
/-- copy into a key -/
theorem ev_copyK {bt off cp z2 g2 o2 : Nat} {tb : TypeId} {cs cs' : List Value} {p : W2} {v : Value} {s : List (BitVec 8)} (ha : ApT P t e 1 1) (hx : ev L x = some (.slice (some ⟨bt, off, none⟩) 16 cp)) (hy : ev L y = some v) (hb : Bx w bt tb cs) (h : (cs.drop off).take 16 = kb p) (hr : Rd w z2 g2 o2 1 v (s.map bvc))
    (hl : Nat.ble (off + 16) cs.length = true) (he : spl cs off (kb (ofB (copyL (kby p) s))) = cs') :
    EV P L ⟨dst, .call { callee := .builtin .copy, args := #[x, y], argTypes := #[t, t] }, ty, pos, af, gu⟩ w fun v' w' => v' = .int .i64 (copyN (kby p) s) ∧ Bx w' bt tb cs' ∧ Md bt w w' := fun ρ hρ => by
  obtain ⟨i, zv, hi, hzv, hsz, hby, hzs⟩ := ha.info
  have hl' := Nat.le_of_ble_eq_true hl
  have hs1 : (P.info? e).map (·.size) = some 1 := by rw [hi]; simp [hsz]
  have hkl : (copyL (kby p) s).length = 16 := by simp [copyL, kby_len]; omega
  have hkb : kby (ofB (copyL (kby p) s)) = copyL (kby p) s := by rw [kby_ofB (by omega), List.take_of_length_le (by omega)]
  have fin : ∀ v' w', (Builtin.copy_ #[t, t] ty #[.slice (some ⟨bt, off, none⟩) 16 cp, v]).run P w = .ok v' w' → (execOp ρ ⟨dst, .call { callee := .builtin .copy, args := #[x, y], argTypes := #[t, t] }, ty, pos, af, gu⟩).run P w = .ok (.value v') w' := fun v' w' h1 => by
    simp [execOp, resolve, invoke, builtin, hρ _ _ hx, hρ _ _ hy, h1]
  have hkey : ∀ m : List Value, (∃ k, k ≤ 16 ∧ m = (((s.map bvc).flatten).take k) ∧ copyL (kby p) s = s.take k ++ (kby p).drop k ∧ m.length = k) → spl cs off m = cs' := by
    rintro m ⟨k, hk, rfl, hc, hml⟩
    rw [← he, kb_kby, hkb, hc]
    have e0 : ((s.take k ++ (kby p).drop k).map bvc).flatten = ((s.map bvc).flatten).take k ++ (kb p).drop k := by
      have w1 : Ws 1 (s.map bvc) := ws_map _ (fun _ => rfl) (fun _ => rfl)
      have w2 : Ws 1 ((kby p).map bvc) := ws_map _ (fun _ => rfl) (fun _ => rfl)
      rw [List.map_append, List.flatten_append, List.map_take, List.map_drop, flat_take _ _ w1, flat_drop _ _ w2, ← kb_kby, Nat.mul_one]
    have hkbl : (kb p).length = 16 := rfl
    have hlen : (((s.map bvc).flatten).take k ++ (kb p).drop k).length = 16 := by rw [List.length_append, hml, List.length_drop, hkbl]; omega
    unfold spl
    rw [e0, hlen, hml, ← h]
    simp only [List.append_assoc]
    congr 2
    rw [List.drop_take, List.drop_drop]
    have e1 : off + 16 = off + k + (16 - k) := by omega
    rw [e1, ← List.drop_drop (i := 16 - k) (j := off + k), List.take_append_drop]
  rcases hr.2 with ⟨hz2, hs0, a, cap, rfl⟩ | ⟨hz2, cap, rfl, hlt, hcell⟩
  · have hs0' : s = [] := by simpa using hs0
    subst hs0'
    refine .val _ _ (fin _ _ (run_copy_none w t t ty e (some ⟨bt, off, none⟩) a 16 cp 0 cap ha.und hs1 (by simp))) ⟨by simp [copyN, goInt], ?_, Md.refl _ _⟩
    rw [← hkey [] ⟨0, by omega, by simp, by simp [copyL], rfl⟩, spl_nil]; exact hb
  · have hfs : (s.map bvc).flatten.length = s.length := by rw [hr.1.flat, List.length_map]; omega
    have hvl : ((s.map bvc).flatten.take (min s.length 16)).length = min s.length 16 := by rw [List.length_take, hfs]; omega
    have hld : (loadCells ⟨g2, o2, none⟩ (min s.length 16)).run P w = .ok ((s.map bvc).flatten.take (min s.length 16)).toArray w := by
      have := run_loadCells_list (P := P) w ⟨g2, o2, none⟩ ((s.map bvc).flatten.take (min s.length 16)) (fun j u hj => by
        rw [Addr.add_lit]
        refine hcell j u ?_
        rw [List.getElem?_take] at hj
        split at hj
        · exact hj
        · cases hj)
      rw [hvl] at this; exact this
    have hone : ∀ u ∈ (s.map bvc).flatten.take (min s.length 16), u.oneCell' = true := fun u hu => hr.1.one u (List.mem_of_mem_take hu)
    obtain ⟨w', hrun, hb', hmd⟩ := run_storeCells (P := P) (off := off) _ 0 w cs hone hb (by rw [hvl]; omega)
    refine .val _ w' (fin _ _ ?_) ⟨rfl, ?_, hmd⟩
    · have e1 : Nat.min (s.map bvc).length 16 = min s.length 16 := by rw [List.length_map]
      have e2 : min s.length (kby p).length = min s.length 16 := by rw [kby_len]
      simp [Builtin.copy_, run_underlying ha.und, Builtin.lenOf, Builtin.firstCells, sizeOf, typeInfo, hi, hsz, hld, hrun, goInt, copyN, e2]
    · rw [Nat.add_zero] at hb'
      rw [← hkey _ ⟨min s.length 16, by omega, rfl, ?_, hvl⟩]; exact hb'
      unfold copyL
      rw [kby_len]
      by_cases hle : s.length ≤ 16
      · rw [Nat.min_eq_left hle, List.take_of_length_le (by omega), List.take_of_length_le (by omega)]
      · rw [Nat.min_eq_right (by omega), List.drop_eq_nil_of_le (by rw [kby_len]; omega), List.drop_eq_nil_of_le (by rw [kby_len]; omega)]
end
/-! ### arrays -/
section
variable {P : Program} {L : Slots} {w : World} {dst : Option Nat} {ty : TypeId} {pos : String} {af : Array Edge} {gu : Option (Nat × Bool)} {x y : Operand} {t u e : TypeId}
theorem vv_negI {a : Int} (hx : ev L x = some (.int .i64 a)) : VV P L ⟨dst, .unOp .neg t x, ty, pos, af, gu⟩ w (.int .i64 (w64 (-a))) := fun ρ hρ => by
  simp [execOp, hρ _ _ hx, go_sem]
theorem seg_at {sz : Nat} {xs : List (List Value)} (hw : Ws sz xs) {i : Nat} {c : List Value} (hi : xs[i]? = some c) : (xs.flatten.drop (i * sz)).take sz = c := by
  have hc := (hw c (List.mem_of_getElem? hi)).1
  apply List.ext_getElem?
  intro q
  by_cases hq : q < sz
  · rw [List.getElem?_take_of_lt hq, List.getElem?_drop]
    exact hw.at i q c hi hq
  · rw [List.getElem?_eq_none (by simp; omega), List.getElem?_eq_none (by omega)]
/-- an array's value at an index -/
theorem vv_ixV {len sz : Nat} {i : Int} {k : IntKind} {α : Type} {l : List α} {c : α → List Value} {a : α} {cs : List Value} (hu : P.underlying t = some (.array len e)) (hs : Siz P e sz) (ha : Agg P e sz) (hx : ev L x = some (.agg cs.toArray)) (hcs : cs = (l.map c).flatten) (hl : l.length = len) (hw : Ws sz (l.map c)) (hy : ev L y = some (.int k i)) (hg : getI l i = some a) :
    VV P L ⟨dst, .index t x y, ty, pos, af, gu⟩ w (.agg (c a).toArray) := fun ρ hρ => by
  have h0 := getI_nn hg
  have h1 := getI_lt hg
  have h1' : i < (len : Int) := by omega
  have hp : (part e cs.toArray (i.toNat * sz)).run P w = .ok (.agg (c a).toArray) w := eqc_agg_part ha (by rw [hcs]; simpa using seg_at hw (getm (getI_at hg)))
  refine run_v ?_
  rw [hρ _ _ hx, hρ _ _ hy]
  simp [Instr.index, run_underlying hu, asIntOf, h0, h1', hs w, hp]
/-- the place of an array's element -/
theorem vv_ixA {len b' off sz off' : Nat} {i : Int} {k : IntKind} {α : Type} {l : List α} {a : α} (hu : P.underlying t = some (.array len e)) (hs : Siz P e sz) (hx : ev L x = some (.pointer (some ⟨b', off, none⟩))) (hy : ev L y = some (.int k i)) (hg : getI l i = some a) (hl : l.length = len) (ho : off' = off + i.toNat * sz := by rfl) :
    VV P L ⟨dst, .indexAddr t x y, ty, pos, af, gu⟩ w (.pointer (some ⟨b', off', none⟩)) := by
  subst ho; exact vv_indexAddr hu hs hx hy (getI_nn hg) (by have := getI_lt hg; omega)
theorem vv_ixJ {len b' off sz : Nat} {i : Int} {k : IntKind} (hu : P.underlying t = some (.array len e)) (hs : Siz P e sz) (hx : ev L x = some (.pointer (some ⟨b', off, none⟩))) (hy : ev L y = some (.int k i)) (h0 : 0 ≤ i ∧ i < len) :
    VV P L ⟨dst, .indexAddr t x y, ty, pos, af, gu⟩ w (.pointer (some ⟨b', off + i.toNat * sz, none⟩)) := vv_indexAddr hu hs hx hy h0.1 h0.2
/-- an element of an array that is put -/
theorem ev_stIx {b' o p q m sz : Nat} {tb : TypeId} {α : Type} {l l' : List α} {c : α → List Value} {a a' : α} {i : Int} {v : Value} {cs cs' vs : List Value} (hs : Siz P t m) (hx : ev L x = some (.pointer (some ⟨b', p, none⟩))) (hy : ev L y = some v) (hc : v.cells = vs.toArray) (hm : vs.length = m) (h1 : ones vs = true)
    (hb : Bx w b' tb cs) (hw : Ws sz (l.map c)) (ha : cs = cs.take o ++ ((l.map c).flatten ++ cs.drop (o + l.length * sz))) (hol : Nat.ble (o + l.length * sz) cs.length = true) (hg : getI l i = some a) (hp : p = o + (i.toNat * sz + q)) (hq : Nat.ble (q + m) sz = true) (he : spl (c a) q vs = c a') (hset : l.set i.toNat a' = l') (he' : cs.take o ++ ((l'.map c).flatten ++ cs.drop (o + l.length * sz)) = cs') :
    EV P L ⟨dst, .store t x y, ty, pos, af, gu⟩ w fun _ w' => Bx w' b' tb cs' ∧ Md b' w w' := by
  have hq' := Nat.le_of_ble_eq_true hq
  have hol' := Nat.le_of_ble_eq_true hol
  have hi := getI_at hg
  have hil := (List.getElem?_eq_some_iff.1 hi).1
  have hfl : (l.map c).flatten.length = l.length * sz := by rw [hw.flat, List.length_map]
  have hin : i.toNat * sz + sz ≤ l.length * sz := by rw [← Nat.succ_mul]; exact Nat.mul_le_mul_right _ hil
  refine ev_stM (off := p) hs hx hy hc hm h1 hb (Nat.ble_eq_true_of_le (by omega)) ?_
  rw [← he', ← hset, List.map_set, ← he, flat_spl _ _ _ _ _ hw (getm hi) (by omega)]
  have e1 : (cs.take o).length = o := by rw [List.length_take]; omega
  generalize hF : (l.map c).flatten = F at *
  generalize hT : cs.drop (o + l.length * sz) = T at *
  generalize hH : cs.take o = H at *
  rw [ha]
  unfold spl
  rw [hp, show o + (i.toNat * sz + q) = H.length + (i.toNat * sz + q) from by rw [e1], List.take_length_add_append, List.take_append_of_le_length (by omega), Nat.add_assoc H.length, List.drop_length_add_append, List.drop_append_of_le_length (by omega)]
  simp only [List.append_assoc]
theorem set2 {α : Type} {a b y y' : α} {i : Int} (h : getI [a, b] i = some y) : [a, b].set i.toNat y' = [if i = 0 then y' else a, if i = 0 then b else y'] := by
  have h0 := getI_nn h
  have h1 := getI_lt h
  simp at h1
  by_cases hi : i = 0
  · subst hi; rfl
  · have : i = 1 := by omega
    subst this; rfl
end
end Go.Sx
