/- MX: bits of bytes; copy into a key; what an array's value has at an index. -/
import Derived.Test.YtjdffpglgkefmaaMirJ
set_option linter.unusedVariables false
set_option linter.unusedSimpArgs false
namespace Go.Sx
open Go Go.RowKit
theorem wrap_u8 (n : Int) : IntKind.u8.wrap n = n % 256 := by simp [IntKind.wrap, IntKind.bits, IntKind.signed]
theorem ofI8 (x : BitVec 8) : BitVec.ofInt 8 (un8 x) = x := by unfold un8; rw [BitVec.ofInt_natCast, BitVec.ofNat_toNat, BitVec.setWidth_eq]
theorem wr8 (x : BitVec 8) : IntKind.u8.wrap (x.toNat : Int) = un8 x := by rw [wrap_u8]; unfold un8; have := x.isLt; omega
theorem b_xor (x y : BitVec 8) : bits .xor .u8 (un8 x) (un8 y) = un8 (x ^^^ y) := by
  show IntKind.u8.wrap ((BitVec.ofInt 8 (un8 x) ^^^ BitVec.ofInt 8 (un8 y)).toNat : Int) = _
  rw [ofI8, ofI8, wr8]
theorem b_and (x y : BitVec 8) : bits .and .u8 (un8 x) (un8 y) = un8 (x &&& y) := by
  show IntKind.u8.wrap ((BitVec.ofInt 8 (un8 x) &&& BitVec.ofInt 8 (un8 y)).toNat : Int) = _
  rw [ofI8, ofI8, wr8]
theorem b_or (x y : BitVec 8) : bits .or .u8 (un8 x) (un8 y) = un8 (x ||| y) := by
  show IntKind.u8.wrap ((BitVec.ofInt 8 (un8 x) ||| BitVec.ofInt 8 (un8 y)).toNat : Int) = _
  rw [ofI8, ofI8, wr8]
section
variable {P : Program} {L : Slots} {w : World} {dst : Option Nat} {ty : TypeId} {pos : String} {af : Array Edge} {gu : Option (Nat × Bool)} {x y : Operand} {t u e : TypeId} {a b : BitVec 8}
theorem vv_xorB (hx : ev L x = some (bv a)) (hy : ev L y = some (bv b)) : VV P L ⟨dst, .binOp .xor t x y u, ty, pos, af, gu⟩ w (bv (a ^^^ b)) := vv_eq (vv_bits (by simp) hx hy) (by rw [b_xor])
theorem vv_andB (hx : ev L x = some (bv a)) (hy : ev L y = some (bv b)) : VV P L ⟨dst, .binOp .and t x y u, ty, pos, af, gu⟩ w (bv (a &&& b)) := vv_eq (vv_bits (by simp) hx hy) (by rw [b_and])
theorem vv_orB (hx : ev L x = some (bv a)) (hy : ev L y = some (bv b)) : VV P L ⟨dst, .binOp .or t x y u, ty, pos, af, gu⟩ w (bv (a ||| b)) := vv_eq (vv_bits (by simp) hx hy) (by rw [b_or])
theorem vv_remB {c : BitVec 8} (hx : ev L x = some (bv a)) (hy : ev L y = some (bv b)) (h : remU a b = some c) : VV P L ⟨dst, .binOp .rem t x y u, ty, pos, af, gu⟩ w (bv c) := by
  unfold remU at h
  split at h
  · cases h
  · rename_i hd; cases h
    have h0 : 0 < un8 b := by
      have := un8_nn b
      rcases Int.lt_or_eq_of_le this with h | h
      · exact h
      · exact absurd (un8_inj (show un8 b = un8 0#8 from by rw [← h]; rfl)) hd
    exact vv_eq (vv_rem hx hy (un8_nn a) h0) (congrArg (Value.int .u8) (by unfold un8; rw [BitVec.toNat_umod]; exact (Int.natCast_emod _ _).symm))
/-- copy into a key -/
theorem ev_copyK {bt off cp z2 g2 o2 : Nat} {tb : TypeId} {cs cs' : List Value} {p : W2} {v : Value} {s : List (BitVec 8)} (ha : ApT P t e 1 1) (hx : ev L x = some (.slice (some ⟨bt, off, none⟩) 16 cp)) (hy : ev L y = some v) (hb : Bx w bt tb cs) (h : (cs.drop off).take 16 = kb p) (hr : Rd w z2 g2 o2 1 v (s.map bvc))
    (hl : Nat.ble (off + 16) cs.length = true) (he : spl cs off (kb (ofB (copyL (kby p) s))) = cs') :
    EV P L ⟨dst, .call { callee := .builtin .copy, args := #[x, y], argTypes := #[t, t] }, ty, pos, af, gu⟩ w fun v' w' => v' = .int .i64 (copyN (kby p) s) ∧ Bx w' bt tb cs' ∧ Md bt w w' := fun ρ hρ => by
  obtain ⟨i, zv, hi, hzv, hsz, hby, hzs⟩ := ha.info
  have hl' := Nat.le_of_ble_eq_true hl
  have hs1 : (P.info? e).map (·.size) = some 1 := by rw [hi]; simp [hsz]
  have hkl : (copyL (kby p) s).length = 16 := by simp [copyL, kby_len]; omega
  have hkb : kby (ofB (copyL (kby p) s)) = copyL (kby p) s := by rw [kby_ofB (by omega), List.take_of_length_le (by omega)]
  have fin : ∀ v' w', (Builtin.copy_ #[t, t] ty #[.slice (some ⟨bt, off, none⟩) 16 cp, v]).run P w = .ok v' w' → (execOp ρ ⟨dst, .call { callee := .builtin .copy, args := #[x, y], argTypes := #[t, t] }, ty, pos, af, gu⟩).run P w = .ok (.value v') w' := fun v' w' h1 => by
    simp [execOp, resolve, invoke, builtin, hρ _ _ hx, hρ _ _ hy, h1]
  have hkey : ∀ m : List Value, (∃ k, k ≤ 16 ∧ m = (((s.map bvc).flatten).take k) ∧ copyL (kby p) s = s.take k ++ (kby p).drop k ∧ m.length = k) → spl cs off m = cs' := by
    rintro m ⟨k, hk, rfl, hc, hml⟩
    rw [← he, kb_kby, hkb, hc]
    have e0 : ((s.take k ++ (kby p).drop k).map bvc).flatten = ((s.map bvc).flatten).take k ++ (kb p).drop k := by
      have w1 : Ws 1 (s.map bvc) := ws_map _ (fun _ => rfl) (fun _ => rfl)
      have w2 : Ws 1 ((kby p).map bvc) := ws_map _ (fun _ => rfl) (fun _ => rfl)
      rw [List.map_append, List.flatten_append, List.map_take, List.map_drop, flat_take _ _ w1, flat_drop _ _ w2, ← kb_kby, Nat.mul_one]
    have hkbl : (kb p).length = 16 := rfl
    have hlen : (((s.map bvc).flatten).take k ++ (kb p).drop k).length = 16 := by rw [List.length_append, hml, List.length_drop, hkbl]; omega
    unfold spl
    rw [e0, hlen, hml, ← h]
    simp only [List.append_assoc]
    congr 2
    rw [List.drop_take, List.drop_drop]
    have e1 : off + 16 = off + k + (16 - k) := by omega
    rw [e1, ← List.drop_drop (i := 16 - k) (j := off + k), List.take_append_drop]
  rcases hr.2 with ⟨hz2, hs0, a, cap, rfl⟩ | ⟨hz2, cap, rfl, hlt, hcell⟩
  · have hs0' : s = [] := by simpa using hs0
    subst hs0'
    refine .val _ _ (fin _ _ (run_copy_none w t t ty e (some ⟨bt, off, none⟩) a 16 cp 0 cap ha.und hs1 (by simp))) ⟨by simp [copyN, goInt], ?_, Md.refl _ _⟩
    rw [← hkey [] ⟨0, by omega, by simp, by simp [copyL], rfl⟩, spl_nil]; exact hb
  · have hfs : (s.map bvc).flatten.length = s.length := by rw [hr.1.flat, List.length_map]; omega
    have hvl : ((s.map bvc).flatten.take (min s.length 16)).length = min s.length 16 := by rw [List.length_take, hfs]; omega
    have hld : (loadCells ⟨g2, o2, none⟩ (min s.length 16)).run P w = .ok ((s.map bvc).flatten.take (min s.length 16)).toArray w := by
      have := run_loadCells_list (P := P) w ⟨g2, o2, none⟩ ((s.map bvc).flatten.take (min s.length 16)) (fun j u hj => by
        rw [Addr.add_lit]
        refine hcell j u ?_
        rw [List.getElem?_take] at hj
        split at hj
        · exact hj
        · cases hj)
      rw [hvl] at this; exact this
    have hone : ∀ u ∈ (s.map bvc).flatten.take (min s.length 16), u.oneCell' = true := fun u hu => hr.1.one u (List.mem_of_mem_take hu)
    obtain ⟨w', hrun, hb', hmd⟩ := run_storeCells (P := P) (off := off) _ 0 w cs hone hb (by rw [hvl]; omega)
    refine .val _ w' (fin _ _ ?_) ⟨rfl, ?_, hmd⟩
    · have e1 : Nat.min (s.map bvc).length 16 = min s.length 16 := by rw [List.length_map]
      have e2 : min s.length (kby p).length = min s.length 16 := by rw [kby_len]
      simp [Builtin.copy_, run_underlying ha.und, Builtin.lenOf, Builtin.firstCells, sizeOf, typeInfo, hi, hsz, hld, hrun, goInt, copyN, e2]
    · rw [Nat.add_zero] at hb'
      rw [← hkey _ ⟨min s.length 16, by omega, rfl, ?_, hvl⟩]; exact hb'
      unfold copyL
      rw [kby_len]
      by_cases hle : s.length ≤ 16
      · rw [Nat.min_eq_left hle, List.take_of_length_le (by omega), List.take_of_length_le (by omega)]
      · rw [Nat.min_eq_right (by omega), List.drop_eq_nil_of_le (by rw [kby_len]; omega), List.drop_eq_nil_of_le (by rw [kby_len]; omega)]
end
end Go.Sx
