/- Several texts in one: Pse Byp Pop Poq Pos Kyb Ar2 LawSn5. -/
import Derived.Test.YtgdojjniakpadaaGreatZf
import Derived.Test.YtgdojjniakpadaaGreatZd
import Derived.Test.YtgdojjniakpadaaGreatZe
set_option linter.unusedVariables false
set_option linter.unusedSimpArgs false
section
set_option linter.unusedVariables false
set_option linter.unusedSimpArgs false
set_option maxRecDepth 100000
namespace Go.Sx.Po
open Go
theorem pmod_eq {b n p : Nat} (hb : b < 18446744073709551616) (hn : n < 18446744073709551616) (hp : 1 ≤ p) (hp2 : p < 4294967296) : number_PowMod (bn b) (bn n) (bn p) = some (bn (b ^ n % p), 0) := by
  unfold number_PowMod number_modulus
  rw [show (1#64) = bn 1 from rfl, if_pos ((bn_le (by omega) (by omega)).2 hp), bind_some, show (4294967296#64) = bn 4294967296 from rfl, decide_eq_true ((bn_lt (by omega) (by omega)).2 hp2)]
  simp only [Bool.not_true, cond_false]
  rw [power_eq hb hn (by omega) hp2, bind_some]
section
variable {s : TScheme} {d t p q g : Nat}
theorem ppow_eq (h : Vld s d t p q g) {b n : Nat} (hb : b < 18446744073709551616) (hn : n < 18446744073709551616) : poly_power s (bn b) (bn n) = some (bn (b ^ n % p)) := by
  obtain ⟨p1, p2⟩ := h.pb
  unfold poly_power
  rw [h.grp]
  simp only
  rw [pmod_eq hb hn (by omega) (by omega), bind_some]
end
/-- the value of the secret polynomial -/
def fN (root : W2) (q t x : Nat) : Nat := evN (cfs root q t) x % q
/-- the exponent of a header's base -/
def rN (root : W2) (q : Nat) (nonce : BitVec 64) : Nat := 1 + (drv (drv root (un8 41#8) nonce) (un8 3#8) 0#64).1.toNat % (q - 1)
def baseN (root : W2) (p q g : Nat) (nonce : BitVec 64) : Nat := g ^ rN root q nonce % p
def ptN (root : W2) (p q t b x : Nat) : TPoint := ⟨bn x, bn (b ^ fN root q t x % p)⟩
/-- the numbers at which a header has points -/
def xsN (d t : Nat) (ln : List Nat) : List Nat := ln.map (· + 1) ++ (List.range (t - ln.length)).map fun i => 2 ^ d + 1 + i
def hdN (root : W2) (d t p q g : Nat) (ln : List Nat) (session : W2) (nonce : BitVec 64) : THeader :=
  ⟨[], bn (baseN root p q g nonce), (xsN d t ln).map (ptN root p q t (baseN root p q g nonce)), encr (drv k0 (un8 42#8) (bn (baseN root p q g nonce ^ fN root q t 0 % p))) session, drv session (un8 53#8) 0#64⟩
theorem xsN_len {d t : Nat} {ln : List Nat} (h : ln.length ≤ t) : (xsN d t ln).length = t := by simp [xsN]; omega
section
variable {s : TScheme} {d t p q g : Nat}
theorem fN_lt (h : Vld s d t p q g) (root : W2) (x : Nat) : fN root q t x < q := Nat.mod_lt _ (by have := h.qb; omega)
theorem baseN_lt (h : Vld s d t p q g) (root : W2) (nonce : BitVec 64) : baseN root p q g nonce < p := Nat.mod_lt _ (by have := h.pb; omega)
theorem cfs_len (root : W2) : (cfs root q t).length = t + 1 := by simp [cfs]
theorem rnum_lt (h : Vld s d t p q g) (root : W2) (nonce : BitVec 64) : 1 ≤ rN root q nonce ∧ rN root q nonce < q := by
  have hb := h.big
  have := Nat.mod_lt (drv (drv root (un8 41#8) nonce) (un8 3#8) 0#64).1.toNat (show 0 < q - 1 by have := Nat.two_pow_pos d; omega)
  unfold rN; omega
theorem nonce_eq (h : Vld s d t p q g) (root : W2) (nonce : BitVec 64) : cipher_Number (drv root (un8 41#8) nonce) 0#64 (bn q - 1#64) = some (bn (rN root q nonce - 1)) ∧ ref02_Number (drv root (un8 41#8) nonce) 0#64 (bn q - 1#64) = some (bn (rN root q nonce - 1)) := by
  obtain ⟨q1, q2⟩ := h.qb
  have hb := h.big
  have := Nat.two_pow_pos d
  have ht := h.t1
  have e : rN root q nonce - 1 = (drv (drv root (un8 41#8) nonce) (un8 3#8) 0#64).1.toNat % (q - 1) := by unfold rN; omega
  rw [show (1#64) = bn 1 from rfl, bn_sub (by omega) (by omega), number_eq _ _ _ (bn_ne0 (by omega) (by omega)), rnumber_eq _ _ _ (bn_ne0 (by omega) (by omega)), mod_bn _ (by omega) (by omega), e]
  exact ⟨rfl, rfl⟩
theorem lift_eq (h : Vld s d t p q g) (root : W2) {b x : Nat} (hb : b < p) (hx : x < q) (it : List TItem) (pts : List TPoint) (k1 k2 : W2) :
    poly_Seal_1 (bn x) s ⟨it, bn b, pts, k1, k2⟩ ((cfs root q t).map bn) (bn q) = some (bn (b ^ fN root q t x % p)) := by
  obtain ⟨q1, q2⟩ := h.qb
  obtain ⟨p1, p2⟩ := h.pb
  have hf := fN_lt h root x
  have ht := h.t8
  unfold poly_Seal_1
  rw [at_eq q1 q2 hx _ (cfs_lt (by omega)) (by rw [cfs_len]; omega), bind_some]
  simp only
  rw [show evN (cfs root q t) x % q = fN root q t x from rfl, ppow_eq h (by omega) (by omega), bind_some]
theorem plist_loop (h : Vld s d t p q g) (root : W2) (l : List Int) (session : W2) (nonce : BitVec 64) (hl : l.length < 4611686018427387904) :
    fixN (poly_Seal_L1 root s l session nonce) FUEL 0 = bif lstB d l then (if s.Degree < (l.length : Int) then some (⟨[], 0#64, [], k0, k0⟩, 4) else Option.bind (poly_secret root s) fun x => poly_Seal_J3 root s l session nonce x) else some (⟨[], 0#64, [], k0, k0⟩, 2) := by
  have h64 := pow_le64 h.d6
  have hpp := Nat.two_pow_pos d
  have := fix_range l.length (poly_Seal_L1 root s l session nonce) (fun j (_ : Unit) => (j : Int)) (fun j nx u => bif decide (0 ≤ l.getD j 0 ∧ l.getD j 0 < ((2 ^ d : Nat) : Int)) && (decide (j = 0) || decide (l.getD (j - 1) 0 < l.getD j 0)) then nx u else some (⟨[], 0#64, [], k0, k0⟩, 2)) (fun _ => if s.Degree < (l.length : Int) then some (⟨[], 0#64, [], k0, k0⟩, 4) else Option.bind (poly_secret root s) fun x => poly_Seal_J3 root s l session nonce x)
    (fun rec j hj _ => by
      simp only [poly_Seal_L1, poly_Seal_J2]
      rw [if_pos (by omega), getI_some hj, bind_some, h.depth, shG_nat, bind_some, shl1 h.d6, getD_some hj, w64_nat (by omega)]
      by_cases h1 : l[j] < 0
      · rw [if_pos h1, decide_eq_false (by omega)]; rfl
      · rw [if_neg h1]
        by_cases h2 : ((2 ^ d : Nat) : Int) ≤ l[j]
        · rw [if_pos h2, decide_eq_false (by omega)]; rfl
        · rw [if_neg h2, decide_eq_true (show 0 ≤ l[j] ∧ l[j] < ((2 ^ d : Nat) : Int) by omega), Bool.true_and]
          by_cases h0 : j = 0
          · rw [if_neg (by omega), decide_eq_true h0]; rfl
          · have hj1 : j - 1 < l.length := by omega
            rw [if_pos (by omega), w64_id (by omega) (by omega), show (j : Int) - 1 = ((j - 1 : Nat) : Int) from by omega, getI_some hj1, bind_some, decide_eq_false h0, Bool.false_or, getD_some hj1]
            by_cases h3 : l[j] ≤ l[j - 1]
            · rw [decide_eq_true h3, decide_eq_false (by omega)]; rfl
            · rw [decide_eq_false h3, decide_eq_true (by omega)]; rfl)
    (fun rec _ => by simp only [poly_Seal_L1]; rw [if_neg (by omega)]) (f := FUEL) (fuel_lt (by omega)) ()
  rw [show ((0 : Nat) : Int) = 0 from rfl] at this
  rw [this, all_itL _ _ _ _ _ (fun a _ nx u => rfl)]; rfl
theorem more_loop (h : Vld s d t p q g) (root : W2) (session : W2) (nonce : BitVec 64) {b : Nat} (hb : b < p) (pts : List TPoint) (hk : pts.length ≤ t) :
    fixN (poly_Seal_L6 s session ((cfs root q t).map bn) (bn b)) FUEL (w64 (((2 ^ d : Nat) : Int) + 1), pts) = some (⟨[], bn b, pts ++ (List.range (t - pts.length)).map (fun i => ptN root p q t b (2 ^ d + 1 + i)), encr (drv k0 (un8 42#8) (bn (b ^ fN root q t 0 % p))) session, drv session (un8 53#8) 0#64⟩, 0) := by
  have h64 := pow_le64 h.d6
  have hpp := Nat.two_pow_pos d
  have ht := h.t8
  have hbig := h.big
  obtain ⟨q1, q2⟩ := h.qb
  refine fix_go _ (fun j st => st = (((2 ^ d + 1 + j : Nat) : Int), pts ++ (List.range j).map (fun i => ptN root p q t b (2 ^ d + 1 + i)))) (t - pts.length) _ (by omega) ?_ ?_ ?_
  · rw [w64_nat (by omega)]; simp
  · rintro j _ hj rfl
    refine ⟨_, rfl, fun rec => ?_⟩
    simp only [poly_Seal_L6]
    rw [if_pos (by rw [h.deg]; simp; omega), h.grp, wd_nat]
    simp only
    rw [lift_eq h root hb (show 2 ^ d + 1 + j < q by omega), bind_some, appG_some (by simp; omega), bind_some, w64_nat (by omega), List.range_succ, List.map_append, ← List.append_assoc]; rfl
  · rintro _ rfl rec
    simp only [poly_Seal_L6]
    rw [if_neg (by rw [h.deg]; simp; omega), h.grp, show (0#64) = bn 0 from rfl]
    simp only
    rw [lift_eq h root hb (show 0 < q by omega), bind_some]; rfl
theorem first_loop (h : Vld s d t p q g) (root : W2) {ln : List Nat} (hl : ∀ n ∈ ln, n < 2 ^ d) (hlen : ln.length ≤ t) (session : W2) (nonce : BitVec 64) {b : Nat} (hb : b < p) :
    fixN (poly_Seal_L5 s (ln.map fun n : Nat => (n : Int)) session ((cfs root q t).map bn) (bn b)) FUEL (0, []) = some (⟨[], bn b, (xsN d t ln).map (ptN root p q t b), encr (drv k0 (un8 42#8) (bn (b ^ fN root q t 0 % p))) session, drv session (un8 53#8) 0#64⟩, 0) := by
  have h64 := pow_le64 h.d6
  have hpp := Nat.two_pow_pos d
  have ht := h.t8
  have hbig := h.big
  obtain ⟨q1, q2⟩ := h.qb
  refine fix_go _ (fun j st => st = ((j : Int), (ln.take j).map fun n => ptN root p q t b (n + 1))) ln.length _ (by omega) (by simp) ?_ ?_
  · rintro j _ hj rfl
    refine ⟨_, rfl, fun rec => ?_⟩
    have hn := hl _ (List.getElem_mem hj)
    simp only [poly_Seal_L5]
    rw [if_pos (by simp; omega), getI_some (by simpa using hj), bind_some, List.getElem_map, w64_nat (by omega), wd_nat, h.grp]
    simp only
    rw [lift_eq h root hb (show ln[j] + 1 < q by omega), bind_some, appG_some (by simp; omega), bind_some, w64_nat (by omega), take_snoc ln j hj, List.map_append]; rfl
  · rintro _ rfl rec
    simp only [poly_Seal_L5]
    rw [if_neg (by simp), h.depth, shG_nat, bind_some, shl1 h.d6, List.take_length, more_loop h root session nonce hb _ (by simpa using hlen)]
    simp only [xsN, List.map_append, List.map_map, List.length_map]; rfl
theorem pseal_eq (h : Vld s d t p q g) (e1 : poly_valid s = some true) (root : W2) {ln : List Nat} (hl : ∀ n ∈ ln, n < 2 ^ d) (ho : ln.Pairwise (· < ·)) (hlen : ln.length ≤ t) (session : W2) (nonce : BitVec 64) :
    poly_Seal root s (ln.map fun n : Nat => (n : Int)) session nonce = some (hdN root d t p q g ln session nonce, 0) := by
  have ht := h.t8
  obtain ⟨r1, r2⟩ := rnum_lt h root nonce
  obtain ⟨p1, p2⟩ := h.pb
  obtain ⟨q1, q2⟩ := h.qb
  have hgp := h.ok.2.2.2.2.1
  unfold poly_Seal
  rw [e1, bind_some]
  simp only [Bool.not_true, cond_false]
  rw [plist_loop h root _ session nonce (by simp; omega), lst_of hl ho, cond_true, if_neg (by rw [h.deg]; simp; omega), secret_eq h, bind_some]
  unfold poly_Seal_J3 poly_Seal_J4
  rw [h.grp]
  simp only
  rw [(nonce_eq h root nonce).1, bind_some, show (1#64) = bn 1 from rfl, bn_add, show 1 + (rN root q nonce - 1) = rN root q nonce from by omega, ppow_eq h (by omega) (by omega), bind_some]
  have := first_loop h root hl hlen session nonce (baseN_lt h root nonce)
  rw [show bn (baseN root p q g nonce) = bn (g ^ rN root q nonce % p) from rfl] at this
  rw [this]; rfl
theorem rseal_eq (h : Vld s d t p q g) (e2 : ref04_Valid s = some true) (root : W2) {ln : List Nat} (hl : ∀ n ∈ ln, n < 2 ^ d) (ho : ln.Pairwise (· < ·)) (hlen : ln.length ≤ t) (session : W2) (nonce : BitVec 64) :
    ref04_Seal root s (ln.map fun n : Nat => (n : Int)) session nonce = some (hdN root d t p q g ln session nonce, 0) := by
  have ht := h.t8
  have h64 := pow_le64 h.d6
  have hpp := Nat.two_pow_pos d
  have hbig := h.big
  obtain ⟨r1, r2⟩ := rnum_lt h root nonce
  obtain ⟨p1, p2⟩ := h.pb
  obtain ⟨q1, q2⟩ := h.qb
  have hgp := h.ok.2.2.2.2.1
  have hxl := xsN_len (d := d) hlen
  have hb := baseN_lt h root nonce
  unfold ref04_Seal
  rw [e2, bind_some]
  simp only [Bool.not_true, cond_false]
  rw [h.depth, rlist_eq h.d6 _ (by simp; omega), lst_of hl ho, bind_some]
  simp only [Bool.not_true, cond_false]
  rw [if_neg (by rw [h.deg]; simp; omega)]
  unfold ref04_SealOf ref04_SealOf_J1
  rw [rsecret_eq h, bind_some, h.grp]
  simp only
  rw [(nonce_eq h root nonce).2, bind_some, show (1#64) = bn 1 from rfl, bn_add, show 1 + (rN root q nonce - 1) = rN root q nonce from by omega, rpower_eq (by omega) (by omega) (by omega) (by omega), bind_some]
  have hrun : fixN (ref04_SealOf_L2 s (ln.map fun n : Nat => (n : Int)) session ((cfs root q t).map bn) (bn (g ^ rN root q nonce % p))) FUEL (0, []) = some (hdN root d t p q g ln session nonce) := by
    rw [show g ^ rN root q nonce % p = baseN root p q g nonce from rfl]
    have hval : ∀ {x : Nat}, x < q → ref04_ValueOf (bn q) ((cfs root q t).map bn) (bn x) = some (bn (fN root q t x)) := fun hx => value_of_eq q1 q2 hx _ (cfs_lt (by omega)) (by rw [cfs_len]; omega)
    have hpow : ∀ x, ref01_Power (bn (baseN root p q g nonce)) (bn (fN root q t x)) (bn p) = some (bn (baseN root p q g nonce ^ fN root q t x % p)) := fun x => rpower_eq (by omega) (by have := fN_lt h root x; omega) (by omega) (by omega)
    refine fix_go _ (fun j st => st = ((j : Int), ((xsN d t ln).take j).map (ptN root p q t (baseN root p q g nonce)))) t _ (by omega) (by simp) ?_ ?_
    · rintro j _ hj rfl
      refine ⟨_, rfl, fun rec => ?_⟩
      have hjx : j < (xsN d t ln).length := by omega
      simp only [ref04_SealOf_L2, ref04_SealOf_J3]
      rw [h.deg, if_pos (by omega), h.depth, recv_eq h.d6, bind_some, h.grp]
      simp only
      have fin : ∀ x, (xsN d t ln)[j] = x → x < q → (Option.bind (ref04_ValueOf (bn q) ((cfs root q t).map bn) (bn x)) fun x15 => Option.bind (ref01_Power (bn (baseN root p q g nonce)) x15 (bn p)) fun x16 => Option.bind (appG 16 (((xsN d t ln).take j).map (ptN root p q t (baseN root p q g nonce))) [⟨bn x, x16⟩]) fun l17 => rec (w64 ((j : Int) + 1), l17)) = rec (((j + 1 : Nat) : Int), ((xsN d t ln).take (j + 1)).map (ptN root p q t (baseN root p q g nonce))) := by
        intro x hx hxq
        rw [hval hxq, bind_some, hpow, bind_some, appG_some (by simp; omega), bind_some, w64_nat (by omega), take_snoc _ j hjx, List.map_append, hx]; rfl
      by_cases hjl : j < ln.length
      · have hn := hl _ (List.getElem_mem hjl)
        rw [if_pos (by simp; omega), getI_some (by simpa using hjl), bind_some, List.getElem_map, wd_nat, show (1#64) = bn 1 from rfl, bn_add]
        exact fin _ (by simp [xsN, List.getElem_append, hjl]) (by omega)
      · rw [if_neg (by simp; omega), w64_nat (by omega), w64_id (n := ((2 ^ d + 1 : Nat) : Int) + (j : Int)) (by omega) (by omega), List.length_map, w64_id (by omega) (by omega), show ((2 ^ d + 1 : Nat) : Int) + (j : Int) - (ln.length : Int) = ((2 ^ d + 1 + (j - ln.length) : Nat) : Int) from by omega, wd_nat]
        exact fin _ (by simp [xsN, List.getElem_append, hjl]) (by omega)
    · rintro _ rfl rec
      simp only [ref04_SealOf_L2]
      rw [h.deg, if_neg (by omega), h.grp, show (0#64) = bn 0 from rfl]
      simp only
      rw [hval (by omega), bind_some, hpow, bind_some, List.take_of_length_le (by omega)]; rfl
  rw [hrun, bind_some]
end
theorem seal_same (root : W2) (s : TScheme) (l : List Int) (hl : l.length < 4611686018427387904) (session : W2) (nonce : BitVec 64) : ∃ r, poly_Seal root s l session nonce = some r ∧ ref04_Seal root s l session nonce = some r ∧ r.1.Items = [] ∧ r.1.Points.length ≤ 8 := by
  rcases valid_eq s with ⟨e1, e2⟩ | ⟨e1, e2, d, t, p, q, g, h⟩
  · refine ⟨(⟨[], 0#64, [], k0, k0⟩, 30), ?_, ?_, rfl, by simp⟩
    · unfold poly_Seal; rw [e1, bind_some]; rfl
    · unfold ref04_Seal; rw [e2, bind_some]; rfl
  · cases hb : lstB d l with
    | false =>
      refine ⟨(⟨[], 0#64, [], k0, k0⟩, 2), ?_, ?_, rfl, by simp⟩
      · unfold poly_Seal; rw [e1, bind_some]; simp only [Bool.not_true, cond_false]; rw [plist_loop h root l session nonce hl, hb]; rfl
      · unfold ref04_Seal; rw [e2, bind_some, h.depth, rlist_eq h.d6 l hl, hb]; rfl
    | true =>
      by_cases hlen : s.Degree < (l.length : Int)
      · refine ⟨(⟨[], 0#64, [], k0, k0⟩, 4), ?_, ?_, rfl, by simp⟩
        · unfold poly_Seal; rw [e1, bind_some]; simp only [Bool.not_true, cond_false]; rw [plist_loop h root l session nonce hl, hb, cond_true, if_pos hlen]
        · unfold ref04_Seal; rw [e2, bind_some, h.depth, rlist_eq h.d6 l hl, hb]; simp only [Bool.not_true, cond_false]; rw [bind_some]; simp only [Bool.not_true, cond_false]; rw [if_pos hlen]
      · obtain ⟨ln, rfl, h1, h2⟩ := lst_nat hb
        rw [h.deg] at hlen
        have h3 : ln.length ≤ t := by simp at hlen; omega
        have ht := h.t8
        exact ⟨_, pseal_eq h e1 root h1 h2 h3 session nonce, rseal_eq h e2 root h1 h2 h3 session nonce, rfl, by simp [hdN, xsN_len h3]; omega⟩
end Go.Sx.Po

end
section
set_option linter.unusedVariables false
set_option linter.unusedSimpArgs false
namespace Go.Sx.Po.Cy
open Go
/-- the number in some bytes -/
def valB (l : List (BitVec 8)) : BitVec 64 := l.foldl (fun n c => 256#64 * n + c.setWidth 64) 0#64
theorem valB_snoc (l : List (BitVec 8)) (c : BitVec 8) : valB (l ++ [c]) = 256#64 * valB l + c.setWidth 64 := by simp [valB]
theorem value_loop (l : List (BitVec 8)) (hx : l.length ≤ 1000) : ∀ (m i fuel : Nat), l.length - i = m → i ≤ l.length → m < fuel → fixN (ref02_Value_L1 l) fuel (valB (l.take i), (i : Int)) = some (valB l)
  | m, i, 0, _, _, hf => by omega
  | 0, i, fuel + 1, hm, hi, hf => by
    rw [fix_step]; simp only [ref02_Value_L1]; rw [if_neg (by omega), List.take_of_length_le (by omega)]
  | m + 1, i, fuel + 1, hm, hi, hf => by
    rw [fix_step]; simp only [ref02_Value_L1]
    rw [if_pos (by omega), getI_some (by omega), bind_some, ← valB_snoc, ← take_snoc _ _ (by omega), w64_id (by omega) (by omega)]
    exact value_loop l hx m (i + 1) fuel (by omega) (by omega) (by omega)
theorem value_eq (l : List (BitVec 8)) (h : l.length ≤ 1000) : ref02_Value l = some (valB l) := value_loop l h _ 0 FUEL rfl (by omega) (fuel_lt (by omega))
theorem shl_or (a : BitVec 64) (c : BitVec 8) : (a <<< 8) ||| (c.setWidth 64) = 256#64 * a + c.setWidth 64 := by
  have e1 : 256#64 * a = a <<< 8 := by
    apply BitVec.eq_of_toNat_eq
    rw [BitVec.toNat_mul, BitVec.toNat_shiftLeft, Nat.shiftLeft_eq, Nat.mul_comm]; rfl
  rw [e1]
  symm
  apply BitVec.add_eq_or_of_and_eq_zero
  apply BitVec.eq_of_getLsbD_eq
  intro j hj
  rw [BitVec.getLsbD_and, BitVec.getLsbD_shiftLeft, BitVec.getLsbD_setWidth, BitVec.getLsbD_zero]
  by_cases h : j < 8
  · simp [h]
  · simp [BitVec.getLsbD_of_ge c j (by omega)]
theorem byt_wd (x : BitVec 64) (k : Nat) : (byt x k).setWidth 64 = wd (bt x k) := by
  rw [wd_bt]
  apply BitVec.eq_of_toNat_eq
  unfold byt
  rw [BitVec.toNat_setWidth, BitVec.toNat_setWidth, BitVec.toNat_and]
  have : (255#64 : BitVec 64).toNat = 2 ^ 8 - 1 := rfl
  rw [this, Nat.and_two_pow_sub_one_eq_mod]
  omega
theorem val_st (x : BitVec 64) (k : Nat) (hk : k < 8) : 256#64 * (x >>> (64 - 8 * k)) + (byt x k).setWidth 64 = x >>> (64 - 8 * (k + 1)) := by
  rw [← shl_or, byt_wd, shl_step x k hk]
theorem val_w8 (x : BitVec 64) : valB (w8 x) = x := by
  have h0 := val_st x 0 (by decide)
  have h1 := val_st x 1 (by decide)
  have h2 := val_st x 2 (by decide)
  have h3 := val_st x 3 (by decide)
  have h4 := val_st x 4 (by decide)
  have h5 := val_st x 5 (by decide)
  have h6 := val_st x 6 (by decide)
  have h7 := val_st x 7 (by decide)
  have hz : x >>> 64 = 0#64 := by apply BitVec.eq_of_toNat_eq; rw [BitVec.toNat_ushiftRight, Nat.shiftRight_eq_div_pow, Nat.div_eq_of_lt x.isLt]; rfl
  simp only [Nat.mul_zero, Nat.sub_zero, hz] at h0
  simp only [valB, w8, List.foldl_cons, List.foldl_nil, h0, h1, h2, h3, h4, h5, h6, h7]
  simp
theorem words_eq (p : W2) : ref02_words p = some p := by
  unfold ref02_words
  rw [show ((kby p).take 8).drop 0 = w8 p.1 from rfl, show ((kby p).take 16).drop 8 = w8 p.2 from rfl, value_eq _ (by rw [w8_len]; omega), bind_some, value_eq _ (by rw [w8_len]; omega), bind_some, val_w8, val_w8]
end Go.Sx.Po.Cy

end
section
set_option linter.unusedVariables false
set_option linter.unusedSimpArgs false
set_option linter.unusedSectionVars false
set_option maxRecDepth 100000
namespace Go.Sx.Po
open Go
/-! ### the first element with a property -/
/-! ### distinct points -/
/-! ### right headers -/
/-- a point within the bounds -/
def ptB (s : TScheme) (x : TPoint) : Bool := decide (1#64 ≤ x.X) && decide (x.X < s.Group.Q) && decide (1#64 ≤ x.Y) && decide (x.Y < s.Group.P)
end Go.Sx.Po

end
section
set_option linter.unusedVariables false
set_option linter.unusedSimpArgs false
set_option linter.unusedSectionVars false
set_option maxRecDepth 100000
namespace Go.Sx.Po
open Go
/-! ### factors -/
section
variable {q : Nat} [NeZero q]
/-! ### the mask -/
variable {s : TScheme} {d t p g : Nat}
end
end Go.Sx.Po

end
section
set_option linter.unusedVariables false
set_option linter.unusedSimpArgs false
set_option linter.unusedSectionVars false
set_option maxRecDepth 100000
namespace Go.Sx.Po
open Go
section
variable {s : TScheme} {d t p q g : Nat}
def Ya (l : List TPoint) (k : Nat) : Nat := (l.getD k default).Y.toNat
end
end Go.Sx.Po

end
section
set_option linter.unusedVariables false
set_option linter.unusedSimpArgs false
set_option maxRecDepth 100000
namespace Go.Sx.Ep
open Go Go.Sx
theorem covP_len (s : TScheme) (l : List Int) : (covP s l).1.length ≤ 1000 := by
  unfold covP
  cases hv : vldB s with
  | false => simp
  | true =>
    obtain ⟨d, hd, h6⟩ := vld_depth hv
    rw [hd, Int.toNat_natCast]
    simp only [if_true]
    split
    · split
      · simp
      · simp only [List.length_map]; have := cov_len (k := s.Kind) (R := rcvL l) h6; omega
    · simp
theorem tick_eq (n : Int) : ∃ b, epoch_isTick n = some b ∧ ref05_Tick n = some b := by
  unfold epoch_isTick ref05_Tick
  by_cases h : 0 ≤ n
  · rw [if_pos h]; exact ⟨_, rfl, rfl⟩
  · rw [if_neg h]; exact ⟨_, rfl, rfl⟩
/-- how the layers' functions are reached -/
theorem cvd_eq (root ses : W2) (s : TScheme) (l : List Int) (x : BitVec 64) (hl : l.length ≤ 1000) : ∃ r, epoch_covered root s l ses x = some r ∧ (Option.bind (ref03_Cover s l) fun x5 => (if x5.2 ≠ 0 then (some ((THeader.mk [] 0#64 [] k0 k0), x5.2)) else Option.bind (ref03_Seal root s x5.1 ses) fun x6 => ((some (x6.1, x6.2))))) = some r ∧ r.1.Items.length ≤ 64 ∧ r.1.Points.length ≤ 8 := by
  unfold epoch_covered
  rw [pcover_eq s l (by omega), rcover_eq s l (by omega), bind_some, bind_some]
  by_cases h : (covP s l).2 ≠ 0
  · rw [if_pos h, if_pos h]; exact ⟨_, rfl, rfl, by simp, by simp⟩
  · rw [if_neg h, if_neg h]
    obtain ⟨r, h1, h2, h3, h4⟩ := seal_eq root ses s (covP s l).1 (by have := covP_len s l; omega)
    rw [h1, h2]; exact ⟨_, rfl, rfl, h3, h4⟩
theorem sl_eq (root : W2) (s : TScheme) (n : Int) (l : List Int) (hl : l.length ≤ 1000) : ∃ r, epoch_Seal root s n l = some r ∧ ref05_Seal root s n l = some r ∧ r.1.Items.length ≤ 64 ∧ r.1.Points.length ≤ 8 := by
  obtain ⟨e, h1, h2, h3⟩ := ks_eq s
  obtain ⟨tk, t1, t2⟩ := tick_eq n
  unfold ref05_Seal ref05_Session
  rw [h2, bind_some, t2, bind_some, bind_some]
  unfold epoch_CheckScheme at h1
  unfold epoch_Seal
  have key : ∀ b, epoch_CheckScheme_J1 s b = some e → ∃ r, epoch_Seal_J1 root s n l b = some r ∧ (if e ≠ 0 then (some ((THeader.mk [] 0#64 [] k0 k0), e)) else (bif (!tk) then (some ((THeader.mk [] 0#64 [] k0 k0), 2)) else (if s.Kind = 4#8 then Option.bind (ref04_Seal root s l (drv root (un8 50#8) (wd n)) (wd n)) fun x4 => ((some (x4.1, x4.2))) else Option.bind (ref03_Cover s l) fun x5 => ((if x5.2 ≠ 0 then (some ((THeader.mk [] 0#64 [] k0 k0), x5.2)) else Option.bind (ref03_Seal root s x5.1 (drv root (un8 50#8) (wd n))) fun x6 => ((some (x6.1, x6.2)))))))) = some r ∧ r.1.Items.length ≤ 64 ∧ r.1.Points.length ≤ 8 := fun b hb => by
    unfold epoch_CheckScheme_J1 at hb
    unfold epoch_Seal_J1 epoch_Session
    cases b with
    | true =>
      rw [cond_true] at hb ⊢
      have : e = 2 := (Option.some.inj hb).symm
      subst this
      exact ⟨_, rfl, if_pos (by decide), by simp, by simp⟩
    | false =>
      rw [cond_false] at hb ⊢
      by_cases k1 : un8 s.Kind = 1 ∨ un8 s.Kind = 2 ∨ un8 s.Kind = 3
      · rw [if_pos k1] at hb ⊢
        have k4 : s.Kind ≠ 4#8 := fun h => by rw [h] at k1; revert k1; decide
        obtain ⟨c1, c2⟩ := ccheck_eq s
        rw [c1, bind_some] at hb ⊢
        have he := Option.some.inj hb
        rw [he]
        by_cases h0 : e ≠ 0
        · rw [if_pos h0, if_pos h0]; exact ⟨_, rfl, rfl, by simp, by simp⟩
        · rw [if_neg h0, if_neg h0, t1, bind_some]
          cases tk with
          | false => exact ⟨_, rfl, rfl, by simp, by simp⟩
          | true =>
            rw [Bool.not_true, cond_false, cond_false, if_neg k4, bind_some]
            obtain ⟨q, q1, q2, q3, q4⟩ := cvd_eq root (drv root (un8 50#8) (wd n)) s l (wd n) hl
            rw [q1, q2, bind_some]; exact ⟨_, rfl, rfl, q3, q4⟩
      · rw [if_neg k1] at hb ⊢
        by_cases k4 : un8 s.Kind = 4
        · rw [if_pos k4] at hb ⊢
          have k4' : s.Kind = 4#8 := un8_inj (by rw [k4]; rfl)
          obtain ⟨r, c1, c2⟩ := pcheck_eq s
          rw [c1, bind_some] at hb ⊢
          have he := Option.some.inj hb
          rw [he]
          by_cases h0 : e ≠ 0
          · rw [if_pos h0, if_pos h0]; exact ⟨_, rfl, rfl, by simp, by simp⟩
          · rw [if_neg h0, if_neg h0, t1, bind_some]
            cases tk with
            | false => exact ⟨_, rfl, rfl, by simp, by simp⟩
            | true =>
              rw [Bool.not_true, cond_false, cond_false, if_pos k4', bind_some]
              obtain ⟨q, q1, q2, q3, q4⟩ := Po.seal_same root s l (by omega) (drv root (un8 50#8) (wd n)) (wd n)
              rw [q1, q2]; exact ⟨_, rfl, rfl, by show q.1.Items.length ≤ 64; rw [q3]; simp, by show q.1.Points.length ≤ 8; omega⟩
        · rw [if_neg k4] at hb; cases hb
  by_cases h0 : s.Kind < 1#8
  · rw [if_pos h0] at h1 ⊢; exact key _ h1
  · rw [if_neg h0] at h1 ⊢; exact key _ h1
theorem same53 (p : THeader) (hn : p.Points.length < 4611686018427387904) : ∀ (m i fuel : Nat), p.Points.length - i = m → i ≤ p.Points.length → m < fuel → fixN (ref05_SameHeader_L3 p p) fuel (i : Int) = some true
  | m, i, 0, _, _, hf => by omega
  | 0, i, fuel + 1, hm, hi, hf => by rw [fix_step]; simp only [ref05_SameHeader_L3]; rw [if_neg (by omega)]
  | m + 1, i, fuel + 1, hm, hi, hf => by
    rw [fix_step]; simp only [ref05_SameHeader_L3]
    rw [if_pos (by omega), getI_some (by omega), bind_some, bind_some, if_neg (by simp), w64_id (by omega) (by omega)]
    exact same53 p hn m (i + 1) fuel (by omega) (by omega) (by omega)
theorem same52 (p : THeader) (hi' : p.Items.length < 4611686018427387904) (hn : p.Points.length < 4611686018427387904) : ∀ (m i fuel : Nat), p.Items.length - i = m → i ≤ p.Items.length → m < fuel → fixN (ref05_SameHeader_L2 p p) fuel (i : Int) = some true
  | m, i, 0, _, _, hf => by omega
  | 0, i, fuel + 1, hm, hi, hf => by
    rw [fix_step]; simp only [ref05_SameHeader_L2]; rw [if_neg (by omega)]
    exact same53 p hn _ 0 FUEL rfl (by omega) (fuel_lt (by omega))
  | m + 1, i, fuel + 1, hm, hi, hf => by
    rw [fix_step]; simp only [ref05_SameHeader_L2]
    rw [if_pos (by omega), getI_some (by omega), bind_some, bind_some, if_neg (by simp), w64_id (by omega) (by omega)]
    exact same52 p hi' hn m (i + 1) fuel (by omega) (by omega) (by omega)
theorem same5_self (p : THeader) (hi : p.Items.length < 4611686018427387904) (hn : p.Points.length < 4611686018427387904) : ref05_SameHeader p p = some true := by
  unfold ref05_SameHeader ref05_SameHeader_J1
  simp only [ne_eq, not_true_eq_false, if_false, decide_false, cond_false]
  exact same52 p hi hn _ 0 FUEL rfl (by omega) (fuel_lt (by omega))
end Go.Sx.Ep

end
section
set_option linter.unusedVariables false
set_option linter.unusedSimpArgs false
set_option maxRecDepth 100000
namespace Go.Sx
open Go Go.Sx.Ep
theorem rva_of {a : TAir} (h : VA a) : ref05_ValidAir a = some true := by
  obtain ⟨w1, w2, e1, e2, e3, y0, r0, d0, s1, s2⟩ := h
  unfold ref05_ValidAir
  rw [if_neg (by omega), if_neg (by omega), if_neg (by omega), w64_id (n := 1000 * a.Word) (by omega) (by omega), if_neg (by omega)]
  unfold remI
  rw [if_neg (show ¬ a.Word = 0 from by omega), bind_some, decide_eq_false (by omega)]
  unfold ref05_ValidAir_J1
  rw [cond_false, if_neg (by omega), if_neg (by omega), if_neg (by omega), if_neg (by omega), if_neg (by omega), decide_eq_false (by omega)]
  unfold ref05_ValidAir_J2
  rw [cond_false, w64_id (n := 2 * a.Drift) (by omega) (by omega), w64_id (n := 2 * a.Drift + a.Delay) (by omega) (by omega), w64_id (n := 3 * a.Word) (by omega) (by omega), w64_id (n := a.Early + a.Delay) (by omega) (by omega), if_pos s1, decide_eq_true s2]
theorem pva_of {a : TAir} (ha : I64 a.Epoch ∧ I64 a.Word ∧ I64 a.Early ∧ I64 a.Drift ∧ I64 a.Delay) : epoch_CheckAir a = some 50 ∨ (epoch_CheckAir a = some 0 ∧ VA a) := by
  obtain ⟨i1, i2, i3, i4, i5⟩ := ha
  unfold I64 at *
  have hJ : epoch_CheckAir_J1 a true = some 50 := rfl
  have hK : epoch_CheckAir_J2 true = some 50 := rfl
  unfold epoch_CheckAir
  by_cases h1 : a.Word < 1
  · rw [if_pos h1]; exact .inl hJ
  rw [if_neg h1]
  by_cases h2 : 1000 < a.Word
  · rw [if_pos h2]; exact .inl hJ
  rw [if_neg h2]
  by_cases h3 : a.Epoch < a.Word
  · rw [if_pos h3]; exact .inl hJ
  rw [if_neg h3, w64_id (n := 1000 * a.Word) (by omega) (by omega)]
  by_cases h4 : 1000 * a.Word < a.Epoch
  · rw [if_pos h4]; exact .inl hJ
  rw [if_neg h4]
  unfold remI
  rw [if_neg (show ¬ a.Word = 0 from by omega), bind_some]
  by_cases h5 : a.Epoch.tmod a.Word ≠ 0
  · rw [decide_eq_true h5]; exact .inl hJ
  rw [decide_eq_false h5]
  unfold epoch_CheckAir_J1
  rw [cond_false]
  by_cases h6 : mnI (mnI a.Early a.Drift) a.Delay < 0
  · rw [if_pos h6]; exact .inl hK
  have h6' : 0 ≤ a.Early ∧ 0 ≤ a.Drift ∧ 0 ≤ a.Delay := by unfold mnI at h6; split at h6 <;> split at h6 <;> omega
  rw [if_neg h6, w64_id (n := 3 * a.Word) (by omega) (by omega)]
  by_cases h7 : 3 * a.Word ≤ a.Drift
  · rw [if_pos h7]; exact .inl hK
  rw [if_neg h7]
  by_cases h8 : 3 * a.Word ≤ a.Delay
  · rw [if_pos h8]; exact .inl hK
  rw [if_neg h8, w64_id (n := 2 * a.Drift) (by omega) (by omega), w64_id (n := 2 * a.Drift + a.Delay) (by omega) (by omega)]
  by_cases h9 : 3 * a.Word ≤ 2 * a.Drift + a.Delay
  · rw [if_pos h9]; exact .inl hK
  rw [if_neg h9, w64_id (n := a.Epoch - a.Delay) (by omega) (by omega)]
  by_cases h10 : a.Epoch - a.Delay < a.Early
  · rw [decide_eq_true h10]; exact .inl hK
  rw [decide_eq_false h10]
  exact .inr ⟨rfl, by omega, by omega, by omega, by omega, by omega, by omega, by omega, by omega, by omega, by omega⟩
/-- both sides on a schedule -/
theorem air_eq {a : TAir} (ha : I64 a.Epoch ∧ I64 a.Word ∧ I64 a.Early ∧ I64 a.Drift ∧ I64 a.Delay) : (epoch_CheckAir a = some 50 ∧ ref05_ValidAir a = some false) ∨ (epoch_CheckAir a = some 0 ∧ ref05_ValidAir a = some true ∧ VA a) := by
  rcases pva_of ha with h | ⟨h, hv⟩
  · refine .inl ⟨h, ?_⟩
    obtain ⟨b, e, i⟩ := va_ref a
    cases b with
    | false => exact e
    | true => have := cair (i rfl); rw [h] at this; simp at this
  · exact .inr ⟨h, rva_of hv, hv⟩
theorem tk_eq (t : Int) : epoch_isTick t = some (decide (0 ≤ t ∧ t ≤ 1099511627776)) ∧ ref05_Tick t = some (decide (0 ≤ t ∧ t ≤ 1099511627776)) := by
  unfold epoch_isTick ref05_Tick
  by_cases h : 0 ≤ t
  · rw [if_pos h]; constructor <;> (congr 1; rw [decide_eq_decide]; exact ⟨fun x => ⟨h, x⟩, fun x => x.2⟩)
  · rw [if_neg h, decide_eq_false fun x => h x.1]; exact ⟨rfl, rfl⟩
theorem bdy_le {p : TPacket} (h1 : p.Head.Items.length ≤ 64) (h2 : p.Head.Points.length ≤ 8) (h3 : p.Data.length ≤ 1000) : (bdy p).length ≤ 16384 := by
  unfold bdy
  split
  · simp only [List.length_append, be_len, List.length_cons, List.length_nil]; omega
  · simp only [List.length_append, be_len, List.length_cons, List.length_nil, kby_len, flat_len itB 18 itB_len, flat_len ptB 16 ptB_len]; omega
theorem hmac_eq (ses : W2) (p : TPacket) (h1 : p.Head.Items.length ≤ 64) (h2 : p.Head.Points.length ≤ 8) (h3 : p.Data.length ≤ 1000) : epoch_headMac ses p = some (mcN (drv ses (un8 52#8) (wd p.Epoch)) (bdy p)) ∧ ref05_Sealed ses p = some (mcN (drv ses (un8 52#8) (wd p.Epoch)) (bdy p)) := by
  have hs : Sm p := ⟨by omega, by omega, by omega⟩
  have hb := bdy_le h1 h2 h3
  unfold epoch_headMac ref05_Sealed
  rw [body_eq p hs, rbody_eq p hs, bind_some, bind_some, mac_eq _ _ hb, tag_eq _ _ (by omega), bind_some, bind_some]
  exact ⟨rfl, rfl⟩
/-- header packets -/
theorem head_eq (root : W2) (s : TScheme) (n : Int) (l : List Int) (hl : l.length ≤ 1000) : ∃ r, epoch_Head root s n l = some r ∧ ref05_Head root s n l = some r ∧ r.1.Head.Items.length ≤ 64 ∧ r.1.Head.Points.length ≤ 8 ∧ r.1.Data = [] := by
  obtain ⟨x, x1, x2, x3, x4⟩ := sl_eq root s n l hl
  unfold epoch_Head ref05_Head
  rw [x1, x2, bind_some, bind_some]
  by_cases h : x.2 ≠ 0
  · rw [if_pos h, if_pos h]; exact ⟨_, rfl, rfl, by simp, by simp, rfl⟩
  · rw [if_neg h, if_neg h]
    have hS : epoch_Session root n = ref05_Session root n := rfl
    obtain ⟨ses, hs⟩ : ∃ ses, ref05_Session root n = some ses := ⟨_, rfl⟩
    rw [hS, hs, bind_some, bind_some]
    obtain ⟨m1, m2⟩ := hmac_eq ses ⟨1#8, n, x.1, 0#8, 0#64, [], k0⟩ x3 x4 (by simp)
    rw [m1, m2, bind_some]
    exact ⟨_, rfl, rfl, x3, x4, rfl⟩
theorem quo_pos {a b : Int} (h0 : 0 ≤ a) (h1 : a ≤ 9223372036854775807) (hb : 0 < b) : ∃ q, quoI a b = some q ∧ 0 ≤ q ∧ q ≤ a := by
  refine ⟨a / b, quo_nn h0 h1 hb, Int.ediv_nonneg h0 (by omega), Int.ediv_le_self b h0⟩
/-- content packets -/
theorem cont_eq (root : W2) {a : TAir} (ha : I64 a.Epoch ∧ I64 a.Word ∧ I64 a.Early ∧ I64 a.Drift ∧ I64 a.Delay) (t : Int) (n : BitVec 64) (b : By) (hb : b.length ≤ 1000) : ∃ r, epoch_Content root a t n b = some r ∧ ref05_Content root a t n b = some r ∧ r.1.Head.Items = [] ∧ r.1.Head.Points = [] ∧ r.1.Data.length ≤ 1000 := by
  obtain ⟨t1, t2⟩ := tk_eq t
  unfold epoch_Content ref05_Content epoch_PeriodOf epoch_divided_epoch_PeriodOf_1 ref05_aired epoch_PeriodOf_1
  rcases air_eq ha with ⟨e1, e2⟩ | ⟨e1, e2, V⟩
  · rw [e1, e2, bind_some, bind_some]; exact ⟨_, rfl, rfl, rfl, rfl, by simp⟩
  rw [e1, e2]
  simp only [bind_some, ne_eq, not_true_eq_false, if_false, Bool.not_true, cond_false, t1, t2]
  by_cases ht : 0 ≤ t ∧ t ≤ 1099511627776
  · simp only [decide_eq_true ht, Bool.not_true, cond_false, bind_some, not_true_eq_false, if_false]
    obtain ⟨w1, w2, ep1, ep2, _⟩ := V
    obtain ⟨q, hq, q0, q1⟩ := quo_pos (a := t) (b := a.Word) ht.1 (by omega) (by omega)
    obtain ⟨p, hp, p0, p1⟩ := quo_pos (a := t) (b := a.Epoch) ht.1 (by omega) (by omega)
    simp only [hq, bind_some, not_true_eq_false, if_false]
    by_cases hl : (256 : Int) < (b.length : Int)
    · rw [if_pos hl, if_pos hl]; exact ⟨_, rfl, rfl, rfl, rfl, by simp⟩
    · rw [if_neg hl, if_neg hl]
      unfold ref05_Sent
      rw [hp, hq, bind_some, bind_some, bind_some]
      have hS : epoch_Session root p = ref05_Session root p := rfl
      obtain ⟨ses, hs⟩ : ∃ ses, ref05_Session root p = some ses := ⟨_, rfl⟩
      rw [hS, hs, bind_some, bind_some]
      have hW : epoch_Word ses q = ref05_Word ses q := rfl
      obtain ⟨wo, hw⟩ : ∃ wo, ref05_Word ses q = some wo := ⟨_, rfl⟩
      rw [hW, hw, bind_some, bind_some]
      unfold epoch_Content_J1 ref05_Sent_J1
      rw [hq, bind_some]
      have hr : ∃ z, remI q 4 = some z := ⟨q.tmod 4, rfl⟩
      obtain ⟨z, hz⟩ := hr
      simp only
      rw [hz, bind_some, bind_some, stream_eq _ _ _ (by omega), rstream_eq _ _ _ (by omega), bind_some, bind_some, if_neg (by simp)]
      unfold ref05_Sent_J2
      have hlen : (strN wo n b).length ≤ 1000 := by rw [strN_len]; exact hb
      have hsm : Sm ⟨2#8, 0, ⟨[], 0#64, [], k0, k0⟩, wd8 z, n, strN wo n b, k0⟩ := ⟨by simp, by simp, by show (strN wo n b).length ≤ 100000; omega⟩
      have hbl := bdy_le (p := ⟨2#8, 0, ⟨[], 0#64, [], k0, k0⟩, wd8 z, n, strN wo n b, k0⟩) (by simp) (by simp) hlen
      simp only
      rw [body_eq _ hsm, rbody_eq _ hsm, bind_some, bind_some, mac_eq _ _ hbl, tag_eq _ _ (by omega), bind_some, bind_some, bind_some]
      exact ⟨_, rfl, rfl, rfl, rfl, hlen⟩
  · rw [decide_eq_false ht]; exact ⟨_, rfl, rfl, rfl, rfl, by simp⟩
theorem samePk (p : TPacket) (h1 : p.Head.Items.length < 4611686018427387904) (h2 : p.Head.Points.length < 4611686018427387904) : ref05_SamePacket p p = some true := by
  unfold ref05_SamePacket
  rw [if_pos rfl, if_pos rfl, same5_self _ h1 h2, bind_some, cond_true, if_pos rfl, if_pos rfl, if_pos rfl, decide_eq_true rfl]
end Go.Sx

end
section
set_option linter.unusedVariables false
set_option linter.unusedSimpArgs false
set_option maxRecDepth 100000
namespace Go.Sx
open Go Go.Sx.Ep
theorem sends_end (d l2 : By) (x5 : TPacket × Int) (h : d = l2) (hm : x5.1.Data.length ≤ 1000) : law05_EpochSends_J2 d l2 x5 true = some true := by
  unfold law05_EpochSends_J2
  refine goE' _ (fun j s => s.1 = (j : Int) ∧ s.2.length = x5.1.Data.length) x5.1.Data.length _ (by omega) ⟨rfl, rfl⟩ ?_ ?_
  · rintro j ⟨i, x⟩ hj ⟨h1, h2⟩
    simp only at h1 h2
    subst h1
    refine ⟨(((j + 1 : Nat) : Int), x.set j (x[j] + 1#8)), ⟨rfl, by simp [h2]⟩, fun rec => ?_⟩
    unfold law05_EpochSends_L3
    simp only
    rw [if_pos (by omega), getI_some (show j < x.length by omega), bind_some, bind_some, w64_id (by omega) (by omega), Int.toNat_natCast]; rfl
  · rintro ⟨i, x⟩ ⟨h1, h2⟩ rec
    simp only at h1; subst h1
    unfold law05_EpochSends_L3
    simp only
    rw [if_neg (by omega), cond_true, decide_eq_true h.symm]
theorem law05_EpochSends_ok (root : W2) (s : TScheme) (a : TAir) (n : Int) (l : List Int) (t : Int) (c : BitVec 64) (d : By) (hs : s.ok) (ha : a.ok) (hn : I64 n) (hl : ∀ x ∈ l, I64 x) (hll : l.length * 8 ≤ 140737488351232) (ht : I64 t) (hd : d.length * 1 ≤ 140737488351232) : law05_EpochSends root s a n l t c d = some true := by
  unfold law05_EpochSends
  by_cases k1 : (100 : Int) < (l.length : Int)
  · rw [if_pos k1]; rfl
  rw [if_neg k1]
  by_cases k2 : (1000 : Int) < (d.length : Int)
  · rw [decide_eq_true k2]; rfl
  rw [decide_eq_false k2]
  unfold law05_EpochSends_J1
  obtain ⟨x, x1, x2, x3, x4, x5⟩ := head_eq root s n l (by omega)
  obtain ⟨y, y1, y2, y3, y4, y5⟩ := cont_eq root ha t c d (by omega)
  rw [cond_false, appG_some (by simp; omega), bind_some, List.nil_append, x1, x2, bind_some, bind_some, y1, y2, bind_some, bind_some, samePk _ (by omega) (by omega), bind_some, cond_true, if_pos rfl, samePk _ (by rw [y3]; simp) (by rw [y4]; simp), bind_some, cond_true, decide_eq_true rfl]
  exact sends_end d d y rfl y5
end Go.Sx

end
