/- Sealing with a polynomial, plainly: what a header is; both sides come to it. -/
import Derived.Test.YtkdghilkigojgaaLs
set_option linter.unusedVariables false
set_option linter.unusedSimpArgs false
set_option maxRecDepth 100000
namespace Go.Sx.Po
open Go

theorem pmod_eq {b n p : Nat} (hb : b < 18446744073709551616) (hn : n < 18446744073709551616) (hp : 1 ≤ p) (hp2 : p < 4294967296) : number_PowMod (bn b) (bn n) (bn p) = some (bn (b ^ n % p), 0) := by
  unfold number_PowMod number_modulus
  rw [show (1#64) = bn 1 from rfl, if_pos ((bn_le (by omega) (by omega)).2 hp), bind_some, show (4294967296#64) = bn 4294967296 from rfl, decide_eq_true ((bn_lt (by omega) (by omega)).2 hp2)]
  simp only [Bool.not_true, cond_false]
  rw [power_eq hb hn (by omega) hp2, bind_some]
section
variable {s : TScheme} {d t p q g : Nat}
theorem ppow_eq (h : Vld s d t p q g) {b n : Nat} (hb : b < 18446744073709551616) (hn : n < 18446744073709551616) : poly_power s (bn b) (bn n) = some (bn (b ^ n % p)) := by
  obtain ⟨p1, p2⟩ := h.pb
  unfold poly_power
  rw [h.grp]
  simp only
  rw [pmod_eq hb hn (by omega) (by omega), bind_some]
end
/-- the value of the secret polynomial -/
def fN (root : W2) (q t x : Nat) : Nat := evN (cfs root q t) x % q
/-- the exponent of a header's base -/
def rN (root : W2) (q : Nat) (nonce : BitVec 64) : Nat := 1 + (drv (drv root (un8 41#8) nonce) (un8 3#8) 0#64).1.toNat % (q - 1)
def baseN (root : W2) (p q g : Nat) (nonce : BitVec 64) : Nat := g ^ rN root q nonce % p
def ptN (root : W2) (p q t b x : Nat) : TPoint := ⟨bn x, bn (b ^ fN root q t x % p)⟩
/-- the numbers at which a header has points -/
def xsN (d t : Nat) (ln : List Nat) : List Nat := ln.map (· + 1) ++ (List.range (t - ln.length)).map fun i => 2 ^ d + 1 + i
def hdN (root : W2) (d t p q g : Nat) (ln : List Nat) (session : W2) (nonce : BitVec 64) : THeader :=
  ⟨[], bn (baseN root p q g nonce), (xsN d t ln).map (ptN root p q t (baseN root p q g nonce)), encr (drv k0 (un8 42#8) (bn (baseN root p q g nonce ^ fN root q t 0 % p))) session, drv session (un8 53#8) 0#64⟩
theorem xsN_len {d t : Nat} {ln : List Nat} (h : ln.length ≤ t) : (xsN d t ln).length = t := by simp [xsN]; omega
section
variable {s : TScheme} {d t p q g : Nat}
theorem fN_lt (h : Vld s d t p q g) (root : W2) (x : Nat) : fN root q t x < q := Nat.mod_lt _ (by have := h.qb; omega)
theorem baseN_lt (h : Vld s d t p q g) (root : W2) (nonce : BitVec 64) : baseN root p q g nonce < p := Nat.mod_lt _ (by have := h.pb; omega)
theorem cfs_len (root : W2) : (cfs root q t).length = t + 1 := by simp [cfs]
theorem xs_lt (h : Vld s d t p q g) {ln : List Nat} (hl : ∀ n ∈ ln, n < 2 ^ d) {x : Nat} (hx : x ∈ xsN d t ln) : 1 ≤ x ∧ x < q := by
  have := h.big
  have hpp := Nat.two_pow_pos d
  rcases List.mem_append.1 hx with hx | hx
  · obtain ⟨n, hn, rfl⟩ := List.mem_map.1 hx
    have := hl n hn; omega
  · obtain ⟨n, hn, rfl⟩ := List.mem_map.1 hx
    have := List.mem_range.1 hn; omega
theorem rnum_lt (h : Vld s d t p q g) (root : W2) (nonce : BitVec 64) : 1 ≤ rN root q nonce ∧ rN root q nonce < q := by
  have hb := h.big
  have := Nat.mod_lt (drv (drv root (un8 41#8) nonce) (un8 3#8) 0#64).1.toNat (show 0 < q - 1 by have := Nat.two_pow_pos d; omega)
  unfold rN; omega
theorem nonce_eq (h : Vld s d t p q g) (root : W2) (nonce : BitVec 64) : cipher_Number (drv root (un8 41#8) nonce) 0#64 (bn q - 1#64) = some (bn (rN root q nonce - 1)) ∧ ref02_Number (drv root (un8 41#8) nonce) 0#64 (bn q - 1#64) = some (bn (rN root q nonce - 1)) := by
  obtain ⟨q1, q2⟩ := h.qb
  have hb := h.big
  have := Nat.two_pow_pos d
  have ht := h.t1
  have e : rN root q nonce - 1 = (drv (drv root (un8 41#8) nonce) (un8 3#8) 0#64).1.toNat % (q - 1) := by unfold rN; omega
  rw [show (1#64) = bn 1 from rfl, bn_sub (by omega) (by omega), number_eq _ _ _ (bn_ne0 (by omega) (by omega)), rnumber_eq _ _ _ (bn_ne0 (by omega) (by omega)), mod_bn _ (by omega) (by omega), e]
  exact ⟨rfl, rfl⟩
theorem lift_eq (h : Vld s d t p q g) (root : W2) {b x : Nat} (hb : b < p) (hx : x < q) (it : List TItem) (pts : List TPoint) (k1 k2 : W2) :
    poly_Seal_1 (bn x) s ⟨it, bn b, pts, k1, k2⟩ ((cfs root q t).map bn) (bn q) = some (bn (b ^ fN root q t x % p)) := by
  obtain ⟨q1, q2⟩ := h.qb
  obtain ⟨p1, p2⟩ := h.pb
  have hf := fN_lt h root x
  have ht := h.t8
  unfold poly_Seal_1
  rw [at_eq q1 q2 hx _ (cfs_lt (by omega)) (by rw [cfs_len]; omega), bind_some]
  simp only
  rw [show evN (cfs root q t) x % q = fN root q t x from rfl, ppow_eq h (by omega) (by omega), bind_some]
theorem plist_loop (h : Vld s d t p q g) (root : W2) (l : List Int) (session : W2) (nonce : BitVec 64) (hl : l.length < 4611686018427387904) :
    fixN (poly_Seal_L1 root s l session nonce) FUEL 0 = bif lstB d l then (if s.Degree < (l.length : Int) then some (⟨[], 0#64, [], k0, k0⟩, 4) else Option.bind (poly_secret root s) fun x => poly_Seal_J3 root s l session nonce x) else some (⟨[], 0#64, [], k0, k0⟩, 2) := by
  have h64 := pow_le64 h.d6
  have hpp := Nat.two_pow_pos d
  have := fix_range l.length (poly_Seal_L1 root s l session nonce) (fun j (_ : Unit) => (j : Int)) (fun j nx u => bif decide (0 ≤ l.getD j 0 ∧ l.getD j 0 < ((2 ^ d : Nat) : Int)) && (decide (j = 0) || decide (l.getD (j - 1) 0 < l.getD j 0)) then nx u else some (⟨[], 0#64, [], k0, k0⟩, 2)) (fun _ => if s.Degree < (l.length : Int) then some (⟨[], 0#64, [], k0, k0⟩, 4) else Option.bind (poly_secret root s) fun x => poly_Seal_J3 root s l session nonce x)
    (fun rec j hj _ => by
      simp only [poly_Seal_L1, poly_Seal_J2]
      rw [if_pos (by omega), getI_some hj, bind_some, h.depth, shG_nat, bind_some, shl1 h.d6, getD_some hj, w64_nat (by omega)]
      by_cases h1 : l[j] < 0
      · rw [if_pos h1, decide_eq_false (by omega)]; rfl
      · rw [if_neg h1]
        by_cases h2 : ((2 ^ d : Nat) : Int) ≤ l[j]
        · rw [if_pos h2, decide_eq_false (by omega)]; rfl
        · rw [if_neg h2, decide_eq_true (show 0 ≤ l[j] ∧ l[j] < ((2 ^ d : Nat) : Int) by omega), Bool.true_and]
          by_cases h0 : j = 0
          · rw [if_neg (by omega), decide_eq_true h0]; rfl
          · have hj1 : j - 1 < l.length := by omega
            rw [if_pos (by omega), w64_id (by omega) (by omega), show (j : Int) - 1 = ((j - 1 : Nat) : Int) from by omega, getI_some hj1, bind_some, decide_eq_false h0, Bool.false_or, getD_some hj1]
            by_cases h3 : l[j] ≤ l[j - 1]
            · rw [decide_eq_true h3, decide_eq_false (by omega)]; rfl
            · rw [decide_eq_false h3, decide_eq_true (by omega)]; rfl)
    (fun rec _ => by simp only [poly_Seal_L1]; rw [if_neg (by omega)]) (f := FUEL) (fuel_lt (by omega)) ()
  rw [show ((0 : Nat) : Int) = 0 from rfl] at this
  rw [this, all_itL _ _ _ _ _ (fun a _ nx u => rfl)]; rfl
theorem more_loop (h : Vld s d t p q g) (root : W2) (session : W2) (nonce : BitVec 64) {b : Nat} (hb : b < p) (pts : List TPoint) (hk : pts.length ≤ t) :
    fixN (poly_Seal_L6 s session ((cfs root q t).map bn) (bn b)) FUEL (w64 (((2 ^ d : Nat) : Int) + 1), pts) = some (⟨[], bn b, pts ++ (List.range (t - pts.length)).map (fun i => ptN root p q t b (2 ^ d + 1 + i)), encr (drv k0 (un8 42#8) (bn (b ^ fN root q t 0 % p))) session, drv session (un8 53#8) 0#64⟩, 0) := by
  have h64 := pow_le64 h.d6
  have hpp := Nat.two_pow_pos d
  have ht := h.t8
  have hbig := h.big
  obtain ⟨q1, q2⟩ := h.qb
  refine fix_go _ (fun j st => st = (((2 ^ d + 1 + j : Nat) : Int), pts ++ (List.range j).map (fun i => ptN root p q t b (2 ^ d + 1 + i)))) (t - pts.length) _ (by omega) ?_ ?_ ?_
  · rw [w64_nat (by omega)]; simp
  · rintro j _ hj rfl
    refine ⟨_, rfl, fun rec => ?_⟩
    simp only [poly_Seal_L6]
    rw [if_pos (by rw [h.deg]; simp; omega), h.grp, wd_nat]
    simp only
    rw [lift_eq h root hb (show 2 ^ d + 1 + j < q by omega), bind_some, appG_some (by simp; omega), bind_some, w64_nat (by omega), List.range_succ, List.map_append, ← List.append_assoc]; rfl
  · rintro _ rfl rec
    simp only [poly_Seal_L6]
    rw [if_neg (by rw [h.deg]; simp; omega), h.grp, show (0#64) = bn 0 from rfl]
    simp only
    rw [lift_eq h root hb (show 0 < q by omega), bind_some]; rfl
theorem first_loop (h : Vld s d t p q g) (root : W2) {ln : List Nat} (hl : ∀ n ∈ ln, n < 2 ^ d) (hlen : ln.length ≤ t) (session : W2) (nonce : BitVec 64) {b : Nat} (hb : b < p) :
    fixN (poly_Seal_L5 s (ln.map fun n : Nat => (n : Int)) session ((cfs root q t).map bn) (bn b)) FUEL (0, []) = some (⟨[], bn b, (xsN d t ln).map (ptN root p q t b), encr (drv k0 (un8 42#8) (bn (b ^ fN root q t 0 % p))) session, drv session (un8 53#8) 0#64⟩, 0) := by
  have h64 := pow_le64 h.d6
  have hpp := Nat.two_pow_pos d
  have ht := h.t8
  have hbig := h.big
  obtain ⟨q1, q2⟩ := h.qb
  refine fix_go _ (fun j st => st = ((j : Int), (ln.take j).map fun n => ptN root p q t b (n + 1))) ln.length _ (by omega) (by simp) ?_ ?_
  · rintro j _ hj rfl
    refine ⟨_, rfl, fun rec => ?_⟩
    have hn := hl _ (List.getElem_mem hj)
    simp only [poly_Seal_L5]
    rw [if_pos (by simp; omega), getI_some (by simpa using hj), bind_some, List.getElem_map, w64_nat (by omega), wd_nat, h.grp]
    simp only
    rw [lift_eq h root hb (show ln[j] + 1 < q by omega), bind_some, appG_some (by simp; omega), bind_some, w64_nat (by omega), take_snoc ln j hj, List.map_append]; rfl
  · rintro _ rfl rec
    simp only [poly_Seal_L5]
    rw [if_neg (by simp), h.depth, shG_nat, bind_some, shl1 h.d6, List.take_length, more_loop h root session nonce hb _ (by simpa using hlen)]
    simp only [xsN, List.map_append, List.map_map, List.length_map]; rfl
theorem pseal_eq (h : Vld s d t p q g) (e1 : poly_valid s = some true) (root : W2) {ln : List Nat} (hl : ∀ n ∈ ln, n < 2 ^ d) (ho : ln.Pairwise (· < ·)) (hlen : ln.length ≤ t) (session : W2) (nonce : BitVec 64) :
    poly_Seal root s (ln.map fun n : Nat => (n : Int)) session nonce = some (hdN root d t p q g ln session nonce, 0) := by
  have ht := h.t8
  obtain ⟨r1, r2⟩ := rnum_lt h root nonce
  obtain ⟨p1, p2⟩ := h.pb
  obtain ⟨q1, q2⟩ := h.qb
  have hgp := h.ok.2.2.2.2.1
  unfold poly_Seal
  rw [e1, bind_some]
  simp only [Bool.not_true, cond_false]
  rw [plist_loop h root _ session nonce (by simp; omega), lst_of hl ho, cond_true, if_neg (by rw [h.deg]; simp; omega), secret_eq h, bind_some]
  unfold poly_Seal_J3 poly_Seal_J4
  rw [h.grp]
  simp only
  rw [(nonce_eq h root nonce).1, bind_some, show (1#64) = bn 1 from rfl, bn_add, show 1 + (rN root q nonce - 1) = rN root q nonce from by omega, ppow_eq h (by omega) (by omega), bind_some]
  have := first_loop h root hl hlen session nonce (baseN_lt h root nonce)
  rw [show bn (baseN root p q g nonce) = bn (g ^ rN root q nonce % p) from rfl] at this
  rw [this]; rfl
theorem rseal_eq (h : Vld s d t p q g) (e2 : ref04_Valid s = some true) (root : W2) {ln : List Nat} (hl : ∀ n ∈ ln, n < 2 ^ d) (ho : ln.Pairwise (· < ·)) (hlen : ln.length ≤ t) (session : W2) (nonce : BitVec 64) :
    ref04_Seal root s (ln.map fun n : Nat => (n : Int)) session nonce = some (hdN root d t p q g ln session nonce, 0) := by
  have ht := h.t8
  have h64 := pow_le64 h.d6
  have hpp := Nat.two_pow_pos d
  have hbig := h.big
  obtain ⟨r1, r2⟩ := rnum_lt h root nonce
  obtain ⟨p1, p2⟩ := h.pb
  obtain ⟨q1, q2⟩ := h.qb
  have hgp := h.ok.2.2.2.2.1
  have hxl := xsN_len (d := d) hlen
  have hb := baseN_lt h root nonce
  unfold ref04_Seal
  rw [e2, bind_some]
  simp only [Bool.not_true, cond_false]
  rw [h.depth, rlist_eq h.d6 _ (by simp; omega), lst_of hl ho, bind_some]
  simp only [Bool.not_true, cond_false]
  rw [if_neg (by rw [h.deg]; simp; omega)]
  unfold ref04_SealOf ref04_SealOf_J1
  rw [rsecret_eq h, bind_some, h.grp]
  simp only
  rw [(nonce_eq h root nonce).2, bind_some, show (1#64) = bn 1 from rfl, bn_add, show 1 + (rN root q nonce - 1) = rN root q nonce from by omega, rpower_eq (by omega) (by omega) (by omega) (by omega), bind_some]
  have hrun : fixN (ref04_SealOf_L2 s (ln.map fun n : Nat => (n : Int)) session ((cfs root q t).map bn) (bn (g ^ rN root q nonce % p))) FUEL (0, []) = some (hdN root d t p q g ln session nonce) := by
    rw [show g ^ rN root q nonce % p = baseN root p q g nonce from rfl]
    have hval : ∀ {x : Nat}, x < q → ref04_ValueOf (bn q) ((cfs root q t).map bn) (bn x) = some (bn (fN root q t x)) := fun hx => value_of_eq q1 q2 hx _ (cfs_lt (by omega)) (by rw [cfs_len]; omega)
    have hpow : ∀ x, ref01_Power (bn (baseN root p q g nonce)) (bn (fN root q t x)) (bn p) = some (bn (baseN root p q g nonce ^ fN root q t x % p)) := fun x => rpower_eq (by omega) (by have := fN_lt h root x; omega) (by omega) (by omega)
    refine fix_go _ (fun j st => st = ((j : Int), ((xsN d t ln).take j).map (ptN root p q t (baseN root p q g nonce)))) t _ (by omega) (by simp) ?_ ?_
    · rintro j _ hj rfl
      refine ⟨_, rfl, fun rec => ?_⟩
      have hjx : j < (xsN d t ln).length := by omega
      simp only [ref04_SealOf_L2, ref04_SealOf_J3]
      rw [h.deg, if_pos (by omega), h.depth, recv_eq h.d6, bind_some, h.grp]
      simp only
      have fin : ∀ x, (xsN d t ln)[j] = x → x < q → (Option.bind (ref04_ValueOf (bn q) ((cfs root q t).map bn) (bn x)) fun x15 => Option.bind (ref01_Power (bn (baseN root p q g nonce)) x15 (bn p)) fun x16 => Option.bind (appG 16 (((xsN d t ln).take j).map (ptN root p q t (baseN root p q g nonce))) [⟨bn x, x16⟩]) fun l17 => rec (w64 ((j : Int) + 1), l17)) = rec (((j + 1 : Nat) : Int), ((xsN d t ln).take (j + 1)).map (ptN root p q t (baseN root p q g nonce))) := by
        intro x hx hxq
        rw [hval hxq, bind_some, hpow, bind_some, appG_some (by simp; omega), bind_some, w64_nat (by omega), take_snoc _ j hjx, List.map_append, hx]; rfl
      by_cases hjl : j < ln.length
      · have hn := hl _ (List.getElem_mem hjl)
        rw [if_pos (by simp; omega), getI_some (by simpa using hjl), bind_some, List.getElem_map, wd_nat, show (1#64) = bn 1 from rfl, bn_add]
        exact fin _ (by simp [xsN, List.getElem_append, hjl]) (by omega)
      · rw [if_neg (by simp; omega), w64_nat (by omega), w64_id (n := ((2 ^ d + 1 : Nat) : Int) + (j : Int)) (by omega) (by omega), List.length_map, w64_id (by omega) (by omega), show ((2 ^ d + 1 : Nat) : Int) + (j : Int) - (ln.length : Int) = ((2 ^ d + 1 + (j - ln.length) : Nat) : Int) from by omega, wd_nat]
        exact fin _ (by simp [xsN, List.getElem_append, hjl]) (by omega)
    · rintro _ rfl rec
      simp only [ref04_SealOf_L2]
      rw [h.deg, if_neg (by omega), h.grp, show (0#64) = bn 0 from rfl]
      simp only
      rw [hval (by omega), bind_some, hpow, bind_some, List.take_of_length_le (by omega)]; rfl
  rw [hrun, bind_some]
end
theorem seal_same (root : W2) (s : TScheme) (l : List Int) (hl : l.length < 4611686018427387904) (session : W2) (nonce : BitVec 64) : ∃ r, poly_Seal root s l session nonce = some r ∧ ref04_Seal root s l session nonce = some r ∧ r.1.Items = [] ∧ r.1.Points.length ≤ 8 := by
  rcases valid_eq s with ⟨e1, e2⟩ | ⟨e1, e2, d, t, p, q, g, h⟩
  · refine ⟨(⟨[], 0#64, [], k0, k0⟩, 30), ?_, ?_, rfl, by simp⟩
    · unfold poly_Seal; rw [e1, bind_some]; rfl
    · unfold ref04_Seal; rw [e2, bind_some]; rfl
  · cases hb : lstB d l with
    | false =>
      refine ⟨(⟨[], 0#64, [], k0, k0⟩, 2), ?_, ?_, rfl, by simp⟩
      · unfold poly_Seal; rw [e1, bind_some]; simp only [Bool.not_true, cond_false]; rw [plist_loop h root l session nonce hl, hb]; rfl
      · unfold ref04_Seal; rw [e2, bind_some, h.depth, rlist_eq h.d6 l hl, hb]; rfl
    | true =>
      by_cases hlen : s.Degree < (l.length : Int)
      · refine ⟨(⟨[], 0#64, [], k0, k0⟩, 4), ?_, ?_, rfl, by simp⟩
        · unfold poly_Seal; rw [e1, bind_some]; simp only [Bool.not_true, cond_false]; rw [plist_loop h root l session nonce hl, hb, cond_true, if_pos hlen]
        · unfold ref04_Seal; rw [e2, bind_some, h.depth, rlist_eq h.d6 l hl, hb]; simp only [Bool.not_true, cond_false]; rw [bind_some]; simp only [Bool.not_true, cond_false]; rw [if_pos hlen]
      · obtain ⟨ln, rfl, h1, h2⟩ := lst_nat hb
        rw [h.deg] at hlen
        have h3 : ln.length ≤ t := by simp at hlen; omega
        have ht := h.t8
        exact ⟨_, pseal_eq h e1 root h1 h2 h3 session nonce, rseal_eq h e2 root h1 h2 h3 session nonce, rfl, by simp [hdN, xsN_len h3]; omega⟩
end Go.Sx.Po
