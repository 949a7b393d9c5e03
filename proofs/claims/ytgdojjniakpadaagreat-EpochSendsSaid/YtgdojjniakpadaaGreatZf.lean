/- Several texts in one: Vp Kya TaM Pka Pkb Mc Md Tm Cv Fd Kn Cp Cq Same LawSe By LawOq Fq Ls. -/
import Derived.Test.YtgdojjniakpadaaGreatZe
import Derived.Test.YtgdojjniakpadaaGreatZd
import Derived.Test.YtgdojjniakpadaaGreatZc
set_option linter.unusedVariables false
set_option linter.unusedSimpArgs false
section
set_option linter.unusedVariables false
set_option linter.unusedSimpArgs false
set_option maxRecDepth 100000
namespace Go.Sx.Po
open Go
def GrpOk (p q g : Nat) : Prop := (p ≤ 1048575 ∧ Prm p) ∧ (q ≤ 1048575 ∧ Prm q) ∧ (p - 1) % q = 0 ∧ 2 ≤ g ∧ g < p ∧ g ^ q % p = 1
theorem group_eq {p q g : Nat} (hp : p < 18446744073709551616) (hq : q < 18446744073709551616) (hg : g < 18446744073709551616) :
    ∃ b, number_CheckGroup ⟨bn p, bn q, bn g⟩ = some (if b = true then 0 else 13) ∧ ref01_ValidGroup ⟨bn p, bn q, bn g⟩ = some b ∧ (b = true ↔ GrpOk p q g) := by
  obtain ⟨b1, e1, i1⟩ := prime_eq hp
  obtain ⟨b2, e2, i2⟩ := prime_eq hq
  unfold number_CheckGroup ref01_ValidGroup
  simp only
  rw [e1, bind_some, show (1048575#64) = bn 1048575 from rfl]
  have no : ∀ (h : ¬ GrpOk p q g), (false = true ↔ GrpOk p q g) := fun h => ⟨(fun e => by cases e), fun e => absurd e h⟩
  by_cases hP : p ≤ 1048575 ∧ Prm p
  · have c0 : ¬ bn 1048575 < bn p := fun h => by have := (bn_lt (by omega) hp).1 h; omega
    rw [i1.2 hP, if_neg c0]
    obtain ⟨c1, f1, j1⟩ := isPrime_eq hP.1
    rw [f1, bind_some, j1.2 hP.2]
    simp only [Bool.not_true, cond_false]
    rw [e2, bind_some]
    by_cases hQ : q ≤ 1048575 ∧ Prm q
    · have c0' : ¬ bn 1048575 < bn q := fun h => by have := (bn_lt (by omega) hq).1 h; omega
      rw [i2.2 hQ, if_neg c0']
      obtain ⟨c2, f2, j2⟩ := isPrime_eq hQ.1
      rw [f2, bind_some, j2.2 hQ.2]
      simp only [Bool.not_true, cond_false]
      have hp2 := hP.2.1
      have hq2 := hQ.2.1
      rw [show (1#64) = bn 1 from rfl, bn_sub hp (by omega), remU_bn (by omega) (by omega) hq, bind_some, bind_some]
      have hmod := Nat.mod_lt (p - 1) (show 0 < q by omega)
      unfold number_CheckGroup_J1 ref01_ValidGroup_J1
      simp only
      by_cases hz : (p - 1) % q = 0
      · rw [hz, if_neg (by simp), decide_eq_false (by simp), cond_false, show (2#64) = bn 2 from rfl]
        by_cases h2 : 2 ≤ g
        · have c3 : ¬ bn g < bn 2 := fun h => by have := (bn_lt hg (by omega)).1 h; omega
          have c4 : bn 2 ≤ bn g := (bn_le (by omega) hg).2 h2
          rw [if_neg c3, if_pos c4]
          by_cases h3 : g < p
          · have c5 : ¬ bn p ≤ bn g := fun h => by have := (bn_le hp hg).1 h; omega
            have c6 : bn g < bn p := (bn_lt hg hp).2 h3
            rw [if_neg c5, if_pos c6, power_eq hg hq (by omega) (by omega), rpower_eq hg hq (by omega) (by omega), bind_some, bind_some]
            have hpm := Nat.mod_lt (g ^ q) (show 0 < p by omega)
            have hone : bn (g ^ q % p) = bn 1 ↔ g ^ q % p = 1 := bn_inj (by omega) (by omega)
            refine ⟨decide (bn (g ^ q % p) = bn 1), ?_, rfl, ?_⟩
            · by_cases h4 : bn (g ^ q % p) = bn 1
              · rw [decide_eq_false (by simpa using h4), decide_eq_true h4]; rfl
              · rw [decide_eq_true h4, decide_eq_false h4]; rfl
            · rw [decide_eq_true_eq, hone]
              exact ⟨fun h => ⟨hP, hQ, hz, h2, h3, h⟩, fun h => h.2.2.2.2.2⟩
          · have c5 : bn p ≤ bn g := (bn_le hp hg).2 (by omega)
            have c6 : ¬ bn g < bn p := fun h => h3 ((bn_lt hg hp).1 h)
            rw [if_pos c5, if_neg c6]
            exact ⟨false, rfl, rfl, no fun h => h3 h.2.2.2.2.1⟩
        · have c3 : bn g < bn 2 := (bn_lt hg (by omega)).2 (by omega)
          have c4 : ¬ bn 2 ≤ bn g := fun h => h2 ((bn_le (by omega) hg).1 h)
          rw [if_pos c3, if_neg c4]
          exact ⟨false, rfl, rfl, no fun h => h2 h.2.2.2.1⟩
      · have hz' : bn ((p - 1) % q) ≠ 0#64 := fun h => hz ((bn_inj (b := 0) (by omega) (by omega)).1 h)
        rw [if_pos hz', decide_eq_true hz']
        exact ⟨false, rfl, rfl, no fun h => hz h.2.2.1⟩
    · have hb2 : b2 = false := by cases b2 with | false => rfl | true => exact absurd (i2.1 rfl) hQ
      rw [hb2]
      refine ⟨false, rfl, ?_, no fun h => hQ h.2.1⟩
      by_cases hg' : 1048575 < q
      · have c0' : bn 1048575 < bn q := (bn_lt (by omega) hq).2 hg'
        rw [if_pos c0']; rfl
      · have c0' : ¬ bn 1048575 < bn q := fun h => hg' ((bn_lt (by omega) hq).1 h)
        rw [if_neg c0']
        obtain ⟨c2, f2, j2⟩ := isPrime_eq (n := q) (by omega)
        have : c2 = false := by cases c2 with | false => rfl | true => exact absurd ⟨by omega, j2.1 rfl⟩ hQ
        rw [f2, bind_some, this]; rfl
  · have hb1 : b1 = false := by cases b1 with | false => rfl | true => exact absurd (i1.1 rfl) hP
    rw [hb1]
    refine ⟨false, rfl, ?_, no fun h => hP h.1⟩
    by_cases hg' : 1048575 < p
    · have c0 : bn 1048575 < bn p := (bn_lt (by omega) hp).2 hg'
      rw [if_pos c0]; rfl
    · have c0 : ¬ bn 1048575 < bn p := fun h => hg' ((bn_lt (by omega) hp).1 h)
      rw [if_neg c0]
      obtain ⟨c1, f1, j1⟩ := isPrime_eq (n := p) (by omega)
      have : c1 = false := by cases c1 with | false => rfl | true => exact absurd ⟨by omega, j1.1 rfl⟩ hP
      rw [f1, bind_some, this]; rfl
/-! schemes -/
theorem recv_fin : ∀ d : Fin 7, ref03_Receivers (d.1 : Int) = some ((2 ^ d.1 : Nat) : Int) := by decide +kernel
theorem recv_eq {d : Nat} (h : d ≤ 6) : ref03_Receivers (d : Int) = some ((2 ^ d : Nat) : Int) := recv_fin ⟨d, by omega⟩
theorem shl_fin : ∀ d : Fin 7, shlI 1 d.1 = ((2 ^ d.1 : Nat) : Int) := by decide +kernel
theorem shl1 {d : Nat} (h : d ≤ 6) : shlI 1 d = ((2 ^ d : Nat) : Int) := shl_fin ⟨d, by omega⟩
theorem shG_nat (n : Nat) : shG (n : Int) = some n := by unfold shG; rw [if_pos (by omega)]; rfl
theorem pow_le64 {d : Nat} (h : d ≤ 6) : 2 ^ d ≤ 64 := Nat.le_trans (Nat.pow_le_pow_right (by omega) h) (by decide)
theorem wd_nat (n : Nat) : wd (n : Int) = bn n := by unfold wd bn; exact BitVec.ofInt_natCast 64 n
/-- a valid scheme, in numbers -/
structure Vld (s : TScheme) (d t p q g : Nat) : Prop where
  kind : s.Kind = 4#8
  depth : s.Depth = (d : Int)
  deg : s.Degree = (t : Int)
  d6 : d ≤ 6
  t1 : 1 ≤ t
  t8 : t ≤ 8
  grp : s.Group = ⟨bn p, bn q, bn g⟩
  ok : GrpOk p q g
  big : 2 ^ d + t < q
theorem valid_eq (s : TScheme) : (poly_valid s = some false ∧ ref04_Valid s = some false) ∨ (poly_valid s = some true ∧ ref04_Valid s = some true ∧ ∃ d t p q g, Vld s d t p q g) := by
  obtain ⟨kd, dp, dg, ⟨P, Q, G⟩⟩ := s
  obtain ⟨p, hp, rfl⟩ := bn_of P
  obtain ⟨q, hq, rfl⟩ := bn_of Q
  obtain ⟨g, hg, rfl⟩ := bn_of G
  unfold poly_valid ref04_Valid ref04_Valid_J1
  simp only
  by_cases h1 : kd = 4#8
  · rw [if_pos h1, if_neg (show ¬ kd ≠ 4#8 from fun h => h h1)]
    by_cases h2 : 0 ≤ dp
    · rw [if_pos h2, if_neg (show ¬ dp < 0 by omega)]
      by_cases h3 : dp ≤ 6
      · rw [if_pos h3, if_neg (show ¬ 6 < dp by omega)]
        by_cases h4 : 1 ≤ dg
        · rw [if_pos h4, if_neg (show ¬ dg < 1 by omega)]
          by_cases h5 : dg ≤ 8
          · rw [if_pos h5, if_neg (show ¬ 8 < dg by omega)]
            obtain ⟨b, e1, e2, i⟩ := group_eq hp hq hg
            rw [e1, e2, bind_some, bind_some]
            cases b with
            | false => exact .inl ⟨rfl, rfl⟩
            | true =>
              obtain ⟨d, rfl⟩ : ∃ d : Nat, dp = (d : Int) := ⟨dp.toNat, by omega⟩
              obtain ⟨t, rfl⟩ : ∃ t : Nat, dg = (t : Int) := ⟨dg.toNat, by omega⟩
              have h64 := pow_le64 (d := d) (by omega)
              have hpp := Nat.two_pow_pos d
              simp only [Bool.not_true, cond_false, if_true]
              rw [shG_nat, bind_some, recv_eq (by omega), bind_some, shl1 (by omega), w64_id (by omega) (by omega), show ((2 ^ d : Nat) : Int) + (t : Int) = ((2 ^ d + t : Nat) : Int) from by omega, wd_nat]
              by_cases hlt : 2 ^ d + t < q
              · rw [decide_eq_true ((bn_lt (by omega) hq).2 hlt)]
                exact .inr ⟨rfl, rfl, d, t, p, q, g, ⟨h1, rfl, rfl, by omega, by omega, by omega, rfl, i.1 rfl, hlt⟩⟩
              · rw [decide_eq_false (fun h => hlt ((bn_lt (by omega) hq).1 h))]; exact .inl ⟨rfl, rfl⟩
          · rw [if_neg h5, if_pos (show 8 < dg by omega)]; exact .inl ⟨rfl, rfl⟩
        · rw [if_neg h4, if_pos (show dg < 1 by omega)]; exact .inl ⟨rfl, rfl⟩
      · rw [if_neg h3, if_pos (show 6 < dp by omega)]; exact .inl ⟨rfl, rfl⟩
    · rw [if_neg h2, if_pos (show dp < 0 by omega)]; exact .inl ⟨rfl, rfl⟩
  · rw [if_neg h1, if_pos (show kd ≠ 4#8 from h1)]; exact .inl ⟨rfl, rfl⟩
theorem Vld.qb {s : TScheme} {d t p q g : Nat} (h : Vld s d t p q g) : 2 ≤ q ∧ q ≤ 1048575 := ⟨h.ok.2.1.2.1, h.ok.2.1.1⟩
theorem Vld.pb {s : TScheme} {d t p q g : Nat} (h : Vld s d t p q g) : 2 ≤ p ∧ p ≤ 1048575 := ⟨h.ok.1.2.1, h.ok.1.1⟩
/-! coefficients -/
def cfN (root : W2) (q i : Nat) : Nat := (drv (drv root (un8 40#8) 0#64) (un8 3#8) (bn i)).1.toNat % q
def cfs (root : W2) (q t : Nat) : List Nat := (List.range (t + 1)).map (cfN root q)
theorem cfs_lt {root : W2} {q t : Nat} (hq : 0 < q) : ∀ c ∈ cfs root q t, c < q := by
  intro c hc
  obtain ⟨i, _, rfl⟩ := List.mem_map.1 hc
  exact Nat.mod_lt _ hq
theorem mod_bn (x : BitVec 64) {q : Nat} (hq : 0 < q) (hq2 : q < 18446744073709551616) : x % bn q = bn (x.toNat % q) := by
  apply BitVec.eq_of_toNat_eq
  have := Nat.mod_lt x.toNat hq
  rw [BitVec.toNat_umod, bn_nat hq2, bn_nat (by omega)]
theorem bn_ne0 {q : Nat} (hq : 0 < q) (hq2 : q < 18446744073709551616) : bn q ≠ 0#64 := fun h => by have := (bn_inj (b := 0) hq2 (by omega)).1 h; omega
theorem secret_eq {s : TScheme} {d t p q g : Nat} (h : Vld s d t p q g) (root : W2) : poly_secret root s = some ((cfs root q t).map bn) := by
  obtain ⟨q1, q2⟩ := h.qb
  have ht := h.t8
  unfold poly_secret
  rw [h.deg, w64_id (by omega) (by omega), show (t : Int) + 1 = ((t + 1 : Nat) : Int) from by omega, mkL, if_pos (by omega), bind_some, Int.toNat_natCast]
  refine fix_go _ (fun j x => x = ((List.range (t + 1)).map (fun i => if i < j then bn (cfN root q i) else 0#64), (j : Int))) (t + 1) _ (by omega) ?_ ?_ ?_
  · congr 1
    apply List.ext_getElem
    · simp
    · intro i _ _; simp
  · rintro j _ hj rfl
    refine ⟨_, rfl, fun rec => ?_⟩
    simp only [poly_secret_L1]
    have hjl : j < ((List.range (t + 1)).map (fun i => if i < j then bn (cfN root q i) else 0#64)).length := by simpa using hj
    rw [if_pos (by simp; omega), h.grp, wd_nat]
    simp only
    rw [number_eq _ _ _ (bn_ne0 (by omega) (by omega)), bind_some, getI_some hjl, bind_some, Int.toNat_natCast, w64_nat (by omega), mod_bn _ (by omega) (by omega)]
    congr 2
    apply List.ext_getElem
    · simp
    · intro i h1 h2
      rw [List.getElem_set]
      simp only [List.getElem_map, List.getElem_range]
      by_cases e : j = i
      · subst e; rw [if_pos rfl, if_pos (by omega)]; rfl
      · rw [if_neg e]
        by_cases e2 : i < j
        · rw [if_pos e2, if_pos (by omega)]
        · rw [if_neg e2, if_neg (by omega)]
  · rintro _ rfl rec
    simp only [poly_secret_L1]
    rw [if_neg (by simp)]
    congr 1
    unfold cfs
    rw [List.map_map]
    apply List.map_congr_left
    intro i hi
    rw [if_pos (List.mem_range.1 hi)]; rfl
theorem rsecret_eq {s : TScheme} {d t p q g : Nat} (h : Vld s d t p q g) (root : W2) : ref04_CoefficientsOf root s = some ((cfs root q t).map bn) := by
  obtain ⟨q1, q2⟩ := h.qb
  have ht := h.t8
  unfold ref04_CoefficientsOf
  refine fix_go _ (fun j x => x = ((List.range j).map (fun i => bn (cfN root q i)), (j : Int))) (t + 1) _ (by omega) (by simp) ?_ ?_
  · rintro j _ hj rfl
    refine ⟨_, rfl, fun rec => ?_⟩
    simp only [ref04_CoefficientsOf_L1]
    rw [h.deg, if_pos (by omega), h.grp, wd_nat]
    simp only
    rw [rnumber_eq _ _ _ (bn_ne0 (by omega) (by omega)), bind_some, appG_some (by simp; omega), bind_some, w64_nat (by omega), mod_bn _ (by omega) (by omega), List.range_succ, List.map_append]; rfl
  · rintro _ rfl rec
    simp only [ref04_CoefficientsOf_L1]
    rw [h.deg, if_neg (by omega)]
    unfold cfs
    rw [List.map_map]; rfl
/-! values -/
def evN (l : List Nat) (x : Nat) : Nat := l.foldr (fun c a => c + x * a) 0
theorem evN_snoc (x : Nat) : ∀ (l : List Nat) (c : Nat), evN (l ++ [c]) x = evN l x + c * x ^ l.length
  | [], c => by simp [evN]
  | a :: l, c => by
    have := evN_snoc x l c
    simp only [evN] at this ⊢
    rw [List.cons_append, List.foldr_cons, List.foldr_cons, this, List.length_cons, Nat.pow_succ, Nat.mul_add, Nat.add_assoc]
    congr 2
    rw [Nat.mul_left_comm, Nat.mul_comm x]
theorem mul2_eq {q a b : Nat} (hq : 2 ≤ q) (hq2 : q ≤ 1048575) (ha : a < q) (hb : b < q) : poly_field_mul (bn q) [bn a, bn b] = some (bn (a * b % q)) := by
  unfold poly_field_mul
  have hab : a * b < 18446744073709551616 := Nat.lt_of_le_of_lt (Nat.mul_le_mul (Nat.le_of_lt ha) (Nat.le_of_lt hb)) (by have := Nat.mul_le_mul hq2 hq2; omega)
  rw [show FUEL = 18446744073709551613 + 1 + 1 + 1 from rfl, fix_step]
  simp only [poly_field_mul_L1]
  rw [if_pos (by simp), show getI [bn a, bn b] 0 = some (bn a) from rfl, bind_some, show (1#64) = bn 1 from rfl, bn_mul, Nat.one_mul, remU_bn (by omega) (by omega) (by omega), bind_some, Nat.mod_eq_of_lt ha, show w64 (0 + 1) = 1 from by decide, fix_step]
  simp only [poly_field_mul_L1]
  rw [if_pos (by simp), show getI [bn a, bn b] 1 = some (bn b) from rfl, bind_some, bn_mul, remU_bn hab (by omega) (by omega), bind_some, show w64 (1 + 1) = 2 from by decide, fix_step]
  simp only [poly_field_mul_L1]
  rw [if_neg (by simp)]
theorem back_loop (l : List (BitVec 64)) (hl : l.length < 4611686018427387904) : ∀ (k f : Nat), k ≤ l.length → k < f → fixN (slices_Backward_1_20b1_L1 l) f ((k : Int) - 1) = some ((List.range k).reverse.map fun i : Nat => ((i : Int), l.getD i 0#64))
  | k, 0, _, h => by omega
  | 0, f + 1, _, _ => by
    rw [fix_step]; simp only [slices_Backward_1_20b1_L1]; rw [if_neg (by omega)]; rfl
  | k + 1, f + 1, hk, hf => by
    rw [fix_step]; simp only [slices_Backward_1_20b1_L1]
    rw [show ((k + 1 : Nat) : Int) - 1 = (k : Int) from by omega, if_pos (by omega), getI_some (by omega), bind_some, w64_id (by omega) (by omega), back_loop l hl k f (by omega) (by omega), yl_some', List.range_succ, List.reverse_append, List.map_append]
    have hkk : k < l.length := by omega
    simp [hkk]
theorem at_loop {q x : Nat} (hq : 2 ≤ q) (hq2 : q ≤ 1048575) (hx : x < q) (l : List Nat) (hl : ∀ c ∈ l, c < q) : ∀ (k : Nat), k ≤ l.length → itL (poly_polynomial_at_R1 (bn q) (bn x)) poly_polynomial_at_D1 ((List.range k).reverse.map fun i : Nat => ((i : Int), (l.map bn).getD i 0#64)) (bn (evN (l.drop k) x % q)) = some (bn (evN l x % q))
  | 0, _ => by rw [List.drop_zero]; rfl
  | k + 1, hk => by
    have hkl : k < l.length := by omega
    rw [List.range_succ, List.reverse_append, List.map_append, show ([k].reverse.map fun i : Nat => ((i : Int), (l.map bn).getD i 0#64)) = [((k : Int), bn l[k])] from by simp [List.getD, hkl], List.singleton_append, itL_cons]
    simp only [poly_polynomial_at_R1]
    have hc := hl _ (List.getElem_mem hkl)
    have hm := Nat.mod_lt (evN (l.drop (k + 1)) x) (show 0 < q by omega)
    have hm2 := Nat.mod_lt (evN (l.drop (k + 1)) x % q * x) (show 0 < q by omega)
    rw [mul2_eq hq hq2 hm hx, bind_some, bn_add, remU_bn (by omega) (by omega) (by omega), bind_some]
    have he : (evN (l.drop (k + 1)) x % q * x % q + l[k]) % q = evN (l.drop k) x % q := by
      rw [List.drop_eq_getElem_cons hkl, show evN (l[k] :: l.drop (k + 1)) x = l[k] + x * evN (l.drop (k + 1)) x from rfl, Nat.mod_mul_mod, Nat.mod_add_mod, Nat.add_comm, Nat.mul_comm]
    rw [he]
    exact at_loop hq hq2 hx l hl k (by omega)
theorem at_eq {q x : Nat} (hq : 2 ≤ q) (hq2 : q ≤ 1048575) (hx : x < q) (l : List Nat) (hl : ∀ c ∈ l, c < q) (hlen : l.length < 4611686018427387904) : poly_polynomial_at (l.map bn) (bn q) (bn x) = some (bn (evN l x % q)) := by
  unfold poly_polynomial_at slices_Backward_dc0b slices_Backward_1_20b1
  rw [bind_some, w64_id (by rw [List.length_map]; omega) (by rw [List.length_map]; omega), back_loop _ (by rw [List.length_map]; exact hlen) _ FUEL (Nat.le_refl _) (fuel_lt (by rw [List.length_map]; omega)), bind_some, List.length_map]
  have := at_loop hq hq2 hx l hl l.length (Nat.le_refl _)
  rw [List.drop_length, show evN [] x % q = 0 from by simp [evN]] at this
  exact this
theorem value_of_eq {q x : Nat} (hq : 2 ≤ q) (hq2 : q ≤ 1048575) (hx : x < q) (l : List Nat) (hl : ∀ c ∈ l, c < q) (hlen : l.length < 4611686018427387904) : ref04_ValueOf (bn q) (l.map bn) (bn x) = some (bn (evN l x % q)) := by
  unfold ref04_ValueOf
  refine fix_go _ (fun j s => s = (bn (evN (l.take j) x % q), bn (x ^ j % q), (j : Int))) l.length _ (by omega) ?_ ?_ ?_
  · rw [List.take_zero, Nat.pow_zero, Nat.mod_eq_of_lt (show 1 < q by omega), show evN [] x % q = 0 from by simp [evN]]; rfl
  · rintro j _ hj rfl
    refine ⟨_, rfl, fun rec => ?_⟩
    have hc := hl _ (List.getElem_mem hj)
    have hm := Nat.mod_lt (evN (l.take j) x) (show 0 < q by omega)
    have hm2 := Nat.mod_lt (x ^ j) (show 0 < q by omega)
    have hp1 : l[j] * (x ^ j % q) ≤ 1048575 * 1048575 := Nat.mul_le_mul (by omega) (by omega)
    have hp2 : x ^ j % q * x ≤ 1048575 * 1048575 := Nat.mul_le_mul (by omega) (by omega)
    simp only [ref04_ValueOf_L1]
    rw [if_pos (by simp; omega), getI_some (by simpa using hj), bind_some, List.getElem_map, bn_mul, bn_add, remU_bn (by omega) (by omega) (by omega), bind_some, bn_mul, remU_bn (by omega) (by omega) (by omega), bind_some, w64_nat (by omega), take_snoc l j hj, evN_snoc, List.length_take, Nat.min_eq_left (by omega)]
    congr 2
    · rw [Nat.mod_add_mod, Nat.add_mod, Nat.mul_mod_mod, ← Nat.add_mod]
    · rw [Nat.mod_mul_mod, Nat.pow_succ]
  · rintro _ rfl rec
    simp only [ref04_ValueOf_L1]
    rw [if_neg (by simp), List.take_length]
end Go.Sx.Po

end
section
set_option linter.unusedVariables false
set_option linter.unusedSimpArgs false
set_option maxRecDepth 100000
noncomputable section
namespace Go.Sx.Ep
open Go Go.Sx
theorem ccheck_eq (s : TScheme) : cover_Check s = some (if vldB s then 0 else 30) ∧ ref03_Check s = some (if vldB s then 0 else 30) := by
  unfold cover_Check ref03_Check
  constructor
  · rw [treeOf_eq, bind_some]
    cases hv : vldB s <;> rfl
  · rw [Go.Sx.valid_eq, bind_some]
    cases hv : vldB s <;> rfl
theorem pcheck_eq (s : TScheme) : ∃ r, poly_Check s = some r ∧ ref04_Check s = some r := by
  unfold poly_Check ref04_Check
  rcases Po.valid_eq s with ⟨e1, e2⟩ | ⟨e1, e2, _⟩
  · rw [e1, e2]; exact ⟨_, rfl, rfl⟩
  · rw [e1, e2]; exact ⟨_, rfl, rfl⟩
/-- which kind of scheme -/
theorem kinds (k : BitVec 8) : (k < 1#8 ∨ (5 : Int) ≤ un8 k) ∨ ((un8 k = 1 ∨ un8 k = 2 ∨ un8 k = 3) ∧ 1#8 ≤ k ∧ k ≤ 3#8 ∧ k ≠ 4#8 ∧ ¬ k < 1#8 ∧ ¬ (5 : Int) ≤ un8 k) ∨ (k = 4#8 ∧ un8 k = 4 ∧ ¬ (un8 k = 1 ∨ un8 k = 2 ∨ un8 k = 3)) := by
  unfold un8
  have h4 : k = 4#8 ↔ k.toNat = 4 := ⟨fun h => by rw [h]; rfl, fun h => BitVec.eq_of_toNat_eq h⟩
  rw [BitVec.lt_def, BitVec.le_def, BitVec.le_def, ne_eq, h4]
  have e1 : (1#8).toNat = 1 := rfl
  have e3 : (3#8).toNat = 3 := rfl
  rw [e1, e3]; omega
theorem ks_eq (s : TScheme) : ∃ r, epoch_CheckScheme s = some r ∧ ref05_CheckScheme s = some r ∧ ((s.Kind < 1#8 ∨ (5 : Int) ≤ un8 s.Kind) ∧ r = 2 ∨ ((un8 s.Kind = 1 ∨ un8 s.Kind = 2 ∨ un8 s.Kind = 3) ∧ cover_Check s = some r ∧ s.Kind ≠ 4#8) ∨ (s.Kind = 4#8 ∧ poly_Check s = some r)) := by
  unfold epoch_CheckScheme ref05_CheckScheme
  rcases kinds s.Kind with h | ⟨h1, h2, h3, h4, h5, h6⟩ | ⟨h1, h2, h3⟩
  · refine ⟨2, ?_, ?_, .inl ⟨h, rfl⟩⟩
    · rcases h with h | h
      · rw [if_pos h]; rfl
      · by_cases h0 : s.Kind < 1#8
        · rw [if_pos h0]; rfl
        · rw [if_neg h0, decide_eq_true h]; rfl
    · have hk : ¬ (1#8 ≤ s.Kind ∧ s.Kind ≤ 3#8) ∧ s.Kind ≠ 4#8 := by
        have h4 : s.Kind = 4#8 ↔ s.Kind.toNat = 4 := ⟨fun h => by rw [h]; rfl, fun h => BitVec.eq_of_toNat_eq h⟩
        unfold un8 at h
        rw [BitVec.lt_def] at h
        rw [BitVec.le_def, BitVec.le_def, ne_eq, h4]
        have e1 : (1#8).toNat = 1 := rfl
        have e3 : (3#8).toNat = 3 := rfl
        rw [e1] at h; rw [e1, e3]; omega
      have hj : ref05_CheckScheme_J1 s false = some 2 := by unfold ref05_CheckScheme_J1; rw [cond_false, if_neg hk.2]
      by_cases h1 : 1#8 ≤ s.Kind
      · rw [if_pos h1, decide_eq_false (fun h => hk.1 ⟨h1, h⟩), hj]
      · rw [if_neg h1, hj]
  · rw [if_neg h5, if_pos h2, decide_eq_false h6, decide_eq_true h3]
    unfold epoch_CheckScheme_J1 ref05_CheckScheme_J1
    rw [cond_false, cond_true, if_pos h1, (ccheck_eq s).1, (ccheck_eq s).2]
    exact ⟨_, rfl, rfl, .inr (.inl ⟨h1, rfl, h4⟩)⟩
  · obtain ⟨r, e1, e2⟩ := pcheck_eq s
    have a1 : ¬ s.Kind < 1#8 := by rw [h1]; decide
    have a2 : 1#8 ≤ s.Kind := by rw [h1]; decide
    have a3 : ¬ s.Kind ≤ 3#8 := by rw [h1]; decide
    have a4 : ¬ (5 : Int) ≤ un8 s.Kind := by rw [h1]; decide
    unfold epoch_CheckScheme_J1 ref05_CheckScheme_J1
    rw [if_neg a1, if_pos a2, decide_eq_false a4, decide_eq_false a3, cond_false, cond_false, if_neg h3, if_pos h2, if_pos h1, e1, e2]
    exact ⟨_, rfl, rfl, .inr (.inr ⟨h1, rfl⟩)⟩
theorem goE' {τ R : Type} (F : (τ → Option R) → τ → Option R) (I : Nat → τ → Prop) (n : Nat) (r : Option R) (hn : n < 9223372036854775808) {s : τ} (h0 : I 0 s) (hs : ∀ j s, j < n → I j s → ∃ s', I (j + 1) s' ∧ ∀ rec, F rec s = rec s') (he : ∀ s, I n s → ∀ rec, F rec s = r) : fixN F FUEL s = r :=
  fix_run F I n r hs he n 0 FUEL s (by omega) (fuel_lt hn) h0
end Go.Sx.Ep

end
section
set_option linter.unusedVariables false
set_option maxRecDepth 100000
namespace Go.Sx
open Go Go.RowKit
noncomputable section
end
end Go.Sx

end
section
set_option linter.unusedVariables false
set_option linter.unusedSimpArgs false
set_option maxRecDepth 100000
namespace Go.Sx.Ep
open Go Go.Sx
theorem goE {τ R : Type} (F : (τ → Option R) → τ → Option R) (I : Nat → τ → Prop) (n : Nat) (r : Option R) (hn : n < 9223372036854775808) {s : τ} (h0 : I 0 s) (hs : ∀ j s, j < n → I j s → ∃ s', I (j + 1) s' ∧ ∀ rec, F rec s = rec s') (he : ∀ s, I n s → ∀ rec, F rec s = r) : fixN F FUEL s = r :=
  fix_run F I n r hs he n 0 FUEL s (by omega) (fuel_lt hn) h0
/-! ### numbers aas bytes -/
/-- a number in k bytes -/
def be (x : BitVec 64) : Nat → List (BitVec 8)
  | 0 => []
  | k + 1 => ((x >>> (8 * k)).setWidth 8) :: be x k
theorem be_len (x : BitVec 64) : ∀ k, (be x k).length = k
  | 0 => rfl
  | k + 1 => by simp [be, be_len x k]
theorem put_loop (x : BitVec 64) : ∀ (k fuel : Nat) (out : List (BitVec 8)), k < fuel → k ≤ 1000 → out.length + k ≤ 1000000 → fixN (epoch_writer_put_L1 x) fuel ((k : Int) - 1, out) = some ⟨out ++ be x k⟩
  | k, 0, _, hf, _, _ => by omega
  | 0, fuel + 1, out, _, _, _ => by
    rw [fix_step]; simp only [epoch_writer_put_L1]; rw [if_neg (by omega)]; simp [be]
  | k + 1, fuel + 1, out, hf, hk, hl => by
    rw [fix_step]; simp only [epoch_writer_put_L1]
    have e1 : shG (w64 (8 * (((k + 1 : Nat) : Int) - 1))) = some (8 * k) := by
      rw [w64_id (by omega) (by omega)]; unfold shG; rw [if_pos (by omega)]; congr 1; omega
    rw [if_pos (by omega), e1, bind_some, appG_some (by simp; omega), bind_some, w64_id (by omega) (by omega)]
    have e2 : ((k + 1 : Nat) : Int) - 1 - 1 = (k : Int) - 1 := by omega
    rw [e2, put_loop x k fuel _ (by omega) (by omega) (by simp; omega)]
    simp [be]
theorem put_eq (w : Tepoch_writer) (x : BitVec 64) (k : Nat) {kk : Int} (hkk : kk = (k : Int)) (hk : k ≤ 1000) (hl : w.out.length + k ≤ 1000000) : epoch_writer_put w x kk = some ⟨w.out ++ be x k⟩ := by
  subst hkk; unfold epoch_writer_put
  rw [w64_id (by omega) (by omega)]
  exact put_loop x k FUEL _ (fuel_lt (by omega)) hk hl
theorem num_loop (x : BitVec 64) : ∀ (k fuel : Nat) (out : List (BitVec 8)), k < fuel → k ≤ 1000 → out.length + k ≤ 1000000 → fixN (ref05_number_L1 x) fuel (out, (k : Int) - 1) = some (out ++ be x k)
  | k, 0, _, hf, _, _ => by omega
  | 0, fuel + 1, out, _, _, _ => by
    rw [fix_step]; simp only [ref05_number_L1]; rw [if_neg (by omega)]; simp [be]
  | k + 1, fuel + 1, out, hf, hk, hl => by
    rw [fix_step]; simp only [ref05_number_L1]
    have e1 : shG (un (wd (w64 (8 * (((k + 1 : Nat) : Int) - 1))))) = some (8 * k) := by
      rw [w64_id (by omega) (by omega), un_wd _ (by omega) (by omega)]; unfold shG; rw [if_pos (by omega)]; congr 1; omega
    rw [if_pos (by omega), e1, bind_some, appG_some (by simp; omega), bind_some, w64_id (by omega) (by omega)]
    have e2 : ((k + 1 : Nat) : Int) - 1 - 1 = (k : Int) - 1 := by omega
    rw [e2, num_loop x k fuel _ (by omega) (by omega) (by simp; omega)]
    simp [be]
theorem num_eq (l : List (BitVec 8)) (x : BitVec 64) (k : Nat) {kk : Int} (hkk : kk = (k : Int)) (hk : k ≤ 1000) (hl : l.length + k ≤ 1000000) : ref05_number l x kk = some (l ++ be x k) := by
  subst hkk; unfold ref05_number
  rw [w64_id (by omega) (by omega)]
  exact num_loop x k FUEL _ (fuel_lt (by omega)) hk hl
theorem be1 (x : BitVec 64) : be x 1 = [x.setWidth 8] := by simp [be]
theorem be1_8 (x : BitVec 8) : be (x.setWidth 64) 1 = [x] := by
  rw [be1]; congr 1
  apply BitVec.eq_of_toNat_eq
  rw [BitVec.toNat_setWidth, BitVec.toNat_setWidth]; have := x.isLt; omega
theorem be1_wd (n : Int) : be (wd n) 1 = [wd8 n] := by
  rw [be1]; congr 1
  apply BitVec.eq_of_toNat_eq
  unfold wd wd8
  rw [BitVec.toNat_setWidth, BitVec.toNat_ofInt, BitVec.toNat_ofInt]; omega
/-! ### which packets are valid -/
def OkI (x : TItem) : Prop := (0 ≤ x.Subset.Node ∧ x.Subset.Node ≤ 127) ∧ 0 ≤ x.Subset.Minus ∧ x.Subset.Minus ≤ 127
instance (x : TItem) : Decidable (OkI x) := by unfold OkI; infer_instance
def Blank (h : THeader) : Prop := h.Items = [] ∧ h.Points = [] ∧ h.Base = 0#64 ∧ h.Box = k0 ∧ h.Check = k0
instance (h : THeader) : Decidable (Blank h) := by unfold Blank; infer_instance
def VHead (p : TPacket) : Prop := (0 ≤ p.Epoch ∧ p.Epoch ≤ 1099511627776) ∧ p.Low = 0#8 ∧ p.Number = 0#64 ∧ p.Data = [] ∧ p.Head.Items.length ≤ 64 ∧ p.Head.Points.length ≤ 8 ∧ ∀ x ∈ p.Head.Items, OkI x
instance (p : TPacket) : Decidable (VHead p) := by unfold VHead; infer_instance
def VCont (p : TPacket) : Prop := p.Epoch = 0 ∧ p.Low < 4#8 ∧ p.Data.length ≤ 256 ∧ Blank p.Head
instance (p : TPacket) : Decidable (VCont p) := by unfold VCont; infer_instance
def VP (p : TPacket) : Prop := (p.Kind = 1#8 ∧ VHead p) ∨ (p.Kind = 2#8 ∧ VCont p)
instance (p : TPacket) : Decidable (VP p) := by unfold VP; infer_instance
theorem ixf (l : List TItem) (hl : l.length < 4611686018427387904) : ∀ (m i fuel : Nat), l.length - i = m → i ≤ l.length → m < fuel → ∃ r, fixN (slices_IndexFunc_c205_epoch_CheckPacket_1_L1 l) fuel (i : Int) = some r ∧ (0 ≤ r ↔ ¬ ∀ x ∈ l.drop i, OkI x)
  | m, i, 0, _, _, hf => by omega
  | 0, i, fuel + 1, hm, hi, hf => by
    rw [fix_step]; simp only [slices_IndexFunc_c205_epoch_CheckPacket_1_L1]
    rw [if_neg (by omega), List.drop_eq_nil_of_le (by omega)]
    exact ⟨_, rfl, by simp⟩
  | m + 1, i, fuel + 1, hm, hi, hf => by
    have hil : i < l.length := by omega
    rw [fix_step]; simp only [slices_IndexFunc_c205_epoch_CheckPacket_1_L1]
    have e : epoch_CheckPacket_1 l[i] = some (decide (¬ OkI l[i])) := by
      have h1 : mnI l[i].Subset.Node l[i].Subset.Minus < 0 ↔ (l[i].Subset.Node < 0 ∨ l[i].Subset.Minus < 0) := by unfold mnI; split <;> omega
      have h2 : 127 < mxI l[i].Subset.Node l[i].Subset.Minus ↔ (127 < l[i].Subset.Node ∨ 127 < l[i].Subset.Minus) := by unfold mxI; split <;> omega
      unfold epoch_CheckPacket_1
      by_cases c : mnI l[i].Subset.Node l[i].Subset.Minus < 0
      · rw [if_pos c, decide_eq_true]; rw [h1] at c; unfold OkI; omega
      · rw [if_neg c]; rw [h1] at c; congr 1; apply Bool.eq_iff_iff.2; rw [decide_eq_true_iff, decide_eq_true_iff, h2]; unfold OkI; omega
    have hd : (∀ x ∈ l.drop i, OkI x) ↔ OkI l[i] ∧ ∀ x ∈ l.drop (i + 1), OkI x := by rw [List.drop_eq_getElem_cons hil, List.forall_mem_cons]
    rw [if_pos (by omega), getI_some hil, bind_some, e, bind_some, hd]
    by_cases ho : OkI l[i]
    · rw [decide_eq_false (fun h => h ho), cond_false, w64_nat (by omega)]
      obtain ⟨r, h1, h2⟩ := ixf l hl m (i + 1) fuel (by omega) (by omega) (by omega)
      exact ⟨r, h1, by rw [h2]; exact ⟨fun h h' => h h'.2, fun h h' => h ⟨ho, h'⟩⟩⟩
    · rw [decide_eq_true ho, cond_true]
      exact ⟨_, rfl, ⟨fun _ h => ho h.1, fun _ => by omega⟩⟩
theorem has_eq (l : List TItem) (hl : l.length < 4611686018427387904) : slices_ContainsFunc_9968_epoch_CheckPacket_1 l = some (!decide (∀ x ∈ l, OkI x)) := by
  unfold slices_ContainsFunc_9968_epoch_CheckPacket_1 slices_IndexFunc_c205_epoch_CheckPacket_1
  obtain ⟨r, h1, h2⟩ := ixf l hl _ 0 FUEL rfl (by omega) (fuel_lt (by omega))
  rw [show (0 : Int) = ((0 : Nat) : Int) from rfl, h1, bind_some]
  congr 1
  have h3 : ((0 : Nat) : Int) ≤ r ↔ ¬ ∀ x ∈ l, OkI x := by rw [List.drop_zero] at h2; exact h2
  by_cases h : ∀ x ∈ l, OkI x
  · rw [decide_eq_true h, decide_eq_false (fun h4 => h3.1 h4 h)]; rfl
  · rw [decide_eq_false h, decide_eq_true (h3.2 h)]; rfl
/-! ### what is written -/
def itB (x : TItem) : List (BitVec 8) := [wd8 x.Subset.Node, wd8 x.Subset.Minus] ++ kby x.Box
def ptB (x : TPoint) : List (BitVec 8) := be x.X 8 ++ be x.Y 8
/-- the body of a packet -/
def bdy (p : TPacket) : List (BitVec 8) :=
  [p.Kind] ++ (if p.Kind = 2#8 then [p.Low] ++ (be p.Number 8 ++ (be (wd (p.Data.length : Int)) 2 ++ p.Data))
  else be (wd p.Epoch) 8 ++ ([wd8 (p.Head.Items.length : Int)] ++ (p.Head.Items.flatMap itB ++ (be p.Head.Base 8 ++ ([wd8 (p.Head.Points.length : Int)] ++ (p.Head.Points.flatMap ptB ++ (kby p.Head.Box ++ kby p.Head.Check)))))))
/-- packets that memory holds with ease -/
def Sm (p : TPacket) : Prop := p.Head.Items.length ≤ 1000 ∧ p.Head.Points.length ≤ 1000 ∧ p.Data.length ≤ 100000
theorem itB_len (x : TItem) : (itB x).length = 18 := rfl
theorem ptB_len (x : TPoint) : (ptB x).length = 16 := by simp [ptB, be_len]
theorem flat_len {α : Type} (f : α → List (BitVec 8)) (c : Nat) (hf : ∀ a, (f a).length = c) : ∀ l : List α, (l.flatMap f).length = c * l.length
  | [] => by simp
  | a :: l => by rw [List.flatMap_cons, List.length_append, hf, flat_len f c hf l, List.length_cons, Nat.mul_add, Nat.mul_one, Nat.add_comm]
theorem flat_snoc {α : Type} (f : α → List (BitVec 8)) (l : List α) (j : Nat) (h : j < l.length) : (l.take (j + 1)).flatMap f = (l.take j).flatMap f ++ f l[j] := by rw [take_snoc l j h, List.flatMap_append]; simp
theorem body_eq (p : TPacket) (hs : Sm p) : epoch_body p = some (bdy p) := by
  obtain ⟨s1, s2, s3⟩ := hs
  unfold epoch_body
  rw [put_eq (kk := 1) _ _ 1 rfl (by omega) (by simp), bind_some, be1_8]
  unfold bdy
  by_cases hk : p.Kind = 2#8
  · rw [if_pos hk, if_pos hk, put_eq (kk := 1) _ _ 1 rfl (by omega) (by simp), bind_some, be1_8, put_eq (kk := 8) _ _ 8 rfl (by omega) (by simp), bind_some, put_eq (kk := 2) _ _ 2 rfl (by omega) (by simp [be_len]), bind_some, appG_some (by simp [be_len]; omega), bind_some]
    simp
  · rw [if_neg hk, if_neg hk, put_eq (kk := 8) _ _ 8 rfl (by omega) (by simp), bind_some, put_eq (kk := 1) _ _ 1 rfl (by omega) (by simp [be_len]), bind_some, be1_wd]
    have hI : ∀ j, ((p.Head.Items.take j).flatMap itB).length ≤ 18000 := fun j => by rw [flat_len itB 18 itB_len, List.length_take]; omega
    have hP : ∀ j, ((p.Head.Points.take j).flatMap ptB).length ≤ 16000 := fun j => by rw [flat_len ptB 16 ptB_len, List.length_take]; omega
    refine goE _ (fun j x => x = ((j : Int), (⟨[] ++ [p.Kind] ++ be (wd p.Epoch) 8 ++ [wd8 (p.Head.Items.length : Int)] ++ (p.Head.Items.take j).flatMap itB⟩ : Tepoch_writer))) p.Head.Items.length _ (by omega) (by simp) ?_ ?_
    · rintro j _ hj rfl
      refine ⟨_, rfl, fun rec => ?_⟩
      have := hI j
      simp only [epoch_body_L1]
      rw [if_pos (by omega), getI_some hj, bind_some, put_eq (kk := 1) _ _ 1 rfl (by omega) (by simp only [List.length_append, be_len, List.length_cons, List.length_nil, kby_len]; omega), bind_some, be1_wd, put_eq (kk := 1) _ _ 1 rfl (by omega) (by simp only [List.length_append, be_len, List.length_cons, List.length_nil, kby_len]; omega), bind_some, be1_wd]
      unfold epoch_writer_key
      rw [appG_some (by simp only [List.length_append, be_len, List.length_cons, List.length_nil, kby_len]; omega), bind_some, bind_some, w64_nat (by omega), flat_snoc itB _ _ hj]
      simp only [itB, List.append_assoc, List.singleton_append, List.cons_append, List.nil_append]
    · rintro _ rfl rec
      have := hI p.Head.Items.length
      simp only [epoch_body_L1]
      rw [List.take_length] at this ⊢
      rw [if_neg (by omega), put_eq (kk := 8) _ _ 8 rfl (by omega) (by simp only [List.length_append, be_len, List.length_cons, List.length_nil, kby_len]; omega), bind_some, put_eq (kk := 1) _ _ 1 rfl (by omega) (by simp only [List.length_append, be_len, List.length_cons, List.length_nil, kby_len]; omega), bind_some, be1_wd]
      refine goE _ (fun j x => x = ((j : Int), (⟨[] ++ [p.Kind] ++ be (wd p.Epoch) 8 ++ [wd8 (p.Head.Items.length : Int)] ++ p.Head.Items.flatMap itB ++ be p.Head.Base 8 ++ [wd8 (p.Head.Points.length : Int)] ++ (p.Head.Points.take j).flatMap ptB⟩ : Tepoch_writer))) p.Head.Points.length _ (by omega) (by simp) ?_ ?_
      · rintro j _ hj rfl
        refine ⟨_, rfl, fun rec => ?_⟩
        have h2 := hP j
        simp only [epoch_body_L2]
        rw [if_pos (by omega), getI_some hj, bind_some, put_eq (kk := 8) _ _ 8 rfl (by omega) (by simp only [List.length_append, be_len, List.length_cons, List.length_nil]; omega), bind_some, put_eq (kk := 8) _ _ 8 rfl (by omega) (by simp only [List.length_append, be_len, List.length_cons, List.length_nil]; omega), bind_some, w64_nat (by omega), flat_snoc ptB _ _ hj]
        simp only [ptB, List.append_assoc]
      · rintro _ rfl rec
        have h2 := hP p.Head.Points.length
        simp only [epoch_body_L2]
        unfold epoch_writer_key
        rw [if_neg (by omega), appG_some (by simp only [List.length_append, be_len, List.length_cons, List.length_nil, kby_len]; omega), bind_some, bind_some, appG_some (by simp only [List.length_append, be_len, List.length_cons, List.length_nil, kby_len]; omega), bind_some, bind_some, List.take_length]
        simp only [List.append_assoc, List.nil_append]
theorem rbody_eq (p : TPacket) (hs : Sm p) : ref05_Body p = some (bdy p) := by
  obtain ⟨s1, s2, s3⟩ := hs
  unfold ref05_Body bdy
  by_cases hk : p.Kind = 2#8
  · rw [if_pos hk, if_pos hk, appG_some (by simp), bind_some, num_eq (kk := 8) _ _ 8 rfl (by omega) (by simp), bind_some, num_eq (kk := 2) _ _ 2 rfl (by omega) (by simp [be_len]), bind_some, appG_some (by simp [be_len]; omega), bind_some]
    simp
  · rw [if_neg hk, if_neg hk, num_eq (kk := 8) _ _ 8 rfl (by omega) (by simp), bind_some, appG_some (by simp [be_len]), bind_some]
    have hI : ∀ j, ((p.Head.Items.take j).flatMap itB).length ≤ 18000 := fun j => by rw [flat_len itB 18 itB_len, List.length_take]; omega
    have hP : ∀ j, ((p.Head.Points.take j).flatMap ptB).length ≤ 16000 := fun j => by rw [flat_len ptB 16 ptB_len, List.length_take]; omega
    refine goE _ (fun j x => x = ([p.Kind] ++ be (wd p.Epoch) 8 ++ [wd8 (p.Head.Items.length : Int)] ++ (p.Head.Items.take j).flatMap itB, (j : Int))) p.Head.Items.length _ (by omega) (by simp) ?_ ?_
    · rintro j _ hj rfl
      refine ⟨_, rfl, fun rec => ?_⟩
      have := hI j
      simp only [ref05_Body_L1]
      rw [if_pos (by omega), getI_some hj, bind_some, appG_some (by simp only [List.length_append, be_len, List.length_cons, List.length_nil, kby_len]; omega), bind_some, appG_some (by simp only [List.length_append, be_len, List.length_cons, List.length_nil, kby_len]; omega), bind_some, w64_nat (by omega), flat_snoc itB _ _ hj]
      simp only [itB, List.append_assoc]
    · rintro _ rfl rec
      have := hI p.Head.Items.length
      simp only [ref05_Body_L1]
      rw [if_neg (by omega), num_eq (kk := 8) _ _ 8 rfl (by omega) (by simp only [List.length_append, be_len, List.length_cons, List.length_nil]; omega), bind_some, appG_some (by simp only [List.length_append, be_len, List.length_cons, List.length_nil]; omega), bind_some, List.take_length]
      rw [List.take_length] at this
      refine goE _ (fun j x => x = ([p.Kind] ++ be (wd p.Epoch) 8 ++ [wd8 (p.Head.Items.length : Int)] ++ p.Head.Items.flatMap itB ++ be p.Head.Base 8 ++ [wd8 (p.Head.Points.length : Int)] ++ (p.Head.Points.take j).flatMap ptB, (j : Int))) p.Head.Points.length _ (by omega) (by simp) ?_ ?_
      · rintro j _ hj rfl
        refine ⟨_, rfl, fun rec => ?_⟩
        have h2 := hP j
        simp only [ref05_Body_L2]
        rw [if_pos (by omega), getI_some hj, bind_some, num_eq (kk := 8) _ _ 8 rfl (by omega) (by simp only [List.length_append, be_len, List.length_cons, List.length_nil]; omega), bind_some, bind_some, num_eq (kk := 8) _ _ 8 rfl (by omega) (by simp only [List.length_append, be_len, List.length_cons, List.length_nil]; omega), bind_some, w64_nat (by omega), flat_snoc ptB _ _ hj]
        simp only [ptB, List.append_assoc]
      · rintro _ rfl rec
        have h2 := hP p.Head.Points.length
        simp only [ref05_Body_L2]
        rw [if_neg (by omega), appG_some (by simp only [List.length_append, be_len, List.length_cons, List.length_nil, kby_len]; omega), bind_some, appG_some (by simp only [List.length_append, be_len, List.length_cons, List.length_nil, kby_len]; omega), bind_some, List.take_length]
        simp only [List.append_assoc]
end Go.Sx.Ep

end
section
set_option linter.unusedVariables false
set_option linter.unusedSimpArgs false
set_option maxRecDepth 100000
namespace Go.Sx.Ep
open Go Go.Sx
abbrev By := List (BitVec 8)
/-! ### numbers out of bytes -/
def valB (l : By) : BitVec 64 := l.foldl (fun n c => 256#64 * n + c.setWidth 64) 0#64
theorem shl_or (a : BitVec 64) (c : BitVec 8) : (a <<< 8) ||| (c.setWidth 64) = 256#64 * a + c.setWidth 64 := by
  have e1 : 256#64 * a = a <<< 8 := by
    apply BitVec.eq_of_toNat_eq
    rw [BitVec.toNat_mul, BitVec.toNat_shiftLeft, Nat.shiftLeft_eq, Nat.mul_comm]; rfl
  rw [e1]
  symm
  apply BitVec.add_eq_or_of_and_eq_zero
  apply BitVec.eq_of_getLsbD_eq
  intro j hj
  rw [BitVec.getLsbD_and, BitVec.getLsbD_shiftLeft, BitVec.getLsbD_setWidth, BitVec.getLsbD_zero]
  by_cases h : j < 8
  · simp [h]
  · simp [BitVec.getLsbD_of_ge c j (by omega)]
theorem valB_snoc (l : By) (c : BitVec 8) : valB (l ++ [c]) = 256#64 * valB l + c.setWidth 64 := by simp [valB]
/-! ### a reader: what is left, if there was enough -/
def st : Option By → Tepoch_reader
  | some t => ⟨t, false⟩
  | none => ⟨[], true⟩
def pN (n : Nat) : Option By → By × Option By
  | some t => if n ≤ t.length then (t.take n, some (t.drop n)) else (List.replicate n 0#8, none)
  | none => (List.replicate n 0#8, none)
def pK (o : Option By) : W2 × Option By := (ofB (pN 16 o).1, (pN 16 o).2)
theorem ofB_kby' (p : W2) : ofB (kby p) = p := by have := ofB_kby p []; rwa [List.append_nil] at this
theorem kby_ofB' {l : By} (h : l.length = 16) : kby (ofB l) = l := by rw [kby_ofB (by omega), List.take_of_length_le (by omega)]
/-! ### Decode -/
def zP : TPacket := TPacket.mk 0#8 0 (THeader.mk [] 0#64 [] k0 k0) 0#8 0#64 [] k0
def fin (k : BitVec 8) (ep : Int) (hd : THeader) (lo : BitVec 8) (nu : BitVec 64) (da : By) (o : Option By) : TPacket × Int :=
  if (pK o).2 = some [] ∧ VP ⟨k, ep, hd, lo, nu, da, (pK o).1⟩ then (⟨k, ep, hd, lo, nu, da, (pK o).1⟩, 0) else (zP, 8)
/-! ### what is read is what was written -/
theorem wd_nat (x : BitVec 64) : wd ((x.toNat : Nat) : Int) = x := by
  apply BitVec.eq_of_toNat_eq; unfold wd; rw [BitVec.toNat_ofInt]; have := x.isLt; omega
end Go.Sx.Ep

end
section
set_option linter.unusedVariables false
set_option linter.unusedSimpArgs false
set_option maxRecDepth 100000
namespace Go.Sx.Ep
open Go Go.Sx
section
variable {α : Type}
theorem mix_get {A Z : List α} (h : A.length = Z.length) {j : Nat} (hj : j < A.length) : (Z.take j ++ A.drop j)[j]? = A[j]? := by
  rw [List.getElem?_append_right (by simp; omega), List.length_take, Nat.min_eq_left (by omega), Nat.sub_self, List.getElem?_drop, Nat.add_zero]
theorem mix_set {A Z : List α} (h : A.length = Z.length) {j : Nat} (hj : j < A.length) {z : α} (hz : Z[j]? = some z) : (Z.take j ++ A.drop j).set j z = Z.take (j + 1) ++ A.drop (j + 1) := by
  rw [List.set_append_right _ _ (by simp; omega), List.length_take, Nat.min_eq_left (by omega), Nat.sub_self, List.drop_eq_getElem_cons hj, List.set_cons_zero, List.take_add_one, hz, List.append_assoc]; rfl
theorem mix_len {A Z : List α} (h : A.length = Z.length) {j : Nat} (hj : j ≤ A.length) : (Z.take j ++ A.drop j).length = A.length := by simp; omega
end
/-- bytes of a key, at an index -/
theorem getK {L : List (BitVec 8)} (hL : L.length = 16) {i : Nat} {b : BitVec 8} (h : L[i]? = some b) : getI (kby (ofB L)) (i : Int) = some b := by
  have := (List.getElem?_eq_some_iff.1 h).1
  rw [kby_ofB' hL]; unfold getI; rw [if_pos (by omega), Int.toNat_natCast, h]
theorem setK {L : List (BitVec 8)} (hL : L.length = 16) {i : Nat} (hi : i < 16) (b : BitVec 8) : kset (ofB L) (i : Int) b = some (ofB (L.set i b)) := by
  unfold kset; rw [if_pos (by omega), kby_ofB' hL, Int.toNat_natCast]
/-- two keys, byte by byte -/
def xrL (a b : W2) : By := List.zipWith (· ^^^ ·) (kby a) (kby b)
def xr (a b : W2) : W2 := ofB (xrL a b)
theorem xrL_len (a b : W2) : (xrL a b).length = 16 := by simp [xrL, kby_len]
theorem zip_at {A B : By} (hA : A.length = 16) (hB : B.length = 16) {j : Nat} (hj : j < 16) : ∃ x y, A[j]? = some x ∧ B[j]? = some y ∧ (List.zipWith (· ^^^ ·) A B)[j]? = some (x ^^^ y) := by
  have h1 : j < A.length := by omega
  have h2 : j < B.length := by omega
  exact ⟨A[j], B[j], List.getElem?_eq_getElem h1, List.getElem?_eq_getElem h2, by rw [List.getElem?_zipWith, List.getElem?_eq_getElem h1, List.getElem?_eq_getElem h2]⟩
theorem xrL_at (a b : W2) {j : Nat} (hj : j < 16) : ∃ x y, (kby a)[j]? = some x ∧ (kby b)[j]? = some y ∧ (xrL a b)[j]? = some (x ^^^ y) := zip_at (kby_len a) (kby_len b) hj
theorem xr_self (a : W2) : xr a a = k0 := by
  have : xrL a a = List.replicate 16 0#8 := by
    refine List.ext_getElem? fun j => ?_
    by_cases hj : j < 16
    · obtain ⟨x, y, h1, h2, h3⟩ := xrL_at a a hj
      rw [h1] at h2; cases h2
      rw [h3, List.getElem?_replicate, if_pos hj, BitVec.xor_self]
    · rw [List.getElem?_eq_none (by rw [xrL_len]; omega), List.getElem?_eq_none (by simp; omega)]
  unfold xr; rw [this]; decide +kernel
theorem xor_eq (a b : W2) : cipher_xor a b = some (xr a b) := by
  unfold cipher_xor
  by_cases h : a = b
  · rw [if_pos h, h, xr_self]
  rw [if_neg h]
  have hl : (kby a).length = (xrL a b).length := by rw [xrL_len, kby_len]
  refine goE' _ (fun j s => s = ((j : Int), ofB ((xrL a b).take j ++ (kby a).drop j))) 16 _ (by omega) ?_ ?_ ?_
  · rw [List.take_zero, List.nil_append, List.drop_zero, ofB_kby']; rfl
  · rintro j s hj rfl
    refine ⟨_, rfl, fun rec => ?_⟩
    obtain ⟨x, y, h1, h2, h3⟩ := xrL_at a b hj
    have hm : ((xrL a b).take j ++ (kby a).drop j).length = 16 := (mix_len hl (by rw [kby_len]; omega)).trans (kby_len a)
    have hg := getK hm ((mix_get hl (by rw [kby_len]; omega)).trans h1)
    have hb : getI (kby b) (j : Int) = some y := by unfold getI; rw [if_pos (by omega), Int.toNat_natCast, h2]
    unfold cipher_xor_L1
    simp only
    rw [if_pos (by omega), hg, bind_some, hb, bind_some, bind_some, setK hm hj, bind_some, mix_set hl (by rw [kby_len]; omega) h3, w64_id (by omega) (by omega)]; rfl
  · rintro s rfl rec
    unfold cipher_xor_L1
    simp only
    rw [if_neg (by omega), List.take_of_length_le (by rw [xrL_len]; omega), List.drop_eq_nil_of_le (by rw [kby_len]; omega), List.append_nil]; rfl
/-- a portion of 16 bytes, filled up with zeros -/
def por (b : By) (i : Nat) : W2 := ofB (pad 16 (b.drop (16 * i)))
def mcF (k : W2) (b : By) (n : Nat) : W2 := (List.range n).foldl (fun s i => encr k (xr s (por b i))) (drv k (un8 2#8) (wd (b.length : Int)))
/-- the tag of some bytes -/
def mcN (k : W2) (b : By) : W2 := mcF k b ((b.length + 15) / 16)
theorem mcF_succ (k : W2) (b : By) (n : Nat) : mcF k b (n + 1) = encr k (xr (mcF k b n) (por b n)) := by unfold mcF; rw [List.range_succ, List.foldl_append, List.foldl_cons, List.foldl_nil]
theorem mcF_zero (k : W2) (b : By) : mcF k b 0 = drv k (un8 2#8) (wd (b.length : Int)) := by unfold mcF; rw [List.range_zero, List.foldl_nil]
theorem mac_eq (k : W2) (b : By) (h : b.length ≤ 16384) : cipher_Mac k b = some (mcN k b, 0) := by
  unfold cipher_Mac
  rw [if_neg (by omega)]
  have key : cipher_fold_cipher_Mac_1 (drv k (un8 2#8) (wd (b.length : Int))) b k = some (mcN k b) := by
    unfold cipher_fold_cipher_Mac_1
    refine goE' _ (fun j s => s = (b.drop (16 * j), mcF k b j)) ((b.length + 15) / 16) _ (by omega) (by rw [mcF_zero, Nat.mul_zero, List.drop_zero]) ?_ ?_
    · rintro j s hj rfl
      refine ⟨_, rfl, fun rec => ?_⟩
      unfold cipher_fold_cipher_Mac_1_L1
      simp only
      have hlen : (b.drop (16 * j)).length = b.length - 16 * j := List.length_drop
      rw [if_pos (by omega)]
      have hs : sliG (b.drop (16 * j)) (copyN (kby k0) (b.drop (16 * j))) ((b.drop (16 * j)).length : Int) = some (b.drop (16 * (j + 1))) := by
        have hc : copyN (kby k0) (b.drop (16 * j)) = ((min (b.length - 16 * j) 16 : Nat) : Int) := by unfold copyN; rw [hlen, kby_len]
        unfold sliG
        rw [hc, hlen, if_pos (by omega), Int.toNat_natCast, Int.toNat_natCast, List.take_of_length_le (by omega), List.drop_drop]
        congr 1
        by_cases hx : 16 * (j + 1) ≤ b.length
        · congr 1; omega
        · rw [List.drop_eq_nil_of_le (by omega), List.drop_eq_nil_of_le (by omega)]
      rw [hs, bind_some]
      unfold cipher_Mac_1
      rw [xor_eq, bind_some, bind_some, mcF_succ]
      have hp : copyL (kby k0) (b.drop (16 * j)) = pad 16 (b.drop (16 * j)) := by
        unfold copyL pad
        rw [kby_len, show kby k0 = List.replicate 16 0#8 by decide +kernel, List.drop_replicate]
      rw [hp]; rfl
    · rintro s rfl rec
      unfold cipher_fold_cipher_Mac_1_L1
      simp only
      rw [List.drop_eq_nil_of_le (by omega), if_neg (by simp)]; rfl
  rw [key, bind_some]
/-- a block of two words -/
theorem blk_eq (x y : BitVec 64) : cipher_pair_block ⟨x, y⟩ = some (x, y) := by
  unfold cipher_pair_block
  have hz : (List.replicate 8 0#8).length = (w8 x).length := rfl
  have hz2 : (List.replicate 8 0#8).length = (w8 y).length := rfl
  refine goE' _ (fun j s => s = ((j : Int), ofB (((w8 x).take j ++ (List.replicate 8 0#8).drop j) ++ ((w8 y).take j ++ (List.replicate 8 0#8).drop j)))) 8 _ (by omega) ?_ ?_ ?_
  · show (0, k0) = _
    have : k0 = ofB (((w8 x).take 0 ++ (List.replicate 8 0#8).drop 0) ++ ((w8 y).take 0 ++ (List.replicate 8 0#8).drop 0)) := by
      rw [List.take_zero, List.take_zero]; decide +kernel
    rw [← this]; rfl
  · rintro j s hj rfl
    refine ⟨_, rfl, fun rec => ?_⟩
    have ha := mix_len hz (j := j) (by simp; omega)
    have hb := mix_len hz2 (j := j) (by simp; omega)
    rw [List.length_replicate] at ha hb
    have hm : (((w8 x).take j ++ (List.replicate 8 0#8).drop j) ++ ((w8 y).take j ++ (List.replicate 8 0#8).drop j)).length = 16 := by rw [List.length_append]; omega
    unfold cipher_pair_block_L1
    simp only
    have e1 : w64 (56 - w64 (8 * (j : Int))) = ((56 - 8 * j : Nat) : Int) := by rw [w64_id (n := 8 * (j : Int)) (by omega) (by omega), w64_id (by omega) (by omega)]; omega
    have e2 : w64 (8 + (j : Int)) = ((8 + j : Nat) : Int) := by rw [w64_id (by omega) (by omega)]; omega
    have e3 : ∀ n : Nat, shG ((n : Nat) : Int) = some n := fun n => by unfold shG; rw [if_pos (by omega)]; rfl
    have hx : (w8 x)[j]? = some ((x >>> (56 - 8 * j)).setWidth 8) := by
      rcases (show j = 0 ∨ j = 1 ∨ j = 2 ∨ j = 3 ∨ j = 4 ∨ j = 5 ∨ j = 6 ∨ j = 7 by omega) with rfl | rfl | rfl | rfl | rfl | rfl | rfl | rfl <;> rfl
    have hy : (w8 y)[j]? = some ((y >>> (56 - 8 * j)).setWidth 8) := by
      rcases (show j = 0 ∨ j = 1 ∨ j = 2 ∨ j = 3 ∨ j = 4 ∨ j = 5 ∨ j = 6 ∨ j = 7 by omega) with rfl | rfl | rfl | rfl | rfl | rfl | rfl | rfl <;> rfl
    have hj8 : j < (List.replicate 8 0#8).length := by simp; omega
    have g1 := getK hm (i := j) (by rw [List.getElem?_append_left (by omega), mix_get hz hj8, List.getElem?_replicate, if_pos hj])
    have s1 := setK hm (i := j) (by omega) ((x >>> (56 - 8 * j)).setWidth 8)
    rw [List.set_append_left _ _ (by omega), mix_set hz hj8 hx] at s1
    have ha1 := mix_len hz (j := j + 1) (by simp; omega)
    rw [List.length_replicate] at ha1
    have hm1 : (((w8 x).take (j + 1) ++ (List.replicate 8 0#8).drop (j + 1)) ++ ((w8 y).take j ++ (List.replicate 8 0#8).drop j)).length = 16 := by rw [List.length_append]; omega
    have g2 := getK hm1 (i := 8 + j) (by rw [List.getElem?_append_right (by omega), ha1, Nat.add_sub_cancel_left, mix_get hz2 hj8, List.getElem?_replicate, if_pos hj])
    have s2 := setK hm1 (i := 8 + j) (by omega) ((y >>> (56 - 8 * j)).setWidth 8)
    rw [List.set_append_right _ _ (by omega), ha1, Nat.add_sub_cancel_left, mix_set hz2 hj8 hy] at s2
    rw [if_pos (by omega), e1, e2, e3, bind_some, bind_some, g1, bind_some, s1, bind_some, g2, bind_some, s2, bind_some, w64_id (by omega) (by omega)]; rfl
  · rintro s rfl rec
    unfold cipher_pair_block_L1
    simp only
    rw [if_neg (by omega), List.take_of_length_le (by simp [w8_len]), List.take_of_length_le (by simp [w8_len]), List.drop_eq_nil_of_le (by simp), List.append_nil, List.append_nil]
    rw [show w8 x ++ w8 y = kby (x, y) from rfl, ofB_kby']
/-- the block whose encryption is the mask of a portion -/
def bkW (c : Nat) (n : BitVec 64) : W2 := (((1#8).setWidth 64 <<< 56) ||| wd (c : Int), n)
theorem blockOf_eq (c : Nat) (n : BitVec 64) : cipher_blockOf 1#8 (wd (c : Int)) n = some (bkW c n) := by
  unfold cipher_blockOf
  rw [show shG (un 56#64) = some 56 from by decide, bind_some, blk_eq, bind_some]; rfl
def mskN (k : W2) (n : BitVec 64) (i : Nat) : BitVec 8 := (kby (encr k (bkW (i / 16) n))).getD (i % 16) 0#8
/-- some bytes in a stream -/
def strN (k : W2) (n : BitVec 64) (b : By) : By := (List.range b.length).map fun i => b.getD i 0#8 ^^^ mskN k n i
theorem strN_len (k : W2) (n : BitVec 64) (b : By) : (strN k n b).length = b.length := by simp [strN]
theorem stream_eq (k : W2) (n : BitVec 64) (b : By) (h : b.length ≤ 16384) : cipher_Stream k n b = some (strN k n b, 0) := by
  unfold cipher_Stream
  rw [if_neg (by omega), show mkL 1 (b.length : Int) 0#8 = some (List.replicate b.length 0#8) by unfold mkL; rw [if_pos (by omega)]; simp, bind_some]
  have hz : (List.replicate b.length 0#8).length = (strN k n b).length := by rw [strN_len]; simp
  refine goE' _ (fun j s => s.1 = (strN k n b).take j ++ (List.replicate b.length 0#8).drop j ∧ s.2.1 = (j : Int) ∧ (j % 16 = 0 ∨ s.2.2 = encr k (bkW (j / 16) n))) b.length _ (by omega) ⟨by simp, rfl, .inl rfl⟩ ?_ ?_
  · rintro j ⟨o, i, m⟩ hj ⟨h1, h2, h3⟩
    simp only at h1 h2 h3
    subst h1 h2
    have hj2 : j < (List.replicate b.length 0#8).length := by simpa using hj
    have hS : (strN k n b)[j]? = some (b[j] ^^^ mskN k n j) := by
      unfold strN
      rw [List.getElem?_map, List.getElem?_range hj]; simp [List.getD, hj]
    have hr : remI (j : Int) 16 = some ((j % 16 : Nat) : Int) := by unfold remI; rw [if_neg (by decide), Int.tmod_eq_emod_of_nonneg (by omega)]; rfl
    have hq : quoI (j : Int) 16 = some ((j / 16 : Nat) : Int) := by unfold quoI; rw [if_neg (by decide), Int.tdiv_eq_ediv_of_nonneg (by omega), w64_id (by omega) (by omega)]; rfl
    have hJ : ∀ rec, cipher_Stream_J2 ((strN k n b).take j ++ (List.replicate b.length 0#8).drop j) (j : Int) rec b[j] (encr k (bkW (j / 16) n)) = rec ((strN k n b).take (j + 1) ++ (List.replicate b.length 0#8).drop (j + 1), ((j + 1 : Nat) : Int), encr k (bkW (j / 16) n)) := fun rec => by
      unfold cipher_Stream_J2
      have h16 : j % 16 < (kby (encr k (bkW (j / 16) n))).length := by rw [kby_len]; omega
      have hm : b[j] ^^^ mskN k n j = b[j] ^^^ (kby (encr k (bkW (j / 16) n)))[j % 16] := by unfold mskN; simp [List.getD, h16]
      have hg : getI ((strN k n b).take j ++ (List.replicate b.length 0#8).drop j) (j : Int) = some 0#8 := by
        unfold getI; rw [if_pos (by omega), Int.toNat_natCast, mix_get hz hj2, List.getElem?_replicate, if_pos hj]
      rw [hr, bind_some, getI_some h16, bind_some, hg, bind_some, Int.toNat_natCast, ← hm, mix_set hz hj2 hS, w64_id (by omega) (by omega)]; rfl
    refine ⟨(_, ((j + 1 : Nat) : Int), encr k (bkW (j / 16) n)), ⟨rfl, rfl, ?_⟩, fun rec => ?_⟩
    · by_cases h15 : (j + 1) % 16 = 0
      · exact .inl h15
      · refine .inr ?_
        rw [show (j + 1) / 16 = j / 16 by omega]
    · unfold cipher_Stream_L1
      simp only
      rw [if_pos (by omega), getI_some hj, bind_some, hr, bind_some]
      by_cases h0 : j % 16 = 0
      · rw [if_pos (by omega), hq, bind_some, blockOf_eq, bind_some, hJ]
      · rw [if_neg (by omega), h3.resolve_left h0, hJ]
  · rintro ⟨o, i, m⟩ ⟨h1, h2, h3⟩ rec
    simp only at h1 h2
    subst h1 h2
    unfold cipher_Stream_L1
    simp only
    rw [if_neg (by omega), List.take_of_length_le (by rw [strN_len]; omega), List.drop_eq_nil_of_le (by simp), List.append_nil]
end Go.Sx.Ep

end
section
set_option linter.unusedVariables false
set_option linter.unusedSimpArgs false
set_option maxRecDepth 100000
namespace Go.Sx.Ep
open Go Go.Sx
theorem rxor_eq (a b : W2) : ref02_Xor a b = some (xr a b) := by
  unfold ref02_Xor
  have hl : (kby a).length = (xrL a b).length := by rw [xrL_len, kby_len]
  refine goE' _ (fun j s => s = ((j : Int), ofB ((xrL a b).take j ++ (kby a).drop j))) 16 _ (by omega) ?_ ?_ ?_
  · rw [List.take_zero, List.nil_append, List.drop_zero, ofB_kby']; rfl
  · rintro j s hj rfl
    refine ⟨_, rfl, fun rec => ?_⟩
    obtain ⟨x, y, h1, h2, h3⟩ := xrL_at a b hj
    have hm : ((xrL a b).take j ++ (kby a).drop j).length = 16 := (mix_len hl (by rw [kby_len]; omega)).trans (kby_len a)
    have hg := getK hm ((mix_get hl (by rw [kby_len]; omega)).trans h1)
    have hb : getI (kby b) (j : Int) = some y := by unfold getI; rw [if_pos (by omega), Int.toNat_natCast, h2]
    unfold ref02_Xor_L1
    simp only
    rw [if_pos (by omega), hg, bind_some, hb, bind_some, bind_some, setK hm hj, bind_some, mix_set hl (by rw [kby_len]; omega) h3, w64_id (by omega) (by omega)]; rfl
  · rintro s rfl rec
    unfold ref02_Xor_L1
    simp only
    rw [if_neg (by omega), List.take_of_length_le (by rw [xrL_len]; omega), List.drop_eq_nil_of_le (by rw [kby_len]; omega), List.append_nil]; rfl
theorem zer_k0 : k0 = ofB (List.replicate 16 0#8) := by decide +kernel
theorem rkey_eq (l : By) : ref02_key l = some (ofB (pad 16 l)) := by
  unfold ref02_key
  have hz : (List.replicate 16 0#8).length = (pad 16 l).length := by rw [pad_len]; rfl
  refine goE' _ (fun j s => s = ((j : Int), ofB ((pad 16 l).take j ++ (List.replicate 16 0#8).drop j))) (min 16 l.length) _ (by omega) ?_ ?_ ?_
  · rw [List.take_zero, List.nil_append, List.drop_zero, ← zer_k0]; rfl
  · rintro j s hj rfl
    refine ⟨_, rfl, fun rec => ?_⟩
    have hm : ((pad 16 l).take j ++ (List.replicate 16 0#8).drop j).length = 16 := (mix_len hz (by simp; omega)).trans (by simp)
    have hg := getK hm (i := j) ((mix_get hz (by simp; omega)).trans (by rw [List.getElem?_replicate, if_pos (by omega)]))
    have hp : (pad 16 l)[j]? = some l[j] := by
      unfold pad
      rw [List.getElem?_append_left (by simp; omega), List.getElem?_take_of_lt (by omega), List.getElem?_eq_getElem]
    unfold ref02_key_L1
    simp only
    rw [if_pos (by omega), decide_eq_true (by omega)]
    unfold ref02_key_J2
    rw [cond_true, getI_some (show j < l.length by omega), bind_some, hg, bind_some, setK hm (by omega), bind_some, mix_set hz (by simp; omega) hp, w64_id (by omega) (by omega)]; rfl
  · rintro s rfl rec
    unfold ref02_key_L1
    simp only
    by_cases h : l.length < 16
    · rw [Nat.min_eq_right (by omega), if_pos (by omega), decide_eq_false (by omega)]
      unfold ref02_key_J2
      rw [cond_false]
      congr 2
      unfold pad
      rw [List.take_of_length_le (by omega : l.length ≤ 16), List.take_left' rfl, List.drop_replicate]
    · rw [Nat.min_eq_left (by omega), if_neg (by omega)]
      unfold ref02_key_J2
      rw [cond_false, List.take_of_length_le (by rw [pad_len]; omega), List.drop_eq_nil_of_le (by simp), List.append_nil]
theorem rbytes_eq (x : BitVec 64) (k : Nat) (hk : k ≤ 8) : ref02_Bytes x (k : Int) = some (be x k) := by
  unfold ref02_Bytes
  refine goE' _ (fun j s => s = (x >>> (8 * j), be x j, (j : Int))) k _ (by omega) ?_ ?_ ?_
  · rw [Nat.mul_zero, BitVec.ushiftRight_zero]; rfl
  · rintro j s hj rfl
    refine ⟨_, rfl, fun rec => ?_⟩
    unfold ref02_Bytes_L1
    simp only
    rw [if_pos (by omega), remU256, bind_some, appG_some (by simp [be_len]; omega), bind_some, quo256, bind_some, rem256, w64_id (by omega) (by omega), ← BitVec.shiftRight_add]; rfl
  · rintro s rfl rec
    unfold ref02_Bytes_L1
    simp only
    rw [if_neg (by omega)]
theorem blk_fin : ∀ c : Fin 1025, w8 (((1#8).setWidth 64 <<< 56) ||| wd (c.1 : Int)) = 1#8 :: be (wd (c.1 : Int)) 7 := by decide +kernel
theorem rblk_eq (c : Nat) (hc : c ≤ 1024) (n : BitVec 64) : ref02_Block 1#8 (wd (c : Int)) n = some (bkW c n) := by
  unfold ref02_Block
  have h7 := rbytes_eq (wd (c : Int)) 7 (by omega)
  have h8 := rbytes_eq n 8 (by omega)
  rw [show ((7 : Nat) : Int) = 7 from rfl] at h7
  rw [show ((8 : Nat) : Int) = 8 from rfl] at h8
  rw [h7, bind_some, appG_some (by simp [be_len]), bind_some, h8, bind_some, appG_some (by simp [be_len]), bind_some, rkey_eq, bind_some]
  congr 1
  have hL : [1#8] ++ be (wd (c : Int)) 7 ++ be n 8 = kby (bkW c n) := by
    have h1 := blk_fin ⟨c, by omega⟩
    simp only at h1
    show (1#8 :: be (wd (c : Int)) 7) ++ be n 8 = w8 _ ++ w8 n
    rw [← h1]; rfl
  have hp : pad 16 (kby (bkW c n)) = kby (bkW c n) := by
    unfold pad; rw [kby_len, List.take_of_length_le (by rw [kby_len]; omega)]; simp
  rw [hL, hp, ofB_kby']
theorem portions_eq (b : By) (h : b.length ≤ 1000000) : ref02_portions b = some (((b.length + 15) / 16 : Nat) : Int) := by
  unfold ref02_portions
  rw [w64_id (by omega) (by omega)]
  unfold quoI
  rw [if_neg (by decide), bind_some, Int.tdiv_eq_ediv_of_nonneg (by omega), w64_id (by omega) (by omega)]
  congr 1
theorem portion_eq (b : By) (h : b.length ≤ 1000000) {j : Nat} (hj : 16 * j ≤ b.length) : ref02_portion b (j : Int) = some (por b j) := by
  unfold ref02_portion
  have : sliG b (w64 (16 * (j : Int))) (b.length : Int) = some (b.drop (16 * j)) := by
    rw [w64_id (by omega) (by omega)]
    unfold sliG
    rw [if_pos (by omega), Int.toNat_natCast, List.take_of_length_le (by omega), show (16 * (j : Int)).toNat = 16 * j by omega]
  rw [this, bind_some, rkey_eq, bind_some]; rfl
theorem tag_eq (k : W2) (b : By) (h : b.length ≤ 1000000) : ref02_Tag k b = some (mcN k b) := by
  unfold ref02_Tag
  refine goE' _ (fun j s => s = ((j : Int), mcF k b j)) ((b.length + 15) / 16) _ (by omega) (by rw [mcF_zero]; rfl) ?_ ?_
  · rintro j s hj rfl
    refine ⟨_, rfl, fun rec => ?_⟩
    unfold ref02_Tag_L1
    simp only
    rw [portions_eq b h, bind_some, if_pos (by omega), portion_eq b h (by omega), bind_some, rxor_eq, bind_some, ← mcF_succ, w64_id (by omega) (by omega)]; rfl
  · rintro s rfl rec
    unfold ref02_Tag_L1
    simp only
    rw [portions_eq b h, bind_some, if_neg (by omega)]; rfl
theorem strN_at (k : W2) (n : BitVec 64) (b : By) {i : Nat} (hi : i < b.length) : (strN k n b)[i]? = some (b[i] ^^^ mskN k n i) := by
  unfold strN
  rw [List.getElem?_map, List.getElem?_range hi]; simp [List.getD, hi]
theorem por_at (b : By) {j i : Nat} (hi : i < 16) (h : 16 * j + i < b.length) : (kby (por b j))[i]? = some b[16 * j + i] := by
  unfold por
  rw [kby_ofB' (pad_len 16 _)]
  unfold pad
  rw [List.getElem?_append_left (by simp; omega), List.getElem?_take_of_lt hi, List.getElem?_drop, List.getElem?_eq_getElem]
theorem inner_eq (k : W2) (n : BitVec 64) (b : By) (h : b.length ≤ 16384) {j : Nat} (hj : 16 * j < b.length) (rec1 : List (BitVec 8) × Int → Option (List (BitVec 8) × Int)) :
    ref02_Stream_J2 b ((strN k n b).take (16 * j)) (j : Int) rec1 (xr (por b j) (encr k (bkW j n))) = rec1 ((strN k n b).take (16 * (j + 1)), ((j + 1 : Nat) : Int)) := by
  unfold ref02_Stream_J2
  refine goE' _ (fun i s => s = ((strN k n b).take (16 * j + i), (i : Int))) (min 16 (b.length - 16 * j)) _ (by omega) rfl ?_ ?_
  · rintro i s hi rfl
    refine ⟨_, rfl, fun rec => ?_⟩
    unfold ref02_Stream_L3
    simp only
    rw [if_pos (by omega), decide_eq_true (by rw [w64_id (n := 16 * (j : Int)) (by omega) (by omega), w64_id (by omega) (by omega)]; omega)]
    unfold ref02_Stream_J4
    obtain ⟨x, y, h1, h2, h3⟩ := xrL_at (por b j) (encr k (bkW j n)) (j := i) (by omega)
    rw [por_at b (by omega) (by omega)] at h1
    have hx := Option.some.inj h1
    have hm : mskN k n (16 * j + i) = y := by
      unfold mskN
      rw [show (16 * j + i) / 16 = j by omega, show (16 * j + i) % 16 = i by omega, List.getD_eq_getElem?_getD, h2]; rfl
    have hg : getI (kby (xr (por b j) (encr k (bkW j n)))) (i : Int) = some (b[16 * j + i] ^^^ mskN k n (16 * j + i)) := by
      rw [hx, hm]; exact getK (xrL_len _ _) h3
    rw [cond_true, hg, bind_some, appG_some (by simp; omega), bind_some, w64_id (by omega) (by omega)]
    have ht : (strN k n b).take (16 * j + i) ++ [b[16 * j + i] ^^^ mskN k n (16 * j + i)] = (strN k n b).take (16 * j + (i + 1)) := by
      rw [← Nat.add_assoc, List.take_add_one, strN_at k n b (by omega)]; rfl
    rw [ht]; rfl
  · rintro s rfl rec
    unfold ref02_Stream_L3
    simp only
    have hf : ∀ b' : Bool, b' = false → ref02_Stream_J4 (j : Int) rec1 (xr (por b j) (encr k (bkW j n))) ((strN k n b).take (16 * j + min 16 (b.length - 16 * j))) ((min 16 (b.length - 16 * j) : Nat) : Int) rec b' = rec1 ((strN k n b).take (16 * (j + 1)), ((j + 1 : Nat) : Int)) := by
      rintro b' rfl
      unfold ref02_Stream_J4
      rw [cond_false, w64_id (by omega) (by omega)]
      have ht : (strN k n b).take (16 * j + min 16 (b.length - 16 * j)) = (strN k n b).take (16 * (j + 1)) := by
        by_cases hc : 16 ≤ b.length - 16 * j
        · rw [Nat.min_eq_left hc]; rfl
        · rw [List.take_of_length_le (by rw [strN_len]; omega), List.take_of_length_le (by rw [strN_len]; omega)]
      rw [ht]; rfl
    split
    · exact hf _ (decide_eq_false (by rw [w64_id (n := 16 * (j : Int)) (by omega) (by omega), w64_id (by omega) (by omega)]; omega))
    · exact hf _ rfl
theorem rstream_eq (k : W2) (n : BitVec 64) (b : By) (h : b.length ≤ 16384) : ref05_stream k n b = some (strN k n b) := by
  unfold ref05_stream ref02_Stream
  rw [if_neg (by omega)]
  have key : fixN (ref02_Stream_L1 k n b) FUEL ([], 0) = some (strN k n b, 0) := by
    refine goE' _ (fun j s => s = ((strN k n b).take (16 * j), (j : Int))) ((b.length + 15) / 16) _ (by omega) (by rw [Nat.mul_zero, List.take_zero]; rfl) ?_ ?_
    · rintro j s hj rfl
      refine ⟨_, rfl, fun rec => ?_⟩
      unfold ref02_Stream_L1
      simp only
      rw [portions_eq b (by omega), bind_some, if_pos (by omega), portion_eq b (by omega) (by omega), bind_some, rblk_eq j (by omega), bind_some, rxor_eq, bind_some]
      exact inner_eq k n b h (by omega) rec
    · rintro s rfl rec
      unfold ref02_Stream_L1
      simp only
      rw [portions_eq b (by omega), bind_some, if_neg (by omega), List.take_of_length_le (by rw [strN_len]; omega)]
  rw [key, bind_some]
end Go.Sx.Ep

end
section
set_option linter.unusedVariables false
set_option linter.unusedSimpArgs false
set_option maxRecDepth 100000
namespace Go.Sx
open Go
theorem below_iff {w v : Nat} (hw : 1 ≤ w) : belowB w v = true ↔ ∃ k, 2 ^ k ≤ w ∧ v = w / 2 ^ k := by
  constructor
  · intro h
    unfold belowB at h
    obtain ⟨h1, h2⟩ := of_decide_eq_true h
    exact ⟨_, Nat.le_trans (Nat.pow_le_pow_right (by omega) (by omega)) (Nat.log2_self_le (by omega)), h2.symm⟩
  · rintro ⟨k, h1, rfl⟩
    unfold belowB
    have h2 := log2_divk h1
    have h3 := log2_div w k h1
    apply decide_eq_true
    refine ⟨by omega, ?_⟩
    rw [h2, show Nat.log2 w - (Nat.log2 w - k) = k from by omega]
theorem below_pos {w v : Nat} (hw : 1 ≤ w) (h : belowB w v = true) : 1 ≤ v := by
  obtain ⟨k, h1, rfl⟩ := (below_iff hw).1 h
  exact div_pos' h1
theorem pow_div_le {w i j : Nat} (h : 2 ^ (i + j) ≤ w) : 2 ^ j ≤ w / 2 ^ i := by
  rw [Nat.le_div_iff_mul_le (Nat.two_pow_pos i), ← Nat.pow_add, Nat.add_comm]; exact h
theorem pow_div_le' {w i j : Nat} (h : 2 ^ j ≤ w / 2 ^ i) : 2 ^ (i + j) ≤ w := by
  rw [Nat.le_div_iff_mul_le (Nat.two_pow_pos i), ← Nat.pow_add, Nat.add_comm] at h; exact h
theorem below_log {w v : Nat} (hw : 1 ≤ w) (h : belowB w v = true) : Nat.log2 v ≤ Nat.log2 w := by
  unfold belowB at h
  exact (of_decide_eq_true h).1
/-! siblings -/
theorem sib_fin : ∀ n : Fin 128, (n.1 ^^^ 1) / 2 = n.1 / 2 ∧ n.1 ^^^ 1 ≠ n.1 ∧ n.1 ^^^ 1 < 128 ∧ (2 ≤ n.1 → Nat.log2 (n.1 ^^^ 1) = Nat.log2 n.1 ∧ 2 ≤ n.1 ^^^ 1) ∧ n.1 ^^^ 1 ^^^ 1 = n.1 := by decide +kernel
theorem sib_half {n : Nat} (h : n < 128) : (n ^^^ 1) / 2 = n / 2 := (sib_fin ⟨n, h⟩).1
theorem sib_lt {n : Nat} (h : n < 128) : n ^^^ 1 < 128 := (sib_fin ⟨n, h⟩).2.2.1
theorem sib_log {n : Nat} (h : n < 128) (h2 : 2 ≤ n) : Nat.log2 (n ^^^ 1) = Nat.log2 n := ((sib_fin ⟨n, h⟩).2.2.2.1 h2).1
theorem sib_two_le {n : Nat} (h : n < 128) (h2 : 2 ≤ n) : 2 ≤ n ^^^ 1 := ((sib_fin ⟨n, h⟩).2.2.2.1 h2).2
theorem sib_sib {n : Nat} (h : n < 128) : n ^^^ 1 ^^^ 1 = n := (sib_fin ⟨n, h⟩).2.2.2.2
theorem bit_xor {n : Nat} (h : n < 128) : bitI .xor (n : Int) 1 = ((n ^^^ 1 : Nat) : Int) := by
  have : ∀ n : Fin 128, bitI .xor (n.1 : Int) 1 = ((n.1 ^^^ 1 : Nat) : Int) := by decide +kernel
  exact this ⟨n, h⟩
/-! paths -/
theorem pathN_mem {w k n : Nat} : n ∈ pathN w k ↔ ∃ j, j < k ∧ n = w / 2 ^ j := by
  induction k with
  | zero => simp [pathN]
  | succ k ih =>
    rw [pathN, List.mem_cons, ih]
    constructor
    · rintro (rfl | ⟨j, hj, rfl⟩)
      · exact ⟨k, by omega, rfl⟩
      · exact ⟨j, by omega, rfl⟩
    · rintro ⟨j, hj, rfl⟩
      rcases Nat.lt_or_ge j k with h | h
      · exact .inr ⟨j, h, rfl⟩
      · obtain rfl : j = k := by omega
        exact .inl rfl
/-- what a subset is, plainly -/
def subP (k : BitVec 8) (d n m : Nat) : Bool :=
  decide (1 ≤ n ∧ n < 2 ^ (d + 1)) && (if k = 1#8 then decide (m = 0) else if m = 0 then decide (n = 1) else decide (m < 2 ^ (d + 1) ∧ m ≠ n) && belowB m n && subN k d n m)
theorem leaf_log {d u : Nat} (hu : u < 2 ^ d) : Nat.log2 (2 ^ d + u) = d := by
  rw [Nat.log2_eq_iff (by have := Nat.two_pow_pos d; omega), Nat.pow_succ]; omega
theorem node_log {d n : Nat} (h1 : 1 ≤ n) (h : n < 2 ^ (d + 1)) : Nat.log2 n ≤ d := by
  have := (Nat.log2_lt (n := n) (k := d + 1) (by omega)).2 h; omega
end Go.Sx

end
section
set_option linter.unusedVariables false
set_option linter.unusedSimpArgs false
set_option maxRecDepth 100000
namespace Go.Sx
open Go
/-- whether a revoked receiver is below a node -/
def hotB (d : Nat) (R : List Nat) (v : Nat) : Bool := R.any fun u => belowB (2 ^ d + u) v
theorem hot_iff {d : Nat} {R : List Nat} {v : Nat} : hotB d R v = true ↔ ∃ u ∈ R, belowB (2 ^ d + u) v = true := by unfold hotB; rw [List.any_eq_true]
theorem dbl_fin : ∀ n : Fin 64, (2 * n.1) ^^^ 1 = 2 * n.1 + 1 ∧ (2 * n.1 + 1) ^^^ 1 = 2 * n.1 := by decide +kernel
theorem dbl0 {n : Nat} (h : n < 64) : (2 * n) ^^^ 1 = 2 * n + 1 := (dbl_fin ⟨n, h⟩).1
theorem dbl1 {n : Nat} (h : n < 64) : (2 * n + 1) ^^^ 1 = 2 * n := (dbl_fin ⟨n, h⟩).2
theorem div_succ (a b : Nat) : a / 2 ^ (b + 1) = a / 2 ^ b / 2 := by rw [Nat.pow_succ, Nat.div_div_eq_div_mul]
theorem below_kids {L v : Nat} (hL : 1 ≤ L) (hlt : Nat.log2 v < Nat.log2 L) (hv : 1 ≤ v) : belowB L v = (belowB L (2 * v) || belowB L (2 * v + 1)) := by
  rw [Bool.eq_iff_iff, Bool.or_eq_true, below_iff hL, below_iff hL, below_iff hL]
  constructor
  · rintro ⟨k, h1, h2⟩
    have hl := log2_div L k h1
    rw [← h2] at hl
    obtain ⟨j, rfl⟩ : ∃ j, k = j + 1 := ⟨k - 1, by omega⟩
    have h3 : 2 ^ j ≤ L := Nat.le_trans (Nat.pow_le_pow_right (by omega) (by omega)) h1
    rw [div_succ] at h2
    rcases (show L / 2 ^ j = 2 * v ∨ L / 2 ^ j = 2 * v + 1 by omega) with e | e
    · exact .inl ⟨j, h3, e.symm⟩
    · exact .inr ⟨j, h3, e.symm⟩
  · rintro (⟨j, h1, h2⟩ | ⟨j, h1, h2⟩)
    · exact ⟨j + 1, pow_div_le' (j := 1) (by rw [← h2]; omega), by rw [div_succ, ← h2]; omega⟩
    · exact ⟨j + 1, pow_div_le' (j := 1) (by rw [← h2]; omega), by rw [div_succ, ← h2]; omega⟩
theorem log2_dbl {v b : Nat} (hv : 1 ≤ v) (hb : b < 2) : Nat.log2 (2 * v + b) = Nat.log2 v + 1 := by
  rw [log2_half (by omega), show (2 * v + b) / 2 = v from by omega]
section
variable {d : Nat} {R : List Nat}
/-- receivers -/
def Rcv (d : Nat) (R : List Nat) : Prop := d ≤ 6 ∧ ∀ u ∈ R, u < 2 ^ d
theorem Rcv.leaf (h : Rcv d R) {u : Nat} (hu : u ∈ R) : 1 ≤ 2 ^ d + u ∧ 2 ^ d + u < 128 ∧ Nat.log2 (2 ^ d + u) = d := by
  have := pow_le64 h.1
  have := h.2 u hu
  have := Nat.two_pow_pos d
  exact ⟨by omega, by omega, leaf_log (h.2 u hu)⟩
theorem node_lt {v : Nat} (hv : 1 ≤ v) : v < 2 ^ d ↔ Nat.log2 v < d := by rw [Nat.log2_lt (by omega)]
/-- an inner node is hot just if a child is -/
theorem hot_kids (h : Rcv d R) {v : Nat} (hv : 1 ≤ v) (hl : Nat.log2 v < d) : hotB d R v = (hotB d R (2 * v) || hotB d R (2 * v + 1)) := by
  rw [Bool.eq_iff_iff, Bool.or_eq_true, hot_iff, hot_iff, hot_iff]
  constructor
  · rintro ⟨u, hu, hb⟩
    obtain ⟨h1, h2, h3⟩ := h.leaf hu
    rw [below_kids h1 (by omega) hv, Bool.or_eq_true] at hb
    rcases hb with hb | hb
    · exact .inl ⟨u, hu, hb⟩
    · exact .inr ⟨u, hu, hb⟩
  · rintro (⟨u, hu, hb⟩ | ⟨u, hu, hb⟩) <;>
    · obtain ⟨h1, h2, h3⟩ := h.leaf hu
      refine ⟨u, hu, ?_⟩
      rw [below_kids h1 (by omega) hv, hb]; simp
theorem hot_log (h : Rcv d R) {v : Nat} (hv : hotB d R v = true) : 1 ≤ v ∧ Nat.log2 v ≤ d ∧ v < 2 ^ (d + 1) := by
  obtain ⟨u, hu, hb⟩ := hot_iff.1 hv
  obtain ⟨h1, h2, h3⟩ := h.leaf hu
  have hp := below_pos h1 hb
  have hl := below_log h1 hb
  rw [h3] at hl
  exact ⟨hp, hl, (Nat.log2_lt (by omega)).1 (by omega)⟩
theorem hot_up (h : Rcv d R) {v : Nat} (hv : hotB d R v = true) (h2 : 2 ≤ v) : hotB d R (v / 2) = true := by
  obtain ⟨h1, hl, _⟩ := hot_log h hv
  have hh := log2_half h2
  rw [hot_kids h (by omega) (by omega)]
  rcases (show 2 * (v / 2) = v ∨ 2 * (v / 2) + 1 = v by omega) with e | e
  · rw [e, hv]; simp
  · rw [e, hv]; simp
theorem hot_ups (h : Rcv d R) {v : Nat} (hv : hotB d R v = true) : ∀ k, 2 ^ k ≤ v → hotB d R (v / 2 ^ k) = true
  | 0, _ => by simpa using hv
  | k + 1, hk => by
    rw [div_succ]
    have h1 : 2 ^ k ≤ v := Nat.le_trans (Nat.pow_le_pow_right (by omega) (by omega)) hk
    refine hot_up h (hot_ups h hv k h1) ?_
    have := pow_div_le (i := k) (j := 1) hk
    simpa using this
/-- exactly one child is hot -/
def brN (d : Nat) (R : List Nat) (v : Nat) : Bool := hotB d R (2 * v) != hotB d R (2 * v + 1)
def nxN (d : Nat) (R : List Nat) (v : Nat) : Nat := if hotB d R (2 * v) then 2 * v else 2 * v + 1
def footN (d : Nat) (R : List Nat) : Nat → Nat → Nat
  | 0, v => v
  | f + 1, v => if brN d R v then footN d R f (nxN d R v) else v
theorem br_inner (h : Rcv d R) {v : Nat} (hv : 1 ≤ v) (hb : brN d R v = true) : Nat.log2 v < d ∧ hotB d R v = true := by
  unfold brN at hb
  have hx : hotB d R (2 * v) = true ∨ hotB d R (2 * v + 1) = true := by
    cases h1 : hotB d R (2 * v) <;> cases h2 : hotB d R (2 * v + 1) <;> simp_all
  have hl : Nat.log2 v < d := by
    rcases hx with hx | hx
    · have := (hot_log h hx).2.1; have := log2_dbl hv (b := 0) (by omega); simp at this; omega
    · have := (hot_log h hx).2.1; have := log2_dbl hv (b := 1) (by omega); omega
  refine ⟨hl, ?_⟩
  rw [hot_kids h hv hl]
  rcases hx with hx | hx <;> simp [hx]
/-- the nodes from below v down to w are hot, and their siblings are not -/
def Chn (d : Nat) (R : List Nat) (v w : Nat) : Prop := ∃ k, 2 ^ k ≤ w ∧ v = w / 2 ^ k ∧ ∀ j, j < k → hotB d R (w / 2 ^ j) = true ∧ hotB d R ((w / 2 ^ j) ^^^ 1) = false
theorem foot_spec (h : Rcv d R) : ∀ (f v : Nat), 1 ≤ v → Nat.log2 v ≤ d → d - Nat.log2 v < f → 1 ≤ footN d R f v ∧ Nat.log2 (footN d R f v) ≤ d ∧ brN d R (footN d R f v) = false ∧ Chn d R v (footN d R f v)
  | 0, v, _, _, hf => by omega
  | f + 1, v, hv, hl, hf => by
    unfold footN
    cases hb : brN d R v with
    | false => exact ⟨by simpa using hv, by simpa using hl, by simpa using hb, ⟨0, by simpa using hv, by simp, fun j hj => by omega⟩⟩
    | true =>
      rw [if_pos rfl]
      obtain ⟨hl2, _⟩ := br_inner h hv hb
      have h64 := pow_le64 h.1
      have hv64 : v < 64 := by have := (node_lt (d := d) hv).2 hl2; omega
      have hc : (nxN d R v) / 2 = v ∧ 2 ≤ nxN d R v ∧ Nat.log2 (nxN d R v) = Nat.log2 v + 1 ∧ hotB d R (nxN d R v) = true ∧ hotB d R (nxN d R v ^^^ 1) = false := by
        unfold nxN
        unfold brN at hb
        cases h1 : hotB d R (2 * v) with
        | true =>
          rw [h1] at hb
          rw [if_pos rfl]
          refine ⟨by omega, by omega, log2_dbl hv (b := 0) (by omega), h1, ?_⟩
          rw [dbl0 hv64]; simpa using hb
        | false =>
          rw [h1] at hb
          rw [if_neg (by simp)]
          refine ⟨by omega, by omega, log2_dbl hv (b := 1) (by omega), by simpa using hb, ?_⟩
          rw [dbl1 hv64]; exact h1
      obtain ⟨c1, c2, c3, c4, c5⟩ := hc
      obtain ⟨g1, g2, g3, k, g4, g5, g6⟩ := foot_spec h f (nxN d R v) (by omega) (by omega) (by omega)
      refine ⟨g1, g2, g3, k + 1, ?_, ?_, ?_⟩
      · exact pow_div_le' (j := 1) (by rw [← g5]; omega)
      · rw [div_succ, ← g5]; exact c1.symm
      · intro j hj
        rcases Nat.lt_or_ge j k with hjk | hjk
        · exact g6 j hjk
        · obtain rfl : j = k := by omega
          rw [← g5]; exact ⟨c4, c5⟩
/-- the head of a node: from it on upwards, the first with a hot sibling, or the root -/
def hdN (d : Nat) (R : List Nat) : Nat → Nat → Nat
  | 0, x => x
  | f + 1, x => if x = 1 ∨ hotB d R (x ^^^ 1) = true then x else hdN d R f (x / 2)
def isHd (d : Nat) (R : List Nat) (v : Nat) : Bool := decide (v = 1) || hotB d R (v ^^^ 1)
theorem hd_self {f x : Nat} (h : isHd d R x = true) : hdN d R f x = x := by
  cases f with
  | zero => rfl
  | succ f =>
    unfold hdN
    unfold isHd at h
    rw [Bool.or_eq_true, decide_eq_true_eq] at h
    rw [if_pos h]
theorem hd_chain {v w : Nat} (hv : isHd d R v = true) (hv1 : 1 ≤ v) : ∀ (j k f : Nat), 2 ^ (j + k) ≤ w → v = w / 2 ^ (j + k) → (∀ i, j ≤ i → i < j + k → hotB d R ((w / 2 ^ i) ^^^ 1) = false) → k ≤ f → hdN d R f (w / 2 ^ j) = v
  | j, 0, f, h1, h2, _, _ => by rw [Nat.add_zero] at h2; rw [← h2]; exact hd_self hv
  | j, k + 1, 0, h1, h2, h3, hf => by omega
  | j, k + 1, f + 1, h1, h2, h3, hf => by
    unfold hdN
    have h4 := h3 j (by omega) (by omega)
    have h5 : w / 2 ^ j ≠ 1 := by
      have := pow_div_le (w := w) (i := j) (j := 1) (Nat.le_trans (Nat.pow_le_pow_right (by omega) (by omega)) h1)
      simp at this; omega
    rw [if_neg (by rw [h4]; simp [h5]), ← div_succ]
    exact hd_chain hv hv1 (j + 1) k f (by rw [show j + 1 + k = j + (k + 1) from by omega]; exact h1) (by rw [show j + 1 + k = j + (k + 1) from by omega]; exact h2) (fun i h6 h7 => h3 i (by omega) (by omega)) (by omega)
theorem hd_spec : ∀ (f x : Nat), 1 ≤ x → Nat.log2 x < f → isHd d R (hdN d R f x) = true ∧ ∃ i, 2 ^ i ≤ x ∧ hdN d R f x = x / 2 ^ i ∧ ∀ t, t < i → isHd d R (x / 2 ^ t) = false
  | 0, x, _, h => by omega
  | f + 1, x, hx, hf => by
    unfold hdN
    by_cases hc : x = 1 ∨ hotB d R (x ^^^ 1) = true
    · rw [if_pos hc]; exact ⟨by unfold isHd; simpa using hc, 0, by simpa using hx, by simp, fun t ht => by omega⟩
    · rw [if_neg hc]
      have hx2 : 2 ≤ x := by rw [not_or] at hc; omega
      have hh := log2_half hx2
      obtain ⟨h1, i, h2, h3, h4⟩ := hd_spec f (x / 2) (by omega) (by omega)
      refine ⟨h1, i + 1, ?_, ?_, ?_⟩
      · rw [Nat.pow_succ]; omega
      · rw [h3, Nat.div_div_eq_div_mul, Nat.pow_succ, Nat.mul_comm 2]
      · intro t ht
        cases t with
        | zero => simp only [Nat.pow_zero, Nat.div_one]; unfold isHd; simpa [not_or] using hc
        | succ t =>
          have := h4 t (by omega)
          rw [Nat.div_div_eq_div_mul, show 2 * 2 ^ t = 2 ^ (t + 1) from by rw [Nat.pow_succ, Nat.mul_comm]] at this; exact this
/-- the first special node strictly between -/
def cutN (d v w : Nat) : Nat := fstS d (pathN (w / 2) (Nat.log2 w - Nat.log2 v - 1))
/-- Minus of the cover's subset with a Node, if there is one -/
def minN (k : BitVec 8) (d : Nat) (R : List Nat) (x : Nat) : Option Nat :=
  if k = 1#8 then (if !hotB d R x && (decide (x = 1) || hotB d R (x / 2)) then some 0 else none)
  else if hotB d R x then
    (if footN d R 7 (hdN d R 7 x) = hdN d R 7 x then none
    else if x = hdN d R 7 x then some (if subN k d (hdN d R 7 x) (footN d R 7 (hdN d R 7 x)) then footN d R 7 (hdN d R 7 x) else cutN d (hdN d R 7 x) (footN d R 7 (hdN d R 7 x)))
    else if !subN k d (hdN d R 7 x) (footN d R 7 (hdN d R 7 x)) && decide (x = cutN d (hdN d R 7 x) (footN d R 7 (hdN d R 7 x))) then some (footN d R 7 (hdN d R 7 x)) else none)
  else none
def nodN (d : Nat) : List Nat := (List.range (2 ^ (d + 1) - 1)).map (· + 1)
/-- the cover -/
def covN (k : BitVec 8) (d : Nat) (R : List Nat) : List (Nat × Nat) := (nodN d).filterMap fun x => (minN k d R x).map fun m => (x, m)
theorem nod_mem {x : Nat} : x ∈ nodN d ↔ 1 ≤ x ∧ x < 2 ^ (d + 1) := by
  unfold nodN
  rw [List.mem_map]
  constructor
  · rintro ⟨a, ha, rfl⟩; have := List.mem_range.1 ha; omega
  · rintro ⟨h1, h2⟩; exact ⟨x - 1, List.mem_range.2 (by omega), by omega⟩
theorem cov_mem {k : BitVec 8} {y : Nat × Nat} : y ∈ covN k d R ↔ (1 ≤ y.1 ∧ y.1 < 2 ^ (d + 1)) ∧ minN k d R y.1 = some y.2 := by
  unfold covN
  rw [List.mem_filterMap]
  constructor
  · rintro ⟨x, hx, he⟩
    obtain ⟨m, hm, rfl⟩ := Option.map_eq_some_iff.1 he
    exact ⟨nod_mem.1 hx, hm⟩
  · rintro ⟨h1, h2⟩; exact ⟨y.1, nod_mem.2 h1, by rw [h2]; rfl⟩
/-- strictly ascending -/
def Asc (l : List (Nat × Nat)) : Prop := l.Pairwise fun a b => a.1 < b.1
theorem cov_asc {k : BitVec 8} : Asc (covN k d R) := by
  unfold Asc covN
  rw [List.pairwise_filterMap]
  have : (nodN d).Pairwise fun a b => a < b := by
    unfold nodN
    rw [List.pairwise_map]
    exact List.pairwise_lt_range.imp (by omega)
  refine this.imp ?_
  intro a b hab y hy z hz
  obtain ⟨_, _, rfl⟩ := Option.map_eq_some_iff.1 hy
  obtain ⟨_, _, rfl⟩ := Option.map_eq_some_iff.1 hz
  exact hab
theorem asc_ext : ∀ {l m : List (Nat × Nat)}, Asc l → Asc m → (∀ y, y ∈ l ↔ y ∈ m) → l = m
  | [], [], _, _, _ => rfl
  | [], b :: m, _, _, h => absurd ((h b).2 (by simp)) (by simp)
  | a :: l, [], _, _, h => absurd ((h a).1 (by simp)) (by simp)
  | a :: l, b :: m, hl, hm, h => by
    have ha := List.pairwise_cons.1 hl
    have hb := List.pairwise_cons.1 hm
    have hab : a = b := by
      rcases List.mem_cons.1 ((h a).1 (by simp)) with e | e
      · exact e
      · rcases List.mem_cons.1 ((h b).2 (by simp)) with e2 | e2
        · exact e2.symm
        · have := ha.1 b e2; have := hb.1 a e; omega
    subst hab
    congr 1
    refine asc_ext ha.2 hb.2 fun y => ?_
    constructor
    · intro hy
      rcases List.mem_cons.1 ((h y).1 (by simp [hy])) with e | e
      · subst e; have := ha.1 y hy; omega
      · exact e
    · intro hy
      rcases List.mem_cons.1 ((h y).2 (by simp [hy])) with e | e
      · subst e; have := hb.1 y hy; omega
      · exact e
/-- what comes of a hot node: the program's way -/
def outP (k : BitVec 8) (d : Nat) (R : List Nat) (v : Nat) : List (Nat × Nat) :=
  if k = 1#8 then (if v ≠ 1 ∧ hotB d R (v ^^^ 1) = false then [(v ^^^ 1, 0)] else [])
  else if isHd d R v then (if footN d R 7 v = v then [] else if subN k d v (footN d R 7 v) then [(v, footN d R 7 v)] else [(v, cutN d v (footN d R 7 v)), (cutN d v (footN d R 7 v), footN d R 7 v)])
  else []
/-- from which hot node a subset of the cover comes -/
def ownN (k : BitVec 8) (d : Nat) (R : List Nat) (y : Nat × Nat) : Nat := if k = 1#8 then y.1 ^^^ 1 else hdN d R 7 y.1
theorem cut_chain {k : BitVec 8} {v w : Nat} (hK : 2 ^ k.toNat ≤ w ∨ True) {K : Nat} (h1 : 2 ^ K ≤ w) (h2 : v = w / 2 ^ K) (hv : 1 ≤ v) (hs : subN k d v w = false) : ∃ j, 1 ≤ j ∧ j < K ∧ cutN d v w = w / 2 ^ j := by
  have hl := log2_div w K h1
  rw [← h2] at hl
  unfold subN at hs
  simp only [Bool.or_eq_false_iff, decide_eq_false_iff_not] at hs
  have h0 : cutN d v w ≠ 0 := hs.2
  unfold cutN at h0 ⊢
  unfold fstS at h0 ⊢
  cases hf : (pathN (w / 2) (Nat.log2 w - Nat.log2 v - 1)).find? (spcl d) with
  | none => rw [hf] at h0; simp at h0
  | some c =>
    obtain ⟨j, hj, rfl⟩ := pathN_mem.1 (List.mem_of_find?_eq_some hf)
    refine ⟨j + 1, by omega, by omega, ?_⟩
    rw [Option.getD_some, Nat.div_div_eq_div_mul, show 2 * 2 ^ j = 2 ^ (j + 1) from by rw [Nat.pow_succ, Nat.mul_comm]]
theorem cov_own (h : Rcv d R) {k : BitVec 8} (hne : R ≠ []) {v : Nat} (hv : hotB d R v = true) (y : Nat × Nat) : (y ∈ covN k d R ∧ ownN k d R y = v) ↔ y ∈ outP k d R v := by
  have h64 := pow_le64 h.1
  have hpow : 2 ^ (d + 1) = 2 * 2 ^ d := by rw [Nat.pow_succ, Nat.mul_comm]
  obtain ⟨v1, vl, v2⟩ := hot_log h hv
  rw [cov_mem]
  by_cases hk : k = 1#8
  · unfold minN ownN outP
    rw [if_pos hk, if_pos hk, if_pos hk]
    have hroot : hotB d R 1 = true := by
      obtain ⟨u, hu⟩ := List.exists_mem_of_ne_nil R hne
      obtain ⟨l1, l2, l3⟩ := h.leaf hu
      exact hot_iff.2 ⟨u, hu, (below_iff l1).2 ⟨d, by omega, by rw [Nat.add_div_left _ (Nat.two_pow_pos d), Nat.div_eq_of_lt (h.2 u hu)]⟩⟩
    constructor
    · rintro ⟨⟨⟨y1, y2⟩, hm⟩, rfl⟩
      split at hm
      · rename_i hc
        simp only [Bool.and_eq_true, Bool.not_eq_true', Bool.or_eq_true, decide_eq_true_eq] at hc
        have hy0 : y.2 = 0 := (Option.some.inj hm).symm
        have hyn : y.1 ≠ 1 := fun e => by rw [e] at hc; rw [hroot] at hc; simp at hc
        have hss := sib_sib (n := y.1) (by omega)
        rw [hss]
        have hs1 : y.1 ^^^ 1 ≠ 1 := by have := sib_two_le (n := y.1) (by omega) (by omega); omega
        rw [if_pos ⟨hs1, hc.1⟩]
        simp only [List.mem_singleton]
        cases y; simp only at *; rw [hy0]
      · cases hm
    · intro hy
      split at hy
      · rename_i hc
        simp only [List.mem_singleton] at hy
        subst hy
        simp only
        have hv2 : 2 ≤ v := by omega
        have e1 := sib_lt (n := v) (by omega)
        have e2 := sib_two_le (n := v) (by omega) hv2
        have e3 := sib_log (n := v) (by omega) hv2
        refine ⟨⟨⟨by omega, ?_⟩, ?_⟩, sib_sib (by omega)⟩
        · exact (Nat.log2_lt (by omega)).1 (by omega)
        · rw [if_pos]
          simp only [Bool.and_eq_true, Bool.not_eq_true', Bool.or_eq_true, decide_eq_true_eq]
          refine ⟨hc.2, .inr ?_⟩
          rw [sib_half (by omega)]; exact hot_up h hv hv2
      · cases hy
  · unfold minN ownN outP
    rw [if_neg hk, if_neg hk, if_neg hk]
    constructor
    · rintro ⟨⟨⟨y1, y2⟩, hm⟩, rfl⟩
      have hl7 : Nat.log2 y.1 < 7 := by have := (Nat.log2_lt (n := y.1) (k := d + 1) (by omega)).2 y2; have := h.1; omega
      rw [if_pos (hd_spec 7 y.1 y1 hl7).1]
      generalize hdN d R 7 y.1 = v at *
      generalize footN d R 7 v = w at *
      split at hm
      · split at hm
        · cases hm
        · rename_i h1 h2
          rw [if_neg h2]
          split at hm
          · rename_i h3
            have hm' := Option.some.inj hm
            split
            · rename_i h4
              rw [if_pos h4] at hm'
              simp only [List.mem_singleton]; cases y; simp only at *; rw [h3, hm']
            · rename_i h4
              rw [if_neg h4] at hm'
              simp only [List.mem_cons, List.not_mem_nil, or_false]; left; cases y; simp only at *; rw [h3, hm']
          · split at hm
            · rename_i h3 h4
              simp only [Bool.and_eq_true, Bool.not_eq_true', decide_eq_true_eq] at h4
              rw [if_neg (by rw [h4.1]; simp)]
              simp only [List.mem_cons, List.not_mem_nil, or_false]; right
              have hm' := Option.some.inj hm
              cases y; simp only at *; rw [← h4.2, hm']
            · cases hm
      · cases hm
    · intro hy
      split at hy
      · rename_i hh
        obtain ⟨w1, w2, w3, K, w4, w5, w6⟩ := foot_spec h 7 v v1 vl (by have := h.1; omega)
        generalize hw : footN d R 7 v = w at *
        have hs : hdN d R 7 v = v := hd_self hh
        split at hy
        · cases hy
        · rename_i hne2
          split at hy
          · rename_i h4
            simp only [List.mem_singleton] at hy
            subst hy
            simp only [hs, hw, hv, if_true, if_neg hne2, h4]
            exact ⟨⟨⟨v1, v2⟩, trivial⟩, trivial⟩
          · rename_i h4
            have h4' : subN k d v w = false := by simpa using h4
            simp only [List.mem_cons, List.not_mem_nil, or_false] at hy
            rcases hy with rfl | rfl
            · simp only [hs, hw, hv, if_true, if_neg hne2, h4', Bool.false_eq_true, if_false]
              exact ⟨⟨⟨v1, v2⟩, trivial⟩, trivial⟩
            · obtain ⟨j, j1, j2, j3⟩ := cut_chain (k := k) (d := d) (.inr trivial) w4 w5 v1 h4'
              have hlw := log2_div w K w4
              have hKd : K ≤ 6 := by have := h.1; omega
              have hc : hdN d R 7 (cutN d v w) = v := by
                rw [j3]
                exact hd_chain hh v1 j (K - j) 7 (by rw [show j + (K - j) = K from by omega]; exact w4) (by rw [show j + (K - j) = K from by omega]; exact w5) (fun i _ hi => (w6 i (by omega)).2) (by omega)
              have hj2 : 2 ^ j ≤ w := Nat.le_trans (Nat.pow_le_pow_right (by omega) (by omega)) w4
              have hch : hotB d R (cutN d v w) = true := by rw [j3]; exact (w6 j j2).1
              have hcv : cutN d v w ≠ v := by
                rw [j3, w5]; exact divk_ne w4 j2
              obtain ⟨c1, _, c3⟩ := hot_log h hch
              simp only [hc, hw, hch, if_true, if_neg hne2, if_neg hcv, h4']
              simp only [Bool.not_false, Bool.true_and, decide_true, if_true]
              exact ⟨⟨⟨c1, c3⟩, trivial⟩, trivial⟩
      · cases hy
theorem own_hot (h : Rcv d R) {k : BitVec 8} (hne : R ≠ []) {y : Nat × Nat} (hy : y ∈ covN k d R) : hotB d R (ownN k d R y) = true := by
  have h64 := pow_le64 h.1
  have hpow : 2 ^ (d + 1) = 2 * 2 ^ d := by rw [Nat.pow_succ, Nat.mul_comm]
  obtain ⟨⟨y1, y2⟩, hm⟩ := cov_mem.1 hy
  unfold minN at hm
  unfold ownN
  by_cases hk : k = 1#8
  · rw [if_pos hk] at hm ⊢
    split at hm
    · rename_i hc
      simp only [Bool.and_eq_true, Bool.not_eq_true', Bool.or_eq_true, decide_eq_true_eq] at hc
      have hroot : hotB d R 1 = true := by
        obtain ⟨u, hu⟩ := List.exists_mem_of_ne_nil R hne
        obtain ⟨l1, l2, l3⟩ := h.leaf hu
        exact hot_iff.2 ⟨u, hu, (below_iff l1).2 ⟨d, by omega, by rw [Nat.add_div_left _ (Nat.two_pow_pos d), Nat.div_eq_of_lt (h.2 u hu)]⟩⟩
      have hyn : y.1 ≠ 1 := fun e => by rw [e] at hc; rw [hroot] at hc; simp at hc
      have hp : hotB d R (y.1 / 2) = true := by
        rcases hc.2 with e | e
        · exact absurd e hyn
        · exact e
      have hlg := log2_half (n := y.1) (by omega)
      have hyl : Nat.log2 y.1 ≤ d := node_log y1 y2
      rw [hot_kids h (by omega) (by omega), Bool.or_eq_true] at hp
      have hz : y.1 / 2 < 64 := by omega
      rcases (show y.1 = 2 * (y.1 / 2) ∨ y.1 = 2 * (y.1 / 2) + 1 by omega) with e | e
      · have h2 : hotB d R (2 * (y.1 / 2)) = false := by rw [← e]; exact hc.1
        have : y.1 ^^^ 1 = 2 * (y.1 / 2) + 1 := by rw [← dbl0 hz, ← e]
        rw [this]; rw [h2] at hp; simpa using hp
      · have h2 : hotB d R (2 * (y.1 / 2) + 1) = false := by rw [← e]; exact hc.1
        have : y.1 ^^^ 1 = 2 * (y.1 / 2) := by rw [← dbl1 hz, ← e]
        rw [this]; rw [h2] at hp; simpa using hp
    · cases hm
  · rw [if_neg hk] at hm ⊢
    split at hm
    · rename_i hx
      have hl7 : Nat.log2 y.1 < 7 := by have := node_log y1 y2; have := h.1; omega
      obtain ⟨_, i, i1, i2, _⟩ := hd_spec (d := d) (R := R) 7 y.1 y1 hl7
      rw [i2]; exact hot_ups h hx i i1
    · cases hm
end
end Go.Sx

end
section
set_option linter.unusedVariables false
set_option linter.unusedSimpArgs false
namespace Go.Sx
open Go
/-! subsets, plainly -/
theorem isSub_eq {s : TScheme} {d : Nat} (hv : vldB s = true) (hd : s.Depth = (d : Int)) (h6 : d ≤ 6) (n m : Nat) : ref03_IsSubset s ⟨(n : Int), (m : Int)⟩ = some (subP s.Kind d n m) := by
  have h64 := pow_le64 h6
  have hpow : 2 ^ (d + 1) = 2 * 2 ^ d := by rw [Nat.pow_succ, Nat.mul_comm]
  have hh : ∀ a : Nat, hasN d (a : Int) = decide (1 ≤ a ∧ a < 2 ^ (d + 1)) := fun a => by
    unfold hasN; apply decide_eq_decide.2; rw [hpow]; omega
  unfold ref03_IsSubset subP
  rw [hd, node_eq h6, bind_some, hh]
  by_cases hn : 1 ≤ n ∧ n < 2 ^ (d + 1)
  · rw [decide_eq_true hn]
    simp only [Bool.not_true, cond_false, Bool.true_and]
    by_cases hk : s.Kind = 1#8
    · rw [if_pos hk, if_pos hk]; congr 1; apply decide_eq_decide.2; omega
    · rw [if_neg hk, if_neg hk]
      by_cases hm : m = 0
      · rw [if_pos (by omega), if_pos hm]; congr 1; apply decide_eq_decide.2; omega
      · rw [if_neg (by omega), if_neg hm, node_eq h6, bind_some, hh]
        by_cases hm2 : m < 2 ^ (d + 1)
        · rw [decide_eq_true (by omega)]
          simp only [Bool.not_true, cond_false]
          by_cases he : m = n
          · rw [if_pos (by omega), decide_eq_false (by omega)]; rfl
          · rw [if_neg (by omega), rbelow_eq (by omega) (by omega) (by omega), bind_some, decide_eq_true (by omega), Bool.true_and]
            unfold ref03_IsSubset_J1 subN
            cases hb : belowB m n with
            | false => rfl
            | true =>
              simp only [Bool.not_true, cond_false, Bool.true_and]
              by_cases hk2 : s.Kind = 2#8
              · rw [if_pos hk2, decide_eq_true hk2]; rfl
              · rw [if_neg hk2, decide_eq_false hk2, Bool.false_or, hd, rspecial_eq h6 (by omega), bind_some]
                cases spcl d n with
                | true => rfl
                | false =>
                  rw [cond_false, Bool.false_or]
                  obtain ⟨k, hk0, hk1, hk3⟩ := below_split (by omega) hn.1 hb he
                  have hkl := le_log hk3 (by omega)
                  have := between_eq (d := d) (m := m) (k := k) h6 (by omega) hk3 (by omega)
                  rw [← hk1] at this
                  rw [this, bind_some, show Nat.log2 m - Nat.log2 n - 1 = k from by omega]
                  congr 1; apply decide_eq_decide.2; omega
        · rw [decide_eq_false (p := 1 ≤ m ∧ _) (by omega), decide_eq_false (p := m < _ ∧ _) (by omega)]; rfl
  · rw [decide_eq_false hn]; rfl
end Go.Sx

end
section
set_option linter.unusedVariables false
set_option linter.unusedSimpArgs false
namespace Go.Sx
open Go
section
variable {s : TScheme} {d u n m : Nat}
end
/-! lists of receivers -/
/-- whether numbers are receivers, in ascending order -/
def lstB (d : Nat) (l : List Int) : Bool := (List.range l.length).all fun j => decide (0 ≤ l.getD j 0 ∧ l.getD j 0 < ((2 ^ d : Nat) : Int)) && (decide (j = 0) || decide (l.getD (j - 1) 0 < l.getD j 0))
theorem getD_some {l : List Int} {j : Nat} (h : j < l.length) : l.getD j 0 = l[j] := by simp [List.getD, h]
theorem all_itL {σ : Type} (p : Nat → Bool) : ∀ (l : List Nat) (F : Nat → (σ → Option Bool) → σ → Option Bool) (s : σ), (∀ a ∈ l, ∀ nx s, F a nx s = bif p a then nx s else some false) → itL F (fun _ => some true) l s = some (l.all p)
  | [], F, s, _ => rfl
  | a :: l, F, s, h => by
    rw [itL_cons, h a (by simp), List.all_cons]
    cases p a with
    | false => rfl
    | true => rw [cond_true, Bool.true_and]; exact all_itL p l F s (fun b hb => h b (by simp [hb]))
theorem list_eq {kd : BitVec 8} {d : Nat} {st : Int} (h6 : d ≤ 6) (l : List Int) (hl : l.length < 4611686018427387904) : cover_tree_list ⟨kd, (d : Int), st⟩ l = some (lstB d l) := by
  unfold cover_tree_list lstB
  have := fix_range l.length (cover_tree_list_L1 ⟨kd, (d : Int), st⟩ l) (fun j (_ : Unit) => (j : Int)) (fun j nx s => bif decide (0 ≤ l.getD j 0 ∧ l.getD j 0 < ((2 ^ d : Nat) : Int)) && (decide (j = 0) || decide (l.getD (j - 1) 0 < l.getD j 0)) then nx s else some false) (fun _ => some true)
    (fun rec j hj _ => by
      simp only [cover_tree_list_L1, cover_tree_list_J2]
      rw [if_pos (by omega), getI_some hj, bind_some, receiver_eq h6, bind_some, getD_some hj, w64_nat (by omega)]
      by_cases h : 0 ≤ l[j] ∧ l[j] < ((2 ^ d : Nat) : Int)
      · rw [decide_eq_true h]
        simp only [Bool.not_true, cond_false, Bool.true_and]
        by_cases h0 : j = 0
        · rw [if_neg (by omega), decide_eq_true h0]; rfl
        · have hj1 : j - 1 < l.length := by omega
          rw [if_pos (by omega), w64_id (by omega) (by omega), show (j : Int) - 1 = ((j - 1 : Nat) : Int) from by omega, getI_some hj1, bind_some, decide_eq_false h0, Bool.false_or, getD_some hj1]
          by_cases h1 : l[j] ≤ l[j - 1]
          · rw [decide_eq_true h1, decide_eq_false (by omega)]; rfl
          · rw [decide_eq_false h1, decide_eq_true (by omega)]; rfl
      · rw [decide_eq_false h]; rfl)
    (fun rec _ => by simp only [cover_tree_list_L1]; rw [if_neg (by omega)]) (f := FUEL) (fuel_lt (by omega)) ()
  rw [show ((0 : Nat) : Int) = 0 from rfl] at this
  rw [this]
  exact all_itL _ _ _ _ (fun a _ nx s => rfl)
theorem rlist_eq {d : Nat} (h6 : d ≤ 6) (l : List Int) (hl : l.length < 4611686018427387904) : ref03_IsList (d : Int) l = some (lstB d l) := by
  unfold ref03_IsList lstB
  have := fix_range l.length (ref03_IsList_L1 (d : Int) l) (fun j (_ : Unit) => (j : Int)) (fun j nx s => bif decide (0 ≤ l.getD j 0 ∧ l.getD j 0 < ((2 ^ d : Nat) : Int)) && (decide (j = 0) || decide (l.getD (j - 1) 0 < l.getD j 0)) then nx s else some false) (fun _ => some true)
    (fun rec j hj _ => by
      simp only [ref03_IsList_L1, ref03_IsList_J2]
      rw [if_pos (by omega), getI_some hj, bind_some, bind_some, recv_eq h6, bind_some, getD_some hj, w64_nat (by omega)]
      by_cases h : 0 ≤ l[j]
      · rw [if_neg (by omega)]
        by_cases h2 : l[j] < ((2 ^ d : Nat) : Int)
        · rw [if_neg (by omega), decide_eq_true ⟨h, h2⟩]
          simp only [Bool.true_and]
          by_cases h0 : j = 0
          · rw [if_neg (by omega), decide_eq_true h0]; rfl
          · have hj1 : j - 1 < l.length := by omega
            rw [if_pos (by omega), bind_some, w64_id (by omega) (by omega), show (j : Int) - 1 = ((j - 1 : Nat) : Int) from by omega, getI_some hj1, bind_some, decide_eq_false h0, Bool.false_or, getD_some hj1]
            by_cases h1 : l[j] ≤ l[j - 1]
            · rw [decide_eq_true h1, decide_eq_false (by omega)]; rfl
            · rw [decide_eq_false h1, decide_eq_true (by omega)]; rfl
        · rw [if_pos (by omega), decide_eq_false (by omega)]; rfl
      · rw [if_pos (by omega), decide_eq_false (by omega)]; rfl)
    (fun rec _ => by simp only [ref03_IsList_L1]; rw [if_neg (by omega)]) (f := FUEL) (fuel_lt (by omega)) ()
  rw [show ((0 : Nat) : Int) = 0 from rfl] at this
  rw [this]
  exact all_itL _ _ _ _ (fun a _ nx s => rfl)
theorem lst_mem {d : Nat} {l : List Int} (h : lstB d l = true) {a : Int} (ha : a ∈ l) : ∃ u : Nat, a = (u : Int) ∧ u < 2 ^ d := by
  obtain ⟨j, hj, rfl⟩ := List.mem_iff_getElem.1 ha
  have := List.all_eq_true.1 h j (by simpa using hj)
  rw [Bool.and_eq_true, decide_eq_true_eq, getD_some hj] at this
  exact ⟨l[j].toNat, by omega, by omega⟩
end Go.Sx

end
section
set_option linter.unusedVariables false
set_option linter.unusedSimpArgs false
set_option maxRecDepth 100000
namespace Go.Sx
open Go
def mkS (y : Nat × Nat) : TSubset := ⟨(y.1 : Int), (y.2 : Int)⟩
/-! the hot nodes -/
def upF : Nat → Nat → List Int → List Int
  | 0, _, ks => ks
  | f + 1, n, ks => if n = 0 then ks else upF f (n / 2) (insS ks (n : Int))
theorem up_loop (a5 : Int) (rec1 : Int × List Int → Option (List TSubset × Int)) : ∀ (f fuel n : Nat) (ks : List Int), n < 2 ^ f → f < fuel → fixN (cover_Cover_L2 a5 rec1) fuel ((n : Int), ks) = rec1 (w64 (a5 + 1), upF f n ks)
  | f, 0, n, ks, _, h => by omega
  | 0, fuel + 1, n, ks, hn, _ => by
    rw [fix_step]; simp only [cover_Cover_L2]
    rw [if_neg (by simp at hn; omega)]; rfl
  | f + 1, fuel + 1, n, ks, hn, hf => by
    rw [fix_step]; simp only [cover_Cover_L2]
    unfold upF
    by_cases h0 : n = 0
    · rw [if_neg (by omega), if_pos h0]
    · rw [if_pos (by omega), if_neg h0, show shG (un 1#64) = some 1 from by decide, bind_some, shr_nat _ _ (by omega), Nat.pow_one]
      exact up_loop a5 rec1 f fuel (n / 2) _ (by rw [Nat.pow_succ] at hn; omega) (by omega)
theorem insS_mem {ks : List Int} {k z : Int} : z ∈ insS ks k ↔ z ∈ ks ∨ z = k := by
  unfold insS; split
  · rename_i h; exact ⟨.inl, fun h' => h'.elim id (fun e => e ▸ h)⟩
  · simp
theorem insS_len {ks : List Int} {k : Int} : (insS ks k).length ≤ ks.length + 1 := by unfold insS; split <;> simp
theorem up_mem : ∀ (f n : Nat) (ks : List Int) (z : Int), n < 2 ^ f → (z ∈ upF f n ks ↔ z ∈ ks ∨ ∃ j, 2 ^ j ≤ n ∧ z = ((n / 2 ^ j : Nat) : Int))
  | 0, n, ks, z, hn => by
    unfold upF
    constructor
    · exact .inl
    · rintro (h | ⟨j, hj, _⟩)
      · exact h
      · have := Nat.two_pow_pos j; simp at hn; omega
  | f + 1, n, ks, z, hn => by
    unfold upF
    by_cases h0 : n = 0
    · rw [if_pos h0]
      constructor
      · exact .inl
      · rintro (h | ⟨j, hj, _⟩)
        · exact h
        · have := Nat.two_pow_pos j; omega
    · rw [if_neg h0, up_mem f (n / 2) _ z (by rw [Nat.pow_succ] at hn; omega), insS_mem]
      have hd2 : ∀ j, n / 2 / 2 ^ j = n / 2 ^ (j + 1) := fun j => by rw [Nat.div_div_eq_div_mul, Nat.pow_succ, Nat.mul_comm 2]
      constructor
      · rintro ((h | h) | ⟨j, h1, h2⟩)
        · exact .inl h
        · exact .inr ⟨0, by simp; omega, by simpa using h⟩
        · exact .inr ⟨j + 1, by rw [Nat.pow_succ]; omega, by rw [h2, hd2]⟩
      · rintro (h | ⟨j, h1, h2⟩)
        · exact .inl (.inl h)
        · cases j with
          | zero => exact .inl (.inr (by simpa using h2))
          | succ j => exact .inr ⟨j, by rw [Nat.pow_succ] at h1; omega, by rw [h2, hd2]⟩
theorem up_len : ∀ (f n : Nat) (ks : List Int), (upF f n ks).length ≤ ks.length + f
  | 0, n, ks => by simp [upF]
  | f + 1, n, ks => by
    unfold upF; split
    · omega
    · have := up_len f (n / 2) (insS ks (n : Int)); have := insS_len (ks := ks) (k := (n : Int)); omega
/-- all hot nodes -/
def hotL (d : Nat) (l : List Int) : List Int := l.foldl (fun ks u => upF 8 (2 ^ d + u.toNat) ks) []
theorem hotL_mem {d : Nat} (h6 : d ≤ 6) : ∀ (l : List Int) (ks : List Int) (z : Int), (∀ u ∈ l, u.toNat < 2 ^ d) → (z ∈ l.foldl (fun ks u => upF 8 (2 ^ d + u.toNat) ks) ks ↔ z ∈ ks ∨ ∃ u ∈ l, ∃ j, 2 ^ j ≤ 2 ^ d + u.toNat ∧ z = (((2 ^ d + u.toNat) / 2 ^ j : Nat) : Int))
  | [], ks, z, _ => by simp
  | a :: l, ks, z, h => by
    have h64 := pow_le64 h6
    have ha := h a (by simp)
    rw [List.foldl_cons, hotL_mem h6 l _ z (fun u hu => h u (by simp [hu])), up_mem 8 _ _ _ (by omega)]
    constructor
    · rintro ((h1 | h1) | ⟨u, hu, h1⟩)
      · exact .inl h1
      · exact .inr ⟨a, by simp, h1⟩
      · exact .inr ⟨u, by simp [hu], h1⟩
    · rintro (h1 | ⟨u, hu, h1⟩)
      · exact .inl (.inl h1)
      · rcases List.mem_cons.1 hu with rfl | hu
        · exact .inl (.inr h1)
        · exact .inr ⟨u, hu, h1⟩
theorem hotL_len {d : Nat} : ∀ (l : List Int) (ks : List Int), (l.foldl (fun ks u => upF 8 (2 ^ d + u.toNat) ks) ks).length ≤ ks.length + 8 * l.length
  | [], ks => by simp
  | a :: l, ks => by
    rw [List.foldl_cons, List.length_cons]
    have := hotL_len (d := d) l (upF 8 (2 ^ d + a.toNat) ks)
    have := up_len 8 (2 ^ d + a.toNat) ks
    omega
def rcvL (l : List Int) : List Nat := l.map Int.toNat
theorem rcv_of {d : Nat} {l : List Int} (h6 : d ≤ 6) (h : lstB d l = true) : Rcv d (rcvL l) := ⟨h6, fun u hu => by
  obtain ⟨a, ha, rfl⟩ := List.mem_map.1 hu
  obtain ⟨w, hw, hw2⟩ := lst_mem h ha
  rw [hw]; simpa using hw2⟩
theorem hotL_hot {d : Nat} {l : List Int} (h6 : d ≤ 6) (h : lstB d l = true) (n : Nat) : ((n : Int) ∈ hotL d l) ↔ hotB d (rcvL l) n = true := by
  have hr := rcv_of h6 h
  unfold hotL
  rw [hotL_mem h6 l [] _ (fun u hu => hr.2 _ (List.mem_map.2 ⟨u, hu, rfl⟩)), hot_iff]
  simp only [List.not_mem_nil, false_or]
  constructor
  · rintro ⟨u, hu, j, h1, h2⟩
    refine ⟨u.toNat, List.mem_map.2 ⟨u, hu, rfl⟩, (below_iff (hr.leaf (List.mem_map.2 ⟨u, hu, rfl⟩)).1).2 ⟨j, h1, by omega⟩⟩
  · rintro ⟨u, hu, hb⟩
    obtain ⟨a, ha, rfl⟩ := List.mem_map.1 hu
    obtain ⟨j, h1, h2⟩ := (below_iff (hr.leaf hu).1).1 hb
    exact ⟨a, ha, j, h1, by rw [h2]⟩
theorem hotL_nat {d : Nat} {l : List Int} (h6 : d ≤ 6) (h : lstB d l = true) {k : Int} (hk : k ∈ hotL d l) : ∃ n : Nat, k = (n : Int) ∧ hotB d (rcvL l) n = true := by
  have hr := rcv_of h6 h
  unfold hotL at hk
  rw [hotL_mem h6 l [] _ (fun u hu => hr.2 _ (List.mem_map.2 ⟨u, hu, rfl⟩))] at hk
  simp only [List.not_mem_nil, false_or] at hk
  obtain ⟨u, hu, j, h1, h2⟩ := hk
  exact ⟨_, h2, hot_iff.2 ⟨u.toNat, List.mem_map.2 ⟨u, hu, rfl⟩, (below_iff (hr.leaf (List.mem_map.2 ⟨u, hu, rfl⟩)).1).2 ⟨j, h1, rfl⟩⟩⟩
/-! a round -/
theorem dec_mem {d : Nat} {l : List Int} (h6 : d ≤ 6) (h : lstB d l = true) (n : Nat) : decide ((n : Int) ∈ hotL d l) = hotB d (rcvL l) n := by
  cases hb : hotB d (rcvL l) n with
  | true => exact decide_eq_true ((hotL_hot h6 h n).2 hb)
  | false => exact decide_eq_false fun hm => by rw [(hotL_hot h6 h n).1 hm] at hb; cases hb
theorem foot_loop {s : TScheme} {d : Nat} {l : List Int} (h6 : d ≤ 6) (h : lstB d l = true) (acc : List TSubset) (nx : List TSubset → Option (List TSubset × Int)) (k : Int) : ∀ (f fuel v : Nat), 1 ≤ v → Nat.log2 v ≤ d → d - Nat.log2 v < f → f ≤ fuel →
    fixN (cover_Cover_L6 (treeI s, 0) (hotL d l) acc nx k) fuel (v : Int) = (if (footN d (rcvL l) f v : Int) = k then nx acc else Option.bind (cover_tree_cut (treeI s) k (footN d (rcvL l) f v : Int)) fun x31 => (if x31 ≠ 0 then (if (treeI s).kind = 3#8 then Option.bind (cover_tree_special (treeI s) k) fun x34 => (cover_Cover_J8 acc nx k (footN d (rcvL l) f v : Int) x31 (!x34)) else cover_Cover_J8 acc nx k (footN d (rcvL l) f v : Int) x31 false) else cover_Cover_J8 acc nx k (footN d (rcvL l) f v : Int) x31 false))
  | 0, fuel, v, _, _, hf, _ => by omega
  | f + 1, 0, v, _, _, _, hf => by omega
  | f + 1, fuel + 1, v, hv, hl, hf, hff => by
    have hr := rcv_of h6 h
    have h64 := pow_le64 h6
    have hv128 : v < 128 := by
      have := (Nat.log2_lt (n := v) (k := d + 1) (by omega)).1 (by omega)
      rw [Nat.pow_succ] at this; omega
    rw [fix_step]; simp only [cover_Cover_L6]
    have e0 : w64 (2 * (v : Int)) = ((2 * v : Nat) : Int) := by rw [w64_id (by omega) (by omega)]; omega
    have e1 : w64 (((2 * v : Nat) : Int) + 1) = ((2 * v + 1 : Nat) : Int) := by rw [w64_id (by omega) (by omega)]; omega
    have e2 : w64 ((v : Int) * 2) = ((2 * v : Nat) : Int) := by rw [w64_id (by omega) (by omega)]; omega
    rw [e0, e1, e2, e1, dec_mem h6 h, dec_mem h6 h]
    rw [show (hotB d (rcvL l) (2 * v) != hotB d (rcvL l) (2 * v + 1)) = brN d (rcvL l) v from rfl]
    cases hb : brN d (rcvL l) v with
    | false =>
      have hfv : footN d (rcvL l) (f + 1) v = v := by unfold footN; rw [hb]; rfl
      rw [cond_false, hfv]
    | true =>
      have hfv : footN d (rcvL l) (f + 1) v = footN d (rcvL l) f (nxN d (rcvL l) v) := by
        show (if brN d (rcvL l) v = true then footN d (rcvL l) f (nxN d (rcvL l) v) else v) = _
        rw [hb]; rfl
      rw [cond_true, hfv]
      obtain ⟨hl2, _⟩ := br_inner hr hv hb
      have key : (if ¬ (((2 * v : Nat) : Int) ∈ hotL d l) then fixN (cover_Cover_L6 (treeI s, 0) (hotL d l) acc nx k) fuel ((2 * v + 1 : Nat) : Int) else fixN (cover_Cover_L6 (treeI s, 0) (hotL d l) acc nx k) fuel ((2 * v : Nat) : Int)) = fixN (cover_Cover_L6 (treeI s, 0) (hotL d l) acc nx k) fuel (nxN d (rcvL l) v : Int) := by
        unfold nxN
        cases hh : hotB d (rcvL l) (2 * v) with
        | true => rw [if_neg (fun hn => hn ((hotL_hot h6 h _).2 hh)), if_pos rfl]
        | false => rw [if_pos (fun hm => by rw [(hotL_hot h6 h _).1 hm] at hh; cases hh), if_neg (by simp)]
      rw [key]
      have hn : 1 ≤ nxN d (rcvL l) v ∧ Nat.log2 (nxN d (rcvL l) v) = Nat.log2 v + 1 := by
        unfold nxN; split
        · exact ⟨by omega, log2_dbl hv (b := 0) (by omega)⟩
        · exact ⟨by omega, log2_dbl hv (b := 1) (by omega)⟩
      exact foot_loop h6 h acc nx k f fuel _ hn.1 (by omega) (by omega) (by omega)
theorem step_eq' {s : TScheme} {d : Nat} {l : List Int} (hv : vldB s = true) (hd : s.Depth = (d : Int)) (h6 : d ≤ 6) (h : lstB d l = true) {v : Nat} (hh : hotB d (rcvL l) v = true) (acc : List TSubset) (ha : acc.length ≤ 1000) (nx : List TSubset → Option (List TSubset × Int)) :
    cover_Cover_S3 (treeI s, 0) (hotL d l) (v : Int) nx acc = nx (acc ++ (outP s.Kind d (rcvL l) v).map mkS) := by
  have hr := rcv_of h6 h
  have h64 := pow_le64 h6
  obtain ⟨v1, vl, v2⟩ := hot_log hr hh
  have hpow : 2 ^ (d + 1) = 2 * 2 ^ d := by rw [Nat.pow_succ, Nat.mul_comm]
  have hv128 : v < 128 := by omega
  have ht : treeI s = ⟨s.Kind, (d : Int), (strd d : Int)⟩ := by unfold treeI; rw [hd, Int.toNat_natCast]
  have hkd : (treeI s).kind = s.Kind := rfl
  have hsib : cover_node_sibling (v : Int) = some ((v ^^^ 1 : Nat) : Int) := by unfold cover_node_sibling; rw [bit_xor hv128]
  have hadd : ∀ (a b : Int) (acc : List TSubset), acc.length ≤ 2000 → cover_Cover_1 a b acc = some (acc ++ [⟨a, b⟩]) := fun a b acc hl => by
    unfold cover_Cover_1; rw [appG_some (by simp; omega), bind_some]
  unfold cover_Cover_S3
  simp only [hkd]
  by_cases hk : s.Kind = 1#8
  · rw [if_pos hk]
    unfold outP
    rw [if_pos hk]
    by_cases hv1 : v = 1
    · rw [if_neg (by omega), if_neg (by simp [hv1])]
      unfold cover_Cover_J4; simp
    · rw [if_pos (by omega), hsib, bind_some]
      unfold cover_Cover_J4
      have hdm := dec_mem h6 h (v ^^^ 1)
      by_cases hs : hotB d (rcvL l) (v ^^^ 1) = true
      · rw [decide_eq_false (p := ¬ (((v ^^^ 1 : Nat) : Int) ∈ hotL d l)) (fun hn => hn ((hotL_hot h6 h _).2 hs)), cond_false, if_neg (by simp [hs])]; simp
      · have hs' : hotB d (rcvL l) (v ^^^ 1) = false := by simpa using hs
        rw [decide_eq_true (p := ¬ (((v ^^^ 1 : Nat) : Int) ∈ hotL d l)) (fun hm => hs ((hotL_hot h6 h _).1 hm)), cond_true, hsib, bind_some, hadd _ _ _ (by omega), bind_some, if_pos ⟨hv1, hs'⟩]
        rfl
  · rw [if_neg hk]
    -- the way on for heads
    have go : isHd d (rcvL l) v = true → cover_Cover_J5 (treeI s, 0) (hotL d l) acc nx (v : Int) false = nx (acc ++ (outP s.Kind d (rcvL l) v).map mkS) := by
      intro hhd
      unfold cover_Cover_J5
      rw [cond_false, foot_loop h6 h acc nx (v : Int) 7 FUEL v v1 vl (by omega) (by unfold FUEL; omega)]
      unfold outP
      rw [if_neg hk, if_pos hhd]
      obtain ⟨w1, w2, w3, K, w4, w5, w6⟩ := foot_spec hr 7 v v1 vl (by omega)
      generalize footN d (rcvL l) 7 v = w at *
      by_cases hw : w = v
      · rw [if_pos (by omega), if_pos hw]; simp
      · rw [if_neg (by omega), if_neg hw]
        have hlw := log2_div w K w4
        rw [← w5] at hlw
        have hK : 1 ≤ K := by
          rcases Nat.eq_zero_or_pos K with h0 | h0
          · subst h0; simp at w5; exact absurd w5.symm hw
          · exact h0
        have hw128 : w < 128 := by
          have := (Nat.log2_lt (n := w) (k := d + 1) (by omega)).1 (by omega)
          omega
        have hcut : cover_tree_cut (treeI s) (v : Int) (w : Int) = some ((cutN d v w : Nat) : Int) := by
          obtain ⟨K', rfl⟩ : ∃ K', K = K' + 1 := ⟨K - 1, by omega⟩
          have := cut_eq (kd := s.Kind) (d := d) (m := w) (k := K') hw128 w4 (by omega)
          rw [← w5] at this
          rw [ht, this]
          unfold cutN
          rw [show Nat.log2 w - Nat.log2 v - 1 = K' from by omega]
        have hspc : cover_tree_special (treeI s) (v : Int) = some (spcl d v) := by rw [ht]; exact special_eq v1 (by omega)
        rw [hcut, bind_some]
        have one : cover_Cover_J8 acc nx (v : Int) (w : Int) ((cutN d v w : Nat) : Int) false = nx (acc ++ [(v, w)].map mkS) := by
          unfold cover_Cover_J8 cover_Cover_J7
          rw [cond_false, hadd _ _ _ (by omega), bind_some]; rfl
        have two : cover_Cover_J8 acc nx (v : Int) (w : Int) ((cutN d v w : Nat) : Int) true = nx (acc ++ [(v, cutN d v w), (cutN d v w, w)].map mkS) := by
          unfold cover_Cover_J8 cover_Cover_J7
          rw [cond_true, hadd _ _ _ (by omega), bind_some, hadd _ _ _ (by simp; omega), bind_some, List.append_assoc]; rfl
        have hk3 : s.Kind = 2#8 ∨ s.Kind = 3#8 := by
          obtain ⟨a, b⟩ := vld_kind hv
          rcases kind_cases a b with e | e | e
          · exact absurd e hk
          · exact .inl e
          · exact .inr e
        unfold subN
        by_cases hc0 : cutN d v w = 0
        · rw [if_neg (by omega), one]
          have : (decide (s.Kind = 2#8) || spcl d v || decide (fstS d (pathN (w / 2) (Nat.log2 w - Nat.log2 v - 1)) = 0)) = true := by
            rw [decide_eq_true (p := fstS _ _ = 0) hc0]; simp
          rw [if_pos this]
        · have hc0' : decide (fstS d (pathN (w / 2) (Nat.log2 w - Nat.log2 v - 1)) = 0) = false := decide_eq_false hc0
          rw [if_pos (by omega), hc0', Bool.or_false]
          rcases hk3 with hk3 | hk3
          · rw [if_neg (by rw [hkd, hk3]; decide), one, if_pos (by simp [hk3])]
          · rw [if_pos (show (treeI s).kind = 3#8 from hk3), hspc, bind_some]
            have : decide (s.Kind = 2#8) = false := by rw [hk3]; decide
            rw [this, Bool.false_or]
            cases spcl d v with
            | true => rw [Bool.not_true, one, if_pos rfl]
            | false => rw [Bool.not_false, two, if_neg (by simp)]
    have no : isHd d (rcvL l) v = false → cover_Cover_J5 (treeI s, 0) (hotL d l) acc nx (v : Int) true = nx (acc ++ (outP s.Kind d (rcvL l) v).map mkS) := by
      intro hhd
      unfold cover_Cover_J5 outP
      rw [cond_true, if_neg hk, if_neg (by rw [hhd]; simp)]; simp
    by_cases hv1 : v = 1
    · rw [if_neg (by omega)]; exact go (by unfold isHd; simp [hv1])
    · rw [if_pos (by omega), hsib, bind_some]
      by_cases hs : hotB d (rcvL l) (v ^^^ 1) = true
      · rw [decide_eq_false (p := ¬ (((v ^^^ 1 : Nat) : Int) ∈ hotL d l)) (fun hn => hn ((hotL_hot h6 h _).2 hs))]; exact go (by unfold isHd; simp [hs])
      · have hs' : hotB d (rcvL l) (v ^^^ 1) = false := by simpa using hs
        rw [decide_eq_true (p := ¬ (((v ^^^ 1 : Nat) : Int) ∈ hotL d l)) (fun hm => hs ((hotL_hot h6 h _).1 hm))]; exact no (by unfold isHd; simp [hs', hv1])
/-! any order -/
theorem cov_filter {d : Nat} {R : List Nat} (h : Rcv d R) {k : BitVec 8} (hne : R ≠ []) {v : Nat} (hv : hotB d R v = true) : (covN k d R).filter (fun y => decide (ownN k d R y = v)) = outP k d R v := by
  refine asc_ext ?_ ?_ fun y => ?_
  · exact List.Pairwise.filter _ cov_asc
  · unfold outP Asc
    split
    · split <;> simp
    · split
      · split
        · simp
        · split
          · simp
          · rename_i h2 h3 h4 h5
            obtain ⟨v1, vl, v2⟩ := hot_log h hv
            obtain ⟨w1, w2, w3, K, w4, w5, w6⟩ := foot_spec h 7 v v1 vl (by have := h.1; omega)
            obtain ⟨j, j1, j2, j3⟩ := cut_chain (k := k) (d := d) (.inr trivial) w4 w5 v1 (by simpa using h5)
            simp only [List.pairwise_cons, List.mem_singleton, List.not_mem_nil, false_imp_iff, implies_true, List.Pairwise.nil, and_true, forall_eq]
            have hj2 : 2 ^ j ≤ footN d R 7 v := Nat.le_trans (Nat.pow_le_pow_right (by omega) (by omega)) w4
            have hl1 := log2_div _ _ w4
            have hl2 := log2_div _ _ hj2
            rw [← w5] at hl1
            rw [← j3] at hl2
            rcases Nat.lt_or_ge v (cutN d v (footN d R 7 v)) with hlt | hge
            · exact hlt
            · have := log2_mono hge; omega
      · simp
  · rw [List.mem_filter, decide_eq_true_eq]; exact cov_own h hne hv y
theorem cov_len {k : BitVec 8} {d : Nat} {R : List Nat} (h6 : d ≤ 6) : (covN k d R).length ≤ 127 := by
  have h64 := pow_le64 h6
  have hpow : 2 ^ (d + 1) = 2 * 2 ^ d := by rw [Nat.pow_succ, Nat.mul_comm]
  refine Nat.le_trans (List.length_filterMap_le _ _) ?_
  simp [nodN]; omega
theorem filter_split {α : Type} (p q : α → Bool) (hpq : ∀ a, p a = true → q a = false) (l : List α) : (l.filter fun a => p a || q a).Perm (l.filter p ++ l.filter q) := by
  induction l with
  | nil => simp
  | cons a l ih =>
    cases hp : p a with
    | true =>
      have hq := hpq a hp
      simp only [List.filter_cons, hp, hq, Bool.true_or, if_true, Bool.false_eq_true, if_false, List.cons_append]
      exact ih.cons a
    | false =>
      cases hq : q a with
      | true =>
        simp only [List.filter_cons, hp, hq, Bool.or_true, if_true, Bool.false_eq_true, if_false]
        exact (ih.cons a).trans List.perm_middle.symm
      | false =>
        simp only [List.filter_cons, hp, hq, Bool.or_false, Bool.false_eq_true, if_false]
        exact ih
theorem srt_cov {k : BitVec 8} {d : Nat} {R : List Nat} (h6 : d ≤ 6) {acc : List TSubset} (h : acc.Perm ((covN k d R).map mkS)) : srtBy TSubset.Node acc = some ((covN k d R).map mkS) := by
  have h64 := pow_le64 h6
  have hpow : 2 ^ (d + 1) = 2 * 2 ^ d := by rw [Nat.pow_succ, Nat.mul_comm]
  have hasc : ((covN k d R).map mkS).Pairwise fun a b => a.Node < b.Node := by
    rw [List.pairwise_map]
    exact (cov_asc (k := k) (d := d) (R := R)).imp (fun {a b} hab => by unfold mkS; simp only; omega)
  have hnd : (((covN k d R).map mkS).map TSubset.Node).Nodup := by
    unfold List.Nodup
    rw [List.pairwise_map]
    exact hasc.imp (by omega)
  unfold srtBy
  rw [if_pos]
  · congr 1
    have hs := List.pairwise_mergeSort (le := fun a b : TSubset => decide (a.Node ≤ b.Node)) (fun a b c h1 h2 => by simp at *; omega) (fun a b => by simp; omega) acc
    have hp : (acc.mergeSort fun a b => decide (a.Node ≤ b.Node)).Perm ((covN k d R).map mkS) := (List.mergeSort_perm acc _).trans h
    -- both ascend, and are permutations of one another
    have key : ∀ (l m : List TSubset), l.Perm m → (l.Pairwise fun a b => decide (a.Node ≤ b.Node) = true) → (m.Pairwise fun a b => a.Node < b.Node) → l = m := by
      intro l m hlm hl hm
      have hlnd : (l.map TSubset.Node).Nodup := by
        have : (m.map TSubset.Node).Nodup := by unfold List.Nodup; rw [List.pairwise_map]; exact hm.imp (by omega)
        exact (hlm.map _).nodup_iff.2 this
      have hl' : l.Pairwise fun a b => a.Node < b.Node := by
        unfold List.Nodup at hlnd
        rw [List.pairwise_map] at hlnd
        exact (hl.and hlnd).imp (fun {a b} hab => by have := of_decide_eq_true hab.1; have := hab.2; omega)
      clear hl hlnd
      induction m generalizing l with
      | nil => exact hlm.eq_nil
      | cons b m ih =>
        cases l with
        | nil => exact absurd hlm.symm.eq_nil (by simp)
        | cons a l =>
          have ha := List.pairwise_cons.1 hl'
          have hb := List.pairwise_cons.1 hm
          have hab : a = b := by
            rcases List.mem_cons.1 (hlm.subset (List.mem_cons_self)) with e | e
            · exact e
            · rcases List.mem_cons.1 (hlm.symm.subset (List.mem_cons_self)) with e2 | e2
              · exact e2.symm
              · have := ha.1 b e2; have := hb.1 a e; omega
          subst hab
          rw [ih l (List.Perm.cons_inv hlm) hb.2 ha.2]
    exact key _ _ hp hs hasc
  · refine ⟨fun x hx => ?_, (h.map _).nodup_iff.2 hnd, ?_⟩
    · obtain ⟨y, hy, rfl⟩ := List.mem_map.1 (h.subset hx)
      have := (cov_mem.1 hy).1
      unfold mkS; simp only; omega
    · rw [h.length_eq, List.length_map]; have := cov_len (k := k) (R := R) h6; omega
theorem range_cov {s : TScheme} {d : Nat} {l : List Int} (hv : vldB s = true) (hd : s.Depth = (d : Int)) (h6 : d ≤ 6) (h : lstB d l = true) (hne : l ≠ []) (hl : l.length * 8 ≤ 140737488355328) :
    rngM (cover_Cover_S3 (treeI s, 0) (hotL d l)) cover_Cover_E3 FUEL (hotL d l) [] = some ((covN s.Kind d (rcvL l)).map mkS, 0) := by
  have hr := rcv_of h6 h
  have hne' : rcvL l ≠ [] := by unfold rcvL; simpa using hne
  refine rngM_run (fun rem acc => (∀ k ∈ rem, k ∈ hotL d l) ∧ acc.Perm (((covN s.Kind d (rcvL l)).filter fun y => decide (((ownN s.Kind d (rcvL l) y : Nat) : Int) ∉ rem)).map mkS)) ?_ ?_ FUEL (hotL d l) [] ?_ ⟨fun _ hk => hk, ?_⟩
  · rintro acc ⟨_, hp⟩
    have : ((covN s.Kind d (rcvL l)).filter fun y => decide (((ownN s.Kind d (rcvL l) y : Nat) : Int) ∉ ([] : List Int))) = covN s.Kind d (rcvL l) := List.filter_eq_self.2 (by simp)
    rw [this] at hp
    unfold cover_Cover_E3
    rw [srt_cov h6 hp, bind_some]
  · rintro rem acc k hk ⟨hsub, hp⟩
    obtain ⟨v, rfl, hvh⟩ := hotL_nat h6 h (hsub k hk)
    have hal : acc.length ≤ 1000 := by
      rw [hp.length_eq, List.length_map]
      have := cov_len (k := s.Kind) (R := rcvL l) h6
      have := List.length_filter_le (fun y => decide (((ownN s.Kind d (rcvL l) y : Nat) : Int) ∉ rem)) (covN s.Kind d (rcvL l))
      omega
    refine ⟨acc ++ (outP s.Kind d (rcvL l) v).map mkS, ⟨fun j hj => hsub j (List.mem_filter.1 hj).1, ?_⟩, fun nx => step_eq' hv hd h6 h hvh acc hal nx⟩
    have hsp := filter_split (fun y => decide (((ownN s.Kind d (rcvL l) y : Nat) : Int) ∉ rem)) (fun y => decide (ownN s.Kind d (rcvL l) y = v)) (fun y hy => by
      simp only [decide_eq_true_eq, decide_eq_false_iff_not] at hy ⊢
      rintro rfl; exact hy hk) (covN s.Kind d (rcvL l))
    rw [cov_filter hr hne' hvh] at hsp
    have hcg : ((covN s.Kind d (rcvL l)).filter fun y => decide (((ownN s.Kind d (rcvL l) y : Nat) : Int) ∉ rem.filter (· ≠ (v : Int)))) = ((covN s.Kind d (rcvL l)).filter fun y => decide (((ownN s.Kind d (rcvL l) y : Nat) : Int) ∉ rem) || decide (ownN s.Kind d (rcvL l) y = v)) := by
      apply List.filter_congr
      intro y _
      rw [Bool.eq_iff_iff]
      simp only [Bool.or_eq_true, decide_eq_true_eq, List.mem_filter, not_and, ne_eq, Decidable.not_not, decide_not, Bool.not_eq_true', decide_eq_false_iff_not]
      constructor
      · intro hh
        by_cases hm : ((ownN s.Kind d (rcvL l) y : Nat) : Int) ∈ rem
        · have := hh hm; right; omega
        · exact .inl hm
      · rintro (hh | hh) hm
        · exact absurd hm hh
        · rw [hh]
    rw [hcg]
    refine List.Perm.trans ?_ (hsp.map mkS).symm
    rw [List.map_append]
    exact hp.append_right _
  · have := hotL_len (d := d) l []
    unfold hotL FUEL
    simp only [List.length_nil, Nat.zero_add] at this
    omega
  · have : ((covN s.Kind d (rcvL l)).filter fun y => decide (((ownN s.Kind d (rcvL l) y : Nat) : Int) ∉ hotL d l)) = [] := by
      rw [List.filter_eq_nil_iff]
      intro y hy
      simp only [decide_eq_true_eq]
      exact fun hn => hn ((hotL_hot h6 h _).2 (own_hot hr hne' hy))
    rw [this]; simp
/-- the cover, with its errors -/
def covP (s : TScheme) (l : List Int) : List TSubset × Int :=
  if vldB s then (if lstB s.Depth.toNat l then ((if l = [] then [⟨1, 0⟩] else (covN s.Kind s.Depth.toNat (rcvL l)).map mkS), 0) else ([], 2)) else ([], 30)
theorem pcover_eq (s : TScheme) (l : List Int) (hl : l.length * 8 ≤ 140737488355328) : cover_Cover s l = some (covP s l) := by
  unfold cover_Cover covP
  rw [enter0, bind_some]
  cases hv : vldB s with
  | false => rfl
  | true =>
    obtain ⟨d, hd, h6⟩ := vld_depth hv
    have ht : treeI s = ⟨s.Kind, (d : Int), (strd d : Int)⟩ := by unfold treeI; rw [hd, Int.toNat_natCast]
    simp only [if_true]
    rw [if_neg (by simp), hd, Int.toNat_natCast]
    have e0 : cover_tree_list (treeI s) l = some (lstB d l) := by rw [ht]; exact list_eq h6 l (by omega)
    rw [e0, bind_some]
    cases hb : lstB d l with
    | false => rfl
    | true =>
      simp only [Bool.not_true, cond_false, if_true]
      by_cases hne : l = []
      · subst hne; rfl
      · rw [if_neg (by intro h0; apply hne; exact List.eq_nil_of_length_eq_zero (by omega)), if_neg hne]
        have := fix_itL l (cover_Cover_L1 l (treeI s, 0)) (fun j (ks : List Int) => ((j : Int), ks)) (fun u nx ks => nx (upF 8 (2 ^ d + u.toNat) ks)) (fun ks => rngM (cover_Cover_S3 (treeI s, 0) ks) cover_Cover_E3 FUEL ks [])
          (fun rec j hj ks => by
            obtain ⟨u, hu, hu2⟩ := lst_mem hb (List.getElem_mem hj)
            have h64 := pow_le64 h6
            simp only [cover_Cover_L1]
            have hlf : cover_tree_leaf (treeI s) (u : Int) = some ((2 ^ d + u : Nat) : Int) := by rw [ht]; exact leaf_eq h6 (by omega)
            rw [if_pos (by omega), getI_some hj, bind_some, hu, hlf, bind_some, up_loop _ _ 8 FUEL _ _ (by omega) (by unfold FUEL; omega), w64_nat (by omega), Int.toNat_natCast])
          (fun rec ks => by simp only [cover_Cover_L1]; rw [if_neg (by omega)]) (f := FUEL) (fuel_lt (by omega)) ([] : List Int)
        rw [show ((0 : Nat) : Int) = 0 from rfl] at this
        rw [this, itL_fold (fun ks u => upF 8 (2 ^ d + u.toNat) ks) _ _ (fun _ _ => True) l 0 [] (fun _ _ _ _ _ _ => rfl) (fun _ _ _ _ _ => trivial) trivial]
        exact range_cov hv hd h6 hb hne hl
end Go.Sx

end
section
set_option linter.unusedVariables false
set_option linter.unusedSimpArgs false
set_option maxRecDepth 100000
namespace Go.Sx
open Go
theorem rhot_eq {d : Nat} {l : List Int} (h6 : d ≤ 6) (h : lstB d l = true) (hl : l.length < 4611686018427387904) {v : Nat} (hv : 1 ≤ v) : ref03_hot (d : Int) l (v : Int) = some (hotB d (rcvL l) v) := by
  have h64 := pow_le64 h6
  unfold ref03_hot
  have := fix_itL l (ref03_hot_L1 (d : Int) l (v : Int)) (fun j (_ : Unit) => (j : Int)) (fun u nx s => bif belowB (2 ^ d + u.toNat) v then some true else nx s) (fun _ => some false)
    (fun rec j hj _ => by
      obtain ⟨u, hu, hu2⟩ := lst_mem h (List.getElem_mem hj)
      simp only [ref03_hot_L1]
      have e : w64 (((2 ^ d : Nat) : Int) + (u : Int)) = ((2 ^ d + u : Nat) : Int) := by
        generalize 2 ^ d = q at *
        rw [w64_id (by omega) (by omega)]; omega
      have hp := Nat.two_pow_pos d
      rw [if_pos (by omega), getI_some hj, bind_some, recv_eq h6, bind_some, hu, e, rbelow_eq (by omega) hv (by omega), bind_some, w64_nat (by omega), Int.toNat_natCast])
    (fun rec _ => by simp only [ref03_hot_L1]; rw [if_neg (by omega)]) (f := FUEL) (fuel_lt (by omega)) ()
  rw [show ((0 : Nat) : Int) = 0 from rfl] at this
  rw [this, itL_find (fun u : Int => belowB (2 ^ d + u.toNat) v) (fun _ _ => some true) _ _ _ _ (fun a _ nx s => rfl)]
  unfold hotB rcvL
  rw [List.any_map]
  cases hf : l.find? (fun u : Int => belowB (2 ^ d + u.toNat) v) with
  | none =>
    rw [List.find?_eq_none] at hf
    have : l.any ((fun u => belowB (2 ^ d + u) v) ∘ Int.toNat) = false := by
      rw [Bool.eq_false_iff]
      intro hc
      obtain ⟨u, hu, hb⟩ := List.any_eq_true.1 hc
      exact hf u hu hb
    rw [this]
  | some u =>
    have : l.any ((fun u => belowB (2 ^ d + u) v) ∘ Int.toNat) = true := List.any_eq_true.2 ⟨u, List.mem_of_find?_eq_some hf, List.find?_some hf⟩
    rw [this]
theorem rfoot_loop {d : Nat} {l : List Int} (h6 : d ≤ 6) (h : lstB d l = true) (hl : l.length < 4611686018427387904) : ∀ (f fuel v : Nat), 1 ≤ v → Nat.log2 v ≤ d → d - Nat.log2 v < f → f ≤ fuel → fixN (ref03_foot_L1 (d : Int) l) fuel (v : Int) = some (footN d (rcvL l) f v : Int)
  | 0, fuel, v, _, _, hf, _ => by omega
  | f + 1, 0, v, _, _, _, hf => by omega
  | f + 1, fuel + 1, v, hv, hlv, hf, hff => by
    have hr := rcv_of h6 h
    have h64 := pow_le64 h6
    have hv128 : v < 128 := by
      have := (Nat.log2_lt (n := v) (k := d + 1) (by omega)).1 (by omega)
      rw [Nat.pow_succ] at this; omega
    rw [fix_step]; simp only [ref03_foot_L1, ref03_foot_J2]
    have e0 : w64 (2 * (v : Int)) = ((2 * v : Nat) : Int) := by rw [w64_id (by omega) (by omega)]; omega
    have e1 : w64 (((2 * v : Nat) : Int) + 1) = ((2 * v + 1 : Nat) : Int) := by rw [w64_id (by omega) (by omega)]; omega
    rw [recv_eq h6, bind_some, e0, e1, rhot_eq h6 h hl (by omega), rhot_eq h6 h hl (by omega), bind_some, bind_some]
    have hbr : (hotB d (rcvL l) (2 * v) != hotB d (rcvL l) (2 * v + 1)) = brN d (rcvL l) v := rfl
    rw [hbr]
    cases hb : brN d (rcvL l) v with
    | false =>
      have hfv : footN d (rcvL l) (f + 1) v = v := by
        show (if brN d (rcvL l) v = true then footN d (rcvL l) f (nxN d (rcvL l) v) else v) = _
        rw [hb]; rfl
      rw [hfv]; simp
    | true =>
      have hfv : footN d (rcvL l) (f + 1) v = footN d (rcvL l) f (nxN d (rcvL l) v) := by
        show (if brN d (rcvL l) v = true then footN d (rcvL l) f (nxN d (rcvL l) v) else v) = _
        rw [hb]; rfl
      obtain ⟨hl2, _⟩ := br_inner hr hv hb
      have hv64 := (node_lt (d := d) hv).2 hl2
      rw [hfv, if_pos (by omega), cond_true, bind_some]
      have hn : 1 ≤ nxN d (rcvL l) v ∧ Nat.log2 (nxN d (rcvL l) v) = Nat.log2 v + 1 := by
        unfold nxN; split
        · exact ⟨by omega, log2_dbl hv (b := 0) (by omega)⟩
        · exact ⟨by omega, log2_dbl hv (b := 1) (by omega)⟩
      rw [← rfoot_loop h6 h hl f fuel _ hn.1 (by omega) (by omega) (by omega)]
      unfold nxN
      cases hotB d (rcvL l) (2 * v) with
      | true => rfl
      | false => rfl
theorem rfoot_eq {d : Nat} {l : List Int} (h6 : d ≤ 6) (h : lstB d l = true) (hl : l.length < 4611686018427387904) {v : Nat} (hv : 1 ≤ v) (hlv : Nat.log2 v ≤ d) : ref03_foot (d : Int) l (v : Int) = some (footN d (rcvL l) 7 v : Int) :=
  rfoot_loop h6 h hl 7 FUEL v hv hlv (by omega) (by unfold FUEL; omega)
/-! insert -/
def insN (A : List (Nat × Nat)) (y : Nat × Nat) : List (Nat × Nat) := A.takeWhile (fun a => decide (a.1 < y.1)) ++ y :: A.dropWhile (fun a => decide (a.1 < y.1))
theorem ins_loop (A : List (Nat × Nat)) (y : Nat × Nat) (hA : A.length ≤ 1000) : ∀ (C B : List (Nat × Nat)) (f : Nat), A = B ++ C → C.length < f →
    fixN (ref03_insert_L1 (A.map mkS) (mkS y)) f (B.length : Int) = some ((B ++ (C.takeWhile (fun a => decide (a.1 < y.1)) ++ y :: C.dropWhile (fun a => decide (a.1 < y.1)))).map mkS)
  | C, B, 0, _, h => by omega
  | [], B, f + 1, hs, _ => by
    rw [fix_step]; simp only [ref03_insert_L1, ref03_insert_J2]
    have hlen : (A.map mkS).length = B.length := by rw [hs]; simp
    have hb : B.length ≤ 1000 := by rw [List.length_map] at hlen; omega
    rw [if_neg (by omega), cond_false]
    have e1 : sliG (A.map mkS) 0 (B.length : Int) = some (B.map mkS) := by
      unfold sliG; rw [if_pos ⟨by omega, by omega, by omega⟩, hs, Int.toNat_natCast, List.append_nil, List.take_of_length_le (by simp)]; simp
    have e2 : sliG (A.map mkS) (B.length : Int) (((A.map mkS).length : Nat) : Int) = some [] := by
      unfold sliG; rw [if_pos ⟨by omega, by omega, by omega⟩, hlen, hs]; simp
    rw [e1, bind_some, appG_some (by simp; omega), bind_some, appG_some (by simp; omega), bind_some, e2, bind_some, appG_some (by simp; omega), bind_some]
    simp
  | c :: C, B, f + 1, hs, hf => by
    rw [fix_step]; simp only [ref03_insert_L1, ref03_insert_J2]
    have hlen : (A.map mkS).length = B.length + (C.length + 1) := by rw [hs]; simp
    have hb : B.length + (C.length + 1) ≤ 1000 := by rw [List.length_map] at hlen; omega
    have hg : getI (A.map mkS) (B.length : Int) = some (mkS c) := by
      rw [getI_some (by omega)]; simp [hs]
    rw [if_pos (by omega), hg, bind_some]
    by_cases hlt : c.1 < y.1
    · rw [decide_eq_true (show (mkS c).Node < (mkS y).Node by unfold mkS; simp only; omega), cond_true, w64_nat (by omega)]
      have := ins_loop A y hA C (B ++ [c]) f (by rw [hs]; simp) (by simp at hf; omega)
      rw [show ((B ++ [c]).length : Int) = ((B.length + 1 : Nat) : Int) from by simp] at this
      rw [this, List.takeWhile_cons, List.dropWhile_cons, decide_eq_true hlt]
      simp
    · rw [decide_eq_false (show ¬ (mkS c).Node < (mkS y).Node by unfold mkS; simp only; omega), cond_false]
      have e1 : sliG (A.map mkS) 0 (B.length : Int) = some (B.map mkS) := by
        unfold sliG; rw [if_pos ⟨by omega, by omega, by omega⟩, hs]; simp
      have e2 : sliG (A.map mkS) (B.length : Int) (((A.map mkS).length : Nat) : Int) = some ((c :: C).map mkS) := by
        unfold sliG; rw [if_pos ⟨by omega, by omega, by omega⟩, Int.toNat_natCast, Int.toNat_natCast, List.take_of_length_le (Nat.le_refl _), hs]; simp
      rw [e1, bind_some, appG_some (by simp; omega), bind_some, appG_some (by simp; omega), bind_some, e2, bind_some, appG_some (by simp; omega), bind_some, List.takeWhile_cons, List.dropWhile_cons, decide_eq_false hlt]
      simp
theorem insert_eq (A : List (Nat × Nat)) (y : Nat × Nat) (hA : A.length ≤ 1000) : ref03_insert (A.map mkS) (mkS y) = some ((insN A y).map mkS) := by
  have := ins_loop A y hA A [] FUEL rfl (fuel_lt (by omega))
  rw [List.nil_append] at this
  exact this
theorem ins_mem {A : List (Nat × Nat)} {y z : Nat × Nat} : z ∈ insN A y ↔ z ∈ A ∨ z = y := by
  unfold insN
  conv => rhs; rw [← List.takeWhile_append_dropWhile (p := fun a : Nat × Nat => decide (a.1 < y.1)) (l := A)]
  simp only [List.mem_append, List.mem_cons]
  constructor
  · rintro (h | h | h)
    · exact .inl (.inl h)
    · exact .inr h
    · exact .inl (.inr h)
  · rintro ((h | h) | h)
    · exact .inl h
    · exact .inr (.inr h)
    · exact .inr (.inl h)
theorem ins_asc : ∀ {A : List (Nat × Nat)} {y : Nat × Nat}, Asc A → (∀ a ∈ A, a.1 ≠ y.1) → Asc (insN A y)
  | [], y, _, _ => by unfold insN Asc; simp
  | a :: A, y, h, hn => by
    have ha := List.pairwise_cons.1 h
    have hne := hn a (by simp)
    unfold insN
    rw [List.takeWhile_cons, List.dropWhile_cons]
    by_cases hlt : a.1 < y.1
    · rw [decide_eq_true hlt]
      simp only [if_true, List.cons_append]
      refine List.pairwise_cons.2 ⟨fun z hz => ?_, ins_asc ha.2 (fun b hb => hn b (by simp [hb]))⟩
      rcases (ins_mem (A := A) (y := y)).1 hz with h1 | h1
      · exact ha.1 z h1
      · rw [h1]; exact hlt
    · rw [decide_eq_false hlt]
      simp only [Bool.false_eq_true, if_false, List.nil_append]
      refine List.pairwise_cons.2 ⟨fun z hz => ?_, h⟩
      rcases List.mem_cons.1 hz with rfl | hz
      · omega
      · have := ha.1 z hz; omega
theorem ins_len {A : List (Nat × Nat)} {y : Nat × Nat} : (insN A y).length = A.length + 1 := by
  unfold insN
  rw [List.length_append, List.length_cons, Nat.add_succ, ← List.length_append, List.takeWhile_append_dropWhile]
/-! the loop over the nodes -/
section
variable {s : TScheme} {d : Nat} {l : List Int}
theorem rcov_round (hv : vldB s = true) (hd : s.Depth = (d : Int)) (h6 : d ≤ 6) (h : lstB d l = true) (hl : l.length < 4611686018427387904) (hk : s.Kind ≠ 1#8) (hne : l ≠ []) {v : Nat} (v1 : 1 ≤ v) (v2 : v < 2 ^ (d + 1)) (rec : List TSubset × Int → Option (List TSubset)) :
    ref03_CoverOf_L2 s l rec (((covN s.Kind d (rcvL l)).filter fun y => decide (hdN d (rcvL l) 7 y.1 < v)).map mkS, (v : Int)) = rec (((covN s.Kind d (rcvL l)).filter fun y => decide (hdN d (rcvL l) 7 y.1 < v + 1)).map mkS, ((v + 1 : Nat) : Int)) := by
  have hr := rcv_of h6 h
  have h64 := pow_le64 h6
  have hpow : 2 ^ (d + 1) = 2 * 2 ^ d := by rw [Nat.pow_succ, Nat.mul_comm]
  have hne' : rcvL l ≠ [] := by unfold rcvL; simpa using hne
  have hlv := node_log v1 v2
  obtain ⟨A, hA⟩ : ∃ A, A = (covN s.Kind d (rcvL l)).filter fun y => decide (hdN d (rcvL l) 7 y.1 < v) := ⟨_, rfl⟩
  have hAl : A.length ≤ 127 := by rw [hA]; exact Nat.le_trans (List.length_filter_le _ _) (cov_len h6)
  have hAa : Asc A := by rw [hA]; exact List.Pairwise.filter _ cov_asc
  rw [← hA]
  have hmem : ∀ y, y ∈ A ↔ y ∈ covN s.Kind d (rcvL l) ∧ hdN d (rcvL l) 7 y.1 < v := fun y => by rw [hA, List.mem_filter, decide_eq_true_eq]
  -- what is new at v
  have hnew : ∀ B : List (Nat × Nat), Asc B → (∀ y, y ∈ B ↔ y ∈ A ∨ (y ∈ covN s.Kind d (rcvL l) ∧ hdN d (rcvL l) 7 y.1 = v)) → B = (covN s.Kind d (rcvL l)).filter fun y => decide (hdN d (rcvL l) 7 y.1 < v + 1) := by
    intro B hB hm
    refine asc_ext hB (List.Pairwise.filter _ cov_asc) fun y => ?_
    rw [hm, hmem, List.mem_filter, decide_eq_true_eq]
    constructor
    · rintro (⟨a, b⟩ | ⟨a, b⟩)
      · exact ⟨a, by omega⟩
      · exact ⟨a, by omega⟩
    · rintro ⟨a, b⟩
      by_cases e : hdN d (rcvL l) 7 y.1 = v
      · exact .inr ⟨a, e⟩
      · exact .inl ⟨a, by omega⟩
  have own : ∀ y, ownN s.Kind d (rcvL l) y = hdN d (rcvL l) 7 y.1 := fun y => by unfold ownN; rw [if_neg hk]
  have hout : hotB d (rcvL l) v = true → ∀ y, (y ∈ covN s.Kind d (rcvL l) ∧ hdN d (rcvL l) 7 y.1 = v) ↔ y ∈ outP s.Kind d (rcvL l) v := fun hh y => by rw [← own]; exact cov_own hr hne' hh y
  -- nothing new
  have none : (∀ y, ¬ (y ∈ covN s.Kind d (rcvL l) ∧ hdN d (rcvL l) 7 y.1 = v)) → A = (covN s.Kind d (rcvL l)).filter fun y => decide (hdN d (rcvL l) 7 y.1 < v + 1) := fun hn => hnew A hAa fun y => ⟨.inl, fun hh => hh.elim id fun hh => absurd hh (hn y)⟩
  simp only [ref03_CoverOf_L2, ref03_CoverOf_J4]
  rw [hd, recv_eq h6, bind_some, show w64 (2 * ((2 ^ d : Nat) : Int)) = ((2 * 2 ^ d : Nat) : Int) from by rw [w64_id (by omega) (by omega)]; omega, if_pos (by omega), rhot_eq h6 h hl v1, bind_some, if_neg hk, w64_nat (by omega)]
  have skip : (∀ y, ¬ (y ∈ covN s.Kind d (rcvL l) ∧ hdN d (rcvL l) 7 y.1 = v)) → rec (A.map mkS, ((v + 1 : Nat) : Int)) = rec (((covN s.Kind d (rcvL l)).filter fun y => decide (hdN d (rcvL l) 7 y.1 < v + 1)).map mkS, ((v + 1 : Nat) : Int)) := fun hn => by rw [← none hn]
  cases hh : hotB d (rcvL l) v with
  | false =>
    simp only [Bool.not_false, cond_true]
    refine skip fun y hy => ?_
    have := own_hot hr hne' hy.1
    rw [own, hy.2, hh] at this; cases this
  | true =>
    simp only [Bool.not_true, cond_false]
    have hv128 : v < 128 := by omega
    -- a head
    have go : isHd d (rcvL l) v = true → (Option.bind (ref03_foot (d : Int) l (v : Int)) fun x15 => if x15 = (v : Int) then rec (A.map mkS, ((v + 1 : Nat) : Int)) else Option.bind (ref03_IsSubset s (TSubset.mk (v : Int) x15)) fun x16 => bif x16 then Option.bind (ref03_insert (A.map mkS) (TSubset.mk (v : Int) x15)) fun x17 => rec (x17, ((v + 1 : Nat) : Int)) else Option.bind (ref03_between (d : Int) (v : Int) x15) fun x18 => Option.bind (ref03_insert (A.map mkS) (TSubset.mk (v : Int) x18)) fun x19 => Option.bind (ref03_insert x19 (TSubset.mk x18 x15)) fun x20 => rec (x20, ((v + 1 : Nat) : Int)))
        = rec (((covN s.Kind d (rcvL l)).filter fun y => decide (hdN d (rcvL l) 7 y.1 < v + 1)).map mkS, ((v + 1 : Nat) : Int)) := by
      intro hhd
      have hout' := hout hh
      unfold outP at hout'
      rw [if_neg hk, if_pos hhd] at hout'
      obtain ⟨w1, w2, w3, K, w4, w5, w6⟩ := foot_spec hr 7 v v1 hlv (by omega)
      rw [rfoot_eq h6 h hl v1 hlv, bind_some]
      generalize footN d (rcvL l) 7 v = w at *
      by_cases hw : w = v
      · rw [if_pos (by omega)]
        rw [if_pos hw] at hout'
        exact skip fun y hy => by have := (hout' y).1 hy; cases this
      · rw [if_neg (by omega)]
        rw [if_neg hw] at hout'
        have hlw := log2_div w K w4
        rw [← w5] at hlw
        have hK : 1 ≤ K := by
          rcases Nat.eq_zero_or_pos K with h0 | h0
          · subst h0; simp at w5; exact absurd w5.symm hw
          · exact h0
        have hw2 : w < 2 ^ (d + 1) := (Nat.log2_lt (by omega)).1 (by omega)
        have hbw : belowB w v = true := (below_iff w1).2 ⟨K, w4, w5⟩
        have hsub : ref03_IsSubset s ⟨(v : Int), (w : Int)⟩ = some (subN s.Kind d v w) := by
          rw [isSub_eq hv hd h6 v w]
          unfold subP
          rw [if_neg hk, if_neg (by omega), decide_eq_true ⟨v1, v2⟩, decide_eq_true ⟨hw2, hw⟩, hbw]; simp
        rw [hsub, bind_some]
        have apart : ∀ y : Nat × Nat, (y ∈ covN s.Kind d (rcvL l) ∧ hdN d (rcvL l) 7 y.1 = v) → ∀ a ∈ A, a.1 ≠ y.1 := fun y hy a ha he => by
          have h1 := ((hmem a).1 ha).2
          rw [he, hy.2] at h1; omega
        cases hsn : subN s.Kind d v w with
        | true =>
          rw [hsn, if_pos rfl] at hout'
          rw [cond_true]
          have hi := insert_eq A (v, w) (by omega)
          rw [show mkS (v, w) = (⟨(v : Int), (w : Int)⟩ : TSubset) from rfl] at hi
          rw [hi, bind_some]
          rw [hnew (insN A (v, w)) (ins_asc hAa (apart (v, w) ((hout' (v, w)).2 (by simp)))) fun y => by rw [ins_mem, hout']; simp]
        | false =>
          rw [hsn, if_neg (by simp)] at hout'
          rw [cond_false]
          have hw128 : w < 128 := by omega
          have hbt : ref03_between (d : Int) (v : Int) (w : Int) = some ((cutN d v w : Nat) : Int) := by
            obtain ⟨K', rfl⟩ : ∃ K', K = K' + 1 := ⟨K - 1, by omega⟩
            have := between_eq (d := d) (m := w) (k := K') h6 hw128 w4 (by omega)
            rw [← w5] at this
            rw [this]
            unfold cutN
            rw [show Nat.log2 w - Nat.log2 v - 1 = K' from by omega]
          have hi := insert_eq A (v, cutN d v w) (by omega)
          rw [show mkS (v, cutN d v w) = (⟨(v : Int), ((cutN d v w : Nat) : Int)⟩ : TSubset) from rfl] at hi
          have hi2 := insert_eq (insN A (v, cutN d v w)) (cutN d v w, w) (by rw [ins_len]; omega)
          rw [show mkS (cutN d v w, w) = (⟨((cutN d v w : Nat) : Int), (w : Int)⟩ : TSubset) from rfl] at hi2
          rw [hbt, bind_some, hi, bind_some, hi2, bind_some]
          have m1 := (hout' (v, cutN d v w)).2 (by simp)
          have m2 := (hout' (cutN d v w, w)).2 (by simp)
          obtain ⟨j, j1, j2, j3⟩ := cut_chain (k := s.Kind) (d := d) (.inr trivial) w4 w5 v1 hsn
          have hcv : cutN d v w ≠ v := by rw [j3, w5]; exact divk_ne w4 j2
          rw [hnew (insN (insN A (v, cutN d v w)) (cutN d v w, w)) (ins_asc (ins_asc hAa (apart _ m1)) fun a ha => by
            rcases ins_mem.1 ha with ha | rfl
            · exact apart _ m2 a ha
            · exact fun e => hcv e.symm) fun y => by rw [ins_mem, ins_mem, hout', or_assoc]; simp]
    by_cases hv1 : v = 1
    · rw [if_neg (by omega)]
      exact go (by unfold isHd; simp [hv1])
    · rw [if_pos (by omega), bit_xor hv128, rhot_eq h6 h hl (by have := sib_two_le hv128 (by omega); omega), bind_some]
      cases hs : hotB d (rcvL l) (v ^^^ 1) with
      | true =>
        simp only [Bool.not_true, cond_false]
        exact go (by unfold isHd; simp [hs])
      | false =>
        simp only [Bool.not_false, cond_true]
        refine skip fun y hy => ?_
        have h1 := (hout hh y).1 hy
        unfold outP at h1
        rw [if_neg hk, if_neg (by unfold isHd; simp [hs, hv1])] at h1
        cases h1
theorem rcov_round1 (hd : s.Depth = (d : Int)) (h6 : d ≤ 6) (h : lstB d l = true) (hl : l.length < 4611686018427387904) (hk : s.Kind = 1#8) {v : Nat} (v1 : 1 ≤ v) (v2 : v < 2 ^ (d + 1)) (rec : List TSubset × Int → Option (List TSubset)) :
    ref03_CoverOf_L2 s l rec (((covN s.Kind d (rcvL l)).filter fun y => decide (y.1 < v)).map mkS, (v : Int)) = rec (((covN s.Kind d (rcvL l)).filter fun y => decide (y.1 < v + 1)).map mkS, ((v + 1 : Nat) : Int)) := by
  have h64 := pow_le64 h6
  have hpow : 2 ^ (d + 1) = 2 * 2 ^ d := by rw [Nat.pow_succ, Nat.mul_comm]
  have hlen : ((covN s.Kind d (rcvL l)).filter fun y => decide (y.1 < v)).length ≤ 127 := Nat.le_trans (List.length_filter_le _ _) (cov_len h6)
  simp only [ref03_CoverOf_L2]
  rw [hd, recv_eq h6, bind_some, show w64 (2 * ((2 ^ d : Nat) : Int)) = ((2 * 2 ^ d : Nat) : Int) from by rw [w64_id (by omega) (by omega)]; omega, if_pos (by omega), rhot_eq h6 h hl v1, bind_some, if_pos hk]
  have hmin : minN s.Kind d (rcvL l) v = if (!hotB d (rcvL l) v && (decide (v = 1) || hotB d (rcvL l) (v / 2))) = true then some 0 else none := by unfold minN; rw [if_pos hk]
  -- the two ways
  have add : minN s.Kind d (rcvL l) v = some 0 → ref03_CoverOf_J3 (((covN s.Kind d (rcvL l)).filter fun y => decide (y.1 < v)).map mkS) (v : Int) rec true = rec (((covN s.Kind d (rcvL l)).filter fun y => decide (y.1 < v + 1)).map mkS, ((v + 1 : Nat) : Int)) := fun hm => by
    unfold ref03_CoverOf_J3
    rw [cond_true, appG_some (by simp; omega), bind_some, w64_nat (by omega)]
    have : ((covN s.Kind d (rcvL l)).filter fun y => decide (y.1 < v)) ++ [(v, 0)] = (covN s.Kind d (rcvL l)).filter fun y => decide (y.1 < v + 1) := by
      refine asc_ext ?_ (List.Pairwise.filter _ cov_asc) fun y => ?_
      · unfold Asc
        rw [List.pairwise_append]
        refine ⟨List.Pairwise.filter _ cov_asc, by simp, fun a ha b hb => ?_⟩
        simp only [List.mem_singleton] at hb
        subst hb
        have := (List.mem_filter.1 ha).2
        simpa using this
      · simp only [List.mem_append, List.mem_filter, List.mem_singleton, decide_eq_true_eq]
        constructor
        · rintro (⟨a, b⟩ | rfl)
          · exact ⟨a, by omega⟩
          · exact ⟨cov_mem.2 ⟨⟨v1, v2⟩, hm⟩, by simp⟩
        · rintro ⟨a, b⟩
          by_cases e : y.1 = v
          · right
            have := (cov_mem.1 a).2
            rw [e, hm] at this
            cases y; simp only at *; rw [e, ← Option.some.inj this]
          · exact .inl ⟨a, by omega⟩
    rw [← this, List.map_append]; rfl
  have no : minN s.Kind d (rcvL l) v = none → ref03_CoverOf_J3 (((covN s.Kind d (rcvL l)).filter fun y => decide (y.1 < v)).map mkS) (v : Int) rec false = rec (((covN s.Kind d (rcvL l)).filter fun y => decide (y.1 < v + 1)).map mkS, ((v + 1 : Nat) : Int)) := fun hm => by
    unfold ref03_CoverOf_J3
    rw [cond_false, w64_nat (by omega)]
    have : ((covN s.Kind d (rcvL l)).filter fun y => decide (y.1 < v)) = (covN s.Kind d (rcvL l)).filter fun y => decide (y.1 < v + 1) := by
      apply List.filter_congr
      intro y hy
      apply decide_eq_decide.2
      have hne : y.1 ≠ v := fun e => by have := (cov_mem.1 hy).2; rw [e, hm] at this; cases this
      omega
    rw [this]
  cases hh : hotB d (rcvL l) v with
  | true =>
    simp only [Bool.not_true, cond_false]
    exact no (by rw [hmin, hh]; simp)
  | false =>
    simp only [Bool.not_false, cond_true]
    by_cases hv1 : v = 1
    · rw [if_pos (by omega)]
      exact add (by rw [hmin, hh]; simp [hv1])
    · rw [if_neg (by omega), quo2 v (by omega), bind_some, rhot_eq h6 h hl (by omega), bind_some]
      cases hp : hotB d (rcvL l) (v / 2) with
      | true => exact add (by rw [hmin, hh, hp]; simp)
      | false => exact no (by rw [hmin, hh, hp]; simp [hv1])
end
def stA (k : BitVec 8) (d : Nat) (R : List Nat) (v : Nat) : List TSubset × Int := (((covN k d R).filter fun y => decide (y.1 < v)).map mkS, (v : Int))
def stB (k : BitVec 8) (d : Nat) (R : List Nat) (v : Nat) : List TSubset × Int := (((covN k d R).filter fun y => decide (hdN d R 7 y.1 < v)).map mkS, (v : Int))
theorem fix_up {σ R : Type} (F : (σ → Option R) → σ → Option R) (n : Nat) (st : Nat → σ) (r : Option R) (hs : ∀ rec j, 1 ≤ j → j < n → F rec (st j) = rec (st (j + 1))) (he : ∀ rec, F rec (st n) = r) : ∀ (m j f : Nat), 1 ≤ j → j + m = n → m < f → fixN F f (st j) = r
  | m, j, 0, _, _, h => by omega
  | 0, j, f + 1, _, hj, _ => by
    have : j = n := by omega
    subst this; rw [fix_step, he]
  | m + 1, j, f + 1, h1, hj, hf => by
    rw [fix_step, hs _ j h1 (by omega)]
    exact fix_up F n st r hs he m (j + 1) f (by omega) (by omega) (by omega)
theorem rcover_eq (s : TScheme) (l : List Int) (hl : l.length * 8 ≤ 140737488355328) : ref03_Cover s l = some (covP s l) := by
  unfold ref03_Cover covP
  rw [valid_eq, bind_some]
  cases hv : vldB s with
  | false => rfl
  | true =>
    obtain ⟨d, hd, h6⟩ := vld_depth hv
    have h64 := pow_le64 h6
    have hpow : 2 ^ (d + 1) = 2 * 2 ^ d := by rw [Nat.pow_succ, Nat.mul_comm]
    have hp := Nat.two_pow_pos d
    simp only [Bool.not_true, cond_false, if_true]
    rw [hd, Int.toNat_natCast, rlist_eq h6 l (by omega), bind_some]
    cases hb : lstB d l with
    | false => rfl
    | true =>
      simp only [Bool.not_true, cond_false, if_true]
      unfold ref03_CoverOf ref03_CoverOf_J1
      have hl2 : l.length < 4611686018427387904 := by omega
      obtain ⟨M, hM⟩ : ∃ M, M = 2 ^ (d + 1) := ⟨_, rfl⟩
      have hsum : 1 + (M - 1) = M := by omega
      have hfu : M - 1 < FUEL := fuel_lt (by omega)
      have hend : ∀ rec (A : List TSubset), ref03_CoverOf_L2 s l rec (A, (M : Int)) = some A := fun rec A => by
        simp only [ref03_CoverOf_L2]
        rw [hd, recv_eq h6, bind_some, show w64 (2 * ((2 ^ d : Nat) : Int)) = ((2 * 2 ^ d : Nat) : Int) from by rw [w64_id (by omega) (by omega)]; omega, if_neg (by rw [hM, hpow]; omega)]
      by_cases hk : s.Kind = 1#8
      · rw [if_neg (by simp [hk]), cond_false]
        have := fix_up (ref03_CoverOf_L2 s l) M (stA s.Kind d (rcvL l)) (some (stA s.Kind d (rcvL l) M).1) (fun rec j j1 j2 => rcov_round1 hd h6 hb hl2 hk j1 (hM ▸ j2) rec) (fun rec => hend rec _) (M - 1) 1 FUEL (Nat.le_refl _) hsum hfu
        rw [stA, stA, hM] at this
        have e1 : ((covN s.Kind d (rcvL l)).filter fun y => decide (y.1 < 1)) = [] := by
          rw [List.filter_eq_nil_iff]; intro y hy; have := (cov_mem.1 hy).1; simp; omega
        have e2 : ((covN s.Kind d (rcvL l)).filter fun y => decide (y.1 < 2 ^ (d + 1))) = covN s.Kind d (rcvL l) := by
          rw [List.filter_eq_self]; intro y hy; have := (cov_mem.1 hy).1; simpa using this.2
        rw [e1, e2] at this
        rw [show ((1 : Nat) : Int) = 1 from rfl] at this
        simp only [List.map_nil] at this
        rw [this, bind_some]
        by_cases hne : l = []
        · rw [if_pos hne]
          have e3 : covN s.Kind d (rcvL l) = [(1, 0)] := by
            subst hne
            refine asc_ext cov_asc (by unfold Asc; simp) fun y => ?_
            rw [cov_mem]
            have hno : ∀ x, hotB d (rcvL []) x = false := fun x => rfl
            unfold minN
            rw [if_pos hk, hno, hno]
            simp only [Bool.not_false, Bool.true_and, Bool.or_false, List.mem_singleton, decide_eq_true_eq]
            constructor
            · rintro ⟨_, hm⟩
              split at hm
              · rename_i e; cases y; simp only at *; rw [e, ← Option.some.inj hm]
              · cases hm
            · rintro rfl; exact ⟨⟨by omega, by rw [hpow]; show 1 < 2 * 2 ^ d; omega⟩, by simp⟩
          rw [e3]; rfl
        · rw [if_neg hne]
      · rw [if_pos (by simpa using hk)]
        by_cases hne : l = []
        · rw [decide_eq_true (by simp [hne]), cond_true, if_pos hne, bind_some]
        · rw [decide_eq_false (by intro h0; apply hne; exact List.eq_nil_of_length_eq_zero (by omega)), cond_false, if_neg hne]
          have := fix_up (ref03_CoverOf_L2 s l) M (stB s.Kind d (rcvL l)) (some (stB s.Kind d (rcvL l) M).1) (fun rec j j1 j2 => rcov_round hv hd h6 hb hl2 hk hne j1 (hM ▸ j2) rec) (fun rec => hend rec _) (M - 1) 1 FUEL (Nat.le_refl _) hsum hfu
          rw [stB, stB, hM] at this
          have hr := rcv_of h6 hb
          have hne' : rcvL l ≠ [] := by unfold rcvL; simpa using hne
          have hbd : ∀ y ∈ covN s.Kind d (rcvL l), 1 ≤ hdN d (rcvL l) 7 y.1 ∧ hdN d (rcvL l) 7 y.1 < 2 ^ (d + 1) := fun y hy => by
            have h1 := own_hot hr hne' hy
            unfold ownN at h1
            rw [if_neg hk] at h1
            obtain ⟨a, _, b⟩ := hot_log hr h1
            exact ⟨a, b⟩
          have e1 : ((covN s.Kind d (rcvL l)).filter fun y => decide (hdN d (rcvL l) 7 y.1 < 1)) = [] := by
            rw [List.filter_eq_nil_iff]; intro y hy; have := hbd y hy; simp; omega
          have e2 : ((covN s.Kind d (rcvL l)).filter fun y => decide (hdN d (rcvL l) 7 y.1 < 2 ^ (d + 1))) = covN s.Kind d (rcvL l) := by
            rw [List.filter_eq_self]; intro y hy; simpa using (hbd y hy).2
          rw [e1, e2] at this
          rw [show ((1 : Nat) : Int) = 1 from rfl] at this
          simp only [List.map_nil] at this
          rw [this, bind_some]
end Go.Sx

end
section
set_option linter.unusedVariables false
set_option linter.unusedSimpArgs false
namespace Go.Sx
open Go
/-! the same header -/
end Go.Sx

end
section
set_option linter.unusedVariables false
set_option linter.unusedSimpArgs false
namespace Go.Sx
open Go
abbrev hdr0 : THeader := THeader.mk [] 0#64 [] k0 k0
theorem sub_loop (root ses : W2) (s : TScheme) (hv : vldB s = true) (l : List TSubset) (hl : l.length ≤ 64) : ∀ (m j f f' : Nat), l.length - j = m → j ≤ l.length → m < f → m < f' → (∀ x ∈ l.take j, SubOk s x) →
    (fixN (cover_enter_L1 l (treeI s, true)) f (j : Int) = some (Tcover_tree.mk 0#8 0 0, 31) ∧ fixN (ref03_Seal_L1 root s l ses) f' (j : Int) = some (hdr0, 31)) ∨
    (fixN (cover_enter_L1 l (treeI s, true)) f (j : Int) = some (treeI s, 0) ∧ fixN (ref03_Seal_L1 root s l ses) f' (j : Int) = fixN (ref03_Seal_L2 root s l ses) FUEL (0, []) ∧ ∀ x ∈ l, SubOk s x)
  | m, j, 0, _, _, _, h, _, _ => by omega
  | m, j, _ + 1, 0, _, _, _, h, _ => by omega
  | 0, j, f + 1, f' + 1, hm, hj, _, _, hok => by
    rw [fix_step, fix_step]; simp only [cover_enter_L1, ref03_Seal_L1]
    rw [if_neg (by omega), if_neg (by omega)]
    refine .inr ⟨rfl, rfl, ?_⟩
    rw [List.take_of_length_le (by omega)] at hok; exact hok
  | m + 1, j, f + 1, f' + 1, hm, hj, hf, hf', hok => by
    rw [fix_step, fix_step]; simp only [cover_enter_L1, ref03_Seal_L1]
    have hjl : j < l.length := by omega
    obtain ⟨b, e1, e2, hb⟩ := subset_eq s hv l[j]
    rw [if_pos (by omega), if_pos (by omega), getI_some hjl, bind_some, bind_some, e1, e2, bind_some, bind_some]
    cases b with
    | false => exact .inl ⟨rfl, rfl⟩
    | true =>
      simp only [Bool.not_true, cond_false]
      rw [w64_id (by omega) (by omega)]
      refine sub_loop root ses s hv l hl m (j + 1) f f' (by omega) (by omega) (by omega) (by omega) ?_
      intro x hx
      rw [take_snoc l j hjl] at hx
      rcases List.mem_append.1 hx with h | h
      · exact hok x h
      · rw [List.mem_singleton] at h; subst h; exact hb rfl
theorem seal_loop (root ses : W2) (s : TScheme) (l : List TSubset) (hl : l.length ≤ 64) (hok : ∀ x ∈ l, SubOk s x) : ∀ (m j f f' : Nat) (acc : List TItem), l.length - j = m → j ≤ l.length → m < f → m < f' → acc.length = j →
    ∃ r, fixN (cover_Seal_L1 root l ses (treeI s, 0)) f ((j : Int), acc) = some r ∧ fixN (ref03_Seal_L2 root s l ses) f' ((j : Int), acc) = some r ∧ r.1.Items.length ≤ 64 ∧ r.1.Points.length ≤ 8
  | m, j, 0, _, _, _, _, h, _, _ => by omega
  | m, j, _ + 1, 0, _, _, _, _, h, _ => by omega
  | 0, j, f + 1, f' + 1, acc, hm, hj, _, _, ha => by
    rw [fix_step, fix_step]; simp only [cover_Seal_L1, ref03_Seal_L2]
    rw [if_neg (by omega), if_neg (by omega)]
    exact ⟨_, rfl, rfl, by simp only; omega, by simp⟩
  | m + 1, j, f + 1, f' + 1, acc, hm, hj, hf, hf', ha => by
    rw [fix_step, fix_step]; simp only [cover_Seal_L1, ref03_Seal_L2]
    have hjl : j < l.length := by omega
    obtain ⟨k, e1, e2⟩ := key_eq2 root s l[j] (hok _ (List.getElem_mem hjl))
    rw [if_pos (by omega), if_pos (by omega), getI_some hjl, bind_some, bind_some, bind_some, e1, e2, bind_some, bind_some, appG_some (by simp; omega), bind_some, bind_some, w64_id (by omega) (by omega)]
    exact seal_loop root ses s l hl hok m (j + 1) f f' _ (by omega) (by omega) (by omega) (by omega) (by simp [ha])
theorem seal_eq (root ses : W2) (s : TScheme) (l : List TSubset) (hl : l.length < 4611686018427387904) : ∃ r, cover_Seal root s l ses = some r ∧ ref03_Seal root s l ses = some r ∧ r.1.Items.length ≤ 64 ∧ r.1.Points.length ≤ 8 := by
  unfold cover_Seal ref03_Seal cover_Check
  rw [treeOf_eq, bind_some, valid_eq, bind_some]
  cases hv : vldB s with
  | false => exact ⟨_, rfl, rfl, by simp, by simp⟩
  | true =>
    simp only [if_true, Bool.not_true, cond_false]
    rw [bind_some, if_neg (by simp)]
    by_cases h64 : (64 : Int) < (l.length : Int)
    · rw [if_pos h64, if_pos h64]; exact ⟨_, rfl, rfl, by simp, by simp⟩
    · rw [if_neg h64, if_neg h64]
      unfold cover_enter
      rw [treeOf_eq, hv, bind_some]
      simp only [if_true, Bool.not_true, cond_false]
      rcases sub_loop root ses s hv l (by omega) _ 0 FUEL FUEL rfl (by omega) (fuel_lt (by omega)) (fuel_lt (by omega)) (by simp) with ⟨h1, h2⟩ | ⟨h1, h2, h3⟩
      · rw [show (0 : Int) = ((0 : Nat) : Int) from rfl, h1, h2, bind_some, if_pos (by simp)]
        exact ⟨_, rfl, rfl, by simp, by simp⟩
      · rw [show ((0 : Nat) : Int) = 0 from rfl] at h1 h2
        rw [h1, h2, bind_some, if_neg (by simp)]
        exact seal_loop root ses s l (by omega) h3 _ 0 FUEL FUEL [] rfl (by omega) (fuel_lt (by omega)) (fuel_lt (by omega)) rfl
end Go.Sx

end
section
set_option linter.unusedVariables false
set_option linter.unusedSimpArgs false
namespace Go.Sx
open Go
/-- the number in some bytes -/
def valB (l : List (BitVec 8)) : BitVec 64 := l.foldl (fun n c => 256#64 * n + c.setWidth 64) 0#64
theorem valB_snoc (l : List (BitVec 8)) (c : BitVec 8) : valB (l ++ [c]) = 256#64 * valB l + c.setWidth 64 := by simp [valB]
theorem value_loop (l : List (BitVec 8)) (hx : l.length ≤ 1000) : ∀ (m i fuel : Nat), l.length - i = m → i ≤ l.length → m < fuel → fixN (ref02_Value_L1 l) fuel (valB (l.take i), (i : Int)) = some (valB l)
  | m, i, 0, _, _, hf => by omega
  | 0, i, fuel + 1, hm, hi, hf => by
    rw [fix_step]; simp only [ref02_Value_L1]; rw [if_neg (by omega), List.take_of_length_le (by omega)]
  | m + 1, i, fuel + 1, hm, hi, hf => by
    rw [fix_step]; simp only [ref02_Value_L1]
    rw [if_pos (by omega), getI_some (by omega), bind_some, ← valB_snoc, ← take_snoc _ _ (by omega), w64_id (by omega) (by omega)]
    exact value_loop l hx m (i + 1) fuel (by omega) (by omega) (by omega)
theorem value_eq (l : List (BitVec 8)) (h : l.length ≤ 1000) : ref02_Value l = some (valB l) := value_loop l h _ 0 FUEL rfl (by omega) (fuel_lt (by omega))
theorem shl_or (a : BitVec 64) (c : BitVec 8) : (a <<< 8) ||| (c.setWidth 64) = 256#64 * a + c.setWidth 64 := by
  have e1 : 256#64 * a = a <<< 8 := by
    apply BitVec.eq_of_toNat_eq
    rw [BitVec.toNat_mul, BitVec.toNat_shiftLeft, Nat.shiftLeft_eq, Nat.mul_comm]; rfl
  rw [e1]
  symm
  apply BitVec.add_eq_or_of_and_eq_zero
  apply BitVec.eq_of_getLsbD_eq
  intro j hj
  rw [BitVec.getLsbD_and, BitVec.getLsbD_shiftLeft, BitVec.getLsbD_setWidth, BitVec.getLsbD_zero]
  by_cases h : j < 8
  · simp [h]
  · simp [BitVec.getLsbD_of_ge c j (by omega)]
theorem byt_wd (x : BitVec 64) (k : Nat) : (byt x k).setWidth 64 = wd (bt x k) := by
  rw [wd_bt]
  apply BitVec.eq_of_toNat_eq
  unfold byt
  rw [BitVec.toNat_setWidth, BitVec.toNat_setWidth, BitVec.toNat_and]
  have : (255#64 : BitVec 64).toNat = 2 ^ 8 - 1 := rfl
  rw [this, Nat.and_two_pow_sub_one_eq_mod]
  omega
theorem val_st (x : BitVec 64) (k : Nat) (hk : k < 8) : 256#64 * (x >>> (64 - 8 * k)) + (byt x k).setWidth 64 = x >>> (64 - 8 * (k + 1)) := by
  rw [← shl_or, byt_wd, shl_step x k hk]
theorem val_w8 (x : BitVec 64) : valB (w8 x) = x := by
  have h0 := val_st x 0 (by decide)
  have h1 := val_st x 1 (by decide)
  have h2 := val_st x 2 (by decide)
  have h3 := val_st x 3 (by decide)
  have h4 := val_st x 4 (by decide)
  have h5 := val_st x 5 (by decide)
  have h6 := val_st x 6 (by decide)
  have h7 := val_st x 7 (by decide)
  have hz : x >>> 64 = 0#64 := by apply BitVec.eq_of_toNat_eq; rw [BitVec.toNat_ushiftRight, Nat.shiftRight_eq_div_pow, Nat.div_eq_of_lt x.isLt]; rfl
  simp only [Nat.mul_zero, Nat.sub_zero, hz] at h0
  simp only [valB, w8, List.foldl_cons, List.foldl_nil, h0, h1, h2, h3, h4, h5, h6, h7]
  simp
theorem words_eq (p : W2) : ref02_words p = some p := by
  unfold ref02_words
  rw [show ((kby p).take 8).drop 0 = w8 p.1 from rfl, show ((kby p).take 16).drop 8 = w8 p.2 from rfl, value_eq _ (by rw [w8_len]; omega), bind_some, value_eq _ (by rw [w8_len]; omega), bind_some, val_w8, val_w8]
end Go.Sx

end
section
set_option linter.unusedVariables false
set_option linter.unusedSimpArgs false
namespace Go.Sx
open Go
end Go.Sx

end
section
set_option linter.unusedVariables false
set_option linter.unusedSimpArgs false
set_option linter.unusedSectionVars false
set_option maxRecDepth 100000
namespace Go.Sx.Po
open Go
/-- a number modulo q -/
def fi (q : Nat) [NeZero q] (n : Nat) : Fin q := Fin.ofNat q n
section
variable {q : Nat} [NeZero q]
/-! inverses -/
end
end Go.Sx.Po

end
section
set_option linter.unusedVariables false
set_option linter.unusedSimpArgs false
set_option maxRecDepth 100000
namespace Go.Sx.Po
open Go
/-- whether numbers are receivers, in ascending order -/
def lstB (d : Nat) (l : List Int) : Bool := (List.range l.length).all fun j => decide (0 ≤ l.getD j 0 ∧ l.getD j 0 < ((2 ^ d : Nat) : Int)) && (decide (j = 0) || decide (l.getD (j - 1) 0 < l.getD j 0))
theorem getD_some {l : List Int} {j : Nat} (h : j < l.length) : l.getD j 0 = l[j] := by simp [List.getD, h]
/-- a loop that leaves at the first element without a property -/
theorem all_itL {R : Type} (p : Nat → Bool) (D E : Option R) : ∀ (l : List Nat) (F : Nat → (Unit → Option R) → Unit → Option R), (∀ a ∈ l, ∀ nx s, F a nx s = bif p a then nx s else E) → itL F (fun _ => D) l () = bif l.all p then D else E
  | [], F, h => rfl
  | a :: l, F, h => by
    rw [itL_cons, h a (by simp), List.all_cons]
    cases p a with
    | false => rfl
    | true => rw [cond_true, Bool.true_and]; exact all_itL p D E l F (fun b hb => h b (by simp [hb]))
theorem rlist_eq {d : Nat} (h6 : d ≤ 6) (l : List Int) (hl : l.length < 4611686018427387904) : ref03_IsList (d : Int) l = some (lstB d l) := by
  unfold ref03_IsList lstB
  have := fix_range l.length (ref03_IsList_L1 (d : Int) l) (fun j (_ : Unit) => (j : Int)) (fun j nx s => bif decide (0 ≤ l.getD j 0 ∧ l.getD j 0 < ((2 ^ d : Nat) : Int)) && (decide (j = 0) || decide (l.getD (j - 1) 0 < l.getD j 0)) then nx s else some false) (fun _ => some true)
    (fun rec j hj _ => by
      simp only [ref03_IsList_L1, ref03_IsList_J2]
      rw [if_pos (by omega), getI_some hj, bind_some, bind_some, recv_eq h6, bind_some, getD_some hj, w64_nat (by omega)]
      by_cases h : 0 ≤ l[j]
      · rw [if_neg (by omega)]
        by_cases h2 : l[j] < ((2 ^ d : Nat) : Int)
        · rw [if_neg (by omega), decide_eq_true ⟨h, h2⟩]
          simp only [Bool.true_and]
          by_cases h0 : j = 0
          · rw [if_neg (by omega), decide_eq_true h0]; rfl
          · have hj1 : j - 1 < l.length := by omega
            rw [if_pos (by omega), bind_some, w64_id (by omega) (by omega), show (j : Int) - 1 = ((j - 1 : Nat) : Int) from by omega, getI_some hj1, bind_some, decide_eq_false h0, Bool.false_or, getD_some hj1]
            by_cases h1 : l[j] ≤ l[j - 1]
            · rw [decide_eq_true h1, decide_eq_false (by omega)]; rfl
            · rw [decide_eq_false h1, decide_eq_true (by omega)]; rfl
        · rw [if_pos (by omega), decide_eq_false (by omega)]; rfl
      · rw [if_pos (by omega), decide_eq_false (by omega)]; rfl)
    (fun rec _ => by simp only [ref03_IsList_L1]; rw [if_neg (by omega)]) (f := FUEL) (fuel_lt (by omega)) ()
  rw [show ((0 : Nat) : Int) = 0 from rfl] at this
  rw [this, all_itL _ (some true) (some false) _ _ (fun a _ nx s => rfl)]
  cases (List.range l.length).all _ <;> rfl
theorem lst_all {d : Nat} {l : List Int} (h : lstB d l = true) {j : Nat} (hj : j < l.length) : (0 ≤ l[j] ∧ l[j] < ((2 ^ d : Nat) : Int)) ∧ (j = 0 ∨ l.getD (j - 1) 0 < l[j]) := by
  have := List.all_eq_true.1 h j (by simpa using hj)
  rw [Bool.and_eq_true, decide_eq_true_eq, getD_some hj, Bool.or_eq_true, decide_eq_true_eq, decide_eq_true_eq] at this
  exact this
/-- the receivers of a list, aas numbers -/
theorem lst_nat {d : Nat} {l : List Int} (h : lstB d l = true) : ∃ ln : List Nat, l = ln.map (fun n : Nat => (n : Int)) ∧ (∀ n ∈ ln, n < 2 ^ d) ∧ ln.Pairwise (· < ·) := by
  refine ⟨l.map Int.toNat, ?_, ?_, ?_⟩
  · rw [List.map_map]
    apply List.ext_getElem
    · simp
    · intro i h1 h2
      have := (lst_all h h1).1.1
      simp only [List.getElem_map, Function.comp_apply]; omega
  · intro n hn
    obtain ⟨a, ha, rfl⟩ := List.mem_map.1 hn
    obtain ⟨j, hj, rfl⟩ := List.mem_iff_getElem.1 ha
    have := (lst_all h hj).1; omega
  · rw [List.pairwise_iff_getElem]
    have key : ∀ (m i : Nat) (h2 : i + m + 1 < l.length), l[i] < l[i + m + 1] := by
      intro m
      induction m with
      | zero =>
        intro i h2
        have := (lst_all h h2).2
        rw [getD_some (by omega)] at this
        simp only [Nat.add_zero, Nat.add_sub_cancel] at this ⊢
        omega
      | succ m ih =>
        intro i h2
        have h3 := ih i (by omega)
        have := (lst_all h h2).2
        rw [getD_some (by omega)] at this
        have e : l[i + (m + 1) + 1 - 1]'(by omega) = l[i + m + 1]'(by omega) := by congr 1
        rw [e] at this
        omega
    intro i j hi hj hij
    simp only [List.length_map] at hi hj
    simp only [List.getElem_map]
    have h1 := (lst_all h hi).1
    have h2 := key (j - i - 1) i (by omega)
    have e : l[i + (j - i - 1) + 1]'(by omega) = l[j] := by congr 1; omega
    rw [e] at h2
    omega
theorem lst_of {d : Nat} {ln : List Nat} (h1 : ∀ n ∈ ln, n < 2 ^ d) (h2 : ln.Pairwise (· < ·)) : lstB d (ln.map fun n : Nat => (n : Int)) = true := by
  unfold lstB
  rw [List.all_eq_true]
  intro j hj
  have hj' : j < ln.length := by simpa using hj
  have hl : j < (ln.map fun n : Nat => (n : Int)).length := by simpa using hj'
  rw [getD_some hl, List.getElem_map]
  have ha := h1 _ (List.getElem_mem hj')
  rw [Bool.and_eq_true, decide_eq_true_eq, Bool.or_eq_true, decide_eq_true_eq, decide_eq_true_eq]
  refine ⟨by omega, ?_⟩
  by_cases h0 : j = 0
  · exact .inl h0
  · right
    rw [getD_some (by simp; omega), List.getElem_map]
    have := (List.pairwise_iff_getElem.1 h2) (j - 1) j (by omega) hj' (by omega)
    omega
/-! the same -/
end Go.Sx.Po

end
