/- Numbers modulo a prime as a field: Fin q; what the program's and the document's calls come to. -/
import Derived.Test.YtkdghilkigojgaaPcM
import Derived.Test.YtkdghilkigojgaaVp
set_option linter.unusedVariables false
set_option linter.unusedSimpArgs false
set_option linter.unusedSectionVars false
set_option maxRecDepth 100000
namespace Go.Sx.Po
open Go

/-- a number modulo q -/
def fi (q : Nat) [NeZero q] (n : Nat) : Fin q := Fin.ofNat q n
/-- its word -/
abbrev fe {q : Nat} (a : Fin q) : BitVec 64 := bn a.val
section
variable {q : Nat} [NeZero q]
theorem fi_val (n : Nat) : (fi q n).val = n % q := rfl
theorem fi_self (a : Fin q) : fi q a.val = a := by apply Fin.ext; rw [fi_val]; exact Nat.mod_eq_of_lt a.isLt
theorem fi_add (a b : Nat) : fi q (a + b) = fi q a + fi q b := by apply Fin.ext; simp [fi, Fin.ofNat, Fin.add_def]
theorem fi_mul (a b : Nat) : fi q (a * b) = fi q a * fi q b := by apply Fin.ext; simp [fi, Fin.ofNat, Fin.mul_def]
theorem fi_mod (n : Nat) : fi q (n % q) = fi q n := by apply Fin.ext; rw [fi_val, fi_val, Nat.mod_mod]
theorem fi_0 : fi q 0 = 0 := rfl
theorem fi_1 : fi q 1 = 1 := rfl
theorem fi_q : fi q q = 0 := by apply Fin.ext; rw [fi_val, Nat.mod_self]; rfl
theorem fi_sub {a b : Nat} (h : b ≤ a) : fi q (a - b) = fi q a - fi q b := by
  have := fi_add (q := q) (a - b) b
  rw [Nat.sub_add_cancel h] at this
  grind
theorem fi_lt {n : Nat} (h : n < q) : (fi q n).val = n := Nat.mod_eq_of_lt h
theorem fi_inj {a b : Nat} (ha : a < q) (hb : b < q) (h : fi q a = fi q b) : a = b := by rw [← fi_lt ha, ← fi_lt hb, h]
theorem fe_fi {n : Nat} (h : n < q) : fe (fi q n) = bn n := by unfold fe; rw [fi_lt h]
theorem fmul_eq (q1 : 2 ≤ q) (q2 : q ≤ 1048575) (a b : Fin q) : poly_field_mul (bn q) [fe a, fe b] = some (fe (a * b)) := by
  rw [mul2_eq q1 q2 a.isLt b.isLt]; rfl
theorem fsub_eq (q1 : 2 ≤ q) (q2 : q ≤ 1048575) (a b : Fin q) : poly_field_sub (bn q) (fe a) (fe b) = some (fe (a - b)) := by
  have ha := a.isLt
  have hb := b.isLt
  unfold poly_field_sub fe
  rw [bn_add, bn_sub (by omega) (by omega), remU_bn (by omega) (by omega) (by omega), bind_some, Fin.sub_def]
  simp only
  congr 3; omega
theorem fminus_eq (q1 : 2 ≤ q) (q2 : q ≤ 1048575) (a b : Fin q) : ref04_minus (bn q) (fe a) (fe b) = some (fe (a - b)) := by
  have ha := a.isLt
  have hb := b.isLt
  unfold ref04_minus fe
  rw [remU_bn (by omega) (by omega) (by omega), bind_some, Nat.mod_eq_of_lt hb, bn_add, bn_sub (by omega) (by omega), remU_bn (by omega) (by omega) (by omega), bind_some, Fin.sub_def]
  simp only
  congr 3; omega
/-! inverses -/
theorem gcd_prm {q a : Nat} (hP : Prm q) (h0 : 0 < a) (h1 : a < q) : Nat.gcd q a = 1 := by
  have hg : Nat.gcd q a ∣ q := Nat.gcd_dvd_left q a
  have hga : Nat.gcd q a ∣ a := Nat.gcd_dvd_right q a
  have hle := Nat.le_of_dvd h0 hga
  have hpos : 0 < Nat.gcd q a := Nat.gcd_pos_of_pos_right _ h0
  rcases Nat.lt_or_ge (Nat.gcd q a) 2 with h | h
  · omega
  · exfalso
    obtain ⟨k, hk⟩ := hg
    have hk2 : 2 ≤ k := by
      rcases k with _ | _ | k
      · simp at hk; omega
      · simp at hk; omega
      · omega
    rcases Nat.le_total (Nat.gcd q a) k with hgk | hgk
    · refine hP.2 _ h ?_ (Nat.mod_eq_zero_of_dvd ⟨k, hk⟩)
      calc _ ≤ Nat.gcd q a * k := Nat.mul_le_mul_left _ hgk
        _ = q := hk.symm
    · refine hP.2 k hk2 ?_ (Nat.mod_eq_zero_of_dvd ⟨Nat.gcd q a, by rw [Nat.mul_comm]; exact hk⟩)
      calc k * k ≤ Nat.gcd q a * k := Nat.mul_le_mul_right _ hgk
        _ = q := hk.symm
theorem wd_bn (n : Nat) : wd (n : Int) = bn n := wd_nat n
theorem tdivN (a b : Nat) : Int.tdiv (a : Int) (b : Int) = ((a / b : Nat) : Int) := rfl
theorem tmodN (a b : Nat) : Int.tmod (a : Int) (b : Int) = ((a % b : Nat) : Int) := rfl
theorem tmodNeg (a b : Nat) : Int.tmod (-(a : Int)) (b : Int) = -((a % b : Nat) : Int) := by rw [Int.neg_tmod]; rfl
theorem quoI_some {a b : Int} (h : b ≠ 0) : quoI a b = some (w64 (a.tdiv b)) := if_neg h
theorem remI_some {a b : Int} (h : b ≠ 0) : remI a b = some (a.tmod b) := if_neg h
theorem inv_end {m : Nat} (m1 : 2 ≤ m) (m2 : m ≤ 1048575) (σ : Int) (hσ : σ = 1 ∨ σ = -1) (S : Nat) (hS : S ≤ m) :
    ∃ x : Nat, x < m ∧ (∃ j : Int, (x : Int) = σ * S + j * m) ∧ (Option.bind (remI (σ * S) (w64 (un (bn m)))) fun x12 => (Option.bind (remI (w64 (x12 + (w64 (un (bn m))))) (w64 (un (bn m)))) fun x13 => ((some (wd x13, (0 : Int)))))) = some (bn x, 0) := by
  have hun : w64 (un (bn m)) = (m : Int) := by rw [show un (bn m) = (m : Int) from by unfold un; rw [bn_nat (by omega)]]; exact w64_id (by omega) (by omega)
  have hlt := Nat.mod_lt S (show 0 < m by omega)
  have hdm := Nat.div_add_mod S m
  rw [hun, remI_some (by omega), bind_some]
  rcases hσ with rfl | rfl
  · refine ⟨S % m, hlt, ⟨-((S / m : Nat) : Int), ?_⟩, ?_⟩
    · have : ((m * (S / m) + S % m : Nat) : Int) = (S : Int) := by rw [hdm]
      grind
    · rw [Int.one_mul, tmodN, w64_id (by omega) (by omega), remI_some (by omega), bind_some, show ((S % m : Nat) : Int) + (m : Int) = ((S % m + m : Nat) : Int) from by omega, tmodN, Nat.add_mod_right, Nat.mod_mod, wd_bn]
  · refine ⟨(m - S % m) % m, Nat.mod_lt _ (by omega), ⟨((S / m : Nat) : Int) + (if S % m = 0 then 0 else 1), ?_⟩, ?_⟩
    · have : ((m * (S / m) + S % m : Nat) : Int) = (S : Int) := by rw [hdm]
      by_cases h0 : S % m = 0
      · rw [if_pos h0, h0, Nat.sub_zero, Nat.mod_self]; rw [h0] at this; grind
      · rw [if_neg h0, Nat.mod_eq_of_lt (by omega)]
        have e : ((m - S % m : Nat) : Int) = (m : Int) - ((S % m : Nat) : Int) := by omega
        rw [e]; grind
    · rw [show (-1 : Int) * (S : Int) = -(S : Int) from by omega, tmodNeg, w64_id (by omega) (by omega), remI_some (by omega), bind_some, show -((S % m : Nat) : Int) + (m : Int) = ((m - S % m : Nat) : Int) from by omega, tmodN, wd_bn]
theorem inv_loop {m : Nat} (m1 : 2 ≤ m) (m2 : m ≤ 1048575) (a : Int) : ∀ (f R N S T : Nat) (σ k l : Int), (σ = 1 ∨ σ = -1) → N < f → R ≤ m → N < R → S ≤ m → R * T + N * S = m → Nat.gcd R N = 1 → (R : Int) = (σ * S) * a + k * m → (N : Int) = (-σ * T) * a + l * m →
    ∃ x : Nat, x < m ∧ (∃ j : Int, (x : Int) * a = 1 + j * m) ∧ fixN (number_InvMod_L1 (bn m)) f ((R : Int), (N : Int), σ * S, -σ * T) = some (bn x, 0)
  | 0, R, N, S, T, σ, k, l, _, h, _, _, _, _, _, _, _ => by omega
  | f + 1, R, N, S, T, σ, k, l, hσ, hf, hR, hNR, hS, hm, hg, h1, h2 => by
    rw [fix_step]; simp only [number_InvMod_L1]
    by_cases h0 : N = 0
    · subst h0
      rw [if_neg (by simp)]
      have hR1 : R = 1 := by simpa using hg
      subst hR1
      rw [if_neg (by simp)]
      obtain ⟨x, x1, ⟨j, x2⟩, x3⟩ := inv_end m1 m2 σ hσ S hS
      refine ⟨x, x1, ⟨j * a - k, ?_⟩, x3⟩
      rw [x2]; grind
    · have hq0 : R / N * N ≤ R := Nat.div_mul_le_self R N
      have hdm := Nat.div_add_mod R N
      have hlt := Nat.mod_lt R (show 0 < N by omega)
      have hqm : R / N ≤ m := Nat.le_trans (Nat.div_le_self R N) hR
      have hgr : Nat.gcd N (R % N) = 1 := by rw [← hg, Nat.gcd_comm R N, Nat.gcd_rec N R, Nat.gcd_comm]
      rw [if_pos (by omega), quoI_some (by omega), bind_some, tdivN]
      generalize R / N = Q at *
      generalize R % N = M at *
      have hTm : T ≤ m := by
        have : 1 * T ≤ R * T := Nat.mul_le_mul_right _ (by omega)
        omega
      have hqT : Q * T ≤ m := by
        have h3 : N * (Q * T) ≤ R * T := by rw [← Nat.mul_assoc]; exact Nat.mul_le_mul_right _ (by rw [Nat.mul_comm]; exact hq0)
        have h4 : 1 * (Q * T) ≤ N * (Q * T) := Nat.mul_le_mul_right _ (by omega)
        omega
      rw [w64_id (n := ((Q : Nat) : Int)) (by omega) (by omega)]
      have e1 : w64 ((R : Int) - w64 (((Q : Nat) : Int) * (N : Int))) = ((M : Nat) : Int) := by
        have : ((Q : Nat) : Int) * (N : Int) = ((Q * N : Nat) : Int) := by push_cast; rfl
        rw [this, w64_id (n := ((Q * N : Nat) : Int)) (by omega) (by omega), w64_id (by omega) (by omega)]
        rw [Nat.mul_comm] at hq0
        have : ((N * (Q) + M : Nat) : Int) = (R : Int) := by rw [hdm]
        rw [Nat.mul_comm (Q) N]; omega
      have e2 : w64 (((Q : Nat) : Int) * (-σ * (T : Int))) = -σ * ((Q * T : Nat) : Int) := by
        have e : ((Q : Nat) : Int) * (-σ * (T : Int)) = -σ * ((Q * T : Nat) : Int) := by push_cast; grind
        rw [e]
        rcases hσ with rfl | rfl <;> exact w64_id (by omega) (by omega)
      have e3 : w64 (σ * (S : Int) - -σ * ((Q * T : Nat) : Int)) = -(-σ) * ((S + Q * T : Nat) : Int) := by
        have e : σ * (S : Int) - -σ * ((Q * T : Nat) : Int) = -(-σ) * ((S + Q * T : Nat) : Int) := by push_cast; grind
        rw [e]
        rcases hσ with rfl | rfl <;> exact w64_id (by omega) (by omega)
      rw [e1, e2, e3]
      have hc : ((N * (Q) + M : Nat) : Int) = (R : Int) := by rw [hdm]
      refine inv_loop m1 m2 a f N (M) T (S + Q * T) (-σ) l (k - ((Q : Nat) : Int) * l) (by rcases hσ with rfl | rfl <;> simp) (by omega) (by omega) hlt hTm ?_ ?_ ?_ ?_
      · have : N * (S + Q * T) + M * T = N * S + (N * (Q) + M) * T := by grind
        rw [this, hdm]; omega
      · exact hgr
      · exact h2
      · push_cast at hc ⊢
        grind
theorem inverse_loop (q1 : 2 ≤ q) (q2 : q ≤ 1048575) (α : Fin q) : ∀ (f A B : Nat) (X Y : Fin q), B < f → A ≤ q → B ≤ q → Nat.gcd A B = 1 → fi q A = X * α → fi q B = Y * α →
    ∃ x : Fin q, x * α = 1 ∧ fixN (ref01_Inverse_L1 (bn q)) f (bn A, fe X, bn B, fe Y) = some (fe x, true)
  | 0, A, B, X, Y, h, _, _, _, _, _ => by omega
  | f + 1, A, B, X, Y, hf, hA, hB, hg, h1, h2 => by
    rw [fix_step]; simp only [ref01_Inverse_L1]
    have hX := X.isLt
    have hY := Y.isLt
    by_cases h0 : B = 0
    · subst h0
      have hA1 : A = 1 := by simpa using hg
      subst hA1
      rw [if_neg (by simp)]
      exact ⟨X, h1.symm.trans fi_1, rfl⟩
    · have hlt := Nat.mod_lt A (show 0 < B by omega)
      have hdm := Nat.div_add_mod A B
      have hle := Nat.div_le_self A B
      have hq0 : A / B * B ≤ A := Nat.div_mul_le_self A B
      have hz : ¬ bn B = 0#64 := bn_ne0 (by omega) (by omega)
      have hmq := Nat.mod_lt (A / B) (show 0 < q by omega)
      have hp1 : A / B % q * Y.val ≤ 1048575 * 1048575 := Nat.mul_le_mul (by omega) (by omega)
      have hm2 := Nat.mod_lt (A / B % q * Y.val) (show 0 < q by omega)
      rw [if_pos hz, quoU_bn (by omega) (by omega) (by omega), bind_some, remU_bn (by omega) (by omega) (by omega), bind_some, bn_mul, remU_bn (by omega) (by omega) (by omega), bind_some, bn_sub (by omega) (by omega), bn_add, remU_bn (by omega) (by omega) (by omega), bind_some, bn_mul, bn_sub (by omega) (by omega)]
      have e : A - A / B * B = A % B := by rw [Nat.mul_comm] at hq0 ⊢; omega
      rw [e]
      have hA' : fi q A = fi q B * fi q (A / B) + fi q (A % B) := by rw [← fi_mul, ← fi_add, hdm]
      have hY' : fi q ((X.val + (q - A / B % q * Y.val % q)) % q) = X - fi q (A / B) * Y := by
        rw [fi_mod, fi_add, fi_self, fi_sub (by omega), fi_q, fi_mod, fi_mul, fi_mod, fi_self]; grind
      rw [show bn ((X.val + (q - A / B % q * Y.val % q)) % q) = fe (X - fi q (A / B) * Y) from by rw [← hY', fe_fi (Nat.mod_lt _ (by omega))]]
      refine inverse_loop q1 q2 α f B (A % B) Y _ (by omega) hB (by omega) ?_ h2 ?_
      · rw [← hg, Nat.gcd_comm A B, Nat.gcd_rec B A, Nat.gcd_comm]
      · grind
/-- both ways to the inverse -/
theorem inv_eq (hP : Prm q) (q2 : q ≤ 1048575) {α : Fin q} (hα : α ≠ 0) : ∃ x : Fin q, α * x = 1 ∧ number_InvMod (fe α) (bn q) = some (fe x, 0) ∧ ref01_Inverse (fe α) (bn q) = some (fe x, true) := by
  have q1 := hP.1
  have ha := α.isLt
  have h0 : 0 < α.val := by
    rcases Nat.eq_zero_or_pos α.val with h | h
    · exact absurd (Fin.ext h) hα
    · exact h
  have hg := gcd_prm hP h0 ha
  obtain ⟨x, x1, ⟨j, x2⟩, x3⟩ := inv_loop q1 q2 (α.val : Int) FUEL q α.val 0 1 (-1) 1 0 (.inr rfl) (fuel_lt (by omega)) (Nat.le_refl _) ha (by omega) (by omega) hg (by simp) (by simp)
  obtain ⟨y, y1, y2⟩ := inverse_loop q1 q2 α FUEL α.val q 1 0 (fuel_lt (by omega)) (by omega) (Nat.le_refl _) (by rw [Nat.gcd_comm]; exact hg) (by rw [fi_self]; grind) (by rw [fi_q]; grind)
  have hx : fi q x * α = 1 := by
    have h1 : fi q (x * α.val) = fi q x * α := by rw [fi_mul, fi_self]
    rw [← h1]
    apply Fin.ext
    have e1 : (1 : Fin q).val = 1 := Nat.mod_eq_of_lt (show 1 < q by omega)
    rw [fi_val, e1]
    have h2 : ((x * α.val % q : Nat) : Int) = 1 := by
      push_cast
      rw [x2, Int.add_mul_emod_self_right]
      exact Int.emod_eq_of_lt (by omega) (by omega)
    omega
  have hxy : fi q x = y := by grind
  refine ⟨y, by grind, ?_, ?_⟩
  · unfold number_InvMod number_modulus
    have hun : ∀ n : Nat, n < 9223372036854775807 → w64 (un (bn n)) = (n : Int) := fun n hn => by rw [show un (bn n) = (n : Int) from by unfold un; rw [bn_nat (by omega)]]; exact w64_id (by omega) (by omega)
    rw [show (1#64) = bn 1 from rfl, if_pos ((bn_le (by omega) (by omega)).2 (by omega)), bind_some, show (4294967296#64) = bn 4294967296 from rfl, decide_eq_true ((bn_lt (by omega) (by omega)).2 (by omega))]
    simp only [Bool.not_true, cond_false]
    rw [remU_bn (by omega) (by omega) (by omega), bind_some, Nat.mod_eq_of_lt ha, hun q (by omega), hun _ (by omega)]
    rw [show (0 : Int) = -1 * ((0 : Nat) : Int) from by simp, show (1 : Int) = -(-1) * ((1 : Nat) : Int) from by simp] 
    rw [← hxy, fe_fi x1]
    exact x3
  · unfold ref01_Inverse
    rw [show (1#64) = bn 1 from rfl, remU_bn (by omega) (by omega) (by omega), bind_some, remU_bn (by omega) (by omega) (by omega), bind_some, Nat.mod_eq_of_lt ha, Nat.mod_eq_of_lt (show 1 < q by omega)]
    have e1 : bn 1 = fe (1 : Fin q) := by unfold fe; rw [show (1 : Fin q).val = 1 from Nat.mod_eq_of_lt (show 1 < q by omega)]
    have e0 : (0#64) = fe (0 : Fin q) := rfl
    rw [e1, e0]
    exact y2
end
end Go.Sx.Po
