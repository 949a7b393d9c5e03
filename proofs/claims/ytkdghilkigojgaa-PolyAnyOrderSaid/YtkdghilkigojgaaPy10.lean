/- merged by mg.py: Nm Vb Vp Ls Pse Fq Byp Pop Poq Nd Pua Pub Puc Pud Ob Od Alp LawQh -/
import Derived.Test.YtkdghilkigojgaaPaM
import Derived.Test.YtkdghilkigojgaaFy
import Derived.Test.YtkdghilkigojgaaPbM
import Derived.Test.YtkdghilkigojgaaPcM
import Derived.Test.YtkdghilkigojgaaPl
import Derived.Test.YtkdghilkigojgaaPpM
import Derived.Test.YtkdghilkigojgaaWd
import Derived.Test.YtkdghilkigojgaaQhM
import Derived.Test.YtkdghilkigojgaaPl4M
import Derived.KernelRfl
import Derived.Test.YtkdghilkigojgaaOpnQh
section
/- Numbers modulo, plainly: primes, powers, groups; the program's and the document's come to the same. -/
set_option linter.unusedVariables false
set_option linter.unusedSimpArgs false
set_option maxRecDepth 100000
namespace Go.Sx.Po
open Go

abbrev bn (n : Nat) : BitVec 64 := BitVec.ofNat 64 n
/-! primes -/
def Prm (n : Nat) : Prop := 2 ≤ n ∧ ∀ e, 2 ≤ e → e * e ≤ n → n % e ≠ 0
/-! powers -/
end Go.Sx.Po

end
section
/- Bytes and words, plainly; and loops of n rounds. -/
set_option linter.unusedVariables false
set_option linter.unusedSimpArgs false
set_option maxRecDepth 100000
namespace Go.Sx.Po
open Go

theorem fix_go {τ R : Type} (F : (τ → Option R) → τ → Option R) (I : Nat → τ → Prop) (n : Nat) (r : Option R) (hn : n < 9223372036854775808) {s : τ} (h0 : I 0 s) (hs : ∀ j s, j < n → I j s → ∃ s', I (j + 1) s' ∧ ∀ rec, F rec s = rec s') (he : ∀ s, I n s → ∀ rec, F rec s = r) : fixN F FUEL s = r :=
  fix_run F I n r hs he n 0 FUEL s (by omega) (fuel_lt hn) h0
end Go.Sx.Po

end
section
/- Schemes with a polynomial, plainly: valid, coefficients, values. -/
set_option linter.unusedVariables false
set_option linter.unusedSimpArgs false
set_option maxRecDepth 100000
namespace Go.Sx.Po
open Go

def GrpOk (p q g : Nat) : Prop := (p ≤ 1048575 ∧ Prm p) ∧ (q ≤ 1048575 ∧ Prm q) ∧ (p - 1) % q = 0 ∧ 2 ≤ g ∧ g < p ∧ g ^ q % p = 1
/-! schemes -/
theorem recv_fin : ∀ d : Fin 7, ref03_Receivers (d.1 : Int) = some ((2 ^ d.1 : Nat) : Int) := by decide +kernel
theorem recv_eq {d : Nat} (h : d ≤ 6) : ref03_Receivers (d : Int) = some ((2 ^ d : Nat) : Int) := recv_fin ⟨d, by omega⟩
theorem shl_fin : ∀ d : Fin 7, shlI 1 d.1 = ((2 ^ d.1 : Nat) : Int) := by decide +kernel
theorem shl1 {d : Nat} (h : d ≤ 6) : shlI 1 d = ((2 ^ d : Nat) : Int) := shl_fin ⟨d, by omega⟩
theorem shG_nat (n : Nat) : shG (n : Int) = some n := by unfold shG; rw [if_pos (by omega)]; rfl
theorem pow_le64 {d : Nat} (h : d ≤ 6) : 2 ^ d ≤ 64 := Nat.le_trans (Nat.pow_le_pow_right (by omega) h) (by decide)
/-- a valid scheme, in numbers -/
structure Vld (s : TScheme) (d t p q g : Nat) : Prop where
  kind : s.Kind = 4#8
  depth : s.Depth = (d : Int)
  deg : s.Degree = (t : Int)
  d6 : d ≤ 6
  t1 : 1 ≤ t
  t8 : t ≤ 8
  grp : s.Group = ⟨bn p, bn q, bn g⟩
  ok : GrpOk p q g
  big : 2 ^ d + t < q
/-! coefficients -/
/-! values -/
end Go.Sx.Po

end
section
/- Lists of receivers, plainly; things compared with themselves. -/
set_option linter.unusedVariables false
set_option linter.unusedSimpArgs false
set_option maxRecDepth 100000
namespace Go.Sx.Po
open Go

/-- a loop that leaves at the first element without a property -/
theorem all_itL {R : Type} (p : Nat → Bool) (D E : Option R) : ∀ (l : List Nat) (F : Nat → (Unit → Option R) → Unit → Option R), (∀ a ∈ l, ∀ nx s, F a nx s = bif p a then nx s else E) → itL F (fun _ => D) l () = bif l.all p then D else E
  | [], F, h => rfl
  | a :: l, F, h => by
    rw [itL_cons, h a (by simp), List.all_cons]
    cases p a with
    | false => rfl
    | true => rw [cond_true, Bool.true_and]; exact all_itL p D E l F (fun b hb => h b (by simp [hb]))
/-! the same -/
theorem same_go {R : Type} (n : Nat) (F : (Int → Option R) → Int → Option R) (r : Option R) (hn : n < 4611686018427387904) (h1 : ∀ rec (j : Nat), j < n → F rec (j : Int) = rec ((j + 1 : Nat) : Int)) (h2 : ∀ rec, F rec (n : Int) = r) : fixN F FUEL 0 = r :=
  fix_go F (fun j s => s = (j : Int)) n r (by omega) rfl (fun j s hj hs => ⟨_, rfl, fun rec => by rw [hs]; exact h1 rec j hj⟩) (fun s hs rec => by rw [hs]; exact h2 rec)
end Go.Sx.Po

end
section
/- Sealing with a polynomial, plainly: what a header is; both sides come to it. -/
set_option linter.unusedVariables false
set_option linter.unusedSimpArgs false
set_option maxRecDepth 100000
namespace Go.Sx.Po
open Go

section
variable {s : TScheme} {d t p q g : Nat}
end
section
variable {s : TScheme} {d t p q g : Nat}
end
end Go.Sx.Po

end
section
/- Numbers modulo a prime as a field: Fin q; what the program's and the document's calls come to. -/
set_option linter.unusedVariables false
set_option linter.unusedSimpArgs false
set_option linter.unusedSectionVars false
set_option maxRecDepth 100000
namespace Go.Sx.Po
open Go

/-- its word -/
abbrev fe {q : Nat} (a : Fin q) : BitVec 64 := bn a.val
section
variable {q : Nat} [NeZero q]
/-! inverses -/
end
end Go.Sx.Po

end
section
/- The document's cipher on the mirrors: Decrypt is decr. -/
set_option linter.unusedVariables false
set_option linter.unusedSimpArgs false
namespace Go.Sx.Po.Cy
open Go

end Go.Sx.Po.Cy

end
section
/- Opening with a polynomial, plainly: what a right header is, the factors, the mask; both sides come to it. -/
set_option linter.unusedVariables false
set_option linter.unusedSimpArgs false
set_option linter.unusedSectionVars false
set_option maxRecDepth 100000
namespace Go.Sx.Po
open Go

/-! ### the first element with a property -/
theorem find_loop {α : Type} (l : List α) (hl : l.length < 4611686018427387904) (p : α → Bool) (F : (Int → Option Int) → Int → Option Int)
    (h1 : ∀ rec (j : Nat) (hj : j < l.length), F rec (j : Int) = bif p l[j] then some (j : Int) else rec ((j + 1 : Nat) : Int)) (h2 : ∀ rec, F rec (l.length : Int) = some (-1)) :
    ∀ (m j f : Nat), j + m = l.length → m < f → fixN F f (j : Int) = some (match (l.drop j).findIdx? p with | some i => ((j + i : Nat) : Int) | none => -1)
  | m, j, 0, _, h => by omega
  | 0, j, f + 1, hj, _ => by
    have : j = l.length := by omega
    subst this
    rw [fix_step, h2, List.drop_length]; rfl
  | m + 1, j, f + 1, hj, hf => by
    have hjl : j < l.length := by omega
    rw [fix_step, h1 _ j hjl, List.drop_eq_getElem_cons hjl, List.findIdx?_cons]
    cases hp : p l[j] with
    | true => rw [cond_true]; simp
    | false =>
      rw [cond_false, find_loop l hl p F h1 h2 m (j + 1) f (by omega) (by omega)]
      simp only [Bool.false_eq_true, if_false]
      cases (l.drop (j + 1)).findIdx? p with
      | none => rfl
      | some i => simp only [Option.map_some]; congr 2; omega
theorem find_go {α : Type} (l : List α) (hl : l.length < 4611686018427387904) (p : α → Bool) (F : (Int → Option Int) → Int → Option Int)
    (h1 : ∀ rec (j : Nat) (hj : j < l.length), F rec (j : Int) = bif p l[j] then some (j : Int) else rec ((j + 1 : Nat) : Int)) (h2 : ∀ rec, F rec (l.length : Int) = some (-1)) :
    fixN F FUEL 0 = some (match l.findIdx? p with | some i => (i : Int) | none => -1) := by
  have := find_loop l hl p F h1 h2 l.length 0 FUEL (by omega) (fuel_lt (by omega))
  rw [List.drop_zero, show ((0 : Nat) : Int) = 0 from rfl] at this
  rw [this]
  cases l.findIdx? p with
  | none => rfl
  | some i => simp
theorem idx_any {α : Type} (l : List α) (p : α → Bool) : decide ((0 : Int) ≤ (match l.findIdx? p with | some i => (i : Int) | none => -1)) = l.any p := by
  cases h : l.findIdx? p with
  | none =>
    have : l.any p = false := by
      rw [List.findIdx?_eq_none_iff] at h
      rw [List.any_eq_false]; intro x hx; rw [h x hx]; simp
    rw [this]; rfl
  | some i =>
    have : l.any p = true := by
      have h3 := List.findIdx?_eq_some_iff_getElem.1 h
      obtain ⟨h4, h5, _⟩ := h3
      exact List.any_eq_true.2 ⟨_, List.getElem_mem h4, h5⟩
    rw [this]; simp
/-! ### distinct points -/
/-! ### right headers -/
end Go.Sx.Po

end
section
/- Opening with a polynomial, plainly, on: the document's test of a header, the factors, the mask. -/
set_option linter.unusedVariables false
set_option linter.unusedSimpArgs false
set_option linter.unusedSectionVars false
set_option maxRecDepth 100000
namespace Go.Sx.Po
open Go

theorem all_and {α : Type} (l : List α) (f g : α → Bool) : (l.all fun x => f x && g x) = (l.all f && l.all g) := by
  induction l with
  | nil => rfl
  | cons a l ih => simp only [List.all_cons, ih]; cases f a <;> cases g a <;> simp
theorem range_all {α : Type} (l : List α) (f : α → Bool) (d : α) : ((List.range l.length).all fun j => f (l.getD j d)) = l.all f := by
  rw [Bool.eq_iff_iff, List.all_eq_true, List.all_eq_true]
  constructor
  · intro h x hx
    obtain ⟨j, hj, rfl⟩ := List.mem_iff_getElem.1 hx
    have := h j (by simpa using hj)
    rwa [List.getD_eq_getElem?_getD, List.getElem?_eq_getElem hj] at this
  · intro h j hj
    have hj' : j < l.length := by simpa using hj
    rw [List.getD_eq_getElem?_getD, List.getElem?_eq_getElem hj']
    exact h _ (List.getElem_mem hj')
/-! ### factors -/
open Classical in
section
variable {q : Nat} [NeZero q]
/-! ### the mask -/
variable {s : TScheme} {d t p g : Nat}
end
end Go.Sx.Po

end
section
/- Nodes of a tree, plainly: below, paths, siblings. -/
set_option linter.unusedVariables false
set_option linter.unusedSimpArgs false
set_option maxRecDepth 100000
namespace Go.Sx.Po
open Go

theorem log2_div (n k : Nat) (h : 2 ^ k ≤ n) : Nat.log2 n = Nat.log2 (n / 2 ^ k) + k := by
  induction k generalizing n with
  | zero => simp
  | succ k ih =>
    have h2 : 2 ^ k ≤ n / 2 := by rw [Nat.le_div_iff_mul_le (by omega)]; rw [Nat.pow_succ] at h; omega
    have h1 : 2 ≤ n := by have : 0 < 2 ^ k := Nat.two_pow_pos k; rw [Nat.pow_succ] at h; omega
    rw [Nat.log2_def, if_pos h1, ih (n / 2) h2, Nat.div_div_eq_div_mul, Nat.pow_succ, Nat.mul_comm 2]; omega
theorem log2_half {n : Nat} (h : 2 ≤ n) : Nat.log2 n = Nat.log2 (n / 2) + 1 := by rw [Nat.log2_def, if_pos h]
theorem log2_mono {m n : Nat} (h : m ≤ n) : Nat.log2 m ≤ Nat.log2 n := by
  rcases Nat.eq_zero_or_pos m with h0 | h0
  · subst h0; rw [Nat.log2_zero]; omega
  · exact (Nat.le_log2 (by omega)).2 (Nat.le_trans (Nat.log2_self_le (by omega)) h)
theorem log2_le62 {n : Nat} (h : n < 9223372036854775808) : Nat.log2 n ≤ 62 := by
  rcases Nat.eq_zero_or_pos n with h0 | h0
  · subst h0; rw [Nat.log2_zero]; omega
  · have : Nat.log2 n < 63 := (Nat.log2_lt (by omega)).2 (by omega)
    omega
theorem un_wdn {n : Nat} (h : n < 9223372036854775808) : un (wd (n : Int)) = (n : Int) := un_wd _ (by omega) (by omega)
theorem lg_nat {n : Nat} (h : 1 ≤ n) : lg (n : Int) = (Nat.log2 n : Int) + 1 := by unfold lg; rw [Int.toNat_natCast, if_neg (by omega)]
theorem quo2 (n : Nat) (h : n < 9223372036854775808) : quoI (n : Int) 2 = some ((n / 2 : Nat) : Int) := by
  unfold quoI
  rw [if_neg (by decide), show (n : Int).tdiv 2 = ((n / 2 : Nat) : Int) from by rw [Int.tdiv_eq_ediv_of_nonneg (by omega)]; omega, w64_id (by omega) (by omega)]
/-- whether a node is below another one -/
def belowB (w v : Nat) : Bool := decide (Nat.log2 v ≤ Nat.log2 w ∧ w / 2 ^ (Nat.log2 w - Nat.log2 v) = v)
theorem belowB_step {w v : Nat} (hv : 1 ≤ v) (h : v < w) : belowB w v = belowB (w / 2) v := by
  have hh := log2_half (n := w) (by omega)
  have hm := log2_mono (Nat.le_of_lt h)
  unfold belowB
  by_cases hl : Nat.log2 v ≤ Nat.log2 (w / 2)
  · have e : Nat.log2 w - Nat.log2 v = (Nat.log2 (w / 2) - Nat.log2 v) + 1 := by omega
    have e2 : w / 2 ^ (Nat.log2 w - Nat.log2 v) = w / 2 / 2 ^ (Nat.log2 (w / 2) - Nat.log2 v) := by rw [e, Nat.div_div_eq_div_mul, Nat.pow_succ, Nat.mul_comm 2]
    rw [e2]
    apply decide_eq_decide.2
    constructor
    · rintro ⟨_, h2⟩; exact ⟨hl, h2⟩
    · rintro ⟨_, h2⟩; exact ⟨hm, h2⟩
  · rw [decide_eq_false (p := _ ∧ w / 2 / 2 ^ _ = v) (fun hc => hl hc.1)]
    apply decide_eq_false
    rintro ⟨_, h2⟩
    rw [show Nat.log2 w - Nat.log2 v = 0 from by omega, Nat.pow_zero, Nat.div_one] at h2
    omega
theorem belowB_le {w v : Nat} (hw : 1 ≤ w) (h : w ≤ v) : belowB w v = decide (w = v) := by
  unfold belowB
  by_cases e : w = v
  · subst e; simp
  · rw [decide_eq_false e]
    apply decide_eq_false
    rintro ⟨h1, h2⟩
    have := log2_mono h
    rw [show Nat.log2 w - Nat.log2 v = 0 from by omega, Nat.pow_zero, Nat.div_one] at h2
    exact e h2
theorem shr_nat (n k : Nat) (hk : k ≤ 64) : shrI (n : Int) k = ((n / 2 ^ k : Nat) : Int) := by
  unfold shrI
  rw [Nat.min_eq_left hk, Int.natCast_ediv, Int.natCast_pow]; rfl
theorem rbelow_loop {v : Nat} (hv : 1 ≤ v) : ∀ (f w : Nat), 1 ≤ w → w < 9223372036854775808 → Nat.log2 w < f → fixN (ref03_Below_L1 (v : Int)) f (w : Int) = some (belowB w v)
  | 0, w, _, _, h => by omega
  | f + 1, w, hw, hw2, hf => by
    rw [fix_step]; simp only [ref03_Below_L1]
    by_cases h : v < w
    · have hh := log2_half (n := w) (by omega)
      rw [if_pos (by omega), quo2 w hw2, bind_some, rbelow_loop hv f (w / 2) (by omega) (by omega) (by omega), belowB_step hv h]
    · rw [if_neg (by omega), belowB_le hw (by omega)]
      congr 1
      apply decide_eq_decide.2; omega
theorem rbelow_eq {w v : Nat} (hw : 1 ≤ w) (hv : 1 ≤ v) (hw2 : w < 9223372036854775808) : ref03_Below (w : Int) (v : Int) = some (belowB w v) := by
  have := log2_le62 hw2
  exact rbelow_loop hv FUEL w hw hw2 (fuel_lt (by omega))
def hasN (d : Nat) (v : Int) : Bool := decide (1 ≤ v ∧ v < 2 * (2 ^ d : Nat))
theorem node_eq {d : Nat} {v : Int} (h : d ≤ 6) : ref03_Node (d : Int) v = some (hasN d v) := by
  have := pow_le64 h
  unfold ref03_Node hasN
  by_cases h1 : 1 ≤ v
  · rw [if_pos h1, recv_eq h, bind_some]
    generalize 2 ^ d = m at *
    rw [w64_id (by omega) (by omega)]
    congr 1; apply decide_eq_decide.2; omega
  · rw [if_neg h1]; congr 1; symm; apply decide_eq_false; omega
theorem rem_nat (a b : Nat) (hb : 1 ≤ b) : remI (a : Int) (b : Int) = some ((a % b : Nat) : Int) := by
  unfold remI
  rw [if_neg (by omega), Int.tmod_eq_emod_of_nonneg (by omega), Int.natCast_emod]
/-- the k nodes down to w -/
def pathN (w : Nat) : Nat → List Nat
  | 0 => []
  | k + 1 => w / 2 ^ k :: pathN w k
theorem pathN_snoc (w k : Nat) : pathN w (k + 1) = pathN (w / 2) k ++ [w] := by
  induction k with
  | zero => simp [pathN]
  | succ k ih => rw [pathN, ih, pathN, List.cons_append, Nat.div_div_eq_div_mul, Nat.pow_succ, Nat.mul_comm 2]
theorem log2_divk {w k : Nat} (hk : 2 ^ k ≤ w) : Nat.log2 (w / 2 ^ k) = Nat.log2 w - k := by have := log2_div w k hk; omega
theorem div_pos' {w k : Nat} (hk : 2 ^ k ≤ w) : 1 ≤ w / 2 ^ k := (Nat.le_div_iff_mul_le (Nat.two_pow_pos k)).2 (by omega)
theorem below_iff {w v : Nat} (hw : 1 ≤ w) : belowB w v = true ↔ ∃ k, 2 ^ k ≤ w ∧ v = w / 2 ^ k := by
  constructor
  · intro h
    unfold belowB at h
    obtain ⟨h1, h2⟩ := of_decide_eq_true h
    exact ⟨_, Nat.le_trans (Nat.pow_le_pow_right (by omega) (by omega)) (Nat.log2_self_le (by omega)), h2.symm⟩
  · rintro ⟨k, h1, rfl⟩
    unfold belowB
    have h2 := log2_divk h1
    have h3 := log2_div w k h1
    apply decide_eq_true
    refine ⟨by omega, ?_⟩
    rw [h2, show Nat.log2 w - (Nat.log2 w - k) = k from by omega]
theorem below_refl {w : Nat} (hw : 1 ≤ w) : belowB w w = true := (below_iff hw).2 ⟨0, by simpa using hw, by simp⟩
theorem below_pos {w v : Nat} (hw : 1 ≤ w) (h : belowB w v = true) : 1 ≤ v := by
  obtain ⟨k, h1, rfl⟩ := (below_iff hw).1 h
  exact div_pos' h1
theorem pow_div_le {w i j : Nat} (h : 2 ^ (i + j) ≤ w) : 2 ^ j ≤ w / 2 ^ i := by
  rw [Nat.le_div_iff_mul_le (Nat.two_pow_pos i), ← Nat.pow_add, Nat.add_comm]; exact h
theorem pow_div_le' {w i j : Nat} (h : 2 ^ j ≤ w / 2 ^ i) : 2 ^ (i + j) ≤ w := by
  rw [Nat.le_div_iff_mul_le (Nat.two_pow_pos i), ← Nat.pow_add, Nat.add_comm] at h; exact h
theorem below_trans {a b c : Nat} (ha : 1 ≤ a) (h1 : belowB a b = true) (h2 : belowB b c = true) : belowB a c = true := by
  have hb := below_pos ha h1
  obtain ⟨i, p1, rfl⟩ := (below_iff ha).1 h1
  obtain ⟨j, p2, rfl⟩ := (below_iff hb).1 h2
  exact (below_iff ha).2 ⟨i + j, pow_div_le' p2, by rw [Nat.div_div_eq_div_mul, ← Nat.pow_add]⟩
theorem below_log {w v : Nat} (hw : 1 ≤ w) (h : belowB w v = true) : Nat.log2 v ≤ Nat.log2 w := by
  unfold belowB at h
  exact (of_decide_eq_true h).1
theorem below_same {a b c : Nat} (ha : 1 ≤ a) (h1 : belowB a b = true) (h2 : belowB a c = true) (he : Nat.log2 b = Nat.log2 c) : b = c := by
  unfold belowB at h1 h2
  have p1 := (of_decide_eq_true h1).2
  have p2 := (of_decide_eq_true h2).2
  rw [he] at p1; rw [← p1, p2]
theorem sib_fin : ∀ n : Fin 128, (n.1 ^^^ 1) / 2 = n.1 / 2 ∧ n.1 ^^^ 1 ≠ n.1 ∧ n.1 ^^^ 1 < 128 ∧ (2 ≤ n.1 → Nat.log2 (n.1 ^^^ 1) = Nat.log2 n.1 ∧ 2 ≤ n.1 ^^^ 1) ∧ n.1 ^^^ 1 ^^^ 1 = n.1 := by decide +kernel
theorem sib_two : ∀ n : Fin 128, ∀ b : Fin 2, (2 * (n.1 / 2) + b.1 = n.1 ∨ 2 * (n.1 / 2) + b.1 = n.1 ^^^ 1) := by decide +kernel
theorem sib_eq {a b : Nat} (hb : b < 128) (h : a / 2 = b / 2) (hne : a ≠ b) : a = b ^^^ 1 := by
  have := sib_two ⟨b, hb⟩ ⟨a % 2, Nat.mod_lt _ (by omega)⟩
  have h2 : 2 * (b / 2) + a % 2 = a := by rw [← h]; omega
  simp only [h2] at this
  rcases this with h3 | h3
  · exact absurd h3 hne
  · exact h3
theorem sib_half {n : Nat} (h : n < 128) : (n ^^^ 1) / 2 = n / 2 := (sib_fin ⟨n, h⟩).1
theorem sib_ne {n : Nat} (h : n < 128) : n ^^^ 1 ≠ n := (sib_fin ⟨n, h⟩).2.1
theorem sib_lt {n : Nat} (h : n < 128) : n ^^^ 1 < 128 := (sib_fin ⟨n, h⟩).2.2.1
theorem sib_log {n : Nat} (h : n < 128) (h2 : 2 ≤ n) : Nat.log2 (n ^^^ 1) = Nat.log2 n := ((sib_fin ⟨n, h⟩).2.2.2.1 h2).1
theorem sib_two_le {n : Nat} (h : n < 128) (h2 : 2 ≤ n) : 2 ≤ n ^^^ 1 := ((sib_fin ⟨n, h⟩).2.2.2.1 h2).2
theorem bit_xor {n : Nat} (h : n < 128) : bitI .xor (n : Int) 1 = ((n ^^^ 1 : Nat) : Int) := by
  have : ∀ n : Fin 128, bitI .xor (n.1 : Int) 1 = ((n.1 ^^^ 1 : Nat) : Int) := by decide +kernel
  exact this ⟨n, h⟩
theorem leaf_log {d u : Nat} (hu : u < 2 ^ d) : Nat.log2 (2 ^ d + u) = d := by
  rw [Nat.log2_eq_iff (by have := Nat.two_pow_pos d; omega), Nat.pow_succ]; omega
theorem half_pow {m k : Nat} (h : 2 ^ (k + 1) ≤ m) : 2 ^ k ≤ m / 2 := by rw [Nat.le_div_iff_mul_le (by omega)]; rw [Nat.pow_succ] at h; omega
/-- the label of a child -/
def stp (k : W2) (n : Nat) : W2 := if n % 2 = 1 then drv k (un8 32#8) 0#64 else drv k (un8 31#8) 0#64
end Go.Sx.Po

end
section
/- Punctured keys, plainly: which are valid; both sides come to it. -/
set_option linter.unusedVariables false
set_option linter.unusedSimpArgs false
set_option linter.unusedSectionVars false
set_option maxRecDepth 100000
namespace Go.Sx.Po
open Go

/-- a label, from its node and its key -/
def mkN (x : Nat × W2) : TLabel := ⟨(x.1 : Int), 0, x.2⟩
/-- right labels of a tree -/
def pvP (d : Nat) (L : List (Nat × W2)) : Prop := (∀ x ∈ L, 1 ≤ x.1 ∧ x.1 < 2 ^ (d + 1)) ∧ L.Pairwise fun a b => a.1 < b.1 ∧ belowB b.1 a.1 = false
theorem pow_le128 {d : Nat} (h : d ≤ 6) : 2 ^ (d + 1) ≤ 128 := Nat.le_trans (Nat.pow_le_pow_right (by omega) (show d + 1 ≤ 7 by omega)) (by decide)
theorem shl2_fin : ∀ d : Fin 7, shlI 2 d.1 = ((2 ^ (d.1 + 1) : Nat) : Int) := by decide +kernel
theorem shl2 {d : Nat} (h : d ≤ 6) : shlI 2 d = ((2 ^ (d + 1) : Nat) : Int) := shl2_fin ⟨d, by omega⟩
theorem pbelow_eq {w v : Nat} (hw : 1 ≤ w) (hv : 1 ≤ v) (hw2 : w < 9223372036854775808) (hv2 : v < 9223372036854775808) : poly_below (w : Int) (v : Int) = some (belowB w v) := by
  have l1 := log2_le62 hw2
  have l2 := log2_le62 hv2
  unfold poly_below
  rw [un_wdn hw2, un_wdn hv2, lg_nat hw, lg_nat hv, w64_id (by omega) (by omega), show (Nat.log2 w : Int) + 1 - ((Nat.log2 v : Int) + 1) = (Nat.log2 w : Int) - (Nat.log2 v : Int) from by omega]
  by_cases h : Nat.log2 v ≤ Nat.log2 w
  · have : shG ((Nat.log2 w : Int) - (Nat.log2 v : Int)) = some (Nat.log2 w - Nat.log2 v) := by unfold shG; rw [if_pos (by omega)]; congr 1; omega
    rw [if_pos (by omega), this, bind_some, shr_nat _ _ (by omega)]
    unfold belowB
    congr 1
    apply decide_eq_decide.2
    constructor
    · intro h3; exact ⟨by omega, by omega⟩
    · intro h3; omega
  · rw [if_neg (by omega)]
    unfold belowB
    rw [decide_eq_false (by omega)]
def okB (d : Nat) (pre : List (Nat × W2)) (x : TLabel) : Bool := decide (x.Minus = 0) && decide (1 ≤ x.Node ∧ x.Node < ((2 ^ (d + 1) : Nat) : Int)) && pre.all (fun y => decide ((y.1 : Int) < x.Node)) && pre.all (fun y => !belowB x.Node.toNat y.1)
def chkF (d : Nat) : List (Nat × W2) → List TLabel → Option (List (Nat × W2))
  | pre, [] => some pre
  | pre, x :: r => bif okB d pre x then chkF d (pre ++ [(x.Node.toNat, x.Key)]) r else none
theorem okB_mk {d : Nat} {pre : List (Nat × W2)} {x : TLabel} (h : okB d pre x = true) (hp : pvP d pre) : x = mkN (x.Node.toNat, x.Key) ∧ pvP d (pre ++ [(x.Node.toNat, x.Key)]) := by
  simp only [okB, Bool.and_eq_true, decide_eq_true_eq, List.all_eq_true, Bool.not_eq_true'] at h
  obtain ⟨⟨⟨h1, h2⟩, h3⟩, h4⟩ := h
  obtain ⟨n, m, k⟩ := x
  simp only at h1 h2 h3 h4 ⊢
  subst h1
  refine ⟨?_, ?_, ?_⟩
  · unfold mkN; simp only; congr 1; omega
  · intro y hy
    rcases List.mem_append.1 hy with hy | hy
    · exact hp.1 y hy
    · rw [List.mem_singleton.1 hy]; exact ⟨by omega, by omega⟩
  · rw [List.pairwise_append]
    refine ⟨hp.2, List.pairwise_singleton _ _, fun a ha b hb => ?_⟩
    rw [List.mem_singleton.1 hb]
    have := h3 a ha
    exact ⟨by omega, h4 a ha⟩
theorem cont_any (pre : List (Nat × W2)) (x : TLabel) {d : Nat} (h6 : d ≤ 6) (hp : pvP d pre) (hl : pre.length < 4611686018427387904) (h1 : 1 ≤ x.Node) (h2 : x.Node < ((2 ^ (d + 1) : Nat) : Int)) :
    slices_ContainsFunc_5b5d_poly_CheckPunctured_1 (pre.map mkN) x = some (pre.any fun y => belowB x.Node.toNat y.1) := by
  have hp128 := pow_le128 h6
  have hx : x.Node = (x.Node.toNat : Int) := by omega
  unfold slices_ContainsFunc_5b5d_poly_CheckPunctured_1 slices_IndexFunc_15cd_poly_CheckPunctured_1
  rw [find_go (pre.map mkN) (by simpa using hl) (fun y => belowB x.Node.toNat y.Node.toNat) _ (fun rec j hj => by
    have hj' : j < pre.length := by simpa using hj
    have hb := hp.1 _ (List.getElem_mem hj')
    simp only [slices_IndexFunc_15cd_poly_CheckPunctured_1_L1, poly_CheckPunctured_1]
    rw [if_pos (by omega), getI_some hj, bind_some, List.getElem_map]
    simp only [mkN]
    rw [hx, pbelow_eq (by omega) hb.1 (by omega) (by omega), bind_some, bind_some, w64_nat (by simp at hj; omega)]
    simp only [Int.toNat_natCast]) (fun rec => by
    simp only [slices_IndexFunc_15cd_poly_CheckPunctured_1_L1]; rw [if_neg (by omega)]), bind_some, idx_any, List.any_map]
  congr 1
theorem last_lt {d : Nat} {pre : List (Nat × W2)} (hp : pvP d pre) (hne : 0 < pre.length) (n : Int) : pre.all (fun y => decide ((y.1 : Int) < n)) = decide (((pre[pre.length - 1]'(by omega)).1 : Int) < n) := by
  rw [Bool.eq_iff_iff, List.all_eq_true, decide_eq_true_eq]
  constructor
  · intro h; have := h _ (List.getElem_mem (show pre.length - 1 < pre.length by omega)); simpa using this
  · intro h y hy
    obtain ⟨i, hi, rfl⟩ := List.mem_iff_getElem.1 hy
    rw [decide_eq_true_eq]
    by_cases e : i = pre.length - 1
    · subst e; exact h
    · have := List.pairwise_iff_getElem.1 hp.2 i (pre.length - 1) hi (by omega) (by omega)
      omega
theorem all_not {α : Type} (l : List α) (q : α → Bool) : (l.all fun y => !q y) = !(l.any q) := by
  induction l with
  | nil => rfl
  | cons a l ih => rw [List.all_cons, List.any_cons, ih]; cases q a <;> rfl
theorem check_loop {d : Nat} (h6 : d ≤ 6) (p : TPunctured) (hd : p.Depth = (d : Int)) (hl : p.Labels.length < 4611686018427387904) : ∀ (r : List TLabel) (pre : List (Nat × W2)) (f : Nat), pvP d pre → p.Labels = pre.map mkN ++ r → r.length < f →
    fixN (poly_CheckPunctured_L2 p) f (pre.length : Int) = some (bif (chkF d pre r).isSome then 0 else 8)
  | r, pre, 0, _, _, h => by omega
  | [], pre, f + 1, hp, he, _ => by
    rw [fix_step]; simp only [poly_CheckPunctured_L2]
    rw [if_neg (by rw [he]; simp)]; rfl
  | x :: r, pre, f + 1, hp, he, hf => by
    have hlen : p.Labels.length = pre.length + r.length + 1 := by rw [he]; simp; omega
    have hx : getI p.Labels (pre.length : Int) = some x := by rw [getI_some (by omega)]; simp [he]
    rw [fix_step]; simp only [poly_CheckPunctured_L2, chkF]
    rw [if_pos (by omega), hx, bind_some, hd, shG_nat, bind_some, shl2 h6]
    have bad : ∀ b : Bool, okB d pre x = false → (some (bif (bif okB d pre x then chkF d (pre ++ [(x.Node.toNat, x.Key)]) r else none).isSome then (0 : Int) else 8)) = some 8 := fun b h => by rw [h]; rfl
    by_cases a1 : x.Minus = 0
    · rw [if_neg (by simpa using a1)]
      by_cases a2 : x.Node < 1
      · rw [if_pos a2, bad true (by unfold okB; rw [decide_eq_false (p := 1 ≤ x.Node ∧ _) (by omega)]; simp)]; rfl
      · rw [if_neg a2]
        by_cases a3 : ((2 ^ (d + 1) : Nat) : Int) ≤ x.Node
        · rw [if_pos a3, bad true (by unfold okB; rw [decide_eq_false (p := 1 ≤ x.Node ∧ _) (by omega)]; simp)]; rfl
        · rw [if_neg a3]
          have hs : sliG p.Labels 0 (pre.length : Int) = some (pre.map mkN) := by
            unfold sliG
            rw [if_pos (by omega), Int.toNat_natCast, Int.toNat_zero, List.drop_zero, he, List.take_left' (by simp)]
          have hpl : pre.length < 4611686018427387904 := by omega
          have step : ∀ b : Bool, (pre.all (fun y => decide ((y.1 : Int) < x.Node)) = !b) → poly_CheckPunctured_J3 p (pre.length : Int) (fixN (poly_CheckPunctured_L2 p) f) x b = some (bif (bif okB d pre x then chkF d (pre ++ [(x.Node.toNat, x.Key)]) r else none).isSome then 0 else 8) := by
            intro b hb
            unfold poly_CheckPunctured_J3
            cases b with
            | true => rw [cond_true, bad true (by simp only [okB, hb]; simp)]
            | false =>
              rw [cond_false, hs, bind_some, cont_any pre x h6 hp hpl (by omega) (by omega), bind_some]
              have hob : okB d pre x = !(pre.any fun y => belowB x.Node.toNat y.1) := by
                simp only [okB, hb, a1]
                have e1 : decide (1 ≤ x.Node ∧ x.Node < ((2 ^ (d + 1) : Nat) : Int)) = true := decide_eq_true (by omega)
                rw [e1]
                simp only [decide_true, Bool.and_self, Bool.not_false, Bool.true_and]
                exact all_not pre _
              cases hc : (pre.any fun y => belowB x.Node.toNat y.1) with
              | true => rw [cond_true, bad true (by rw [hob, hc]; rfl)]
              | false =>
                have hok : okB d pre x = true := by rw [hob, hc]; rfl
                obtain ⟨h1, h2⟩ := okB_mk hok hp
                have := check_loop h6 p hd hl r (pre ++ [(x.Node.toNat, x.Key)]) f h2 (by rw [he, List.map_append, List.append_assoc]; congr 1; rw [List.map_cons, List.map_nil, ← h1]; rfl) (by simp at hf; omega)
                rw [List.length_append, List.length_singleton] at this
                rw [cond_false, hok, cond_true, w64_nat (by omega), this]
          by_cases a4 : pre.length = 0
          · have : pre = [] := List.length_eq_zero_iff.1 a4
            rw [if_neg (by omega)]
            exact step false (by rw [this]; rfl)
          · have hg : getI p.Labels (w64 ((pre.length : Int) - 1)) = some (mkN (pre[pre.length - 1]'(by omega))) := by
              rw [w64_id (by omega) (by omega), show (pre.length : Int) - 1 = ((pre.length - 1 : Nat) : Int) from by omega, getI_some (by omega)]
              congr 1
              have : p.Labels[pre.length - 1]'(by omega) = (pre.map mkN ++ x :: r)[pre.length - 1]'(by simp; omega) := by congr 1
              rw [this, List.getElem_append_left (by simp; omega), List.getElem_map]
            rw [if_pos (by omega), hg, bind_some]
            refine step _ ?_
            rw [last_lt hp (by omega)]
            have en : (mkN (pre[pre.length - 1]'(by omega))).Node = ((pre[pre.length - 1]'(by omega)).1 : Int) := rfl
            by_cases e : x.Node ≤ (mkN (pre[pre.length - 1]'(by omega))).Node
            · rw [decide_eq_true e, decide_eq_false (by omega)]; rfl
            · rw [decide_eq_false e, decide_eq_true (by omega)]; rfl
    · rw [if_pos a1, bad true (by simp [okB, a1])]; rfl
theorem rcheck_loop {d : Nat} (h6 : d ≤ 6) (p : TPunctured) (hd : p.Depth = (d : Int)) (hl : p.Labels.length < 4611686018427387904) : ∀ (r : List TLabel) (pre : List (Nat × W2)) (f : Nat), pvP d pre → p.Labels = pre.map mkN ++ r → r.length < f →
    fixN (ref04_ValidPunctured_L2 p) f (pre.length : Int) = some (chkF d pre r).isSome
  | r, pre, 0, _, _, h => by omega
  | [], pre, f + 1, hp, he, _ => by
    rw [fix_step]; simp only [ref04_ValidPunctured_L2]
    rw [if_neg (by rw [he]; simp)]; rfl
  | x :: r, pre, f + 1, hp, he, hf => by
    have hlen : p.Labels.length = pre.length + r.length + 1 := by rw [he]; simp; omega
    have hx : getI p.Labels (pre.length : Int) = some x := by rw [getI_some (by omega)]; simp [he]
    have h128 := pow_le128 h6
    have hpw : 2 ^ (d + 1) = 2 * 2 ^ d := by rw [Nat.pow_succ, Nat.mul_comm]
    rw [fix_step]; simp only [ref04_ValidPunctured_L2, chkF]
    rw [if_pos (by omega), hx, bind_some, hd, node_eq h6, bind_some, bind_some]
    by_cases a2 : 1 ≤ x.Node ∧ x.Node < 2 * (2 ^ d : Nat)
    · have hn : hasN d x.Node = true := decide_eq_true a2
      have hx2 : x.Node = (x.Node.toNat : Int) := by omega
      rw [hn]
      simp only [Bool.not_true, cond_false]
      by_cases a1 : x.Minus = 0
      · rw [decide_eq_false (by simpa using a1)]
        unfold ref04_ValidPunctured_J3
        rw [cond_false]
        have := fix_range pre.length (ref04_ValidPunctured_L4 p (pre.length : Int) (fixN (ref04_ValidPunctured_L2 p) f) x) (fun k (_ : Unit) => (k : Int)) (fun k nx u => bif decide (((pre.getD k default).1 : Int) < x.Node) && !belowB x.Node.toNat (pre.getD k default).1 then nx u else some false) (fun _ => fixN (ref04_ValidPunctured_L2 p) f ((pre.length + 1 : Nat) : Int))
          (fun rec k hk _ => by
            have hb := hp.1 _ (List.getElem_mem hk)
            have e : pre.getD k default = pre[k] := by rw [List.getD_eq_getElem?_getD, List.getElem?_eq_getElem hk]; rfl
            have hg : getI p.Labels (k : Int) = some (mkN pre[k]) := by
              rw [getI_some (by omega)]
              congr 1
              have : p.Labels[k]'(by omega) = (pre.map mkN ++ x :: r)[k]'(by simp; omega) := by congr 1
              rw [this, List.getElem_append_left (by simp; omega), List.getElem_map]
            have en : (mkN pre[k]).Node = (pre[k].1 : Int) := rfl
            simp only [ref04_ValidPunctured_L4, ref04_ValidPunctured_J5]
            rw [if_pos (by omega), hg, bind_some, e, en]
            by_cases a3 : x.Node ≤ (pre[k].1 : Int)
            · rw [if_pos a3, decide_eq_false (by omega)]; rfl
            · have hbl := rbelow_eq (w := x.Node.toNat) (v := pre[k].1) (by omega) hb.1 (by omega)
              rw [← hx2] at hbl
              rw [if_neg a3, bind_some, en, hbl, bind_some, decide_eq_true (by omega), w64_nat (by omega)]
              cases belowB x.Node.toNat pre[k].1 <;> rfl)
          (fun rec _ => by simp only [ref04_ValidPunctured_L4]; rw [if_neg (by omega), w64_nat (by omega)]) (f := FUEL) (fuel_lt (by omega)) ()
        rw [show ((0 : Nat) : Int) = 0 from rfl] at this
        rw [this, all_itL _ (fixN (ref04_ValidPunctured_L2 p) f ((pre.length + 1 : Nat) : Int)) (some false) _ _ (fun a _ nx s => rfl), range_all pre (fun y => decide ((y.1 : Int) < x.Node) && !belowB x.Node.toNat y.1) default, all_and]
        have hob : okB d pre x = (pre.all (fun y => decide ((y.1 : Int) < x.Node)) && pre.all (fun y => !belowB x.Node.toNat y.1)) := by
          unfold okB
          rw [decide_eq_true a1, decide_eq_true (p := 1 ≤ x.Node ∧ _) (by omega)]; rfl
        rw [← hob]
        cases hok : okB d pre x with
        | false => rfl
        | true =>
          obtain ⟨h1, h2⟩ := okB_mk hok hp
          have := rcheck_loop h6 p hd hl r (pre ++ [(x.Node.toNat, x.Key)]) f h2 (by rw [he, List.map_append, List.append_assoc]; congr 1; rw [List.map_cons, List.map_nil, ← h1]; rfl) (by simp at hf; omega)
          rw [List.length_append, List.length_singleton] at this
          rw [cond_true, cond_true, this]
      · rw [decide_eq_true a1]
        have : okB d pre x = false := by unfold okB; rw [decide_eq_false a1]; rfl
        rw [this]; rfl
    · have hn : hasN d x.Node = false := decide_eq_false a2
      have : okB d pre x = false := by unfold okB; rw [decide_eq_false (p := 1 ≤ x.Node ∧ _) (by omega)]; simp
      rw [hn, this]; rfl
/-- right labels are right -/
theorem chkF_of {d : Nat} : ∀ (r pre : List (Nat × W2)), pvP d (pre ++ r) → chkF d pre (r.map mkN) = some (pre ++ r)
  | [], pre, _ => by simp [chkF]
  | x :: r, pre, h => by
    have hx := h.1 x (by simp)
    have hpw := h.2
    rw [List.pairwise_append] at hpw
    have hob : okB d pre (mkN x) = true := by
      simp only [okB, Bool.and_eq_true, decide_eq_true_eq, List.all_eq_true, Bool.not_eq_true']
      refine ⟨⟨⟨rfl, ?_⟩, fun y hy => ?_⟩, fun y hy => (hpw.2.2 y hy x (by simp)).2⟩
      · show (1 : Int) ≤ (x.1 : Int) ∧ (x.1 : Int) < ((2 ^ (d + 1) : Nat) : Int)
        omega
      · show (y.1 : Int) < (x.1 : Int)
        have := (hpw.2.2 y hy x (by simp)).1; omega
    rw [List.map_cons, chkF, hob, cond_true]
    have e : ((mkN x).Node.toNat, (mkN x).Key) = x := by simp [mkN]
    rw [e, chkF_of r (pre ++ [x]) (by rw [List.append_assoc]; exact h), List.append_assoc]; rfl
theorem punct_right {d : Nat} (h6 : d ≤ 6) {L : List (Nat × W2)} (h : pvP d L) (hl : L.length < 4611686018427387904) : poly_CheckPunctured ⟨(d : Int), L.map mkN⟩ = some 0 ∧ ref04_ValidPunctured ⟨(d : Int), L.map mkN⟩ = some true := by
  have hp0 : pvP d [] := ⟨fun x h => (by cases h), List.Pairwise.nil⟩
  have e1 := check_loop h6 ⟨(d : Int), L.map mkN⟩ rfl (by simpa using hl) (L.map mkN) [] FUEL hp0 (by simp) (fuel_lt (by simp; omega))
  have e2 := rcheck_loop h6 ⟨(d : Int), L.map mkN⟩ rfl (by simpa using hl) (L.map mkN) [] FUEL hp0 (by simp) (fuel_lt (by simp; omega))
  rw [List.length_nil, show ((0 : Nat) : Int) = 0 from rfl, chkF_of L [] (by simpa using h)] at e1 e2
  unfold poly_CheckPunctured poly_CheckPunctured_J1 ref04_ValidPunctured ref04_ValidPunctured_J1
  simp only
  rw [if_neg (by omega), if_neg (by omega), decide_eq_false (by omega), cond_false, cond_false, e1, e2]
  exact ⟨rfl, rfl⟩
end Go.Sx.Po

end
section
/- Punctured keys, plainly: keys along a path, the labels beside it, sorted lists. -/
set_option linter.unusedVariables false
set_option linter.unusedSimpArgs false
set_option linter.unusedSectionVars false
set_option maxRecDepth 100000
namespace Go.Sx.Po
open Go

theorem pathN_add (w j : Nat) : ∀ i, pathN w (j + i) = pathN (w / 2 ^ j) i ++ pathN w j
  | 0 => rfl
  | i + 1 => by
    rw [← Nat.add_assoc, pathN, pathN_add w j i, pathN, List.cons_append, Nat.div_div_eq_div_mul, ← Nat.pow_add]
/-- the key of a node w, from that of a node n that it is below -/
def keyTo (key : W2) (n w : Nat) : W2 := (pathN w (Nat.log2 w - Nat.log2 n)).foldl stp key
theorem keyTo_self (key : W2) (n : Nat) : keyTo key n n = key := by unfold keyTo; rw [Nat.sub_self]; rfl
theorem keyTo_step (key : W2) {n s : Nat} (h2 : 2 ≤ s) (hl : Nat.log2 n < Nat.log2 s) : keyTo key n s = stp (keyTo key n (s / 2)) s := by
  have hh := log2_half h2
  unfold keyTo
  rw [show Nat.log2 s - Nat.log2 n = (Nat.log2 (s / 2) - Nat.log2 n) + 1 from by omega, pathN_snoc, List.foldl_append]; rfl
theorem keyTo_trans (key : W2) {n v w : Nat} (hw : 1 ≤ w) (h1 : belowB w v = true) (h2 : belowB v n = true) : keyTo (keyTo key n v) v w = keyTo key n w := by
  have hv := below_pos hw h1
  obtain ⟨i, p1, rfl⟩ := (below_iff hw).1 h1
  obtain ⟨j, p2, rfl⟩ := (below_iff hv).1 h2
  have e1 := log2_divk p1
  have e2 := log2_divk p2
  have hl1 := log2_div w i p1
  have hl2 := log2_div (w / 2 ^ i) j p2
  unfold keyTo
  rw [show Nat.log2 w - Nat.log2 (w / 2 ^ i / 2 ^ j) = i + (Nat.log2 (w / 2 ^ i) - Nat.log2 (w / 2 ^ i / 2 ^ j)) from by omega, pathN_add, List.foldl_append, show Nat.log2 w - Nat.log2 (w / 2 ^ i) = i from by omega]
/-- the labels beside the path from a label to a leaf -/
def sibs (y : Nat × W2) (leaf : Nat) : Nat → List (Nat × W2)
  | 0 => []
  | m + 1 => sibs y leaf m ++ [((leaf / 2 ^ (Nat.log2 leaf - Nat.log2 y.1 - 1 - m)) ^^^ 1, keyTo y.2 y.1 ((leaf / 2 ^ (Nat.log2 leaf - Nat.log2 y.1 - 1 - m)) ^^^ 1))]
theorem sibs_len (y : Nat × W2) (leaf : Nat) : ∀ m, (sibs y leaf m).length = m
  | 0 => rfl
  | m + 1 => by rw [sibs, List.length_append, sibs_len y leaf m]; rfl
theorem sibs_mem (y : Nat × W2) (leaf : Nat) (x : Nat × W2) : ∀ m, x ∈ sibs y leaf m ↔ ∃ i, i < m ∧ x = ((leaf / 2 ^ (Nat.log2 leaf - Nat.log2 y.1 - 1 - i)) ^^^ 1, keyTo y.2 y.1 ((leaf / 2 ^ (Nat.log2 leaf - Nat.log2 y.1 - 1 - i)) ^^^ 1))
  | 0 => by simp [sibs]
  | m + 1 => by
    rw [sibs, List.mem_append, sibs_mem y leaf x m, List.mem_singleton]
    constructor
    · rintro (⟨i, hi, rfl⟩ | rfl)
      · exact ⟨i, by omega, rfl⟩
      · exact ⟨m, by omega, rfl⟩
    · rintro ⟨i, hi, rfl⟩
      rcases Nat.lt_or_ge i m with h | h
      · exact .inl ⟨i, h, rfl⟩
      · obtain rfl : i = m := by omega
        exact .inr rfl
/-- all of them -/
def sibA (y : Nat × W2) (leaf : Nat) : List (Nat × W2) := sibs y leaf (Nat.log2 leaf - Nat.log2 y.1)
theorem sibA_mem {y : Nat × W2} {leaf : Nat} {x : Nat × W2} : x ∈ sibA y leaf ↔ ∃ j, j < Nat.log2 leaf - Nat.log2 y.1 ∧ x = ((leaf / 2 ^ j) ^^^ 1, keyTo y.2 y.1 ((leaf / 2 ^ j) ^^^ 1)) := by
  unfold sibA
  rw [sibs_mem]
  constructor
  · rintro ⟨i, hi, rfl⟩; exact ⟨_, by omega, rfl⟩
  · rintro ⟨j, hj, rfl⟩
    exact ⟨Nat.log2 leaf - Nat.log2 y.1 - 1 - j, by omega, by rw [show Nat.log2 leaf - Nat.log2 y.1 - 1 - (Nat.log2 leaf - Nat.log2 y.1 - 1 - j) = j from by omega]⟩
/-- a node beside the path: below the label, not above the leaf, and of which level -/
theorem sib_facts {y leaf j : Nat} (hl : leaf < 128) (hl1 : 1 ≤ leaf) (hb : belowB leaf y = true) (hj : j < Nat.log2 leaf - Nat.log2 y) :
    2 ≤ (leaf / 2 ^ j) ^^^ 1 ∧ (leaf / 2 ^ j) ^^^ 1 < 128 ∧ Nat.log2 ((leaf / 2 ^ j) ^^^ 1) = Nat.log2 leaf - j ∧ belowB ((leaf / 2 ^ j) ^^^ 1) y = true ∧ belowB leaf ((leaf / 2 ^ j) ^^^ 1) = false ∧ 2 ≤ leaf / 2 ^ j ∧ leaf / 2 ^ j < 128 ∧ ((leaf / 2 ^ j) ^^^ 1) / 2 = leaf / 2 ^ (j + 1) ∧ 2 ^ (j + 1) ≤ leaf := by
  have hy := below_pos hl1 hb
  obtain ⟨k, p1, rfl⟩ := (below_iff hl1).1 hb
  have hk := log2_divk p1
  have hk2 := log2_div leaf k p1
  have hjk : j + 1 ≤ k := by omega
  have p2 : 2 ^ (j + 1) ≤ leaf := Nat.le_trans (Nat.pow_le_pow_right (by omega) hjk) p1
  have p3 : 2 ^ j ≤ leaf := Nat.le_trans (Nat.pow_le_pow_right (by omega) (by omega)) p1
  have hw2 : 2 ≤ leaf / 2 ^ j := by
    rw [Nat.le_div_iff_mul_le (Nat.two_pow_pos j), Nat.mul_comm]; rw [Nat.pow_succ] at p2; exact p2
  have hw128 : leaf / 2 ^ j < 128 := Nat.lt_of_le_of_lt (Nat.div_le_self _ _) hl
  have hs2 := sib_two_le hw128 hw2
  have hs128 := sib_lt hw128
  have hsl := sib_log hw128 hw2
  have hlj := log2_divk p3
  have hhalf := sib_half hw128
  have e1 : ((leaf / 2 ^ j) ^^^ 1) / 2 = leaf / 2 ^ (j + 1) := by rw [hhalf, Nat.div_div_eq_div_mul, ← Nat.pow_succ]
  refine ⟨hs2, hs128, by omega, ?_, ?_, hw2, hw128, e1, p2⟩
  · have h3 : belowB (leaf / 2 ^ (j + 1)) (leaf / 2 ^ k) = true := (below_iff (div_pos' p2)).2 ⟨k - (j + 1), by
      apply pow_div_le; rw [show j + 1 + (k - (j + 1)) = k from by omega]; exact p1, by rw [Nat.div_div_eq_div_mul, ← Nat.pow_add, show j + 1 + (k - (j + 1)) = k from by omega]⟩
    have h4 : belowB ((leaf / 2 ^ j) ^^^ 1) (leaf / 2 ^ (j + 1)) = true := (below_iff (by omega)).2 ⟨1, by omega, by rw [← e1, Nat.pow_one]⟩
    exact below_trans (by omega) h4 h3
  · cases hc : belowB leaf ((leaf / 2 ^ j) ^^^ 1) with
    | false => rfl
    | true =>
      have h5 : belowB leaf (leaf / 2 ^ j) = true := (below_iff hl1).2 ⟨j, p3, rfl⟩
      exact absurd (below_same hl1 hc h5 (by omega)) (sib_ne hw128)
/-! sorted lists -/
def srtd (L : List (Nat × W2)) : Prop := L.Pairwise fun a b => a.1 < b.1
theorem srtd_eq : ∀ {a b : List (Nat × W2)}, srtd a → srtd b → (∀ x, x ∈ a ↔ x ∈ b) → a = b
  | [], [], _, _, _ => rfl
  | [], y :: b, _, _, h => by have := (h y).2 (by simp); cases this
  | x :: a, [], _, _, h => by have := (h x).1 (by simp); cases this
  | x :: a, y :: b, ha, hb, h => by
    obtain ⟨ha1, ha2⟩ := List.pairwise_cons.1 ha
    obtain ⟨hb1, hb2⟩ := List.pairwise_cons.1 hb
    have exy : x = y := by
      rcases List.mem_cons.1 ((h x).1 (by simp)) with e | e
      · exact e
      · rcases List.mem_cons.1 ((h y).2 (by simp)) with e2 | e2
        · exact e2.symm
        · have := hb1 x e; have := ha1 y e2; omega
    subst exy
    congr 1
    refine srtd_eq ha2 hb2 fun z => ?_
    have hz := h z
    rw [List.mem_cons, List.mem_cons] at hz
    constructor
    · intro hm
      rcases hz.1 (.inr hm) with e | e
      · subst e; have := ha1 z hm; omega
      · exact e
    · intro hm
      rcases hz.2 (.inr hm) with e | e
      · subst e; have := hb1 z hm; omega
      · exact e
/-- put into a sorted list -/
def ins (l : List (Nat × W2)) (x : Nat × W2) : List (Nat × W2) := l.takeWhile (fun y => decide (y.1 < x.1)) ++ x :: l.dropWhile (fun y => decide (y.1 < x.1))
theorem ins_mem (l : List (Nat × W2)) (x y : Nat × W2) : y ∈ ins l x ↔ y = x ∨ y ∈ l := by
  unfold ins
  rw [List.mem_append, List.mem_cons]
  have : y ∈ l ↔ y ∈ l.takeWhile (fun y => decide (y.1 < x.1)) ∨ y ∈ l.dropWhile (fun y => decide (y.1 < x.1)) := by
    rw [← List.mem_append, List.takeWhile_append_dropWhile]
  rw [this]
  constructor
  · rintro (h | h | h)
    · exact .inr (.inl h)
    · exact .inl h
    · exact .inr (.inr h)
  · rintro (h | h | h)
    · exact .inr (.inl h)
    · exact .inl h
    · exact .inr (.inr h)
theorem ins_srtd {l : List (Nat × W2)} {x : Nat × W2} (h : srtd l) (hx : ∀ y ∈ l, y.1 ≠ x.1) : srtd (ins l x) := by
  induction l with
  | nil => exact List.pairwise_singleton _ _
  | cons a l ih =>
    obtain ⟨h1, h2⟩ := List.pairwise_cons.1 h
    unfold ins
    by_cases e : a.1 < x.1
    · rw [List.takeWhile_cons_of_pos (by simpa using e), List.dropWhile_cons_of_pos (by simpa using e), List.cons_append]
      have ih' := ih h2 (fun y hy => hx y (by simp [hy]))
      refine List.pairwise_cons.2 ⟨fun y hy => ?_, ih'⟩
      rcases (ins_mem l x y).1 hy with rfl | hy
      · exact e
      · exact h1 y hy
    · have hax : x.1 < a.1 := by have := hx a (by simp); omega
      rw [List.takeWhile_cons_of_neg (by simpa using e), List.dropWhile_cons_of_neg (by simpa using e), List.nil_append]
      refine List.pairwise_cons.2 ⟨fun y hy => ?_, h⟩
      rcases List.mem_cons.1 hy with rfl | hy
      · exact hax
      · have := h1 y hy; omega
end Go.Sx.Po

end
section
/- Punctured keys, plainly: punctures of both sides come to one sorted list; values. -/
set_option linter.unusedVariables false
set_option linter.unusedSimpArgs false
set_option linter.unusedSectionVars false
set_option maxRecDepth 100000
namespace Go.Sx.Po
open Go

theorem rev_ind {α : Type} {P : List α → Prop} (nil : P []) (snoc : ∀ (l : List α) (a : α), P l → P (l ++ [a])) (l : List α) : P l := by
  rw [← List.reverse_reverse l]
  induction l.reverse with
  | nil => exact nil
  | cons a l ih => rw [List.reverse_cons]; exact snoc _ _ ih
theorem below_le {w v : Nat} (hw : 1 ≤ w) (h : belowB w v = true) : v ≤ w := by
  obtain ⟨k, _, rfl⟩ := (below_iff hw).1 h
  exact Nat.div_le_self _ _
theorem below_cmp {leaf a b : Nat} (hl : 1 ≤ leaf) (h1 : belowB leaf a = true) (h2 : belowB leaf b = true) (hab : Nat.log2 a ≤ Nat.log2 b) : belowB b a = true := by
  obtain ⟨i, p1, rfl⟩ := (below_iff hl).1 h1
  obtain ⟨j, p2, rfl⟩ := (below_iff hl).1 h2
  have e1 := log2_divk p1
  have e2 := log2_divk p2
  have l1 := log2_div leaf i p1
  have l2 := log2_div leaf j p2
  have hij : j ≤ i := by omega
  refine (below_iff (div_pos' p2)).2 ⟨i - j, ?_, ?_⟩
  · apply pow_div_le; rw [show j + (i - j) = i from by omega]; exact p1
  · rw [Nat.div_div_eq_div_mul, ← Nat.pow_add, show j + (i - j) = i from by omega]
section
variable {d : Nat} {L : List (Nat × W2)}
theorem pv_anti (h : pvP d L) {x z : Nat × W2} (hx : x ∈ L) (hz : z ∈ L) (hb : belowB z.1 x.1 = true) : z = x := by
  obtain ⟨i, hi, rfl⟩ := List.mem_iff_getElem.1 hx
  obtain ⟨j, hj, rfl⟩ := List.mem_iff_getElem.1 hz
  have hz1 := (h.1 _ hz).1
  rcases Nat.lt_trichotomy i j with e | e | e
  · have := (List.pairwise_iff_getElem.1 h.2 i j hi hj e).2
    rw [hb] at this; cases this
  · subst e; rfl
  · have h1 := (List.pairwise_iff_getElem.1 h.2 j i hj hi e).1
    have h2 := below_le hz1 hb
    omega
theorem pv_one (h : pvP d L) {leaf : Nat} (hl : 1 ≤ leaf) {x z : Nat × W2} (hx : x ∈ L) (hz : z ∈ L) (h1 : belowB leaf x.1 = true) (h2 : belowB leaf z.1 = true) : x = z := by
  rcases Nat.le_total (Nat.log2 x.1) (Nat.log2 z.1) with e | e
  · exact (pv_anti h hx hz (below_cmp hl h1 h2 e)).symm
  · exact pv_anti h hz hx (below_cmp hl h2 h1 e)
theorem pv_srtd (h : pvP d L) : srtd L := h.2.imp fun {a b} hab => hab.1
theorem srtd_len {l : List (Nat × W2)} (h : srtd l) (hb : ∀ x ∈ l, x.1 < 128) : l.length ≤ 128 := by
  have key : ∀ i (hi : i < l.length), i ≤ l[i].1 := by
    intro i
    induction i with
    | zero => intro _; omega
    | succ i ih =>
      intro hi
      have := ih (by omega)
      have := List.pairwise_iff_getElem.1 h i (i + 1) (by omega) hi (by omega)
      omega
  rcases Nat.eq_zero_or_pos l.length with e | e
  · omega
  · have := key (l.length - 1) (by omega)
    have := hb _ (List.getElem_mem (show l.length - 1 < l.length by omega))
    omega
theorem pv_len (h6 : d ≤ 6) (h : pvP d L) : L.length ≤ 128 := srtd_len (pv_srtd h) fun x hx => by have := (h.1 x hx).2; have := pow_le128 h6; omega
theorem srt_eq {A R : List (Nat × W2)} (hp : A.Perm R) (hr : srtd R) (hb : ∀ x ∈ R, x.1 < 128) : srtBy TLabel.Node (A.map mkN) = some (R.map mkN) := by
  have hlen := srtd_len hr hb
  have hasc : (R.map mkN).Pairwise fun a b => a.Node < b.Node := by
    rw [List.pairwise_map]; exact hr.imp (fun {a b} hab => by show (a.1 : Int) < (b.1 : Int); omega)
  have hnd : ((R.map mkN).map TLabel.Node).Nodup := by
    unfold List.Nodup; rw [List.pairwise_map]; exact hasc.imp (by omega)
  have hpm : (A.map mkN).Perm (R.map mkN) := hp.map _
  unfold srtBy
  rw [if_pos]
  · congr 1
    have hs := List.pairwise_mergeSort (le := fun a b : TLabel => decide (a.Node ≤ b.Node)) (fun a b c h1 h2 => by simp at *; omega) (fun a b => by simp; omega) (A.map mkN)
    have hp2 : ((A.map mkN).mergeSort fun a b => decide (a.Node ≤ b.Node)).Perm (R.map mkN) := (List.mergeSort_perm (A.map mkN) _).trans hpm
    have key : ∀ (l m : List TLabel), l.Perm m → (l.Pairwise fun a b => decide (a.Node ≤ b.Node) = true) → (m.Pairwise fun a b => a.Node < b.Node) → l = m := by
      intro l m hlm hl hm
      have hlnd : (l.map TLabel.Node).Nodup := by
        have : (m.map TLabel.Node).Nodup := by unfold List.Nodup; rw [List.pairwise_map]; exact hm.imp (by omega)
        exact (hlm.map _).nodup_iff.2 this
      have hl' : l.Pairwise fun a b => a.Node < b.Node := by
        unfold List.Nodup at hlnd
        rw [List.pairwise_map] at hlnd
        exact (hl.and hlnd).imp (fun {a b} hab => by have := of_decide_eq_true hab.1; have := hab.2; omega)
      clear hl hlnd
      induction m generalizing l with
      | nil => exact hlm.eq_nil
      | cons b m ih =>
        cases l with
        | nil => exact absurd hlm.symm.eq_nil (by simp)
        | cons a l =>
          have ha := List.pairwise_cons.1 hl'
          have hb := List.pairwise_cons.1 hm
          have hab : a = b := by
            rcases List.mem_cons.1 (hlm.subset (List.mem_cons_self)) with e | e
            · exact e
            · rcases List.mem_cons.1 (hlm.symm.subset (List.mem_cons_self)) with e2 | e2
              · exact e2.symm
              · have := ha.1 b e2; have := hb.1 a e; omega
          subst hab
          rw [ih l (List.Perm.cons_inv hlm) hb.2 ha.2]
    exact key _ _ hp2 hs hasc
  · refine ⟨fun x hx => ?_, (hpm.map _).nodup_iff.2 hnd, ?_⟩
    · obtain ⟨y, hy, rfl⟩ := List.mem_map.1 (hpm.subset hx)
      have := hb y hy
      show 0 ≤ (y.1 : Int) ∧ (y.1 : Int) < 4611686018427387904
      omega
    · rw [List.length_map, hp.length_eq]; omega
/-! the document's puncture -/
def stepP (leaf : Nat) (acc : List (Nat × W2)) (y : Nat × W2) : List (Nat × W2) := bif belowB leaf y.1 then (sibA y leaf).foldl ins acc else ins acc y
/-- the labels behind a puncture -/
def punL (L : List (Nat × W2)) (leaf : Nat) : List (Nat × W2) := L.foldl (stepP leaf) []
/-- which they are -/
def punIn (L : List (Nat × W2)) (leaf : Nat) (x : Nat × W2) : Prop := (x ∈ L ∧ belowB leaf x.1 = false) ∨ ∃ y ∈ L, belowB leaf y.1 = true ∧ x ∈ sibA y leaf
theorem sib_not_in (h : pvP d L) {leaf : Nat} (hl1 : 1 ≤ leaf) (hl : leaf < 128) {y : Nat × W2} (hy : y ∈ L) (hb : belowB leaf y.1 = true) {x : Nat × W2} (hx : x ∈ sibA y leaf) : 2 ≤ x.1 ∧ x.1 < 128 ∧ (∀ z ∈ L, belowB leaf z.1 = false → z.1 ≠ x.1) ∧ belowB x.1 y.1 = true ∧ belowB leaf x.1 = false := by
  obtain ⟨j, hj, rfl⟩ := sibA_mem.1 hx
  obtain ⟨f1, f2, f3, f4, f5, f6, f7, f8, f9⟩ := sib_facts hl hl1 hb hj
  refine ⟨f1, f2, fun z hz hzb he => ?_, f4, f5⟩
  simp only at he
  have := pv_anti h hy hz (by rw [he]; exact f4)
  rw [this, hb] at hzb; cases hzb
theorem pun_fold (h : pvP d L) (h6 : d ≤ 6) {leaf : Nat} (hl1 : 1 ≤ leaf) (hl : leaf < 128) : ∀ (pre suf : List (Nat × W2)), L = pre ++ suf → srtd (pre.foldl (stepP leaf) []) ∧ (∀ x, x ∈ pre.foldl (stepP leaf) [] ↔ punIn pre leaf x) ∧ (∀ x ∈ pre.foldl (stepP leaf) [], x.1 < 128) := by
  intro pre
  have h128 := pow_le128 h6
  induction pre using rev_ind with
  | nil => intro suf _; exact ⟨List.Pairwise.nil, fun x => by simp [punIn], fun x hx => (by cases hx)⟩
  | snoc pre y ih =>
    intro suf he
    rw [List.append_assoc] at he
    obtain ⟨i1, i2, i3⟩ := ih ([y] ++ suf) he
    rw [List.foldl_append, List.foldl_cons, List.foldl_nil]
    generalize hacc : pre.foldl (stepP leaf) [] = acc at *
    have hpre : ∀ z ∈ pre, z ∈ L := fun z hz => by rw [he]; simp [hz]
    have hyL : y ∈ L := by rw [he]; simp
    have hyb := h.1 y hyL
    have hpw := h.2
    rw [he, List.pairwise_append] at hpw
    have hlt : ∀ z ∈ pre, z.1 < y.1 := fun z hz => (hpw.2.2 z hz y (by simp)).1
    unfold stepP
    cases hb : belowB leaf y.1 with
    | false =>
      rw [cond_false]
      have hne : ∀ z ∈ acc, z.1 ≠ y.1 := by
        intro z hz
        rcases (i2 z).1 hz with ⟨hz1, _⟩ | ⟨w, hw, hwb, hws⟩
        · have := hlt z hz1; omega
        · intro e
          have hf := sib_not_in h hl1 hl (hpre w hw) hwb hws
          exact hf.2.2.1 y hyL hb e.symm
      refine ⟨ins_srtd i1 hne, fun x => ?_, fun x hx => ?_⟩
      · rw [ins_mem, i2]
        unfold punIn
        constructor
        · rintro (rfl | ⟨h1, h2⟩ | ⟨w, hw, h1, h2⟩)
          · exact .inl ⟨by simp, hb⟩
          · exact .inl ⟨by simp [h1], h2⟩
          · exact .inr ⟨w, by simp [hw], h1, h2⟩
        · rintro (⟨h1, h2⟩ | ⟨w, hw, h1, h2⟩)
          · rcases List.mem_append.1 h1 with h1 | h1
            · exact .inr (.inl ⟨h1, h2⟩)
            · exact .inl (List.mem_singleton.1 h1)
          · rcases List.mem_append.1 hw with hw | hw
            · exact .inr (.inr ⟨w, hw, h1, h2⟩)
            · rw [List.mem_singleton.1 hw, hb] at h1; cases h1
      · rcases (ins_mem _ _ _).1 hx with rfl | hx
        · omega
        · exact i3 x hx
    | true =>
      rw [cond_true]
      have hfold : ∀ m, m ≤ Nat.log2 leaf - Nat.log2 y.1 → srtd ((sibs y leaf m).foldl ins acc) ∧ (∀ x, x ∈ (sibs y leaf m).foldl ins acc ↔ x ∈ acc ∨ x ∈ sibs y leaf m) := by
        intro m
        induction m with
        | zero => intro _; exact ⟨i1, fun x => by simp [sibs]⟩
        | succ m im =>
          intro hm
          obtain ⟨m1, m2⟩ := im (by omega)
          rw [sibs, List.foldl_append, List.foldl_cons, List.foldl_nil]
          have hj : Nat.log2 leaf - Nat.log2 y.1 - 1 - m < Nat.log2 leaf - Nat.log2 y.1 := by omega
          obtain ⟨f1, f2, f3, f4, f5, f6, f7, f8, f9⟩ := sib_facts hl hl1 hb hj
          refine ⟨ins_srtd m1 fun z hz => ?_, fun x => ?_⟩
          · intro e
            simp only at e
            rcases (m2 z).1 hz with hz | hz
            · rcases (i2 z).1 hz with ⟨hz1, hz2⟩ | ⟨w, hw, hwb, hws⟩
              · have := pv_anti h hyL (hpre z hz1) (by rw [e]; exact f4)
                rw [this] at hz1; have := hlt y hz1; omega
              · have := pv_one h hl1 (hpre w hw) hyL hwb hb
                rw [this] at hw; have := hlt y hw; omega
            · obtain ⟨i, hi, rfl⟩ := (sibs_mem y leaf z m).1 hz
              have hi2 : Nat.log2 leaf - Nat.log2 y.1 - 1 - i < Nat.log2 leaf - Nat.log2 y.1 := by omega
              obtain ⟨g1, g2, g3, _⟩ := sib_facts hl hl1 hb hi2
              simp only at e
              rw [e] at g3
              omega
          · rw [ins_mem, m2, List.mem_append, List.mem_singleton]
            constructor
            · rintro (h1 | h1 | h1)
              · exact .inr (.inr h1)
              · exact .inl h1
              · exact .inr (.inl h1)
            · rintro (h1 | h1 | h1)
              · exact .inr (.inl h1)
              · exact .inr (.inr h1)
              · exact .inl h1
      obtain ⟨m1, m2⟩ := hfold _ (Nat.le_refl _)
      refine ⟨m1, fun x => ?_, fun x hx => ?_⟩
      · show x ∈ (sibs y leaf _).foldl ins acc ↔ _
        rw [m2, i2]
        unfold punIn
        constructor
        · rintro ((⟨h1, h2⟩ | ⟨w, hw, h1, h2⟩) | h1)
          · exact .inl ⟨by simp [h1], h2⟩
          · exact .inr ⟨w, by simp [hw], h1, h2⟩
          · exact .inr ⟨y, by simp, hb, h1⟩
        · rintro (⟨h1, h2⟩ | ⟨w, hw, h1, h2⟩)
          · rcases List.mem_append.1 h1 with h1 | h1
            · exact .inl (.inl ⟨h1, h2⟩)
            · rw [List.mem_singleton.1 h1, hb] at h2; cases h2
          · rcases List.mem_append.1 hw with hw | hw
            · exact .inl (.inr ⟨w, hw, h1, h2⟩)
            · rw [List.mem_singleton.1 hw] at h2; exact .inr h2
      · rcases (m2 x).1 hx with hx | hx
        · exact i3 x hx
        · exact (sib_not_in h hl1 hl hyL hb hx).2.1
theorem pun_srtd (h : pvP d L) (h6 : d ≤ 6) {leaf : Nat} (hl1 : 1 ≤ leaf) (hl : leaf < 128) : srtd (punL L leaf) := (pun_fold h h6 hl1 hl L [] (by simp)).1
theorem pun_mem (h : pvP d L) (h6 : d ≤ 6) {leaf : Nat} (hl1 : 1 ≤ leaf) (hl : leaf < 128) (x : Nat × W2) : x ∈ punL L leaf ↔ punIn L leaf x := (pun_fold h h6 hl1 hl L [] (by simp)).2.1 x
theorem pun_lt (h : pvP d L) (h6 : d ≤ 6) {leaf : Nat} (hl1 : 1 ≤ leaf) (hl : leaf < 128) : ∀ x ∈ punL L leaf, x.1 < 128 := (pun_fold h h6 hl1 hl L [] (by simp)).2.2
/-! keys -/
/-! the document's calls -/
end
end Go.Sx.Po

end
section
/- Punctured keys, plainly: the program's punctures; values on both sides. -/
set_option linter.unusedVariables false
set_option linter.unusedSimpArgs false
set_option linter.unusedSectionVars false
set_option maxRecDepth 100000
namespace Go.Sx.Po
open Go

section
variable {d : Nat} {L : List (Nat × W2)}
theorem findI_eq (h6 : d ≤ 6) (h : pvP d L) {leaf : Nat} (hl1 : 1 ≤ leaf) (hl : leaf < 128) : slices_IndexFunc_15cd_poly_find_1 (L.map mkN) (leaf : Int) = some (match L.findIdx? (fun y => belowB leaf y.1) with | some i => (i : Int) | none => -1) := by
  have hlen := pv_len h6 h
  have h128 := pow_le128 h6
  unfold slices_IndexFunc_15cd_poly_find_1
  rw [find_go (L.map mkN) (by simp; omega) (fun y => belowB leaf y.Node.toNat) _ (fun rec j hj => by
    have hj' : j < L.length := by simpa using hj
    have hb := h.1 _ (List.getElem_mem hj')
    simp only [slices_IndexFunc_15cd_poly_find_1_L1, poly_find_1]
    rw [if_pos (by omega), getI_some hj, bind_some, List.getElem_map, show (mkN L[j]).Node = (L[j].1 : Int) from rfl, pbelow_eq hl1 hb.1 (by omega) (by omega), bind_some, bind_some, w64_nat (by simp at hj; omega), Int.toNat_natCast]) (fun rec => by
    simp only [slices_IndexFunc_15cd_poly_find_1_L1]; rw [if_neg (by omega)])]
  congr 1
  rw [List.findIdx?_map]; rfl
theorem find_eq (h6 : d ≤ 6) (h : pvP d L) (hc : poly_CheckPunctured ⟨(d : Int), L.map mkN⟩ = some 0) {u : Nat} (hu : u < 2 ^ d) : poly_find ⟨(d : Int), L.map mkN⟩ (u : Int) = some (((2 ^ d + u : Nat) : Int), (match L.findIdx? (fun y => belowB (2 ^ d + u) y.1) with | some i => (i : Int) | none => -1), 0) := by
  have h64 := pow_le64 h6
  have hpp := Nat.two_pow_pos d
  unfold poly_find poly_find_J1
  rw [hc, bind_some, if_neg (by simp), if_neg (by omega), shG_nat, bind_some, shl1 h6, decide_eq_false (by omega), cond_false, bind_some, shl1 h6, w64_id (by omega) (by omega), show ((2 ^ d : Nat) : Int) + (u : Int) = ((2 ^ d + u : Nat) : Int) from by omega, findI_eq h6 h (by omega) (by omega), bind_some]
theorem next_eq (k : W2) {w : Nat} (hw : w < 128) : poly_next k (w : Int) = some (stp k w) := by
  have key : ∀ w : Fin 128, (31#8 + (wd8 (bitI .and (w.1 : Int) 1))) = if w.1 % 2 = 1 then 32#8 else 31#8 := by decide +kernel
  have := key ⟨w, hw⟩
  simp only at this
  unfold poly_next stp
  rw [this]
  split <;> rfl
/-- without an element -/
theorem erase_nodup {l : List (Nat × W2)} (h : l.Nodup) {i : Nat} (hi : i < l.length) (x : Nat × W2) : x ∈ l.eraseIdx i ↔ x ∈ l ∧ x ≠ l[i] := by
  rw [List.mem_eraseIdx_iff_getElem]
  constructor
  · rintro ⟨j, hj, hne, rfl⟩
    refine ⟨List.getElem_mem hj, fun e => ?_⟩
    exact hne ((List.getElem_inj h).1 e)
  · rintro ⟨hx, hne⟩
    obtain ⟨j, hj, rfl⟩ := List.mem_iff_getElem.1 hx
    exact ⟨j, hj, fun e => hne (by subst e; rfl), rfl⟩
theorem srtd_nodup {l : List (Nat × W2)} (h : srtd l) : l.Nodup := h.imp fun {a b} hab e => by subst e; omega
theorem ppun_eq (h6 : d ≤ 6) (h : pvP d L) (hc : poly_CheckPunctured ⟨(d : Int), L.map mkN⟩ = some 0) {u : Nat} (hu : u < 2 ^ d) : poly_Puncture ⟨(d : Int), L.map mkN⟩ (u : Int) = some (⟨(d : Int), (punL L (2 ^ d + u)).map mkN⟩, 0) := by
  have h64 := pow_le64 h6
  have hpp := Nat.two_pow_pos d
  have h128 := pow_le128 h6
  have hpw : 2 ^ (d + 1) = 2 * 2 ^ d := by rw [Nat.pow_succ, Nat.mul_comm]
  have hlen := pv_len h6 h
  unfold poly_Puncture poly_Puncture_J1 slices_Clone_109b
  rw [find_eq h6 h hc hu, bind_some]
  simp only
  rw [if_neg (by simp), appG_some (by simp; omega), bind_some, List.nil_append, bind_some]
  obtain ⟨leaf, hleaf⟩ : ∃ leaf, 2 ^ d + u = leaf := ⟨_, rfl⟩
  have hl1 : 1 ≤ leaf := by omega
  have hl : leaf < 128 := by omega
  have hl62 := log2_le62 (show leaf < 9223372036854775808 by omega)
  have hR1 := pun_srtd h h6 hl1 hl
  have hR2 := pun_mem h h6 hl1 hl
  have hR3 := pun_lt h h6 hl1 hl
  rw [hleaf]
  cases hf : L.findIdx? (fun y => belowB leaf y.1) with
  | none =>
    simp only
    rw [if_pos (by omega)]
    have hnone : ∀ y ∈ L, belowB leaf y.1 = false := by
      rw [List.findIdx?_eq_none_iff] at hf; exact hf
    have : L = punL L leaf := srtd_eq (pv_srtd h) hR1 fun x => by
      rw [hR2]; unfold punIn
      constructor
      · intro hx; exact .inl ⟨hx, hnone x hx⟩
      · rintro (⟨hx, _⟩ | ⟨y, hy, hb, _⟩)
        · exact hx
        · rw [hnone y hy] at hb; cases hb
    rw [← this]
  | some i =>
    obtain ⟨hi, hib, _⟩ := List.findIdx?_eq_some_iff_getElem.1 hf
    simp only
    have hiL : (i : Int) + 1 = ((i + 1 : Nat) : Int) := by omega
    have hdel : slices_Delete_a5d6 (L.map mkN) (i : Int) (w64 ((i : Int) + 1)) = some ((L.eraseIdx i).map mkN) := by
      unfold slices_Delete_a5d6 sli3G
      rw [w64_nat (by omega), if_pos (by simp; omega), bind_some, if_neg (by omega)]
      have s1 : sliG (L.map mkN) 0 (i : Int) = some ((L.take i).map mkN) := by
        unfold sliG; rw [if_pos (by simp; omega), Int.toNat_natCast, Int.toNat_zero, List.drop_zero, List.map_take]
      have s2 : sliG (L.map mkN) ((i + 1 : Nat) : Int) ((L.map mkN).length : Int) = some ((L.drop (i + 1)).map mkN) := by
        unfold sliG; rw [if_pos (by simp; omega), Int.toNat_natCast, Int.toNat_natCast, List.take_length, List.map_drop]
      rw [s1, bind_some, s2, bind_some, ← List.map_append, List.eraseIdx_eq_take_drop_succ]
    rw [if_neg (by omega), getI_some (by simpa using hi), bind_some, hdel, bind_some, List.getElem_map]
    generalize hyy : L[i] = y at *
    have hyL : y ∈ L := hyy ▸ List.getElem_mem hi
    have hyb := h.1 y hyL
    obtain ⟨K, p1, e1⟩ := (below_iff hl1).1 hib
    have hK := log2_div leaf K p1
    have hK2 := log2_divk p1
    rw [← e1] at hK hK2
    have hKK : Nat.log2 leaf - Nat.log2 y.1 = K := by omega
    have hel : (L.eraseIdx i).length ≤ 128 := by rw [List.length_eraseIdx]; split <;> omega
    -- the labels that are put behind
    have hperm : (L.eraseIdx i ++ sibA y leaf).Perm (punL L leaf) := by
      have hnL := srtd_nodup (pv_srtd h)
      have hmem : ∀ x, x ∈ L.eraseIdx i ++ sibA y leaf ↔ x ∈ punL L leaf := by
        intro x
        rw [hR2, List.mem_append, erase_nodup hnL hi, hyy]
        unfold punIn
        constructor
        · rintro (⟨h1, h2⟩ | h1)
          · refine .inl ⟨h1, ?_⟩
            cases hb : belowB leaf x.1 with
            | false => rfl
            | true => exact absurd (pv_one h hl1 h1 hyL hb hib) h2
          · exact .inr ⟨y, hyL, hib, h1⟩
        · rintro (⟨h1, h2⟩ | ⟨w, hw, h1, h2⟩)
          · exact .inl ⟨h1, fun e => by rw [e, hib] at h2; cases h2⟩
          · rw [pv_one h hl1 hw hyL h1 hib] at h2; exact .inr h2
      have hnd : (L.eraseIdx i ++ sibA y leaf).Nodup := by
        rw [List.nodup_append]
        refine ⟨hnL.sublist (List.eraseIdx_sublist _ _), ?_, ?_⟩
        · have : ∀ m, m ≤ Nat.log2 leaf - Nat.log2 y.1 → (sibs y leaf m).Nodup := by
            intro m
            induction m with
            | zero => intro _; exact List.nodup_nil
            | succ m im =>
              intro hm
              rw [sibs, List.nodup_append]
              refine ⟨im (by omega), List.nodup_cons.2 ⟨by simp, List.nodup_nil⟩, fun a ha b hb => ?_⟩
              rw [List.mem_singleton.1 hb]
              obtain ⟨k, hk, rfl⟩ := (sibs_mem y leaf a m).1 ha
              intro e
              have e2 := congrArg (fun x : Nat × W2 => x.1) e
              simp only at e2
              have f1 := (sib_facts hl hl1 hib (show Nat.log2 leaf - Nat.log2 y.1 - 1 - k < Nat.log2 leaf - Nat.log2 y.1 by omega)).2.2.1
              have f2 := (sib_facts hl hl1 hib (show Nat.log2 leaf - Nat.log2 y.1 - 1 - m < Nat.log2 leaf - Nat.log2 y.1 by omega)).2.2.1
              rw [e2] at f1; omega
          exact this _ (Nat.le_refl _)
        · intro a ha b hb e
          subst e
          have ha2 := (erase_nodup hnL hi a).1 ha
          obtain ⟨_, _, g3, g4, _⟩ := sib_not_in h hl1 hl hyL hib hb
          have := pv_anti h hyL ha2.1 g4
          rw [hyy] at ha2; exact ha2.2 this
      exact (List.perm_ext_iff_of_nodup hnd (srtd_nodup hR1)).2 hmem
    have hsl := sibs_len y leaf
    have hy0 : ∀ m, m ≤ K → 2 ^ (K - m) ≤ leaf := fun m hm => Nat.le_trans (Nat.pow_le_pow_right (by omega) (by omega)) p1
    refine fix_go _ (fun m s => s = ((L.eraseIdx i ++ sibs y leaf m).map mkN, ((leaf / 2 ^ (K - m) : Nat) : Int), (0 : Int), keyTo y.2 y.1 (leaf / 2 ^ (K - m)))) K _ (by omega) ?_ ?_ ?_
    · rw [Nat.sub_zero, ← e1, keyTo_self, sibs, List.append_nil]; rfl
    · rintro m _ hm rfl
      refine ⟨_, rfl, fun rec => ?_⟩
      obtain ⟨b, hb⟩ : ∃ b, K - m = b + 1 := ⟨K - m - 1, by omega⟩
      have hb2 : Nat.log2 leaf - Nat.log2 y.1 - 1 - m = b := by omega
      have hj2 : b < Nat.log2 leaf - Nat.log2 y.1 := by omega
      obtain ⟨f1, f2, f3, f4, f5, f6, f7, f8, f9⟩ := sib_facts hl hl1 hib hj2
      have hne : leaf / 2 ^ (b + 1) ≠ leaf := by
        have := Nat.div_lt_self (n := leaf) (by omega) (Nat.one_lt_two_pow (show b + 1 ≠ 0 by omega)); omega
      have hdd : leaf / 2 ^ (b + 1) = leaf / 2 ^ b / 2 := by rw [Nat.div_div_eq_div_mul, ← Nat.pow_succ]
      have hv128 : leaf / 2 ^ (b + 1) < 64 := by omega
      have hpos := div_pos' f9
      have hbw : belowB leaf (leaf / 2 ^ b) = true := (below_iff hl1).2 ⟨b, Nat.le_trans (Nat.pow_le_pow_right (by omega) (by omega)) f9, rfl⟩
      have hlogb := log2_divk (w := leaf) (k := b) (Nat.le_trans (Nat.pow_le_pow_right (by omega) (by omega)) f9)
      have hbelow : belowB leaf (2 * (leaf / 2 ^ (b + 1))) = decide (leaf / 2 ^ b % 2 = 0) := by
        by_cases he : leaf / 2 ^ b % 2 = 0
        · rw [show 2 * (leaf / 2 ^ (b + 1)) = leaf / 2 ^ b from by omega, hbw, decide_eq_true he]
        · rw [decide_eq_false he]
          cases hc2 : belowB leaf (2 * (leaf / 2 ^ (b + 1))) with
          | false => rfl
          | true =>
            have hlog : Nat.log2 (2 * (leaf / 2 ^ (b + 1))) = Nat.log2 (leaf / 2 ^ b) := by
              rw [log2_half (by omega), log2_half f6, Nat.mul_div_cancel_left _ (by omega), hdd]
            have := below_same hl1 hc2 hbw hlog
            omega
      have hstep : poly_Puncture_J3 ((L.eraseIdx i ++ sibs y leaf m).map mkN) (keyTo y.2 y.1 (leaf / 2 ^ (b + 1))) rec ((leaf / 2 ^ b : Nat) : Int) = rec ((L.eraseIdx i ++ sibs y leaf (m + 1)).map mkN, ((leaf / 2 ^ b : Nat) : Int), 0, keyTo y.2 y.1 (leaf / 2 ^ b)) := by
        unfold poly_Puncture_J3
        have hk1 := keyTo_step y.2 (n := y.1) (s := leaf / 2 ^ b) f6 (by omega)
        have hk2 := keyTo_step y.2 (n := y.1) (s := (leaf / 2 ^ b) ^^^ 1) f1 (by omega)
        rw [← hdd] at hk1
        rw [f8] at hk2
        rw [bit_xor f7, next_eq _ f2, bind_some, appG_some (by simp [hsl]; omega), bind_some, next_eq _ f7, bind_some, ← hk1, ← hk2, sibs, hb2, ← List.append_assoc, List.map_append (l₂ := [_])]
        rfl
      simp only [poly_Puncture_L2]
      rw [hb, if_pos (by omega), w64_id (n := 2 * ((leaf / 2 ^ (b + 1) : Nat) : Int)) (by omega) (by omega), show 2 * ((leaf / 2 ^ (b + 1) : Nat) : Int) = ((2 * (leaf / 2 ^ (b + 1)) : Nat) : Int) from by omega, pbelow_eq hl1 (by omega) (by omega) (by omega), bind_some, hbelow, show K - (m + 1) = b from by omega]
      by_cases he : leaf / 2 ^ b % 2 = 0
      · rw [decide_eq_true he]
        simp only [Bool.not_true, cond_false]
        rw [show 2 * (leaf / 2 ^ (b + 1)) = leaf / 2 ^ b from by omega]
        exact hstep
      · rw [decide_eq_false he]
        simp only [Bool.not_false, cond_true]
        rw [w64_nat (by omega), show 2 * (leaf / 2 ^ (b + 1)) + 1 = leaf / 2 ^ b from by omega]
        exact hstep
    · rintro _ rfl rec
      simp only [poly_Puncture_L2]
      have : sibs y leaf K = sibA y leaf := by unfold sibA; rw [hKK]
      rw [Nat.sub_self, Nat.pow_zero, Nat.div_one, if_neg (by simp), this, srt_eq hperm hR1 hR3, bind_some]
/-! values -/
end
end Go.Sx.Po

end
section
/- Punctured keys, plainly: a puncture keeps a key valid, and all values but one. -/
set_option linter.unusedVariables false
set_option linter.unusedSimpArgs false
set_option linter.unusedSectionVars false
set_option maxRecDepth 100000
namespace Go.Sx.Po
open Go

/-- strictly above: above the half -/
theorem below_half {b a : Nat} (hb : 1 ≤ b) (h : belowB b a = true) (hne : a ≠ b) : belowB (b / 2) a = true := by
  obtain ⟨k, p1, rfl⟩ := (below_iff hb).1 h
  cases k with
  | zero => exact absurd (by rw [Nat.pow_zero, Nat.div_one]) hne
  | succ k =>
    have p2 := half_pow p1
    have : 1 ≤ b / 2 := Nat.le_trans (Nat.one_le_two_pow) p2
    exact (below_iff this).2 ⟨k, p2, by rw [Nat.div_div_eq_div_mul, Nat.mul_comm, ← Nat.pow_succ]⟩
section
variable {d : Nat} {L : List (Nat × W2)}
theorem leaf_facts (h6 : d ≤ 6) {u : Nat} (hu : u < 2 ^ d) : 1 ≤ 2 ^ d + u ∧ 2 ^ d + u < 128 ∧ 2 ^ d + u < 2 ^ (d + 1) := by
  have hpp := Nat.two_pow_pos d
  have h128 := pow_le128 h6
  have hpw : 2 ^ (d + 1) = 2 * 2 ^ d := by rw [Nat.pow_succ, Nat.mul_comm]
  omega
theorem pun_anti (h : pvP d L) {leaf : Nat} (hl1 : 1 ≤ leaf) (hl : leaf < 128) {a b : Nat × W2} (ha : punIn L leaf a) (hb : punIn L leaf b) (hbel : belowB b.1 a.1 = true) (hne : a.1 ≠ b.1) : False := by
  rcases ha with ⟨ha1, ha2⟩ | ⟨y, hy, hyb, hya⟩ <;> rcases hb with ⟨hb1, hb2⟩ | ⟨z, hz, hzb, hzx⟩
  · exact hne (by rw [pv_anti h ha1 hb1 hbel])
  · obtain ⟨g1, g2, g3, g4, g5⟩ := sib_not_in h hl1 hl hz hzb hzx
    have := pv_one h (leaf := b.1) (by omega) ha1 hz hbel g4
    rw [this, hzb] at ha2; cases ha2
  · obtain ⟨g1, g2, g3, g4, g5⟩ := sib_not_in h hl1 hl hy hyb hya
    have hb1' := (h.1 _ hb1).1
    have := pv_anti h hy hb1 (below_trans hb1' hbel g4)
    rw [this, hyb] at hb2; cases hb2
  · have hyz := pv_one h hl1 hy hz hyb hzb
    subst hyz
    obtain ⟨g1, g2, g3, g4, g5⟩ := sib_not_in h hl1 hl hy hyb hya
    obtain ⟨j, hj, rfl⟩ := sibA_mem.1 hzx
    obtain ⟨f1, f2, f3, f4, f5, f6, f7, f8, f9⟩ := sib_facts hl hl1 hyb hj
    have h1 := below_half (by omega) hbel hne
    simp only at h1
    rw [f8] at h1
    have h2 : belowB leaf (leaf / 2 ^ (j + 1)) = true := (below_iff hl1).2 ⟨j + 1, f9, rfl⟩
    rw [below_trans hl1 h2 h1] at g5; cases g5
theorem pun_pv (h6 : d ≤ 6) (h : pvP d L) {u : Nat} (hu : u < 2 ^ d) : pvP d (punL L (2 ^ d + u)) := by
  obtain ⟨hl1, hl, hl2⟩ := leaf_facts h6 hu
  have hm := pun_mem h h6 hl1 hl
  have hs := pun_srtd h h6 hl1 hl
  refine ⟨fun x hx => ?_, ?_⟩
  · rcases (hm x).1 hx with ⟨h1, _⟩ | ⟨y, hy, hyb, hxs⟩
    · exact h.1 x h1
    · obtain ⟨j, hj, rfl⟩ := sibA_mem.1 hxs
      obtain ⟨f1, f2, f3, f4, f5, f6, f7, f8, f9⟩ := sib_facts hl hl1 hyb hj
      refine ⟨by simp only; omega, ?_⟩
      simp only
      have hlog := leaf_log hu
      have := Nat.lt_log2_self (n := (2 ^ d + u) / 2 ^ j ^^^ 1)
      exact Nat.lt_of_lt_of_le this (Nat.pow_le_pow_right (by omega) (by omega))
  · refine List.pairwise_iff_getElem.2 fun i j hi hj hij => ?_
    have hlt := List.pairwise_iff_getElem.1 hs i j hi hj hij
    refine ⟨hlt, ?_⟩
    cases hc : belowB (punL L (2 ^ d + u))[j].1 (punL L (2 ^ d + u))[i].1 with
    | false => rfl
    | true => exact (pun_anti h hl1 hl ((hm _).1 (List.getElem_mem hi)) ((hm _).1 (List.getElem_mem hj)) hc (by omega)).elim
/-! values -/
/-! how many labels -/
end
end Go.Sx.Po

end
section
/- Punctured keys, plainly: keys punctured at some numbers, one after the other. -/
set_option linter.unusedVariables false
set_option linter.unusedSimpArgs false
set_option linter.unusedSectionVars false
set_option maxRecDepth 100000
namespace Go.Sx.Po
open Go

/-- punctures, one after the other -/
def puns (d : Nat) (L : List (Nat × W2)) (us : List Nat) : List (Nat × W2) := us.foldl (fun L u => punL L (2 ^ d + u)) L
theorem puns_pv {d : Nat} (h6 : d ≤ 6) : ∀ (us : List Nat) {L : List (Nat × W2)}, pvP d L → (∀ u ∈ us, u < 2 ^ d) → pvP d (puns d L us)
  | [], L, h, _ => h
  | u :: us, L, h, hu => puns_pv h6 us (pun_pv h6 h (hu u (by simp))) fun x hx => hu x (by simp [hx])
/-! the full key -/
theorem full_pv (d : Nat) (k : W2) : pvP d [(1, k)] := by
  refine ⟨fun x hx => ?_, List.pairwise_singleton _ _⟩
  rw [List.mem_singleton.1 hx]
  exact ⟨Nat.le_refl _, Nat.one_lt_two_pow (by omega)⟩
theorem below_one {w : Nat} (hw : 1 ≤ w) : belowB w 1 = true := (below_iff hw).2 ⟨Nat.log2 w, Nat.log2_self_le (by omega), by
  have h1 := Nat.log2_self_le (n := w) (by omega)
  have h2 := Nat.lt_log2_self (n := w)
  rw [Nat.pow_succ] at h2
  have : w / 2 ^ Nat.log2 w < 2 := Nat.div_lt_of_lt_mul h2
  have := div_pos' h1
  omega⟩
theorem full_eq {d : Nat} (h6 : d ≤ 6) (k : W2) : poly_Full k (d : Int) = some (⟨(d : Int), [(1, k)].map mkN⟩, 0) := by
  unfold poly_Full poly_Full_J1
  rw [if_neg (by omega), decide_eq_false (by omega), cond_false]; rfl
/-- the numbers that the bytes mean -/
def nums (d : Nat) (l : List (BitVec 8)) : List Nat := l.map fun x => x.toNat % 2 ^ d
theorem nums_lt {d : Nat} {l : List (BitVec 8)} : ∀ u ∈ nums d l, u < 2 ^ d := fun u hu => by
  obtain ⟨x, _, rfl⟩ := List.mem_map.1 hu; exact Nat.mod_lt _ (Nat.two_pow_pos d)
theorem rem_un8 (x : BitVec 8) {d : Nat} (h6 : d ≤ 6) : remI (un8 x) (shlI 1 d) = some ((x.toNat % 2 ^ d : Nat) : Int) := by
  rw [shl1 h6]; exact rem_nat _ _ (Nat.two_pow_pos d)
theorem punctured_eq {d : Nat} (h6 : d ≤ 6) (k : W2) (l : List (BitVec 8)) (hl : l.length < 4611686018427387904) : law04_punctured k (d : Int) l = some (⟨(d : Int), (puns d [(1, k)] (nums d l)).map mkN⟩, true) := by
  unfold law04_punctured
  rw [full_eq h6, bind_some, if_neg (by simp)]
  refine fix_go _ (fun j s => s = ((j : Int), (⟨(d : Int), (puns d [(1, k)] (nums d (l.take j))).map mkN⟩ : TPunctured))) l.length _ (by omega) rfl ?_ ?_
  · rintro j _ hj rfl
    refine ⟨_, rfl, fun rec => ?_⟩
    have hu : l[j].toNat % 2 ^ d < 2 ^ d := Nat.mod_lt _ (Nat.two_pow_pos d)
    have hpv := puns_pv h6 (nums d (l.take j)) (full_pv d k) nums_lt
    have hpv2 := pun_pv h6 hpv hu
    obtain ⟨c1, _⟩ := punct_right h6 hpv (by have := pv_len h6 hpv; omega)
    obtain ⟨c2, _⟩ := punct_right h6 hpv2 (by have := pv_len h6 hpv2; omega)
    have hn : puns d [(1, k)] (nums d (l.take (j + 1))) = punL (puns d [(1, k)] (nums d (l.take j))) (2 ^ d + l[j].toNat % 2 ^ d) := by
      rw [take_snoc l j hj]; unfold nums puns; rw [List.map_append, List.foldl_append]; rfl
    simp only [law04_punctured_L1, law04_punctured_J2, law04_punctured_J3]
    rw [if_pos (by omega), getI_some hj, bind_some, shG_nat, bind_some, rem_un8 _ h6, bind_some, ppun_eq h6 hpv c1 hu, bind_some]
    simp only
    rw [if_neg (by simp), c2, bind_some, decide_eq_false (by simp), cond_false, w64_nat (by omega), hn]
  · rintro _ rfl rec
    simp only [law04_punctured_L1]
    rw [if_neg (by omega), List.take_length]
theorem sameP_self' (p : TPunctured) (hl : p.Labels.length < 4611686018427387904) : ref04_SamePunctured p p = some true := by
  unfold ref04_SamePunctured ref04_SamePunctured_J1
  rw [if_neg (by simp), decide_eq_false (by simp), cond_false]
  exact same_go p.Labels.length _ _ (by omega) (fun rec j hj => by simp only [ref04_SamePunctured_L2]; rw [if_pos (by omega), getI_some hj, bind_some, bind_some, if_neg (by simp), w64_nat (by omega)]) (fun rec => by simp only [ref04_SamePunctured_L2]; rw [if_neg (by omega)])
/-! which labels there are: the nodes without a punctured leaf below whose parents have one -/
def chi (d : Nat) (k : W2) (S : Nat → Prop) (x : Nat × W2) : Prop := 1 ≤ x.1 ∧ x.1 < 2 ^ (d + 1) ∧ x.2 = keyTo k 1 x.1 ∧ (∀ u, S u → belowB (2 ^ d + u) x.1 = false) ∧ (x.1 = 1 ∨ ∃ u, S u ∧ belowB (2 ^ d + u) (x.1 / 2) = true)
section
variable {d : Nat} {k : W2} {L : List (Nat × W2)} {S : Nat → Prop}
theorem chi_above (h6 : d ≤ 6) (hS : ∀ u, S u → u < 2 ^ d) (hL : ∀ x, x ∈ L ↔ chi d k S x) : ∀ (n : Nat), 1 ≤ n → n < 2 ^ (d + 1) → (∀ u, S u → belowB (2 ^ d + u) n = false) → ∃ y ∈ L, belowB n y.1 = true := by
  intro n
  induction n using Nat.strongRecOn with
  | ind n ih =>
    intro h1 h2 h3
    by_cases hn : n = 1 ∨ ∃ u, S u ∧ belowB (2 ^ d + u) (n / 2) = true
    · exact ⟨(n, keyTo k 1 n), (hL _).2 ⟨h1, h2, rfl, h3, hn⟩, below_refl h1⟩
    · have hn1 : n ≠ 1 := fun e => hn (.inl e)
      obtain ⟨y, hy, hb⟩ := ih (n / 2) (by omega) (by omega) (by omega) fun u hu => by
        cases hc : belowB (2 ^ d + u) (n / 2) with
        | false => rfl
        | true => exact absurd (.inr ⟨u, hu, hc⟩) hn
      exact ⟨y, hy, below_trans h1 ((below_iff h1).2 ⟨1, by omega, by rw [Nat.pow_one]⟩) hb⟩
theorem chi_step (h6 : d ≤ 6) (h : pvP d L) (hS : ∀ u, S u → u < 2 ^ d) (hL : ∀ x, x ∈ L ↔ chi d k S x) {u : Nat} (hu : u < 2 ^ d) (x : Nat × W2) : x ∈ punL L (2 ^ d + u) ↔ chi d k (fun m => m = u ∨ S m) x := by
  obtain ⟨hl1, hl, hl2⟩ := leaf_facts h6 hu
  have hpv := pun_pv h6 h hu
  have lu := leaf_log hu
  constructor
  · intro hx
    obtain ⟨b1, b2⟩ := hpv.1 x hx
    rcases (pun_mem h h6 hl1 hl x).1 hx with ⟨h1, h2⟩ | ⟨y, hy, hyb, hxs⟩
    · obtain ⟨c1, c2, c3, c4, c5⟩ := (hL x).1 h1
      refine ⟨c1, c2, c3, ?_, ?_⟩
      · rintro m (rfl | hm)
        · exact h2
        · exact c4 m hm
      · rcases c5 with c5 | ⟨m, hm, c5⟩
        · exact .inl c5
        · exact .inr ⟨m, .inr hm, c5⟩
    · obtain ⟨c1, c2, c3, c4, c5⟩ := (hL y).1 hy
      obtain ⟨g1, g2, g3, g4, g5⟩ := sib_not_in h hl1 hl hy hyb hxs
      obtain ⟨j, hj, rfl⟩ := sibA_mem.1 hxs
      obtain ⟨f1, f2, f3, f4, f5, f6, f7, f8, f9⟩ := sib_facts hl hl1 hyb hj
      refine ⟨b1, b2, ?_, ?_, ?_⟩
      · simp only
        rw [c3, keyTo_trans k b1 g4 (below_one c1)]
      · rintro m (rfl | hm)
        · exact g5
        · cases hc : belowB (2 ^ d + m) (((2 ^ d + u) / 2 ^ j ^^^ 1, keyTo y.2 y.1 ((2 ^ d + u) / 2 ^ j ^^^ 1)) : Nat × W2).1 with
          | false => rfl
          | true =>
            have := c4 m hm
            rw [below_trans (by have := Nat.two_pow_pos d; omega) hc g4] at this; cases this
      · right
        refine ⟨u, .inl rfl, ?_⟩
        simp only
        rw [f8]
        exact (below_iff hl1).2 ⟨j + 1, f9, rfl⟩
  · rintro ⟨c1, c2, c3, c4, c5⟩
    rw [pun_mem h h6 hl1 hl]
    have hnu := c4 u (.inl rfl)
    by_cases hSx : ∃ m, S m ∧ belowB (2 ^ d + m) (x.1 / 2) = true
    · exact .inl ⟨(hL x).2 ⟨c1, c2, c3, fun m hm => c4 m (.inr hm), .inr hSx⟩, hnu⟩
    · have hx1 : x.1 ≠ 1 := fun e => by rw [e, below_one hl1] at hnu; cases hnu
      have hub : belowB (2 ^ d + u) (x.1 / 2) = true := by
        rcases c5 with c5 | ⟨m, rfl | hm, c5⟩
        · exact absurd c5 hx1
        · exact c5
        · exact absurd ⟨m, hm, c5⟩ hSx
      obtain ⟨y, hy, hyx⟩ := chi_above h6 hS hL (x.1 / 2) (by omega) (by omega) fun m hm => by
        cases hc : belowB (2 ^ d + m) (x.1 / 2) with
        | false => rfl
        | true => exact absurd ⟨m, hm, hc⟩ hSx
      have hyb := below_trans hl1 hub hyx
      obtain ⟨K, p1, e1⟩ := (below_iff hl1).1 hub
      have hK := log2_divk p1
      have hK0 : K ≠ 0 := fun e => by
        subst e
        rw [Nat.pow_zero, Nat.div_one] at e1
        have : 2 ^ (d + 1) = 2 * 2 ^ d := by rw [Nat.pow_succ, Nat.mul_comm]
        omega
      obtain ⟨j, rfl⟩ : ∃ j, K = j + 1 := ⟨K - 1, by omega⟩
      have hyl := below_log (show 1 ≤ x.1 / 2 by omega) hyx
      rw [e1, hK] at hyl
      have hkk := log2_div _ _ p1
      have hjl : j < Nat.log2 (2 ^ d + u) - Nat.log2 y.1 := by omega
      obtain ⟨f1, f2, f3, f4, f5, f6, f7, f8, f9⟩ := sib_facts hl hl1 hyb hjl
      have p3 : 2 ^ j ≤ 2 ^ d + u := Nat.le_trans (Nat.pow_le_pow_right (by omega) (by omega)) p1
      have hxe : x.1 = (2 ^ d + u) / 2 ^ j ^^^ 1 := by
        refine sib_eq f7 ?_ ?_
        · rw [e1, Nat.div_div_eq_div_mul, ← Nat.pow_succ]
        · intro e
          rw [e, (below_iff hl1).2 ⟨j, p3, rfl⟩] at hnu; cases hnu
      refine .inr ⟨y, hy, hyb, sibA_mem.2 ⟨j, hjl, ?_⟩⟩
      obtain ⟨d1, d2, d3, d4, d5⟩ := (hL y).1 hy
      refine Prod.ext hxe ?_
      simp only
      rw [c3, d3, ← hxe, keyTo_trans k c1 (by rw [hxe]; exact f4) (below_one d1)]
theorem puns_chi (h6 : d ≤ 6) : ∀ (us : List Nat) {L : List (Nat × W2)} {S : Nat → Prop}, pvP d L → (∀ u, S u → u < 2 ^ d) → (∀ u ∈ us, u < 2 ^ d) → (∀ x, x ∈ L ↔ chi d k S x) → ∀ x, x ∈ puns d L us ↔ chi d k (fun m => m ∈ us ∨ S m) x
  | [], L, S, h, hS, hu, hL, x => by
    show x ∈ L ↔ _
    rw [hL]; simp
  | u :: us, L, S, h, hS, hu, hL, x => by
    have hu0 := hu u (by simp)
    have := puns_chi h6 us (S := fun m => m = u ∨ S m) (pun_pv h6 h hu0) (fun m hm => hm.elim (fun e => e ▸ hu0) (hS m)) (fun x hx => hu x (by simp [hx])) (chi_step h6 h hS hL hu0) x
    show x ∈ puns d (punL L (2 ^ d + u)) us ↔ _
    rw [this]
    have e : (fun m => m ∈ us ∨ m = u ∨ S m) = fun m => m ∈ u :: us ∨ S m := by
      funext m; rw [List.mem_cons, eq_iff_iff]; constructor
      · rintro (a | a | a) <;> simp [a]
      · rintro ((a | a) | a) <;> simp [a]
    rw [e]
theorem puns_same (h6 : d ≤ 6) (k : W2) {us vs : List Nat} (hu : ∀ u ∈ us, u < 2 ^ d) (hv : ∀ u ∈ vs, u < 2 ^ d) (h : ∀ m, m ∈ us ↔ m ∈ vs) : puns d [(1, k)] us = puns d [(1, k)] vs := by
  have h0 : ∀ x, x ∈ [(1, k)] ↔ chi d k (fun _ => False) x := fun x => by
    rw [List.mem_singleton]
    constructor
    · rintro rfl
      exact ⟨Nat.le_refl _, Nat.one_lt_two_pow (by omega), (keyTo_self k 1).symm, fun _ hf => hf.elim, .inl rfl⟩
    · rintro ⟨c1, c2, c3, c4, c5 | ⟨_, hf, _⟩⟩
      · refine Prod.ext c5 ?_
        rw [c3, c5, keyTo_self]
      · exact hf.elim
  refine srtd_eq (pv_srtd (puns_pv h6 us (full_pv d k) hu)) (pv_srtd (puns_pv h6 vs (full_pv d k) hv)) fun x => ?_
  rw [puns_chi h6 us (full_pv d k) (fun _ hf => hf.elim) hu h0, puns_chi h6 vs (full_pv d k) (fun _ hf => hf.elim) hv h0]
  have e : (fun m => m ∈ us ∨ False) = fun m => m ∈ vs ∨ False := by funext m; rw [h m]
  rw [e]
end
end Go.Sx.Po

end
section
/- alive (layer 4): the chapter's examples hold. -/
set_option linter.unusedVariables false
set_option linter.unusedSimpArgs false
set_option maxRecDepth 100000
namespace Go.Sx
open Go

/-- law04_alive_J1 with what follows it left open -/
def aliveJ (f : Bool → Option Bool) (x1 : TScheme) (a4 : Bool) : Option (Bool) := (bif a4 then (some false) else Option.bind (poly_Seal (72057594037927936#64, 0#64) x1 [1] (144115188075855872#64, 0#64) 5#64) fun x5 => (Option.bind (poly_Secret (72057594037927936#64, 0#64) x1 0) fun x6 => (Option.bind (poly_Secret (72057594037927936#64, 0#64) x1 1) fun x7 => (Option.bind (poly_Open x1 x6.1 x5.1) fun x8 => (Option.bind (poly_Open x1 x7.1 x5.1) fun x9 => (Option.bind (law04_points x5.1 x5.2 [2#64, 5#64]) fun x18 => ((bif (!x18) then (f true) else (if x6.2 ≠ 0 then (f true) else (if x6.1.Share.X ≠ 1#64 then (f true) else (if x7.2 ≠ 0 then (f true) else (if x8.2 ≠ 0 then (f true) else (if x8.1 ≠ (144115188075855872#64, 0#64) then (f true) else (f (decide (x9.2 ≠ 6))))))))))))))))
def aliveA (f : Bool → Option Bool) : Option Bool := Option.bind (law04_small) fun x1 => (Option.bind (poly_Value x1 [3#64, 0#64, 2#64] 4#64) fun x2 => (Option.bind (poly_Interpolate x1 [(TPoint.mk 1#64 5#64), (TPoint.mk 4#64 2#64), (TPoint.mk 0#64 3#64)]) fun x3 => (Option.bind (poly_Check x1) fun x19 => ((if x19 ≠ 0 then (aliveJ f x1 true) else (if x2.2 ≠ 0 then (aliveJ f x1 true) else (if x2.1 ≠ 2#64 then (aliveJ f x1 true) else Option.bind (law04_words x3.1 x3.2 [3#64, 0#64, 2#64]) fun x20 => ((aliveJ f x1 (!x20))))))))))
theorem alive_of : law04_alive = aliveA law04_alive_J2 := by
  unfold law04_alive aliveA law04_alive_J1 aliveJ; rfl
theorem alive_go (f : Bool → Option Bool) : aliveA f = f false := by kernel_rfl
def aliveK : W2 := (72057594037927936#64, 0#64)
def aliveP : List TLabel := [⟨3, 0, drv aliveK (un8 32#8) 0#64⟩, ⟨4, 0, drv (drv aliveK (un8 31#8) 0#64) (un8 31#8) 0#64⟩]
theorem alive_full : poly_Full aliveK 2 = some (⟨2, [⟨1, 0, aliveK⟩]⟩, 0) := by kernel_rfl
theorem alive_sort : aliveP.mergeSort (fun a b => decide (a.Node ≤ b.Node)) = aliveP := List.mergeSort_of_pairwise (by decide +kernel)
theorem alive_pun : poly_Puncture ⟨2, [⟨1, 0, aliveK⟩]⟩ 1 = some (⟨2, aliveP⟩, 0) := by
  have : poly_Puncture ⟨2, [⟨1, 0, aliveK⟩]⟩ 1 = some (⟨2, aliveP.mergeSort (fun a b => decide (a.Node ≤ b.Node))⟩, 0) := by kernel_rfl
  rw [this, alive_sort]
def aliveB (f : TPunctured × Int) (q : TPunctured × Int) : Option Bool := Option.bind (poly_Evaluate q.1 1) fun x13 => (Option.bind (poly_Evaluate q.1 0) fun x14 => (Option.bind (poly_Evaluate f.1 0) fun x15 => (Option.bind (law04_nodes f.1 f.2 [1]) fun x16 => ((bif x16 then Option.bind (law04_nodes q.1 q.2 [3, 4]) fun x17 => ((bif x17 then (if x13.2 = 6 then (if x14.2 = 0 then (if x15.2 = 0 then (some (decide (x14.1 = x15.1))) else (some false)) else (some false)) else (some false)) else (some false))) else (some false))))))
theorem alive_B : aliveB (⟨2, [⟨1, 0, aliveK⟩]⟩, 0) (⟨2, aliveP⟩, 0) = some true := by decide +kernel
theorem alive4_eq : law04_alive = some true := by
  rw [alive_of, alive_go]
  unfold law04_alive_J2
  rw [cond_false, show ((72057594037927936#64, 0#64) : W2) = aliveK from rfl, alive_full, bind_some, alive_pun, bind_some]
  exact alive_B
end Go.Sx

end
section
/- PolyAnyOrder on the mirrors: the order of punctures does not matter. -/
set_option linter.unusedVariables false
set_option linter.unusedSimpArgs false
set_option maxRecDepth 100000
namespace Go.Sx
open Go Po

theorem law04_PolyAnyOrder_ok (p0 : W2) (p1 : Int) (p2 : List (BitVec 8)) (p3 p4 : BitVec 8) (i1 : I64 p1) (i2 : p2.length * 1 ≤ 140737488351232) : law04_PolyAnyOrder p0 p1 p2 p3 p4 = some true := by
  unfold law04_PolyAnyOrder law04_PolyAnyOrder_J1
  rw [alive4_eq, bind_some]
  by_cases a1 : p1 < 0
  · rw [if_pos a1]; rfl
  rw [if_neg a1]
  by_cases a2 : 6 < p1
  · rw [if_pos a2]; rfl
  rw [if_neg a2]
  by_cases a4 : (p2.length : Int) = 0
  · rw [if_pos a4]; rfl
  rw [if_neg a4]
  by_cases a3 : (300 : Int) < (p2.length : Int)
  · rw [decide_eq_true a3]; rfl
  rw [decide_eq_false a3, cond_false, appG_some (by simp; omega), bind_some, List.nil_append]
  obtain ⟨d, rfl⟩ : ∃ d : Nat, p1 = (d : Int) := ⟨p1.toNat, by omega⟩
  have h6 : d ≤ 6 := by omega
  have hn : 0 < p2.length := by omega
  have r1 : remI (un8 p3) (p2.length : Int) = some ((p3.toNat % p2.length : Nat) : Int) := rem_nat _ _ hn
  have r2 : remI (un8 p4) (p2.length : Int) = some ((p4.toNat % p2.length : Nat) : Int) := rem_nat _ _ hn
  have ha := Nat.mod_lt p3.toNat hn
  have hb := Nat.mod_lt p4.toNat hn
  rw [r1, bind_some, r2, bind_some]
  generalize p3.toNat % p2.length = a at *
  generalize p4.toNat % p2.length = b at *
  rw [getI_some hb, bind_some, getI_some ha, bind_some, bind_some, getI_some (by rw [List.length_set]; exact hb), bind_some, bind_some, Int.toNat_natCast, Int.toNat_natCast, appG_some (by simp; omega), bind_some, punctured_eq h6 _ _ (by omega), bind_some, punctured_eq h6 _ _ (by simp; omega), bind_some, cond_true, cond_true, cond_true]
  have hmem : ∀ x, x ∈ p2 ↔ x ∈ (p2.set a p2[b]).set b p2[a] ++ [p2[b]] := fun x => by
    rw [List.mem_append, List.mem_singleton]
    constructor
    · intro hx
      obtain ⟨i, hi, rfl⟩ := List.mem_iff_getElem.1 hx
      by_cases e1 : i = b
      · subst e1; exact .inr rfl
      · by_cases e2 : i = a
        · subst e2
          exact .inl (List.mem_iff_getElem.2 ⟨b, by simpa using hb, by simp⟩)
        · exact .inl (List.mem_iff_getElem.2 ⟨i, by simpa using hi, by rw [List.getElem_set_ne (Ne.symm e1), List.getElem_set_ne (Ne.symm e2)]⟩)
    · rintro (hx | rfl)
      · rcases List.mem_or_eq_of_mem_set hx with hx | rfl
        · rcases List.mem_or_eq_of_mem_set hx with hx | rfl
          · exact hx
          · exact List.getElem_mem hb
        · exact List.getElem_mem ha
      · exact List.getElem_mem hb
  have hsame := puns_same h6 p0 (us := nums d p2) (vs := nums d ((p2.set a p2[b]).set b p2[a] ++ [p2[b]])) nums_lt nums_lt fun m => by
    unfold nums
    rw [List.mem_map, List.mem_map]
    constructor
    · rintro ⟨x, hx, e⟩; exact ⟨x, (hmem x).1 hx, e⟩
    · rintro ⟨x, hx, e⟩; exact ⟨x, (hmem x).2 hx, e⟩
  have hpv := puns_pv h6 (nums d p2) (full_pv d p0) nums_lt
  rw [← hsame, sameP_self' _ (by simp only [List.length_map]; have := pv_len h6 hpv; omega), bind_some]
end Go.Sx

end
