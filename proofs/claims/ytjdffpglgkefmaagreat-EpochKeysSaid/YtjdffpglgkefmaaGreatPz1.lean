/- merged by mg.py: Fx Fy Tr Ts Tk Mb Lb SecN Nm Vb Vp Kya LawKy -/
import Derived.Test.YtjdffpglgkefmaaGreatPl
import Derived.Test.YtjdffpglgkefmaaGreatClM
import Derived.Test.YtjdffpglgkefmaaGreatPaM
import Derived.Test.YtjdffpglgkefmaaGreatEkM
import Derived.Test.YtjdffpglgkefmaaGreatKyM
import Derived.Test.YtjdffpglgkefmaaGreatOpnKy
section
/- Loops over lists, plainly: from fixN to itL, and what itL comes to. -/
set_option linter.unusedVariables false
set_option linter.unusedSimpArgs false
namespace Go.Sx
open Go

theorem fix_from {α σ τ R : Type} (l : List α) (F : (τ → Option R) → τ → Option R) (pk : Nat → σ → τ) (B : α → (σ → Option R) → σ → Option R) (D : σ → Option R)
    (h1 : ∀ rec (j : Nat) (hj : j < l.length) s, F rec (pk j s) = B l[j] (fun s' => rec (pk (j + 1) s')) s) (h2 : ∀ rec s, F rec (pk l.length s) = D s) :
    ∀ (m j f : Nat) (s : σ), j + m = l.length → m < f → fixN F f (pk j s) = itL B D (l.drop j) s
  | m, j, 0, s, _, h => by omega
  | 0, j, f + 1, s, hj, _ => by
    have : j = l.length := by omega
    subst this
    rw [fix_step, h2, List.drop_length]; rfl
  | m + 1, j, f + 1, s, hj, hf => by
    have hjl : j < l.length := by omega
    rw [fix_step, h1 _ j hjl, List.drop_eq_getElem_cons hjl, itL_cons]
    have : (fun s' => fixN F f (pk (j + 1) s')) = itL B D (l.drop (j + 1)) := funext fun s' => fix_from l F pk B D h1 h2 m (j + 1) f s' (by omega) (by omega)
    rw [this]
/-- a loop over the indexes of a list -/
theorem fix_itL {α σ τ R : Type} (l : List α) (F : (τ → Option R) → τ → Option R) (pk : Nat → σ → τ) (B : α → (σ → Option R) → σ → Option R) (D : σ → Option R)
    (h1 : ∀ rec (j : Nat) (hj : j < l.length) s, F rec (pk j s) = B l[j] (fun s' => rec (pk (j + 1) s')) s) (h2 : ∀ rec s, F rec (pk l.length s) = D s) {f : Nat} (hf : l.length < f) (s : σ) : fixN F f (pk 0 s) = itL B D l s := by
  have := fix_from l F pk B D h1 h2 l.length 0 f s (by omega) hf
  rwa [List.drop_zero] at this
/-- a loop over numbers below n -/
theorem fix_range {σ τ R : Type} (n : Nat) (F : (τ → Option R) → τ → Option R) (pk : Nat → σ → τ) (B : Nat → (σ → Option R) → σ → Option R) (D : σ → Option R)
    (h1 : ∀ rec (j : Nat) (hj : j < n) s, F rec (pk j s) = B j (fun s' => rec (pk (j + 1) s')) s) (h2 : ∀ rec s, F rec (pk n s) = D s) {f : Nat} (hf : n < f) (s : σ) : fixN F f (pk 0 s) = itL B D (List.range n) s :=
  fix_itL (List.range n) F pk B D (fun rec j hj s => by rw [List.length_range] at hj; rw [h1 rec j hj, List.getElem_range]) (fun rec s => by rw [List.length_range]; exact h2 rec s) (by rw [List.length_range]; exact hf) s
theorem itL_congr {α σ R : Type} {F G : α → (σ → Option R) → σ → Option R} {d e : σ → Option R} : ∀ {l : List α}, (∀ a ∈ l, ∀ nx s, F a nx s = G a nx s) → (∀ s, d s = e s) → ∀ s, itL F d l s = itL G e l s
  | [], _, hd, s => hd s
  | a :: l, h, hd, s => by
    rw [itL_cons, itL_cons, h a (by simp)]
    have : itL F d l = itL G e l := funext fun s => itL_congr (fun b hb => h b (by simp [hb])) hd s
    rw [this]
theorem itL_append {α σ R : Type} (F : α → (σ → Option R) → σ → Option R) (d : σ → Option R) (l m : List α) : itL F d (l ++ m) = itL F (itL F d m) l := by unfold itL; rw [List.foldr_append]
theorem itL_map {α β σ R : Type} (F : β → (σ → Option R) → σ → Option R) (d : σ → Option R) (g : α → β) (l : List α) : itL F d (l.map g) = itL (fun a => F (g a)) d l := by unfold itL; rw [List.foldr_map]
/-- a state that turns, with no way out -/
theorem itL_fold {α σ R : Type} (g : σ → α → σ) (F : α → (σ → Option R) → σ → Option R) (d : σ → Option R) (I : Nat → σ → Prop) : ∀ (l : List α) (k : Nat) (s : σ), (∀ j (a : α) s nx, a ∈ l → I j s → F a nx s = nx (g s a)) → (∀ j (a : α) s, a ∈ l → I j s → I (j + 1) (g s a)) → I k s → itL F d l s = d (l.foldl g s)
  | [], k, s, _, _, _ => rfl
  | a :: l, k, s, h, hi, hs => by
    rw [itL_cons, h k a s _ (by simp) hs, List.foldl_cons]
    exact itL_fold g F d I l (k + 1) (g s a) (fun j b s nx hb => h j b s nx (by simp [hb])) (fun j b s hb => hi j b s (by simp [hb])) (hi k a s (by simp) hs)
/-- elements put behind one another, where a condition holds -/
theorem itL_app {α β R : Type} (b n : Nat) (p : α → Bool) (f : α → β) (F : α → (List β → Option R) → List β → Option R) (d : List β → Option R) : ∀ (l : List α) (s : List β), (∀ a ∈ l, ∀ nx s, F a nx s = bif p a then Option.bind (appG b s [f a]) nx else nx s) → (s.length + l.length) * b ≤ 140737488355328 → itL F d l s = d (s ++ (l.filter p).map f)
  | [], s, _, _ => by simp [itL_nil]
  | a :: l, s, h, hb => by
    have hlen : (s.length + (a :: l).length) * b = (s.length + 1 + l.length) * b := by congr 1; simp; omega
    rw [itL_cons, h a (by simp), List.filter_cons]
    cases hp : p a with
    | true =>
      have h2 : (s.length + 1) * b ≤ (s.length + 1 + l.length) * b := Nat.mul_le_mul_right _ (by omega)
      rw [cond_true, appG_some (by simp; omega), bind_some, itL_app b n p f F d l (s ++ [f a]) (fun x hx => h x (by simp [hx])) (by simp; omega)]
      simp
    | false =>
      have h2 : (s.length + l.length) * b ≤ (s.length + 1 + l.length) * b := Nat.mul_le_mul_right _ (by omega)
      rw [cond_false, itL_app b n p f F d l s (fun x hx => h x (by simp [hx])) (by omega)]
      simp
/-- the first element with a property -/
theorem itL_find {α σ R : Type} (p : α → Bool) (X : α → σ → Option R) (F : α → (σ → Option R) → σ → Option R) (d : σ → Option R) : ∀ (l : List α) (s : σ), (∀ a ∈ l, ∀ nx s, F a nx s = bif p a then X a s else nx s) → itL F d l s = match l.find? p with | some a => X a s | none => d s
  | [], s, _ => rfl
  | a :: l, s, h => by
    rw [itL_cons, h a (by simp), List.find?_cons]
    cases hp : p a with
    | true => rfl
    | false => rw [cond_false]; exact itL_find p X F d l s (fun x hx => h x (by simp [hx]))
theorem yl_some' {α : Type} (x : α) (l : List α) : yl x (some l) = some (x :: l) := rfl
theorem w64_nat {n : Nat} (h : n < 9223372036854775807) : w64 ((n : Int) + 1) = ((n + 1 : Nat) : Int) := by rw [w64_id (by omega) (by omega)]; omega
end Go.Sx

end
section
/- Loops, more. -/
set_option linter.unusedVariables false
set_option linter.unusedSimpArgs false
namespace Go.Sx
open Go
theorem filter_tt {α : Type} (l : List α) : (l.filter fun _ => true) = l := List.filter_eq_self.2 (by simp)
/-- n rounds, and then the result -/
theorem fix_run {τ R : Type} (F : (τ → Option R) → τ → Option R) (I : Nat → τ → Prop) (n : Nat) (r : Option R) (hs : ∀ j s, j < n → I j s → ∃ s', I (j + 1) s' ∧ ∀ rec, F rec s = rec s') (he : ∀ s, I n s → ∀ rec, F rec s = r) :
    ∀ (m j f : Nat) (s : τ), j + m = n → m < f → I j s → fixN F f s = r
  | m, j, 0, s, _, h, _ => by omega
  | 0, j, f + 1, s, hj, _, hi => by
    have : j = n := by omega
    subst this
    rw [fix_step, he s hi]
  | m + 1, j, f + 1, s, hj, hf, hi => by
    obtain ⟨s', h1, h2⟩ := hs j s (by omega) hi
    rw [fix_step, h2]
    exact fix_run F I n r hs he m (j + 1) f s' (by omega) (by omega) h1
end Go.Sx

end
section
/- Trees of receivers, plainly: levels, below, paths; the mirrors of both sides come to the same. -/
set_option linter.unusedVariables false
set_option linter.unusedSimpArgs false
namespace Go.Sx
open Go

theorem log2_div (n k : Nat) (h : 2 ^ k ≤ n) : Nat.log2 n = Nat.log2 (n / 2 ^ k) + k := by
  induction k generalizing n with
  | zero => simp
  | succ k ih =>
    have h2 : 2 ^ k ≤ n / 2 := by rw [Nat.le_div_iff_mul_le (by omega)]; rw [Nat.pow_succ] at h; omega
    have h1 : 2 ≤ n := by have : 0 < 2 ^ k := Nat.two_pow_pos k; rw [Nat.pow_succ] at h; omega
    rw [Nat.log2_def, if_pos h1, ih (n / 2) h2, Nat.div_div_eq_div_mul, Nat.pow_succ, Nat.mul_comm 2]; omega
theorem log2_half {n : Nat} (h : 2 ≤ n) : Nat.log2 n = Nat.log2 (n / 2) + 1 := by rw [Nat.log2_def, if_pos h]
theorem log2_mono {m n : Nat} (h : m ≤ n) : Nat.log2 m ≤ Nat.log2 n := by
  rcases Nat.eq_zero_or_pos m with h0 | h0
  · subst h0; rw [Nat.log2_zero]; omega
  · exact (Nat.le_log2 (by omega)).2 (Nat.le_trans (Nat.log2_self_le (by omega)) h)
theorem log2_le62 {n : Nat} (h : n < 9223372036854775808) : Nat.log2 n ≤ 62 := by
  rcases Nat.eq_zero_or_pos n with h0 | h0
  · subst h0; rw [Nat.log2_zero]; omega
  · have : Nat.log2 n < 63 := (Nat.log2_lt (by omega)).2 (by omega)
    omega
theorem un_wdn {n : Nat} (h : n < 9223372036854775808) : un (wd (n : Int)) = (n : Int) := un_wd _ (by omega) (by omega)
theorem lg_nat {n : Nat} (h : 1 ≤ n) : lg (n : Int) = (Nat.log2 n : Int) + 1 := by unfold lg; rw [Int.toNat_natCast, if_neg (by omega)]
theorem level_eq {n : Nat} (h1 : 1 ≤ n) (h : n < 9223372036854775808) : cover_node_level (n : Int) = some (Nat.log2 n : Int) := by
  have := log2_le62 h
  unfold cover_node_level
  rw [un_wdn h, lg_nat h1, w64_id (by omega) (by omega), Int.add_sub_cancel]
theorem quo2 (n : Nat) (h : n < 9223372036854775808) : quoI (n : Int) 2 = some ((n / 2 : Nat) : Int) := by
  unfold quoI
  rw [if_neg (by decide), show (n : Int).tdiv 2 = ((n / 2 : Nat) : Int) from by rw [Int.tdiv_eq_ediv_of_nonneg (by omega)]; omega, w64_id (by omega) (by omega)]
theorem rlevel_loop : ∀ (f n k : Nat), n < 9223372036854775808 → Nat.log2 n < f → k + Nat.log2 n ≤ 1000 → fixN ref03_Level_L1 f ((n : Int), (k : Int)) = some ((k + Nat.log2 n : Nat) : Int)
  | 0, n, k, _, h, _ => by omega
  | f + 1, n, k, h, hf, hk => by
    rw [fix_step]; simp only [ref03_Level_L1]
    by_cases h2 : 2 ≤ n
    · have hh := log2_half h2
      rw [if_pos (by omega), quo2 n h, bind_some, w64_id (by omega) (by omega)]
      have := rlevel_loop f (n / 2) (k + 1) (by omega) (by omega) (by omega)
      rw [show (k : Int) + 1 = ((k + 1 : Nat) : Int) from by omega, this, hh]; congr 2; omega
    · rw [if_neg (by omega)]
      have : Nat.log2 n = 0 := by rw [Nat.log2_def, if_neg (by omega)]
      rw [this, Nat.add_zero]
theorem rlevel_eq {n : Nat} (h : n < 9223372036854775808) : ref03_Level (n : Int) = some (Nat.log2 n : Int) := by
  have := log2_le62 h
  have := rlevel_loop FUEL n 0 h (fuel_lt (by omega)) (by omega)
  unfold ref03_Level
  rw [show (0 : Int) = ((0 : Nat) : Int) from rfl, this, Nat.zero_add]
/-- whether a node is below another one -/
def belowB (w v : Nat) : Bool := decide (Nat.log2 v ≤ Nat.log2 w ∧ w / 2 ^ (Nat.log2 w - Nat.log2 v) = v)
theorem belowB_step {w v : Nat} (hv : 1 ≤ v) (h : v < w) : belowB w v = belowB (w / 2) v := by
  have hh := log2_half (n := w) (by omega)
  have hm := log2_mono (Nat.le_of_lt h)
  unfold belowB
  by_cases hl : Nat.log2 v ≤ Nat.log2 (w / 2)
  · have e : Nat.log2 w - Nat.log2 v = (Nat.log2 (w / 2) - Nat.log2 v) + 1 := by omega
    have e2 : w / 2 ^ (Nat.log2 w - Nat.log2 v) = w / 2 / 2 ^ (Nat.log2 (w / 2) - Nat.log2 v) := by rw [e, Nat.div_div_eq_div_mul, Nat.pow_succ, Nat.mul_comm 2]
    rw [e2]
    apply decide_eq_decide.2
    constructor
    · rintro ⟨_, h2⟩; exact ⟨hl, h2⟩
    · rintro ⟨_, h2⟩; exact ⟨hm, h2⟩
  · rw [decide_eq_false (p := _ ∧ w / 2 / 2 ^ _ = v) (fun hc => hl hc.1)]
    apply decide_eq_false
    rintro ⟨_, h2⟩
    rw [show Nat.log2 w - Nat.log2 v = 0 from by omega, Nat.pow_zero, Nat.div_one] at h2
    omega
theorem belowB_le {w v : Nat} (hw : 1 ≤ w) (h : w ≤ v) : belowB w v = decide (w = v) := by
  unfold belowB
  by_cases e : w = v
  · subst e; simp
  · rw [decide_eq_false e]
    apply decide_eq_false
    rintro ⟨h1, h2⟩
    have := log2_mono h
    rw [show Nat.log2 w - Nat.log2 v = 0 from by omega, Nat.pow_zero, Nat.div_one] at h2
    exact e h2
theorem shr_nat (n k : Nat) (hk : k ≤ 64) : shrI (n : Int) k = ((n / 2 ^ k : Nat) : Int) := by
  unfold shrI
  rw [Nat.min_eq_left hk, Int.natCast_ediv, Int.natCast_pow]; rfl
theorem below_eq {w v : Nat} (hw : 1 ≤ w) (hv : 1 ≤ v) (hw2 : w < 9223372036854775808) (hv2 : v < 9223372036854775808) : cover_node_below (w : Int) (v : Int) = some (belowB w v) := by
  have l1 := log2_le62 hw2
  have l2 := log2_le62 hv2
  unfold cover_node_below cover_node_below_J1
  rw [if_neg (by omega), if_neg (by omega), level_eq hw hw2, bind_some, level_eq hv hv2, bind_some]
  by_cases h : Nat.log2 w < Nat.log2 v
  · rw [decide_eq_true (by omega)]
    unfold belowB
    rw [decide_eq_false (by omega)]; rfl
  · rw [decide_eq_false (by omega)]
    simp only [cond_false]
    rw [bind_some, bind_some, w64_id (by omega) (by omega)]
    have : shG ((Nat.log2 w : Int) - (Nat.log2 v : Int)) = some (Nat.log2 w - Nat.log2 v) := by unfold shG; rw [if_pos (by omega)]; congr 1; omega
    rw [this, bind_some, shr_nat _ _ (by omega)]
    unfold belowB
    congr 1
    apply decide_eq_decide.2
    constructor
    · intro h3; exact ⟨by omega, by omega⟩
    · intro h3; omega
theorem rbelow_loop {v : Nat} (hv : 1 ≤ v) : ∀ (f w : Nat), 1 ≤ w → w < 9223372036854775808 → Nat.log2 w < f → fixN (ref03_Below_L1 (v : Int)) f (w : Int) = some (belowB w v)
  | 0, w, _, _, h => by omega
  | f + 1, w, hw, hw2, hf => by
    rw [fix_step]; simp only [ref03_Below_L1]
    by_cases h : v < w
    · have hh := log2_half (n := w) (by omega)
      rw [if_pos (by omega), quo2 w hw2, bind_some, rbelow_loop hv f (w / 2) (by omega) (by omega) (by omega), belowB_step hv h]
    · rw [if_neg (by omega), belowB_le hw (by omega)]
      congr 1
      apply decide_eq_decide.2; omega
theorem rbelow_eq {w v : Nat} (hw : 1 ≤ w) (hv : 1 ≤ v) (hw2 : w < 9223372036854775808) : ref03_Below (w : Int) (v : Int) = some (belowB w v) := by
  have := log2_le62 hw2
  exact rbelow_loop hv FUEL w hw hw2 (fuel_lt (by omega))
/-! sizes -/
def strd (d : Nat) : Nat := if d ≤ 1 then 1 else if d ≤ 4 then 2 else 3
theorem strd_pos (d : Nat) : 1 ≤ strd d := by unfold strd; split; omega; split <;> omega
theorem recv_fin : ∀ d : Fin 7, ref03_Receivers (d.1 : Int) = some ((2 ^ d.1 : Nat) : Int) := by decide +kernel
theorem recv_eq {d : Nat} (h : d ≤ 6) : ref03_Receivers (d : Int) = some ((2 ^ d : Nat) : Int) := recv_fin ⟨d, by omega⟩
theorem stride_fin : ∀ d : Fin 7, ref03_Stride (d.1 : Int) = some ((strd d.1 : Nat) : Int) := by decide +kernel
theorem rstride_eq {d : Nat} (h : d ≤ 6) : ref03_Stride (d : Int) = some ((strd d : Nat) : Int) := stride_fin ⟨d, by omega⟩
theorem pow_le64 {d : Nat} (h : d ≤ 6) : 2 ^ d ≤ 64 := Nat.le_trans (Nat.pow_le_pow_right (by omega) h) (by decide)
theorem shl1 {d : Nat} (h : d ≤ 6) : shlI 1 d = ((2 ^ d : Nat) : Int) := by
  have := pow_le64 h
  unfold shlI
  rw [Nat.min_eq_left (by omega), Int.one_mul, show (2 : Int) ^ d = ((2 ^ d : Nat) : Int) from by rw [Int.natCast_pow]; rfl]
  generalize 2 ^ d = m at *
  exact w64_id (by omega) (by omega)
theorem shG_nat (n : Nat) : shG (n : Int) = some n := by unfold shG; rw [if_pos (by omega)]; rfl
theorem size_eq {k : BitVec 8} {d : Nat} {st : Int} (h : d ≤ 6) : cover_tree_size ⟨k, (d : Int), st⟩ = some ((2 ^ d : Nat) : Int) := by
  unfold cover_tree_size
  rw [shG_nat, bind_some, shl1 h]
def hasN (d : Nat) (v : Int) : Bool := decide (1 ≤ v ∧ v < 2 * (2 ^ d : Nat))
theorem has_eq {k : BitVec 8} {d : Nat} {st v : Int} (h : d ≤ 6) : cover_tree_has ⟨k, (d : Int), st⟩ v = some (hasN d v) := by
  have := pow_le64 h
  unfold cover_tree_has hasN
  by_cases h1 : 1 ≤ v
  · rw [if_pos h1, size_eq h, bind_some]
    generalize 2 ^ d = m at *
    rw [w64_id (by omega) (by omega)]
    congr 1; apply decide_eq_decide.2; omega
  · rw [if_neg h1]; congr 1; symm; apply decide_eq_false; omega
theorem node_eq {d : Nat} {v : Int} (h : d ≤ 6) : ref03_Node (d : Int) v = some (hasN d v) := by
  have := pow_le64 h
  unfold ref03_Node hasN
  by_cases h1 : 1 ≤ v
  · rw [if_pos h1, recv_eq h, bind_some]
    generalize 2 ^ d = m at *
    rw [w64_id (by omega) (by omega)]
    congr 1; apply decide_eq_decide.2; omega
  · rw [if_neg h1]; congr 1; symm; apply decide_eq_false; omega
theorem hasN_nat {d : Nat} {v : Int} (hd : d ≤ 6) (h : hasN d v = true) : ∃ n : Nat, v = (n : Int) ∧ 1 ≤ n ∧ n < 128 := by
  have := pow_le64 hd
  unfold hasN at h
  generalize 2 ^ d = m at *
  have := of_decide_eq_true h
  exact ⟨v.toNat, by omega, by omega, by omega⟩
/-! special nodes -/
def spcl (d v : Nat) : Bool := decide (Nat.log2 v % strd d = 0)
theorem rem_nat (a b : Nat) (hb : 1 ≤ b) : remI (a : Int) (b : Int) = some ((a % b : Nat) : Int) := by
  unfold remI
  rw [if_neg (by omega), Int.tmod_eq_emod_of_nonneg (by omega), Int.natCast_emod]
theorem special_eq {k : BitVec 8} {d v : Nat} (hv : 1 ≤ v) (hv2 : v < 9223372036854775808) : cover_tree_special ⟨k, (d : Int), (strd d : Int)⟩ (v : Int) = some (spcl d v) := by
  unfold cover_tree_special spcl
  rw [level_eq hv hv2, bind_some, rem_nat _ _ (strd_pos d), bind_some]
  congr 1; apply decide_eq_decide.2; omega
theorem rspecial_eq {d v : Nat} (hd : d ≤ 6) (hv2 : v < 9223372036854775808) : ref03_Special (d : Int) (v : Int) = some (spcl d v) := by
  unfold ref03_Special spcl
  rw [rlevel_eq hv2, bind_some, rstride_eq hd, bind_some, rem_nat _ _ (strd_pos d), bind_some]
  congr 1; apply decide_eq_decide.2; omega
/-! paths -/
/-- the k nodes down to w -/
def pathN (w : Nat) : Nat → List Nat
  | 0 => []
  | k + 1 => w / 2 ^ k :: pathN w k
theorem pathN_snoc (w k : Nat) : pathN w (k + 1) = pathN (w / 2) k ++ [w] := by
  induction k with
  | zero => simp [pathN]
  | succ k ih => rw [pathN, ih, pathN, List.cons_append, Nat.div_div_eq_div_mul, Nat.pow_succ, Nat.mul_comm 2]
theorem pathN_len (w k : Nat) : (pathN w k).length = k := by
  induction k with
  | zero => rfl
  | succ k ih => simp [pathN, ih]
theorem pathN_bd {w k n : Nat} (hk : 2 ^ k ≤ w) (h : n ∈ pathN w k) : 1 ≤ n ∧ n ≤ w := by
  induction k with
  | zero => cases h
  | succ k ih =>
    have hk' : 2 ^ k ≤ w := by rw [Nat.pow_succ] at hk; omega
    rcases List.mem_cons.1 h with rfl | h
    · exact ⟨(Nat.le_div_iff_mul_le (Nat.two_pow_pos k)).2 (by omega), Nat.div_le_self _ _⟩
    · exact ih hk' h
theorem log2_divk {w k : Nat} (hk : 2 ^ k ≤ w) : Nat.log2 (w / 2 ^ k) = Nat.log2 w - k := by have := log2_div w k hk; omega
theorem div_pos' {w k : Nat} (hk : 2 ^ k ≤ w) : 1 ≤ w / 2 ^ k := (Nat.le_div_iff_mul_le (Nat.two_pow_pos k)).2 (by omega)
theorem toward_eq {w k : Nat} (hk : 2 ^ (k + 1) ≤ w) (hw : w < 9223372036854775808) : cover_node_toward ((w / 2 ^ (k + 1) : Nat) : Int) (w : Int) = some ((w / 2 ^ k : Nat) : Int) := by
  have hp := Nat.two_pow_pos (k + 1)
  have l1 := log2_le62 hw
  have hl := log2_div w (k + 1) hk
  unfold cover_node_toward
  rw [level_eq (by omega) hw, bind_some, level_eq (div_pos' hk) (Nat.lt_of_le_of_lt (Nat.div_le_self _ _) hw), bind_some, w64_id (n := (Nat.log2 w : Int) - (Nat.log2 (w / 2 ^ (k + 1)) : Int)) (by omega) (by omega), w64_id (by omega) (by omega)]
  rw [show (Nat.log2 w : Int) - (Nat.log2 (w / 2 ^ (k + 1)) : Int) - 1 = ((k : Nat) : Int) from by omega, shG_nat, bind_some, shr_nat _ _ (by omega)]
theorem path_loop {w : Nat} (hw : w < 9223372036854775808) : ∀ (k f : Nat), k < f → 2 ^ k ≤ w → fixN (cover_path_1_L1 (w : Int)) f ((w / 2 ^ k : Nat) : Int) = some ((pathN w k).map Int.ofNat)
  | k, 0, h, _ => by omega
  | 0, f + 1, _, _ => by
    rw [fix_step]; simp only [cover_path_1_L1]
    rw [if_neg (by simp)]; rfl
  | k + 1, f + 1, h, hk => by
    rw [fix_step]; simp only [cover_path_1_L1]
    have h1 : w / 2 ^ (k + 1) < w := Nat.div_lt_self (by have := Nat.two_pow_pos (k + 1); omega) (Nat.one_lt_two_pow (by omega))
    rw [if_pos (by omega), toward_eq hk hw, bind_some, path_loop hw k f (by omega) (by rw [Nat.pow_succ] at hk; omega)]
    rfl
theorem path_eq {w k : Nat} (hw : w < 9223372036854775808) (hk : 2 ^ k ≤ w) (hk2 : k ≤ 64) : cover_path_1 ((w / 2 ^ k : Nat) : Int) (w : Int) = some ((pathN w k).map Int.ofNat) := path_loop hw k FUEL (fuel_lt (by omega)) hk
theorem divk_ne {w j k : Nat} (hk : 2 ^ k ≤ w) (hj : j < k) : w / 2 ^ j ≠ w / 2 ^ k := fun e => by
  have h1 := log2_divk hk
  have h2 := log2_divk (w := w) (k := j) (Nat.le_trans (Nat.pow_le_pow_right (by omega) (by omega)) hk)
  have h3 := log2_div w k hk
  rw [e] at h2; omega
theorem rpath_loop {w k : Nat} (hw : w < 9223372036854775808) (hk : 2 ^ k ≤ w) (hk2 : k ≤ 64) : ∀ (m j f : Nat), j + m = k → m < f → fixN (ref03_Path_L1 ((w / 2 ^ k : Nat) : Int)) f (((w / 2 ^ j : Nat) : Int), (pathN w j).map Int.ofNat) = some (((w / 2 ^ k : Nat) : Int) :: (pathN w k).map Int.ofNat)
  | m, j, 0, _, h => by omega
  | 0, j, f + 1, hj, _ => by
    obtain rfl : j = k := by omega
    rw [fix_step]; simp only [ref03_Path_L1]
    rw [if_neg (by simp), appG_some (by simp [pathN_len]; omega), bind_some]; rfl
  | m + 1, j, f + 1, hj, hf => by
    rw [fix_step]; simp only [ref03_Path_L1]
    have hne := divk_ne hk (show j < k by omega)
    have hlt : w / 2 ^ j < 9223372036854775808 := Nat.lt_of_le_of_lt (Nat.div_le_self _ _) hw
    rw [if_pos (by omega), appG_some (by simp [pathN_len]; omega), bind_some, quo2 _ hlt, bind_some, Nat.div_div_eq_div_mul, ← Nat.pow_succ]
    exact rpath_loop hw hk hk2 m (j + 1) f (by omega) (by omega)
theorem rpath_eq {w k : Nat} (hw : w < 9223372036854775808) (hk : 2 ^ k ≤ w) (hk2 : k ≤ 64) : ref03_Path ((w / 2 ^ k : Nat) : Int) (w : Int) = some (((w / 2 ^ k : Nat) : Int) :: (pathN w k).map Int.ofNat) := by
  have := rpath_loop hw hk hk2 k 0 FUEL (by omega) (fuel_lt (by omega))
  rw [Nat.pow_zero, Nat.div_one] at this
  exact this
end Go.Sx

end
section
/- Schemes and subsets: the mirrors of both sides come to the same. -/
set_option linter.unusedVariables false
set_option linter.unusedSimpArgs false
namespace Go.Sx
open Go

def zG : TGroup := TGroup.mk 0#64 0#64 0#64
def vldB (s : TScheme) : Bool := decide (1#8 ≤ s.Kind ∧ s.Kind ≤ 3#8 ∧ 0 ≤ s.Depth ∧ s.Depth ≤ 6 ∧ s.Degree = 0 ∧ s.Group = zG)
theorem valid_eq (s : TScheme) : ref03_Valid s = some (vldB s) := by
  unfold ref03_Valid vldB zG
  by_cases h1 : 1#8 ≤ s.Kind
  · by_cases h2 : s.Kind ≤ 3#8
    · by_cases h3 : 0 ≤ s.Depth
      · by_cases h4 : s.Depth ≤ 6
        · by_cases h5 : s.Degree = 0
          · simp [h1, h2, h3, h4, h5]
          · simp [h1, h2, h3, h4, h5]
        · simp [h1, h2, h3, h4]
      · simp [h1, h2, h3]
    · simp [h1, h2]
  · simp [h1]
theorem vld_depth {s : TScheme} (h : vldB s = true) : ∃ d : Nat, s.Depth = (d : Int) ∧ d ≤ 6 := by
  unfold vldB at h
  have := of_decide_eq_true h
  exact ⟨s.Depth.toNat, by omega, by omega⟩
theorem treeOf_step (s : TScheme) (n : Nat) (a : Int) : fixN (cover_treeOf_L2 s) (n + 1) a = if w64 (a * a) < s.Depth then fixN (cover_treeOf_L2 s) n (w64 (a + 1)) else some (Tcover_tree.mk s.Kind s.Depth a, true) := rfl
theorem treeOf_loop (s : TScheme) {d : Nat} (hd : s.Depth = (d : Int)) (h : d ≤ 6) : fixN (cover_treeOf_L2 s) FUEL 1 = some (Tcover_tree.mk s.Kind (d : Int) (strd d : Int), true) := by
  have e1 : w64 (1 * 1) = 1 := by decide
  have e2 : w64 (1 + 1) = 2 := by decide
  have e3 : w64 (2 * 2) = 4 := by decide
  have e4 : w64 (2 + 1) = 3 := by decide
  have e5 : w64 (3 * 3) = 9 := by decide
  rw [show FUEL = 18446744073709551613 + 3 from rfl, treeOf_step, e1, e2, hd]
  unfold strd
  by_cases h1 : d ≤ 1
  · rw [if_neg (by omega), if_pos h1, ← hd]; rfl
  · rw [if_pos (by omega), if_neg h1, show 18446744073709551613 + 2 = 18446744073709551614 + 1 from rfl, treeOf_step, e3, e4, hd]
    by_cases h2 : d ≤ 4
    · rw [if_neg (by omega), if_pos h2, ← hd]; rfl
    · rw [if_pos (by omega), if_neg h2, show 18446744073709551614 = 18446744073709551613 + 1 from rfl, treeOf_step, e5, hd, if_neg (by omega), ← hd]; rfl
def treeI (s : TScheme) : Tcover_tree := Tcover_tree.mk s.Kind s.Depth (strd s.Depth.toNat : Int)
theorem treeOf_eq (s : TScheme) : cover_treeOf s = some (if vldB s then (treeI s, true) else (Tcover_tree.mk 0#8 0 0, false)) := by
  unfold cover_treeOf cover_treeOf_J1
  by_cases hv : vldB s = true
  · rw [if_pos hv]
    obtain ⟨d, hd, h6⟩ := vld_depth hv
    unfold vldB at hv
    obtain ⟨h1, h2, h3, h4, h5, h7⟩ := of_decide_eq_true hv
    have hs : s = TScheme.mk s.Kind s.Depth 0 (TGroup.mk 0#64 0#64 0#64) := by cases s; simp only at *; rw [h5, h7]; rfl
    rw [if_neg (by rw [BitVec.not_lt]; exact h1), if_neg (by rw [BitVec.not_lt]; exact h2), if_neg (by omega), if_neg (by omega), decide_eq_false (by simpa using hs)]
    simp only [cond_false]
    rw [treeOf_loop s hd h6]
    unfold treeI
    rw [hd, Int.toNat_natCast]
  · rw [if_neg hv]
    have hn : ¬ (1#8 ≤ s.Kind ∧ s.Kind ≤ 3#8 ∧ 0 ≤ s.Depth ∧ s.Depth ≤ 6 ∧ s.Degree = 0 ∧ s.Group = zG) := fun h => hv (by unfold vldB; exact decide_eq_true h)
    by_cases h1 : s.Kind < 1#8
    · rw [if_pos h1]; rfl
    · rw [if_neg h1]
      by_cases h2 : 3#8 < s.Kind
      · rw [if_pos h2]; rfl
      · rw [if_neg h2]
        by_cases h3 : s.Depth < 0
        · rw [if_pos h3]; rfl
        · rw [if_neg h3]
          by_cases h4 : (6 : Int) < s.Depth
          · rw [if_pos h4]; rfl
          · rw [if_neg h4, decide_eq_true (p := s ≠ _)]
            · rfl
            · intro hs
              refine hn ⟨BitVec.not_lt.1 h1, BitVec.not_lt.1 h2, by omega, by omega, ?_, ?_⟩
              · rw [hs]
              · rw [hs]; rfl
/-! the first special node -/
def fstS (d : Nat) (l : List Nat) : Nat := (l.find? (spcl d)).getD 0
theorem first_eq {k : BitVec 8} {d : Nat} : ∀ (l : List Nat), (∀ n ∈ l, 1 ≤ n ∧ n < 9223372036854775808) →
    itL (cover_first_cover_path_1_cover_tree_special_R1 ⟨k, (d : Int), (strd d : Int)⟩) cover_first_cover_path_1_cover_tree_special_D1 (l.map Int.ofNat) 0 = some ((fstS d l : Nat) : Int)
  | [], _ => rfl
  | a :: l, h => by
    rw [List.map_cons, itL_cons]
    simp only [cover_first_cover_path_1_cover_tree_special_R1]
    have ha := h a (by simp)
    rw [show (Int.ofNat a) = (a : Int) from rfl, special_eq ha.1 ha.2, bind_some]
    unfold fstS
    rw [List.find?_cons]
    cases hs : spcl d a with
    | true => rfl
    | false => exact first_eq l (fun n hn => h n (by simp [hn]))
theorem between_loop {d : Nat} (hd : d ≤ 6) (v m : Nat) (l : List Nat) (hl : l.length ≤ 64) (hb : ∀ n ∈ l, n < 9223372036854775808) : ∀ (r : List Nat) (j f : Nat), j + r.length = l.length → l.drop j = r → r.length < f →
    fixN (ref03_between_L1 (d : Int) ((v : Int) :: (l ++ [m]).map Int.ofNat)) f ((j + 1 : Nat) : Int) = some ((fstS d r : Nat) : Int)
  | r, j, 0, _, _, h => by omega
  | [], j, f + 1, hj, hr, _ => by
    rw [fix_step]; simp only [ref03_between_L1]
    rw [w64_id (by simp; omega) (by simp; omega), if_neg (by simp; simp at hj; omega)]; rfl
  | a :: r, j, f + 1, hj, hr, hf => by
    rw [fix_step]; simp only [ref03_between_L1]
    have hjl : j < l.length := by simp at hj; omega
    have ha : l[j] = a := by
      have := List.drop_eq_getElem_cons hjl; rw [hr] at this; exact (List.cons.inj this).1.symm
    have hr' : l.drop (j + 1) = r := by
      have := List.drop_eq_getElem_cons hjl; rw [hr] at this; exact (List.cons.inj this).2.symm
    have hg : getI ((v : Int) :: (l ++ [m]).map Int.ofNat) ((j + 1 : Nat) : Int) = some (a : Int) := by
      rw [getI_some (by simp; omega)]
      simp only [List.map_append, List.getElem_cons_succ, List.getElem_append_left (show j < (l.map Int.ofNat).length by simpa using hjl), List.getElem_map, ha]; rfl
    rw [w64_id (by simp; omega) (by simp; omega), if_pos (by simp; omega), hg, bind_some, rspecial_eq hd (hb a (by rw [← ha]; exact List.getElem_mem hjl)), bind_some]
    unfold fstS
    rw [List.find?_cons]
    cases hs : spcl d a with
    | true => rfl
    | false =>
      simp only [cond_false]
      rw [w64_id (by simp at hj; omega) (by simp at hj; omega), show ((j + 1 : Nat) : Int) + 1 = ((j + 1 + 1 : Nat) : Int) from by omega]
      exact between_loop hd v m l hl hb r (j + 1) f (by simp at hj ⊢; omega) hr' (by simp at hf; omega)
theorem below_split {m n : Nat} (hm : 1 ≤ m) (hn : 1 ≤ n) (h : belowB m n = true) (hne : m ≠ n) : ∃ k, Nat.log2 m - Nat.log2 n = k + 1 ∧ n = m / 2 ^ (k + 1) ∧ 2 ^ (k + 1) ≤ m := by
  unfold belowB at h
  obtain ⟨h1, h2⟩ := of_decide_eq_true h
  have h3 : Nat.log2 m - Nat.log2 n ≠ 0 := fun e => by rw [e, Nat.pow_zero, Nat.div_one] at h2; exact hne h2
  refine ⟨Nat.log2 m - Nat.log2 n - 1, by omega, ?_, ?_⟩
  · rw [show Nat.log2 m - Nat.log2 n - 1 + 1 = Nat.log2 m - Nat.log2 n from by omega]; exact h2.symm
  · rw [show Nat.log2 m - Nat.log2 n - 1 + 1 = Nat.log2 m - Nat.log2 n from by omega]
    exact Nat.le_trans (Nat.pow_le_pow_right (by omega) (by omega)) (Nat.log2_self_le (by omega))
theorem half_pow {m k : Nat} (h : 2 ^ (k + 1) ≤ m) : 2 ^ k ≤ m / 2 := by rw [Nat.le_div_iff_mul_le (by omega)]; rw [Nat.pow_succ] at h; omega
theorem cut_eq {kd : BitVec 8} {d m k : Nat} (hm : m < 128) (hk : 2 ^ (k + 1) ≤ m) (hk2 : k ≤ 60) : cover_tree_cut ⟨kd, (d : Int), (strd d : Int)⟩ ((m / 2 ^ (k + 1) : Nat) : Int) (m : Int) = some ((fstS d (pathN (m / 2) k) : Nat) : Int) := by
  unfold cover_tree_cut cover_path cover_first_cover_path_1_cover_tree_special
  rw [show shG (un 1#64) = some 1 from by decide, bind_some, bind_some, shr_nat _ _ (by omega), Nat.pow_one]
  simp only
  have e : m / 2 ^ (k + 1) = m / 2 / 2 ^ k := by rw [Nat.div_div_eq_div_mul, Nat.pow_succ, Nat.mul_comm 2]
  have hp := half_pow hk
  rw [e, path_eq (by omega) hp (by omega), bind_some, first_eq _ (fun n hn => by have := pathN_bd hp hn; omega), bind_some]
theorem between_eq {d m k : Nat} (hd : d ≤ 6) (hm : m < 128) (hk : 2 ^ (k + 1) ≤ m) (hk2 : k ≤ 60) : ref03_between (d : Int) ((m / 2 ^ (k + 1) : Nat) : Int) (m : Int) = some ((fstS d (pathN (m / 2) k) : Nat) : Int) := by
  have hp := half_pow hk
  unfold ref03_between
  rw [rpath_eq (by omega) hk (by omega), bind_some, pathN_snoc]
  have := between_loop hd (m / 2 ^ (k + 1)) m (pathN (m / 2) k) (by rw [pathN_len]; omega) (fun n hn => by have := pathN_bd hp hn; omega) (pathN (m / 2) k) 0 FUEL (by omega) rfl (fuel_lt (by rw [pathN_len]; omega))
  exact this
theorem le_log {m k : Nat} (h : 2 ^ k ≤ m) (hm : m < 128) : k ≤ 6 := by
  have h1 := (Nat.le_log2 (n := m) (by have := Nat.two_pow_pos k; omega)).2 h
  have h2 : Nat.log2 m < 7 := (Nat.log2_lt (by have := Nat.two_pow_pos k; omega)).2 (by omega)
  omega
/-- what a subset is known to be -/
def SubOk (s : TScheme) (x : TSubset) : Prop := hasN s.Depth.toNat x.Node = true ∧ (s.Kind = 1#8 ∨ x.Minus = 0 ∨ (∃ m n k : Nat, x.Minus = (m : Int) ∧ x.Node = (n : Int) ∧ n = m / 2 ^ (k + 1) ∧ 2 ^ (k + 1) ≤ m ∧ m < 128 ∧ k ≤ 6 ∧ 1 ≤ n))
theorem subset_eq (s : TScheme) (hv : vldB s = true) (x : TSubset) : ∃ b, cover_tree_subset (treeI s) x = some b ∧ ref03_IsSubset s x = some b ∧ (b = true → SubOk s x) := by
  obtain ⟨d, hd, h6⟩ := vld_depth hv
  have ht : treeI s = ⟨s.Kind, (d : Int), (strd d : Int)⟩ := by unfold treeI; rw [hd, Int.toNat_natCast]
  rw [ht]
  unfold cover_tree_subset ref03_IsSubset
  rw [hd, has_eq h6, node_eq h6, bind_some, bind_some]
  have hno : false = true → SubOk s x := fun h => by cases h
  cases h1 : hasN d x.Node with
  | false => exact ⟨false, rfl, rfl, hno⟩
  | true =>
    have hsd : hasN s.Depth.toNat x.Node = true := by rw [hd, Int.toNat_natCast]; exact h1
    simp only [Bool.not_true, cond_false]
    obtain ⟨n, hn, hn1, hn2⟩ := hasN_nat h6 h1
    by_cases hk : s.Kind = 1#8
    · rw [if_pos hk, if_pos hk]
      unfold cover_tree_subset_J1
      rw [cond_true]
      by_cases hm : x.Minus = 0
      · rw [if_pos hm, if_pos hk]; exact ⟨true, rfl, by rw [decide_eq_true hm], fun _ => ⟨hsd, .inl hk⟩⟩
      · rw [if_neg hm]; exact ⟨false, rfl, by rw [decide_eq_false hm], hno⟩
    · rw [if_neg hk, if_neg hk]
      unfold cover_tree_subset_J1
      by_cases hm : x.Minus = 0
      · rw [decide_eq_true hm, cond_true, if_pos hm, if_neg hk, if_pos hm]
        exact ⟨_, rfl, rfl, fun _ => ⟨hsd, .inr (.inl hm)⟩⟩
      · rw [decide_eq_false hm, cond_false, if_neg hm, has_eq h6, node_eq h6, bind_some, bind_some]
        have hf : ∃ b, cover_tree_subset_J2 ⟨s.Kind, (d : Int), (strd d : Int)⟩ x true = some b ∧ ref03_IsSubset_J1 s x true = some b ∧ (b = true → SubOk s x) := ⟨false, rfl, rfl, hno⟩
        cases h2 : hasN d x.Minus with
        | false => exact hf
        | true =>
          rw [Bool.not_true, cond_false, cond_false]
          obtain ⟨m, hm1, hm2, hm3⟩ := hasN_nat h6 h2
          by_cases he : x.Minus = x.Node
          · rw [if_pos he, if_pos he]; exact hf
          · have e1 : cover_node_below x.Minus x.Node = some (belowB m n) := by rw [hm1, hn]; exact below_eq hm2 hn1 (by omega) (by omega)
            have e2 : ref03_Below x.Minus x.Node = some (belowB m n) := by rw [hm1, hn]; exact rbelow_eq hm2 hn1 (by omega)
            rw [if_neg he, if_neg he, e1, e2, bind_some, bind_some]
            cases h3 : belowB m n with
            | false => exact hf
            | true =>
              obtain ⟨k, hk0, hk1, hk2⟩ := below_split hm2 hn1 h3 (by omega)
              have hkl := le_log hk2 hm3
              have hok : ∀ b : Bool, b = true → SubOk s x := fun b _ => ⟨hsd, .inr (.inr ⟨m, n, k, hm1, hn, hk1, hk2, hm3, by omega, hn1⟩)⟩
              unfold cover_tree_subset_J2 ref03_IsSubset_J1
              rw [Bool.not_true, cond_false, cond_false]
              by_cases hk3 : s.Kind = 2#8
              · rw [if_pos hk3, if_pos hk3]; exact ⟨true, rfl, rfl, hok true⟩
              · have e3 : cover_tree_special ⟨s.Kind, (d : Int), (strd d : Int)⟩ x.Node = some (spcl d n) := by rw [hn]; exact special_eq hn1 (by omega)
                have e4 : ref03_Special s.Depth x.Node = some (spcl d n) := by rw [hn, hd]; exact rspecial_eq h6 (by omega)
                rw [if_neg hk3, if_neg hk3, e3, e4, bind_some, bind_some]
                cases hs : spcl d n with
                | true => exact ⟨true, rfl, rfl, hok true⟩
                | false =>
                  rw [cond_false, cond_false]
                  have e5 : cover_tree_cut ⟨s.Kind, (d : Int), (strd d : Int)⟩ x.Node x.Minus = some ((fstS d (pathN (m / 2) k) : Nat) : Int) := by rw [hn, hm1, hk1]; exact cut_eq hm3 hk2 (by omega)
                  have e6 : ref03_between s.Depth x.Node x.Minus = some ((fstS d (pathN (m / 2) k) : Nat) : Int) := by rw [hn, hm1, hd, hk1]; exact between_eq h6 hm3 hk2 (by omega)
                  rw [e5, e6, bind_some]
                  exact ⟨_, rfl, rfl, hok _⟩
end Go.Sx

end
section
/- Keys: the mirrors of both sides come to the same. -/
set_option linter.unusedVariables false
set_option linter.unusedSimpArgs false
namespace Go.Sx
open Go

/-- the label of a child -/
def stp (k : W2) (n : Nat) : W2 := if n % 2 = 1 then drv k (un8 32#8) 0#64 else drv k (un8 31#8) 0#64
theorem desc_eq : ∀ (l : List Nat) (k : W2), itL cover_descend_R1 cover_descend_D1 (l.map Int.ofNat) k = some (l.foldl stp k)
  | [], k => rfl
  | a :: l, k => by
    rw [List.map_cons, itL_cons]
    simp only [cover_descend_R1, cover_descend_J2]
    rw [show (Int.ofNat a) = (a : Int) from rfl, show (2 : Int) = ((2 : Nat) : Int) from rfl, rem_nat a 2 (by omega), bind_some, List.foldl_cons]
    unfold stp
    by_cases h : a % 2 = 1
    · rw [if_pos (by omega), if_pos h]; exact desc_eq l _
    · rw [if_neg (by omega), if_neg h]; exact desc_eq l _
theorem descend_eq {w k : Nat} (key : W2) (hw : w < 9223372036854775808) (hk : 2 ^ k ≤ w) (hk2 : k ≤ 64) : cover_descend key ((w / 2 ^ k : Nat) : Int) (w : Int) = some ((pathN w k).foldl stp key) := by
  unfold cover_descend cover_path
  rw [bind_some]
  simp only
  rw [path_eq hw hk hk2, bind_some, desc_eq]
theorem step_eq (k : W2) (n : Nat) : ref03_step k (n : Int) = some (stp k n) := by
  unfold ref03_step stp
  rw [show (2 : Int) = ((2 : Nat) : Int) from rfl, rem_nat n 2 (by omega), bind_some]
  by_cases h : n % 2 = 1
  · rw [if_neg (by omega), if_pos h]
  · rw [if_pos (by omega), if_neg h]
theorem down_loop (v : Int) (l : List Nat) (hl : l.length ≤ 1000) : ∀ (r : List Nat) (j f : Nat) (k : W2), j + r.length = l.length → l.drop j = r → r.length < f → fixN (ref03_down_L1 (v :: l.map Int.ofNat)) f (((j + 1 : Nat) : Int), k) = some (r.foldl stp k)
  | r, j, 0, k, _, _, h => by omega
  | [], j, f + 1, k, hj, hr, _ => by
    rw [fix_step]; simp only [ref03_down_L1]
    rw [if_neg (by simp at hj ⊢; omega)]; rfl
  | a :: r, j, f + 1, k, hj, hr, hf => by
    rw [fix_step]; simp only [ref03_down_L1]
    have hjl : j < l.length := by simp at hj; omega
    have ha : l[j] = a := by
      have := List.drop_eq_getElem_cons hjl; rw [hr] at this; exact (List.cons.inj this).1.symm
    have hr' : l.drop (j + 1) = r := by
      have := List.drop_eq_getElem_cons hjl; rw [hr] at this; exact (List.cons.inj this).2.symm
    have hg : getI (v :: l.map Int.ofNat) ((j + 1 : Nat) : Int) = some (a : Int) := by
      rw [getI_some (by simp; omega)]
      simp only [List.getElem_cons_succ, List.getElem_map, ha]; rfl
    rw [if_pos (by simp; omega), hg, bind_some, step_eq, bind_some, w64_id (by simp at hj; omega) (by simp at hj; omega), show ((j + 1 : Nat) : Int) + 1 = ((j + 1 + 1 : Nat) : Int) from by omega, List.foldl_cons]
    exact down_loop v l hl r (j + 1) f _ (by simp at hj ⊢; omega) hr' (by simp at hf; omega)
theorem down_eq {w k : Nat} (key : W2) (hw : w < 9223372036854775808) (hk : 2 ^ k ≤ w) (hk2 : k ≤ 64) : ref03_down key ((w / 2 ^ k : Nat) : Int) (w : Int) = some ((pathN w k).foldl stp key) := by
  unfold ref03_down
  rw [rpath_eq hw hk hk2, bind_some]
  exact down_loop _ (pathN w k) (by rw [pathN_len]; omega) (pathN w k) 0 FUEL key (by omega) rfl (fuel_lt (by rw [pathN_len]; omega))
/-- the key of a subset -/
theorem key_eq2 (root : W2) (s : TScheme) (x : TSubset) (h : SubOk s x) : ∃ k, cover_tree_key (treeI s) root x = some k ∧ ref03_KeyOf root s x = some k := by
  unfold cover_tree_key ref03_KeyOf cover_nodeKey ref03_label
  have ht : (treeI s).kind = s.Kind := rfl
  rw [ht]
  by_cases h1 : s.Kind = 1#8
  · rw [if_pos h1, if_pos h1]; exact ⟨_, rfl, rfl⟩
  · rw [if_neg h1, if_neg h1]
    by_cases h2 : x.Minus = 0
    · rw [if_pos h2, if_pos h2]; exact ⟨_, rfl, rfl⟩
    · rw [if_neg h2, if_neg h2]
      rcases h.2 with h3 | h3 | ⟨m, n, k, hm, hn, hk, hk2, hm2, hk3, hn1⟩
      · exact absurd h3 h1
      · exact absurd h3 h2
      · rw [hm, hn, hk, bind_some, descend_eq _ (by omega) hk2 (by omega), down_eq _ (by omega) hk2 (by omega), bind_some, bind_some]
        exact ⟨_, rfl, rfl⟩
end Go.Sx

end
section
/- Members of subsets: the mirrors of both sides come to the same. -/
set_option linter.unusedVariables false
set_option linter.unusedSimpArgs false
namespace Go.Sx
open Go

/-- whether a leaf is below Node and not below Minus -/
def memB (leaf : Nat) (v w : Nat) : Bool := belowB leaf v && (decide (w = 0) || !belowB leaf w)
/-- a subset's nodes as numbers -/
def SubN (s : TScheme) (x : TSubset) (n m : Nat) : Prop := x.Node = (n : Int) ∧ x.Minus = (m : Int) ∧ 1 ≤ n ∧ n < 128 ∧ m < 128
theorem subB_minus (s : TScheme) (hv : vldB s = true) (x : TSubset) (h : ref03_IsSubset s x = some true) : ∃ n m : Nat, SubN s x n m := by
  obtain ⟨d, hd, h6⟩ := vld_depth hv
  unfold ref03_IsSubset at h
  rw [hd, node_eq h6, bind_some] at h
  cases h1 : hasN d x.Node with
  | false => rw [h1] at h; simp at h
  | true =>
    obtain ⟨n, hn, hn1, hn2⟩ := hasN_nat h6 h1
    rw [h1] at h
    simp only [Bool.not_true, cond_false] at h
    by_cases hm : x.Minus = 0
    · exact ⟨n, 0, hn, by simpa using hm, hn1, hn2, by omega⟩
    · by_cases hk : s.Kind = 1#8
      · rw [if_pos hk, decide_eq_false hm] at h; simp at h
      · rw [if_neg hk, if_neg hm, node_eq h6, bind_some] at h
        cases h2 : hasN d x.Minus with
        | false => rw [h2] at h; simp [ref03_IsSubset_J1] at h
        | true =>
          obtain ⟨m, hm1, hm2, hm3⟩ := hasN_nat h6 h2
          exact ⟨n, m, hn, hm1, hn1, hn2, hm3⟩
theorem below0 (a : Int) : cover_node_below a 0 = some false := by
  unfold cover_node_below cover_node_below_J1
  by_cases h : a < 1
  · rw [if_pos h]; rfl
  · rw [if_neg h, if_pos (by omega)]; rfl
theorem leaf_eq {k : BitVec 8} {d u : Nat} {st : Int} (h : d ≤ 6) (hu : u < 128) : cover_tree_leaf ⟨k, (d : Int), st⟩ (u : Int) = some ((2 ^ d + u : Nat) : Int) := by
  have := pow_le64 h
  unfold cover_tree_leaf
  rw [size_eq h, bind_some]
  generalize 2 ^ d = m at *
  rw [w64_id (by omega) (by omega)]; congr 1
/-- the members -/
def memL (d n m : Nat) : List Int := ((List.range (2 ^ d)).filter fun u => memB (2 ^ d + u) n m).map fun u : Nat => (u : Int)
theorem memL_len {d n m : Nat} (h6 : d ≤ 6) : (memL d n m).length ≤ 64 := by
  have := pow_le64 h6
  unfold memL
  rw [List.length_map]
  exact Nat.le_trans (List.length_filter_le _ _) (by simpa using this)
/-! both sides' way in -/
theorem enter0 (s : TScheme) : cover_enter s ([] : List TSubset) = some (if vldB s then (treeI s, 0) else (Tcover_tree.mk 0#8 0 0, 30)) := by
  unfold cover_enter
  rw [treeOf_eq, bind_some]
  cases hv : vldB s with
  | false => rfl
  | true => rfl
theorem enter1 (s : TScheme) (hv : vldB s = true) (x : TSubset) : ∃ b, cover_enter s [x] = some (if b then (treeI s, 0) else (Tcover_tree.mk 0#8 0 0, 31)) ∧ ref03_IsSubset s x = some b ∧ cover_tree_subset (treeI s) x = some b ∧ (b = true → SubOk s x ∧ ∃ n m, SubN s x n m) := by
  obtain ⟨b, e1, e2, e3⟩ := subset_eq s hv x
  refine ⟨b, ?_, e2, e1, fun h => ⟨e3 h, subB_minus s hv x (h ▸ e2)⟩⟩
  unfold cover_enter
  rw [treeOf_eq, bind_some, if_pos hv]
  show fixN (cover_enter_L1 [x] (treeI s, true)) (18446744073709551614 + 1 + 1) 0 = _
  rw [fix_step]; simp only [cover_enter_L1]
  rw [if_pos (by simp), show getI [x] 0 = some x from rfl, bind_some, e1, bind_some]
  cases b with
  | false => rfl
  | true => rfl
theorem enter1n (s : TScheme) (hv : vldB s = false) (x : TSubset) : cover_enter s [x] = some (Tcover_tree.mk 0#8 0 0, 30) := by
  unfold cover_enter
  rw [treeOf_eq, bind_some, hv]; rfl
end Go.Sx

end
section
/- Labels of a receiver's secret: the mirrors of both sides come to one plain list. -/
set_option linter.unusedVariables false
set_option linter.unusedSimpArgs false
set_option maxRecDepth 100000
namespace Go.Sx
open Go

/-- whether a node v and a node w strictly below it are a subset, in the kinds 2 and 3 -/
def subN (k : BitVec 8) (d v w : Nat) : Bool := decide (k = 2#8) || spcl d v || decide (fstS d (pathN (w / 2) (Nat.log2 w - Nat.log2 v - 1)) = 0)
/-- the labels at the nodes above a leaf, from the one j above it on -/
def labK (k : BitVec 8) (d leaf : Nat) : Nat → List (Nat × Nat)
  | 0 => []
  | j + 1 => ((pathN leaf (j + 1)).filter fun p => subN k d (leaf / 2 ^ (j + 1)) (p ^^^ 1)).map (fun p => (leaf / 2 ^ (j + 1), p ^^^ 1)) ++ labK k d leaf j
/-- the nodes of the labels of a receiver -/
def labN (k : BitVec 8) (d u : Nat) : List (Nat × Nat) := (1, 0) :: if k = 1#8 then (pathN (2 ^ d + u) d).map (fun p => (p, 0)) else labK k d (2 ^ d + u) d
def labI (k : BitVec 8) (d u : Nat) : List (Int × Int) := (labN k d u).map fun x => ((x.1 : Int), (x.2 : Int))
def labS (k : BitVec 8) (d u : Nat) : List TSubset := (labN k d u).map fun x => TSubset.mk (x.1 : Int) (x.2 : Int)
/-- what is checked of each: both mirrors; how many there are; their nodes; Minus below Node -/
def labB (k : BitVec 8) (d u : Nat) : Bool :=
  decide (cover_tree_labels_1 ⟨k, (d : Int), (strd d : Int)⟩ (u : Int) = some (labI k d u)) && decide (ref03_LabelsOf ⟨k, (d : Int), 0, zG⟩ (u : Int) = some (labS k d u)) && decide ((labN k d u).length ≤ 100) &&
    (labN k d u).all fun x => decide (1 ≤ x.1 ∧ x.1 < 128 ∧ x.2 < 128) && (decide (x.2 = 0) || (belowB x.2 x.1 && !decide (x.2 = x.1)))
theorem lab_11 : ∀ d : Fin 7, (List.range (2 ^ d.1)).all (fun u => labB 1#8 d.1 u) = true := by decide +kernel
theorem lab_2a : ∀ d : Fin 6, (List.range (2 ^ d.1)).all (fun u => labB 2#8 d.1 u) = true := by decide +kernel
theorem lab_2b : (List.range 64).all (fun u => labB 2#8 6 u) = true := by decide +kernel
theorem lab_3a : ∀ d : Fin 6, (List.range (2 ^ d.1)).all (fun u => labB 3#8 d.1 u) = true := by decide +kernel
theorem lab_3b : (List.range 64).all (fun u => labB 3#8 6 u) = true := by decide +kernel
theorem kind_cases {k : BitVec 8} (h1 : 1#8 ≤ k) (h3 : k ≤ 3#8) : k = 1#8 ∨ k = 2#8 ∨ k = 3#8 := by
  have a : 1 ≤ k.toNat := h1
  have b : k.toNat ≤ 3 := h3
  rcases (show k.toNat = 1 ∨ k.toNat = 2 ∨ k.toNat = 3 by omega) with h | h | h
  · exact .inl (BitVec.eq_of_toNat_eq h)
  · exact .inr (.inl (BitVec.eq_of_toNat_eq h))
  · exact .inr (.inr (BitVec.eq_of_toNat_eq h))
theorem lab_all {k : BitVec 8} {d u : Nat} (h1 : 1#8 ≤ k) (h3 : k ≤ 3#8) (hd : d ≤ 6) (hu : u < 2 ^ d) : labB k d u = true := by
  have key : ∀ {n : Nat} {f : Nat → Bool}, (List.range n).all f = true → u < n → f u = true := fun h hu => List.all_eq_true.1 h u (List.mem_range.2 hu)
  rcases kind_cases h1 h3 with rfl | rfl | rfl
  · exact key (lab_11 ⟨d, by omega⟩) hu
  · rcases Nat.lt_or_ge d 6 with h | h
    · exact key (lab_2a ⟨d, h⟩) hu
    · obtain rfl : d = 6 := by omega
      exact key lab_2b hu
  · rcases Nat.lt_or_ge d 6 with h | h
    · exact key (lab_3a ⟨d, h⟩) hu
    · obtain rfl : d = 6 := by omega
      exact key lab_3b hu
theorem vld_kind {s : TScheme} (h : vldB s = true) : 1#8 ≤ s.Kind ∧ s.Kind ≤ 3#8 := by
  unfold vldB at h
  have := of_decide_eq_true h
  exact ⟨this.1, this.2.1⟩
theorem vld_shape {s : TScheme} {d : Nat} (h : vldB s = true) (hd : s.Depth = (d : Int)) : s = ⟨s.Kind, (d : Int), 0, zG⟩ := by
  unfold vldB at h
  have := of_decide_eq_true h
  cases s; simp only at *; rw [hd, this.2.2.2.2.1, this.2.2.2.2.2]
theorem labels_eq {s : TScheme} {d u : Nat} (hv : vldB s = true) (hd : s.Depth = (d : Int)) (h6 : d ≤ 6) (hu : u < 2 ^ d) :
    cover_tree_labels_1 ⟨s.Kind, (d : Int), (strd d : Int)⟩ (u : Int) = some (labI s.Kind d u) ∧ ref03_LabelsOf s (u : Int) = some (labS s.Kind d u) ∧ (labN s.Kind d u).length ≤ 100 ∧
    ∀ x ∈ labN s.Kind d u, (1 ≤ x.1 ∧ x.1 < 128 ∧ x.2 < 128) ∧ (x.2 = 0 ∨ (belowB x.2 x.1 = true ∧ x.2 ≠ x.1)) := by
  obtain ⟨k1, k3⟩ := vld_kind hv
  have h := lab_all k1 k3 h6 hu
  unfold labB at h
  simp only [Bool.and_eq_true, decide_eq_true_eq, List.all_eq_true, Bool.or_eq_true, Bool.not_eq_true', decide_eq_false_iff_not] at h
  refine ⟨h.1.1.1, ?_, h.1.2, h.2⟩
  rw [vld_shape hv hd]; exact h.1.1.2
end Go.Sx

end
section
/- Secrets: the mirrors of both sides come to one plain list of labels. -/
set_option linter.unusedVariables false
set_option linter.unusedSimpArgs false
namespace Go.Sx
open Go

/-- the key of a label -/
def keyN (root : W2) (k : BitVec 8) (x : Nat × Nat) : W2 :=
  if x.2 = 0 then (if k = 1#8 then drv root (un8 30#8) (wd (x.1 : Int)) else drv root (un8 34#8) 0#64) else (pathN x.2 (Nat.log2 x.2 - Nat.log2 x.1)).foldl stp (drv root (un8 30#8) (wd (x.1 : Int)))
def lbl (root : W2) (k : BitVec 8) (x : Nat × Nat) : TLabel := TLabel.mk (x.1 : Int) (x.2 : Int) (keyN root k x)
def secN (root : W2) (k : BitVec 8) (d u : Nat) : List TLabel := (labN k d u).map (lbl root k)
def LabOk (x : Nat × Nat) : Prop := (1 ≤ x.1 ∧ x.1 < 128 ∧ x.2 < 128) ∧ (x.2 = 0 ∨ (belowB x.2 x.1 = true ∧ x.2 ≠ x.1))
theorem lab_split {x : Nat × Nat} (h : LabOk x) (h0 : x.2 ≠ 0) : ∃ k, Nat.log2 x.2 - Nat.log2 x.1 = k + 1 ∧ x.1 = x.2 / 2 ^ (k + 1) ∧ 2 ^ (k + 1) ≤ x.2 ∧ k ≤ 6 := by
  rcases h.2 with h2 | ⟨h2, h3⟩
  · exact absurd h2 h0
  · obtain ⟨k, e1, e2, e3⟩ := below_split (by omega) h.1.1 h2 h3
    have := le_log e3 h.1.2.2
    exact ⟨k, e1, e2, e3, by omega⟩
theorem psecret_eq {root : W2} {s : TScheme} {d u : Nat} (ui : Int) (h : ∀ x ∈ labN s.Kind d u, LabOk x) (hl : (labN s.Kind d u).length ≤ 100) :
    itL (cover_Secret_R1 root (treeI s, 0)) (cover_Secret_D1 ui) (labI s.Kind d u) [] = some (TSecret.mk ui (secN root s.Kind d u) (TPoint.mk 0#64 0#64), 0) := by
  unfold labI
  rw [itL_map]
  refine (itL_app 32 0 (fun _ => true) (lbl root s.Kind) _ _ _ _ (fun a ha nx l => ?_) (by simp; omega)).trans (by simp [cover_Secret_D1, secN, filter_tt])
  have hok := h a ha
  simp only [cover_Secret_R1, cover_Secret_J2, cond_true]
  by_cases h0 : a.2 = 0
  · rw [if_pos (by omega)]
    have : cover_tree_key (treeI s) root (TSubset.mk (a.1 : Int) 0) = some (keyN root s.Kind a) := by
      unfold cover_tree_key keyN cover_nodeKey
      rw [if_pos h0, show (treeI s).kind = s.Kind from rfl]
      by_cases hk : s.Kind = 1#8
      · rw [if_pos hk, if_pos hk]; rfl
      · rw [if_neg hk, if_neg hk, if_pos rfl]
    rw [this, bind_some]; rfl
  · rw [if_neg (by omega)]
    obtain ⟨k, e1, e2, e3, e4⟩ := lab_split hok h0
    unfold cover_nodeKey
    rw [bind_some]
    have : cover_descend (drv root (un8 30#8) (wd (a.1 : Int))) (a.1 : Int) (a.2 : Int) = some (keyN root s.Kind a) := by
      have := descend_eq (drv root (un8 30#8) (wd (a.1 : Int))) (w := a.2) (k := k + 1) (by have := hok.1.2.2; omega) e3 (by omega)
      rw [← e2] at this
      rw [this, keyN, if_neg h0, e1]
    rw [this, bind_some]; rfl
theorem keyOf_some {root : W2} {s : TScheme} {x : Nat × Nat} (h : LabOk x) (hk1 : s.Kind = 1#8 → x.2 = 0) : ∃ k, ref03_KeyOf root s (TSubset.mk (x.1 : Int) (x.2 : Int)) = some k ∧ (x.2 = 0 → k = keyN root s.Kind x) := by
  unfold ref03_KeyOf keyN
  by_cases hk : s.Kind = 1#8
  · rw [if_pos hk]; exact ⟨_, rfl, fun h0 => by rw [if_pos h0, if_pos hk]⟩
  · rw [if_neg hk]
    by_cases h0 : x.2 = 0
    · rw [if_pos (by simp [h0])]; exact ⟨_, rfl, fun _ => by rw [if_pos h0, if_neg hk]⟩
    · rw [if_neg (by simp only; omega)]
      obtain ⟨k, e1, e2, e3, e4⟩ := lab_split h h0
      unfold ref03_label
      have := down_eq (drv root (un8 30#8) (wd (x.1 : Int))) (w := x.2) (k := k + 1) (by have := h.1.2.2; omega) e3 (by omega)
      rw [← e2] at this
      simp only
      rw [this, bind_some, bind_some]
      exact ⟨_, rfl, fun h => absurd h h0⟩
theorem rlabel_eq {root : W2} {k' : BitVec 8} {x : Nat × Nat} (h : LabOk x) (h0 : x.2 ≠ 0) : ref03_label root (x.1 : Int) (x.2 : Int) = some (keyN root k' x) := by
  obtain ⟨k, e1, e2, e3, e4⟩ := lab_split h h0
  unfold ref03_label keyN
  have := down_eq (drv root (un8 30#8) (wd (x.1 : Int))) (w := x.2) (k := k + 1) (by have := h.1.2.2; omega) e3 (by omega)
  rw [← e2] at this
  rw [this, bind_some, if_neg h0, e1]
theorem lab1 {k : BitVec 8} {d u : Nat} (hk : k = 1#8) : ∀ x ∈ labN k d u, x.2 = 0 := by
  intro x hx
  unfold labN at hx
  rw [if_pos hk] at hx
  rcases List.mem_cons.1 hx with rfl | hx
  · rfl
  · obtain ⟨p, _, rfl⟩ := List.mem_map.1 hx; rfl
theorem rsecret_eq {root : W2} {s : TScheme} {d u : Nat} (ui : Int) (h : ∀ x ∈ labN s.Kind d u, LabOk x) (hl : (labN s.Kind d u).length ≤ 100) :
    fixN (ref03_SecretOf_L1 root s ui (labS s.Kind d u)) FUEL (0, []) = some (TSecret.mk ui (secN root s.Kind d u) (TPoint.mk 0#64 0#64)) := by
  have hls : (labS s.Kind d u).length = (labN s.Kind d u).length := by simp [labS]
  have := fix_itL (labN s.Kind d u) (ref03_SecretOf_L1 root s ui (labS s.Kind d u)) (fun j (acc : List TLabel) => ((j : Int), acc)) (fun a nx acc => Option.bind (appG 32 acc [lbl root s.Kind a]) nx) (fun acc => some (TSecret.mk ui acc (TPoint.mk 0#64 0#64)))
    (fun rec j hj acc => by
      have hj' : j < (labS s.Kind d u).length := by omega
      have hg : (labS s.Kind d u)[j] = TSubset.mk ((labN s.Kind d u)[j].1 : Int) ((labN s.Kind d u)[j].2 : Int) := by simp [labS]
      have hok := h _ (List.getElem_mem hj)
      obtain ⟨k, e1, e2⟩ := keyOf_some (root := root) (s := s) hok (fun hk => lab1 hk _ (List.getElem_mem hj))
      simp only [ref03_SecretOf_L1, ref03_SecretOf_J2, ref03_SecretOf_J3]
      rw [if_pos (by omega), getI_some hj', bind_some, hg, e1, bind_some, bind_some]
      simp only [bind_some]
      by_cases h0 : (labN s.Kind d u)[j].2 = 0
      · rw [if_neg (by omega), e2 h0, w64_nat (by omega)]; rfl
      · rw [if_pos (by omega), rlabel_eq (k' := s.Kind) hok h0, bind_some, w64_nat (by omega)]; rfl)
    (fun rec acc => by simp only [ref03_SecretOf_L1]; rw [if_neg (by omega)]) (f := FUEL) (fuel_lt (by omega)) ([] : List TLabel)
  rw [show ((0 : Nat) : Int) = 0 from rfl] at this
  rw [this]
  exact (itL_app 32 0 (fun _ => true) (lbl root s.Kind) _ _ _ _ (fun a _ nx l => rfl) (by simp; omega)).trans (by simp [secN, filter_tt])
theorem receiver_eq {k : BitVec 8} {d : Nat} {st u : Int} (h : d ≤ 6) : cover_tree_receiver ⟨k, (d : Int), st⟩ u = some (decide (0 ≤ u ∧ u < ((2 ^ d : Nat) : Int))) := by
  unfold cover_tree_receiver
  by_cases h0 : (0 : Int) ≤ u
  · rw [if_pos h0, size_eq h, bind_some]; congr 1; apply decide_eq_decide.2; omega
  · rw [if_neg h0]; congr 1; symm; apply decide_eq_false; omega
theorem rreceiver_eq {d : Nat} {u : Int} (h : d ≤ 6) : ref03_receiver (d : Int) u = some (decide (0 ≤ u ∧ u < ((2 ^ d : Nat) : Int))) := by
  unfold ref03_receiver
  by_cases h0 : (0 : Int) ≤ u
  · rw [if_pos h0, recv_eq h, bind_some]; congr 1; apply decide_eq_decide.2; omega
  · rw [if_neg h0]; congr 1; symm; apply decide_eq_false; omega
/-- secrets, plainly -/
def sec0 : TSecret := TSecret.mk 0 [] (TPoint.mk 0#64 0#64)
def secP (root : W2) (s : TScheme) (u : Int) : TSecret × Int :=
  if vldB s then (if 0 ≤ u ∧ u < ((2 ^ s.Depth.toNat : Nat) : Int) then (TSecret.mk u (secN root s.Kind s.Depth.toNat u.toNat) (TPoint.mk 0#64 0#64), 0) else (sec0, 2)) else (sec0, 30)
theorem Secret_eq (root : W2) (s : TScheme) (u : Int) : cover_Secret root s u = some (secP root s u) ∧ ref03_Secret root s u = some (secP root s u) ∧ (secP root s u).1.Labels.length ≤ 100 := by
  unfold cover_Secret ref03_Secret secP
  rw [enter0, valid_eq, bind_some, bind_some]
  cases hv : vldB s with
  | false => exact ⟨rfl, rfl, by simp [sec0]⟩
  | true =>
    obtain ⟨d, hd, h6⟩ := vld_depth hv
    have ht : treeI s = ⟨s.Kind, (d : Int), (strd d : Int)⟩ := by unfold treeI; rw [hd, Int.toNat_natCast]
    simp only [if_true, Bool.not_true, cond_false]
    rw [if_neg (by simp), hd, rreceiver_eq h6, Int.toNat_natCast]
    have e0 : cover_tree_receiver (treeI s) u = some (decide (0 ≤ u ∧ u < ((2 ^ d : Nat) : Int))) := by rw [ht]; exact receiver_eq h6
    rw [e0, bind_some, bind_some]
    by_cases hu : 0 ≤ u ∧ u < ((2 ^ d : Nat) : Int)
    · rw [decide_eq_true hu, if_pos hu]
      simp only [Bool.not_true, cond_false]
      obtain ⟨n, hn⟩ : ∃ n : Nat, u = (n : Int) := ⟨u.toNat, by omega⟩
      subst hn
      obtain ⟨e1, e2, e3, e4⟩ := labels_eq (u := n) hv hd h6 (by omega)
      unfold cover_tree_labels ref03_SecretOf
      rw [bind_some]
      simp only
      rw [Int.toNat_natCast, ht, e1, e2, bind_some, bind_some, ← ht, psecret_eq _ e4 e3, rsecret_eq _ e4 e3, bind_some]
      exact ⟨rfl, rfl, by simpa [secN] using e3⟩
    · rw [decide_eq_false hu, if_neg hu]; exact ⟨rfl, rfl, by simp [sec0]⟩
end Go.Sx

end
section
/- Numbers modulo, plainly: primes, powers, groups; the program's and the document's come to the same. -/
set_option linter.unusedVariables false
set_option linter.unusedSimpArgs false
set_option maxRecDepth 100000
namespace Go.Sx.Po
open Go

abbrev bn (n : Nat) : BitVec 64 := BitVec.ofNat 64 n
theorem bn_of (x : BitVec 64) : ∃ n, n < 18446744073709551616 ∧ x = bn n := ⟨x.toNat, x.isLt, by simp [bn]⟩
theorem bn_nat {n : Nat} (h : n < 18446744073709551616) : (bn n).toNat = n := by rw [bn, BitVec.toNat_ofNat]; exact Nat.mod_eq_of_lt h
theorem bn_inj {a b : Nat} (ha : a < 18446744073709551616) (hb : b < 18446744073709551616) : bn a = bn b ↔ a = b := by
  constructor
  · intro h; rw [← bn_nat ha, ← bn_nat hb, h]
  · intro h; rw [h]
theorem bn_lt {a b : Nat} (ha : a < 18446744073709551616) (hb : b < 18446744073709551616) : bn a < bn b ↔ a < b := by rw [BitVec.lt_def, bn_nat ha, bn_nat hb]
theorem bn_le {a b : Nat} (ha : a < 18446744073709551616) (hb : b < 18446744073709551616) : bn a ≤ bn b ↔ a ≤ b := by rw [BitVec.le_def, bn_nat ha, bn_nat hb]
theorem bn_mul (a b : Nat) : bn a * bn b = bn (a * b) := by apply BitVec.eq_of_toNat_eq; simp [bn]
theorem bn_add (a b : Nat) : bn a + bn b = bn (a + b) := by apply BitVec.eq_of_toNat_eq; simp [bn]
theorem bn_sub {a b : Nat} (ha : a < 18446744073709551616) (h : b ≤ a) : bn a - bn b = bn (a - b) := by
  apply BitVec.eq_of_toNat_eq
  rw [BitVec.toNat_sub, bn_nat ha, bn_nat (by omega), bn_nat (by omega)]; omega
theorem bn_shr (n : Nat) (h : n < 18446744073709551616) : bn n >>> 1 = bn (n / 2) := by
  apply BitVec.eq_of_toNat_eq
  rw [BitVec.toNat_ushiftRight, bn_nat h, bn_nat (by omega), Nat.shiftRight_eq_div_pow]
theorem bn_and1 (n : Nat) (h : n < 18446744073709551616) : bn n &&& 1#64 = bn (n % 2) := by
  apply BitVec.eq_of_toNat_eq
  rw [BitVec.toNat_and, bn_nat h, bn_nat (n := n % 2) (by omega)]
  exact Nat.and_one_is_mod n
theorem remU_bn {a m : Nat} (ha : a < 18446744073709551616) (hm : 0 < m) (hm2 : m < 18446744073709551616) : remU (bn a) (bn m) = some (bn (a % m)) := by
  have := Nat.mod_lt a hm
  unfold remU
  rw [if_neg (fun h => by have := (bn_inj (b := 0) hm2 (by omega)).1 h; omega)]
  congr 1
  apply BitVec.eq_of_toNat_eq
  rw [BitVec.toNat_umod, bn_nat ha, bn_nat hm2, bn_nat (by omega)]
theorem quoU_bn {a m : Nat} (ha : a < 18446744073709551616) (hm : 0 < m) (hm2 : m < 18446744073709551616) : quoU (bn a) (bn m) = some (bn (a / m)) := by
  have := Nat.div_le_self a m
  unfold quoU
  rw [if_neg (fun h => by have := (bn_inj (b := 0) hm2 (by omega)).1 h; omega)]
  congr 1
  apply BitVec.eq_of_toNat_eq
  rw [BitVec.toNat_udiv, bn_nat ha, bn_nat hm2, bn_nat (by omega)]
/-! primes -/
def Prm (n : Nat) : Prop := 2 ≤ n ∧ ∀ e, 2 ≤ e → e * e ≤ n → n % e ≠ 0
theorem prime_loop {n : Nat} (hn : n ≤ 1048575) (T : Bool) (F : (BitVec 64 → Option Bool) → BitVec 64 → Option Bool) (hF : ∀ rec a, F rec a = if a * a ≤ bn n then Option.bind (remU (bn n) a) fun x4 => if x4 = 0#64 then some false else rec (a + 1#64) else some T) :
    ∀ (m d f : Nat), d + m = 1025 → m < f → 2 ≤ d → ∃ b, fixN F f (bn d) = some b ∧ (b = true ↔ T = true ∧ ∀ e, d ≤ e → e * e ≤ n → n % e ≠ 0)
  | m, d, 0, _, h, _ => by omega
  | 0, d, f + 1, hd, _, h2 => by
    obtain rfl : d = 1025 := by omega
    rw [fix_step, hF, bn_mul, if_neg (by rw [bn_le (by omega) (by omega)]; omega)]
    refine ⟨T, rfl, fun h => ⟨h, fun e he hen => ?_⟩, fun h => h.1⟩
    have := Nat.mul_le_mul he he
    omega
  | m + 1, d, f + 1, hd, hf, h2 => by
    have hdd : d * d ≤ 1025 * 1025 := Nat.mul_le_mul (by omega) (by omega)
    rw [fix_step, hF, bn_mul]
    by_cases hle : d * d ≤ n
    · rw [if_pos ((bn_le (by omega) (by omega)).2 hle), remU_bn (by omega) (by omega) (by omega), bind_some]
      by_cases hz : n % d = 0
      · rw [hz, if_pos rfl]
        exact ⟨false, rfl, (fun h => by cases h), fun h => absurd hz (h.2 d (Nat.le_refl _) hle)⟩
      · have hzn : ¬ bn (n % d) = 0#64 := fun h => hz ((bn_inj (b := 0) (by have := Nat.mod_lt n (show 0 < d by omega); omega) (by omega)).1 h)
        rw [if_neg hzn, show (1#64) = bn 1 from rfl, bn_add]
        obtain ⟨b, e1, e2⟩ := prime_loop hn T F hF m (d + 1) f (by omega) (by omega) (by omega)
        refine ⟨b, e1, ?_⟩
        rw [e2]
        refine and_congr_right fun _ => ⟨fun h e he hen => ?_, fun h e he => h e (by omega)⟩
        rcases Nat.lt_or_ge d e with h' | h'
        · exact h e (by omega) hen
        · obtain rfl : e = d := by omega
          exact hz
    · rw [if_neg (fun h => hle ((bn_le (by omega) (by omega)).1 h))]
      refine ⟨T, rfl, fun h => ⟨h, fun e he hen => ?_⟩, fun h => h.1⟩
      have := Nat.mul_le_mul he he
      omega
theorem prime_eq {n : Nat} (h64 : n < 18446744073709551616) : ∃ b, number_prime (bn n) = some b ∧ (b = true ↔ n ≤ 1048575 ∧ Prm n) := by
  unfold number_prime number_prime_J1
  by_cases h2 : n < 2
  · rw [if_pos ((bn_lt h64 (b := 2) (by omega)).2 h2)]
    exact ⟨false, rfl, (fun h => by cases h), fun h => by have := h.2.1; omega⟩
  · rw [if_neg (fun h => h2 ((bn_lt h64 (b := 2) (by omega)).1 h))]
    by_cases hg : 1048575 < n
    · rw [decide_eq_true ((bn_lt (a := 1048575) (by omega) h64).2 hg)]
      exact ⟨false, rfl, (fun h => by cases h), fun h => by omega⟩
    · rw [decide_eq_false (fun h => hg ((bn_lt (a := 1048575) (by omega) h64).1 h)), cond_false]
      obtain ⟨b, e1, e2⟩ := prime_loop (n := n) (by omega) true (number_prime_L2 (bn n)) (fun rec a => rfl) 1023 2 FUEL (by omega) (fuel_lt (by omega)) (by omega)
      refine ⟨b, e1, ?_⟩
      rw [e2]; unfold Prm
      exact ⟨fun h => ⟨by omega, by omega, h.2⟩, fun h => ⟨rfl, h.2.2⟩⟩
theorem isPrime_eq {n : Nat} (hn : n ≤ 1048575) : ∃ b, ref01_IsPrime (bn n) = some b ∧ (b = true ↔ Prm n) := by
  obtain ⟨b, e1, e2⟩ := prime_loop (n := n) hn (decide (2#64 ≤ bn n)) (ref01_IsPrime_L1 (bn n)) (fun rec a => rfl) 1023 2 FUEL (by omega) (fuel_lt (by omega)) (by omega)
  refine ⟨b, e1, ?_⟩
  rw [e2, decide_eq_true_eq, show (2#64) = bn 2 from rfl, bn_le (by omega) (by omega)]; rfl
/-! powers -/
theorem pow_half (x n : Nat) : x ^ n = x ^ (n % 2) * (x * x) ^ (n / 2) := by
  have : x ^ n = x ^ (n % 2 + 2 * (n / 2)) := by congr 1; omega
  rw [this, Nat.pow_add, Nat.pow_mul, Nat.pow_two]
theorem pow_step {m x n o : Nat} : o * x ^ n % m = (if n % 2 = 1 then o * x % m else o) * (x * x % m) ^ (n / 2) % m := by
  rw [pow_half x n]
  rcases Nat.mod_two_eq_zero_or_one n with h | h
  · rw [h, if_neg (by omega), Nat.pow_zero, Nat.one_mul, Nat.mul_mod o ((x * x % m) ^ (n / 2)), ← Nat.pow_mod, ← Nat.mul_mod]
  · rw [h, if_pos rfl, Nat.pow_one, Nat.mul_mod (o * x % m), Nat.mod_mod, ← Nat.pow_mod, ← Nat.mul_mod, Nat.mul_assoc]
theorem power_loop {m : Nat} (hm : 0 < m) (hm2 : m < 4294967296) : ∀ (k n x o f : Nat), n < 2 ^ k → k ≤ 64 → k < f → x < m → o < m → fixN (number_power_L1 (bn m)) f (bn x, bn n, bn o) = some (bn (o * x ^ n % m))
  | k, n, x, o, 0, _, _, h, _, _ => by omega
  | 0, n, x, o, f + 1, hn, _, _, hx, ho => by
    obtain rfl : n = 0 := by simp at hn; exact hn
    rw [fix_step]; simp only [number_power_L1]
    rw [if_neg (by decide), Nat.pow_zero, Nat.mul_one, Nat.mod_eq_of_lt ho]
  | k + 1, n, x, o, f + 1, hn, hk, hf, hx, ho => by
    have hn64 : n < 18446744073709551616 := Nat.lt_of_lt_of_le hn (Nat.le_trans (Nat.pow_le_pow_right (by omega) hk) (by decide))
    have hxx : x * x < 18446744073709551616 := Nat.lt_of_le_of_lt (Nat.mul_le_mul (Nat.le_of_lt hx) (Nat.le_of_lt hx)) (by have := Nat.mul_lt_mul'' hm2 hm2; omega)
    have hox : o * x < 18446744073709551616 := Nat.lt_of_le_of_lt (Nat.mul_le_mul (Nat.le_of_lt ho) (Nat.le_of_lt hx)) (by have := Nat.mul_lt_mul'' hm2 hm2; omega)
    rw [fix_step]; simp only [number_power_L1]
    by_cases h0 : n = 0
    · subst h0
      rw [if_neg (by decide), Nat.pow_zero, Nat.mul_one, Nat.mod_eq_of_lt ho]
    · rw [if_pos ((bn_lt (a := 0) (by omega) hn64).2 (by omega)), bn_and1 n hn64, show shG (un 1#64) = some 1 from by decide, bn_mul, bn_mul, remU_bn hxx hm (by omega), remU_bn hox hm (by omega), pow_step]
      simp only [bind_some]
      rw [bn_shr n hn64]
      have hlt : n / 2 < 2 ^ k := by rw [Nat.pow_succ] at hn; omega
      have h1 := Nat.mod_lt (x * x) hm
      have h2 := Nat.mod_lt (o * x) hm
      by_cases hodd : n % 2 = 1
      · rw [if_pos (by rw [hodd]), if_pos hodd]
        exact power_loop hm hm2 k (n / 2) _ _ f hlt (by omega) (by omega) h1 h2
      · rw [if_neg (fun h => hodd ((bn_inj (b := 1) (by omega) (by omega)).1 h)), if_neg hodd]
        exact power_loop hm hm2 k (n / 2) _ _ f hlt (by omega) (by omega) h1 ho
theorem power_eq {b n m : Nat} (hb : b < 18446744073709551616) (hn : n < 18446744073709551616) (hm : 0 < m) (hm2 : m < 4294967296) : number_power (bn b) (bn n) (bn m) = some (bn (b ^ n % m)) := by
  unfold number_power
  rw [show (1#64) = bn 1 from rfl, remU_bn (by omega) hm (by omega), bind_some, remU_bn hb hm (by omega), bind_some, power_loop hm hm2 64 n _ _ FUEL (by omega) (by omega) (fuel_lt (by omega)) (Nat.mod_lt _ hm) (Nat.mod_lt _ hm), Nat.mod_mul_mod, Nat.one_mul, ← Nat.pow_mod]
theorem rpower_loop {m : Nat} (hm : 0 < m) (hm2 : m < 4294967296) : ∀ (k n x o f : Nat), n < 2 ^ k → k ≤ 64 → k < f → x < m → o < m → fixN (ref01_Power_L1 (bn m)) f (bn n, bn o, bn x) = some (bn (o * x ^ n % m))
  | k, n, x, o, 0, _, _, h, _, _ => by omega
  | 0, n, x, o, f + 1, hn, _, _, hx, ho => by
    obtain rfl : n = 0 := by simp at hn; exact hn
    rw [fix_step]; simp only [ref01_Power_L1]
    rw [if_neg (by decide), Nat.pow_zero, Nat.mul_one, Nat.mod_eq_of_lt ho]
  | k + 1, n, x, o, f + 1, hn, hk, hf, hx, ho => by
    have hn64 : n < 18446744073709551616 := Nat.lt_of_lt_of_le hn (Nat.le_trans (Nat.pow_le_pow_right (by omega) hk) (by decide))
    have hxx : x * x < 18446744073709551616 := Nat.lt_of_le_of_lt (Nat.mul_le_mul (Nat.le_of_lt hx) (Nat.le_of_lt hx)) (by have := Nat.mul_lt_mul'' hm2 hm2; omega)
    have hox : o * x < 18446744073709551616 := Nat.lt_of_le_of_lt (Nat.mul_le_mul (Nat.le_of_lt ho) (Nat.le_of_lt hx)) (by have := Nat.mul_lt_mul'' hm2 hm2; omega)
    rw [fix_step]; simp only [ref01_Power_L1]
    by_cases h0 : n = 0
    · subst h0
      rw [if_neg (by decide), Nat.pow_zero, Nat.mul_one, Nat.mod_eq_of_lt ho]
    · unfold ref01_Power_J2
      rw [if_pos ((bn_lt (a := 0) (by omega) hn64).2 (by omega)), show (2#64) = bn 2 from rfl, remU_bn hn64 (by omega) (by omega), bn_mul, bn_mul, remU_bn hxx hm (by omega), remU_bn hox hm (by omega), quoU_bn hn64 (by omega) (by omega), pow_step]
      simp only [bind_some]
      have hlt : n / 2 < 2 ^ k := by rw [Nat.pow_succ] at hn; omega
      have h1 := Nat.mod_lt (x * x) hm
      have h2 := Nat.mod_lt (o * x) hm
      by_cases hodd : n % 2 = 1
      · rw [if_pos (by rw [hodd]), if_pos hodd]
        exact rpower_loop hm hm2 k (n / 2) _ _ f hlt (by omega) (by omega) h1 h2
      · rw [if_neg (fun h => hodd ((bn_inj (b := 1) (by omega) (by omega)).1 h)), if_neg hodd]
        exact rpower_loop hm hm2 k (n / 2) _ _ f hlt (by omega) (by omega) h1 ho
theorem rpower_eq {b n m : Nat} (hb : b < 18446744073709551616) (hn : n < 18446744073709551616) (hm : 0 < m) (hm2 : m < 4294967296) : ref01_Power (bn b) (bn n) (bn m) = some (bn (b ^ n % m)) := by
  unfold ref01_Power
  rw [show (1#64) = bn 1 from rfl, remU_bn (by omega) hm (by omega), bind_some, remU_bn hb hm (by omega), bind_some, rpower_loop hm hm2 64 n _ _ FUEL (by omega) (by omega) (fuel_lt (by omega)) (Nat.mod_lt _ hm) (Nat.mod_lt _ hm), Nat.mod_mul_mod, Nat.one_mul, ← Nat.pow_mod]
end Go.Sx.Po

end
section
/- Bytes and words, plainly; and loops of n rounds. -/
set_option linter.unusedVariables false
set_option linter.unusedSimpArgs false
set_option maxRecDepth 100000
namespace Go.Sx.Po
open Go

theorem fix_go {τ R : Type} (F : (τ → Option R) → τ → Option R) (I : Nat → τ → Prop) (n : Nat) (r : Option R) (hn : n < 9223372036854775808) {s : τ} (h0 : I 0 s) (hs : ∀ j s, j < n → I j s → ∃ s', I (j + 1) s' ∧ ∀ rec, F rec s = rec s') (he : ∀ s, I n s → ∀ rec, F rec s = r) : fixN F FUEL s = r :=
  fix_run F I n r hs he n 0 FUEL s (by omega) (fuel_lt hn) h0
def valB (l : List (BitVec 8)) : BitVec 64 := l.foldl (fun n c => 256#64 * n + c.setWidth 64) 0#64
theorem shl_or (a : BitVec 64) (c : BitVec 8) : (a <<< 8) ||| (c.setWidth 64) = 256#64 * a + c.setWidth 64 := by
  have e1 : 256#64 * a = a <<< 8 := by
    apply BitVec.eq_of_toNat_eq
    rw [BitVec.toNat_mul, BitVec.toNat_shiftLeft, Nat.shiftLeft_eq, Nat.mul_comm]; rfl
  rw [e1]
  symm
  apply BitVec.add_eq_or_of_and_eq_zero
  apply BitVec.eq_of_getLsbD_eq
  intro j hj
  rw [BitVec.getLsbD_and, BitVec.getLsbD_shiftLeft, BitVec.getLsbD_setWidth, BitVec.getLsbD_zero]
  by_cases h : j < 8
  · simp [h]
  · simp [BitVec.getLsbD_of_ge c j (by omega)]
theorem valB_snoc (l : List (BitVec 8)) (c : BitVec 8) : valB (l ++ [c]) = 256#64 * valB l + c.setWidth 64 := by simp [valB]
theorem sh_step (x : BitVec 64) (s : Nat) : 256#64 * (x >>> (s + 8)) + ((x >>> s).setWidth 8).setWidth 64 = x >>> s := by
  rw [← shl_or]
  apply BitVec.eq_of_getLsbD_eq
  intro i hi
  simp only [BitVec.getLsbD_or, BitVec.getLsbD_shiftLeft, BitVec.getLsbD_ushiftRight, BitVec.getLsbD_setWidth]
  by_cases h : i < 8
  · simp [h, hi]
  · simp [h, hi, show s + 8 + (i - 8) = s + i from by omega]
theorem valB_w8 (x : BitVec 64) : valB (w8 x) = x := by
  have h0 : valB [] = x >>> 64 := by
    apply BitVec.eq_of_getLsbD_eq
    intro i hi
    rw [BitVec.getLsbD_ushiftRight, BitVec.getLsbD_of_ge x _ (by omega)]; simp [valB]
  have st : ∀ (l : List (BitVec 8)) (i : Nat), i ≤ 7 → valB l = x >>> (56 - 8 * i + 8) → valB (l ++ [byt x i]) = x >>> (56 - 8 * i) := fun l i hi hl => by
    rw [valB_snoc, hl]; exact sh_step x (56 - 8 * i)
  have h1 := st [] 0 (by omega) h0
  have h2 := st _ 1 (by omega) h1
  have h3 := st _ 2 (by omega) h2
  have h4 := st _ 3 (by omega) h3
  have h5 := st _ 4 (by omega) h4
  have h6 := st _ 5 (by omega) h5
  have h7 := st _ 6 (by omega) h6
  have h8 := st _ 7 (by omega) h7
  rw [show 56 - 8 * 7 = 0 from rfl, BitVec.ushiftRight_zero] at h8
  exact h8
theorem value_loop (l : List (BitVec 8)) (hx : l.length ≤ 1000) : ∀ (m i fuel : Nat), l.length - i = m → i ≤ l.length → m < fuel → fixN (ref02_Value_L1 l) fuel (valB (l.take i), (i : Int)) = some (valB l)
  | m, i, 0, _, _, hf => by omega
  | 0, i, fuel + 1, hm, hi, hf => by
    rw [fix_step]; simp only [ref02_Value_L1]; rw [if_neg (by omega), List.take_of_length_le (by omega)]
  | m + 1, i, fuel + 1, hm, hi, hf => by
    rw [fix_step]; simp only [ref02_Value_L1]
    rw [if_pos (by omega), getI_some (by omega), bind_some, ← valB_snoc, ← take_snoc _ _ (by omega), w64_id (by omega) (by omega)]
    exact value_loop l hx m (i + 1) fuel (by omega) (by omega) (by omega)
theorem value_eq (l : List (BitVec 8)) (h : l.length ≤ 1000) : ref02_Value l = some (valB l) := value_loop l h _ 0 FUEL rfl (by omega) (fuel_lt (by omega))
theorem kby_w8 (k : W2) : kby k = w8 k.1 ++ w8 k.2 := rfl
theorem words_aux (k : W2) (A B : List (BitVec 8)) (hA : A.length = 8) (hB : B.length = 8) (hk : kby k = A ++ B) : cipher_wordsOf k = some ⟨valB A, valB B⟩ := by
  unfold cipher_wordsOf
  refine fix_go _ (fun j x => x = ((j : Int), valB (A.take j), valB (B.take j))) 8 _ (by omega) (by simp [valB]) ?_ ?_
  · rintro j _ hj rfl
    refine ⟨_, rfl, fun rec => ?_⟩
    have h1 : j < A.length := by omega
    have h2 : j < B.length := by omega
    have g1 : getI (kby k) (j : Int) = some A[j] := by rw [hk, getI_some (by rw [List.length_append]; omega), List.getElem_append_left h1]
    have g2 : getI (kby k) ((8 + j : Nat) : Int) = some B[j] := by
      rw [hk, getI_some (by rw [List.length_append]; omega), List.getElem_append_right (by omega)]
      congr 2; omega
    simp only [cipher_wordsOf_L1]
    rw [if_pos (by omega), show shG (un 8#64) = some 8 from by decide, bind_some, g1, bind_some, bind_some, w64_id (n := 8 + (j : Int)) (by omega) (by omega), show (8 : Int) + (j : Int) = ((8 + j : Nat) : Int) from by omega, g2, bind_some, shl_or, shl_or, ← valB_snoc, ← valB_snoc, ← take_snoc _ _ h1, ← take_snoc _ _ h2, w64_nat (by omega)]
  · rintro _ rfl rec
    simp only [cipher_wordsOf_L1]
    rw [if_neg (by omega), List.take_of_length_le (by omega), List.take_of_length_le (by omega)]
theorem words_eq (k : W2) : cipher_wordsOf k = some ⟨k.1, k.2⟩ := by
  rw [words_aux k _ _ (w8_len _) (w8_len _) (kby_w8 k), valB_w8, valB_w8]
theorem number_eq (k : W2) (n m : BitVec 64) (hm : m ≠ 0#64) : cipher_Number k n m = some ((drv k (un8 3#8) n).1 % m) := by
  unfold cipher_Number
  rw [if_neg hm, words_eq, bind_some]
  simp only
  unfold remU
  rw [if_neg hm]; rfl
theorem rnumber_eq (k : W2) (n m : BitVec 64) (hm : m ≠ 0#64) : ref02_Number k n m = some ((drv k (un8 3#8) n).1 % m) := by
  unfold ref02_Number
  rw [if_neg hm, List.drop_zero, kby_w8, List.take_left' (w8_len _), value_eq _ (by rw [w8_len]; omega), bind_some, valB_w8]
  unfold remU
  rw [if_neg hm]; rfl
end Go.Sx.Po

end
section
/- Schemes with a polynomial, plainly: valid, coefficients, values. -/
set_option linter.unusedVariables false
set_option linter.unusedSimpArgs false
set_option maxRecDepth 100000
namespace Go.Sx.Po
open Go

def GrpOk (p q g : Nat) : Prop := (p ≤ 1048575 ∧ Prm p) ∧ (q ≤ 1048575 ∧ Prm q) ∧ (p - 1) % q = 0 ∧ 2 ≤ g ∧ g < p ∧ g ^ q % p = 1
theorem group_eq {p q g : Nat} (hp : p < 18446744073709551616) (hq : q < 18446744073709551616) (hg : g < 18446744073709551616) :
    ∃ b, number_CheckGroup ⟨bn p, bn q, bn g⟩ = some (if b = true then 0 else 13) ∧ ref01_ValidGroup ⟨bn p, bn q, bn g⟩ = some b ∧ (b = true ↔ GrpOk p q g) := by
  obtain ⟨b1, e1, i1⟩ := prime_eq hp
  obtain ⟨b2, e2, i2⟩ := prime_eq hq
  unfold number_CheckGroup ref01_ValidGroup
  simp only
  rw [e1, bind_some, show (1048575#64) = bn 1048575 from rfl]
  have no : ∀ (h : ¬ GrpOk p q g), (false = true ↔ GrpOk p q g) := fun h => ⟨(fun e => by cases e), fun e => absurd e h⟩
  by_cases hP : p ≤ 1048575 ∧ Prm p
  · have c0 : ¬ bn 1048575 < bn p := fun h => by have := (bn_lt (by omega) hp).1 h; omega
    rw [i1.2 hP, if_neg c0]
    obtain ⟨c1, f1, j1⟩ := isPrime_eq hP.1
    rw [f1, bind_some, j1.2 hP.2]
    simp only [Bool.not_true, cond_false]
    rw [e2, bind_some]
    by_cases hQ : q ≤ 1048575 ∧ Prm q
    · have c0' : ¬ bn 1048575 < bn q := fun h => by have := (bn_lt (by omega) hq).1 h; omega
      rw [i2.2 hQ, if_neg c0']
      obtain ⟨c2, f2, j2⟩ := isPrime_eq hQ.1
      rw [f2, bind_some, j2.2 hQ.2]
      simp only [Bool.not_true, cond_false]
      have hp2 := hP.2.1
      have hq2 := hQ.2.1
      rw [show (1#64) = bn 1 from rfl, bn_sub hp (by omega), remU_bn (by omega) (by omega) hq, bind_some, bind_some]
      have hmod := Nat.mod_lt (p - 1) (show 0 < q by omega)
      unfold number_CheckGroup_J1 ref01_ValidGroup_J1
      simp only
      by_cases hz : (p - 1) % q = 0
      · rw [hz, if_neg (by simp), decide_eq_false (by simp), cond_false, show (2#64) = bn 2 from rfl]
        by_cases h2 : 2 ≤ g
        · have c3 : ¬ bn g < bn 2 := fun h => by have := (bn_lt hg (by omega)).1 h; omega
          have c4 : bn 2 ≤ bn g := (bn_le (by omega) hg).2 h2
          rw [if_neg c3, if_pos c4]
          by_cases h3 : g < p
          · have c5 : ¬ bn p ≤ bn g := fun h => by have := (bn_le hp hg).1 h; omega
            have c6 : bn g < bn p := (bn_lt hg hp).2 h3
            rw [if_neg c5, if_pos c6, power_eq hg hq (by omega) (by omega), rpower_eq hg hq (by omega) (by omega), bind_some, bind_some]
            have hpm := Nat.mod_lt (g ^ q) (show 0 < p by omega)
            have hone : bn (g ^ q % p) = bn 1 ↔ g ^ q % p = 1 := bn_inj (by omega) (by omega)
            refine ⟨decide (bn (g ^ q % p) = bn 1), ?_, rfl, ?_⟩
            · by_cases h4 : bn (g ^ q % p) = bn 1
              · rw [decide_eq_false (by simpa using h4), decide_eq_true h4]; rfl
              · rw [decide_eq_true h4, decide_eq_false h4]; rfl
            · rw [decide_eq_true_eq, hone]
              exact ⟨fun h => ⟨hP, hQ, hz, h2, h3, h⟩, fun h => h.2.2.2.2.2⟩
          · have c5 : bn p ≤ bn g := (bn_le hp hg).2 (by omega)
            have c6 : ¬ bn g < bn p := fun h => h3 ((bn_lt hg hp).1 h)
            rw [if_pos c5, if_neg c6]
            exact ⟨false, rfl, rfl, no fun h => h3 h.2.2.2.2.1⟩
        · have c3 : bn g < bn 2 := (bn_lt hg (by omega)).2 (by omega)
          have c4 : ¬ bn 2 ≤ bn g := fun h => h2 ((bn_le (by omega) hg).1 h)
          rw [if_pos c3, if_neg c4]
          exact ⟨false, rfl, rfl, no fun h => h2 h.2.2.2.1⟩
      · have hz' : bn ((p - 1) % q) ≠ 0#64 := fun h => hz ((bn_inj (b := 0) (by omega) (by omega)).1 h)
        rw [if_pos hz', decide_eq_true hz']
        exact ⟨false, rfl, rfl, no fun h => hz h.2.2.1⟩
    · have hb2 : b2 = false := by cases b2 with | false => rfl | true => exact absurd (i2.1 rfl) hQ
      rw [hb2]
      refine ⟨false, rfl, ?_, no fun h => hQ h.2.1⟩
      by_cases hg' : 1048575 < q
      · have c0' : bn 1048575 < bn q := (bn_lt (by omega) hq).2 hg'
        rw [if_pos c0']; rfl
      · have c0' : ¬ bn 1048575 < bn q := fun h => hg' ((bn_lt (by omega) hq).1 h)
        rw [if_neg c0']
        obtain ⟨c2, f2, j2⟩ := isPrime_eq (n := q) (by omega)
        have : c2 = false := by cases c2 with | false => rfl | true => exact absurd ⟨by omega, j2.1 rfl⟩ hQ
        rw [f2, bind_some, this]; rfl
  · have hb1 : b1 = false := by cases b1 with | false => rfl | true => exact absurd (i1.1 rfl) hP
    rw [hb1]
    refine ⟨false, rfl, ?_, no fun h => hP h.1⟩
    by_cases hg' : 1048575 < p
    · have c0 : bn 1048575 < bn p := (bn_lt (by omega) hp).2 hg'
      rw [if_pos c0]; rfl
    · have c0 : ¬ bn 1048575 < bn p := fun h => hg' ((bn_lt (by omega) hp).1 h)
      rw [if_neg c0]
      obtain ⟨c1, f1, j1⟩ := isPrime_eq (n := p) (by omega)
      have : c1 = false := by cases c1 with | false => rfl | true => exact absurd ⟨by omega, j1.1 rfl⟩ hP
      rw [f1, bind_some, this]; rfl
/-! schemes -/
theorem recv_fin : ∀ d : Fin 7, ref03_Receivers (d.1 : Int) = some ((2 ^ d.1 : Nat) : Int) := by decide +kernel
theorem recv_eq {d : Nat} (h : d ≤ 6) : ref03_Receivers (d : Int) = some ((2 ^ d : Nat) : Int) := recv_fin ⟨d, by omega⟩
theorem shl_fin : ∀ d : Fin 7, shlI 1 d.1 = ((2 ^ d.1 : Nat) : Int) := by decide +kernel
theorem shl1 {d : Nat} (h : d ≤ 6) : shlI 1 d = ((2 ^ d : Nat) : Int) := shl_fin ⟨d, by omega⟩
theorem shG_nat (n : Nat) : shG (n : Int) = some n := by unfold shG; rw [if_pos (by omega)]; rfl
theorem pow_le64 {d : Nat} (h : d ≤ 6) : 2 ^ d ≤ 64 := Nat.le_trans (Nat.pow_le_pow_right (by omega) h) (by decide)
theorem wd_nat (n : Nat) : wd (n : Int) = bn n := by unfold wd bn; exact BitVec.ofInt_natCast 64 n
/-- a valid scheme, in numbers -/
structure Vld (s : TScheme) (d t p q g : Nat) : Prop where
  kind : s.Kind = 4#8
  depth : s.Depth = (d : Int)
  deg : s.Degree = (t : Int)
  d6 : d ≤ 6
  t1 : 1 ≤ t
  t8 : t ≤ 8
  grp : s.Group = ⟨bn p, bn q, bn g⟩
  ok : GrpOk p q g
  big : 2 ^ d + t < q
theorem valid_eq (s : TScheme) : (poly_valid s = some false ∧ ref04_Valid s = some false) ∨ (poly_valid s = some true ∧ ref04_Valid s = some true ∧ ∃ d t p q g, Vld s d t p q g) := by
  obtain ⟨kd, dp, dg, ⟨P, Q, G⟩⟩ := s
  obtain ⟨p, hp, rfl⟩ := bn_of P
  obtain ⟨q, hq, rfl⟩ := bn_of Q
  obtain ⟨g, hg, rfl⟩ := bn_of G
  unfold poly_valid ref04_Valid ref04_Valid_J1
  simp only
  by_cases h1 : kd = 4#8
  · rw [if_pos h1, if_neg (show ¬ kd ≠ 4#8 from fun h => h h1)]
    by_cases h2 : 0 ≤ dp
    · rw [if_pos h2, if_neg (show ¬ dp < 0 by omega)]
      by_cases h3 : dp ≤ 6
      · rw [if_pos h3, if_neg (show ¬ 6 < dp by omega)]
        by_cases h4 : 1 ≤ dg
        · rw [if_pos h4, if_neg (show ¬ dg < 1 by omega)]
          by_cases h5 : dg ≤ 8
          · rw [if_pos h5, if_neg (show ¬ 8 < dg by omega)]
            obtain ⟨b, e1, e2, i⟩ := group_eq hp hq hg
            rw [e1, e2, bind_some, bind_some]
            cases b with
            | false => exact .inl ⟨rfl, rfl⟩
            | true =>
              obtain ⟨d, rfl⟩ : ∃ d : Nat, dp = (d : Int) := ⟨dp.toNat, by omega⟩
              obtain ⟨t, rfl⟩ : ∃ t : Nat, dg = (t : Int) := ⟨dg.toNat, by omega⟩
              have h64 := pow_le64 (d := d) (by omega)
              have hpp := Nat.two_pow_pos d
              simp only [Bool.not_true, cond_false, if_true]
              rw [shG_nat, bind_some, recv_eq (by omega), bind_some, shl1 (by omega), w64_id (by omega) (by omega), show ((2 ^ d : Nat) : Int) + (t : Int) = ((2 ^ d + t : Nat) : Int) from by omega, wd_nat]
              by_cases hlt : 2 ^ d + t < q
              · rw [decide_eq_true ((bn_lt (by omega) hq).2 hlt)]
                exact .inr ⟨rfl, rfl, d, t, p, q, g, ⟨h1, rfl, rfl, by omega, by omega, by omega, rfl, i.1 rfl, hlt⟩⟩
              · rw [decide_eq_false (fun h => hlt ((bn_lt (by omega) hq).1 h))]; exact .inl ⟨rfl, rfl⟩
          · rw [if_neg h5, if_pos (show 8 < dg by omega)]; exact .inl ⟨rfl, rfl⟩
        · rw [if_neg h4, if_pos (show dg < 1 by omega)]; exact .inl ⟨rfl, rfl⟩
      · rw [if_neg h3, if_pos (show 6 < dp by omega)]; exact .inl ⟨rfl, rfl⟩
    · rw [if_neg h2, if_pos (show dp < 0 by omega)]; exact .inl ⟨rfl, rfl⟩
  · rw [if_neg h1, if_pos (show kd ≠ 4#8 from h1)]; exact .inl ⟨rfl, rfl⟩
theorem Vld.qb {s : TScheme} {d t p q g : Nat} (h : Vld s d t p q g) : 2 ≤ q ∧ q ≤ 1048575 := ⟨h.ok.2.1.2.1, h.ok.2.1.1⟩
theorem Vld.pb {s : TScheme} {d t p q g : Nat} (h : Vld s d t p q g) : 2 ≤ p ∧ p ≤ 1048575 := ⟨h.ok.1.2.1, h.ok.1.1⟩
/-! coefficients -/
def cfN (root : W2) (q i : Nat) : Nat := (drv (drv root (un8 40#8) 0#64) (un8 3#8) (bn i)).1.toNat % q
def cfs (root : W2) (q t : Nat) : List Nat := (List.range (t + 1)).map (cfN root q)
theorem cfs_lt {root : W2} {q t : Nat} (hq : 0 < q) : ∀ c ∈ cfs root q t, c < q := by
  intro c hc
  obtain ⟨i, _, rfl⟩ := List.mem_map.1 hc
  exact Nat.mod_lt _ hq
theorem mod_bn (x : BitVec 64) {q : Nat} (hq : 0 < q) (hq2 : q < 18446744073709551616) : x % bn q = bn (x.toNat % q) := by
  apply BitVec.eq_of_toNat_eq
  have := Nat.mod_lt x.toNat hq
  rw [BitVec.toNat_umod, bn_nat hq2, bn_nat (by omega)]
theorem bn_ne0 {q : Nat} (hq : 0 < q) (hq2 : q < 18446744073709551616) : bn q ≠ 0#64 := fun h => by have := (bn_inj (b := 0) hq2 (by omega)).1 h; omega
theorem secret_eq {s : TScheme} {d t p q g : Nat} (h : Vld s d t p q g) (root : W2) : poly_secret root s = some ((cfs root q t).map bn) := by
  obtain ⟨q1, q2⟩ := h.qb
  have ht := h.t8
  unfold poly_secret
  rw [h.deg, w64_id (by omega) (by omega), show (t : Int) + 1 = ((t + 1 : Nat) : Int) from by omega, mkL, if_pos (by omega), bind_some, Int.toNat_natCast]
  refine fix_go _ (fun j x => x = ((List.range (t + 1)).map (fun i => if i < j then bn (cfN root q i) else 0#64), (j : Int))) (t + 1) _ (by omega) ?_ ?_ ?_
  · congr 1
    apply List.ext_getElem
    · simp
    · intro i _ _; simp
  · rintro j _ hj rfl
    refine ⟨_, rfl, fun rec => ?_⟩
    simp only [poly_secret_L1]
    have hjl : j < ((List.range (t + 1)).map (fun i => if i < j then bn (cfN root q i) else 0#64)).length := by simpa using hj
    rw [if_pos (by simp; omega), h.grp, wd_nat]
    simp only
    rw [number_eq _ _ _ (bn_ne0 (by omega) (by omega)), bind_some, getI_some hjl, bind_some, Int.toNat_natCast, w64_nat (by omega), mod_bn _ (by omega) (by omega)]
    congr 2
    apply List.ext_getElem
    · simp
    · intro i h1 h2
      rw [List.getElem_set]
      simp only [List.getElem_map, List.getElem_range]
      by_cases e : j = i
      · subst e; rw [if_pos rfl, if_pos (by omega)]; rfl
      · rw [if_neg e]
        by_cases e2 : i < j
        · rw [if_pos e2, if_pos (by omega)]
        · rw [if_neg e2, if_neg (by omega)]
  · rintro _ rfl rec
    simp only [poly_secret_L1]
    rw [if_neg (by simp)]
    congr 1
    unfold cfs
    rw [List.map_map]
    apply List.map_congr_left
    intro i hi
    rw [if_pos (List.mem_range.1 hi)]; rfl
theorem rsecret_eq {s : TScheme} {d t p q g : Nat} (h : Vld s d t p q g) (root : W2) : ref04_CoefficientsOf root s = some ((cfs root q t).map bn) := by
  obtain ⟨q1, q2⟩ := h.qb
  have ht := h.t8
  unfold ref04_CoefficientsOf
  refine fix_go _ (fun j x => x = ((List.range j).map (fun i => bn (cfN root q i)), (j : Int))) (t + 1) _ (by omega) (by simp) ?_ ?_
  · rintro j _ hj rfl
    refine ⟨_, rfl, fun rec => ?_⟩
    simp only [ref04_CoefficientsOf_L1]
    rw [h.deg, if_pos (by omega), h.grp, wd_nat]
    simp only
    rw [rnumber_eq _ _ _ (bn_ne0 (by omega) (by omega)), bind_some, appG_some (by simp; omega), bind_some, w64_nat (by omega), mod_bn _ (by omega) (by omega), List.range_succ, List.map_append]; rfl
  · rintro _ rfl rec
    simp only [ref04_CoefficientsOf_L1]
    rw [h.deg, if_neg (by omega)]
    unfold cfs
    rw [List.map_map]; rfl
/-! values -/
def evN (l : List Nat) (x : Nat) : Nat := l.foldr (fun c a => c + x * a) 0
theorem evN_snoc (x : Nat) : ∀ (l : List Nat) (c : Nat), evN (l ++ [c]) x = evN l x + c * x ^ l.length
  | [], c => by simp [evN]
  | a :: l, c => by
    have := evN_snoc x l c
    simp only [evN] at this ⊢
    rw [List.cons_append, List.foldr_cons, List.foldr_cons, this, List.length_cons, Nat.pow_succ, Nat.mul_add, Nat.add_assoc]
    congr 2
    rw [Nat.mul_left_comm, Nat.mul_comm x]
theorem mul2_eq {q a b : Nat} (hq : 2 ≤ q) (hq2 : q ≤ 1048575) (ha : a < q) (hb : b < q) : poly_field_mul (bn q) [bn a, bn b] = some (bn (a * b % q)) := by
  unfold poly_field_mul
  have hab : a * b < 18446744073709551616 := Nat.lt_of_le_of_lt (Nat.mul_le_mul (Nat.le_of_lt ha) (Nat.le_of_lt hb)) (by have := Nat.mul_le_mul hq2 hq2; omega)
  rw [show FUEL = 18446744073709551613 + 1 + 1 + 1 from rfl, fix_step]
  simp only [poly_field_mul_L1]
  rw [if_pos (by simp), show getI [bn a, bn b] 0 = some (bn a) from rfl, bind_some, show (1#64) = bn 1 from rfl, bn_mul, Nat.one_mul, remU_bn (by omega) (by omega) (by omega), bind_some, Nat.mod_eq_of_lt ha, show w64 (0 + 1) = 1 from by decide, fix_step]
  simp only [poly_field_mul_L1]
  rw [if_pos (by simp), show getI [bn a, bn b] 1 = some (bn b) from rfl, bind_some, bn_mul, remU_bn hab (by omega) (by omega), bind_some, show w64 (1 + 1) = 2 from by decide, fix_step]
  simp only [poly_field_mul_L1]
  rw [if_neg (by simp)]
theorem back_loop (l : List (BitVec 64)) (hl : l.length < 4611686018427387904) : ∀ (k f : Nat), k ≤ l.length → k < f → fixN (slices_Backward_1_20b1_L1 l) f ((k : Int) - 1) = some ((List.range k).reverse.map fun i : Nat => ((i : Int), l.getD i 0#64))
  | k, 0, _, h => by omega
  | 0, f + 1, _, _ => by
    rw [fix_step]; simp only [slices_Backward_1_20b1_L1]; rw [if_neg (by omega)]; rfl
  | k + 1, f + 1, hk, hf => by
    rw [fix_step]; simp only [slices_Backward_1_20b1_L1]
    rw [show ((k + 1 : Nat) : Int) - 1 = (k : Int) from by omega, if_pos (by omega), getI_some (by omega), bind_some, w64_id (by omega) (by omega), back_loop l hl k f (by omega) (by omega), yl_some', List.range_succ, List.reverse_append, List.map_append]
    have hkk : k < l.length := by omega
    simp [hkk]
theorem at_loop {q x : Nat} (hq : 2 ≤ q) (hq2 : q ≤ 1048575) (hx : x < q) (l : List Nat) (hl : ∀ c ∈ l, c < q) : ∀ (k : Nat), k ≤ l.length → itL (poly_polynomial_at_R1 (bn q) (bn x)) poly_polynomial_at_D1 ((List.range k).reverse.map fun i : Nat => ((i : Int), (l.map bn).getD i 0#64)) (bn (evN (l.drop k) x % q)) = some (bn (evN l x % q))
  | 0, _ => by rw [List.drop_zero]; rfl
  | k + 1, hk => by
    have hkl : k < l.length := by omega
    rw [List.range_succ, List.reverse_append, List.map_append, show ([k].reverse.map fun i : Nat => ((i : Int), (l.map bn).getD i 0#64)) = [((k : Int), bn l[k])] from by simp [List.getD, hkl], List.singleton_append, itL_cons]
    simp only [poly_polynomial_at_R1]
    have hc := hl _ (List.getElem_mem hkl)
    have hm := Nat.mod_lt (evN (l.drop (k + 1)) x) (show 0 < q by omega)
    have hm2 := Nat.mod_lt (evN (l.drop (k + 1)) x % q * x) (show 0 < q by omega)
    rw [mul2_eq hq hq2 hm hx, bind_some, bn_add, remU_bn (by omega) (by omega) (by omega), bind_some]
    have he : (evN (l.drop (k + 1)) x % q * x % q + l[k]) % q = evN (l.drop k) x % q := by
      rw [List.drop_eq_getElem_cons hkl, show evN (l[k] :: l.drop (k + 1)) x = l[k] + x * evN (l.drop (k + 1)) x from rfl, Nat.mod_mul_mod, Nat.mod_add_mod, Nat.add_comm, Nat.mul_comm]
    rw [he]
    exact at_loop hq hq2 hx l hl k (by omega)
theorem at_eq {q x : Nat} (hq : 2 ≤ q) (hq2 : q ≤ 1048575) (hx : x < q) (l : List Nat) (hl : ∀ c ∈ l, c < q) (hlen : l.length < 4611686018427387904) : poly_polynomial_at (l.map bn) (bn q) (bn x) = some (bn (evN l x % q)) := by
  unfold poly_polynomial_at slices_Backward_dc0b slices_Backward_1_20b1
  rw [bind_some, w64_id (by rw [List.length_map]; omega) (by rw [List.length_map]; omega), back_loop _ (by rw [List.length_map]; exact hlen) _ FUEL (Nat.le_refl _) (fuel_lt (by rw [List.length_map]; omega)), bind_some, List.length_map]
  have := at_loop hq hq2 hx l hl l.length (Nat.le_refl _)
  rw [List.drop_length, show evN [] x % q = 0 from by simp [evN]] at this
  exact this
theorem value_of_eq {q x : Nat} (hq : 2 ≤ q) (hq2 : q ≤ 1048575) (hx : x < q) (l : List Nat) (hl : ∀ c ∈ l, c < q) (hlen : l.length < 4611686018427387904) : ref04_ValueOf (bn q) (l.map bn) (bn x) = some (bn (evN l x % q)) := by
  unfold ref04_ValueOf
  refine fix_go _ (fun j s => s = (bn (evN (l.take j) x % q), bn (x ^ j % q), (j : Int))) l.length _ (by omega) ?_ ?_ ?_
  · rw [List.take_zero, Nat.pow_zero, Nat.mod_eq_of_lt (show 1 < q by omega), show evN [] x % q = 0 from by simp [evN]]; rfl
  · rintro j _ hj rfl
    refine ⟨_, rfl, fun rec => ?_⟩
    have hc := hl _ (List.getElem_mem hj)
    have hm := Nat.mod_lt (evN (l.take j) x) (show 0 < q by omega)
    have hm2 := Nat.mod_lt (x ^ j) (show 0 < q by omega)
    have hp1 : l[j] * (x ^ j % q) ≤ 1048575 * 1048575 := Nat.mul_le_mul (by omega) (by omega)
    have hp2 : x ^ j % q * x ≤ 1048575 * 1048575 := Nat.mul_le_mul (by omega) (by omega)
    simp only [ref04_ValueOf_L1]
    rw [if_pos (by simp; omega), getI_some (by simpa using hj), bind_some, List.getElem_map, bn_mul, bn_add, remU_bn (by omega) (by omega) (by omega), bind_some, bn_mul, remU_bn (by omega) (by omega) (by omega), bind_some, w64_nat (by omega), take_snoc l j hj, evN_snoc, List.length_take, Nat.min_eq_left (by omega)]
    congr 2
    · rw [Nat.mod_add_mod, Nat.add_mod, Nat.mul_mod_mod, ← Nat.add_mod]
    · rw [Nat.mod_mul_mod, Nat.pow_succ]
  · rintro _ rfl rec
    simp only [ref04_ValueOf_L1]
    rw [if_neg (by simp), List.take_length]
end Go.Sx.Po

end
section
/- Keys of the epoch layer, plainly: schemes and secrets alike on both sides. -/
set_option linter.unusedVariables false
set_option linter.unusedSimpArgs false
set_option maxRecDepth 100000
noncomputable section
namespace Go.Sx.Ep
open Go Go.Sx
theorem ccheck_eq (s : TScheme) : cover_Check s = some (if vldB s then 0 else 30) ∧ ref03_Check s = some (if vldB s then 0 else 30) := by
  unfold cover_Check ref03_Check
  constructor
  · rw [treeOf_eq, bind_some]
    cases hv : vldB s <;> rfl
  · rw [Go.Sx.valid_eq, bind_some]
    cases hv : vldB s <;> rfl
theorem pcheck_eq (s : TScheme) : ∃ r, poly_Check s = some r ∧ ref04_Check s = some r := by
  unfold poly_Check ref04_Check
  rcases Po.valid_eq s with ⟨e1, e2⟩ | ⟨e1, e2, _⟩
  · rw [e1, e2]; exact ⟨_, rfl, rfl⟩
  · rw [e1, e2]; exact ⟨_, rfl, rfl⟩
/-- which kind of scheme -/
theorem kinds (k : BitVec 8) : (k < 1#8 ∨ (5 : Int) ≤ un8 k) ∨ ((un8 k = 1 ∨ un8 k = 2 ∨ un8 k = 3) ∧ 1#8 ≤ k ∧ k ≤ 3#8 ∧ k ≠ 4#8 ∧ ¬ k < 1#8 ∧ ¬ (5 : Int) ≤ un8 k) ∨ (k = 4#8 ∧ un8 k = 4 ∧ ¬ (un8 k = 1 ∨ un8 k = 2 ∨ un8 k = 3)) := by
  unfold un8
  have h4 : k = 4#8 ↔ k.toNat = 4 := ⟨fun h => by rw [h]; rfl, fun h => BitVec.eq_of_toNat_eq h⟩
  rw [BitVec.lt_def, BitVec.le_def, BitVec.le_def, ne_eq, h4]
  have e1 : (1#8).toNat = 1 := rfl
  have e3 : (3#8).toNat = 3 := rfl
  rw [e1, e3]; omega
theorem ks_eq (s : TScheme) : ∃ r, epoch_CheckScheme s = some r ∧ ref05_CheckScheme s = some r ∧ ((s.Kind < 1#8 ∨ (5 : Int) ≤ un8 s.Kind) ∧ r = 2 ∨ ((un8 s.Kind = 1 ∨ un8 s.Kind = 2 ∨ un8 s.Kind = 3) ∧ cover_Check s = some r ∧ s.Kind ≠ 4#8) ∨ (s.Kind = 4#8 ∧ poly_Check s = some r)) := by
  unfold epoch_CheckScheme ref05_CheckScheme
  rcases kinds s.Kind with h | ⟨h1, h2, h3, h4, h5, h6⟩ | ⟨h1, h2, h3⟩
  · refine ⟨2, ?_, ?_, .inl ⟨h, rfl⟩⟩
    · rcases h with h | h
      · rw [if_pos h]; rfl
      · by_cases h0 : s.Kind < 1#8
        · rw [if_pos h0]; rfl
        · rw [if_neg h0, decide_eq_true h]; rfl
    · have hk : ¬ (1#8 ≤ s.Kind ∧ s.Kind ≤ 3#8) ∧ s.Kind ≠ 4#8 := by
        have h4 : s.Kind = 4#8 ↔ s.Kind.toNat = 4 := ⟨fun h => by rw [h]; rfl, fun h => BitVec.eq_of_toNat_eq h⟩
        unfold un8 at h
        rw [BitVec.lt_def] at h
        rw [BitVec.le_def, BitVec.le_def, ne_eq, h4]
        have e1 : (1#8).toNat = 1 := rfl
        have e3 : (3#8).toNat = 3 := rfl
        rw [e1] at h; rw [e1, e3]; omega
      have hj : ref05_CheckScheme_J1 s false = some 2 := by unfold ref05_CheckScheme_J1; rw [cond_false, if_neg hk.2]
      by_cases h1 : 1#8 ≤ s.Kind
      · rw [if_pos h1, decide_eq_false (fun h => hk.1 ⟨h1, h⟩), hj]
      · rw [if_neg h1, hj]
  · rw [if_neg h5, if_pos h2, decide_eq_false h6, decide_eq_true h3]
    unfold epoch_CheckScheme_J1 ref05_CheckScheme_J1
    rw [cond_false, cond_true, if_pos h1, (ccheck_eq s).1, (ccheck_eq s).2]
    exact ⟨_, rfl, rfl, .inr (.inl ⟨h1, rfl, h4⟩)⟩
  · obtain ⟨r, e1, e2⟩ := pcheck_eq s
    have a1 : ¬ s.Kind < 1#8 := by rw [h1]; decide
    have a2 : 1#8 ≤ s.Kind := by rw [h1]; decide
    have a3 : ¬ s.Kind ≤ 3#8 := by rw [h1]; decide
    have a4 : ¬ (5 : Int) ≤ un8 s.Kind := by rw [h1]; decide
    unfold epoch_CheckScheme_J1 ref05_CheckScheme_J1
    rw [if_neg a1, if_pos a2, decide_eq_false a4, decide_eq_false a3, cond_false, cond_false, if_neg h3, if_pos h2, if_pos h1, e1, e2]
    exact ⟨_, rfl, rfl, .inr (.inr ⟨h1, rfl⟩)⟩
theorem goE' {τ R : Type} (F : (τ → Option R) → τ → Option R) (I : Nat → τ → Prop) (n : Nat) (r : Option R) (hn : n < 9223372036854775808) {s : τ} (h0 : I 0 s) (hs : ∀ j s, j < n → I j s → ∃ s', I (j + 1) s' ∧ ∀ rec, F rec s = rec s') (he : ∀ s, I n s → ∀ rec, F rec s = r) : fixN F FUEL s = r :=
  fix_run F I n r hs he n 0 FUEL s (by omega) (fuel_lt hn) h0
theorem sameC5 (p : TSecret) (hl : p.Labels.length < 4611686018427387904) : ref05_SameSecret p p = some true := by
  unfold ref05_SameSecret ref05_SameSecret_J1
  rw [if_neg (by simp), if_neg (by simp), decide_eq_false (by simp), cond_false]
  refine goE' _ (fun j x => x = (j : Int)) p.Labels.length _ (by omega) rfl ?_ ?_
  · rintro j _ hj rfl
    refine ⟨_, rfl, fun rec => ?_⟩
    simp only [ref05_SameSecret_L2]
    rw [if_pos (by omega), getI_some hj, bind_some, bind_some, if_neg (by simp), w64_nat (by omega)]
  · rintro _ rfl rec
    simp only [ref05_SameSecret_L2]
    rw [if_neg (by omega)]
theorem psecret_eq (root : W2) (s : TScheme) (u : Int) : ∃ r, poly_Secret root s u = some r ∧ ref04_Secret root s u = some r ∧ r.1.Labels = [] := by
  unfold poly_Secret ref04_Secret
  rcases Po.valid_eq s with ⟨e1, e2⟩ | ⟨e1, e2, d, t, p, q, g, h⟩
  · rw [e1, e2]; exact ⟨_, rfl, rfl, rfl⟩
  · have h64 := Po.pow_le64 h.d6
    obtain ⟨q1, q2⟩ := h.qb
    rw [e1, e2, bind_some, bind_some]
    simp only [Bool.not_true, cond_false]
    unfold poly_Secret_J1 ref04_Secret_J1
    by_cases hn : u < 0
    · rw [if_pos hn, if_pos hn]; exact ⟨_, rfl, rfl, rfl⟩
    · rw [if_neg hn, if_neg hn, h.depth, Po.shG_nat, bind_some, Po.recv_eq h.d6, bind_some, Po.shl1 h.d6]
      by_cases hg : ((2 ^ d : Nat) : Int) ≤ u
      · rw [decide_eq_true hg]; exact ⟨_, rfl, rfl, rfl⟩
      · rw [decide_eq_false hg, cond_false, cond_false]
        obtain ⟨n, rfl⟩ : ∃ n : Nat, u = (n : Int) := ⟨u.toNat, by omega⟩
        unfold ref04_SecretOf
        have hb := h.big
        have hcl : (Po.cfs root q t).length = t + 1 := by simp [Po.cfs]
        have ht := h.t8
        rw [Po.secret_eq h, Po.rsecret_eq h, bind_some, bind_some, h.grp, Po.wd_nat, show (1#64) = Po.bn 1 from rfl, Po.bn_add]
        simp only
        rw [Po.at_eq q1 q2 (by omega) _ (Po.cfs_lt (by omega)) (by omega), Po.value_of_eq q1 q2 (by omega) _ (Po.cfs_lt (by omega)) (by omega), bind_some, bind_some]
        exact ⟨_, rfl, rfl, rfl⟩
theorem se_eq (root : W2) (s : TScheme) (u : Int) : ∃ r, epoch_Secret root s u = some r ∧ ref05_Secret root s u = some r ∧ r.1.Labels.length ≤ 100 := by
  obtain ⟨e, h1, h2, h3⟩ := ks_eq s
  unfold ref05_Secret
  rw [h2, bind_some]
  unfold epoch_CheckScheme at h1
  unfold epoch_Secret
  have hz : (⟨0, [], ⟨0#64, 0#64⟩⟩ : TSecret).Labels.length ≤ 100 := by simp
  have key : ∀ b, epoch_CheckScheme_J1 s b = some e → ∃ r, epoch_Secret_J1 root s u b = some r ∧ (if e ≠ 0 then some (⟨0, [], ⟨0#64, 0#64⟩⟩, e) else if s.Kind = 4#8 then Option.bind (ref04_Secret root s u) fun x2 => some (x2.1, x2.2) else Option.bind (ref03_Secret root s u) fun x3 => some (x3.1, x3.2)) = some r ∧ r.1.Labels.length ≤ 100 := fun b hb => by
    unfold epoch_CheckScheme_J1 at hb
    unfold epoch_Secret_J1
    cases b with
    | true =>
      rw [cond_true] at hb ⊢
      have : e = 2 := (Option.some.inj hb).symm
      subst this
      exact ⟨_, rfl, if_pos (by decide), hz⟩
    | false =>
      rw [cond_false] at hb ⊢
      by_cases k1 : un8 s.Kind = 1 ∨ un8 s.Kind = 2 ∨ un8 s.Kind = 3
      · rw [if_pos k1] at hb ⊢
        have k4 : s.Kind ≠ 4#8 := fun h => by rw [h] at k1; revert k1; decide
        obtain ⟨c1, c2⟩ := ccheck_eq s
        rw [c1, bind_some] at hb ⊢
        have he := Option.some.inj hb
        rw [he]
        by_cases h0 : e ≠ 0
        · rw [if_pos h0, if_pos h0]; exact ⟨_, rfl, rfl, hz⟩
        · obtain ⟨q1, q2, q3⟩ := Secret_eq root s u
          rw [if_neg h0, if_neg h0, if_neg k4, q1, q2]; exact ⟨_, rfl, rfl, q3⟩
      · rw [if_neg k1] at hb ⊢
        by_cases k4 : un8 s.Kind = 4
        · rw [if_pos k4] at hb ⊢
          have k4' : s.Kind = 4#8 := un8_inj (by rw [k4]; rfl)
          obtain ⟨r, c1, c2⟩ := pcheck_eq s
          rw [c1, bind_some] at hb ⊢
          have he := Option.some.inj hb
          rw [he]
          by_cases h0 : e ≠ 0
          · rw [if_pos h0, if_pos h0]; exact ⟨_, rfl, rfl, hz⟩
          · obtain ⟨q, q1, q2, q3⟩ := psecret_eq root s u
            rw [if_neg h0, if_neg h0, if_pos k4', q1, q2]; exact ⟨_, rfl, rfl, by rw [q3]; simp⟩
        · rw [if_neg k4] at hb; cases hb
  by_cases h0 : s.Kind < 1#8
  · rw [if_pos h0] at h1 ⊢; exact key _ h1
  · rw [if_neg h0] at h1 ⊢; exact key _ h1
end Go.Sx.Ep

end
section
/- EpochKeys, plainly. -/
set_option linter.unusedVariables false
set_option linter.unusedSimpArgs false
set_option maxRecDepth 100000
namespace Go.Sx
open Go Go.Sx.Ep
theorem law05_EpochKeys_ok (root : W2) (s : TScheme) (n u : Int) (hs : s.ok) (hn : I64 n) (hu : I64 u) : law05_EpochKeys root s n u = some true := by
  obtain ⟨r, e1, e2, e3⟩ := se_eq root s u
  obtain ⟨k, c1, c2, _⟩ := ks_eq s
  unfold law05_EpochKeys
  rw [e1, e2, c1, c2, bind_some, bind_some]
  unfold epoch_Session ref05_Session epoch_Word ref05_Word
  rw [bind_some, bind_some, if_pos rfl, bind_some, bind_some, if_pos rfl, bind_some, bind_some, if_pos rfl, sameC5 _ (by omega), bind_some, cond_true, decide_eq_true rfl]
end Go.Sx

end
