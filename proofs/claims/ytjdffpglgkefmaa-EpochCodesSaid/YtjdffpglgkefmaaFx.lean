/- Loops over lists, plainly: from fixN to itL, and what itL comes to. -/
import Derived.Test.YtjdffpglgkefmaaPl
set_option linter.unusedVariables false
set_option linter.unusedSimpArgs false
namespace Go.Sx
open Go

theorem fix_from {α σ τ R : Type} (l : List α) (F : (τ → Option R) → τ → Option R) (pk : Nat → σ → τ) (B : α → (σ → Option R) → σ → Option R) (D : σ → Option R)
    (h1 : ∀ rec (j : Nat) (hj : j < l.length) s, F rec (pk j s) = B l[j] (fun s' => rec (pk (j + 1) s')) s) (h2 : ∀ rec s, F rec (pk l.length s) = D s) :
    ∀ (m j f : Nat) (s : σ), j + m = l.length → m < f → fixN F f (pk j s) = itL B D (l.drop j) s
  | m, j, 0, s, _, h => by omega
  | 0, j, f + 1, s, hj, _ => by
    have : j = l.length := by omega
    subst this
    rw [fix_step, h2, List.drop_length]; rfl
  | m + 1, j, f + 1, s, hj, hf => by
    have hjl : j < l.length := by omega
    rw [fix_step, h1 _ j hjl, List.drop_eq_getElem_cons hjl, itL_cons]
    have : (fun s' => fixN F f (pk (j + 1) s')) = itL B D (l.drop (j + 1)) := funext fun s' => fix_from l F pk B D h1 h2 m (j + 1) f s' (by omega) (by omega)
    rw [this]
/-- a loop over the indexes of a list -/
theorem fix_itL {α σ τ R : Type} (l : List α) (F : (τ → Option R) → τ → Option R) (pk : Nat → σ → τ) (B : α → (σ → Option R) → σ → Option R) (D : σ → Option R)
    (h1 : ∀ rec (j : Nat) (hj : j < l.length) s, F rec (pk j s) = B l[j] (fun s' => rec (pk (j + 1) s')) s) (h2 : ∀ rec s, F rec (pk l.length s) = D s) {f : Nat} (hf : l.length < f) (s : σ) : fixN F f (pk 0 s) = itL B D l s := by
  have := fix_from l F pk B D h1 h2 l.length 0 f s (by omega) hf
  rwa [List.drop_zero] at this
/-- a loop over numbers below n -/
theorem fix_range {σ τ R : Type} (n : Nat) (F : (τ → Option R) → τ → Option R) (pk : Nat → σ → τ) (B : Nat → (σ → Option R) → σ → Option R) (D : σ → Option R)
    (h1 : ∀ rec (j : Nat) (hj : j < n) s, F rec (pk j s) = B j (fun s' => rec (pk (j + 1) s')) s) (h2 : ∀ rec s, F rec (pk n s) = D s) {f : Nat} (hf : n < f) (s : σ) : fixN F f (pk 0 s) = itL B D (List.range n) s :=
  fix_itL (List.range n) F pk B D (fun rec j hj s => by rw [List.length_range] at hj; rw [h1 rec j hj, List.getElem_range]) (fun rec s => by rw [List.length_range]; exact h2 rec s) (by rw [List.length_range]; exact hf) s
theorem itL_congr {α σ R : Type} {F G : α → (σ → Option R) → σ → Option R} {d e : σ → Option R} : ∀ {l : List α}, (∀ a ∈ l, ∀ nx s, F a nx s = G a nx s) → (∀ s, d s = e s) → ∀ s, itL F d l s = itL G e l s
  | [], _, hd, s => hd s
  | a :: l, h, hd, s => by
    rw [itL_cons, itL_cons, h a (by simp)]
    have : itL F d l = itL G e l := funext fun s => itL_congr (fun b hb => h b (by simp [hb])) hd s
    rw [this]
theorem itL_append {α σ R : Type} (F : α → (σ → Option R) → σ → Option R) (d : σ → Option R) (l m : List α) : itL F d (l ++ m) = itL F (itL F d m) l := by unfold itL; rw [List.foldr_append]
theorem itL_map {α β σ R : Type} (F : β → (σ → Option R) → σ → Option R) (d : σ → Option R) (g : α → β) (l : List α) : itL F d (l.map g) = itL (fun a => F (g a)) d l := by unfold itL; rw [List.foldr_map]
/-- a state that turns, with no way out -/
theorem itL_fold {α σ R : Type} (g : σ → α → σ) (F : α → (σ → Option R) → σ → Option R) (d : σ → Option R) (I : Nat → σ → Prop) : ∀ (l : List α) (k : Nat) (s : σ), (∀ j (a : α) s nx, a ∈ l → I j s → F a nx s = nx (g s a)) → (∀ j (a : α) s, a ∈ l → I j s → I (j + 1) (g s a)) → I k s → itL F d l s = d (l.foldl g s)
  | [], k, s, _, _, _ => rfl
  | a :: l, k, s, h, hi, hs => by
    rw [itL_cons, h k a s _ (by simp) hs, List.foldl_cons]
    exact itL_fold g F d I l (k + 1) (g s a) (fun j b s nx hb => h j b s nx (by simp [hb])) (fun j b s hb => hi j b s (by simp [hb])) (hi k a s (by simp) hs)
/-- elements put behind one another, where a condition holds -/
theorem itL_app {α β R : Type} (b n : Nat) (p : α → Bool) (f : α → β) (F : α → (List β → Option R) → List β → Option R) (d : List β → Option R) : ∀ (l : List α) (s : List β), (∀ a ∈ l, ∀ nx s, F a nx s = bif p a then Option.bind (appG b s [f a]) nx else nx s) → (s.length + l.length) * b ≤ 140737488355328 → itL F d l s = d (s ++ (l.filter p).map f)
  | [], s, _, _ => by simp [itL_nil]
  | a :: l, s, h, hb => by
    have hlen : (s.length + (a :: l).length) * b = (s.length + 1 + l.length) * b := by congr 1; simp; omega
    rw [itL_cons, h a (by simp), List.filter_cons]
    cases hp : p a with
    | true =>
      have h2 : (s.length + 1) * b ≤ (s.length + 1 + l.length) * b := Nat.mul_le_mul_right _ (by omega)
      rw [cond_true, appG_some (by simp; omega), bind_some, itL_app b n p f F d l (s ++ [f a]) (fun x hx => h x (by simp [hx])) (by simp; omega)]
      simp
    | false =>
      have h2 : (s.length + l.length) * b ≤ (s.length + 1 + l.length) * b := Nat.mul_le_mul_right _ (by omega)
      rw [cond_false, itL_app b n p f F d l s (fun x hx => h x (by simp [hx])) (by omega)]
      simp
/-- the first element with a property -/
theorem itL_find {α σ R : Type} (p : α → Bool) (X : α → σ → Option R) (F : α → (σ → Option R) → σ → Option R) (d : σ → Option R) : ∀ (l : List α) (s : σ), (∀ a ∈ l, ∀ nx s, F a nx s = bif p a then X a s else nx s) → itL F d l s = match l.find? p with | some a => X a s | none => d s
  | [], s, _ => rfl
  | a :: l, s, h => by
    rw [itL_cons, h a (by simp), List.find?_cons]
    cases hp : p a with
    | true => rfl
    | false => rw [cond_false]; exact itL_find p X F d l s (fun x hx => h x (by simp [hx]))
theorem yl_some' {α : Type} (x : α) (l : List α) : yl x (some l) = some (x :: l) := rfl
theorem w64_nat {n : Nat} (h : n < 9223372036854775807) : w64 ((n : Int) + 1) = ((n + 1 : Nat) : Int) := by rw [w64_id (by omega) (by omega)]; omega
end Go.Sx
