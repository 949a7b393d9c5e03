/- MX: loops over iterators, and iterators. -/
import Derived.Test.YtjdffpglgkefmaaGreatMirC
set_option linter.unusedVariables false
set_option linter.unusedSimpArgs false
namespace Go.Sx
open Go Go.RowKit

/-- a loop over a list: F: a round (the element, what follows, the state); d: what comes behind -/
def itL {α σ R : Type} (F : α → (σ → Option R) → σ → Option R) (d : σ → Option R) (l : List α) : σ → Option R := l.foldr F d
theorem itL_nil {α σ R : Type} (F : α → (σ → Option R) → σ → Option R) (d : σ → Option R) : itL F d [] = d := rfl
theorem itL_cons {α σ R : Type} (F : α → (σ → Option R) → σ → Option R) (d : σ → Option R) (a : α) (l : List α) : itL F d (a :: l) = F a (itL F d l) := rfl
theorem itL_at {α σ R : Type} {F : α → (σ → Option R) → σ → Option R} {d : σ → Option R} {l : List α} {k : Nat} {s : σ} {r : R} {a : α} (h : itL F d (l.drop k) s = some r) (ha : l[k]? = some a) : F a (itL F d (l.drop (k + 1))) s = some r := by
  obtain ⟨hk, rfl⟩ := List.getElem?_eq_some_iff.1 ha
  rw [List.drop_eq_getElem_cons hk, itL_cons] at h; exact h
theorem itL_end {α β σ R : Type} {F : α → (σ → Option R) → σ → Option R} {d : σ → Option R} {l : List α} {c : α → β} {s : σ} {r : R} (h : itL F d (l.drop (l.map c).length) s = some r) : d s = some r := by
  rw [List.length_map, List.drop_length] at h; exact h
theorem Own.z1 {w : World} {z g sz : Nat} {e : TypeId} {v : Value} {α : Type} {l : List α} {c : α → List Value} {i : Int} {a : α} (h : Own w z g e sz v (l.map c)) (hg : getI l i = some a) : z = 1 := by
  rcases h.2 with ⟨_, _, h0⟩ | ⟨h1, _⟩
  · have : l = [] := by simpa using h0
    subst this; have := getI_lt hg; have := getI_nn hg; simp at *; omega
  · exact h1
theorem kz_of_kp {l : List (Nat × Nat)} {ms : List Nat} {w w' : World} (h : Kp ms w w') (hn : ∀ k, Nin l k → k ∉ ms) : Kz l w w' := ⟨h.os, h.tape, h.output, h.size, fun k hk hl => h.block k hk (hn k hl)⟩
theorem kp_of_kz {l : List (Nat × Nat)} {ms : List Nat} {w w' : World} (h : Kz l w w') (hn : ∀ k, k ∉ ms → Nin l k) : Kp ms w w' := ⟨h.os, h.tape, h.output, h.size, fun k hk hl => h.block k hk (hn k hl)⟩
theorem Own.hs {w w' : World} {z g sz : Nat} {e : TypeId} {v : Value} {xs : List (List Value)} {ms : List Nat} (h : Own w z g e sz v xs) (hs : ∀ b ∈ ms, w'.heap[b]? = w.heap[b]?) (hm : z ≠ 0 → g ∈ ms) : Own w' z g e sz v xs :=
  h.keep (by by_cases hz : z = 0; exact .inl hz; exact .inr fun _ => hs g (hm hz))
theorem Rd.hs {w w' : World} {z g o sz : Nat} {v : Value} {xs : List (List Value)} {ms : List Nat} (h : Rd w z g o sz v xs) (he : Env w w') (hs : ∀ b ∈ ms, w'.heap[b]? = w.heap[b]?) (hm : z ≠ 0 → g ∈ ms) : Rd w' z g o sz v xs :=
  h.keep (by by_cases hz : z = 0; exact .inl hz; exact .inr fun _ => hs g (hm hz)) he.size
theorem stb_mk {α : Type} (p : α → Nat → Prop) (FP : α → List Nat) (F : α → World → Prop) (h1 : ∀ a W, F a W → ∀ b ∈ FP a, b < W.heap.size)
    (h2 : ∀ a W W', F a W → Env W W' → (∀ b ∈ FP a, W'.heap[b]? = W.heap[b]?) → F a W') : Stb fun k fp W => ∃ a, p a k ∧ fp = FP a ∧ F a W :=
  ⟨fun ⟨a, _, h, hF⟩ b hb => h1 a _ hF b (h ▸ hb), fun ⟨a, hp, h, hF⟩ he hs => ⟨a, hp, h, h2 a _ _ hF he (h ▸ hs)⟩⟩
theorem stb_or {J K : Nat → List Nat → World → Prop} (h : Stb J) (k : Stb K) : Stb fun i fp W => J i fp W ∨ K i fp W :=
  ⟨fun h0 b hb => h0.elim (fun h0 => h.lt h0 b hb) (fun h0 => k.lt h0 b hb), fun h0 he hs => h0.imp (fun h0 => h.keep h0 he hs) (fun h0 => k.keep h0 he hs)⟩
theorem stb_c {J : Nat → List Nat → World → Prop} (p : Prop) (h : Stb J) : Stb fun i fp W => p ∧ J i fp W := ⟨fun h0 b hb => h.lt h0.2 b hb, fun h0 he hs => ⟨h0.1, h.keep h0.2 he hs⟩⟩
/-! ### iterators -/
/-- an element, and those behind it -/
def yl {α : Type} (x : α) (m : Option (List α)) : Option (List α) := m.map (x :: ·)
theorem yl_some {α : Type} {x : α} {m : Option (List α)} {r : List α} (h : yl x m = some r) : ∃ t, m = some t ∧ r = x :: t := by
  cases m with
  | none => cases h
  | some t => exact ⟨t, rfl, (Option.some.inj h).symm⟩
/-- k elements are done; those left -/
def Dr {α : Type} (xs : List α) (k : Nat) (rr : List α) : Prop := k ≤ xs.length ∧ xs.drop k = rr
theorem dr_0 {α : Type} (xs : List α) : Dr xs 0 xs := ⟨Nat.zero_le _, rfl⟩
theorem Dr.at {α : Type} {xs rr t : List α} {k : Nat} {x : α} (h : Dr xs k rr) (e : rr = x :: t) : xs[k]? = some x := by
  have h1 := h.2; rw [e] at h1
  have : (xs.drop k)[0]? = some x := by rw [h1]; rfl
  rwa [List.getElem?_drop, Nat.add_zero] at this
theorem Dr.next {α : Type} {xs rr t : List α} {k : Nat} {x : α} (h : Dr xs k rr) (e : rr = x :: t) : Dr xs (k + 1) t := by
  have h0 := h.at e
  have hk := (List.getElem?_eq_some_iff.1 h0).1
  refine ⟨hk, ?_⟩
  have h1 := h.2; rw [e, List.drop_eq_getElem_cons hk] at h1
  exact (List.cons.inj h1).2
theorem Dr.last {α β : Type} {xs rr : List α} {k : Nat} {c : α → β} (h : Dr xs k rr) (e : rr = []) : k = (xs.map c).length := by
  have h1 := h.2; rw [e, List.drop_eq_nil_iff] at h1
  have := h.1; rw [List.length_map]; omega
theorem notin_growz {f f' : List Nat} {s z b : Nat} (hF : ∀ c ∈ f', c ∈ f ∨ s ≤ c) (h : z = 0 ∨ b ∉ f) (hlt : z = 0 ∨ b < s) : z = 0 ∨ b ∉ f' := by
  rcases h with h | h
  · exact .inl h
  · rcases hlt with h1 | h1
    · exact .inl h1
    · exact .inr (notin_grow hF h h1)
theorem Stb.ka {J : Nat → List Nat → World → Prop} (hJ : Stb J) {k z g : Nat} {f : List Nat} {W W' : World} (h : J k f W) (a : Ka z g W W') (hb : z = 0 ∨ g ∉ f) : J k f W' := hJ.keep h a.env fun c hc => a.block c (hJ.lt h c hc) (by
  rcases hb with h0 | h0
  · exact .inl h0
  · exact .inr (by rintro rfl; exact h0 hc))
end Go.Sx
