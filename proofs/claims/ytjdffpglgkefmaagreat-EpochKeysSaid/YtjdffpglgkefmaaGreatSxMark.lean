/- SX: loops in whose rounds loops over functions run: their marks gather. -/
import Derived.Test.YtjdffpglgkefmaaGreatSxSl
set_option linter.unusedVariables false
set_option linter.unusedSimpArgs false
namespace Go.Sx
open Go Go.RowKit

/-- the marks of loops over functions: each block once, none below base -/
def Mks (base : Nat) (ks : List Nat) (w : World) : Prop := ks.Nodup ∧ ∀ k ∈ ks, base ≤ k ∧ Df w k
def mkD (ks : List Nat) : List Deferred := ks.map fun k => ⟨.collected k, #[]⟩
theorem mks_nil (base : Nat) (w : World) : Mks base [] w := ⟨List.nodup_nil, fun _ h => by cases h⟩
section
variable {base : Nat} {ks : List Nat} {w w' : World}
theorem Mks.keep (h : Mks base ks w) (hk : ∀ k ∈ ks, w'.heap[k]? = w.heap[k]?) : Mks base ks w' := ⟨h.1, fun k hk' => ⟨(h.2 k hk').1, (hk k hk').trans (h.2 k hk').2⟩⟩
theorem Mks.gr (h : Mks base ks w) (g : Gr w w') : Mks base ks w' := h.keep fun k hk => g.block k (h.2 k hk).2.lt
theorem Mks.md {b : Nat} (h : Mks base ks w) (m : Md b w w') (hb : b ∉ ks) : Mks base ks w' := h.keep fun k hk => m.block k (by rintro rfl; exact hb hk)
theorem Mks.kp {ms : List Nat} (h : Mks base ks w) (g : Kp ms w w') (hd : ∀ k ∈ ks, k ∉ ms) : Mks base ks w' := h.keep fun k hk => g.block k (h.2 k hk).2.lt (hd k hk)
theorem Mks.cons {k : Nat} (h : Mks base ks w) (hb : base ≤ k) (hd : Df w k) (hn : k ∉ ks) : Mks base (k :: ks) w := ⟨List.nodup_cons.2 ⟨hn, h.1⟩, fun j hj => by
  rcases List.mem_cons.1 hj with rfl | hj
  · exact ⟨hb, hd⟩
  · exact h.2 j hj⟩
theorem Mks.leave : ∀ {ks : List Nat} {w : World}, Mks base ks w → ∃ wl, Leave (mkD ks) w wl ∧ Kp ks w wl
  | [], w, _ => ⟨w, rfl, Kp.refl _ _⟩
  | k :: ks, w, h => by
    have hn := (List.nodup_cons.1 h.1).1
    have hm : Md k w (w.putObj k (.deferred none)) := Md.put k _
    have ht : Mks base ks w := ⟨(List.nodup_cons.1 h.1).2, fun j hj => h.2 j (List.mem_cons_of_mem _ hj)⟩
    obtain ⟨wl, h1, h2⟩ := Mks.leave (ht.md hm hn)
    refine ⟨wl, ⟨k, rfl, (h.2 k (by simp)).2, h1⟩, ?_⟩
    exact Kp.trans ((Kp.refl (k :: ks) w).md hm (.inl (by simp))) h2 fun b hb => .inl (List.mem_cons_of_mem _ hb)
end
/-- a loop whose marks gather -/
theorem sw_loopK {P : Program} {r : Option Nat} {n : Nat} {Q : Exit → List Deferred → Slots → World → Prop} {D : List Deferred} {L : Slots} {w : World} {c : Code} {α : Type} (dead : List Nat) (dyn : α → Slots) (J : α → List Nat → World → Prop) (μ : α → Nat) (x₀ : α) (ks₀ : List Nat) (hD : D = mkD ks₀)
    (hs : SubP (dyn x₀ ++ drp dead L) L) (h₀ : J x₀ ks₀ w)
    (round : ∀ x ks w, J x ks w → SW P r n c (thenQ (fun D' L' w' => ∃ x' ks', D' = mkD ks' ∧ SubP (dyn x' ++ drp dead L) L' ∧ J x' ks' w' ∧ μ x' < μ x) Q) (mkD ks) (dyn x ++ drp dead L) w) : SW P r n (.loop c) Q D L w := by
  subst hD
  intro a ha
  refine wpIn_loop (fun a w => ∃ x ks, FOk n (mkD ks) (dyn x ++ drp dead L) a ∧ J x ks w) (fun a w => least fun m => ∃ x ks, FOk n (mkD ks) (dyn x ++ drp dead L) a ∧ J x ks w ∧ μ x = m) ⟨x₀, ks₀, ha.sub hs, h₀⟩ ?_
  intro a w ⟨x1, ks1, hx1, hJ1⟩
  obtain ⟨x, ks, hx, hJ, hm⟩ := least_spec (p := fun m => ∃ x ks, FOk n (mkD ks) (dyn x ++ drp dead L) a ∧ J x ks w ∧ μ x = m) ⟨μ x1, x1, ks1, hx1, hJ1, rfl⟩
  refine wpIn_mono (round x ks w hJ a hx) fun e a' w' hh => ?_
  cases e with
  | normal =>
    obtain ⟨D', L', h1, x', ks', rfl, h2, h3, h4⟩ := hh
    refine ⟨⟨x', ks', h1.sub h2, h3⟩, ?_⟩
    have := least_le (p := fun m => ∃ x ks, FOk n (mkD ks) (dyn x ++ drp dead L) a' ∧ J x ks w' ∧ μ x = m) ⟨x', ks', h1.sub h2, h3, rfl⟩
    omega
  | exit id => exact hh
  | goto l => exact hh
  | ret => exact hh
  | panic c => exact hh
  | outgrown => exact hh
end Go.Sx
