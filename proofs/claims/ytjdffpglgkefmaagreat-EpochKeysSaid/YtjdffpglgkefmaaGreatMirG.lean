/- MX: marks of loops over functions within iterators. -/
import Derived.Test.YtjdffpglgkefmaaGreatMirF
set_option linter.unusedVariables false
set_option linter.unusedSimpArgs false
namespace Go.Sx
open Go Go.RowKit

/-- the marks that an iterator has gathered, apart from its caller's blocks fp -/
def MkI (base : Nat) (ks fp : List Nat) (W : World) : Prop := Mks base ks W ∧ ∀ k ∈ ks, k ∉ fp
section
variable {base b : Nat} {ks fp fp' : List Nat} {W W' : World}
theorem mki_nil (base : Nat) (fp : List Nat) (W : World) : MkI base [] fp W := ⟨mks_nil base W, fun _ h => by cases h⟩
theorem MkI.gr (h : MkI base ks fp W) (g : Gr W W') : MkI base ks fp W' := ⟨h.1.gr g, h.2⟩
theorem MkI.md {t : TypeId} {cs : List Value} (h : MkI base ks fp W) (m : Md b W W') (hb : Bx W b t cs) : MkI base ks fp W' := ⟨h.1.md m (fun hk => by
  have h1 := (h.1.2 b hk).2
  unfold Df at h1; unfold Bx at hb; rw [hb] at h1; simp at h1), h.2⟩
theorem MkI.mdl {W0 : World} {fp0 : List Nat} (h : MkI base ks fp W) (m : Md b W W') (h0 : MkI base ks fp0 W0) (hb : W0.heap.size ≤ b) : MkI base ks fp W' := ⟨h.1.md m (fun hk => by
  have h1 := (h0.1.2 b hk).2.lt
  omega), h.2⟩
theorem MkI.kp (h : MkI base ks fp W) (k : Kp fp W W') (hg : ∀ c ∈ fp', c ∈ fp ∨ W.heap.size ≤ c) : MkI base ks fp' W' :=
  ⟨h.1.kp k h.2, fun j hj => notin_grow hg (h.2 j hj) (h.1.2 j hj).2.lt⟩
theorem MkI.cons {W0 : World} {fp0 : List Nat} {D : Nat} (h : MkI base ks fp W) (h0 : MkI base ks fp0 W0) (hD : W0.heap.size ≤ D) (hb : base ≤ W0.heap.size) (hd : Df W D) (hn : D ∉ fp) : MkI base (D :: ks) fp W :=
  ⟨h.1.cons (by omega) hd fun hk => by have := (h0.1.2 D hk).2.lt; omega, fun j hj => by
    rcases List.mem_cons.1 hj with rfl | hj
    · exact hn
    · exact h.2 j hj⟩
theorem MkI.leave (h : MkI base ks fp W) : ∃ wl, Leave (mkD ks) W wl ∧ Kp ks W wl := h.1.leave
theorem MkI.stb {J : Nat → List Nat → World → Prop} {k : Nat} (hJ : Stb J) (h : MkI base ks fp W) (j : J k fp W) (kl : Kp ks W W') : J k fp W' :=
  hJ.keep j kl.env fun c hc => kl.block c (hJ.lt j c hc) fun hk => h.2 c hk hc
theorem MkI.trans {w : World} {f : List Nat} (h : MkI w.heap.size ks fp W) (K : Kp f w W) (kl : Kp ks W W') : Kp f w W' := K.trans kl fun c hc => .inr (h.1.2 c hc).1
end
end Go.Sx
namespace Go.Sx
open Go Go.RowKit
/-- drawn: an effect that keeps off the one level's blocks -/
theorem dd_y {P : Program} {n : Nat} {ops : Array Oper} {Q : Slots → World → Prop} {rest : List (Nat × Nat)} {i : Nat} {dst : Option Nat} {op : Op} {ty : TypeId} {pos : String} {af : Array Edge} {gu : Option (Nat × Bool)} {L : Slots} {w w₀ : World} {ms : List Nat} {kp : Nat → Nat → Bool} {R : Value → World → Prop}
    (hi : ops[i]? = some ⟨dst, op, ty, pos, af, gu⟩) (hg : gd ops L ⟨dst, op, ty, pos, af, gu⟩ = some true) (hd : inN n dst = true) (hv : EV P L ⟨dst, op, ty, pos, af, gu⟩ w R)
    (h : ∀ v w', R v w' → (Kp ms w₀ w → Kp ms w₀ w') ∧ SD P n ops Q (HldN [ms] w₀) kp rest (putL dst v L) w') : SD P n ops Q (HldN [ms] w₀) kp ((i, 0) :: rest) L w :=
  ⟨_, hi, hd, .inl ⟨hg, R, hv, fun v w' hR => ⟨fun lv _ hS ms' hm => by
    cases lv with
    | zero => simp at hm; subst hm; exact (h v w' hR).1 (hS _ rfl)
    | succ k => simp at hm, (h v w' hR).2⟩⟩⟩
end Go.Sx
