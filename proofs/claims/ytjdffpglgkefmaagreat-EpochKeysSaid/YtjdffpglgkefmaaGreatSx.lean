/- SX: symbolic execution by explicit laws: the frame as a list of known slots. Regions, drawn or not, by one judgement. -/
import Derived.WalkKit
import Derived.OrdersIn
import Derived.TacticsIn
import Derived.RangeFuncLeaves
set_option linter.unusedVariables false
set_option linter.unusedSimpArgs false
namespace Go.Sx
open Go

/-- what is known of a frame's slots; the first entry of a slot counts -/
abbrev Slots := List (Nat × Value)
def lk (i : Nat) : Slots → Option Value
  | [] => none
  | (j, v) :: r => bif Nat.beq j i then some v else lk i r
theorem beq_ne {i j : Nat} (h : ¬ i = j) : Nat.beq i j = false := by
  cases e : Nat.beq i j with
  | true => exact absurd (Nat.eq_of_beq_eq_true e) h
  | false => rfl
def ev (L : Slots) : Operand → Option Value
  | .tmp t => lk t L
  | .const v => some v
  | .global g => some (.pointer (some ⟨g, 0, none⟩))
  | .func f => some (.func (.func f) #[] #[])
def evs (L : Slots) : List Operand → Option (List Value)
  | [] => some []
  | x :: r => match ev L x, evs L r with
    | some v, some vs => some (v :: vs)
    | _, _ => none
def putL : Option Nat → Value → Slots → Slots
  | some d, v, L => (d, v) :: L
  | none, _, L => L
def inN (n : Nat) : Option Nat → Bool
  | some d => Nat.blt d n
  | none => true
/-- a valuation of the operands that knows what L knows -/
def Cons (L : Slots) (ρ : Operand → Value) : Prop := ∀ x v, ev L x = some v → ρ x = v
theorem Cons.map {L : Slots} {ρ : Operand → Value} (h : Cons L ρ) : ∀ {l : List Operand} {vs : List Value}, evs L l = some vs → l.map ρ = vs
  | [], vs, e => by cases e; rfl
  | x :: r, vs, e => by
    unfold evs at e
    split at e
    · rename_i v vs' h1 h2
      cases e
      rw [List.map_cons, h _ _ h1, h.map h2]
    · cases e
theorem Cons.mapA {L : Slots} {ρ : Operand → Value} (h : Cons L ρ) {as : Array Operand} {vs : List Value} (e : evs L as.toList = some vs) : as.map ρ = vs.toArray := by
  rw [← h.map e, ← Array.toList_map]

structure FOk (n : Nat) (D : List Deferred) (L : Slots) (a : Act) : Prop where
  size : a.tmps.size = n
  defers : a.defers = D
  get : ∀ i v, lk i L = some v → a.tmps[i]? = some v
theorem FOk.cons {n : Nat} {D : List Deferred} {L : Slots} {a : Act} (h : FOk n D L a) : Cons L a.eval := by
  intro x v e
  cases x with
  | tmp t =>
    have := h.get t v e
    simp only [Act.eval, Array.getD_eq_getD_getElem?, this, Option.getD_some]
  | const u => cases e; rfl
  | global g => cases e; rfl
  | func f => cases e; rfl
theorem FOk.put {n : Nat} {D : List Deferred} {L : Slots} {a : Act} (h : FOk n D L a) {d : Option Nat} {v : Value} (hd : inN n d = true) : FOk n D (putL d v L) (a.put d v) := by
  cases d with
  | none => exact h
  | some d =>
    have hd' : d < n := by simpa [inN] using hd
    refine ⟨by simp [Act.put, h.size], h.defers, fun i u e => ?_⟩
    simp only [putL, lk] at e
    by_cases hdi : d = i
    · subst hdi
      simp at e
      subst e
      simp [Act.put, h.size, hd']
    · have := beq_ne hdi
      rw [this] at e
      simp only [Act.put]
      rw [Array.getElem?_setIfInBounds_ne hdi]
      exact h.get i u e
/-- what is known before is known behind: slot by slot -/
def SubP : Slots → Slots → Prop
  | [], _ => True
  | (i, v) :: r, L => lk i L = some v ∧ SubP r L
theorem SubP.get {L : Slots} : ∀ {L' : Slots}, SubP L' L → ∀ i v, lk i L' = some v → lk i L = some v
  | [], _, i, v, e => by cases e
  | (j, u) :: r, h, i, v, e => by
    simp only [lk] at e
    by_cases hji : j = i
    · subst hji; simp at e; subst e; exact h.1
    · have := beq_ne hji
      rw [this] at e
      exact SubP.get h.2 i v e
theorem FOk.sub {n : Nat} {D : List Deferred} {L L' : Slots} {a : Act} (h : FOk n D L a) (hs : SubP L' L) : FOk n D L' a := ⟨h.size, h.defers, fun i v e => h.get i v (hs.get i v e)⟩

/-- the guard of an operation, by what is known -/
def gd (ops : Array Oper) (L : Slots) (o : Oper) : Option Bool :=
  match o.guard with
  | none => some true
  | some (j, b) => match (ops[j]?).bind (·.dst) with
    | none => some false
    | some d => match lk d L with
      | some (.bool c) => some (c == b)
      | some _ => some false
      | none => none
theorem gd_spec {n : Nat} {D : List Deferred} {L : Slots} {a : Act} (h : FOk n D L a) {ops : Array Oper} {o : Oper} {b : Bool} (hg : gd ops L o = some b) :
    Region.wanted o (yielded ops a.tmps) = b := by
  unfold gd at hg
  unfold Region.wanted
  split at hg
  · rename_i e; rw [e]; cases hg; rfl
  · rename_i j c e
    rw [e]
    simp only [yielded]
    split at hg
    · rename_i e2; rw [e2]; cases hg; simp
    · rename_i d e2
      rw [e2]
      split at hg
      · rename_i u e3
        have := h.get d _ e3
        simp only [Option.bind_some, this]
        cases hg
        cases u <;> cases c <;> rfl
      · rename_i v hne e3
        have := h.get d _ e3
        simp only [Option.bind_some, this]
        cases hg
        cases v <;> simp_all
      · cases hg

def nodef : Op → Bool
  | .defer _ => false
  | _ => true
theorem nodef_spec {o : Op} (h : nodef o = true) : ∀ c, o ≠ .defer c := by intro c e; subst e; cases h
/-- the wide fence, in a round or not -/
def Fw (r : Option Nat) : Fence := { Fence.wide with round := r }
theorem callsIn_Fw {r : Option Nat} {m : Nat} {P : Program} {f : FuncId} {args : Array Value} {w : World} {R : Ending → World → Prop} (h : Calls P f args w R) : CallsIn (Fw r) m P f args w R :=
  (callsIn_wide (n := m)).2 h

/-- the operation yields v in this world, and leaves it -/
def VV (P : Program) (L : Slots) (o : Oper) (w : World) (v : Value) : Prop := ∀ ρ, Cons L ρ → (execOp ρ o).run P w = .ok (.value v) w
/-- .. whatever the world -/
def PV (P : Program) (L : Slots) (o : Oper) (v : Value) : Prop := ∀ w, VV P L o w v
/-- .. in every world that meets S -/
def HV (P : Program) (S : World → Prop) (L : Slots) (o : Oper) (v : Value) : Prop := ∀ w, S w → VV P L o w v
/-- a call of a function, or of yield -/
inductive Does (P : Program) (ρ : Operand → Value) (o : Oper) (w : World) (R : Value → World → Prop) : Prop
  | val (v : Value) (w' : World) (h : (execOp ρ o).run P w = .ok (.value v) w') (hR : R v w')
  | skip (w' : World) (h : (execOp ρ o).run P w = .ok .skip w') (hR : R undef w')
  | call (f : FuncId) (args : Array Value) (w' : World) (h : (execOp ρ o).run P w = .ok (.enter f args) w') (hR : Calls P f args w' fun e w'' => ∃ v, e = .returned v ∧ R v w'')
  | round (l : Nat) (f : FuncId) (tmps : Array Value) (assign body : Code) (w' : World) (h : (execOp ρ o).run P w = .ok (.round l f tmps assign body) w')
      (hR : RoundIn Fence.wide 0 P l f tmps assign body w' fun e w'' => ∃ v, e = .returned v ∧ R v w'')
/-- the operation, carried out in world w, comes to R -/
def EV (P : Program) (L : Slots) (o : Oper) (w : World) (R : Value → World → Prop) : Prop := ∀ ρ, Cons L ρ → Does P ρ o w R
theorem PV.hv {P : Program} {L : Slots} {o : Oper} {v : Value} {S : World → Prop} (h : PV P L o v) : HV P S L o v := fun w _ => h w
theorem VV.ev {P : Program} {L : Slots} {o : Oper} {v : Value} {w : World} (h : VV P L o w v) : EV P L o w fun v' w' => v' = v ∧ w' = w := fun ρ hρ => .val v w (h ρ hρ) ⟨rfl, rfl⟩
theorem Does.mono {P : Program} {ρ : Operand → Value} {o : Oper} {w : World} {R R' : Value → World → Prop} (h : Does P ρ o w R) (hr : ∀ v w', R v w' → R' v w') : Does P ρ o w R' := by
  cases h with
  | val v w' h hR => exact .val v w' h (hr _ _ hR)
  | skip w' h hR => exact .skip w' h (hr _ _ hR)
  | call f args w' h hR => exact .call f args w' h (hR.mono fun e w'' ⟨v, he, hv⟩ => ⟨v, he, hr _ _ hv⟩)
  | round l f tmps assign body w' h hR => exact .round l f tmps assign body w' h (hR.mono fun e w'' ⟨v, he, hv⟩ => ⟨v, he, hr _ _ hv⟩)
theorem EV.mono {P : Program} {L : Slots} {o : Oper} {w : World} {R R' : Value → World → Prop} (h : EV P L o w R) (hr : ∀ v w', R v w' → R' v w') : EV P L o w R' := fun ρ hρ => (h ρ hρ).mono hr
/-- from what an operation does to the fenced walk's own word -/
theorem Does.uponIn {P : Program} {r : Option Nat} {o : Oper} {a : Act} {w : World} {R : Value → World → Prop} {K : Act → World → Prop} {Q : Exit → Act → World → Prop} (hn : nodef o.op = true)
    (h : Does P a.eval o w R) (hk : ∀ v w', R v w' → K (a.put o.dst v) w') : o.wpIn (Fw r) 0 P a w K Q := by
  refine ⟨fun _ _ => trivial, ?_⟩
  rw [Oper.semAt_eq _ _ _ (nodef_spec hn)]
  cases h with
  | val v w' h hR => rw [h]; exact hk _ _ hR
  | skip w' h hR => rw [h]; exact hk _ _ hR
  | call f args w' h hR =>
    rw [h]
    refine ⟨fun h => (by cases h), callsIn_Fw (hR.mono ?_)⟩
    rintro e w'' ⟨v, rfl, hv⟩
    exact hk _ _ hv
  | round l f tmps assign body w' h hR =>
    rw [h]
    refine ⟨fun h => (by cases h), RoundIn.mono (F := Fw r) hR ?_⟩
    rintro e w'' ⟨v, rfl, hv⟩
    exact hk _ _ hv
end Go.Sx
