/- SX: statements, loops, functions. -/
import Derived.Test.YtjdffpglgkefmaaGreatSxMem
import Derived.RangeFuncRecord
set_option linter.unusedVariables false
set_option linter.unusedSimpArgs false
namespace Go.Sx
open Go

def liftQ (n : Nat) (Q : Exit → List Deferred → Slots → World → Prop) : Exit → Act → World → Prop
  | .panic _, _, _ => False
  | .outgrown, _, _ => False
  | e, a, w => ∃ D L, FOk n D L a ∧ Q e D L w
/-- the walk of a piece of code, from what is known of the slots -/
def SW (P : Program) (r : Option Nat) (n : Nat) (c : Code) (Q : Exit → List Deferred → Slots → World → Prop) (D : List Deferred) (L : Slots) (w : World) : Prop :=
  ∀ a, FOk n D L a → c.wpIn (Fw r) 0 P (liftQ n Q) a w

section
variable {P : Program} {r : Option Nat} {n : Nat} {Q : Exit → List Deferred → Slots → World → Prop} {D : List Deferred} {L : Slots} {w : World}

theorem SW.mono {c : Code} {Q' : Exit → List Deferred → Slots → World → Prop} (h : SW P r n c Q D L w) (hq : ∀ e D L w, Q e D L w → Q' e D L w) : SW P r n c Q' D L w :=
  fun a ha => wpIn_mono (h a ha) fun e a' w' hh => by
    cases e <;> first | exact hh | (obtain ⟨D', L', h1, h2⟩ := hh; exact ⟨D', L', h1, hq _ _ _ _ h2⟩)
/-- fewer slots -/
theorem SW.forget {c : Code} {L' : Slots} (h : SW P r n c Q D L' w) (hs : SubP L' L) : SW P r n c Q D L w := fun a ha => h a (ha.sub hs)

def thenQ (K : List Deferred → Slots → World → Prop) (Q : Exit → List Deferred → Slots → World → Prop) : Exit → List Deferred → Slots → World → Prop
  | .normal, D, L, w => K D L w
  | e, D, L, w => Q e D L w
theorem sw_seq {x y : Code} (h : SW P r n x (thenQ (fun D L w => SW P r n y Q D L w) Q) D L w) : SW P r n (.seq x y) Q D L w :=
  fun a ha => wpIn_seq (wpIn_mono (h a ha) fun e a' w' hh => by
    cases e with
    | normal => obtain ⟨D', L', h1, h2⟩ := hh; exact h2 a' h1
    | exit id => exact hh
    | goto l => exact hh
    | ret => exact hh
    | panic c => exact hh
    | outgrown => exact hh)
theorem sw_skip (h : Q .normal D L w) : SW P r n .skip Q D L w := fun _ ha => wpIn_skip ⟨D, L, ha, h⟩
theorem sw_ret (h : Q .ret D L w) : SW P r n .ret Q D L w := fun _ ha => wpIn_ret ⟨D, L, ha, h⟩
theorem sw_exit {id : Nat} (h : Q (.exit id) D L w) : SW P r n (.exit id) Q D L w := fun _ ha => wpIn_exit ⟨D, L, ha, h⟩
theorem sw_label {l : Nat} (h : Q .normal D L w) : SW P r n (.label l) Q D L w := fun _ ha => wpIn_label ⟨D, L, ha, h⟩
theorem sw_cond {c : Operand} {x y : Code} {t : Bool} (hc : ev L c = some (.bool t)) (ht : t = true → SW P r n x Q D L w) (hf : t = false → SW P r n y Q D L w) : SW P r n (.cond c x y) Q D L w :=
  fun a ha => wpIn_cond_split (ha.cons _ _ hc) (fun h => ht h a ha) (fun h => hf h a ha)
theorem sw_condT {c : Operand} {x y : Code} (hc : ev L c = some (.bool true)) (h : SW P r n x Q D L w) : SW P r n (.cond c x y) Q D L w := sw_cond hc (fun _ => h) (fun h => by cases h)
theorem sw_condF {c : Operand} {x y : Code} (hc : ev L c = some (.bool false)) (h : SW P r n y Q D L w) : SW P r n (.cond c x y) Q D L w := sw_cond hc (fun h => by cases h) (fun _ => h)
def blockQ (id : Nat) (Q : Exit → List Deferred → Slots → World → Prop) : Exit → List Deferred → Slots → World → Prop
  | .exit id', D, L, w => bif Nat.beq id' id then Q .normal D L w else Q (.exit id') D L w
  | e, D, L, w => Q e D L w
theorem sw_block {id : Nat} {c : Code} (h : SW P r n c (blockQ id Q) D L w) : SW P r n (.block id c) Q D L w :=
  fun a ha => wpIn_block (wpIn_mono (h a ha) fun e a' w' hh => by
    cases e with
    | exit id' =>
      obtain ⟨D', L', h1, h2⟩ := hh
      simp only [Exit.inBlock]
      by_cases e : id' = id
      · subst e
        rw [if_pos rfl]
        exact ⟨D', L', h1, by simpa [blockQ] using h2⟩
      · rw [if_neg e]
        exact ⟨D', L', h1, by simpa [blockQ, beq_ne e] using h2⟩
    | normal => exact hh
    | goto l => exact hh
    | ret => exact hh
    | panic c => exact hh
    | outgrown => exact hh)
theorem least_ex {p : Nat → Prop} (h : ∃ m, p m) : ∃ m, p m ∧ ∀ k, p k → m ≤ k := by
  obtain ⟨m, hm⟩ := h
  induction m using Nat.strongRecOn with
  | _ m ih =>
    by_cases h : ∃ k, k < m ∧ p k
    · obtain ⟨k, hk, hp⟩ := h; exact ih k hk hp
    · exact ⟨m, hm, fun k hk => Nat.le_of_not_lt fun hlt => h ⟨k, hlt, hk⟩⟩
open Classical in
noncomputable def least (p : Nat → Prop) : Nat := if h : ∃ m, p m then Classical.choose (least_ex h) else 0
theorem least_spec {p : Nat → Prop} (h : ∃ m, p m) : p (least p) := by unfold least; rw [dif_pos h]; exact (Classical.choose_spec (least_ex h)).1
theorem least_le {p : Nat → Prop} {k : Nat} (h : p k) : least p ≤ k := by unfold least; rw [dif_pos ⟨k, h⟩]; exact (Classical.choose_spec (least_ex ⟨k, h⟩)).2 k h
/-- a loop: a family of states, an invariant, a measure -/
theorem sw_loop {c : Code} {α : Type} (st : α → Slots) (J : α → World → Prop) (μ : α → Nat) (x₀ : α) (hs : SubP (st x₀) L) (h₀ : J x₀ w)
    (round : ∀ x w, J x w → SW P r n c (thenQ (fun D' L' w' => D' = D ∧ ∃ x', SubP (st x') L' ∧ J x' w' ∧ μ x' < μ x) Q) D (st x) w) : SW P r n (.loop c) Q D L w := by
  intro a ha
  refine wpIn_loop (fun a w => ∃ x, FOk n D (st x) a ∧ J x w) (fun a w => least fun m => ∃ x, FOk n D (st x) a ∧ J x w ∧ μ x = m) ⟨x₀, ha.sub hs, h₀⟩ ?_
  intro a w ⟨x1, hx1, hJ1⟩
  obtain ⟨x, hx, hJ, hm⟩ := least_spec (p := fun m => ∃ x, FOk n D (st x) a ∧ J x w ∧ μ x = m) ⟨μ x1, x1, hx1, hJ1, rfl⟩
  refine wpIn_mono (round x w hJ a hx) fun e a' w' hh => ?_
  cases e with
  | normal =>
    obtain ⟨D', L', h1, rfl, x', h2, h3, h4⟩ := hh
    refine ⟨⟨x', h1.sub h2, h3⟩, ?_⟩
    have := least_le (p := fun m => ∃ x, FOk n D' (st x) a' ∧ J x w' ∧ μ x = m) ⟨x', h1.sub h2, h3, rfl⟩
    omega
  | exit id => exact hh
  | goto l => exact hh
  | ret => exact hh
  | panic c => exact hh
  | outgrown => exact hh

def mem (i : Nat) : List Nat → Bool
  | [] => false
  | j :: r => bif Nat.beq i j then true else mem i r
/-- without the slots ds -/
def drp (ds : List Nat) : Slots → Slots
  | [] => []
  | (i, v) :: r => bif mem i ds then drp ds r else (i, v) :: drp ds r
/-- a loop: dyn: the slots that turn; dead: all that the body writes -/
theorem sw_loopD {c : Code} {α : Type} (dead : List Nat) (dyn : α → Slots) (J : α → World → Prop) (μ : α → Nat) (x₀ : α) (hs : SubP (dyn x₀ ++ drp dead L) L) (h₀ : J x₀ w)
    (round : ∀ x w, J x w → SW P r n c (thenQ (fun D' L' w' => D' = D ∧ ∃ x', SubP (dyn x' ++ drp dead L) L' ∧ J x' w' ∧ μ x' < μ x) Q) D (dyn x ++ drp dead L) w) : SW P r n (.loop c) Q D L w :=
  sw_loop (fun x => dyn x ++ drp dead L) J μ x₀ hs h₀ round

/-- a piece of code whose ways meet again -/
theorem sw_cut {x y : Code} (D' : List Deferred) (L' : Slots) (R : World → Prop) (h : SW P r n x (thenQ (fun D1 L1 w1 => D1 = D' ∧ SubP L' L1 ∧ R w1) Q) D L w) (hk : ∀ w1, R w1 → SW P r n y Q D' L' w1) : SW P r n (.seq x y) Q D L w :=
  sw_seq (h.mono fun e D1 L1 w1 hh => by
    cases e with
    | normal => obtain ⟨rfl, h1, h2⟩ := hh; exact (hk w1 h2).forget h1
    | exit id => exact hh
    | goto l => exact hh
    | ret => exact hh
    | panic c => exact hh
    | outgrown => exact hh)

theorem lift_panic {c : List PanicEntry} {a : Act} {w : World} : ¬ liftQ n Q (.panic c) a w := fun h => h
theorem lift_out : ¬ LetsOut (liftQ n Q) := fun ⟨_, _, h⟩ => h

/-- a region in the order of the text (each number with a 0) -/
theorem sw_region {id : Nat} {ops : Array Oper} (l : List (Nat × Nat)) (hnd : allNodef ops = true) (hl : (l.all fun x => (lvl x.2).isNone) = true) (ho : l.map (·.1) = List.range ops.size)
    (h : SD P n ops (fun L w => Q .normal D L w) (fun _ _ => True) (fun _ _ => false) l L w) : SW P r n (.region id ops false) Q D L w :=
  fun a ha => wpIn_region (by rw [← ho]; exact SD.text (D := D) hnd (fun L _ _ hf hq => ⟨D, L, hf, hq⟩) l L a w hl ha h)
/-- a region that draws its order; ms: the blocks that it stores into -/
theorem sw_draw {id : Nat} {ops : Array Oper} (ms : List Nat) (l : List (Nat × Nat)) (hm : P.follows .mixedOrders = true) (hnd : allNodef ops = true) (hlen : l.length = ops.size)
    (ho : okOrder ops (kpOf l) l (Array.replicate ops.size false) = true) (h : ∀ w1, RowKit.Below w.heap.size w w1 → w1.heap.size = w.heap.size → SD P n ops (fun L w => Q .normal D L w) (Hld ms w1) (kpOf l) l L w1) : SW P r n (.region id ops true) Q D L w :=
  fun _ ha => SD.drawn (D := D) hm hnd hlen ho (fun _ _ _ => lift_panic) lift_out (fun L _ _ hf hq => ⟨D, L, hf, hq⟩) ha (h w.drew (RowKit.Below.refl _ _).drew rfl)
end

section
variable {P : Program} {n : Nat} {ops : Array Oper} {Q : Slots → World → Prop} {rest : List (Nat × Nat)} {i : Nat} {dst : Option Nat} {op : Op} {ty : TypeId} {pos : String} {af : Array Edge} {gu : Option (Nat × Bool)} {L : Slots} {w : World}

/-- in the order of the text -/
theorem sd_vv {v : Value} (hi : ops[i]? = some ⟨dst, op, ty, pos, af, gu⟩) (hg : gd ops L ⟨dst, op, ty, pos, af, gu⟩ = some true) (hd : inN n dst = true) (hv : VV P L ⟨dst, op, ty, pos, af, gu⟩ w v)
    (h : SD P n ops Q (fun _ _ => True) (fun _ _ => false) rest (putL dst v L) w) : SD P n ops Q (fun _ _ => True) (fun _ _ => false) ((i, 0) :: rest) L w :=
  ⟨_, hi, hd, .inl ⟨hg, _, hv.ev, fun v' w' ⟨h1, h2⟩ => by subst h1; subst h2; exact ⟨fun _ _ _ => trivial, h⟩⟩⟩
theorem sd_ev {R : Value → World → Prop} (hi : ops[i]? = some ⟨dst, op, ty, pos, af, gu⟩) (hg : gd ops L ⟨dst, op, ty, pos, af, gu⟩ = some true) (hd : inN n dst = true) (hv : EV P L ⟨dst, op, ty, pos, af, gu⟩ w R)
    (h : ∀ v w', R v w' → SD P n ops Q (fun _ _ => True) (fun _ _ => false) rest (putL dst v L) w') : SD P n ops Q (fun _ _ => True) (fun _ _ => false) ((i, 0) :: rest) L w := ⟨_, hi, hd, .inl ⟨hg, R, hv, fun v w' hR => ⟨fun _ _ _ => trivial, h v w' hR⟩⟩⟩
theorem sd_skip (hi : ops[i]? = some ⟨dst, op, ty, pos, af, gu⟩) (hg : gd ops L ⟨dst, op, ty, pos, af, gu⟩ = some false) (hd : inN n dst = true)
    (h : SD P n ops Q (fun _ _ => True) (fun _ _ => false) rest (putL dst undef L) w) : SD P n ops Q (fun _ _ => True) (fun _ _ => false) ((i, 0) :: rest) L w := ⟨_, hi, hd, .inr ⟨hg, h⟩⟩
/-- a bool that guards others: the walk parts -/
theorem sd_split {t : Bool} (hi : ops[i]? = some ⟨dst, op, ty, pos, af, gu⟩) (hg : gd ops L ⟨dst, op, ty, pos, af, gu⟩ = some true) (hd : inN n dst = true) (hv : VV P L ⟨dst, op, ty, pos, af, gu⟩ w (.bool t))
    (ht : t = true → SD P n ops Q (fun _ _ => True) (fun _ _ => false) rest (putL dst (.bool true) L) w) (hf : t = false → SD P n ops Q (fun _ _ => True) (fun _ _ => false) rest (putL dst (.bool false) L) w) : SD P n ops Q (fun _ _ => True) (fun _ _ => false) ((i, 0) :: rest) L w := by
  cases t with
  | true => exact sd_vv hi hg hd hv (ht rfl)
  | false => exact sd_vv hi hg hd hv (hf rfl)
theorem sd_nil {S : Nat → World → Prop} {kp : Nat → Nat → Bool} (h : Q L w) : SD P n ops Q S kp [] L w := h

variable {ms : List Nat} {w₀ : World} {kp : Nat → Nat → Bool}
/-- drawn: held -/
theorem dd_h1 {v : Value} (hi : ops[i]? = some ⟨dst, op, ty, pos, af, gu⟩) (hg : gd ops L ⟨dst, op, ty, pos, af, gu⟩ = some true) (hd : inN n dst = true) (hS : Gr w₀ w) (hv : ∀ w, Gr w₀ w → VV P L ⟨dst, op, ty, pos, af, gu⟩ w v)
    (h : SD P n ops Q (Hld ms w₀) kp rest (putL dst v L) w) : SD P n ops Q (Hld ms w₀) kp ((i, 1) :: rest) L w := ⟨_, v, hi, hd, hS, .inl ⟨hg, hv⟩, h⟩
theorem dd_h3 {v : Value} (hi : ops[i]? = some ⟨dst, op, ty, pos, af, gu⟩) (hg : gd ops L ⟨dst, op, ty, pos, af, gu⟩ = some true) (hd : inN n dst = true) (hS : Kp ms w₀ w) (hv : ∀ w, Kp ms w₀ w → VV P L ⟨dst, op, ty, pos, af, gu⟩ w v)
    (h : SD P n ops Q (Hld ms w₀) kp rest (putL dst v L) w) : SD P n ops Q (Hld ms w₀) kp ((i, 3) :: rest) L w := ⟨_, v, hi, hd, hS, .inl ⟨hg, hv⟩, h⟩
theorem dd_s1 (hi : ops[i]? = some ⟨dst, op, ty, pos, af, gu⟩) (hg : gd ops L ⟨dst, op, ty, pos, af, gu⟩ = some false) (hd : inN n dst = true) (hS : Gr w₀ w)
    (h : SD P n ops Q (Hld ms w₀) kp rest (putL dst undef L) w) : SD P n ops Q (Hld ms w₀) kp ((i, 1) :: rest) L w := ⟨_, undef, hi, hd, hS, .inr ⟨hg, rfl⟩, h⟩
theorem dd_s3 (hi : ops[i]? = some ⟨dst, op, ty, pos, af, gu⟩) (hg : gd ops L ⟨dst, op, ty, pos, af, gu⟩ = some false) (hd : inN n dst = true) (hS : Kp ms w₀ w)
    (h : SD P n ops Q (Hld ms w₀) kp rest (putL dst undef L) w) : SD P n ops Q (Hld ms w₀) kp ((i, 3) :: rest) L w := ⟨_, undef, hi, hd, hS, .inr ⟨hg, rfl⟩, h⟩
theorem dd_p1 {t : Bool} (hi : ops[i]? = some ⟨dst, op, ty, pos, af, gu⟩) (hg : gd ops L ⟨dst, op, ty, pos, af, gu⟩ = some true) (hd : inN n dst = true) (hS : Gr w₀ w) (hv : ∀ w, Gr w₀ w → VV P L ⟨dst, op, ty, pos, af, gu⟩ w (.bool t))
    (ht : t = true → SD P n ops Q (Hld ms w₀) kp rest (putL dst (.bool true) L) w) (hf : t = false → SD P n ops Q (Hld ms w₀) kp rest (putL dst (.bool false) L) w) : SD P n ops Q (Hld ms w₀) kp ((i, 1) :: rest) L w := by
  cases t with
  | true => exact dd_h1 hi hg hd hS hv (ht rfl)
  | false => exact dd_h1 hi hg hd hS hv (hf rfl)
theorem dd_p3 {t : Bool} (hi : ops[i]? = some ⟨dst, op, ty, pos, af, gu⟩) (hg : gd ops L ⟨dst, op, ty, pos, af, gu⟩ = some true) (hd : inN n dst = true) (hS : Kp ms w₀ w) (hv : ∀ w, Kp ms w₀ w → VV P L ⟨dst, op, ty, pos, af, gu⟩ w (.bool t))
    (ht : t = true → SD P n ops Q (Hld ms w₀) kp rest (putL dst (.bool true) L) w) (hf : t = false → SD P n ops Q (Hld ms w₀) kp rest (putL dst (.bool false) L) w) : SD P n ops Q (Hld ms w₀) kp ((i, 3) :: rest) L w := by
  cases t with
  | true => exact dd_h3 hi hg hd hS hv (ht rfl)
  | false => exact dd_h3 hi hg hd hS hv (hf rfl)
/-- drawn: it only adds to memory (the growth is shown) -/
theorem dd_ev {R : Value → World → Prop} (hi : ops[i]? = some ⟨dst, op, ty, pos, af, gu⟩) (hg : gd ops L ⟨dst, op, ty, pos, af, gu⟩ = some true) (hd : inN n dst = true) (hv : EV P L ⟨dst, op, ty, pos, af, gu⟩ w R)
    (h : ∀ v w', R v w' → Gr w w' ∧ SD P n ops Q (Hld ms w₀) kp rest (putL dst v L) w') : SD P n ops Q (Hld ms w₀) kp ((i, 0) :: rest) L w :=
  ⟨_, hi, hd, .inl ⟨hg, R, hv, fun v w' hR => ⟨fun lv _ hS => by
    cases lv with
    | zero => exact Gr.trans hS (h v w' hR).1
    | succ k => exact Kp.gr hS (h v w' hR).1, (h v w' hR).2⟩⟩⟩
theorem dd_s0 (hi : ops[i]? = some ⟨dst, op, ty, pos, af, gu⟩) (hg : gd ops L ⟨dst, op, ty, pos, af, gu⟩ = some false) (hd : inN n dst = true)
    (h : SD P n ops Q (Hld ms w₀) kp rest (putL dst undef L) w) : SD P n ops Q (Hld ms w₀) kp ((i, 0) :: rest) L w := ⟨_, hi, hd, .inr ⟨hg, h⟩⟩
/-- drawn: a store -/
theorem dd_st {R : Value → World → Prop} {b : Nat} (hi : ops[i]? = some ⟨dst, op, ty, pos, af, gu⟩) (hk : kp 0 i = false) (hg : gd ops L ⟨dst, op, ty, pos, af, gu⟩ = some true) (hd : inN n dst = true) (hv : EV P L ⟨dst, op, ty, pos, af, gu⟩ w R) (hb : b ∈ ms ∨ w₀.heap.size ≤ b)
    (h : ∀ v w', R v w' → Md b w w' ∧ SD P n ops Q (Hld ms w₀) kp rest (putL dst v L) w') : SD P n ops Q (Hld ms w₀) kp ((i, 2) :: rest) L w :=
  ⟨_, hi, hd, .inl ⟨hg, R, hv, fun v w' hR => ⟨fun lv hk' hS => by
    cases lv with
    | zero => rw [hk] at hk'; cases hk'
    | succ k => exact Kp.md hS (h v w' hR).1 hb, (h v w' hR).2⟩⟩⟩
theorem dd_s2 (hi : ops[i]? = some ⟨dst, op, ty, pos, af, gu⟩) (hg : gd ops L ⟨dst, op, ty, pos, af, gu⟩ = some false) (hd : inN n dst = true)
    (h : SD P n ops Q (Hld ms w₀) kp rest (putL dst undef L) w) : SD P n ops Q (Hld ms w₀) kp ((i, 2) :: rest) L w := ⟨_, hi, hd, .inr ⟨hg, h⟩⟩
end

section
variable {P : Program} {r : Option Nat} {n : Nat} {Q : Exit → List Deferred → Slots → World → Prop} {K : List Deferred → Slots → World → Prop} {D : List Deferred} {L : Slots} {w : World} {id id' : Nat}
theorem sd_done {y : Code} {ops : Array Oper} {S : Nat → World → Prop} {kp : Nat → Nat → Bool} (h : SW P r n y Q D L w) : SD P n ops (fun L w => thenQ (fun D L w => SW P r n y Q D L w) Q .normal D L w) S kp [] L w := h
theorem then_n {y : Code} (h : SW P r n y Q D L w) : thenQ (fun D L w => SW P r n y Q D L w) Q .normal D L w := h
theorem then_x (h : Q (.exit id) D L w) : thenQ K Q (.exit id) D L w := h
theorem then_r (h : Q .ret D L w) : thenQ K Q .ret D L w := h
theorem block_n (h : Q .normal D L w) : blockQ id Q .normal D L w := h
theorem block_r (h : Q .ret D L w) : blockQ id Q .ret D L w := h
theorem block_x (h : Q .normal D L w) : blockQ id Q (.exit id) D L w := by simpa [blockQ] using h
theorem block_o (e : Nat.beq id' id = false) (h : Q (.exit id') D L w) : blockQ id Q (.exit id') D L w := by simpa [blockQ, e] using h
end

/-- the marks of loops over functions are taken off at a return -/
def Leave : List Deferred → World → World → Prop
  | [], w, w' => w' = w
  | d :: ds, w, w' => ∃ k, d.target = .collected k ∧ w.heap[k]? = some (.deferred (some [])) ∧ Leave ds (w.putObj k (.deferred none)) w'
/-- the results of a function, by what is known -/
def RES (P : Program) (fn : Func) (L : Slots) (w : World) (v : Value) : Prop := ∀ n D a, FOk n D L a → (results fn a.tmps).run P w = .ok v w
def retQ (P : Program) (fn : Func) (R : Value → World → Prop) : Exit → List Deferred → Slots → World → Prop
  | .normal, D, L, w | .ret, D, L, w => ∃ w' v, Leave D w w' ∧ RES P fn L w' v ∧ R v w'
  | _, _, _, _ => False
theorem leave_in {P : Program} {fn : Func} {tmps : Array Value} {R : Value → World → Prop} : ∀ (D : List Deferred) (w w' : World) (v : Value), Leave D w w' → (results fn tmps).run P w' = .ok v w' → R v w' →
    LeavesInM Fence.wide 0 P fn tmps (fun e w'' => ∃ v, e = .returned v ∧ R v w'') D .returning w
  | [], w, w', v, hl, hr, hR => by cases hl; exact ⟨v, hr, v, rfl, hR⟩
  | d :: ds, w, w', v, ⟨k, hk, hb, hl⟩, hr, hR => ⟨by simp, .inl ⟨k, _, hk, run_takeDeferred hb, leave_in ds _ w' v hl hr hR⟩⟩
def argSlots : Nat → List Value → Slots
  | _, [] => []
  | i, v :: r => (i, v) :: argSlots (i + 1) r
theorem lk_argSlots : ∀ (vs : List Value) (k i : Nat) (v : Value), lk i (argSlots k vs) = some v → k ≤ i ∧ vs[i - k]? = some v
  | [], k, i, v, h => by cases h
  | u :: r, k, i, v, h => by
    simp only [argSlots, lk] at h
    by_cases e : k = i
    · subst e; simp at h; subst h; exact ⟨Nat.le_refl _, by simp⟩
    · rw [beq_ne e] at h
      obtain ⟨h1, h2⟩ := lk_argSlots r (k + 1) i v h
      refine ⟨by omega, ?_⟩
      have : i - k = (i - (k + 1)) + 1 := by omega
      rw [this]; simpa using h2
/-- a function's contract out of its body's walk -/
theorem calls_of_sw {P : Program} {f : FuncId} {fn : Func} {c : Code} {vs : List Value} {w : World} {R : Value → World → Prop} (n : Nat) (hf : P.funcs[f]? = some fn) (hb : fn.body = some c) (hn : fn.ntmps = n) (hl : Nat.ble vs.length n = true)
    (h : SW P none n c (retQ P fn R) [] (argSlots 0 vs) w) : Calls P f vs.toArray w fun e w' => ∃ v, e = .returned v ∧ R v w' := by
  refine (callsIn_wide (n := 0)).1 (callsIn_of_wp_marks hf hb trivial ?_)
  have hl' : vs.length ≤ n := Nat.le_of_ble_eq_true hl
  have hfo : FOk n [] (argSlots 0 vs) { tmps := vs.toArray ++ Array.replicate (fn.ntmps - vs.toArray.size) undef, defers := [] } := by
    refine ⟨by simp [hn]; omega, rfl, fun i v e => ?_⟩
    have := (lk_argSlots vs 0 i v e).2
    simp only [Nat.sub_zero] at this
    have hi := (List.getElem?_eq_some_iff.1 this).1
    rw [Array.getElem?_append_left (by simpa using hi)]
    simpa using this
  refine wpIn_mono (h _ hfo) fun e a' w' hh => ?_
  cases e with
  | normal => obtain ⟨D, L, h1, w'', v, h2, h3, h4⟩ := hh; show LeavesInM _ _ _ _ _ _ a'.defers _ _; rw [h1.defers]; exact leave_in D w' w'' v h2 (h3 _ _ _ h1) h4
  | ret => obtain ⟨D, L, h1, w'', v, h2, h3, h4⟩ := hh; show LeavesInM _ _ _ _ _ _ a'.defers _ _; rw [h1.defers]; exact leave_in D w' w'' v h2 (h3 _ _ _ h1) h4
  | exit id => obtain ⟨_, _, _, h⟩ := hh; exact h.elim
  | goto l => obtain ⟨_, _, _, h⟩ := hh; exact h.elim
  | panic c => exact hh.elim
  | outgrown => exact hh.elim
end Go.Sx
