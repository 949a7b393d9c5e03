/- SX: regions that draw their order: what is held in every world that meets S comes first. -/
import Derived.Test.YtjdffpglgkefmaaGreatSx
set_option linter.unusedVariables false
set_option linter.unusedSimpArgs false
namespace Go.Sx
open Go

section
variable {P : Program} {r : Option Nat} {ops : Array Oper} {Q : Exit → Act → World → Prop} {S : World → Prop}

/-- in frame a, in every world that meets S, the operation leaves v in its slot and does nothing else -/
def YI (P : Program) (ops : Array Oper) (S : World → Prop) (o : Oper) (v : Value) (a : Act) : Prop :=
  (Region.wanted o (yielded ops a.tmps) = true ∧ ∀ w, S w → (execOp a.eval o).run P w = .ok (.value v) w) ∨ (Region.wanted o (yielded ops a.tmps) = false ∧ v = undef)

theorem YI.same {o : Oper} {v : Value} {a a' : Act} (hy : YI P ops S o v a) (he : execOp a'.eval o = execOp a.eval o)
    (hw : Region.wanted o (yielded ops a'.tmps) = Region.wanted o (yielded ops a.tmps)) : YI P ops S o v a' := by
  unfold YI at *; rw [he, hw]; exact hy
theorem YI.wp {i : Nat} {o : Oper} {v : Value} {a : Act} (hn : nodef o.op = true) (hi : ops[i]? = some o) (hy : YI P ops S o v a)
    {K : Act → World → Prop} {w : World} (hS : S w) (h : K (a.put o.dst v) w) : wpOpIn (Fw r) 0 P ops Q i K a w := by
  unfold wpOpIn
  simp only [hi]
  rcases hy with ⟨hw, hv⟩ | ⟨hw, rfl⟩
  · simp only [hw, if_true]
    refine ⟨fun _ _ => trivial, ?_⟩
    rw [Oper.semAt_eq _ _ _ (nodef_spec hn), hv w hS]; exact h
  · simp only [hw, Bool.false_eq_true, if_false]; exact ⟨fun _ _ => trivial, h⟩

theorem opPut {j : Nat} {oi oj : Oper} {v : Value} (hj : ops[j]? = some oj) (hap : oi.apart ops oj = true) (hn : nodef oj.op = true)
    (hsi : ∀ cs b, oi.op ≠ .select cs b) (hsj : ∀ cs b, oj.op ≠ .select cs b)
    (hQ : ∀ c a w, ¬ Q (.panic c) a w) (hO : ¬ LetsOut Q) {K : Act → World → Prop} {a : Act} {w : World}
    (hy : YI P ops S oi v a) (h : wpOpIn (Fw r) 0 P ops Q j K (a.put oi.dst v) w) :
    wpOpIn (Fw r) 0 P ops Q j (fun a' w' => YI P ops S oi v a' ∧ K (a'.put oi.dst v) w') a w := by
  obtain ⟨h1, h2, h3⟩ := Oper.apart_spec hap
  have keep : ∀ u, YI P ops S oi v (a.put oj.dst u) := fun u => hy.same (execOp_put oi hsi a oj.dst u h3) (wanted_put oi a oj.dst u h3)
  have turn : ∀ u, (a.put oi.dst v).put oj.dst u = (a.put oj.dst u).put oi.dst v := fun u => Act.put_comm a v u h2
  unfold wpOpIn at *
  simp only [hj] at *
  rw [wanted_put oj a oi.dst v h1] at h
  by_cases hw : Region.wanted oj (yielded ops a.tmps) = true
  · simp only [hw, if_true] at h ⊢
    refine ⟨fun _ _ => trivial, ?_⟩
    have h := h.2
    rw [Oper.semAt_eq _ _ _ (nodef_spec hn), execOp_put oj hsj a oi.dst v h1] at h
    rw [Oper.semAt_eq _ _ _ (nodef_spec hn)]
    generalize (execOp a.eval oj).run P w = res at *
    cases res with
    | ok x w' =>
      cases x <;> simp only [Oper.uponIn] at h ⊢
      case value u => exact ⟨keep u, by rw [← turn]; exact h⟩
      case skip => exact ⟨keep _, by rw [← turn]; exact h⟩
      case defer d =>
        refine ⟨?_, ?_⟩
        · have := keep undef
          exact (hy.same (a' := { a with defers := d :: a.defers }) rfl rfl).same (execOp_put oi hsi _ oj.dst undef h3) (wanted_put oi _ oj.dst undef h3)
        · rw [← Act.put_comm _ v undef h2, ← Act.put_defers]; exact h
      case enter f args =>
        refine ⟨h.1, CallsIn.mono h.2 fun e w'' he => ?_⟩
        cases e with
        | returned u => exact ⟨keep u, by rw [← turn]; exact he⟩
        | panicked c => exact (hQ _ _ _ he).elim
        | outgrown => exact (hO he).elim
      case row row args => exact ⟨h.1, RowsIn.mono h.2 fun u w'' he => ⟨keep u, by rw [← turn]; exact he⟩⟩
      case round l f tmps assign body =>
        refine ⟨h.1, RoundIn.mono h.2 fun e w'' he => ?_⟩
        cases e with
        | returned u => exact ⟨keep u, by rw [← turn]; exact he⟩
        | panicked c => exact (hQ _ _ _ he).elim
        | outgrown => exact (hO he).elim
    | halt x w' =>
      cases x <;> simp only [Oper.uponIn] at h ⊢
      case panic u => exact (hQ _ _ _ h).elim
  · simp only [hw, Bool.false_eq_true, if_false] at h ⊢
    exact ⟨fun _ _ => trivial, keep _, by rw [← turn]; exact h.2⟩

/-- whatever may come up comes up; behind what keeps it S is shown anew -/
def anyH (P : Program) (r : Option Nat) (ops : Array Oper) (Q : Exit → Act → World → Prop) (S : Nat → World → Prop) (kp : Nat → Nat → Bool) : Nat → Array Bool → Act → World → Prop
  | 0, listed, a, w => Region.ready .any ops listed = [] ∧ Q .normal a w
  | fuel + 1, listed, a, w => (Region.ready .any ops listed = [] → Q .normal a w) ∧
    ∀ i ∈ Region.ready .any ops listed, wpOpIn (Fw r) 0 P ops Q i (fun a' w' => (∀ v, kp v i = true → S v w → S v w') ∧ anyH P r ops Q S kp fuel (listed.setIfInBounds i true) a' w') a w
theorem anyH.any {S : Nat → World → Prop} {kp : Nat → Nat → Bool} : ∀ (fuel : Nat) (listed : Array Bool) (a : Act) (w : World), anyH P r ops Q S kp fuel listed a w → wpAnyIn (Fw r) 0 P .any ops Q fuel listed a w
  | 0, _, _, _, h => h
  | fuel + 1, _, _, _, h => ⟨h.1, fun i hi => wpOpIn_mono (fun a' w' h' => anyH.any fuel _ a' w' h'.2) (h.2 i hi)⟩

def allNodef (ops : Array Oper) : Bool := ops.toList.all fun o => nodef o.op && (match o.op with | .select .. => false | _ => true)
theorem allNodef.nd (h : allNodef ops = true) {j : Nat} {o : Oper} (hj : ops[j]? = some o) : nodef o.op = true := by
  have := List.all_eq_true.1 h o (Array.mem_toList_iff.2 (Array.mem_of_getElem? hj))
  exact (Bool.and_eq_true_iff.1 this).1
theorem allNodef.ns (h : allNodef ops = true) {j : Nat} {o : Oper} (hj : ops[j]? = some o) : ∀ cs b, o.op ≠ .select cs b := by
  have := List.all_eq_true.1 h o (Array.mem_toList_iff.2 (Array.mem_of_getElem? hj))
  intro cs b e
  have := (Bool.and_eq_true_iff.1 this).2
  rw [e] at this; cases this

theorem anyH_first (hnd : allNodef ops = true) {i : Nat} {oi : Oper} {v : Value} (hi : ops[i]? = some oi) (hQ : ∀ c a w, ¬ Q (.panic c) a w) (hO : ¬ LetsOut Q) {S : Nat → World → Prop} {kp : Nat → Nat → Bool} {lv : Nat} :
    ∀ (fuel : Nat) (listed : Array Bool) (a : Act) (w : World),
      (∀ j oj, ops[j]? = some oj → j ≠ i → listed.getD j true = false → (∀ e ∈ oj.after, Region.binds .any e = true → e.on ≠ i) → oi.apart ops oj = true ∧ kp lv j = true) →
      i ∈ Region.ready .any ops listed → YI P ops (S lv) oi v a → S lv w →
      anyH P r ops Q S kp fuel (listed.setIfInBounds i true) (a.put oi.dst v) w → anyH P r ops Q S kp (fuel + 1) listed a w := by
  intro fuel
  induction fuel with
  | zero =>
    intro listed a w _ hr hy hS H
    refine ⟨fun h => (by rw [h] at hr; cases hr), fun j hj => ?_⟩
    by_cases hji : j = i
    · subst hji; exact hy.wp (allNodef.nd hnd hi) hi hS ⟨fun _ _ h => h, H⟩
    · have := ready_mono hj hji
      rw [H.1] at this; cases this
  | succ fuel ih =>
    intro listed a w hfree hr hy hS H
    refine ⟨fun h => (by rw [h] at hr; cases hr), fun j hj => ?_⟩
    by_cases hji : j = i
    · subst hji; exact hy.wp (allNodef.nd hnd hi) hi hS ⟨fun _ _ h => h, H⟩
    · have h1 := H.2 j (ready_mono hj hji)
      obtain ⟨hjun, oj, hoj, hall⟩ := mem_ready.1 hj
      have hnot : ∀ e ∈ oj.after, Region.binds .any e = true → e.on ≠ i := by
        intro e he hb heq
        have q1 := hall e he hb
        have q0 := (mem_ready.1 hr).1
        rw [heq] at q1
        rcases Nat.lt_or_ge i listed.size with q | q
        · simp [q] at q0 q1; rw [q0] at q1; cases q1
        · simp [Array.getElem?_eq_none q] at q1
      obtain ⟨hap, hkj⟩ := hfree j oj hoj hji hjun hnot
      have h2 := opPut hoj hap (allNodef.nd hnd hoj) (allNodef.ns hnd hi) (allNodef.ns hnd hoj) hQ hO hy h1
      refine wpOpIn_mono (fun a' w' h3 => ⟨h3.2.1, ih (listed.setIfInBounds j true) a' w' ?_ (ready_mono hr (Ne.symm hji)) h3.1 (h3.2.1 lv hkj hS) ?_⟩) h2
      · intro k ok hk hki hun hno
        refine hfree k ok hk hki ?_ hno
        by_cases hjk : j = k
        · subst hjk; exact hjun
        · rw [getD_set_ne true hjk] at hun; exact hun
      · rw [Array.setIfInBounds_comm _ _ hji]; exact h3.2.2
end

/-- whatever could come before number i keeps S -/
def keepers (ops : Array Oper) (kp : Nat → Bool) (listed : Array Bool) (i : Nat) : Bool :=
  (List.range ops.size).all fun j => j == i || listed.getD j true || kp j || match ops[j]? with
    | some oj => oj.after.any (fun e => Region.binds .any e && e.on == i)
    | none => true
theorem keepers_spec {ops : Array Oper} {kp : Nat → Bool} {listed : Array Bool} {i : Nat} (h : keepers ops kp listed i = true) (j : Nat) (oj : Oper)
    (hj : ops[j]? = some oj) (hne : j ≠ i) (hun : listed.getD j true = false) (hno : ∀ e ∈ oj.after, Region.binds .any e = true → e.on ≠ i) : kp j = true := by
  simp only [keepers, List.all_eq_true, List.mem_range] at h
  have h1 := h j (Array.getElem?_eq_some_iff.1 hj).1
  simp only [hj, Bool.or_eq_true, beq_iff_eq, hne, false_or, hun, Bool.false_eq_true] at h1
  rcases h1 with h1 | h1
  · exact h1
  · obtain ⟨e, he, hb⟩ := Array.any_eq_true'.1 h1
    simp only [Bool.and_eq_true, beq_iff_eq] at hb
    exact absurd hb.2 (hno e he hb.1)

/-- an order in which a region may be walked: a number, and 0: it only adds to memory, 1: it is held while nothing that was there turns, 2: a store, 3: it is held whatever the stores do -/
def kpOf (l : List (Nat × Nat)) (lv j : Nat) : Bool := !(Nat.beq lv 0 && l.any fun x => x.1 == j && x.2 == 2)
def lvl (c : Nat) : Option Nat := bif Nat.beq c 1 then some 0 else bif Nat.beq c 3 then some 1 else bif Nat.ble 10 c then some (c - 10) else none
def okOrder (ops : Array Oper) (kp : Nat → Nat → Bool) : List (Nat × Nat) → Array Bool → Bool
  | [], listed => (Region.ready .any ops listed).isEmpty
  | (i, c) :: rest, listed => match lvl c with
    | some lv => (Region.ready .any ops listed).contains i && Region.free .any ops listed i && keepers ops (kp lv) listed i && okOrder ops kp rest (listed.setIfInBounds i true)
    | none => (Region.ready .any ops listed == [i]) && okOrder ops kp rest (listed.setIfInBounds i true)

/-- the walk over the operations of a region, in the order given -/
def SD (P : Program) (n : Nat) (ops : Array Oper) (Q : Slots → World → Prop) (S : Nat → World → Prop) (kp : Nat → Nat → Bool) : List (Nat × Nat) → Slots → World → Prop
  | [], L, w => Q L w
  | (i, c) :: rest, L, w => match lvl c with
    | some lv => ∃ o v, ops[i]? = some o ∧ inN n o.dst = true ∧ S lv w ∧ ((gd ops L o = some true ∧ HV P (S lv) L o v) ∨ (gd ops L o = some false ∧ v = undef)) ∧ SD P n ops Q S kp rest (putL o.dst v L) w
    | none => ∃ o, ops[i]? = some o ∧ inN n o.dst = true ∧
      ((gd ops L o = some true ∧ ∃ R, EV P L o w R ∧ ∀ v w', R v w' → (∀ lv, kp lv i = true → S lv w → S lv w') ∧ SD P n ops Q S kp rest (putL o.dst v L) w') ∨
       (gd ops L o = some false ∧ SD P n ops Q S kp rest (putL o.dst undef L) w))

section
variable {P : Program} {r : Option Nat} {n : Nat} {ops : Array Oper} {Q : Slots → World → Prop} {S : Nat → World → Prop} {kp : Nat → Nat → Bool} {D : List Deferred} {QA : Exit → Act → World → Prop}

theorem SD.anyH (hnd : allNodef ops = true) (hQ : ∀ c a w, ¬ QA (.panic c) a w) (hO : ¬ LetsOut QA) (hq : ∀ L a w, FOk n D L a → Q L w → QA .normal a w) :
    ∀ (l : List (Nat × Nat)) (listed : Array Bool) (L : Slots) (a : Act) (w : World), okOrder ops kp l listed = true → FOk n D L a → SD P n ops Q S kp l L w →
      anyH P r ops QA S kp l.length listed a w
  | [], listed, L, a, w, ho, hf, h => ⟨by simpa [okOrder] using ho, hq L a w hf h⟩
  | (i, c) :: rest, listed, L, a, w, ho, hf, h => by
    unfold SD at h
    unfold okOrder at ho
    cases hc : lvl c with
    | some lv =>
      rw [hc] at h ho
      obtain ⟨o, v, hi, hd, hS, hv, hrest⟩ := h
      simp only [Bool.and_eq_true] at ho
      refine anyH_first hnd hi hQ hO rest.length listed a w (fun j oj h1 h2 h3 h4 => ⟨Region.free_spec hi ho.1.1.2 j oj h1 h2 h3 h4, keepers_spec ho.1.2 j oj h1 h2 h3 h4⟩) (by simpa using ho.1.1.1) ?_ hS
        (SD.anyH hnd hQ hO hq rest _ _ _ w ho.2 (hf.put hd) hrest)
      rcases hv with ⟨hg, hv⟩ | ⟨hg, rfl⟩
      · exact .inl ⟨gd_spec hf hg, fun w' hw' => hv w' hw' _ hf.cons⟩
      · exact .inr ⟨gd_spec hf hg, rfl⟩
    | none =>
      rw [hc] at h ho
      obtain ⟨o, hi, hd, h⟩ := h
      simp only [Bool.and_eq_true, beq_iff_eq] at ho
      refine ⟨fun h0 => (by rw [ho.1] at h0; cases h0), fun j hj => ?_⟩
      rw [ho.1] at hj
      simp only [List.mem_singleton] at hj
      subst hj
      unfold wpOpIn
      simp only [hi]
      rcases h with ⟨hg, R, hev, hk⟩ | ⟨hg, hrest⟩
      · rw [gd_spec hf hg, if_pos rfl]
        exact (hev _ hf.cons).uponIn (allNodef.nd hnd hi) fun v w' hR => ⟨(hk v w' hR).1, SD.anyH hnd hQ hO hq rest _ _ _ w' ho.2 (hf.put hd) (hk v w' hR).2⟩
      · rw [gd_spec hf hg]
        simp only [Bool.false_eq_true, if_false]
        exact ⟨fun _ _ => trivial, fun _ _ h => h, SD.anyH hnd hQ hO hq rest _ _ _ w ho.2 (hf.put hd) hrest⟩

/-- a drawn region -/
theorem SD.drawn {id : Nat} {l : List (Nat × Nat)} {L : Slots} {a : Act} {w : World} (hm : P.follows .mixedOrders = true) (hnd : allNodef ops = true) (hlen : l.length = ops.size)
    (ho : okOrder ops kp l (Array.replicate ops.size false) = true) (hQ : ∀ c a w, ¬ QA (.panic c) a w) (hO : ¬ LetsOut QA) (hq : ∀ L a w, FOk n D L a → Q L w → QA .normal a w)
    (hf : FOk n D L a) (h : SD P n ops Q S kp l L w.drew) : (Code.region id ops true).wpIn (Fw r) 0 P QA a w :=
  wpIn_region_any hm (by have := (SD.anyH (r := r) hnd hQ hO hq l _ L a w.drew ho hf h).any; rw [hlen] at this; exact this)

/-- a region in the order of the text -/
theorem SD.text (hnd : allNodef ops = true) (hq : ∀ L a w, FOk n D L a → Q L w → QA .normal a w) :
    ∀ (l : List (Nat × Nat)) (L : Slots) (a : Act) (w : World), (l.all fun x => (lvl x.2).isNone) = true → FOk n D L a → SD P n ops Q S kp l L w → wpOpsIn (Fw r) 0 P ops QA (l.map (·.1)) a w
  | [], L, a, w, _, hf, h => hq L a w hf h
  | (i, c) :: rest, L, a, w, hl, hf, h => by
    simp only [List.all_cons, Bool.and_eq_true] at hl
    unfold SD at h
    rw [Option.isNone_iff_eq_none.1 hl.1] at h
    obtain ⟨o, hi, hd, h⟩ := h
    simp only [List.map_cons]
    rw [wpOpsIn_cons]
    unfold wpOpIn
    simp only [hi]
    rcases h with ⟨hg, R, hev, hk⟩ | ⟨hg, hrest⟩
    · rw [gd_spec hf hg, if_pos rfl]
      exact (hev _ hf.cons).uponIn (allNodef.nd hnd hi) fun v w' hR => SD.text hnd hq rest _ _ w' hl.2 (hf.put hd) (hk v w' hR).2
    · rw [gd_spec hf hg]
      simp only [Bool.false_eq_true, if_false]
      exact ⟨fun _ _ => trivial, SD.text hnd hq rest _ _ w hl.2 (hf.put hd) hrest⟩
end
end Go.Sx
