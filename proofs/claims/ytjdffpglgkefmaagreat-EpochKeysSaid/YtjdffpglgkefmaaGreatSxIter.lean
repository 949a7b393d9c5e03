/- SX: iterators, and loops over them. -/
import Derived.Test.YtjdffpglgkefmaaGreatSxOps
import Derived.RangeFuncIn
set_option linter.unusedVariables false
set_option linter.unusedSimpArgs false
namespace Go.Sx
open Go Go.RowKit

structure Env (w w' : World) : Prop where
  os : w'.os = w.os
  tape : w'.tape = w.tape
  output : w'.output = w.output
  size : w.heap.size ≤ w'.heap.size
theorem Kp.env {ms : List Nat} {w w' : World} (h : Kp ms w w') : Env w w' := ⟨h.os, h.tape, h.output, h.size⟩
theorem Kp.trans {ms ms' : List Nat} {w w₁ w₂ : World} (h : Kp ms w w₁) (k : Kp ms' w₁ w₂) (hm : ∀ b ∈ ms', b ∈ ms ∨ w.heap.size ≤ b) : Kp ms w w₂ :=
  ⟨k.os.trans h.os, k.tape.trans h.tape, k.output.trans h.output, Nat.le_trans h.size k.size, fun b hb hn => (k.block b (Nat.lt_of_lt_of_le hb h.size) (fun hb' => by
    rcases hm b hb' with h1 | h1
    · exact hn h1
    · omega)).trans (h.block b hb hn)⟩
theorem Kp.mono {ms ms' : List Nat} {w w' : World} (h : Kp ms w w') (hs : ∀ b ∈ ms, b ∈ ms') : Kp ms' w w' := ⟨h.os, h.tape, h.output, h.size, fun k hk hn => h.block k hk fun hm => hn (hs k hm)⟩
theorem Gr.toKp {ms : List Nat} {w w' : World} (h : Gr w w') : Kp ms w w' := ⟨h.os, h.tape, h.output, h.size, fun k hk _ => h.block k hk⟩
theorem Md.put {w : World} (l : Nat) (o : Obj) : Md l w (w.putObj l o) := ⟨rfl, rfl, rfl, by simp, fun _ hk => World.putObj_heap_other hk⟩

/-- what a caller keeps of its own memory between two rounds: the blocks fp, and what they hold -/
structure Stb (J : Nat → List Nat → World → Prop) : Prop where
  lt : ∀ {k fp W}, J k fp W → ∀ b ∈ fp, b < W.heap.size
  keep : ∀ {k fp W W'}, J k fp W → Env W W' → (∀ b ∈ fp, W'.heap[b]? = W.heap[b]?) → J k fp W'
theorem Stb.gr {J : Nat → List Nat → World → Prop} (hJ : Stb J) {k : Nat} {f : List Nat} {W W' : World} (h : J k f W) (g : Gr W W') : J k f W' := hJ.keep h ⟨g.os, g.tape, g.output, g.size⟩ fun b hb => g.block b (hJ.lt h b hb)
theorem Stb.md {J : Nat → List Nat → World → Prop} (hJ : Stb J) {k b : Nat} {f : List Nat} {W W' : World} (h : J k f W) (m : Md b W W') (hb : b ∉ f) : J k f W' := hJ.keep h ⟨m.os, m.tape, m.output, by rw [m.size]; exact Nat.le_refl _⟩ fun c hc => m.block c (by rintro rfl; exact hb hc)
theorem notin_grow {f f' : List Nat} {s b : Nat} (hF : ∀ c ∈ f', c ∈ f ∨ s ≤ c) (h : b ∉ f) (hlt : b < s) : b ∉ f' := fun hb => by
  rcases hF b hb with h1 | h1
  · exact h h1
  · omega
theorem sub_grow {fp f f' : List Nat} {s0 s1 : Nat} (hf : ∀ c ∈ f, c ∈ fp ∨ s0 ≤ c) (hF : ∀ c ∈ f', c ∈ f ∨ s1 ≤ c) (hs : s0 ≤ s1) : ∀ c ∈ f', c ∈ fp ∨ s0 ≤ c := fun c hc => by
  rcases hF c hc with h | h
  · exact hf c h
  · exact .inr (by omega)
/-- a caller that keeps some boxes: b, its type, what it holds behind k rounds -/
theorem stb_box (b : Nat) (t : TypeId) (f : Nat → List Value) : Stb fun k fp W => fp = [b] ∧ Bx W b t (f k) :=
  ⟨fun ⟨h1, h2⟩ c hc => by subst h1; simp at hc; subst hc; exact h2.lt, fun ⟨h1, h2⟩ _ hs => ⟨h1, (hs _ (by rw [h1]; simp)).trans h2⟩⟩
theorem stb_boxP (b : Nat) (t : TypeId) (f : Nat → List Value) (p : Nat → Prop) : Stb fun k fp W => fp = [b] ∧ Bx W b t (f k) ∧ p k :=
  ⟨fun ⟨h1, h2, _⟩ c hc => by subst h1; simp at hc; subst hc; exact h2.lt, fun ⟨h1, h2, h3⟩ _ hs => ⟨h1, (hs _ (by rw [h1]; simp)).trans h2, h3⟩⟩
theorem stb_retP {α : Type} (c c0 : Code) (b : Nat) (t : TypeId) (f : α → List Value) (p : Nat → α → Prop) : Stb fun k fp W => c = c0 ∧ fp = [b] ∧ ∃ a, Bx W b t (f a) ∧ p k a :=
  ⟨fun ⟨_, h1, a, h2, _⟩ c hc => by subst h1; simp at hc; subst hc; exact h2.lt, fun ⟨h0, h1, a, h2, h3⟩ _ hs => ⟨h0, h1, a, (hs _ (by rw [h1]; simp)).trans h2, h3⟩⟩
theorem map_some {α β : Type} {l : List α} {c : α → β} {k : Nat} {y : β} (h : (l.map c)[k]? = some y) : ∃ x, l[k]? = some x ∧ c x = y := by simpa using h
theorem find_at {α : Type} {p : α → Bool} : ∀ {l : List α} {k : Nat} {n : α}, l[k]? = some n → p n = true → (∀ m ∈ l.take k, p m = false) → l.find? p = some n
  | [], k, n, h, _, _ => by simp at h
  | a :: l, 0, n, h, hp, _ => by simp at h; subst h; simp [hp]
  | a :: l, k + 1, n, h, hp, hn => by
    simp at h
    have ha := hn a (by simp)
    rw [List.find?_cons, ha]
    exact find_at h hp fun m hm => hn m (by simp [hm])
theorem find_no {α : Type} {p : α → Bool} {l : List α} (h : ∀ m ∈ l.take l.length, p m = false) : l.find? p = none := by
  rw [List.take_length] at h; exact List.find?_eq_none.2 fun m hm => by simp [h m hm]
theorem take_step {α : Type} {q : α → Prop} {l : List α} {k : Nat} {n : α} (h : ∀ m ∈ l.take k, q m) (hk : l[k]? = some n) (hn : q n) : ∀ m ∈ l.take (k + 1), q m := by
  intro m hm
  rw [List.take_add_one, hk] at hm
  simp at hm
  rcases hm with hm | rfl
  · exact h m hm
  · exact hn
theorem stb_false : Stb fun _ _ _ => False := ⟨fun h => h.elim, fun h => h.elim⟩
theorem stb_none : Stb fun _ fp _ => fp = [] := ⟨fun h b hb => (by rw [h] at hb; cases hb), fun h _ _ => h⟩
/-- the block for a loop's deferred calls -/
def Df (w : World) (b : Nat) : Prop := w.heap[b]? = some (.deferred (some []))
theorem Df.lt {w : World} {b : Nat} (h : Df w b) : b < w.heap.size := (Array.getElem?_eq_some_iff.1 h).1
theorem Df.gr {w w' : World} {b : Nat} (h : Df w b) (g : Gr w w') : Df w' b := (g.block b h.lt).trans h
theorem Df.md {w w' : World} {b c : Nat} (h : Df w c) (m : Md b w w') (ne : c ≠ b := by omega) : Df w' c := (m.block c ne).trans h
theorem Df.kp {ms : List Nat} {w w' : World} {b : Nat} (h : Df w b) (g : Kp ms w w') (hn : b ∉ ms) : Df w' b := (g.block b h.lt hn).trans h
theorem leave1 {w : World} {b : Nat} (h : Df w b) : Leave [⟨.collected b, #[]⟩] w (w.putObj b (.deferred none)) := ⟨b, rfl, h, rfl⟩
/-- a call of yield -/
def YD (P : Program) (l : Nat) (vs : List Value) (W : World) (R : Bool → World → Prop) : Prop :=
  ∃ f tmps assign body, (Instr.yield l vs.toArray).run P W = .ok (.round l f tmps assign body) W ∧ RoundIn Fence.wide 0 P l f tmps assign body W fun e W' => ∃ b, e = .returned (.bool b) ∧ R b W'
/-- behind a round: what it may have turned; it goes on, or it has said 'no more' -/
def Rnd (J Jx : Nat → List Nat → World → Prop) (k : Nat) (fp : List Nat) (W : World) (b : Bool) (W' : World) : Prop :=
  Kp fp W W' ∧ ∃ fp', (∀ c ∈ fp', c ∈ fp ∨ W.heap.size ≤ c) ∧ (bif b then J (k + 1) fp' W' else Jx (k + 1) fp' W')
/-- an iterator's contract: it yields xs, one after the other, as long as it is told to go on; cap: the blocks on which it leans -/
def IT (P : Program) (g : Nat) (lb : List Value) (xs : List (List Value)) (cap : List Nat) (w : World) : Prop :=
  ∀ (l : Nat) (J Jx : Nat → List Nat → World → Prop) (W : World) (fp : List Nat), Gr w W → Stb J → Stb Jx → (∀ b ∈ cap, b ∉ fp) → J 0 fp W →
    (∀ k x fp' W1, xs[k]? = some x → J k fp' W1 → Kp fp W W1 → (∀ c ∈ fp', c ∈ fp ∨ W.heap.size ≤ c) → YD P l x W1 (Rnd J Jx k fp' W1)) →
    Calls P g (Value.func (.yield l) #[] #[] :: lb).toArray W fun e W' => ∃ v, e = .returned v ∧ Kp fp W W' ∧ ((∃ fp', (∀ c ∈ fp', c ∈ fp ∨ W.heap.size ≤ c) ∧ J xs.length fp' W') ∨ (∃ k fp', (∀ c ∈ fp', c ∈ fp ∨ W.heap.size ≤ c) ∧ k ≤ xs.length ∧ Jx k fp' W'))

section
variable {P : Program} {L : Slots} {w : World} {dst : Option Nat} {ty : TypeId} {pos : String} {af : Array Edge} {gu : Option (Nat × Bool)}
theorem ev_yield {x : Operand} {l : Nat} {as : Array Operand} {at_ : Array TypeId} {vs : List Value} {R : Bool → World → Prop} (hx : ev L x = some (.func (.yield l) #[] #[])) (hargs : evs L as.toList = some vs)
    (hy : YD P l vs w R) : EV P L ⟨dst, .call { callee := .value x, args := as, argTypes := at_ }, ty, pos, af, gu⟩ w fun v w' => ∃ b, v = .bool b ∧ R b w' := fun ρ hρ => by
  obtain ⟨f, tmps, assign, body, hrun, hR⟩ := hy
  refine .round l f tmps assign body w ?_ (hR.mono ?_)
  · simp only [execOp, resolve, hρ.mapA hargs, hρ _ _ hx, Deferred.ofValue, Sem.run_bind, Sem.run_pure, Result.andThen, invoke]
    simpa using hrun
  · rintro e w' ⟨b, rfl, hb⟩
    exact ⟨_, rfl, b, rfl, hb⟩
end

def psL : List Nat → List Value → Slots → Slots
  | p :: ps, v :: vs, L => psL ps vs ((p, v) :: L)
  | _, _, L => L
theorem FOk.ps {n : Nat} : ∀ (ps : List Nat) (vs : List Value) (D : List Deferred) (L : Slots) (a : Act), FOk n D L a → (∀ p ∈ ps, p < n) →
    FOk n [] (psL ps vs L) { tmps := (ps.zip vs).foldl (fun t (x : Nat × Value) => t.setIfInBounds x.1 x.2) a.tmps, defers := [] }
  | [], vs, D, L, a, h, _ => ⟨by simpa using h.size, rfl, by simpa [psL] using h.get⟩
  | p :: ps, [], D, L, a, h, _ => ⟨by simpa using h.size, rfl, by simpa [psL] using h.get⟩
  | p :: ps, v :: vs, D, L, a, h, hp => by
    have h1 := h.put (d := some p) (v := v) (by simpa [inN] using hp p (by simp))
    have := FOk.ps ps vs D _ _ h1 (fun q hq => hp q (by simp [hq]))
    simpa [psL, putL, Act.put] using this

/-- how the body of a round may be left -/
def rndQ (I : Nat → List Nat → World → Prop) (Ix : Code → Nat → List Nat → World → Prop) (k : Nat) (fp : List Nat) (W : World) : Exit → List Deferred → Slots → World → Prop
  | .normal, _, _, W' => Kp fp W W' ∧ ∃ fp', (∀ c ∈ fp', c ∈ fp ∨ W.heap.size ≤ c) ∧ I (k + 1) fp' W'
  | .ret, _, _, W' => Kp fp W W' ∧ ∃ fp', (∀ c ∈ fp', c ∈ fp ∨ W.heap.size ≤ c) ∧ Ix .ret (k + 1) fp' W'
  | .exit id, _, _, W' => Kp fp W W' ∧ ∃ fp', (∀ c ∈ fp', c ∈ fp ∨ W.heap.size ≤ c) ∧ Ix (.exit id) (k + 1) fp' W'
  | _, _, _, _ => False
/-- the assignment to the loop's variables, and then the body -/
def asgQ (P : Program) (n l : Nat) (body : Code) (I : Nat → List Nat → World → Prop) (Ix : Code → Nat → List Nat → World → Prop) (k : Nat) (fp : List Nat) (W : World) : Exit → List Deferred → Slots → World → Prop
  | .normal, D1, L1, W1 => D1 = [] ∧ Gr W W1 ∧ ∀ W2, Md l W1 W2 → I k fp W2 → SW P (some l) n body (rndQ I Ix k fp W2) [] L1 W2
  | _, _, _, _ => False

/-- **a loop over a function** (not within another one) -/
theorem sw_rangeFunc {P : Program} {n : Nat} {g : Operand} {ps : Array Tmp} {assign body : Code} {Q : Exit → List Deferred → Slots → World → Prop} {D : List Deferred} {L : Slots} {w : World}
    {gf : Nat} {lb : List Value} (hg : ev L g = some (.func (.func gf) #[] lb.toArray)) (hen : En P gf) {xs : List (List Value)} {cap : List Nat} (hit : IT P gf lb xs cap w)
    (hps : ∀ x ∈ xs, x.length = ps.toList.length) (hpn : ps.toList.all (fun p => Nat.blt p n) = true)
    (I : Nat → List Nat → World → Prop) (Ix : Code → Nat → List Nat → World → Prop) (fp0 : List Nat) (hI : Stb I) (hIx : ∀ c, Stb (Ix c)) (hcap : ∀ b ∈ cap, b ∉ fp0 ∧ b < w.heap.size) (h0 : I 0 fp0 w)
    (hround : ∀ (l k : Nat) (x : List Value) (fp : List Nat) (W : World), w.heap.size ≤ l → xs[k]? = some x → I k fp W → Kp fp0 w W → (∀ b ∈ fp, b ∈ fp0 ∨ w.heap.size ≤ b) → l ∉ fp → l < W.heap.size →
      SW P (some l) n assign (asgQ P n l body I Ix k fp W) [] (psL ps.toList x L) W)
    (hdone : ∀ (D0 : Nat) (fp : List Nat) (W : World), w.heap.size ≤ D0 → W.heap[D0]? = some (.deferred (some [])) → D0 ∉ fp → I xs.length fp W → Kp fp0 w W → Q .normal (⟨.collected D0, #[]⟩ :: D) L W)
    (hstop : ∀ (D0 : Nat) (c : Code) (k : Nat) (fp : List Nat) (W : World), w.heap.size ≤ D0 → W.heap[D0]? = some (.deferred (some [])) → D0 ∉ fp → k ≤ xs.length → Ix c k fp W → Kp fp0 w W → SW P none n c Q (⟨.collected D0, #[]⟩ :: D) L W) :
    SW P none n (.rangeFunc g ps assign body) Q D L w := by
  intro a ha
  refine wpIn_rangeFunc ?_
  intro fn _
  have hgv : a.eval g = .func (.func gf) #[] lb.toArray := ha.cons _ _ hg
  obtain ⟨rec, hrec⟩ : ∃ rec : LoopState → Option Code → Loop, rec = fun st pe => { state := st, pending := pe, fn, tmps := a.tmps, params := ps, assign, body, defers := w.heap.size } := ⟨_, rfl⟩
  obtain ⟨W1, hW1⟩ : ∃ W1, (w.alloc (.deferred (some []))).alloc (.loop (rec .ready none)) = W1 := ⟨_, rfl⟩
  have hL1 : W1.heap[w.heap.size + 1]? = some (.loop (rec .ready none)) := by
    rw [← hW1]; have := World.alloc_heap_new (w.alloc (.deferred (some []))) (.loop (rec .ready none)); rwa [World.size_alloc] at this
  have hK1 : W1.heap[w.heap.size]? = some (.deferred (some [])) := by
    rw [← hW1]; exact (Below.heap_alloc _ _ _ (by simp)).trans (World.alloc_heap_new w _)
  have hG1 : Gr w W1 := by rw [← hW1]; exact ((Below.refl _ w).alloc (Nat.le_refl _) _).alloc (by simp) _
  have hI1 : I 0 fp0 W1 := hI.keep h0 ⟨hG1.os, hG1.tape, hG1.output, hG1.size⟩ (fun b hb => hG1.block b (hI.lt h0 b hb))
  have hfl : ∀ b ∈ fp0, b < w.heap.size := hI.lt h0
  have hWs : W1.heap.size = w.heap.size + 2 := by rw [← hW1]; simp
  refine ⟨w.heap.size + 1, [{ target := .collected w.heap.size, args := #[] }], W1, { target := .fn (.func gf) lb.toArray, args := #[.func (.yield (w.heap.size + 1)) #[] #[]] }, W1, gf,
    #[.func (.yield (w.heap.size + 1)) #[] #[]] ++ lb.toArray, W1, ?_, ?_, ?_, ?_, fun h => (by cases h), ?_⟩
  · rw [← hW1, hrec]; exact run_enterLoop_outer _ _ _ _ _
  · simp only [resolve, hgv]; simp [go_sem]
  · intro f' _; trivial
  · simp only [invoke]; exact hen _ _
  have hE : ∀ (l : Nat) (o : Obj) (W : World), Env W (W.putObj l o) := fun l o W => ⟨rfl, rfl, rfl, by simp⟩
  refine callsIn_Fw ?_
  have hargs : #[Value.func (.yield (w.heap.size + 1)) #[] #[]] ++ lb.toArray = (Value.func (.yield (w.heap.size + 1)) #[] #[] :: lb).toArray := by simp
  rw [hargs]
  have hfw : ∀ b ∈ fp0, b ≠ w.heap.size ∧ b ≠ w.heap.size + 1 := fun b hb => by have := hfl b hb; omega
  have hw1 : ∀ {W : World}, Kp (w.heap.size :: (w.heap.size + 1) :: fp0) W1 W → Kp fp0 w W := fun {W} h => by
    refine ⟨h.os.trans hG1.os, h.tape.trans hG1.tape, h.output.trans hG1.output, Nat.le_trans hG1.size h.size, fun b hb hn => ?_⟩
    refine (h.block b (Nat.lt_of_lt_of_le hb hG1.size) ?_).trans (hG1.block b hb)
    simp only [List.mem_cons, not_or]
    exact ⟨by omega, by omega, hn⟩
  refine (hit (w.heap.size + 1)
    (fun k fp W => ∃ fi, fp = w.heap.size :: (w.heap.size + 1) :: fi ∧ I k fi W ∧ w.heap.size ∉ fi ∧ w.heap.size + 1 ∉ fi ∧ W.heap[w.heap.size + 1]? = some (.loop (rec .ready none)) ∧ W.heap[w.heap.size]? = some (.deferred (some [])))
    (fun k fp W => ∃ fi, fp = w.heap.size :: (w.heap.size + 1) :: fi ∧ ∃ c, Ix c k fi W ∧ w.heap.size ∉ fi ∧ w.heap.size + 1 ∉ fi ∧ W.heap[w.heap.size + 1]? = some (.loop (rec .done (some c))) ∧ W.heap[w.heap.size]? = some (.deferred (some [])))
    W1 (w.heap.size :: (w.heap.size + 1) :: fp0) hG1 ?_ ?_ ?_ ⟨fp0, rfl, hI1, fun h => (hfw _ h).1 rfl, fun h => (hfw _ h).2 rfl, hL1, hK1⟩ ?_).mono ?_
  · constructor
    · rintro k fp W ⟨fi, rfl, hi, _, _, hl, hd⟩ b hb
      simp only [List.mem_cons] at hb
      rcases hb with rfl | rfl | hb
      · exact (Array.getElem?_eq_some_iff.1 hd).1
      · exact (Array.getElem?_eq_some_iff.1 hl).1
      · exact hI.lt hi b hb
    · rintro k fp W W' ⟨fi, rfl, hi, h1, h2, hl, hd⟩ he hs
      exact ⟨fi, rfl, hI.keep hi he (fun b hb => hs b (by simp [hb])), h1, h2, (hs _ (by simp)).trans hl, (hs _ (by simp)).trans hd⟩
  · constructor
    · rintro k fp W ⟨fi, rfl, c, hi, _, _, hl, hd⟩ b hb
      simp only [List.mem_cons] at hb
      rcases hb with rfl | rfl | hb
      · exact (Array.getElem?_eq_some_iff.1 hd).1
      · exact (Array.getElem?_eq_some_iff.1 hl).1
      · exact (hIx c).lt hi b hb
    · rintro k fp W W' ⟨fi, rfl, c, hi, h1, h2, hl, hd⟩ he hs
      exact ⟨fi, rfl, c, (hIx c).keep hi he (fun b hb => hs b (by simp [hb])), h1, h2, (hs _ (by simp)).trans hl, (hs _ (by simp)).trans hd⟩
  · intro b hb
    simp only [List.mem_cons, not_or]
    have := (hcap b hb).2
    exact ⟨by omega, by omega, (hcap b hb).1⟩
  · rintro k x fp' W2 hx ⟨fi, rfl, hi, hn1, hn2, hl, hd⟩ hkp hfp
    have hkw := hw1 hkp
    have hlt2 : w.heap.size + 1 < W2.heap.size := (Array.getElem?_eq_some_iff.1 hl).1
    have hxl : x.length = ps.toList.length := hps x (List.mem_of_getElem? hx)
    refine ⟨fn, (ps.zip x.toArray).foldl (fun tmps (t, a) => tmps.setIfInBounds t a) a.tmps, assign, body, ?_, ?_⟩
    · have := run_yield (P := P) (w := W2) (l := w.heap.size + 1) (r := rec .ready none) (args := x.toArray) hl (by rw [hrec]; simpa using hxl)
      rw [this, hrec]
    · have hf0 : FOk n [] (psL ps.toList x L) { tmps := ((ps.zip x.toArray).foldl (fun tmps (t, a) => tmps.setIfInBounds t a) a.tmps), defers := [] } := by
        have := FOk.ps ps.toList x D L a ha (fun p hp => by have := List.all_eq_true.1 hpn p hp; simpa using this)
        have e : (ps.zip x.toArray).foldl (fun tmps (t, a) => tmps.setIfInBounds t a) a.tmps = (ps.toList.zip x).foldl (fun t (x : Nat × Value) => t.setIfInBounds x.1 x.2) a.tmps := by
          rw [← Array.foldl_toList, Array.toList_zip]
        rw [e]; exact this
      have hr := hround (w.heap.size + 1) k x fi W2 (by omega) hx hi hkw (fun b hb => by
        rcases hfp b (by simp [hb]) with h | h
        · simp only [List.mem_cons] at h
          rcases h with rfl | rfl | h
          · exact (hn1 hb).elim
          · exact (hn2 hb).elim
          · exact .inl h
        · exact .inr (Nat.le_trans hG1.size h)) hn2 hlt2
      refine roundIn_of_wpIn (F := Fence.wide) trivial ?_
      refine wpIn_mono (hr _ hf0) fun e a1 W3 hh => ?_
      cases e with
      | normal =>
        obtain ⟨D1, L1, hf1, rfl, hg3, hb⟩ := hh
        have hl3 : W3.heap[w.heap.size + 1]? = some (.loop (rec .ready none)) := (hg3.block _ hlt2).trans hl
        refine ⟨_, run_beginRound hl3 (by rw [hrec]), ?_⟩
        have hl4 : (W3.putObj (w.heap.size + 1) (.loop { rec .ready none with state := .busy })).heap[w.heap.size + 1]? = some (.loop { rec .ready none with state := .busy }) := World.putObj_heap_same (Array.getElem?_eq_some_iff.1 hl3).1
        have hd4 : (W3.putObj (w.heap.size + 1) (.loop { rec .ready none with state := .busy })).heap[w.heap.size]? = some (.deferred (some [])) := (World.putObj_heap_other (by omega)).trans ((hg3.block _ (by omega)).trans hd)
        have hk4 : Kp (w.heap.size :: (w.heap.size + 1) :: fi) W2 (W3.putObj (w.heap.size + 1) (.loop { rec .ready none with state := .busy })) := (Gr.toKp hg3).md (Md.put _ _) (.inl (by simp))
        have hi4 : I k fi (W3.putObj (w.heap.size + 1) (.loop { rec .ready none with state := .busy })) := hI.keep hi ⟨hg3.os, hg3.tape, hg3.output, by simpa using hg3.size⟩ (fun b hb => (World.putObj_heap_other (show b ≠ w.heap.size + 1 from by rintro rfl; exact hn2 hb)).trans (hg3.block b (hI.lt hi b hb)))
        have hsz4 : W2.heap.size ≤ (W3.putObj (w.heap.size + 1) (.loop { rec .ready none with state := .busy })).heap.size := hk4.size
        have hrb := hb _ (Md.put _ _) hi4 a1 hf1
        generalize W3.putObj (w.heap.size + 1) (.loop { rec .ready none with state := .busy }) = W4 at *
        refine wpIn_mono hrb fun e a5 W5 hh => ?_
        have fin : ∀ (j : Option Code) (fp' : List Nat), Kp fi W4 W5 → (∀ c ∈ fp', c ∈ fi ∨ W4.heap.size ≤ c) →
            (∀ W6, Env W5 W6 → (∀ b ∈ fp', W6.heap[b]? = W5.heap[b]?) → W6.heap[w.heap.size + 1]? = some (.loop { rec .ready none with state := if j.isNone then .ready else .done, pending := j }) → W6.heap[w.heap.size]? = some (.deferred (some [])) →
              (bif j.isNone then (∃ fi', w.heap.size :: (w.heap.size + 1) :: fp' = w.heap.size :: (w.heap.size + 1) :: fi' ∧ I (k + 1) fi' W6 ∧ w.heap.size ∉ fi' ∧ w.heap.size + 1 ∉ fi' ∧ W6.heap[w.heap.size + 1]? = some (.loop (rec .ready none)) ∧ W6.heap[w.heap.size]? = some (.deferred (some [])))
                else ∃ fi', w.heap.size :: (w.heap.size + 1) :: fp' = w.heap.size :: (w.heap.size + 1) :: fi' ∧ ∃ c, Ix c (k + 1) fi' W6 ∧ w.heap.size ∉ fi' ∧ w.heap.size + 1 ∉ fi' ∧ W6.heap[w.heap.size + 1]? = some (.loop (rec .done (some c))) ∧ W6.heap[w.heap.size]? = some (.deferred (some [])))) →
            ∃ v w', (Instr.endRound (w.heap.size + 1) j).run P W5 = .ok v w' ∧ ∃ b, Ending.returned v = .returned (.bool b) ∧
              Rnd (fun k fp W => ∃ fi, fp = w.heap.size :: (w.heap.size + 1) :: fi ∧ I k fi W ∧ w.heap.size ∉ fi ∧ w.heap.size + 1 ∉ fi ∧ W.heap[w.heap.size + 1]? = some (.loop (rec .ready none)) ∧ W.heap[w.heap.size]? = some (.deferred (some [])))
                (fun k fp W => ∃ fi, fp = w.heap.size :: (w.heap.size + 1) :: fi ∧ ∃ c, Ix c k fi W ∧ w.heap.size ∉ fi ∧ w.heap.size + 1 ∉ fi ∧ W.heap[w.heap.size + 1]? = some (.loop (rec .done (some c))) ∧ W.heap[w.heap.size]? = some (.deferred (some [])))
                k (w.heap.size :: (w.heap.size + 1) :: fi) W2 b w' := by
          intro j fp' hk5 hfp' hcl
          have hl5 : W5.heap[w.heap.size + 1]? = some (.loop { rec .ready none with state := .busy }) := (hk5.block _ (Array.getElem?_eq_some_iff.1 hl4).1 hn2).trans hl4
          have hd5 : W5.heap[w.heap.size]? = some (.deferred (some [])) := (hk5.block _ (Array.getElem?_eq_some_iff.1 hd4).1 hn1).trans hd4
          have hnf : ∀ c ∈ fp', c ≠ w.heap.size ∧ c ≠ w.heap.size + 1 := fun c hc => by
            rcases hfp' c hc with h | h
            · exact ⟨fun e => hn1 (e ▸ h), fun e => hn2 (e ▸ h)⟩
            · omega
          refine ⟨_, _, run_endRound j hl5, j.isNone, rfl, ?_, w.heap.size :: (w.heap.size + 1) :: fp', ?_, ?_⟩
          · refine Kp.md (Kp.trans hk4 (hk5.mono fun b hb => by simp [hb]) (fun b hb => .inl hb)) (Md.put _ _) (.inl (by simp))
          · intro c hc
            simp only [List.mem_cons] at hc ⊢
            rcases hc with rfl | rfl | hc
            · exact .inl (.inl rfl)
            · exact .inl (.inr (.inl rfl))
            · rcases hfp' c hc with h | h
              · exact .inl (.inr (.inr h))
              · exact .inr (Nat.le_trans hsz4 h)
          · exact hcl _ (hE _ _ _) (fun b hb => World.putObj_heap_other (hnf b hb).2) (by rw [World.putObj_heap_same (Array.getElem?_eq_some_iff.1 hl5).1]) ((World.putObj_heap_other (by omega)).trans hd5)
        have nofp : ∀ fp' : List Nat, (∀ c ∈ fp', c ∈ fi ∨ W4.heap.size ≤ c) → w.heap.size ∉ fp' ∧ w.heap.size + 1 ∉ fp' := fun fp' h =>
          ⟨fun hc => by rcases h _ hc with h | h; exact hn1 h; omega, fun hc => by rcases h _ hc with h | h; exact hn2 h; omega⟩
        cases e with
        | normal =>
          obtain ⟨_, _, _, hk5, fp', hfp', hI5⟩ := hh
          exact fin none fp' hk5 hfp' fun W6 he hs hl6 hd6 => ⟨fp', rfl, hI.keep hI5 he hs, (nofp fp' hfp').1, (nofp fp' hfp').2, by rw [hl6, hrec]; rfl, hd6⟩
        | ret =>
          obtain ⟨_, _, _, hk5, fp', hfp', hI5⟩ := hh
          exact fin (some .ret) fp' hk5 hfp' fun W6 he hs hl6 hd6 => ⟨fp', rfl, .ret, (hIx _).keep hI5 he hs, (nofp fp' hfp').1, (nofp fp' hfp').2, by rw [hl6, hrec]; rfl, hd6⟩
        | exit id =>
          obtain ⟨_, _, _, hk5, fp', hfp', hI5⟩ := hh
          exact fin (some (.exit id)) fp' hk5 hfp' fun W6 he hs hl6 hd6 => ⟨fp', rfl, .exit id, (hIx _).keep hI5 he hs, (nofp fp' hfp').1, (nofp fp' hfp').2, by rw [hl6, hrec]; rfl, hd6⟩
        | goto t => obtain ⟨_, _, _, h⟩ := hh; exact h.elim
        | panic c => exact hh.elim
        | outgrown => exact hh.elim
      | exit id => obtain ⟨_, _, _, h⟩ := hh; exact h.elim
      | goto t => obtain ⟨_, _, _, h⟩ := hh; exact h.elim
      | ret => obtain ⟨_, _, _, h⟩ := hh; exact h.elim
      | panic c => exact hh.elim
      | outgrown => exact hh.elim
  · rintro e W' ⟨v, rfl, hkp, hh⟩
    have hkw := hw1 hkp
    have hmk : ∀ (W : World), FOk n ({ target := .collected w.heap.size, args := #[] } :: D) L { a with defers := [{ target := .collected w.heap.size, args := #[] }] ++ a.defers } := fun _ => ⟨ha.size, by rw [ha.defers]; rfl, ha.get⟩
    rcases hh with ⟨fp', _, fi, rfl, hi, hn1, hn2, hl, hd⟩ | ⟨k, fp', _, hk, fi, rfl, c, hi, hn1, hn2, hl, hd⟩
    · refine ⟨_, _, run_endLoop hl (by rw [hrec]; simp), ?_⟩
      rw [hrec]
      refine ⟨_, L, hmk W', hdone w.heap.size fi _ (Nat.le_refl _) ((World.putObj_heap_other (by omega)).trans hd) hn1 (hI.keep hi (hE _ _ _) (fun b hb => World.putObj_heap_other (show b ≠ w.heap.size + 1 from by rintro rfl; exact hn2 hb))) (hkw.md (Md.put _ _) (.inr (by omega)))⟩
    · refine ⟨_, _, run_endLoop hl (by rw [hrec]; simp), ?_⟩
      rw [hrec]
      exact hstop w.heap.size c k fi _ (Nat.le_refl _) ((World.putObj_heap_other (by omega)).trans hd) hn1 hk ((hIx c).keep hi (hE _ _ _) (fun b hb => World.putObj_heap_other (show b ≠ w.heap.size + 1 from by rintro rfl; exact hn2 hb))) (hkw.md (Md.put _ _) (.inr (by omega))) _ (hmk W')
end Go.Sx
