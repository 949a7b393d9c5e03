/- MX: drawn regions in which more than one effect may come next: each is walked. -/
import Derived.Test.YtjdffpglgkefmaaGreatMirD
set_option linter.unusedVariables false
set_option linter.unusedSimpArgs false
namespace Go.Sx
open Go Go.RowKit

/-- ways through a region: a piece in a fixed order; then it ends, or the ways part (which operation comes next is each way's first) -/
inductive Tz
  | leaf (seg : List (Nat × Nat))
  | fork (seg : List (Nat × Nat)) (a b : Tz)
def Tz.heads : Tz → List Nat
  | .leaf [] => []
  | .leaf ((i, _) :: _) => [i]
  | .fork [] a b => a.heads ++ b.heads
  | .fork ((i, _) :: _) _ _ => [i]
def Tz.len : Tz → Nat
  | .leaf s => s.length
  | .fork s a _ => s.length + a.len
def lsd (l : List (Nat × Nat)) (listed : Array Bool) : Array Bool := l.foldl (fun s x => s.setIfInBounds x.1 true) listed
def okSeg (ops : Array Oper) (kp : Nat → Nat → Bool) : List (Nat × Nat) → Array Bool → Bool
  | [], _ => true
  | (i, c) :: rest, listed => (match lvl c with
    | some lv => (Region.ready .any ops listed).contains i && Region.free .any ops listed i && keepers ops (kp lv) listed i
    | none => (Region.ready .any ops listed == [i])) && okSeg ops kp rest (listed.setIfInBounds i true)
/-- a way, whose first operation (an effect) is one of several -/
def okKid (ops : Array Oper) (kp : Nat → Nat → Bool) : Tz → Array Bool → Bool
  | .leaf [], _ => false
  | .leaf ((i, c) :: s), listed => (lvl c).isNone && okSeg ops kp s (listed.setIfInBounds i true) && (Region.ready .any ops (lsd s (listed.setIfInBounds i true))).isEmpty
  | .fork [] a b, listed => okKid ops kp a listed && okKid ops kp b listed && (a.len == b.len)
  | .fork ((i, c) :: s) a b, listed => (lvl c).isNone && okSeg ops kp s (listed.setIfInBounds i true) && (Region.ready .any ops (lsd s (listed.setIfInBounds i true)) == a.heads ++ b.heads)
      && okKid ops kp a (lsd s (listed.setIfInBounds i true)) && okKid ops kp b (lsd s (listed.setIfInBounds i true)) && (a.len == b.len)
def okTz (ops : Array Oper) (kp : Nat → Nat → Bool) : Tz → Array Bool → Bool
  | .leaf s, listed => okSeg ops kp s listed && (Region.ready .any ops (lsd s listed)).isEmpty
  | .fork s a b, listed => okSeg ops kp s listed && (Region.ready .any ops (lsd s listed) == a.heads ++ b.heads) && okKid ops kp a (lsd s listed) && okKid ops kp b (lsd s listed) && (a.len == b.len)
def SDZ (P : Program) (n : Nat) (ops : Array Oper) (Q : Slots → World → Prop) (S : Nat → World → Prop) (kp : Nat → Nat → Bool) : Tz → Slots → World → Prop
  | .leaf s, L, w => SD P n ops Q S kp s L w
  | .fork s a b, L, w => SD P n ops (fun L w => SDZ P n ops Q S kp a L w ∧ SDZ P n ops Q S kp b L w) S kp s L w

section
variable {P : Program} {r : Option Nat} {n : Nat} {ops : Array Oper} {Q : Slots → World → Prop} {S : Nat → World → Prop} {kp : Nat → Nat → Bool} {D : List Deferred} {QA : Exit → Act → World → Prop}
theorem SD.seg (hnd : allNodef ops = true) (hQ : ∀ c a w, ¬ QA (.panic c) a w) (hO : ¬ LetsOut QA) {fuel : Nat} :
    ∀ (l : List (Nat × Nat)) (listed : Array Bool) (L : Slots) (a : Act) (w : World), okSeg ops kp l listed = true → FOk n D L a → SD P n ops Q S kp l L w →
      (∀ L a w, FOk n D L a → Q L w → Go.Sx.anyH P r ops QA S kp fuel (lsd l listed) a w) → Go.Sx.anyH P r ops QA S kp (l.length + fuel) listed a w
  | [], listed, L, a, w, ho, hf, h, hk => by rw [List.length_nil, Nat.zero_add]; exact hk L a w hf h
  | (i, c) :: rest, listed, L, a, w, ho, hf, h, hk => by
    have hlen : ((i, c) :: rest).length + fuel = rest.length + fuel + 1 := by simp; omega
    rw [hlen]
    unfold SD at h
    unfold okSeg at ho
    cases hc : lvl c with
    | some lv =>
      rw [hc] at h ho
      obtain ⟨o, v, hi, hd, hS, hv, hrest⟩ := h
      simp only [Bool.and_eq_true] at ho
      refine Go.Sx.anyH_first hnd hi hQ hO (rest.length + fuel) listed a w (fun j oj h1 h2 h3 h4 => ⟨Region.free_spec hi ho.1.1.2 j oj h1 h2 h3 h4, keepers_spec ho.1.2 j oj h1 h2 h3 h4⟩) (by simpa using ho.1.1.1) ?_ hS
        (SD.seg hnd hQ hO rest _ _ _ w ho.2 (hf.put hd) hrest hk)
      rcases hv with ⟨hg, hv⟩ | ⟨hg, rfl⟩
      · exact .inl ⟨gd_spec hf hg, fun w' hw' => hv w' hw' _ hf.cons⟩
      · exact .inr ⟨gd_spec hf hg, rfl⟩
    | none =>
      rw [hc] at h ho
      obtain ⟨o, hi, hd, h⟩ := h
      simp only [Bool.and_eq_true, beq_iff_eq] at ho
      refine ⟨fun h0 => (by rw [ho.1] at h0; cases h0), fun j hj => ?_⟩
      rw [ho.1] at hj
      simp only [List.mem_singleton] at hj
      subst hj
      unfold wpOpIn
      simp only [hi]
      rcases h with ⟨hg, R, hev, hk2⟩ | ⟨hg, hrest⟩
      · rw [gd_spec hf hg, if_pos rfl]
        exact (hev _ hf.cons).uponIn (allNodef.nd hnd hi) fun v w' hR => ⟨(hk2 v w' hR).1, SD.seg hnd hQ hO rest _ _ _ w' ho.2 (hf.put hd) (hk2 v w' hR).2 hk⟩
      · rw [gd_spec hf hg]
        simp only [Bool.false_eq_true, if_false]
        exact ⟨fun _ _ => trivial, fun _ _ h => h, SD.seg hnd hQ hO rest _ _ _ w ho.2 (hf.put hd) hrest hk⟩
/-- one step, whatever else is ready -/
theorem SD.stepAny (hnd : allNodef ops = true) {i c : Nat} {s : List (Nat × Nat)} {listed : Array Bool} {L : Slots} {a : Act} {w : World} {fuel : Nat} (hc : (lvl c).isNone = true) (hf : FOk n D L a) (h : SD P n ops Q S kp ((i, c) :: s) L w)
    (hk : ∀ L a w, FOk n D L a → SD P n ops Q S kp s L w → Go.Sx.anyH P r ops QA S kp fuel (listed.setIfInBounds i true) a w) :
    wpOpIn (Fw r) 0 P ops QA i (fun a' w' => (∀ v, kp v i = true → S v w → S v w') ∧ Go.Sx.anyH P r ops QA S kp fuel (listed.setIfInBounds i true) a' w') a w := by
  unfold SD at h
  rw [Option.isNone_iff_eq_none.1 hc] at h
  obtain ⟨o, hi, hd, h⟩ := h
  unfold wpOpIn
  simp only [hi]
  rcases h with ⟨hg, R, hev, hk2⟩ | ⟨hg, hrest⟩
  · rw [gd_spec hf hg, if_pos rfl]
    exact (hev _ hf.cons).uponIn (allNodef.nd hnd hi) fun v w' hR => ⟨(hk2 v w' hR).1, hk _ _ _ (hf.put hd) (hk2 v w' hR).2⟩
  · rw [gd_spec hf hg]
    simp only [Bool.false_eq_true, if_false]
    exact ⟨fun _ _ => trivial, fun _ _ h => h, hk _ _ _ (hf.put hd) hrest⟩
theorem len_pos : ∀ (t : Tz) (listed : Array Bool), okKid ops kp t listed = true → ∃ m, t.len = m + 1
  | .leaf [], _, h => by simp [okKid] at h
  | .leaf ((i, c) :: s), _, _ => ⟨s.length, by simp [Tz.len]⟩
  | .fork [] a b, listed, h => by
    simp only [okKid, Bool.and_eq_true] at h
    obtain ⟨m, hm⟩ := len_pos a listed h.1.1
    exact ⟨m, by simp [Tz.len, hm]⟩
  | .fork ((i, c) :: s) a b, _, _ => ⟨s.length + a.len, by simp [Tz.len]; omega⟩
theorem SDZ.kid (hnd : allNodef ops = true) (hQ : ∀ c a w, ¬ QA (.panic c) a w) (hO : ¬ LetsOut QA) (hq : ∀ L a w, FOk n D L a → Q L w → QA .normal a w) :
    ∀ (t : Tz) (listed : Array Bool) (L : Slots) (a : Act) (w : World) (m : Nat), okKid ops kp t listed = true → t.len = m + 1 → FOk n D L a → SDZ P n ops Q S kp t L w → ∀ i ∈ t.heads,
      wpOpIn (Fw r) 0 P ops QA i (fun a' w' => (∀ v, kp v i = true → S v w → S v w') ∧ Go.Sx.anyH P r ops QA S kp m (listed.setIfInBounds i true) a' w') a w
  | .leaf [], _, _, _, _, _, ho, _, _, _, _, _ => by simp [okKid] at ho
  | .leaf ((i, c) :: s), listed, L, a, w, m, ho, hl, hf, h, j, hj => by
    simp only [Tz.heads, List.mem_singleton] at hj; subst hj
    simp only [okKid, Bool.and_eq_true] at ho
    have hm : m = s.length + 0 := by simp [Tz.len] at hl; omega
    subst hm
    refine SD.stepAny hnd ho.1.1 hf h fun L a w hf h => SD.seg hnd hQ hO s _ L a w ho.1.2 hf h fun L a w hf h => ⟨by simpa using ho.2, hq L a w hf h⟩
  | .fork [] x y, listed, L, a, w, m, ho, hl, hf, h, j, hj => by
    simp only [okKid, Bool.and_eq_true, beq_iff_eq] at ho
    simp only [Tz.len, List.length_nil, Nat.zero_add] at hl
    simp only [Tz.heads, List.mem_append] at hj
    have h' : SDZ P n ops Q S kp x L w ∧ SDZ P n ops Q S kp y L w := h
    rcases hj with hj | hj
    · exact SDZ.kid hnd hQ hO hq x listed L a w m ho.1.1 hl hf h'.1 j hj
    · exact SDZ.kid hnd hQ hO hq y listed L a w m ho.1.2 (by rw [← ho.2]; exact hl) hf h'.2 j hj
  | .fork ((i, c) :: s) x y, listed, L, a, w, m, ho, hl, hf, h, j, hj => by
    simp only [Tz.heads, List.mem_singleton] at hj; subst hj
    simp only [okKid, Bool.and_eq_true, beq_iff_eq] at ho
    have hm : m = s.length + x.len := by simp [Tz.len] at hl; omega
    subst hm
    refine SD.stepAny hnd ho.1.1.1.1.1 hf h fun L a w hf h => SD.seg hnd hQ hO s _ L a w ho.1.1.1.1.2 hf h fun L a w hf h => ?_
    obtain ⟨mx, hx⟩ := len_pos x _ ho.1.1.2
    have hy : y.len = mx + 1 := by rw [← ho.2]; exact hx
    rw [hx]
    refine ⟨fun h0 => ?_, fun k hk => ?_⟩
    · obtain ⟨z, hz⟩ : ∃ z, z ∈ x.heads := by
        have : ∀ (t : Tz) (l : Array Bool), okKid ops kp t l = true → ∃ z, z ∈ t.heads := by
          intro t
          induction t with
          | leaf s => intro l h; cases s with
            | nil => simp [okKid] at h
            | cons a s => exact ⟨a.1, by simp [Tz.heads]⟩
          | fork s a b iha ihb => intro l h; cases s with
            | nil =>
              simp only [okKid, Bool.and_eq_true] at h
              obtain ⟨z, hz⟩ := iha l h.1.1
              exact ⟨z, by simp [Tz.heads, hz]⟩
            | cons a s => exact ⟨a.1, by simp [Tz.heads]⟩
        exact this x _ ho.1.1.2
      rw [ho.1.1.1.2] at h0
      have : z ∈ x.heads ++ y.heads := List.mem_append_left _ hz
      rw [h0] at this; cases this
    · rw [ho.1.1.1.2] at hk
      rcases List.mem_append.1 hk with hk | hk
      · exact SDZ.kid hnd hQ hO hq x _ L a w mx ho.1.1.2 hx hf h.1 k hk
      · exact SDZ.kid hnd hQ hO hq y _ L a w mx ho.1.2 hy hf h.2 k hk
theorem heads_ne : ∀ (t : Tz) (l : Array Bool), okKid ops kp t l = true → ∃ z, z ∈ t.heads := by
  intro t
  induction t with
  | leaf s => intro l h; cases s with
    | nil => simp [okKid] at h
    | cons a s => exact ⟨a.1, by simp [Tz.heads]⟩
  | fork s a b iha ihb => intro l h; cases s with
    | nil =>
      simp only [okKid, Bool.and_eq_true] at h
      obtain ⟨z, hz⟩ := iha l h.1.1
      exact ⟨z, by simp [Tz.heads, hz]⟩
    | cons a s => exact ⟨a.1, by simp [Tz.heads]⟩
theorem SDZ.anyH (hnd : allNodef ops = true) (hQ : ∀ c a w, ¬ QA (.panic c) a w) (hO : ¬ LetsOut QA) (hq : ∀ L a w, FOk n D L a → Q L w → QA .normal a w) (t : Tz) (listed : Array Bool) (L : Slots) (a : Act) (w : World) (ho : okTz ops kp t listed = true) (hf : FOk n D L a) (h : SDZ P n ops Q S kp t L w) :
    Go.Sx.anyH P r ops QA S kp t.len listed a w := by
  cases t with
  | leaf s =>
    simp only [okTz, Bool.and_eq_true] at ho
    exact SD.seg (fuel := 0) hnd hQ hO s listed L a w ho.1 hf h fun L a w hf h => ⟨by simpa using ho.2, hq L a w hf h⟩
  | fork s x y =>
    simp only [okTz, Bool.and_eq_true, beq_iff_eq] at ho
    obtain ⟨mx, hx⟩ := len_pos x _ ho.1.1.2
    have hy : y.len = mx + 1 := by rw [← ho.2]; exact hx
    refine SD.seg (fuel := x.len) hnd hQ hO s listed L a w ho.1.1.1.1 hf h fun L a w hf h => ?_
    rw [hx]
    refine ⟨fun h0 => ?_, fun k hk => ?_⟩
    · obtain ⟨z, hz⟩ := heads_ne (ops := ops) (kp := kp) x _ ho.1.1.2
      rw [ho.1.1.1.2] at h0
      have : z ∈ x.heads ++ y.heads := List.mem_append_left _ hz
      rw [h0] at this; cases this
    · rw [ho.1.1.1.2] at hk
      rcases List.mem_append.1 hk with hk | hk
      · exact SDZ.kid hnd hQ hO hq x _ L a w mx ho.1.1.2 hx hf h.1 k hk
      · exact SDZ.kid hnd hQ hO hq y _ L a w mx ho.1.2 hy hf h.2 k hk
end
/-- a region that draws its order; l: which effects store (for what is held) -/
theorem sw_drawZ {P : Program} {r : Option Nat} {n : Nat} {Q : Exit → List Deferred → Slots → World → Prop} {D : List Deferred} {L : Slots} {w : World} {id : Nat} {ops : Array Oper} (ms : List Nat) (l : List (Nat × Nat)) (t : Tz) (hm : P.follows .mixedOrders = true) (hnd : allNodef ops = true) (hlen : t.len = ops.size)
    (ho : okTz ops (kpOf l) t (Array.replicate ops.size false) = true) (h : ∀ w1, RowKit.Below w.heap.size w w1 → w1.heap.size = w.heap.size → SDZ P n ops (fun L w => Q .normal D L w) (Hld ms w1) (kpOf l) t L w1) : SW P r n (.region id ops true) Q D L w :=
  fun _ ha => wpIn_region_any hm (by
    have := (SDZ.anyH (r := r) (D := D) (QA := liftQ n Q) hnd (fun _ _ _ => lift_panic) lift_out (fun L _ _ hf hq => ⟨D, L, hf, hq⟩) t _ L _ w.drew ho ha (h w.drew (RowKit.Below.refl _ _).drew rfl)).any
    rw [hlen] at this; exact this)
theorem sd_fork {P : Program} {n : Nat} {ops : Array Oper} {Q : Slots → World → Prop} {S : Nat → World → Prop} {kp : Nat → Nat → Bool} {a b : Tz} {L : Slots} {w : World} (h1 : SDZ P n ops Q S kp a L w) (h2 : SDZ P n ops Q S kp b L w) : SD P n ops (fun L w => SDZ P n ops Q S kp a L w ∧ SDZ P n ops Q S kp b L w) S kp [] L w := ⟨h1, h2⟩
theorem sdz_leaf {P : Program} {n : Nat} {ops : Array Oper} {Q : Slots → World → Prop} {S : Nat → World → Prop} {kp : Nat → Nat → Bool} {s : List (Nat × Nat)} {L : Slots} {w : World} (h : SD P n ops Q S kp s L w) : SDZ P n ops Q S kp (.leaf s) L w := h
theorem sdz_fork {P : Program} {n : Nat} {ops : Array Oper} {Q : Slots → World → Prop} {S : Nat → World → Prop} {kp : Nat → Nat → Bool} {s : List (Nat × Nat)} {a b : Tz} {L : Slots} {w : World} (h : SD P n ops (fun L w => SDZ P n ops Q S kp a L w ∧ SDZ P n ops Q S kp b L w) S kp s L w) : SDZ P n ops Q S kp (.fork s a b) L w := h
end Go.Sx
