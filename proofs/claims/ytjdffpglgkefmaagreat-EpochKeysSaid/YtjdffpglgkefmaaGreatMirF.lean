/- MX: drawn regions: what is held, by levels: all memory but some blocks. -/
import Derived.Test.YtjdffpglgkefmaaGreatMirE
set_option linter.unusedVariables false
set_option linter.unusedSimpArgs false
namespace Go.Sx
open Go Go.RowKit

def HldN (mss : List (List Nat)) (w₀ : World) (k : Nat) (w : World) : Prop := ∀ ms, mss[k]? = some ms → Kp ms w₀ w
/-- which effects break which levels -/
def kpN (tab : List (Nat × List Nat)) (lv j : Nat) : Bool := tab.all fun x => !(Nat.beq x.1 j && x.2.any (Nat.beq lv))
def AllL (p : Nat → List Nat → Prop) : Nat → List (List Nat) → Prop
  | _, [] => True
  | k, ms :: r => p k ms ∧ AllL p (k + 1) r
theorem AllL.get {p : Nat → List Nat → Prop} : ∀ {l : List (List Nat)} {o : Nat}, AllL p o l → ∀ k ms, l[k]? = some ms → p (o + k) ms
  | [], o, _, k, ms, h => by simp at h
  | a :: r, o, h, 0, ms, hk => by simp at hk; subst hk; exact h.1
  | a :: r, o, h, k + 1, ms, hk => by
    have := AllL.get h.2 k ms (by simpa using hk)
    rw [show o + (k + 1) = o + 1 + k from by omega]; exact this
theorem Kz.ofGr {w w' : World} (h : Gr w w') : Kz [] w w' := (Kz.refl [] w).gr h
theorem Kz.ofMd {w w' : World} {b : Nat} (h : Md b w w') : Kz [(1, b)] w w' := (Kz.refl _ w).md h (by simp [InZ, Mz])
theorem Kz.ofKa {w w' : World} {z g : Nat} (h : Ka z g w w') : Kz [(z, g)] w w' := (Kz.refl _ w).ka h (by by_cases hz : z = 0 <;> simp [InZ, Mz, hz])
theorem lvl_10 (k : Nat) : lvl (k + 10) = some k := by
  have h1 : Nat.beq (k + 10) 1 = false := beq_ne (by omega)
  have h2 : Nat.beq (k + 10) 3 = false := beq_ne (by omega)
  have h3 : Nat.ble 10 (k + 10) = true := Nat.ble_eq_true_of_le (by omega)
  unfold lvl
  rw [h1, h2, h3]; simp
section
variable {P : Program} {n : Nat} {ops : Array Oper} {Q : Slots → World → Prop} {rest : List (Nat × Nat)} {i : Nat} {dst : Option Nat} {op : Op} {ty : TypeId} {pos : String} {af : Array Edge} {gu : Option (Nat × Bool)} {L : Slots} {w w₀ : World} {mss : List (List Nat)} {kp : Nat → Nat → Bool} {ms : List Nat}
/-- held -/
theorem dd_hn {v : Value} (k : Nat) (hi : ops[i]? = some ⟨dst, op, ty, pos, af, gu⟩) (hg : gd ops L ⟨dst, op, ty, pos, af, gu⟩ = some true) (hd : inN n dst = true) (hm : mss[k]? = some ms) (hS : Kp ms w₀ w) (hv : ∀ w, Kp ms w₀ w → VV P L ⟨dst, op, ty, pos, af, gu⟩ w v)
    (h : SD P n ops Q (HldN mss w₀) kp rest (putL dst v L) w) : SD P n ops Q (HldN mss w₀) kp ((i, k + 10) :: rest) L w := by
  have hl := lvl_10 k
  unfold SD
  rw [hl]
  exact ⟨_, v, hi, hd, fun ms' h' => by rw [hm] at h'; cases h'; exact hS, .inl ⟨hg, fun w hw => hv w (hw ms hm)⟩, h⟩
theorem dd_sn (k : Nat) (hi : ops[i]? = some ⟨dst, op, ty, pos, af, gu⟩) (hg : gd ops L ⟨dst, op, ty, pos, af, gu⟩ = some false) (hd : inN n dst = true) (hm : mss[k]? = some ms) (hS : Kp ms w₀ w)
    (h : SD P n ops Q (HldN mss w₀) kp rest (putL dst undef L) w) : SD P n ops Q (HldN mss w₀) kp ((i, k + 10) :: rest) L w := by
  have hl := lvl_10 k
  unfold SD
  rw [hl]
  exact ⟨_, undef, hi, hd, fun ms' h' => by rw [hm] at h'; cases h'; exact hS, .inr ⟨hg, rfl⟩, h⟩
theorem dd_pn {t : Bool} (k : Nat) (hi : ops[i]? = some ⟨dst, op, ty, pos, af, gu⟩) (hg : gd ops L ⟨dst, op, ty, pos, af, gu⟩ = some true) (hd : inN n dst = true) (hm : mss[k]? = some ms) (hS : Kp ms w₀ w) (hv : ∀ w, Kp ms w₀ w → VV P L ⟨dst, op, ty, pos, af, gu⟩ w (.bool t))
    (ht : t = true → SD P n ops Q (HldN mss w₀) kp rest (putL dst (.bool true) L) w) (hf : t = false → SD P n ops Q (HldN mss w₀) kp rest (putL dst (.bool false) L) w) : SD P n ops Q (HldN mss w₀) kp ((i, k + 10) :: rest) L w := by
  cases t with
  | true => exact dd_hn k hi hg hd hm hS hv (ht rfl)
  | false => exact dd_hn k hi hg hd hm hS hv (hf rfl)
/-- an effect: the blocks l may turn -/
theorem dd_z {R : Value → World → Prop} (l : List (Nat × Nat)) (hi : ops[i]? = some ⟨dst, op, ty, pos, af, gu⟩) (hg : gd ops L ⟨dst, op, ty, pos, af, gu⟩ = some true) (hd : inN n dst = true) (hv : EV P L ⟨dst, op, ty, pos, af, gu⟩ w R)
    (hb : AllL (fun k ms => kp k i = true → InA l (ms.map fun b => (1, b)) w₀.heap.size) 0 mss)
    (h : ∀ v w', R v w' → Kz l w w' ∧ SD P n ops Q (HldN mss w₀) kp rest (putL dst v L) w') : SD P n ops Q (HldN mss w₀) kp ((i, 0) :: rest) L w :=
  ⟨_, hi, hd, .inl ⟨hg, R, hv, fun v w' hR => ⟨fun lv hk hS ms hm => Kp.kz (hS ms hm) (h v w' hR).1 (by have := hb.get lv ms hm; rw [Nat.zero_add] at this; exact this hk), (h v w' hR).2⟩⟩⟩
/-- one that leaves memory as it is -/
theorem dd_vz {v : Value} (hi : ops[i]? = some ⟨dst, op, ty, pos, af, gu⟩) (hg : gd ops L ⟨dst, op, ty, pos, af, gu⟩ = some true) (hd : inN n dst = true) (hv : VV P L ⟨dst, op, ty, pos, af, gu⟩ w v)
    (h : SD P n ops Q (HldN mss w₀) kp rest (putL dst v L) w) : SD P n ops Q (HldN mss w₀) kp ((i, 0) :: rest) L w :=
  ⟨_, hi, hd, .inl ⟨hg, _, hv.ev, fun v' w' ⟨h1, h2⟩ => by subst h1; subst h2; exact ⟨fun _ _ h => h, h⟩⟩⟩
theorem dd_pz {t : Bool} (hi : ops[i]? = some ⟨dst, op, ty, pos, af, gu⟩) (hg : gd ops L ⟨dst, op, ty, pos, af, gu⟩ = some true) (hd : inN n dst = true) (hv : VV P L ⟨dst, op, ty, pos, af, gu⟩ w (.bool t))
    (ht : t = true → SD P n ops Q (HldN mss w₀) kp rest (putL dst (.bool true) L) w) (hf : t = false → SD P n ops Q (HldN mss w₀) kp rest (putL dst (.bool false) L) w) : SD P n ops Q (HldN mss w₀) kp ((i, 0) :: rest) L w := by
  cases t with
  | true => exact dd_vz hi hg hd hv (ht rfl)
  | false => exact dd_vz hi hg hd hv (hf rfl)
theorem dd_sz (hi : ops[i]? = some ⟨dst, op, ty, pos, af, gu⟩) (hg : gd ops L ⟨dst, op, ty, pos, af, gu⟩ = some false) (hd : inN n dst = true)
    (h : SD P n ops Q (HldN mss w₀) kp rest (putL dst undef L) w) : SD P n ops Q (HldN mss w₀) kp ((i, 0) :: rest) L w := ⟨_, hi, hd, .inr ⟨hg, h⟩⟩
theorem dd_slin {k : Nat} {R : Value → Nat → Prop} (hi : ops[i]? = some ⟨dst, op, ty, pos, af, gu⟩) (hg : gd ops L ⟨dst, op, ty, pos, af, gu⟩ = some true) (hd : inN n dst = true) (hm : mss[k]? = some ms) (hS : Kp ms w₀ w) (hv : ∃ v o, (∀ w1, VV P L ⟨dst, op, ty, pos, af, gu⟩ w1 v) ∧ R v o)
    (h : ∀ v o, R v o → SD P n ops Q (HldN mss w₀) kp rest (putL dst v L) w) : SD P n ops Q (HldN mss w₀) kp ((i, k + 10) :: rest) L w := by
  obtain ⟨v, o, h1, h2⟩ := hv
  exact dd_hn k hi hg hd hm hS (fun w _ => h1 w) (h v o h2)
theorem dd_sliz {R : Value → Nat → Prop} (hi : ops[i]? = some ⟨dst, op, ty, pos, af, gu⟩) (hg : gd ops L ⟨dst, op, ty, pos, af, gu⟩ = some true) (hd : inN n dst = true) (hv : ∃ v o, (∀ w1, VV P L ⟨dst, op, ty, pos, af, gu⟩ w1 v) ∧ R v o)
    (h : ∀ v o, R v o → SD P n ops Q (HldN mss w₀) kp rest (putL dst v L) w) : SD P n ops Q (HldN mss w₀) kp ((i, 0) :: rest) L w := by
  obtain ⟨v, o, h1, h2⟩ := hv
  exact dd_vz hi hg hd (h1 w) (h v o h2)
end
/-! small facts on blocks -/
theorem tk0 {q : Prop} (f : q := by (try simp only [Nin, InA, InZ, mz_map, Mz, List.mem_cons, List.mem_append, mem_zf, List.not_mem_nil, or_false, false_or, not_or, ne_eq, List.nil_append, List.cons_append, true_and, and_true, false_and, and_false, not_true_eq_false, not_false_eq_true, or_true, true_or]) <;> omega) : q := f
theorem tk1 {p q : Prop} (h : p) (f : p → q := by intro; (try simp only [Nin, InA, InZ, mz_map, Mz, List.mem_cons, List.mem_append, mem_zf, List.not_mem_nil, or_false, false_or, not_or, ne_eq, List.nil_append, List.cons_append, true_and, and_true, false_and, and_false, not_true_eq_false, not_false_eq_true, or_true, true_or]) <;> omega) : q := f h
theorem tk2 {p1 p2 q : Prop} (h1 : p1) (h2 : p2) (f : p1 → p2 → q := by intro _ _; (try simp only [Nin, InA, InZ, mz_map, Mz, List.mem_cons, List.mem_append, mem_zf, List.not_mem_nil, or_false, false_or, not_or, ne_eq, List.nil_append, List.cons_append, true_and, and_true, false_and, and_false, not_true_eq_false, not_false_eq_true, or_true, true_or]) <;> omega) : q := f h1 h2
theorem tk3 {p1 p2 p3 q : Prop} (h1 : p1) (h2 : p2) (h3 : p3) (f : p1 → p2 → p3 → q := by intro _ _ _; (try simp only [Nin, InA, InZ, mz_map, Mz, List.mem_cons, List.mem_append, mem_zf, List.not_mem_nil, or_false, false_or, not_or, ne_eq, List.nil_append, List.cons_append, true_and, and_true, false_and, and_false, not_true_eq_false, not_false_eq_true, or_true, true_or]) <;> omega) : q := f h1 h2 h3
theorem tk4 {p1 p2 p3 p4 q : Prop} (h1 : p1) (h2 : p2) (h3 : p3) (h4 : p4) (f : p1 → p2 → p3 → p4 → q := by intro _ _ _ _; (try simp only [Nin, InA, InZ, mz_map, Mz, List.mem_cons, List.mem_append, mem_zf, List.not_mem_nil, or_false, false_or, not_or, ne_eq, List.nil_append, List.cons_append, true_and, and_true, false_and, and_false, not_true_eq_false, not_false_eq_true, or_true, true_or]) <;> omega) : q := f h1 h2 h3 h4
/-! where a slice's block comes from -/
section
variable {A : Nat → Prop} {z g z' g' s z1 g1 z2 g2 z3 g3 : Nat}
theorem pv_app (r : Hdn ((g' = g ∧ z = 1) ∨ s ≤ g' ∨ z' = 0)) (h : z = 0 ∨ A g) (f : ∀ x, s ≤ x → A x := by intro x hx; (try simp only [Nin, InA, InZ, mz_map, Mz, List.mem_cons, List.mem_append, mem_zf, List.not_mem_nil, or_false, false_or, not_or, ne_eq, List.nil_append, List.cons_append, true_and, and_true, false_and, and_false, not_true_eq_false, not_false_eq_true, or_true, true_or]) <;> omega) : z' = 0 ∨ A g' := by
  rcases r.o with ⟨h1, h2⟩ | h1 | h1
  · rcases h with h | h
    · omega
    · exact .inr (h1 ▸ h)
  · exact .inr (f _ h1)
  · exact .inl h1
theorem pv_0 (r : Hdn (z = 0 ∨ s ≤ g)) (f : ∀ x, s ≤ x → A x := by intro x hx; (try simp only [Nin, InA, InZ, mz_map, Mz, List.mem_cons, List.mem_append, mem_zf, List.not_mem_nil, or_false, false_or, not_or, ne_eq, List.nil_append, List.cons_append, true_and, and_true, false_and, and_false, not_true_eq_false, not_false_eq_true, or_true, true_or]) <;> omega) : z = 0 ∨ A g := r.o.imp id (f g)
theorem pv_1 (r : Hdn (z = 0 ∨ (g = g1 ∧ z1 ≠ 0) ∨ s ≤ g)) (h1 : z1 = 0 ∨ A g1) (f : ∀ x, s ≤ x → A x := by intro x hx; (try simp only [Nin, InA, InZ, mz_map, Mz, List.mem_cons, List.mem_append, mem_zf, List.not_mem_nil, or_false, false_or, not_or, ne_eq, List.nil_append, List.cons_append, true_and, and_true, false_and, and_false, not_true_eq_false, not_false_eq_true, or_true, true_or]) <;> omega) : z = 0 ∨ A g := by
  rcases r.o with h | ⟨h, hz⟩ | h
  · exact .inl h
  · exact .inr (h ▸ h1.resolve_left hz)
  · exact .inr (f _ h)
theorem pv_2 (r : Hdn (z = 0 ∨ (g = g1 ∧ z1 ≠ 0) ∨ (g = g2 ∧ z2 ≠ 0) ∨ s ≤ g)) (h1 : z1 = 0 ∨ A g1) (h2 : z2 = 0 ∨ A g2) (f : ∀ x, s ≤ x → A x := by intro x hx; (try simp only [Nin, InA, InZ, mz_map, Mz, List.mem_cons, List.mem_append, mem_zf, List.not_mem_nil, or_false, false_or, not_or, ne_eq, List.nil_append, List.cons_append, true_and, and_true, false_and, and_false, not_true_eq_false, not_false_eq_true, or_true, true_or]) <;> omega) : z = 0 ∨ A g := by
  rcases r.o with h | ⟨h, hz⟩ | ⟨h, hz⟩ | h
  · exact .inl h
  · exact .inr (h ▸ h1.resolve_left hz)
  · exact .inr (h ▸ h2.resolve_left hz)
  · exact .inr (f _ h)
theorem pv_3 (r : Hdn (z = 0 ∨ (g = g1 ∧ z1 ≠ 0) ∨ (g = g2 ∧ z2 ≠ 0) ∨ (g = g3 ∧ z3 ≠ 0) ∨ s ≤ g)) (h1 : z1 = 0 ∨ A g1) (h2 : z2 = 0 ∨ A g2) (h3 : z3 = 0 ∨ A g3) (f : ∀ x, s ≤ x → A x := by intro x hx; (try simp only [Nin, InA, InZ, mz_map, Mz, List.mem_cons, List.mem_append, mem_zf, List.not_mem_nil, or_false, false_or, not_or, ne_eq, List.nil_append, List.cons_append, true_and, and_true, false_and, and_false, not_true_eq_false, not_false_eq_true, or_true, true_or]) <;> omega) : z = 0 ∨ A g := by
  rcases r.o with h | ⟨h, hz⟩ | ⟨h, hz⟩ | ⟨h, hz⟩ | h
  · exact .inl h
  · exact .inr (h ▸ h1.resolve_left hz)
  · exact .inr (h ▸ h2.resolve_left hz)
  · exact .inr (h ▸ h3.resolve_left hz)
  · exact .inr (f _ h)
theorem pv_lt (r : Hdn (z = 0 ∨ (z = 1 ∧ g < s))) (f : ∀ x, x < s → A x := by intro x hx; (try simp only [Nin, InA, InZ, mz_map, Mz, List.mem_cons, List.mem_append, mem_zf, List.not_mem_nil, or_false, false_or, not_or, ne_eq, List.nil_append, List.cons_append, true_and, and_true, false_and, and_false, not_true_eq_false, not_false_eq_true, or_true, true_or]) <;> omega) : z = 0 ∨ A g := r.o.imp id fun h => f _ h.2
theorem pv_z (h : z = 1) (k : z = 0 ∨ A g) : A g := k.resolve_left (by omega)
theorem pv_sw (h : z = 0 ∨ z1 = 0 ∨ g ≠ g1) : z1 = 0 ∨ z = 0 ∨ g1 ≠ g := by omega
theorem pv_ne (h : z = 0 ∨ g ≠ g1) : z = 0 ∨ g1 ≠ g := by omega
end
theorem cells1 {v : Value} (h : oneB v = true) : v.cells = [v].toArray := by cases v <;> first | rfl | cases h
theorem fill_1 {pl : Nat → Option (Nat × Nat)} {z cs : List Value} {i off : Nat} {v : Value} {r : List (Nat × Value)} (hp : pl i = some (off, 1)) (h1 : oneB v = true) (hl : Nat.ble (off + 1) z.length = true) (hr : fillL pl (spl z off [v]) r = some cs) : fillL pl z ((i, v) :: r) = some cs := by
  unfold fillL
  rw [hp]
  simp only [cells1 h1]
  rw [if_pos ⟨rfl, Nat.le_of_ble_eq_true hl⟩]; exact hr
theorem fill_M {pl : Nat → Option (Nat × Nat)} {z cs : List Value} {i off size : Nat} {v : Value} {r : List (Nat × Value)} (hp : pl i = some (off, size)) (h1 : v.cells.size = size) (hl : Nat.ble (off + size) z.length = true) (hr : fillL pl (spl z off v.cells.toList) r = some cs) : fillL pl z ((i, v) :: r) = some cs := by
  unfold fillL
  rw [hp]
  simp only [h1]
  rw [if_pos ⟨trivial, Nat.le_of_ble_eq_true hl⟩]; exact hr
/-- a region that draws its order -/
theorem sw_drawN {P : Program} {r : Option Nat} {n : Nat} {Q : Exit → List Deferred → Slots → World → Prop} {D : List Deferred} {L : Slots} {w : World} {id : Nat} {ops : Array Oper} (mss : List (List Nat)) (tab : List (Nat × List Nat)) (t : Tz) (hm : P.follows .mixedOrders = true) (hnd : allNodef ops = true) (hlen : t.len = ops.size)
    (ho : okTz ops (kpN tab) t (Array.replicate ops.size false) = true) (h : ∀ w1, RowKit.Below w.heap.size w w1 → w1.heap.size = w.heap.size → SDZ P n ops (fun L w => Q .normal D L w) (HldN mss w1) (kpN tab) t L w1) : SW P r n (.region id ops true) Q D L w :=
  fun _ ha => wpIn_region_any hm (by
    have := (SDZ.anyH (r := r) (D := D) (QA := liftQ n Q) hnd (fun _ _ _ => lift_panic) lift_out (fun L _ _ hf hq => ⟨D, L, hf, hq⟩) t _ L _ w.drew ho ha (h w.drew (RowKit.Below.refl _ _).drew rfl)).any
    rw [hlen] at this; exact this)
end Go.Sx
