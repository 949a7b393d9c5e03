/- MX: memory between two worlds by a list of blocks that may have turned; joins; stores; literals. -/
import Derived.Test.YtjdffpglgkefmaaMir
set_option linter.unusedVariables false
set_option linter.unusedSimpArgs false
namespace Go.Sx
open Go Go.RowKit

/-- block k is none of these (an entry with 0 counts for nothing) -/
def Nin : List (Nat × Nat) → Nat → Prop
  | [], _ => True
  | (z, g) :: r, k => (z = 0 ∨ k ≠ g) ∧ Nin r k
def Mz : List (Nat × Nat) → Nat → Prop
  | [], _ => False
  | (z, g) :: r, k => (k = g ∧ z ≠ 0) ∨ Mz r k
def InZ (l : List (Nat × Nat)) (z g base : Nat) : Prop := z = 0 ∨ base ≤ g ∨ Mz l g
def InA : List (Nat × Nat) → List (Nat × Nat) → Nat → Prop
  | [], _, _ => True
  | (z, g) :: r, l, base => InZ l z g base ∧ InA r l base
theorem mz_map {g : Nat} : ∀ {ms : List Nat}, Mz (ms.map fun b => (1, b)) g ↔ g ∈ ms
  | [] => by simp [Mz]
  | a :: r => by simp [Mz, mz_map]
theorem nin_ne : ∀ {l : List (Nat × Nat)} {k g : Nat}, Nin l k → Mz l g → k ≠ g
  | [], k, g, _, h => h.elim
  | (z, b) :: r, k, g, hn, h => by
    rcases h with ⟨h1, h2⟩ | h
    · subst h1; rcases hn.1 with h0 | h0
      · exact absurd h0 h2
      · exact h0
    · exact nin_ne hn.2 h
theorem inz_ne {l : List (Nat × Nat)} {z g base k : Nat} (h : InZ l z g base) (hk : k < base) (hn : Nin l k) : z = 0 ∨ k ≠ g := by
  rcases h with h | h | h
  · exact .inl h
  · exact .inr (by omega)
  · exact .inr (nin_ne hn h)
theorem ina_nin {l : List (Nat × Nat)} {base k : Nat} (hk : k < base) (hn : Nin l k) : ∀ {m : List (Nat × Nat)}, InA m l base → Nin m k
  | [], _ => trivial
  | (z, g) :: r, h => ⟨inz_ne h.1 hk hn, ina_nin hk hn h.2⟩
/-- of the old blocks only those of l may have turned -/
structure Kz (l : List (Nat × Nat)) (w w' : World) : Prop where
  os : w'.os = w.os
  tape : w'.tape = w.tape
  output : w'.output = w.output
  size : w.heap.size ≤ w'.heap.size
  block : ∀ k, k < w.heap.size → Nin l k → w'.heap[k]? = w.heap[k]?
section
variable {l m : List (Nat × Nat)} {w w₁ w₂ w' : World} {z g b o sz : Nat} {t e : TypeId} {cs : List Value} {v : Value} {xs : List (List Value)}
theorem Kz.refl (l : List (Nat × Nat)) (w : World) : Kz l w w := ⟨rfl, rfl, rfl, Nat.le_refl _, fun _ _ _ => rfl⟩
theorem Kz.gr (h : Kz l w w₁) (k : Gr w₁ w₂) : Kz l w w₂ := ⟨k.os.trans h.os, k.tape.trans h.tape, k.output.trans h.output, Nat.le_trans h.size k.size, fun i hi hn => (k.block i (Nat.lt_of_lt_of_le hi h.size)).trans (h.block i hi hn)⟩
theorem Kz.md (h : Kz l w w₁) (k : Md b w₁ w₂) (hb : InZ l 1 b w.heap.size := by simp only [Nin, InA, InZ, mz_map, Mz, or_true, true_or, and_true, List.mem_cons, List.mem_append, mem_zf, List.not_mem_nil, or_false, false_or, not_or, ne_eq, List.nil_append, List.cons_append, true_and, and_true, false_and, and_false, not_true_eq_false, not_false_eq_true, or_true, true_or] <;> omega) : Kz l w w₂ := ⟨k.os.trans h.os, k.tape.trans h.tape, k.output.trans h.output, by rw [k.size]; exact h.size, fun i hi hn => (k.block i (by have := inz_ne hb hi hn; omega)).trans (h.block i hi hn)⟩
theorem Kz.ka (h : Kz l w w₁) (k : Ka z g w₁ w₂) (hb : InZ l z g w.heap.size := by simp only [Nin, InA, InZ, mz_map, Mz, or_true, true_or, and_true, List.mem_cons, List.mem_append, mem_zf, List.not_mem_nil, or_false, false_or, not_or, ne_eq, List.nil_append, List.cons_append, true_and, and_true, false_and, and_false, not_true_eq_false, not_false_eq_true, or_true, true_or] <;> omega) : Kz l w w₂ := ⟨k.os.trans h.os, k.tape.trans h.tape, k.output.trans h.output, Nat.le_trans h.size k.size, fun i hi hn => (k.block i (Nat.lt_of_lt_of_le hi h.size) (inz_ne hb hi hn)).trans (h.block i hi hn)⟩
theorem Kz.kz (h : Kz l w w₁) (k : Kz m w₁ w₂) (hb : InA m l w.heap.size := by simp only [Nin, InA, InZ, mz_map, Mz, or_true, true_or, and_true, List.mem_cons, List.mem_append, mem_zf, List.not_mem_nil, or_false, false_or, not_or, ne_eq, List.nil_append, List.cons_append, true_and, and_true, false_and, and_false, not_true_eq_false, not_false_eq_true, or_true, true_or] <;> omega) : Kz l w w₂ := ⟨k.os.trans h.os, k.tape.trans h.tape, k.output.trans h.output, Nat.le_trans h.size k.size, fun i hi hn => (k.block i (Nat.lt_of_lt_of_le hi h.size) (ina_nin hi hn hb)).trans (h.block i hi hn)⟩
theorem Kz.kp {ms : List Nat} (h : Kz l w w₁) (k : Kp ms w₁ w₂) (hb : InA (ms.map fun b => (1, b)) l w.heap.size) : Kz l w w₂ := ⟨k.os.trans h.os, k.tape.trans h.tape, k.output.trans h.output, Nat.le_trans h.size k.size, fun i hi hn => (k.block i (Nat.lt_of_lt_of_le hi h.size) (fun hm => by
  have h1 := ina_nin hi hn hb
  have key : ∀ (ms : List Nat), i ∈ ms → Nin (ms.map fun b => (1, b)) i → False := by
    intro ms
    induction ms with
    | nil => intro h; cases h
    | cons a r ih =>
      intro h h2
      rcases List.mem_cons.1 h with rfl | h
      · have := h2.1; omega
      · exact ih h h2.2
  exact key ms hm h1)).trans (h.block i hi hn)⟩
theorem Gr.kz (h : Gr w w₁) (k : Kz m w₁ w₂) (hb : InA m [] w.heap.size := by simp only [Nin, InA, InZ, mz_map, Mz, or_true, true_or, and_true, List.mem_cons, List.mem_append, mem_zf, List.not_mem_nil, or_false, false_or, not_or, ne_eq, List.nil_append, List.cons_append, true_and, and_true, false_and, and_false, not_true_eq_false, not_false_eq_true, or_true, true_or] <;> omega) : Gr w w₂ := ⟨k.os.trans h.os, k.tape.trans h.tape, k.output.trans h.output, Nat.le_trans h.size k.size, fun i hi => (k.block i (Nat.lt_of_lt_of_le hi h.size) (ina_nin (l := []) hi trivial hb)).trans (h.block i hi)⟩
theorem Kp.kz {ms : List Nat} (h : Kp ms w w₁) (k : Kz m w₁ w₂) (hb : InA m (ms.map fun b => (1, b)) w.heap.size := by simp only [Nin, InA, InZ, mz_map, Mz, or_true, true_or, and_true, List.mem_cons, List.mem_append, mem_zf, List.not_mem_nil, or_false, false_or, not_or, ne_eq, List.nil_append, List.cons_append, true_and, and_true, false_and, and_false, not_true_eq_false, not_false_eq_true, or_true, true_or] <;> omega) : Kp ms w w₂ := ⟨k.os.trans h.os, k.tape.trans h.tape, k.output.trans h.output, Nat.le_trans h.size k.size, fun i hi hn => (k.block i (Nat.lt_of_lt_of_le hi h.size) (ina_nin hi (by
  have key : ∀ (ms : List Nat), i ∉ ms → Nin (ms.map fun b => (1, b)) i := by
    intro ms
    induction ms with
    | nil => intro _; trivial
    | cons a r ih => intro h; exact ⟨.inr (fun e => h (by rw [e]; simp)), ih (fun h2 => h (by simp [h2]))⟩
  exact key ms hn) hb)).trans (h.block i hi hn)⟩
theorem Bx.kz (h : Bx w b t cs) (k : Kz l w w') (hn : Nin l b := by simp only [Nin, InA, InZ, mz_map, Mz, or_true, true_or, and_true, List.mem_cons, List.mem_append, mem_zf, List.not_mem_nil, or_false, false_or, not_or, ne_eq, List.nil_append, List.cons_append, true_and, and_true, false_and, and_false, not_true_eq_false, not_false_eq_true, or_true, true_or] <;> omega) : Bx w' b t cs := (k.block b h.lt hn).trans h
theorem Own.kz (h : Own w z g e sz v xs) (k : Kz l w w') (hn : z = 0 ∨ Nin l g := by simp only [Nin, InA, InZ, mz_map, Mz, or_true, true_or, and_true, List.mem_cons, List.mem_append, mem_zf, List.not_mem_nil, or_false, false_or, not_or, ne_eq, List.nil_append, List.cons_append, true_and, and_true, false_and, and_false, not_true_eq_false, not_false_eq_true, or_true, true_or] <;> omega) : Own w' z g e sz v xs := h.keep (hn.imp id fun hn hl => k.block g hl hn)
theorem Rd.kz (h : Rd w z g o sz v xs) (k : Kz l w w') (hn : z = 0 ∨ Nin l g := by simp only [Nin, InA, InZ, mz_map, Mz, or_true, true_or, and_true, List.mem_cons, List.mem_append, mem_zf, List.not_mem_nil, or_false, false_or, not_or, ne_eq, List.nil_append, List.cons_append, true_and, and_true, false_and, and_false, not_true_eq_false, not_false_eq_true, or_true, true_or] <;> omega) : Rd w' z g o sz v xs := h.keep (hn.imp id fun hn hl => k.block g hl hn) k.size
theorem Df.kz {D : Nat} (h : Df w D) (k : Kz l w w') (hn : Nin l D := by simp only [Nin, InA, InZ, mz_map, Mz, or_true, true_or, and_true, List.mem_cons, List.mem_append, mem_zf, List.not_mem_nil, or_false, false_or, not_or, ne_eq, List.nil_append, List.cons_append, true_and, and_true, false_and, and_false, not_true_eq_false, not_false_eq_true, or_true, true_or] <;> omega) : Df w' D := (k.block D h.lt hn).trans h
theorem Rd.oneB (h : Rd w z g o sz v xs) : oneB v = true := by
  rcases h.2 with ⟨_, _, a, c, rfl⟩ | ⟨_, c, rfl, _⟩ <;> rfl
theorem ones_c {v : Value} {r : List Value} (h : oneB v = true) : ones (v :: r) = ones r := by simp [ones, h]
end
theorem ws_map' {sz : Nat} {α : Type} {c : α → List Value} {l : List α} (h : ∀ x ∈ l, (c x).length = sz ∧ ones (c x) = true) : Ws sz (l.map c) := fun y hy => by
  obtain ⟨x, hx, rfl⟩ := List.mem_map.1 hy
  exact h x hx
theorem one_int (k : IntKind) (n : Int) : oneB (.int k n) = true := rfl
theorem one_bool (b : Bool) : oneB (.bool b) = true := rfl
theorem one_str (b : ByteArray) : oneB (.string b) = true := rfl
/-- ways that meet again -/
theorem sw_joinD {P : Program} {r : Option Nat} {n : Nat} {Q : Exit → List Deferred → Slots → World → Prop} {D : List Deferred} {L : Slots} {w : World} {x y : Code} {β : Type} (dead : List Nat) (dyn : β → Slots) (J : β → World → Prop)
    (hk : ∀ b w1, J b w1 → SW P r n y Q D (dyn b ++ drp dead L) w1)
    (h : SW P r n x (thenQ (fun D1 L1 w1 => D1 = D ∧ ∃ b, SubP (dyn b ++ drp dead L) L1 ∧ J b w1) Q) D L w) : SW P r n (.seq x y) Q D L w :=
  sw_seq (h.mono fun e D1 L1 w1 hh => by
    cases e with
    | normal => obtain ⟨rfl, b, h1, h2⟩ := hh; exact (hk b w1 h2).forget h1
    | exit id => exact hh
    | goto l => exact hh
    | ret => exact hh
    | panic c => exact hh
    | outgrown => exact hh)
section
variable {P : Program} {L : Slots} {w : World} {dst : Option Nat} {ty : TypeId} {pos : String} {af : Array Edge} {gu : Option (Nat × Bool)} {x y : Operand} {t u : TypeId}
theorem vv_notD {p : Prop} [Decidable p] (hx : ev L x = some (.bool (decide p))) : VV P L ⟨dst, .unOp .not t x, ty, pos, af, gu⟩ w (.bool (decide (¬ p))) := vv_eq (vv_not hx) (by by_cases h : p <;> simp [h])
/-- a conversion that leaves the value -/
def CVS (P : Program) (s d : TypeId) : Prop := ∀ v w, (convert s d v).run P w = .ok v w
theorem vv_cvSame {s d : TypeId} {v : Value} (h : CVS P s d) (hx : ev L x = some v) : VV P L ⟨dst, .convert s d x, ty, pos, af, gu⟩ w v := fun ρ hρ => run_v (by rw [hρ _ _ hx]; exact h v w)
def BZ (P : Program) (t : TypeId) (v : Value) : Prop := ∀ w, (Instr.build t #[]).run P w = .ok v w
theorem vv_buildZ {v : Value} (h : BZ P t v) : VV P L ⟨dst, .build t #[], ty, pos, af, gu⟩ w v := fun ρ hρ => run_v (by simpa using h w)
def sure : Value → Bool
  | .pointer (some _) => true
  | .func (.func _) _ _ => true
  | _ => false
theorem vv_nilCheck {v : Value} (hx : ev L x = some v) (hs : sure v = true) : VV P L ⟨dst, .nilCheck x, ty, pos, af, gu⟩ w v := fun ρ hρ => by
  simp only [execOp, hρ _ _ hx]
  unfold sure at hs
  split at hs <;> first | rfl | cases hs
theorem vv_eqlL {a b : Bool} (hu : P.underlying t = some .bool) (hx : ev L x = some (.bool a)) (hy : ev L y = some (.bool b)) : VV P L ⟨dst, .binOp .eql t x y u, ty, pos, af, gu⟩ w (.bool (a == b)) := fun ρ hρ => by
  simp [execOp, hρ _ _ hx, hρ _ _ hy, go_sem, run_eql_bool _ _ _ _ hu]
theorem vv_neqL {a b : Bool} (hu : P.underlying t = some .bool) (hx : ev L x = some (.bool a)) (hy : ev L y = some (.bool b)) : VV P L ⟨dst, .binOp .neq t x y u, ty, pos, af, gu⟩ w (.bool (a != b)) := fun ρ hρ => by
  simp [execOp, hρ _ _ hx, hρ _ _ hy, go_sem, run_neq_bool _ _ _ _ hu]; cases a <;> cases b <;> rfl
theorem dcd_dec {p : Prop} [Decidable p] {q : Prop} (h : q ↔ p) : dcd q = decide p := by
  by_cases hp : p
  · rw [dcd_true (h.2 hp)]; simp [hp]
  · rw [dcd_false (fun hq => hp (h.1 hq))]; simp [hp]
theorem vv_eqlS {α : Type} [DecidableEq α] {cf : α → List Value} {a b : α} {ks : List Ck} (h : EqT P t ks) (hx : ev L x = some (.agg (cf a).toArray)) (hy : ev L y = some (.agg (cf b).toArray)) (hc : kn ks (cf a) = true) (hd : kn ks (cf b) = true) (inj : cf a = cf b → a = b) :
    VV P L ⟨dst, .binOp .eql t x y u, ty, pos, af, gu⟩ w (.bool (decide (a = b))) := vv_eq (vv_eqlA h hx hy hc hd) (by rw [dcd_dec ⟨inj, fun h => by rw [h]⟩])
theorem vv_neqS {α : Type} [DecidableEq α] {cf : α → List Value} {a b : α} {ks : List Ck} (h : EqT P t ks) (hx : ev L x = some (.agg (cf a).toArray)) (hy : ev L y = some (.agg (cf b).toArray)) (hc : kn ks (cf a) = true) (hd : kn ks (cf b) = true) (inj : cf a = cf b → a = b) :
    VV P L ⟨dst, .binOp .neq t x y u, ty, pos, af, gu⟩ w (.bool (decide (a ≠ b))) := vv_eq (vv_neqA h hx hy hc hd) (by rw [dcd_dec (p := a = b) ⟨inj, fun h => by rw [h]⟩]; by_cases h : a = b <;> simp [h])
theorem ci_inj {a b : Int} {k : IntKind} (h : some (Value.int k a) = some (.int k b)) : a = b := by simpa using h
theorem cu_inj {a b : BitVec 64} (h : some (wv a) = some (wv b)) : a = b := un_inj (ci_inj h)
theorem cb_inj {a b : BitVec 8} (h : some (bv a) = some (bv b)) : a = b := un8_inj (ci_inj h)
theorem cl_inj {a b : Bool} (h : some (Value.bool a) = some (.bool b)) : a = b := by simpa using h
theorem ev_st1 {b' off : Nat} {tb : TypeId} {v : Value} {cs cs' : List Value} (hs : Siz P t 1) (hx : ev L x = some (.pointer (some ⟨b', off, none⟩))) (hy : ev L y = some v) (h1 : oneB v = true) (hb : Bx w b' tb cs) (hl : Nat.blt off cs.length = true) (he : cs.set off v = cs') :
    EV P L ⟨dst, .store t x y, ty, pos, af, gu⟩ w fun _ w' => Bx w' b' tb cs' ∧ Md b' w w' := by
  subst he; exact ev_store1 hs hx hy h1 hb (by simpa using hl)
theorem ev_stM {b' off m : Nat} {tb : TypeId} {v : Value} {cs vs cs' : List Value} (hs : Siz P t m) (hx : ev L x = some (.pointer (some ⟨b', off, none⟩))) (hy : ev L y = some v) (hc : v.cells = vs.toArray) (hm : vs.length = m) (h1 : ones vs = true) (hb : Bx w b' tb cs) (hl : Nat.ble (off + m) cs.length = true) (he : spl cs off vs = cs') :
    EV P L ⟨dst, .store t x y, ty, pos, af, gu⟩ w fun _ w' => Bx w' b' tb cs' ∧ Md b' w w' := by
  subst he; exact ev_storeM hs hx hy hc hm h1 hb hl
end
/-! ### elements that are stored into -/
section
variable {P : Program} {L : Slots} {w : World} {dst : Option Nat} {ty : TypeId} {pos : String} {af : Array Edge} {gu : Option (Nat × Bool)} {x y : Operand} {t e : TypeId} {z g sz : Nat} {v : Value}
theorem spl_len (cs : List Value) (off : Nat) (vs : List Value) (h : off + vs.length ≤ cs.length) : (spl cs off vs).length = cs.length := by simp [spl]; omega
theorem take_spl (cs : List Value) (off n : Nat) (vs : List Value) (h : off + vs.length ≤ n) (hn : n ≤ cs.length) : (spl cs off vs).take n = spl (cs.take n) off vs := by
  have e1 : (cs.take off).length = off := by simp; omega
  unfold spl
  rw [List.take_append, List.take_append, List.length_append, e1, List.take_of_length_le (l := cs.take off) (by omega), List.take_of_length_le (l := vs) (by omega), List.take_take, Nat.min_eq_left (by omega), List.drop_take]
theorem flat_spl : ∀ (xs : List (List Value)) (i q : Nat) (c vs : List Value), Ws sz xs → xs[i]? = some c → q + vs.length ≤ sz → (xs.set i (spl c q vs)).flatten = spl xs.flatten (i * sz + q) vs
  | [], i, q, c, vs, _, hi, _ => by simp at hi
  | a :: xs, 0, q, c, vs, h, hi, hq => by
    simp at hi; subst hi
    have ha := (h a (by simp)).1
    simp only [List.set_cons_zero, List.flatten_cons, Nat.zero_mul, Nat.zero_add, spl]
    rw [List.take_append_of_le_length (by omega), List.drop_append_of_le_length (by omega)]
    simp
  | a :: xs, i + 1, q, c, vs, h, hi, hq => by
    simp at hi
    have ha := (h a (by simp)).1
    have ih := flat_spl xs i q c vs (fun y hy => h y (List.mem_cons_of_mem _ hy)) hi hq
    rw [List.set_cons_succ, List.flatten_cons, ih, List.flatten_cons]; simp only [spl]
    have e1 : (i + 1) * sz + q = a.length + (i * sz + q) := by rw [ha, Nat.add_mul]; omega
    rw [e1, List.take_append, List.take_of_length_le (l := a) (by omega), show a.length + (i * sz + q) - a.length = i * sz + q from by omega, List.drop_append, @List.drop_eq_nil_of_le _ a _ (by omega), show a.length + (i * sz + q) + vs.length - a.length = i * sz + q + vs.length from by omega]
    simp
theorem ev_stEl {α : Type} {l : List α} {c : α → List Value} {a a' : α} {i : Int} {p q m : Nat} {u : Value} {vs : List Value} (hs : Siz P t m) (hx : ev L x = some (.pointer (some ⟨g, p, none⟩))) (hy : ev L y = some u) (hc : u.cells = vs.toArray) (hm : vs.length = m) (h1 : ones vs = true)
    (h : Own w z g e sz v (l.map c)) (hg : getI l i = some a) (hp : p = i.toNat * sz + q) (hq : Nat.ble (q + m) sz = true) (he : spl (c a) q vs = c a') (hw : (c a').length = sz ∧ ones (c a') = true) :
    EV P L ⟨dst, .store t x y, ty, pos, af, gu⟩ w fun _ w' => Own w' z g e sz v ((l.set i.toNat a').map c) ∧ Md g w w' := by
  have hq' := Nat.le_of_ble_eq_true hq
  have hi := getI_at hg
  have hxi : (l.map c)[i.toNat]? = some (c a) := getm hi
  have hil := (List.getElem?_eq_some_iff.1 hxi).1
  rcases h.2 with ⟨_, _, h0⟩ | ⟨hz, cap, cur, hv, hb, hn, hcap, hsz, htk⟩
  · rw [h0] at hxi; simp at hxi
  · have hbx : Bx w g e cur.toList := by unfold Bx; simpa using hb
    have hfl := h.1.flat
    have hle : (l.map c).length * sz ≤ cur.toList.length := by rw [show cur.toList.length = cap * sz from hsz]; exact Nat.mul_le_mul_right _ hn
    have hin : i.toNat * sz + sz ≤ (l.map c).length * sz := by rw [← Nat.succ_mul]; exact Nat.mul_le_mul_right _ hil
    have hbd : i.toNat * sz + q + vs.length ≤ cur.toList.length := by omega
    refine (ev_storeM (off := p) hs hx hy hc hm h1 hbx (by rw [Nat.ble_eq_true_of_le]; omega)).mono ?_
    rintro _ w' ⟨h2, h3⟩
    have hset : (l.set i.toNat a').map c = (l.map c).set i.toNat (spl (c a) q vs) := by rw [List.map_set, he]
    refine ⟨⟨?_, .inr ⟨hz, cap, (spl cur.toList p vs).toArray, ?_, h2, ?_, hcap, ?_, ?_⟩⟩, h3⟩
    · rw [hset]; intro y hy
      rcases List.mem_or_eq_of_mem_set hy with hy | hy
      · exact h.1 y hy
      · subst hy; rw [he]; exact hw
    · rw [hv]; simp
    · simpa using hn
    · rw [List.size_toArray, hp, spl_len _ _ _ (by omega), Array.length_toList]; exact hsz
    · rw [hset, flat_spl _ _ _ _ _ h.1 hxi (by omega), ← htk, hp, List.length_set]
      exact take_spl _ _ _ _ (by omega) hle
/-- make -/
theorem made_list (z : List Value) (h : 0 < z.length) : ∀ n, ((List.range (n * z.length)).map fun i => z.toArray[i % z.toArray.size]!) = (List.replicate n z).flatten
  | 0 => by simp
  | n + 1 => by
    rw [Nat.add_mul, Nat.one_mul, List.range_add, List.map_append, made_list z h n, List.map_map, List.replicate_succ', List.flatten_append]
    congr 1
    apply List.ext_getElem (by simp)
    intro i h1 h2
    have hi : i < z.length := by simpa using h1
    have e1 : (n * z.length + i) % z.length = i := by rw [Nat.mul_comm, Nat.mul_add_mod, Nat.mod_eq_of_lt hi]
    simp [e1, hi]
theorem ev_mkT {bytes : Nat} {zv : Value} {α : Type} {c : α → List Value} {a : α} {n : Int} {l : List α} (ha : ApT P t e sz bytes) (hz : ZV P e zv) (hc : zv.cells = (c a).toArray) (hs : (c a).length = sz ∧ ones (c a) = true) (hx : ev L x = some (.int .i64 n)) (hl : mkL bytes n a = some l) (hpos : 1 ≤ bytes) :
    EV P L ⟨dst, .makeSlice t x x, ty, pos, af, gu⟩ w fun v' w' => ∃ g', w.heap.size ≤ g' ∧ Own w' 1 g' e sz v' (l.map c) ∧ Gr w w' := fun ρ hρ => by
  obtain ⟨rfl, h0, hb⟩ := mkL_eq hl
  obtain ⟨i, zv', hi, hzv, hsz, hby, hzs⟩ := ha.info
  have hzz : zv' = zv := by
    have h1 := hz w
    simp [zeroValue, typeInfo, hi, hzv] at h1
    exact h1
  subst hzz hsz hby
  have hle : n ≤ n * i.bytes := by have := Int.mul_le_mul_of_nonneg_left (show (1 : Int) ≤ i.bytes by omega) h0; omega
  have hbc : (i.bytes : Int) * n = n * i.bytes := Int.mul_comm _ _
  have hrun := run_make (P := P) w t e i zv' ha.und hi hzv .i64 .i64 n n h0 (Int.le_refl _) (by omega) (by omega)
  have hmade : (madeCells zv'.cells (n.toNat * i.size)).toList = (List.replicate n.toNat (c a)).flatten := by
    rw [hc]; unfold madeCells
    rw [Array.toList_map, Array.toList_range, ← hs.1]
    exact made_list (c a) (by rw [hs.1]; exact ha.pos) n.toNat
  have hws : Ws i.size ((List.replicate n.toNat a).map c) := ws_map' (fun y hy => by rw [List.eq_of_mem_replicate hy]; exact hs)
  refine .val _ _ (run_v ?_) ⟨w.heap.size, Nat.le_refl _, ⟨hws, .inr ⟨rfl, n.toNat, madeCells zv'.cells (n.toNat * i.size), by rw [List.length_map, List.length_replicate], heap_alloc_new w _, by rw [List.length_map, List.length_replicate]; exact Nat.le_refl _, by simp only [maxLen]; omega, size_madeCells _ _, ?_⟩⟩, (Below.refl _ _).alloc (Nat.le_refl _) _⟩
  · rw [hρ _ _ hx]; exact hrun
  · rw [List.length_map, List.length_replicate, List.map_replicate, ← hmade, List.take_of_length_le (by rw [Array.length_toList, size_madeCells]; exact Nat.le_refl _)]
/-! a part of a slice -/
/-- the bounds of a slice expression -/
def OBI (L : Slots) (o : Option Operand) (d v : Int) : Prop := match o with
  | none => v = d
  | some x => ∃ k, ev L x = some (.int k v)
theorem run_sli {a : Option Addr} {len cap : Nat} {lo hi : Int} {ol oh : Option Operand} {ρ : Operand → Value} (hρ : Cons L ρ) (hu : P.underlying t = some (.slice e)) (hs : Siz P e sz) (h1 : OBI L ol 0 lo) (h2 : OBI L oh (len : Int) hi) (h0 : 0 ≤ lo) (hlh : lo ≤ hi) (hh : hi ≤ len) (hcap : len ≤ cap) :
    (Instr.sliceAt t (.slice a len cap) (ol.map ρ) (oh.map ρ) none).run P w = .ok (sliced a lo.toNat hi.toNat cap sz) w := by
  have he : P.elem t = e := by simp [Program.elem, hu]
  have hu' : P.underlying t = some (.slice (P.elem t)) := by rw [he]; exact hu
  rw [run_sliceAt_slice _ _ _ _ _ _ hu']
  cases ol with
  | none =>
    simp only [OBI] at h1; subst h1
    cases oh with
    | none => simp only [OBI] at h2; subst h2; rw [Option.map_none, run_slice_all _ _ _ _ _ hu', he, hs w]; simp [Result.andThen]
    | some q => obtain ⟨k, hq⟩ := h2; rw [Option.map_none, Option.map_some, hρ _ _ hq, run_slice_h _ _ _ _ _ hu' _ _ (by omega) (by omega), he, hs w]; simp [Result.andThen]
  | some p =>
    obtain ⟨k1, hp⟩ := h1
    cases oh with
    | none => simp only [OBI] at h2; subst h2; rw [Option.map_none, Option.map_some, hρ _ _ hp, run_slice_l _ _ _ _ _ hu' _ _ h0 (by omega), he, hs w]; simp [Result.andThen]
    | some q => obtain ⟨k, hq⟩ := h2; rw [Option.map_some, Option.map_some, hρ _ _ hp, hρ _ _ hq, run_slice_lh _ _ _ _ _ hu' _ _ _ _ h0 hlh (by omega), he, hs w]; simp [Result.andThen]
theorem vv_sliT {α : Type} {c : α → List Value} {l m : List α} {lo hi : Int} {ol oh : Option Operand} {o : Nat} (hu : P.underlying t = some (.slice e)) (hs : Siz P e sz) (hx : ev L x = some v) (hr : Rd w z g o sz v (l.map c)) (h1 : OBI L ol 0 lo) (h2 : OBI L oh (l.length : Int) hi) (hl : sliG l lo hi = some m) :
    ∃ v' o', (∀ w1, VV P L ⟨dst, .slice t x ol oh none, ty, pos, af, gu⟩ w1 v') ∧ Rd w z g o' sz v' (m.map c) := by
  obtain ⟨rfl, h3, h4, h5⟩ := sliG_eq hl
  rcases hr.2 with ⟨hz, hnil, a, cap, rfl⟩ | ⟨hz, cap, rfl, ⟨hg, hcap⟩, hcell⟩
  · have hl0 : l = [] := by simpa using hnil
    subst hl0
    simp only [List.length_nil] at h2 h5
    have e1 : lo = 0 := by omega
    have e2 : hi = 0 := by omega
    subst e1 e2
    refine ⟨_, 0, fun w1 ρ hρ => run_v (by rw [hρ _ _ hx]; exact run_sli hρ hu hs h1 h2 (by omega) (by omega) (by omega) (Nat.zero_le _)), by simpa using hr.1, .inl ⟨hz, by simp, ?_⟩⟩
    exact ⟨_, _, rfl⟩
  · rw [List.length_map] at hcap hx
    have hlen : ((l.map c).take hi.toNat).length = hi.toNat := by rw [List.length_take, List.length_map]; omega
    have hm : (((l.take hi.toNat).drop lo.toNat).map c) = ((l.map c).take hi.toNat).drop lo.toNat := by rw [List.map_drop, List.map_take]
    have hml : (((l.take hi.toNat).drop lo.toNat).map c).length = hi.toNat - lo.toNat := by rw [hm, List.length_drop, hlen]
    refine ⟨_, if cap = lo.toNat then o else o + lo.toNat * sz, fun w1 ρ hρ => run_v (by rw [hρ _ _ hx]; exact run_sli hρ hu hs h1 h2 h3 h4 h5 hcap), by rw [hm]; exact hr.1.take.drop, .inr ⟨hz, cap - lo.toNat, ?_, ⟨hg, by rw [hml]; omega⟩, fun j u hj => ?_⟩⟩
    · simp only [sliced, hml]
      by_cases e : cap = lo.toNat
      · rw [if_pos e, if_pos e]
      · rw [if_neg e, if_neg e]; simp [Addr.add_lit]
    · rw [hm, flat_drop _ _ hr.1.take, flat_take _ _ hr.1, List.getElem?_drop] at hj
      have hj2 : (l.map c).flatten[lo.toNat * sz + j]? = some u := by
        rw [List.getElem?_take] at hj
        split at hj
        · exact hj
        · cases hj
      by_cases e : cap = lo.toNat
      · exfalso
        have e2 : hi.toNat = lo.toNat := by omega
        rw [List.getElem?_take, e2] at hj
        split at hj
        · omega
        · cases hj
      · rw [if_neg e, Nat.add_assoc]; exact hcell _ _ hj2
end
end Go.Sx
namespace Go.Sx
open Go
section
variable {P : Program} {n : Nat} {ops : Array Oper} {Q : Slots → World → Prop} {rest : List (Nat × Nat)} {i : Nat} {dst : Option Nat} {op : Op} {ty : TypeId} {pos : String} {af : Array Edge} {gu : Option (Nat × Bool)} {L : Slots} {w w₀ : World} {ms : List Nat} {kp : Nat → Nat → Bool} {B : Value → Nat → Prop}
theorem sd_sli (hi : ops[i]? = some ⟨dst, op, ty, pos, af, gu⟩) (hg : gd ops L ⟨dst, op, ty, pos, af, gu⟩ = some true) (hd : inN n dst = true) (hv : ∃ v o, (∀ w1, VV P L ⟨dst, op, ty, pos, af, gu⟩ w1 v) ∧ B v o)
    (h : ∀ v o, B v o → SD P n ops Q (fun _ _ => True) (fun _ _ => false) rest (putL dst v L) w) : SD P n ops Q (fun _ _ => True) (fun _ _ => false) ((i, 0) :: rest) L w := by
  obtain ⟨v, o, h1, h2⟩ := hv
  exact sd_vv hi hg hd (h1 w) (h v o h2)
theorem dd_sli3 (hi : ops[i]? = some ⟨dst, op, ty, pos, af, gu⟩) (hg : gd ops L ⟨dst, op, ty, pos, af, gu⟩ = some true) (hd : inN n dst = true) (hS : Kp ms w₀ w) (hv : ∃ v o, (∀ w1, VV P L ⟨dst, op, ty, pos, af, gu⟩ w1 v) ∧ B v o)
    (h : ∀ v o, B v o → SD P n ops Q (Hld ms w₀) kp rest (putL dst v L) w) : SD P n ops Q (Hld ms w₀) kp ((i, 3) :: rest) L w := by
  obtain ⟨v, o, h1, h2⟩ := hv
  exact dd_h3 hi hg hd hS (fun w1 _ => h1 w1) (h v o h2)
end
end Go.Sx
