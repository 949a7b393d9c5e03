/- Several texts in one: MirB MirC MirD MirE MirF MirG Wd MirH MirI We MirJ MirK MirL Sq Row Opn Pln Wf GaM GhM GcM GeM GfM ScaM OpnSca MirM. -/
import Derived.Test.YtopkalcefepilaaZb
import Derived.Laws.IdiomStrings
import Derived.Laws.Strings
import Derived.Laws.IdiomCopy
import Derived.Laws.IdiomRangeMap
import Derived.ControlIn
import Derived.Laws.CopyRow
import Derived.Laws.Slices
import Derived.Test.YtopkalcefepilaaRows
import Derived.ProofKit
import Derived.OpenShut
import Derived.ShutString
import Derived.ChangeOld
import Derived.Below
import Derived.Carry
import Derived.SizedLaws
import Derived.KernelRfl
set_option linter.unusedVariables false
set_option linter.unusedSimpArgs false
section
set_option linter.unusedVariables false
set_option linter.unusedSimpArgs false
namespace Go.Sx
open Go Go.RowKit
/-- block k is none of these (an entry with 0 counts for nothing) -/
def Nin : List (Nat × Nat) → Nat → Prop
  | [], _ => True
  | (z, g) :: r, k => (z = 0 ∨ k ≠ g) ∧ Nin r k
def Mz : List (Nat × Nat) → Nat → Prop
  | [], _ => False
  | (z, g) :: r, k => (k = g ∧ z ≠ 0) ∨ Mz r k
def InZ (l : List (Nat × Nat)) (z g base : Nat) : Prop := z = 0 ∨ base ≤ g ∨ Mz l g
def InA : List (Nat × Nat) → List (Nat × Nat) → Nat → Prop
  | [], _, _ => True
  | (z, g) :: r, l, base => InZ l z g base ∧ InA r l base
theorem mz_map {g : Nat} : ∀ {ms : List Nat}, Mz (ms.map fun b => (1, b)) g ↔ g ∈ ms
  | [] => by simp [Mz]
  | a :: r => by simp [Mz, mz_map]
theorem nin_ne : ∀ {l : List (Nat × Nat)} {k g : Nat}, Nin l k → Mz l g → k ≠ g
  | [], k, g, _, h => h.elim
  | (z, b) :: r, k, g, hn, h => by
    rcases h with ⟨h1, h2⟩ | h
    · subst h1; rcases hn.1 with h0 | h0
      · exact absurd h0 h2
      · exact h0
    · exact nin_ne hn.2 h
theorem inz_ne {l : List (Nat × Nat)} {z g base k : Nat} (h : InZ l z g base) (hk : k < base) (hn : Nin l k) : z = 0 ∨ k ≠ g := by
  rcases h with h | h | h
  · exact .inl h
  · exact .inr (by omega)
  · exact .inr (nin_ne hn h)
theorem ina_nin {l : List (Nat × Nat)} {base k : Nat} (hk : k < base) (hn : Nin l k) : ∀ {m : List (Nat × Nat)}, InA m l base → Nin m k
  | [], _ => trivial
  | (z, g) :: r, h => ⟨inz_ne h.1 hk hn, ina_nin hk hn h.2⟩
/-- of the old blocks only those of l may have turned -/
structure Kz (l : List (Nat × Nat)) (w w' : World) : Prop where
  os : w'.os = w.os
  tape : w'.tape = w.tape
  output : w'.output = w.output
  size : w.heap.size ≤ w'.heap.size
  block : ∀ k, k < w.heap.size → Nin l k → w'.heap[k]? = w.heap[k]?
section
variable {l m : List (Nat × Nat)} {w w₁ w₂ w' : World} {z g b o sz : Nat} {t e : TypeId} {cs : List Value} {v : Value} {xs : List (List Value)}
theorem Kz.refl (l : List (Nat × Nat)) (w : World) : Kz l w w := ⟨rfl, rfl, rfl, Nat.le_refl _, fun _ _ _ => rfl⟩
theorem Kz.gr (h : Kz l w w₁) (k : Gr w₁ w₂) : Kz l w w₂ := ⟨k.os.trans h.os, k.tape.trans h.tape, k.output.trans h.output, Nat.le_trans h.size k.size, fun i hi hn => (k.block i (Nat.lt_of_lt_of_le hi h.size)).trans (h.block i hi hn)⟩
theorem Kz.md (h : Kz l w w₁) (k : Md b w₁ w₂) (hb : InZ l 1 b w.heap.size := by simp only [Nin, InA, InZ, mz_map, Mz, or_true, true_or, and_true, List.mem_cons, List.mem_append, mem_zf, List.not_mem_nil, or_false, false_or, not_or, ne_eq, List.nil_append, List.cons_append, true_and, and_true, false_and, and_false, not_true_eq_false, not_false_eq_true, or_true, true_or] <;> omega) : Kz l w w₂ := ⟨k.os.trans h.os, k.tape.trans h.tape, k.output.trans h.output, by rw [k.size]; exact h.size, fun i hi hn => (k.block i (by have := inz_ne hb hi hn; omega)).trans (h.block i hi hn)⟩
theorem Kz.ka (h : Kz l w w₁) (k : Ka z g w₁ w₂) (hb : InZ l z g w.heap.size := by simp only [Nin, InA, InZ, mz_map, Mz, or_true, true_or, and_true, List.mem_cons, List.mem_append, mem_zf, List.not_mem_nil, or_false, false_or, not_or, ne_eq, List.nil_append, List.cons_append, true_and, and_true, false_and, and_false, not_true_eq_false, not_false_eq_true, or_true, true_or] <;> omega) : Kz l w w₂ := ⟨k.os.trans h.os, k.tape.trans h.tape, k.output.trans h.output, Nat.le_trans h.size k.size, fun i hi hn => (k.block i (Nat.lt_of_lt_of_le hi h.size) (inz_ne hb hi hn)).trans (h.block i hi hn)⟩
theorem Kz.kz (h : Kz l w w₁) (k : Kz m w₁ w₂) (hb : InA m l w.heap.size := by simp only [Nin, InA, InZ, mz_map, Mz, or_true, true_or, and_true, List.mem_cons, List.mem_append, mem_zf, List.not_mem_nil, or_false, false_or, not_or, ne_eq, List.nil_append, List.cons_append, true_and, and_true, false_and, and_false, not_true_eq_false, not_false_eq_true, or_true, true_or] <;> omega) : Kz l w w₂ := ⟨k.os.trans h.os, k.tape.trans h.tape, k.output.trans h.output, Nat.le_trans h.size k.size, fun i hi hn => (k.block i (Nat.lt_of_lt_of_le hi h.size) (ina_nin hi hn hb)).trans (h.block i hi hn)⟩
theorem Kz.kp {ms : List Nat} (h : Kz l w w₁) (k : Kp ms w₁ w₂) (hb : InA (ms.map fun b => (1, b)) l w.heap.size) : Kz l w w₂ := ⟨k.os.trans h.os, k.tape.trans h.tape, k.output.trans h.output, Nat.le_trans h.size k.size, fun i hi hn => (k.block i (Nat.lt_of_lt_of_le hi h.size) (fun hm => by
  have h1 := ina_nin hi hn hb
  have key : ∀ (ms : List Nat), i ∈ ms → Nin (ms.map fun b => (1, b)) i → False := by
    intro ms
    induction ms with
    | nil => intro h; cases h
    | cons a r ih =>
      intro h h2
      rcases List.mem_cons.1 h with rfl | h
      · have := h2.1; omega
      · exact ih h h2.2
  exact key ms hm h1)).trans (h.block i hi hn)⟩
theorem Gr.kz (h : Gr w w₁) (k : Kz m w₁ w₂) (hb : InA m [] w.heap.size := by simp only [Nin, InA, InZ, mz_map, Mz, or_true, true_or, and_true, List.mem_cons, List.mem_append, mem_zf, List.not_mem_nil, or_false, false_or, not_or, ne_eq, List.nil_append, List.cons_append, true_and, and_true, false_and, and_false, not_true_eq_false, not_false_eq_true, or_true, true_or] <;> omega) : Gr w w₂ := ⟨k.os.trans h.os, k.tape.trans h.tape, k.output.trans h.output, Nat.le_trans h.size k.size, fun i hi => (k.block i (Nat.lt_of_lt_of_le hi h.size) (ina_nin (l := []) hi trivial hb)).trans (h.block i hi)⟩
theorem Kp.kz {ms : List Nat} (h : Kp ms w w₁) (k : Kz m w₁ w₂) (hb : InA m (ms.map fun b => (1, b)) w.heap.size := by simp only [Nin, InA, InZ, mz_map, Mz, or_true, true_or, and_true, List.mem_cons, List.mem_append, mem_zf, List.not_mem_nil, or_false, false_or, not_or, ne_eq, List.nil_append, List.cons_append, true_and, and_true, false_and, and_false, not_true_eq_false, not_false_eq_true, or_true, true_or] <;> omega) : Kp ms w w₂ := ⟨k.os.trans h.os, k.tape.trans h.tape, k.output.trans h.output, Nat.le_trans h.size k.size, fun i hi hn => (k.block i (Nat.lt_of_lt_of_le hi h.size) (ina_nin hi (by
  have key : ∀ (ms : List Nat), i ∉ ms → Nin (ms.map fun b => (1, b)) i := by
    intro ms
    induction ms with
    | nil => intro _; trivial
    | cons a r ih => intro h; exact ⟨.inr (fun e => h (by rw [e]; simp)), ih (fun h2 => h (by simp [h2]))⟩
  exact key ms hn) hb)).trans (h.block i hi hn)⟩
theorem Bx.kz (h : Bx w b t cs) (k : Kz l w w') (hn : Nin l b := by simp only [Nin, InA, InZ, mz_map, Mz, or_true, true_or, and_true, List.mem_cons, List.mem_append, mem_zf, List.not_mem_nil, or_false, false_or, not_or, ne_eq, List.nil_append, List.cons_append, true_and, and_true, false_and, and_false, not_true_eq_false, not_false_eq_true, or_true, true_or] <;> omega) : Bx w' b t cs := (k.block b h.lt hn).trans h
theorem Own.kz (h : Own w z g e sz v xs) (k : Kz l w w') (hn : z = 0 ∨ Nin l g := by simp only [Nin, InA, InZ, mz_map, Mz, or_true, true_or, and_true, List.mem_cons, List.mem_append, mem_zf, List.not_mem_nil, or_false, false_or, not_or, ne_eq, List.nil_append, List.cons_append, true_and, and_true, false_and, and_false, not_true_eq_false, not_false_eq_true, or_true, true_or] <;> omega) : Own w' z g e sz v xs := h.keep (hn.imp id fun hn hl => k.block g hl hn)
theorem Rd.kz (h : Rd w z g o sz v xs) (k : Kz l w w') (hn : z = 0 ∨ Nin l g := by simp only [Nin, InA, InZ, mz_map, Mz, or_true, true_or, and_true, List.mem_cons, List.mem_append, mem_zf, List.not_mem_nil, or_false, false_or, not_or, ne_eq, List.nil_append, List.cons_append, true_and, and_true, false_and, and_false, not_true_eq_false, not_false_eq_true, or_true, true_or] <;> omega) : Rd w' z g o sz v xs := h.keep (hn.imp id fun hn hl => k.block g hl hn) k.size
theorem Df.kz {D : Nat} (h : Df w D) (k : Kz l w w') (hn : Nin l D := by simp only [Nin, InA, InZ, mz_map, Mz, or_true, true_or, and_true, List.mem_cons, List.mem_append, mem_zf, List.not_mem_nil, or_false, false_or, not_or, ne_eq, List.nil_append, List.cons_append, true_and, and_true, false_and, and_false, not_true_eq_false, not_false_eq_true, or_true, true_or] <;> omega) : Df w' D := (k.block D h.lt hn).trans h
theorem Rd.oneB (h : Rd w z g o sz v xs) : oneB v = true := by
  rcases h.2 with ⟨_, _, a, c, rfl⟩ | ⟨_, c, rfl, _⟩ <;> rfl
end
theorem ws_map' {sz : Nat} {α : Type} {c : α → List Value} {l : List α} (h : ∀ x ∈ l, (c x).length = sz ∧ ones (c x) = true) : Ws sz (l.map c) := fun y hy => by
  obtain ⟨x, hx, rfl⟩ := List.mem_map.1 hy
  exact h x hx
theorem one_int (k : IntKind) (n : Int) : oneB (.int k n) = true := rfl
theorem one_bool (b : Bool) : oneB (.bool b) = true := rfl
theorem one_str (b : ByteArray) : oneB (.string b) = true := rfl
/-- ways that meet again -/
theorem sw_joinD {P : Program} {r : Option Nat} {n : Nat} {Q : Exit → List Deferred → Slots → World → Prop} {D : List Deferred} {L : Slots} {w : World} {x y : Code} {β : Type} (dead : List Nat) (dyn : β → Slots) (J : β → World → Prop)
    (hk : ∀ b w1, J b w1 → SW P r n y Q D (dyn b ++ drp dead L) w1)
    (h : SW P r n x (thenQ (fun D1 L1 w1 => D1 = D ∧ ∃ b, SubP (dyn b ++ drp dead L) L1 ∧ J b w1) Q) D L w) : SW P r n (.seq x y) Q D L w :=
  sw_seq (h.mono fun e D1 L1 w1 hh => by
    cases e with
    | normal => obtain ⟨rfl, b, h1, h2⟩ := hh; exact (hk b w1 h2).forget h1
    | exit id => exact hh
    | goto l => exact hh
    | ret => exact hh
    | panic c => exact hh
    | outgrown => exact hh)
section
variable {P : Program} {L : Slots} {w : World} {dst : Option Nat} {ty : TypeId} {pos : String} {af : Array Edge} {gu : Option (Nat × Bool)} {x y : Operand} {t u : TypeId}
def sure : Value → Bool
  | .pointer (some _) => true
  | .func (.func _) _ _ => true
  | _ => false
theorem vv_nilCheck {v : Value} (hx : ev L x = some v) (hs : sure v = true) : VV P L ⟨dst, .nilCheck x, ty, pos, af, gu⟩ w v := fun ρ hρ => by
  simp only [execOp, hρ _ _ hx]
  unfold sure at hs
  split at hs <;> first | rfl | cases hs
theorem vv_eqlL {a b : Bool} (hu : P.underlying t = some .bool) (hx : ev L x = some (.bool a)) (hy : ev L y = some (.bool b)) : VV P L ⟨dst, .binOp .eql t x y u, ty, pos, af, gu⟩ w (.bool (a == b)) := fun ρ hρ => by
  simp [execOp, hρ _ _ hx, hρ _ _ hy, go_sem, run_eql_bool _ _ _ _ hu]
theorem dcd_dec {p : Prop} [Decidable p] {q : Prop} (h : q ↔ p) : dcd q = decide p := by
  by_cases hp : p
  · rw [dcd_true (h.2 hp)]; simp [hp]
  · rw [dcd_false (fun hq => hp (h.1 hq))]; simp [hp]
theorem vv_neqS {α : Type} [DecidableEq α] {cf : α → List Value} {a b : α} {ks : List Ck} (h : EqT P t ks) (hx : ev L x = some (.agg (cf a).toArray)) (hy : ev L y = some (.agg (cf b).toArray)) (hc : kn ks (cf a) = true) (hd : kn ks (cf b) = true) (inj : cf a = cf b → a = b) :
    VV P L ⟨dst, .binOp .neq t x y u, ty, pos, af, gu⟩ w (.bool (decide (a ≠ b))) := vv_eq (vv_neqA h hx hy hc hd) (by rw [dcd_dec (p := a = b) ⟨inj, fun h => by rw [h]⟩]; by_cases h : a = b <;> simp [h])
theorem ci_inj {a b : Int} {k : IntKind} (h : some (Value.int k a) = some (.int k b)) : a = b := by simpa using h
theorem cu_inj {a b : BitVec 64} (h : some (wv a) = some (wv b)) : a = b := un_inj (ci_inj h)
theorem cb_inj {a b : BitVec 8} (h : some (bv a) = some (bv b)) : a = b := un8_inj (ci_inj h)
theorem ev_st1 {b' off : Nat} {tb : TypeId} {v : Value} {cs cs' : List Value} (hs : Siz P t 1) (hx : ev L x = some (.pointer (some ⟨b', off, none⟩))) (hy : ev L y = some v) (h1 : oneB v = true) (hb : Bx w b' tb cs) (hl : Nat.blt off cs.length = true) (he : cs.set off v = cs') :
    EV P L ⟨dst, .store t x y, ty, pos, af, gu⟩ w fun _ w' => Bx w' b' tb cs' ∧ Md b' w w' := by
  subst he; exact ev_store1 hs hx hy h1 hb (by simpa using hl)
theorem ev_stM {b' off m : Nat} {tb : TypeId} {v : Value} {cs vs cs' : List Value} (hs : Siz P t m) (hx : ev L x = some (.pointer (some ⟨b', off, none⟩))) (hy : ev L y = some v) (hc : v.cells = vs.toArray) (hm : vs.length = m) (h1 : ones vs = true) (hb : Bx w b' tb cs) (hl : Nat.ble (off + m) cs.length = true) (he : spl cs off vs = cs') :
    EV P L ⟨dst, .store t x y, ty, pos, af, gu⟩ w fun _ w' => Bx w' b' tb cs' ∧ Md b' w w' := by
  subst he; exact ev_storeM hs hx hy hc hm h1 hb hl
end
/-! ### elements that are stored into -/
section
variable {P : Program} {L : Slots} {w : World} {dst : Option Nat} {ty : TypeId} {pos : String} {af : Array Edge} {gu : Option (Nat × Bool)} {x y : Operand} {t e : TypeId} {z g sz : Nat} {v : Value}
theorem spl_len (cs : List Value) (off : Nat) (vs : List Value) (h : off + vs.length ≤ cs.length) : (spl cs off vs).length = cs.length := by simp [spl]; omega
theorem take_spl (cs : List Value) (off n : Nat) (vs : List Value) (h : off + vs.length ≤ n) (hn : n ≤ cs.length) : (spl cs off vs).take n = spl (cs.take n) off vs := by
  have e1 : (cs.take off).length = off := by simp; omega
  unfold spl
  rw [List.take_append, List.take_append, List.length_append, e1, List.take_of_length_le (l := cs.take off) (by omega), List.take_of_length_le (l := vs) (by omega), List.take_take, Nat.min_eq_left (by omega), List.drop_take]
theorem flat_spl : ∀ (xs : List (List Value)) (i q : Nat) (c vs : List Value), Ws sz xs → xs[i]? = some c → q + vs.length ≤ sz → (xs.set i (spl c q vs)).flatten = spl xs.flatten (i * sz + q) vs
  | [], i, q, c, vs, _, hi, _ => by simp at hi
  | a :: xs, 0, q, c, vs, h, hi, hq => by
    simp at hi; subst hi
    have ha := (h a (by simp)).1
    simp only [List.set_cons_zero, List.flatten_cons, Nat.zero_mul, Nat.zero_add, spl]
    rw [List.take_append_of_le_length (by omega), List.drop_append_of_le_length (by omega)]
    simp
  | a :: xs, i + 1, q, c, vs, h, hi, hq => by
    simp at hi
    have ha := (h a (by simp)).1
    have ih := flat_spl xs i q c vs (fun y hy => h y (List.mem_cons_of_mem _ hy)) hi hq
    rw [List.set_cons_succ, List.flatten_cons, ih, List.flatten_cons]; simp only [spl]
    have e1 : (i + 1) * sz + q = a.length + (i * sz + q) := by rw [ha, Nat.add_mul]; omega
    rw [e1, List.take_append, List.take_of_length_le (l := a) (by omega), show a.length + (i * sz + q) - a.length = i * sz + q from by omega, List.drop_append, @List.drop_eq_nil_of_le _ a _ (by omega), show a.length + (i * sz + q) + vs.length - a.length = i * sz + q + vs.length from by omega]
    simp
theorem ev_stEl {α : Type} {l : List α} {c : α → List Value} {a a' : α} {i : Int} {p q m : Nat} {u : Value} {vs : List Value} (hs : Siz P t m) (hx : ev L x = some (.pointer (some ⟨g, p, none⟩))) (hy : ev L y = some u) (hc : u.cells = vs.toArray) (hm : vs.length = m) (h1 : ones vs = true)
    (h : Own w z g e sz v (l.map c)) (hg : getI l i = some a) (hp : p = i.toNat * sz + q) (hq : Nat.ble (q + m) sz = true) (he : spl (c a) q vs = c a') (hw : (c a').length = sz ∧ ones (c a') = true) :
    EV P L ⟨dst, .store t x y, ty, pos, af, gu⟩ w fun _ w' => Own w' z g e sz v ((l.set i.toNat a').map c) ∧ Md g w w' := by
  have hq' := Nat.le_of_ble_eq_true hq
  have hi := getI_at hg
  have hxi : (l.map c)[i.toNat]? = some (c a) := getm hi
  have hil := (List.getElem?_eq_some_iff.1 hxi).1
  rcases h.2 with ⟨_, _, h0⟩ | ⟨hz, cap, cur, hv, hb, hn, hcap, hsz, htk⟩
  · rw [h0] at hxi; simp at hxi
  · have hbx : Bx w g e cur.toList := by unfold Bx; simpa using hb
    have hfl := h.1.flat
    have hle : (l.map c).length * sz ≤ cur.toList.length := by rw [show cur.toList.length = cap * sz from hsz]; exact Nat.mul_le_mul_right _ hn
    have hin : i.toNat * sz + sz ≤ (l.map c).length * sz := by rw [← Nat.succ_mul]; exact Nat.mul_le_mul_right _ hil
    have hbd : i.toNat * sz + q + vs.length ≤ cur.toList.length := by omega
    refine (ev_storeM (off := p) hs hx hy hc hm h1 hbx (by rw [Nat.ble_eq_true_of_le]; omega)).mono ?_
    rintro _ w' ⟨h2, h3⟩
    have hset : (l.set i.toNat a').map c = (l.map c).set i.toNat (spl (c a) q vs) := by rw [List.map_set, he]
    refine ⟨⟨?_, .inr ⟨hz, cap, (spl cur.toList p vs).toArray, ?_, h2, ?_, hcap, ?_, ?_⟩⟩, h3⟩
    · rw [hset]; intro y hy
      rcases List.mem_or_eq_of_mem_set hy with hy | hy
      · exact h.1 y hy
      · subst hy; rw [he]; exact hw
    · rw [hv]; simp
    · simpa using hn
    · rw [List.size_toArray, hp, spl_len _ _ _ (by omega), Array.length_toList]; exact hsz
    · rw [hset, flat_spl _ _ _ _ _ h.1 hxi (by omega), ← htk, hp, List.length_set]
      exact take_spl _ _ _ _ (by omega) hle
/-- make -/
theorem made_list (z : List Value) (h : 0 < z.length) : ∀ n, ((List.range (n * z.length)).map fun i => z.toArray[i % z.toArray.size]!) = (List.replicate n z).flatten
  | 0 => by simp
  | n + 1 => by
    rw [Nat.add_mul, Nat.one_mul, List.range_add, List.map_append, made_list z h n, List.map_map, List.replicate_succ', List.flatten_append]
    congr 1
    apply List.ext_getElem (by simp)
    intro i h1 h2
    have hi : i < z.length := by simpa using h1
    have e1 : (n * z.length + i) % z.length = i := by rw [Nat.mul_comm, Nat.mul_add_mod, Nat.mod_eq_of_lt hi]
    simp [e1, hi]
theorem ev_mkT {bytes : Nat} {zv : Value} {α : Type} {c : α → List Value} {a : α} {n : Int} {l : List α} (ha : ApT P t e sz bytes) (hz : ZV P e zv) (hc : zv.cells = (c a).toArray) (hs : (c a).length = sz ∧ ones (c a) = true) (hx : ev L x = some (.int .i64 n)) (hl : mkL bytes n a = some l) (hpos : 1 ≤ bytes) :
    EV P L ⟨dst, .makeSlice t x x, ty, pos, af, gu⟩ w fun v' w' => ∃ g', w.heap.size ≤ g' ∧ Own w' 1 g' e sz v' (l.map c) ∧ Gr w w' := fun ρ hρ => by
  obtain ⟨rfl, h0, hb⟩ := mkL_eq hl
  obtain ⟨i, zv', hi, hzv, hsz, hby, hzs⟩ := ha.info
  have hzz : zv' = zv := by
    have h1 := hz w
    simp [zeroValue, typeInfo, hi, hzv] at h1
    exact h1
  subst hzz hsz hby
  have hle : n ≤ n * i.bytes := by have := Int.mul_le_mul_of_nonneg_left (show (1 : Int) ≤ i.bytes by omega) h0; omega
  have hbc : (i.bytes : Int) * n = n * i.bytes := Int.mul_comm _ _
  have hrun := run_make (P := P) w t e i zv' ha.und hi hzv .i64 .i64 n n h0 (Int.le_refl _) (by omega) (by omega)
  have hmade : (madeCells zv'.cells (n.toNat * i.size)).toList = (List.replicate n.toNat (c a)).flatten := by
    rw [hc]; unfold madeCells
    rw [Array.toList_map, Array.toList_range, ← hs.1]
    exact made_list (c a) (by rw [hs.1]; exact ha.pos) n.toNat
  have hws : Ws i.size ((List.replicate n.toNat a).map c) := ws_map' (fun y hy => by rw [List.eq_of_mem_replicate hy]; exact hs)
  refine .val _ _ (run_v ?_) ⟨w.heap.size, Nat.le_refl _, ⟨hws, .inr ⟨rfl, n.toNat, madeCells zv'.cells (n.toNat * i.size), by rw [List.length_map, List.length_replicate], heap_alloc_new w _, by rw [List.length_map, List.length_replicate]; exact Nat.le_refl _, by simp only [maxLen]; omega, size_madeCells _ _, ?_⟩⟩, (Below.refl _ _).alloc (Nat.le_refl _) _⟩
  · rw [hρ _ _ hx]; exact hrun
  · rw [List.length_map, List.length_replicate, List.map_replicate, ← hmade, List.take_of_length_le (by rw [Array.length_toList, size_madeCells]; exact Nat.le_refl _)]
/-! a part of a slice -/
end
end Go.Sx
namespace Go.Sx
open Go
section
variable {P : Program} {n : Nat} {ops : Array Oper} {Q : Slots → World → Prop} {rest : List (Nat × Nat)} {i : Nat} {dst : Option Nat} {op : Op} {ty : TypeId} {pos : String} {af : Array Edge} {gu : Option (Nat × Bool)} {L : Slots} {w w₀ : World} {ms : List Nat} {kp : Nat → Nat → Bool} {B : Value → Nat → Prop}
end
end Go.Sx

end
section
set_option linter.unusedVariables false
set_option linter.unusedSimpArgs false
namespace Go.Sx
open Go Go.RowKit
/-! ### keys aas bytes -/
def byt (x : BitVec 64) (i : Nat) : BitVec 8 := (x >>> (56 - 8 * i)).setWidth 8
section
variable {P : Program} {L : Slots} {w : World} {dst : Option Nat} {ty : TypeId} {pos : String} {af : Array Edge} {gu : Option (Nat × Bool)} {x y : Operand} {t e : TypeId} {z g o sz : Nat} {v : Value}
/-! a key's bytes, one by one -/
/-! ### strings of bytes -/
end
/-! ### copy -/
section
variable {P : Program} {L : Slots} {w : World} {dst : Option Nat} {ty : TypeId} {pos : String} {af : Array Edge} {gu : Option (Nat × Bool)} {x y : Operand} {t e : TypeId} {z g : Nat} {v : Value}
end
/-! ### drawn: a call that turns memory -/
end Go.Sx

end
section
set_option linter.unusedVariables false
set_option linter.unusedSimpArgs false
namespace Go.Sx
open Go Go.RowKit
/-- a loop over a list: F: a round (the element, what follows, the state); d: what comes behind -/
def itL {α σ R : Type} (F : α → (σ → Option R) → σ → Option R) (d : σ → Option R) (l : List α) : σ → Option R := l.foldr F d
theorem itL_cons {α σ R : Type} (F : α → (σ → Option R) → σ → Option R) (d : σ → Option R) (a : α) (l : List α) : itL F d (a :: l) = F a (itL F d l) := rfl
theorem itL_at {α σ R : Type} {F : α → (σ → Option R) → σ → Option R} {d : σ → Option R} {l : List α} {k : Nat} {s : σ} {r : R} {a : α} (h : itL F d (l.drop k) s = some r) (ha : l[k]? = some a) : F a (itL F d (l.drop (k + 1))) s = some r := by
  obtain ⟨hk, rfl⟩ := List.getElem?_eq_some_iff.1 ha
  rw [List.drop_eq_getElem_cons hk, itL_cons] at h; exact h
theorem itL_end {α β σ R : Type} {F : α → (σ → Option R) → σ → Option R} {d : σ → Option R} {l : List α} {c : α → β} {s : σ} {r : R} (h : itL F d (l.drop (l.map c).length) s = some r) : d s = some r := by
  rw [List.length_map, List.drop_length] at h; exact h
theorem Own.z1 {w : World} {z g sz : Nat} {e : TypeId} {v : Value} {α : Type} {l : List α} {c : α → List Value} {i : Int} {a : α} (h : Own w z g e sz v (l.map c)) (hg : getI l i = some a) : z = 1 := by
  rcases h.2 with ⟨_, _, h0⟩ | ⟨h1, _⟩
  · have : l = [] := by simpa using h0
    subst this; have := getI_lt hg; have := getI_nn hg; simp at *; omega
  · exact h1
theorem kz_of_kp {l : List (Nat × Nat)} {ms : List Nat} {w w' : World} (h : Kp ms w w') (hn : ∀ k, Nin l k → k ∉ ms) : Kz l w w' := ⟨h.os, h.tape, h.output, h.size, fun k hk hl => h.block k hk (hn k hl)⟩
theorem kp_of_kz {l : List (Nat × Nat)} {ms : List Nat} {w w' : World} (h : Kz l w w') (hn : ∀ k, k ∉ ms → Nin l k) : Kp ms w w' := ⟨h.os, h.tape, h.output, h.size, fun k hk hl => h.block k hk (hn k hl)⟩
theorem Own.hs {w w' : World} {z g sz : Nat} {e : TypeId} {v : Value} {xs : List (List Value)} {ms : List Nat} (h : Own w z g e sz v xs) (hs : ∀ b ∈ ms, w'.heap[b]? = w.heap[b]?) (hm : z ≠ 0 → g ∈ ms) : Own w' z g e sz v xs :=
  h.keep (by by_cases hz : z = 0; exact .inl hz; exact .inr fun _ => hs g (hm hz))
theorem Rd.hs {w w' : World} {z g o sz : Nat} {v : Value} {xs : List (List Value)} {ms : List Nat} (h : Rd w z g o sz v xs) (he : Env w w') (hs : ∀ b ∈ ms, w'.heap[b]? = w.heap[b]?) (hm : z ≠ 0 → g ∈ ms) : Rd w' z g o sz v xs :=
  h.keep (by by_cases hz : z = 0; exact .inl hz; exact .inr fun _ => hs g (hm hz)) he.size
theorem stb_mk {α : Type} (p : α → Nat → Prop) (FP : α → List Nat) (F : α → World → Prop) (h1 : ∀ a W, F a W → ∀ b ∈ FP a, b < W.heap.size)
    (h2 : ∀ a W W', F a W → Env W W' → (∀ b ∈ FP a, W'.heap[b]? = W.heap[b]?) → F a W') : Stb fun k fp W => ∃ a, p a k ∧ fp = FP a ∧ F a W :=
  ⟨fun ⟨a, _, h, hF⟩ b hb => h1 a _ hF b (h ▸ hb), fun ⟨a, hp, h, hF⟩ he hs => ⟨a, hp, h, h2 a _ _ hF he (h ▸ hs)⟩⟩
theorem stb_c {J : Nat → List Nat → World → Prop} (p : Prop) (h : Stb J) : Stb fun i fp W => p ∧ J i fp W := ⟨fun h0 b hb => h.lt h0.2 b hb, fun h0 he hs => ⟨h0.1, h.keep h0.2 he hs⟩⟩
/-! ### iterators -/
/-- an element, and those behind it -/
def yl {α : Type} (x : α) (m : Option (List α)) : Option (List α) := m.map (x :: ·)
theorem yl_some {α : Type} {x : α} {m : Option (List α)} {r : List α} (h : yl x m = some r) : ∃ t, m = some t ∧ r = x :: t := by
  cases m with
  | none => cases h
  | some t => exact ⟨t, rfl, (Option.some.inj h).symm⟩
/-- k elements are done; those left -/
def Dr {α : Type} (xs : List α) (k : Nat) (rr : List α) : Prop := k ≤ xs.length ∧ xs.drop k = rr
theorem dr_0 {α : Type} (xs : List α) : Dr xs 0 xs := ⟨Nat.zero_le _, rfl⟩
theorem Dr.at {α : Type} {xs rr t : List α} {k : Nat} {x : α} (h : Dr xs k rr) (e : rr = x :: t) : xs[k]? = some x := by
  have h1 := h.2; rw [e] at h1
  have : (xs.drop k)[0]? = some x := by rw [h1]; rfl
  rwa [List.getElem?_drop, Nat.add_zero] at this
theorem Dr.next {α : Type} {xs rr t : List α} {k : Nat} {x : α} (h : Dr xs k rr) (e : rr = x :: t) : Dr xs (k + 1) t := by
  have h0 := h.at e
  have hk := (List.getElem?_eq_some_iff.1 h0).1
  refine ⟨hk, ?_⟩
  have h1 := h.2; rw [e, List.drop_eq_getElem_cons hk] at h1
  exact (List.cons.inj h1).2
theorem Dr.last {α β : Type} {xs rr : List α} {k : Nat} {c : α → β} (h : Dr xs k rr) (e : rr = []) : k = (xs.map c).length := by
  have h1 := h.2; rw [e, List.drop_eq_nil_iff] at h1
  have := h.1; rw [List.length_map]; omega
theorem Stb.ka {J : Nat → List Nat → World → Prop} (hJ : Stb J) {k z g : Nat} {f : List Nat} {W W' : World} (h : J k f W) (a : Ka z g W W') (hb : z = 0 ∨ g ∉ f) : J k f W' := hJ.keep h a.env fun c hc => a.block c (hJ.lt h c hc) (by
  rcases hb with h0 | h0
  · exact .inl h0
  · exact .inr (by rintro rfl; exact h0 hc))
end Go.Sx

end
section
set_option linter.unusedVariables false
set_option linter.unusedSimpArgs false
namespace Go.Sx
open Go Go.RowKit
/-- ways through a region: a piece in a fixed order; then it ends, or the ways part (which operation comes next is each way's first) -/
inductive Tz
  | leaf (seg : List (Nat × Nat))
  | fork (seg : List (Nat × Nat)) (a b : Tz)
def Tz.heads : Tz → List Nat
  | .leaf [] => []
  | .leaf ((i, _) :: _) => [i]
  | .fork [] a b => a.heads ++ b.heads
  | .fork ((i, _) :: _) _ _ => [i]
def Tz.len : Tz → Nat
  | .leaf s => s.length
  | .fork s a _ => s.length + a.len
def lsd (l : List (Nat × Nat)) (listed : Array Bool) : Array Bool := l.foldl (fun s x => s.setIfInBounds x.1 true) listed
def okSeg (ops : Array Oper) (kp : Nat → Nat → Bool) : List (Nat × Nat) → Array Bool → Bool
  | [], _ => true
  | (i, c) :: rest, listed => (match lvl c with
    | some lv => (Region.ready .any ops listed).contains i && Region.free .any ops listed i && keepers ops (kp lv) listed i
    | none => (Region.ready .any ops listed == [i])) && okSeg ops kp rest (listed.setIfInBounds i true)
/-- a way, whose first operation (an effect) is one of several -/
def okKid (ops : Array Oper) (kp : Nat → Nat → Bool) : Tz → Array Bool → Bool
  | .leaf [], _ => false
  | .leaf ((i, c) :: s), listed => (lvl c).isNone && okSeg ops kp s (listed.setIfInBounds i true) && (Region.ready .any ops (lsd s (listed.setIfInBounds i true))).isEmpty
  | .fork [] a b, listed => okKid ops kp a listed && okKid ops kp b listed && (a.len == b.len)
  | .fork ((i, c) :: s) a b, listed => (lvl c).isNone && okSeg ops kp s (listed.setIfInBounds i true) && (Region.ready .any ops (lsd s (listed.setIfInBounds i true)) == a.heads ++ b.heads)
      && okKid ops kp a (lsd s (listed.setIfInBounds i true)) && okKid ops kp b (lsd s (listed.setIfInBounds i true)) && (a.len == b.len)
def okTz (ops : Array Oper) (kp : Nat → Nat → Bool) : Tz → Array Bool → Bool
  | .leaf s, listed => okSeg ops kp s listed && (Region.ready .any ops (lsd s listed)).isEmpty
  | .fork s a b, listed => okSeg ops kp s listed && (Region.ready .any ops (lsd s listed) == a.heads ++ b.heads) && okKid ops kp a (lsd s listed) && okKid ops kp b (lsd s listed) && (a.len == b.len)
def SDZ (P : Program) (n : Nat) (ops : Array Oper) (Q : Slots → World → Prop) (S : Nat → World → Prop) (kp : Nat → Nat → Bool) : Tz → Slots → World → Prop
  | .leaf s, L, w => SD P n ops Q S kp s L w
  | .fork s a b, L, w => SD P n ops (fun L w => SDZ P n ops Q S kp a L w ∧ SDZ P n ops Q S kp b L w) S kp s L w
section
variable {P : Program} {r : Option Nat} {n : Nat} {ops : Array Oper} {Q : Slots → World → Prop} {S : Nat → World → Prop} {kp : Nat → Nat → Bool} {D : List Deferred} {QA : Exit → Act → World → Prop}
theorem SD.seg (hnd : allNodef ops = true) (hQ : ∀ c a w, ¬ QA (.panic c) a w) (hO : ¬ LetsOut QA) {fuel : Nat} :
    ∀ (l : List (Nat × Nat)) (listed : Array Bool) (L : Slots) (a : Act) (w : World), okSeg ops kp l listed = true → FOk n D L a → SD P n ops Q S kp l L w →
      (∀ L a w, FOk n D L a → Q L w → Go.Sx.anyH P r ops QA S kp fuel (lsd l listed) a w) → Go.Sx.anyH P r ops QA S kp (l.length + fuel) listed a w
  | [], listed, L, a, w, ho, hf, h, hk => by rw [List.length_nil, Nat.zero_add]; exact hk L a w hf h
  | (i, c) :: rest, listed, L, a, w, ho, hf, h, hk => by
    have hlen : ((i, c) :: rest).length + fuel = rest.length + fuel + 1 := by simp; omega
    rw [hlen]
    unfold SD at h
    unfold okSeg at ho
    cases hc : lvl c with
    | some lv =>
      rw [hc] at h ho
      obtain ⟨o, v, hi, hd, hS, hv, hrest⟩ := h
      simp only [Bool.and_eq_true] at ho
      refine Go.Sx.anyH_first hnd hi hQ hO (rest.length + fuel) listed a w (fun j oj h1 h2 h3 h4 => ⟨Region.free_spec hi ho.1.1.2 j oj h1 h2 h3 h4, keepers_spec ho.1.2 j oj h1 h2 h3 h4⟩) (by simpa using ho.1.1.1) ?_ hS
        (SD.seg hnd hQ hO rest _ _ _ w ho.2 (hf.put hd) hrest hk)
      rcases hv with ⟨hg, hv⟩ | ⟨hg, rfl⟩
      · exact .inl ⟨gd_spec hf hg, fun w' hw' => hv w' hw' _ hf.cons⟩
      · exact .inr ⟨gd_spec hf hg, rfl⟩
    | none =>
      rw [hc] at h ho
      obtain ⟨o, hi, hd, h⟩ := h
      simp only [Bool.and_eq_true, beq_iff_eq] at ho
      refine ⟨fun h0 => (by rw [ho.1] at h0; cases h0), fun j hj => ?_⟩
      rw [ho.1] at hj
      simp only [List.mem_singleton] at hj
      subst hj
      unfold wpOpIn
      simp only [hi]
      rcases h with ⟨hg, R, hev, hk2⟩ | ⟨hg, hrest⟩
      · rw [gd_spec hf hg, if_pos rfl]
        exact (hev _ hf.cons).uponIn (allNodef.nd hnd hi) fun v w' hR => ⟨(hk2 v w' hR).1, SD.seg hnd hQ hO rest _ _ _ w' ho.2 (hf.put hd) (hk2 v w' hR).2 hk⟩
      · rw [gd_spec hf hg]
        simp only [Bool.false_eq_true, if_false]
        exact ⟨fun _ _ => trivial, fun _ _ h => h, SD.seg hnd hQ hO rest _ _ _ w ho.2 (hf.put hd) hrest hk⟩
/-- one step, whatever else is ready -/
theorem SD.stepAny (hnd : allNodef ops = true) {i c : Nat} {s : List (Nat × Nat)} {listed : Array Bool} {L : Slots} {a : Act} {w : World} {fuel : Nat} (hc : (lvl c).isNone = true) (hf : FOk n D L a) (h : SD P n ops Q S kp ((i, c) :: s) L w)
    (hk : ∀ L a w, FOk n D L a → SD P n ops Q S kp s L w → Go.Sx.anyH P r ops QA S kp fuel (listed.setIfInBounds i true) a w) :
    wpOpIn (Fw r) 0 P ops QA i (fun a' w' => (∀ v, kp v i = true → S v w → S v w') ∧ Go.Sx.anyH P r ops QA S kp fuel (listed.setIfInBounds i true) a' w') a w := by
  unfold SD at h
  rw [Option.isNone_iff_eq_none.1 hc] at h
  obtain ⟨o, hi, hd, h⟩ := h
  unfold wpOpIn
  simp only [hi]
  rcases h with ⟨hg, R, hev, hk2⟩ | ⟨hg, hrest⟩
  · rw [gd_spec hf hg, if_pos rfl]
    exact (hev _ hf.cons).uponIn (allNodef.nd hnd hi) fun v w' hR => ⟨(hk2 v w' hR).1, hk _ _ _ (hf.put hd) (hk2 v w' hR).2⟩
  · rw [gd_spec hf hg]
    simp only [Bool.false_eq_true, if_false]
    exact ⟨fun _ _ => trivial, fun _ _ h => h, hk _ _ _ (hf.put hd) hrest⟩
theorem len_pos : ∀ (t : Tz) (listed : Array Bool), okKid ops kp t listed = true → ∃ m, t.len = m + 1
  | .leaf [], _, h => by simp [okKid] at h
  | .leaf ((i, c) :: s), _, _ => ⟨s.length, by simp [Tz.len]⟩
  | .fork [] a b, listed, h => by
    simp only [okKid, Bool.and_eq_true] at h
    obtain ⟨m, hm⟩ := len_pos a listed h.1.1
    exact ⟨m, by simp [Tz.len, hm]⟩
  | .fork ((i, c) :: s) a b, _, _ => ⟨s.length + a.len, by simp [Tz.len]; omega⟩
theorem SDZ.kid (hnd : allNodef ops = true) (hQ : ∀ c a w, ¬ QA (.panic c) a w) (hO : ¬ LetsOut QA) (hq : ∀ L a w, FOk n D L a → Q L w → QA .normal a w) :
    ∀ (t : Tz) (listed : Array Bool) (L : Slots) (a : Act) (w : World) (m : Nat), okKid ops kp t listed = true → t.len = m + 1 → FOk n D L a → SDZ P n ops Q S kp t L w → ∀ i ∈ t.heads,
      wpOpIn (Fw r) 0 P ops QA i (fun a' w' => (∀ v, kp v i = true → S v w → S v w') ∧ Go.Sx.anyH P r ops QA S kp m (listed.setIfInBounds i true) a' w') a w
  | .leaf [], _, _, _, _, _, ho, _, _, _, _, _ => by simp [okKid] at ho
  | .leaf ((i, c) :: s), listed, L, a, w, m, ho, hl, hf, h, j, hj => by
    simp only [Tz.heads, List.mem_singleton] at hj; subst hj
    simp only [okKid, Bool.and_eq_true] at ho
    have hm : m = s.length + 0 := by simp [Tz.len] at hl; omega
    subst hm
    refine SD.stepAny hnd ho.1.1 hf h fun L a w hf h => SD.seg hnd hQ hO s _ L a w ho.1.2 hf h fun L a w hf h => ⟨by simpa using ho.2, hq L a w hf h⟩
  | .fork [] x y, listed, L, a, w, m, ho, hl, hf, h, j, hj => by
    simp only [okKid, Bool.and_eq_true, beq_iff_eq] at ho
    simp only [Tz.len, List.length_nil, Nat.zero_add] at hl
    simp only [Tz.heads, List.mem_append] at hj
    have h' : SDZ P n ops Q S kp x L w ∧ SDZ P n ops Q S kp y L w := h
    rcases hj with hj | hj
    · exact SDZ.kid hnd hQ hO hq x listed L a w m ho.1.1 hl hf h'.1 j hj
    · exact SDZ.kid hnd hQ hO hq y listed L a w m ho.1.2 (by rw [← ho.2]; exact hl) hf h'.2 j hj
  | .fork ((i, c) :: s) x y, listed, L, a, w, m, ho, hl, hf, h, j, hj => by
    simp only [Tz.heads, List.mem_singleton] at hj; subst hj
    simp only [okKid, Bool.and_eq_true, beq_iff_eq] at ho
    have hm : m = s.length + x.len := by simp [Tz.len] at hl; omega
    subst hm
    refine SD.stepAny hnd ho.1.1.1.1.1 hf h fun L a w hf h => SD.seg hnd hQ hO s _ L a w ho.1.1.1.1.2 hf h fun L a w hf h => ?_
    obtain ⟨mx, hx⟩ := len_pos x _ ho.1.1.2
    have hy : y.len = mx + 1 := by rw [← ho.2]; exact hx
    rw [hx]
    refine ⟨fun h0 => ?_, fun k hk => ?_⟩
    · obtain ⟨z, hz⟩ : ∃ z, z ∈ x.heads := by
        have : ∀ (t : Tz) (l : Array Bool), okKid ops kp t l = true → ∃ z, z ∈ t.heads := by
          intro t
          induction t with
          | leaf s => intro l h; cases s with
            | nil => simp [okKid] at h
            | cons a s => exact ⟨a.1, by simp [Tz.heads]⟩
          | fork s a b iha ihb => intro l h; cases s with
            | nil =>
              simp only [okKid, Bool.and_eq_true] at h
              obtain ⟨z, hz⟩ := iha l h.1.1
              exact ⟨z, by simp [Tz.heads, hz]⟩
            | cons a s => exact ⟨a.1, by simp [Tz.heads]⟩
        exact this x _ ho.1.1.2
      rw [ho.1.1.1.2] at h0
      have : z ∈ x.heads ++ y.heads := List.mem_append_left _ hz
      rw [h0] at this; cases this
    · rw [ho.1.1.1.2] at hk
      rcases List.mem_append.1 hk with hk | hk
      · exact SDZ.kid hnd hQ hO hq x _ L a w mx ho.1.1.2 hx hf h.1 k hk
      · exact SDZ.kid hnd hQ hO hq y _ L a w mx ho.1.2 hy hf h.2 k hk
theorem heads_ne : ∀ (t : Tz) (l : Array Bool), okKid ops kp t l = true → ∃ z, z ∈ t.heads := by
  intro t
  induction t with
  | leaf s => intro l h; cases s with
    | nil => simp [okKid] at h
    | cons a s => exact ⟨a.1, by simp [Tz.heads]⟩
  | fork s a b iha ihb => intro l h; cases s with
    | nil =>
      simp only [okKid, Bool.and_eq_true] at h
      obtain ⟨z, hz⟩ := iha l h.1.1
      exact ⟨z, by simp [Tz.heads, hz]⟩
    | cons a s => exact ⟨a.1, by simp [Tz.heads]⟩
theorem SDZ.anyH (hnd : allNodef ops = true) (hQ : ∀ c a w, ¬ QA (.panic c) a w) (hO : ¬ LetsOut QA) (hq : ∀ L a w, FOk n D L a → Q L w → QA .normal a w) (t : Tz) (listed : Array Bool) (L : Slots) (a : Act) (w : World) (ho : okTz ops kp t listed = true) (hf : FOk n D L a) (h : SDZ P n ops Q S kp t L w) :
    Go.Sx.anyH P r ops QA S kp t.len listed a w := by
  cases t with
  | leaf s =>
    simp only [okTz, Bool.and_eq_true] at ho
    exact SD.seg (fuel := 0) hnd hQ hO s listed L a w ho.1 hf h fun L a w hf h => ⟨by simpa using ho.2, hq L a w hf h⟩
  | fork s x y =>
    simp only [okTz, Bool.and_eq_true, beq_iff_eq] at ho
    obtain ⟨mx, hx⟩ := len_pos x _ ho.1.1.2
    have hy : y.len = mx + 1 := by rw [← ho.2]; exact hx
    refine SD.seg (fuel := x.len) hnd hQ hO s listed L a w ho.1.1.1.1 hf h fun L a w hf h => ?_
    rw [hx]
    refine ⟨fun h0 => ?_, fun k hk => ?_⟩
    · obtain ⟨z, hz⟩ := heads_ne (ops := ops) (kp := kp) x _ ho.1.1.2
      rw [ho.1.1.1.2] at h0
      have : z ∈ x.heads ++ y.heads := List.mem_append_left _ hz
      rw [h0] at this; cases this
    · rw [ho.1.1.1.2] at hk
      rcases List.mem_append.1 hk with hk | hk
      · exact SDZ.kid hnd hQ hO hq x _ L a w mx ho.1.1.2 hx hf h.1 k hk
      · exact SDZ.kid hnd hQ hO hq y _ L a w mx ho.1.2 hy hf h.2 k hk
end
theorem sdz_leaf {P : Program} {n : Nat} {ops : Array Oper} {Q : Slots → World → Prop} {S : Nat → World → Prop} {kp : Nat → Nat → Bool} {s : List (Nat × Nat)} {L : Slots} {w : World} (h : SD P n ops Q S kp s L w) : SDZ P n ops Q S kp (.leaf s) L w := h
end Go.Sx

end
section
set_option linter.unusedVariables false
set_option linter.unusedSimpArgs false
namespace Go.Sx
open Go Go.RowKit
def HldN (mss : List (List Nat)) (w₀ : World) (k : Nat) (w : World) : Prop := ∀ ms, mss[k]? = some ms → Kp ms w₀ w
/-- which effects break which levels -/
def kpN (tab : List (Nat × List Nat)) (lv j : Nat) : Bool := tab.all fun x => !(Nat.beq x.1 j && x.2.any (Nat.beq lv))
def AllL (p : Nat → List Nat → Prop) : Nat → List (List Nat) → Prop
  | _, [] => True
  | k, ms :: r => p k ms ∧ AllL p (k + 1) r
theorem AllL.get {p : Nat → List Nat → Prop} : ∀ {l : List (List Nat)} {o : Nat}, AllL p o l → ∀ k ms, l[k]? = some ms → p (o + k) ms
  | [], o, _, k, ms, h => by simp at h
  | a :: r, o, h, 0, ms, hk => by simp at hk; subst hk; exact h.1
  | a :: r, o, h, k + 1, ms, hk => by
    have := AllL.get h.2 k ms (by simpa using hk)
    rw [show o + (k + 1) = o + 1 + k from by omega]; exact this
theorem Kz.ofGr {w w' : World} (h : Gr w w') : Kz [] w w' := (Kz.refl [] w).gr h
theorem Kz.ofMd {w w' : World} {b : Nat} (h : Md b w w') : Kz [(1, b)] w w' := (Kz.refl _ w).md h (by simp [InZ, Mz])
theorem lvl_10 (k : Nat) : lvl (k + 10) = some k := by
  have h1 : Nat.beq (k + 10) 1 = false := beq_ne (by omega)
  have h2 : Nat.beq (k + 10) 3 = false := beq_ne (by omega)
  have h3 : Nat.ble 10 (k + 10) = true := Nat.ble_eq_true_of_le (by omega)
  unfold lvl
  rw [h1, h2, h3]; simp
section
variable {P : Program} {n : Nat} {ops : Array Oper} {Q : Slots → World → Prop} {rest : List (Nat × Nat)} {i : Nat} {dst : Option Nat} {op : Op} {ty : TypeId} {pos : String} {af : Array Edge} {gu : Option (Nat × Bool)} {L : Slots} {w w₀ : World} {mss : List (List Nat)} {kp : Nat → Nat → Bool} {ms : List Nat}
/-- held -/
theorem dd_hn {v : Value} (k : Nat) (hi : ops[i]? = some ⟨dst, op, ty, pos, af, gu⟩) (hg : gd ops L ⟨dst, op, ty, pos, af, gu⟩ = some true) (hd : inN n dst = true) (hm : mss[k]? = some ms) (hS : Kp ms w₀ w) (hv : ∀ w, Kp ms w₀ w → VV P L ⟨dst, op, ty, pos, af, gu⟩ w v)
    (h : SD P n ops Q (HldN mss w₀) kp rest (putL dst v L) w) : SD P n ops Q (HldN mss w₀) kp ((i, k + 10) :: rest) L w := by
  have hl := lvl_10 k
  unfold SD
  rw [hl]
  exact ⟨_, v, hi, hd, fun ms' h' => by rw [hm] at h'; cases h'; exact hS, .inl ⟨hg, fun w hw => hv w (hw ms hm)⟩, h⟩
theorem dd_sn (k : Nat) (hi : ops[i]? = some ⟨dst, op, ty, pos, af, gu⟩) (hg : gd ops L ⟨dst, op, ty, pos, af, gu⟩ = some false) (hd : inN n dst = true) (hm : mss[k]? = some ms) (hS : Kp ms w₀ w)
    (h : SD P n ops Q (HldN mss w₀) kp rest (putL dst undef L) w) : SD P n ops Q (HldN mss w₀) kp ((i, k + 10) :: rest) L w := by
  have hl := lvl_10 k
  unfold SD
  rw [hl]
  exact ⟨_, undef, hi, hd, fun ms' h' => by rw [hm] at h'; cases h'; exact hS, .inr ⟨hg, rfl⟩, h⟩
theorem dd_pn {t : Bool} (k : Nat) (hi : ops[i]? = some ⟨dst, op, ty, pos, af, gu⟩) (hg : gd ops L ⟨dst, op, ty, pos, af, gu⟩ = some true) (hd : inN n dst = true) (hm : mss[k]? = some ms) (hS : Kp ms w₀ w) (hv : ∀ w, Kp ms w₀ w → VV P L ⟨dst, op, ty, pos, af, gu⟩ w (.bool t))
    (ht : t = true → SD P n ops Q (HldN mss w₀) kp rest (putL dst (.bool true) L) w) (hf : t = false → SD P n ops Q (HldN mss w₀) kp rest (putL dst (.bool false) L) w) : SD P n ops Q (HldN mss w₀) kp ((i, k + 10) :: rest) L w := by
  cases t with
  | true => exact dd_hn k hi hg hd hm hS hv (ht rfl)
  | false => exact dd_hn k hi hg hd hm hS hv (hf rfl)
/-- an effect: the blocks l may turn -/
theorem dd_z {R : Value → World → Prop} (l : List (Nat × Nat)) (hi : ops[i]? = some ⟨dst, op, ty, pos, af, gu⟩) (hg : gd ops L ⟨dst, op, ty, pos, af, gu⟩ = some true) (hd : inN n dst = true) (hv : EV P L ⟨dst, op, ty, pos, af, gu⟩ w R)
    (hb : AllL (fun k ms => kp k i = true → InA l (ms.map fun b => (1, b)) w₀.heap.size) 0 mss)
    (h : ∀ v w', R v w' → Kz l w w' ∧ SD P n ops Q (HldN mss w₀) kp rest (putL dst v L) w') : SD P n ops Q (HldN mss w₀) kp ((i, 0) :: rest) L w :=
  ⟨_, hi, hd, .inl ⟨hg, R, hv, fun v w' hR => ⟨fun lv hk hS ms hm => Kp.kz (hS ms hm) (h v w' hR).1 (by have := hb.get lv ms hm; rw [Nat.zero_add] at this; exact this hk), (h v w' hR).2⟩⟩⟩
/-- one that leaves memory aas it is -/
theorem dd_vz {v : Value} (hi : ops[i]? = some ⟨dst, op, ty, pos, af, gu⟩) (hg : gd ops L ⟨dst, op, ty, pos, af, gu⟩ = some true) (hd : inN n dst = true) (hv : VV P L ⟨dst, op, ty, pos, af, gu⟩ w v)
    (h : SD P n ops Q (HldN mss w₀) kp rest (putL dst v L) w) : SD P n ops Q (HldN mss w₀) kp ((i, 0) :: rest) L w :=
  ⟨_, hi, hd, .inl ⟨hg, _, hv.ev, fun v' w' ⟨h1, h2⟩ => by subst h1; subst h2; exact ⟨fun _ _ h => h, h⟩⟩⟩
theorem dd_sz (hi : ops[i]? = some ⟨dst, op, ty, pos, af, gu⟩) (hg : gd ops L ⟨dst, op, ty, pos, af, gu⟩ = some false) (hd : inN n dst = true)
    (h : SD P n ops Q (HldN mss w₀) kp rest (putL dst undef L) w) : SD P n ops Q (HldN mss w₀) kp ((i, 0) :: rest) L w := ⟨_, hi, hd, .inr ⟨hg, h⟩⟩
end
/-! small facts on blocks -/
theorem tk0 {q : Prop} (f : q := by (try simp only [Nin, InA, InZ, mz_map, Mz, List.mem_cons, List.mem_append, mem_zf, List.not_mem_nil, or_false, false_or, not_or, ne_eq, List.nil_append, List.cons_append, true_and, and_true, false_and, and_false, not_true_eq_false, not_false_eq_true, or_true, true_or]) <;> omega) : q := f
theorem tk1 {p q : Prop} (h : p) (f : p → q := by intro; (try simp only [Nin, InA, InZ, mz_map, Mz, List.mem_cons, List.mem_append, mem_zf, List.not_mem_nil, or_false, false_or, not_or, ne_eq, List.nil_append, List.cons_append, true_and, and_true, false_and, and_false, not_true_eq_false, not_false_eq_true, or_true, true_or]) <;> omega) : q := f h
theorem tk2 {p1 p2 q : Prop} (h1 : p1) (h2 : p2) (f : p1 → p2 → q := by intro _ _; (try simp only [Nin, InA, InZ, mz_map, Mz, List.mem_cons, List.mem_append, mem_zf, List.not_mem_nil, or_false, false_or, not_or, ne_eq, List.nil_append, List.cons_append, true_and, and_true, false_and, and_false, not_true_eq_false, not_false_eq_true, or_true, true_or]) <;> omega) : q := f h1 h2
theorem tk3 {p1 p2 p3 q : Prop} (h1 : p1) (h2 : p2) (h3 : p3) (f : p1 → p2 → p3 → q := by intro _ _ _; (try simp only [Nin, InA, InZ, mz_map, Mz, List.mem_cons, List.mem_append, mem_zf, List.not_mem_nil, or_false, false_or, not_or, ne_eq, List.nil_append, List.cons_append, true_and, and_true, false_and, and_false, not_true_eq_false, not_false_eq_true, or_true, true_or]) <;> omega) : q := f h1 h2 h3
theorem tk4 {p1 p2 p3 p4 q : Prop} (h1 : p1) (h2 : p2) (h3 : p3) (h4 : p4) (f : p1 → p2 → p3 → p4 → q := by intro _ _ _ _; (try simp only [Nin, InA, InZ, mz_map, Mz, List.mem_cons, List.mem_append, mem_zf, List.not_mem_nil, or_false, false_or, not_or, ne_eq, List.nil_append, List.cons_append, true_and, and_true, false_and, and_false, not_true_eq_false, not_false_eq_true, or_true, true_or]) <;> omega) : q := f h1 h2 h3 h4
/-! where a slice's block comes from -/
section
variable {A : Nat → Prop} {z g z' g' s z1 g1 z2 g2 z3 g3 : Nat}
theorem pv_app (r : Hdn ((g' = g ∧ z = 1) ∨ s ≤ g' ∨ z' = 0)) (h : z = 0 ∨ A g) (f : ∀ x, s ≤ x → A x := by intro x hx; (try simp only [Nin, InA, InZ, mz_map, Mz, List.mem_cons, List.mem_append, mem_zf, List.not_mem_nil, or_false, false_or, not_or, ne_eq, List.nil_append, List.cons_append, true_and, and_true, false_and, and_false, not_true_eq_false, not_false_eq_true, or_true, true_or]) <;> omega) : z' = 0 ∨ A g' := by
  rcases r.o with ⟨h1, h2⟩ | h1 | h1
  · rcases h with h | h
    · omega
    · exact .inr (h1 ▸ h)
  · exact .inr (f _ h1)
  · exact .inl h1
theorem pv_0 (r : Hdn (z = 0 ∨ s ≤ g)) (f : ∀ x, s ≤ x → A x := by intro x hx; (try simp only [Nin, InA, InZ, mz_map, Mz, List.mem_cons, List.mem_append, mem_zf, List.not_mem_nil, or_false, false_or, not_or, ne_eq, List.nil_append, List.cons_append, true_and, and_true, false_and, and_false, not_true_eq_false, not_false_eq_true, or_true, true_or]) <;> omega) : z = 0 ∨ A g := r.o.imp id (f g)
theorem pv_1 (r : Hdn (z = 0 ∨ (g = g1 ∧ z1 ≠ 0) ∨ s ≤ g)) (h1 : z1 = 0 ∨ A g1) (f : ∀ x, s ≤ x → A x := by intro x hx; (try simp only [Nin, InA, InZ, mz_map, Mz, List.mem_cons, List.mem_append, mem_zf, List.not_mem_nil, or_false, false_or, not_or, ne_eq, List.nil_append, List.cons_append, true_and, and_true, false_and, and_false, not_true_eq_false, not_false_eq_true, or_true, true_or]) <;> omega) : z = 0 ∨ A g := by
  rcases r.o with h | ⟨h, hz⟩ | h
  · exact .inl h
  · exact .inr (h ▸ h1.resolve_left hz)
  · exact .inr (f _ h)
theorem pv_lt (r : Hdn (z = 0 ∨ (z = 1 ∧ g < s))) (f : ∀ x, x < s → A x := by intro x hx; (try simp only [Nin, InA, InZ, mz_map, Mz, List.mem_cons, List.mem_append, mem_zf, List.not_mem_nil, or_false, false_or, not_or, ne_eq, List.nil_append, List.cons_append, true_and, and_true, false_and, and_false, not_true_eq_false, not_false_eq_true, or_true, true_or]) <;> omega) : z = 0 ∨ A g := r.o.imp id fun h => f _ h.2
theorem pv_sw (h : z = 0 ∨ z1 = 0 ∨ g ≠ g1) : z1 = 0 ∨ z = 0 ∨ g1 ≠ g := by omega
end
theorem cells1 {v : Value} (h : oneB v = true) : v.cells = [v].toArray := by cases v <;> first | rfl | cases h
theorem fill_1 {pl : Nat → Option (Nat × Nat)} {z cs : List Value} {i off : Nat} {v : Value} {r : List (Nat × Value)} (hp : pl i = some (off, 1)) (h1 : oneB v = true) (hl : Nat.ble (off + 1) z.length = true) (hr : fillL pl (spl z off [v]) r = some cs) : fillL pl z ((i, v) :: r) = some cs := by
  unfold fillL
  rw [hp]
  simp only [cells1 h1]
  rw [if_pos ⟨rfl, Nat.le_of_ble_eq_true hl⟩]; exact hr
theorem fill_M {pl : Nat → Option (Nat × Nat)} {z cs : List Value} {i off size : Nat} {v : Value} {r : List (Nat × Value)} (hp : pl i = some (off, size)) (h1 : v.cells.size = size) (hl : Nat.ble (off + size) z.length = true) (hr : fillL pl (spl z off v.cells.toList) r = some cs) : fillL pl z ((i, v) :: r) = some cs := by
  unfold fillL
  rw [hp]
  simp only [h1]
  rw [if_pos ⟨trivial, Nat.le_of_ble_eq_true hl⟩]; exact hr
/-- a region that draws its order -/
theorem sw_drawN {P : Program} {r : Option Nat} {n : Nat} {Q : Exit → List Deferred → Slots → World → Prop} {D : List Deferred} {L : Slots} {w : World} {id : Nat} {ops : Array Oper} (mss : List (List Nat)) (tab : List (Nat × List Nat)) (t : Tz) (hm : P.follows .mixedOrders = true) (hnd : allNodef ops = true) (hlen : t.len = ops.size)
    (ho : okTz ops (kpN tab) t (Array.replicate ops.size false) = true) (h : ∀ w1, RowKit.Below w.heap.size w w1 → w1.heap.size = w.heap.size → SDZ P n ops (fun L w => Q .normal D L w) (HldN mss w1) (kpN tab) t L w1) : SW P r n (.region id ops true) Q D L w :=
  fun _ ha => wpIn_region_any hm (by
    have := (SDZ.anyH (r := r) (D := D) (QA := liftQ n Q) hnd (fun _ _ _ => lift_panic) lift_out (fun L _ _ hf hq => ⟨D, L, hf, hq⟩) t _ L _ w.drew ho ha (h w.drew (RowKit.Below.refl _ _).drew rfl)).any
    rw [hlen] at this; exact this)
end Go.Sx

end
section
set_option linter.unusedVariables false
set_option linter.unusedSimpArgs false
namespace Go.Sx
open Go Go.RowKit
/-- the marks that an iterator has gathered, apart from its caller's blocks fp -/
def MkI (base : Nat) (ks fp : List Nat) (W : World) : Prop := Mks base ks W ∧ ∀ k ∈ ks, k ∉ fp
section
variable {base b : Nat} {ks fp fp' : List Nat} {W W' : World}
theorem mki_nil (base : Nat) (fp : List Nat) (W : World) : MkI base [] fp W := ⟨mks_nil base W, fun _ h => by cases h⟩
theorem MkI.gr (h : MkI base ks fp W) (g : Gr W W') : MkI base ks fp W' := ⟨h.1.gr g, h.2⟩
theorem MkI.md {t : TypeId} {cs : List Value} (h : MkI base ks fp W) (m : Md b W W') (hb : Bx W b t cs) : MkI base ks fp W' := ⟨h.1.md m (fun hk => by
  have h1 := (h.1.2 b hk).2
  unfold Df at h1; unfold Bx at hb; rw [hb] at h1; simp at h1), h.2⟩
theorem MkI.mdl {W0 : World} {fp0 : List Nat} (h : MkI base ks fp W) (m : Md b W W') (h0 : MkI base ks fp0 W0) (hb : W0.heap.size ≤ b) : MkI base ks fp W' := ⟨h.1.md m (fun hk => by
  have h1 := (h0.1.2 b hk).2.lt
  omega), h.2⟩
theorem MkI.kp (h : MkI base ks fp W) (k : Kp fp W W') (hg : ∀ c ∈ fp', c ∈ fp ∨ W.heap.size ≤ c) : MkI base ks fp' W' :=
  ⟨h.1.kp k h.2, fun j hj => notin_grow hg (h.2 j hj) (h.1.2 j hj).2.lt⟩
theorem MkI.cons {W0 : World} {fp0 : List Nat} {D : Nat} (h : MkI base ks fp W) (h0 : MkI base ks fp0 W0) (hD : W0.heap.size ≤ D) (hb : base ≤ W0.heap.size) (hd : Df W D) (hn : D ∉ fp) : MkI base (D :: ks) fp W :=
  ⟨h.1.cons (by omega) hd fun hk => by have := (h0.1.2 D hk).2.lt; omega, fun j hj => by
    rcases List.mem_cons.1 hj with rfl | hj
    · exact hn
    · exact h.2 j hj⟩
theorem MkI.leave (h : MkI base ks fp W) : ∃ wl, Leave (mkD ks) W wl ∧ Kp ks W wl := h.1.leave
theorem MkI.stb {J : Nat → List Nat → World → Prop} {k : Nat} (hJ : Stb J) (h : MkI base ks fp W) (j : J k fp W) (kl : Kp ks W W') : J k fp W' :=
  hJ.keep j kl.env fun c hc => kl.block c (hJ.lt j c hc) fun hk => h.2 c hk hc
theorem MkI.trans {w : World} {f : List Nat} (h : MkI w.heap.size ks fp W) (K : Kp f w W) (kl : Kp ks W W') : Kp f w W' := K.trans kl fun c hc => .inr (h.1.2 c hc).1
end
end Go.Sx
namespace Go.Sx
open Go Go.RowKit
/-- drawn: an effect that keeps off the one level's blocks -/
theorem dd_y {P : Program} {n : Nat} {ops : Array Oper} {Q : Slots → World → Prop} {rest : List (Nat × Nat)} {i : Nat} {dst : Option Nat} {op : Op} {ty : TypeId} {pos : String} {af : Array Edge} {gu : Option (Nat × Bool)} {L : Slots} {w w₀ : World} {ms : List Nat} {kp : Nat → Nat → Bool} {R : Value → World → Prop}
    (hi : ops[i]? = some ⟨dst, op, ty, pos, af, gu⟩) (hg : gd ops L ⟨dst, op, ty, pos, af, gu⟩ = some true) (hd : inN n dst = true) (hv : EV P L ⟨dst, op, ty, pos, af, gu⟩ w R)
    (h : ∀ v w', R v w' → (Kp ms w₀ w → Kp ms w₀ w') ∧ SD P n ops Q (HldN [ms] w₀) kp rest (putL dst v L) w') : SD P n ops Q (HldN [ms] w₀) kp ((i, 0) :: rest) L w :=
  ⟨_, hi, hd, .inl ⟨hg, R, hv, fun v w' hR => ⟨fun lv _ hS ms' hm => by
    cases lv with
    | zero => simp at hm; subst hm; exact (h v w' hR).1 (hS _ rfl)
    | succ k => simp at hm, (h v w' hR).2⟩⟩⟩
end Go.Sx

end
section
set_option linter.unusedVariables false
set_option linter.unusedSimpArgs false
namespace Go.Sx
open Go
/-! ### words -/
end Go.Sx

end
section
set_option linter.unusedVariables false
set_option linter.unusedSimpArgs false
namespace Go.Sx
open Go Go.RowKit
/-! ### memory -/
def mpE (ks : List Int) : List MapEntry := ks.zipIdx.map fun x => ⟨.int .i64 x.1, .bool true, x.2⟩
structure Mo (w : World) (b : Nat) (ks : List Int) : Prop where
  nd : ks.Nodup
  row : w.heap[b]? = some (.map (mpE ks).toArray ks.length)
def remK (ks : List Int) (seen : List Nat) : List Int := (ks.zipIdx.filter fun x => !seen.contains x.2).map (·.1)
def Mi (w : World) (b m : Nat) (ks rem : List Int) : Prop := ∃ seen : List Nat, w.heap[b]? = some (.mapIter (some m) ks.length seen.toArray ks.length) ∧ rem = remK ks seen
section
variable {w w' : World} {b m c z g : Nat} {ks rem : List Int} {k : Int} {l : List (Nat × Nat)}
theorem hlt {o : Obj} (h : w.heap[b]? = some o) : b < w.heap.size := (Array.getElem?_eq_some_iff.1 h).1
theorem Mo.lt (h : Mo w b ks) : b < w.heap.size := hlt h.row
theorem Mo.gr (h : Mo w b ks) (G : Gr w w') : Mo w' b ks := ⟨h.nd, (G.block b h.lt).trans h.row⟩
theorem Mo.md (h : Mo w b ks) (M : Md c w w') (ne : b ≠ c := by omega) : Mo w' b ks := ⟨h.nd, (M.block b ne).trans h.row⟩
theorem Mo.ka (h : Mo w b ks) (A : Ka z g w w') (hn : z = 0 ∨ g ≠ b := by omega) : Mo w' b ks := ⟨h.nd, (A.block b h.lt (by omega)).trans h.row⟩
theorem Mo.kz (h : Mo w b ks) (K : Kz l w w') (hn : Nin l b := by simp only [Nin, InA, InZ, mz_map, Mz, or_true, true_or, and_true, List.mem_cons, List.mem_append, mem_zf, List.not_mem_nil, or_false, false_or, not_or, ne_eq, List.nil_append, List.cons_append, true_and, and_true, false_and, and_false, not_true_eq_false, not_false_eq_true, or_true, true_or] <;> omega) : Mo w' b ks := ⟨h.nd, (K.block b h.lt hn).trans h.row⟩
theorem Mi.lt (h : Mi w b m ks rem) : b < w.heap.size := by obtain ⟨s, h, _⟩ := h; exact hlt h
theorem Mi.gr (h : Mi w b m ks rem) (G : Gr w w') : Mi w' b m ks rem := by obtain ⟨s, h1, h2⟩ := h; exact ⟨s, (G.block b (hlt h1)).trans h1, h2⟩
theorem Mi.md (h : Mi w b m ks rem) (M : Md c w w') (ne : b ≠ c := by omega) : Mi w' b m ks rem := by obtain ⟨s, h1, h2⟩ := h; exact ⟨s, (M.block b ne).trans h1, h2⟩
theorem Mi.ka (h : Mi w b m ks rem) (A : Ka z g w w') (hn : z = 0 ∨ g ≠ b := by omega) : Mi w' b m ks rem := by obtain ⟨s, h1, h2⟩ := h; exact ⟨s, (A.block b (hlt h1) (by omega)).trans h1, h2⟩
theorem Mi.kz (h : Mi w b m ks rem) (K : Kz l w w') (hn : Nin l b := by simp only [Nin, InA, InZ, mz_map, Mz, or_true, true_or, and_true, List.mem_cons, List.mem_append, mem_zf, List.not_mem_nil, or_false, false_or, not_or, ne_eq, List.nil_append, List.cons_append, true_and, and_true, false_and, and_false, not_true_eq_false, not_false_eq_true, or_true, true_or] <;> omega) : Mi w' b m ks rem := by obtain ⟨s, h1, h2⟩ := h; exact ⟨s, (K.block b (hlt h1) hn).trans h1, h2⟩
end
section
variable {P : Program} {L : Slots} {w : World} {dst : Option Nat} {ty : TypeId} {pos : String} {af : Array Edge} {gu : Option (Nat × Bool)} {x y : Operand} {t K E : TypeId} {b m : Nat} {ks rem : List Int} {k : Int}
/-- a map type's facts: map[K]bool, K an int -/
structure MpT (P : Program) (t K E : TypeId) : Prop where
  und : P.underlying t = some (.map K E)
  key : P.underlying K = some (.int .i64)
  zero : ∀ w, (zeroValue E).run P w = .ok (.bool false) w
end
end Go.Sx

end
section
set_option linter.unusedVariables false
namespace Go.Sx
open Go Go.RowKit
theorem sd_inl {P : Program} {n : Nat} {ops : Array Oper} {Q : Slots → World → Prop} {rest : List (Nat × Nat)} {i : Nat} {dst : Option Nat} {ty : TypeId} {pos : String} {af : Array Edge} {gu : Option (Nat × Bool)} {L : Slots} {w : World}
    {f : Nat} {fs cap : List Value} {x : Operand} {aas : Array Operand} {at_ : Array TypeId} {vs : List Value} {fn : Func} {c : Code} (n' : Nat) (hf : P.funcs[f]? = some fn) (hi : ops[i]? = some ⟨dst, .call { callee := .value x, args := aas, argTypes := at_ }, ty, pos, af, gu⟩)
    (hg : gd ops L ⟨dst, .call { callee := .value x, args := aas, argTypes := at_ }, ty, pos, af, gu⟩ = some true) (hd : inN n dst = true) (hen : En P f) (hx : ev L x = some (.func (.func f) fs.toArray cap.toArray)) (hargs : evs L aas.toList = some vs)
    (hb : fn.body = some c) (hn : fn.ntmps = n') (hl : Nat.ble (fs ++ vs ++ cap).length n' = true)
    (h : SW P none n' c (retQ P fn (fun v w' => SD P n ops Q (fun _ _ => True) (fun _ _ => false) rest (putL dst v L) w')) [] (argSlots 0 (fs ++ vs ++ cap)) w) : SD P n ops Q (fun _ _ => True) (fun _ _ => false) ((i, 0) :: rest) L w :=
  sd_ev hi hg hd (ev_callV hen hx hargs (calls_of_sw n' hf hb hn hl h)) fun v w' hR => hR
end Go.Sx

end
section
set_option linter.unusedVariables false
namespace Go.Sx
open Go
def mxI (a b : Int) : Int := if a < b then b else a
def mnI (a b : Int) : Int := if b < a then b else a
end Go.Sx

end
section
set_option linter.unusedVariables false
set_option linter.unusedSimpArgs false
namespace Go.Sx
open Go Go.RowKit
/-! ### scopes -/
section
variable {F : Fence} {n : Nat} {P : Program} {a : Act} {w : World} {Q : Exit → Act → World → Prop}
end
section
variable {P : Program} {r : Option Nat} {n : Nat} {Q : Exit → List Deferred → Slots → World → Prop} {D : List Deferred} {L : Slots} {w : World}
end
/-! ### the greater, the lesser -/
section
variable {P : Program} {L : Slots} {w : World} {dst : Option Nat} {ty : TypeId} {pos : String} {af : Array Edge} {gu : Option (Nat × Bool)} {x y q : Operand} {t t2 t3 : TypeId} {a b c : Int} {k k2 k3 : IntKind}
theorem vv_maxK (hx : ev L x = some (.int k a)) (hy : ev L y = some (.int k2 b)) : VV P L ⟨dst, .call { callee := .builtin .max, args := #[x, y], argTypes := #[t, t2] }, ty, pos, af, gu⟩ w (.int k (mxI a b)) := fun ρ hρ => by
  simp [execOp, resolve, invoke, builtin, hρ _ _ hx, hρ _ _ hy, Builtin.max_, Builtin.max2, mxI]
theorem vv_minK (hx : ev L x = some (.int k a)) (hy : ev L y = some (.int k2 b)) : VV P L ⟨dst, .call { callee := .builtin .min, args := #[x, y], argTypes := #[t, t2] }, ty, pos, af, gu⟩ w (.int k (mnI a b)) := fun ρ hρ => by
  simp [execOp, resolve, invoke, builtin, hρ _ _ hx, hρ _ _ hy, Builtin.min_, Builtin.min2, mnI]
variable {d e : BitVec 64}
end
/-! ### arrays -/
/-- what building an array wants to know -/
def BA (P : Program) (t : TypeId) (sz : Nat) (z : List Value) : Prop := ∃ n e, P.underlying t = some (.array n e) ∧ Siz P e sz ∧ ZV P t (.agg z.toArray)
theorem vv_buildA {P : Program} {L : Slots} {w : World} {dst : Option Nat} {ty : TypeId} {pos : String} {af : Array Edge} {gu : Option (Nat × Bool)} {t : TypeId} {sz : Nat} {z cs : List Value} {parts : Array (Nat × Operand)} {vs : List (Nat × Value)} (hb : BA P t sz z) (hp : evp L parts.toList = some vs) (hf : fillL (fun i => some (i * sz, sz)) z vs = some cs) :
    VV P L ⟨dst, .build t parts, ty, pos, af, gu⟩ w (.agg cs.toArray) := fun ρ hρ => by
  obtain ⟨n, e, hu, hs, hz⟩ := hb
  have e1 : (parts.map fun (x : Nat × Operand) => (x.1, ρ x.2)) = vs.toArray := by rw [← hρ.mapP hp, ← Array.toList_map]
  refine run_v ?_
  show (Instr.build t (parts.map fun (x : Nat × Operand) => (x.1, ρ x.2))).run P w = _
  rw [e1]
  simp only [Instr.build, Sem.run_bind, hz w, Result.andThen, run_underlying hu, hs w, Value.cells, fill_of vs z cs hf]; rfl
/-! ### nil -/
section
variable {P : Program} {L : Slots} {w : World} {dst : Option Nat} {ty : TypeId} {pos : String} {af : Array Edge} {gu : Option (Nat × Bool)} {x : Operand} {t u e : TypeId} {v : Value} {z g o sz : Nat} {α : Type} {l : List α} {c : α → List Value}
end
/-! ### a part taken out in place -/
section
variable {P : Program} {L : Slots} {w : World} {dst : Option Nat} {ty : TypeId} {pos : String} {af : Array Edge} {gu : Option (Nat × Bool)} {x y p q r : Operand} {t e : TypeId} {v : Value} {z g o sz N : Nat} {α : Type} {l m k : List α} {c : α → List Value} {lo hi : Int} {kl kh km : IntKind}
end
end Go.Sx

end
section
set_option linter.unusedVariables false
set_option linter.unusedSimpArgs false
namespace Go.Sx
open Go Go.RowKit
section
variable {P : Program} {L : Slots} {w : World} {dst : Option Nat} {ty : TypeId} {pos : String} {af : Array Edge} {gu : Option (Nat × Bool)} {x y : Operand} {t u e : TypeId} {a b : BitVec 8}
end
/-! ### arrays -/
section
variable {P : Program} {L : Slots} {w : World} {dst : Option Nat} {ty : TypeId} {pos : String} {af : Array Edge} {gu : Option (Nat × Bool)} {x y : Operand} {t u e : TypeId}
end
end Go.Sx

end
section
set_option linter.unusedVariables false
set_option linter.unusedSimpArgs false
namespace Go.Sx
open Go Go.RowKit
/-- how an element's mirror and headers lie in memory -/
structure Rp (α : Type) where
  γ : Type
  sz : Nat
  c : α × γ → List Value
  S : World → List Nat → α × γ → Prop
  ws : ∀ {w F p}, S w F p → (c p).length = sz ∧ ones (c p) = true
  keep : ∀ {w w' F p}, S w F p → w.heap.size ≤ w'.heap.size → (∀ b ∈ F, b < w.heap.size → w'.heap[b]? = w.heap[b]?) → S w' F p
  mono : ∀ {w F F' p}, S w F p → (∀ b ∈ F, b ∈ F') → S w F' p
/-- an owned slice of such -/
def OwnD {α : Type} (R : Rp α) (w : World) (z g : Nat) (e : TypeId) (v : Value) (F : List Nat) (l : List α) : Prop :=
  ∃ lg : List (α × R.γ), lg.map Prod.fst = l ∧ Own w z g e R.sz v (lg.map R.c) ∧ (∀ p ∈ lg, R.S w F p) ∧ (∀ b ∈ F, b < w.heap.size) ∧ (z = 0 ∨ ∀ b ∈ F, b ≠ g)
/-- one that is read -/
def RdD {α : Type} (R : Rp α) (w : World) (z g o : Nat) (v : Value) (F : List Nat) (l : List α) : Prop :=
  ∃ lg : List (α × R.γ), lg.map Prod.fst = l ∧ Rd w z g o R.sz v (lg.map R.c) ∧ (∀ p ∈ lg, R.S w F p) ∧ (∀ b ∈ F, b < w.heap.size)
section
variable {α : Type} {R : Rp α} {w w' w₁ : World} {z g o b z' g' : Nat} {e : TypeId} {v : Value} {F F' : List Nat} {l : List α} {lz : List (Nat × Nat)} {ms : List Nat}
theorem OwnD.rd (h : OwnD R w z g e v F l) : RdD R w z g 0 v F l := by
  obtain ⟨lg, h1, h2, h3, h4, h5⟩ := h; exact ⟨lg, h1, h2.rd, h3, h4⟩
theorem OwnD.keep (h : OwnD R w z g e v F l) (hs : w.heap.size ≤ w'.heap.size) (hg : z = 0 ∨ (g < w.heap.size → w'.heap[g]? = w.heap[g]?)) (hF : ∀ b ∈ F, b < w.heap.size → w'.heap[b]? = w.heap[b]?) : OwnD R w' z g e v F l := by
  obtain ⟨lg, h1, h2, h3, h4, h5⟩ := h
  exact ⟨lg, h1, h2.keep hg, fun p hp => R.keep (h3 p hp) hs hF, fun b hb => Nat.lt_of_lt_of_le (h4 b hb) hs, h5⟩
theorem RdD.keep (h : RdD R w z g o v F l) (hs : w.heap.size ≤ w'.heap.size) (hg : z = 0 ∨ (g < w.heap.size → w'.heap[g]? = w.heap[g]?)) (hF : ∀ b ∈ F, b < w.heap.size → w'.heap[b]? = w.heap[b]?) : RdD R w' z g o v F l := by
  obtain ⟨lg, h1, h2, h3, h4⟩ := h
  exact ⟨lg, h1, h2.keep hg hs, fun p hp => R.keep (h3 p hp) hs hF, fun b hb => Nat.lt_of_lt_of_le (h4 b hb) hs⟩
theorem OwnD.gr (h : OwnD R w z g e v F l) (k : Gr w w') : OwnD R w' z g e v F l := h.keep k.size (.inr fun hl => k.block g hl) (fun b _ hl => k.block b hl)
theorem RdD.gr (h : RdD R w z g o v F l) (k : Gr w w') : RdD R w' z g o v F l := h.keep k.size (.inr fun hl => k.block g hl) (fun b _ hl => k.block b hl)
theorem OwnD.md (h : OwnD R w z g e v F l) (k : Md b w w') (hn : z = 0 ∨ g ≠ b) (hF : ∀ x ∈ F, 1 = 0 ∨ x ≠ b) : OwnD R w' z g e v F l := h.keep (Nat.le_of_eq k.size.symm) (hn.imp id fun hn _ => k.block g hn) (fun x hx _ => k.block x ((hF x hx).resolve_left (by decide)))
theorem RdD.md (h : RdD R w z g o v F l) (k : Md b w w') (hn : z = 0 ∨ g ≠ b) (hF : ∀ x ∈ F, 1 = 0 ∨ x ≠ b) : RdD R w' z g o v F l := h.keep (Nat.le_of_eq k.size.symm) (hn.imp id fun hn _ => k.block g hn) (fun x hx _ => k.block x ((hF x hx).resolve_left (by decide)))
theorem OwnD.ka (h : OwnD R w z g e v F l) (k : Ka z' g' w w') (hn : z = 0 ∨ z' = 0 ∨ g ≠ g') (hF : ∀ x ∈ F, z' = 0 ∨ x ≠ g') : OwnD R w' z g e v F l := h.keep k.size (hn.imp id fun hn hl => k.block g hl hn) (fun x hx hl => k.block x hl (hF x hx))
theorem RdD.ka (h : RdD R w z g o v F l) (k : Ka z' g' w w') (hn : z = 0 ∨ z' = 0 ∨ g ≠ g') (hF : ∀ x ∈ F, z' = 0 ∨ x ≠ g') : RdD R w' z g o v F l := h.keep k.size (hn.imp id fun hn hl => k.block g hl hn) (fun x hx hl => k.block x hl (hF x hx))
theorem OwnD.kz (h : OwnD R w z g e v F l) (k : Kz lz w w') (hn : z = 0 ∨ Nin lz g) (hF : ∀ x ∈ F, Nin lz x) : OwnD R w' z g e v F l := h.keep k.size (hn.imp id fun hn hl => k.block g hl hn) (fun x hx hl => k.block x hl (hF x hx))
theorem RdD.kz (h : RdD R w z g o v F l) (k : Kz lz w w') (hn : z = 0 ∨ Nin lz g) (hF : ∀ x ∈ F, Nin lz x) : RdD R w' z g o v F l := h.keep k.size (hn.imp id fun hn hl => k.block g hl hn) (fun x hx hl => k.block x hl (hF x hx))
theorem OwnD.kp (h : OwnD R w z g e v F l) (k : Kp ms w w') (hn : z = 0 ∨ g ∉ ms) (hF : ∀ x ∈ F, x ∉ ms) : OwnD R w' z g e v F l := h.keep k.size (hn.imp id fun hn hl => k.block g hl hn) (fun x hx hl => k.block x hl (hF x hx))
theorem RdD.kp (h : RdD R w z g o v F l) (k : Kp ms w w') (hn : z = 0 ∨ g ∉ ms) (hF : ∀ x ∈ F, x ∉ ms) : RdD R w' z g o v F l := h.keep k.size (hn.imp id fun hn hl => k.block g hl hn) (fun x hx hl => k.block x hl (hF x hx))
theorem OwnD.lth (h : OwnD R w z g e v F l) : Hdn (z = 0 ∨ (z = 1 ∧ g < w.heap.size)) := by obtain ⟨lg, h1, h2, _⟩ := h; exact h2.lth
theorem RdD.lth (h : RdD R w z g o v F l) : Hdn (z = 0 ∨ (z = 1 ∧ g < w.heap.size)) := by obtain ⟨lg, h1, h2, _⟩ := h; exact h2.lth
theorem OwnD.flt (h : OwnD R w z g e v F l) : ∀ b ∈ F, b < w.heap.size := by obtain ⟨lg, h1, h2, h3, h4, _⟩ := h; exact h4
theorem RdD.flt (h : RdD R w z g o v F l) : ∀ b ∈ F, b < w.heap.size := by obtain ⟨lg, h1, h2, h3, h4⟩ := h; exact h4
theorem OwnD.oneB (h : OwnD R w z g e v F l) : Sx.oneB v = true := by obtain ⟨lg, h1, h2, _⟩ := h; exact h2.oneB
theorem RdD.oneB (h : RdD R w z g o v F l) : Sx.oneB v = true := by obtain ⟨lg, h1, h2, _⟩ := h; exact h2.oneB
theorem ownD_nil (R : Rp α) (w : World) (g : Nat) (e : TypeId) : OwnD R w 0 g e (.slice none 0 0) [] [] := ⟨[], rfl, own_nil w g e R.sz, nofun, nofun, .inl rfl⟩
theorem OwnD.z1 {i : Int} {a : α} (h : OwnD R w z g e v F l) (hg : getI l i = some a) : z = 1 := by
  obtain ⟨lg, h1, h2, _⟩ := h
  rcases h2.2 with ⟨_, _, h0⟩ | ⟨h0, _⟩
  · have := getI_at hg
    rw [← h1, List.map_eq_nil_iff.1 h0] at this; simp at this
  · exact h0
theorem len_fst {β : Type} {lg : List (α × β)} (h : lg.map Prod.fst = l) : lg.length = l.length := by rw [← h, List.length_map]
theorem get_fst {β : Type} {lg : List (α × β)} {i : Int} {a : α} (h : lg.map Prod.fst = l) (hg : getI l i = some a) : ∃ x, getI lg i = some (a, x) := by
  have h0 := getI_nn hg
  have h1 := getI_at hg
  rw [← h, List.getElem?_map] at h1
  cases hx : lg[i.toNat]? with
  | none => rw [hx] at h1; cases h1
  | some p =>
    rw [hx] at h1
    have : p.1 = a := Option.some.inj h1
    exact ⟨p.2, by unfold getI; rw [if_pos h0, hx, ← this]⟩
/-- an element that is read -/
theorem RdD.at {i : Int} {a : α} (h : RdD R w z g o v F l) (hg : getI l i = some a) : ∃ (lg : List (α × R.γ)) (x : R.γ), Rd w z g o R.sz v (lg.map R.c) ∧ getI lg i = some (a, x) ∧ R.S w F (a, x) := by
  obtain ⟨lg, h1, h2, h3, h4⟩ := h
  obtain ⟨x, hx⟩ := get_fst h1 hg
  exact ⟨lg, x, h2, hx, h3 _ (List.mem_of_getElem? (getI_at hx))⟩
variable {P : Program} {L : Slots} {dst : Option Nat} {ty : TypeId} {pos : String} {af : Array Edge} {gu : Option (Nat × Bool)} {x y : Operand} {t : TypeId}
theorem vv_lenD (hu : P.underlying t = some (.slice e)) (hx : ev L x = some v) (hr : RdD R w z g o v F l) : VV P L ⟨dst, .call { callee := .builtin .len, args := #[x], argTypes := #[t] }, ty, pos, af, gu⟩ w (.int .i64 (l.length : Int)) := by
  obtain ⟨lg, h1, h2, _⟩ := hr
  exact vv_lenN hu hx h2 (by rw [List.length_map, len_fst h1])
theorem vv_ixD {i : Int} {a : α} {kd : IntKind} (hu : P.underlying t = some (.slice e)) (hs : Siz P e R.sz) (hx : ev L x = some v) (hr : RdD R w z g o v F l) (hy : ev L y = some (.int kd i)) (hg : getI l i = some a) :
    VV P L ⟨dst, .indexAddr t x y, ty, pos, af, gu⟩ w (.pointer (some ⟨g, o + i.toNat * R.sz, none⟩)) := by
  obtain ⟨lg, h1, h2, _⟩ := hr
  exact vv_ixN hu hs hx h2 (by rw [List.length_map, len_fst h1]) hy (getI_nn hg) (getI_lt hg)
theorem ev_appD {bytes z2 g2 o2 : Nat} {u : Value} {m k : List α} {F2 : List Nat} (ha : ApT P t e R.sz bytes) (hx : ev L x = some v) (hy : ev L y = some u) (h : OwnD R w z g e v F l) (hr : RdD R w z2 g2 o2 u F2 m) (hb : appG bytes l m = some k) (hpos : 1 ≤ bytes) (hF : ∀ b ∈ F2, z = 0 ∨ b ≠ g) :
    EV P L ⟨dst, .call { callee := .builtin .append, args := #[x, y], argTypes := #[t, t] }, ty, pos, af, gu⟩ w fun v' w' => ∃ z' g', OwnD R w' z' g' e v' (F ++ F2) k ∧ Ka z g w w' ∧ Hdn (z' = 0 ∨ (z' = 1 ∧ g' < w'.heap.size)) ∧ Hdn ((g' = g ∧ z = 1) ∨ w.heap.size ≤ g' ∨ z' = 0) := by
  obtain ⟨lg, h1, h2, h3, h4, h5⟩ := h
  obtain ⟨mg, m1, m2, m3, m4⟩ := hr
  obtain ⟨rfl, hb2⟩ := appG_eq hb
  have e1 : appG bytes lg mg = some (lg ++ mg) := by unfold appG; rw [len_fst h1, len_fst m1, if_pos hb2]
  refine (ev_appT ha hx hy h2 m2 e1 hpos).mono ?_
  rintro v' w' ⟨z', g', q1, q2, q3, q4⟩
  refine ⟨z', g', ⟨lg ++ mg, by rw [List.map_append, h1, m1], q1, ?_, ?_, ?_⟩, q2, q3, q4⟩
  · have kF : ∀ b ∈ F ++ F2, b < w.heap.size → w'.heap[b]? = w.heap[b]? := fun b hb hl => q2.block b hl (by
      rcases List.mem_append.1 hb with hb | hb
      · exact h5.imp id fun h5 => h5 b hb
      · exact hF b hb)
    intro p hp
    rcases List.mem_append.1 hp with hp | hp
    · exact R.keep (R.mono (h3 p hp) fun b hb => List.mem_append_left _ hb) q2.size kF
    · exact R.keep (R.mono (m3 p hp) fun b hb => List.mem_append_right _ hb) q2.size kF
  · intro b hb
    rcases List.mem_append.1 hb with hb | hb
    · exact Nat.lt_of_lt_of_le (h4 b hb) q2.size
    · exact Nat.lt_of_lt_of_le (m4 b hb) q2.size
  · rcases q4.o with ⟨rfl, hz⟩ | hn | h0
    · refine .inr fun b hb => ?_
      rcases List.mem_append.1 hb with hb | hb
      · exact (h5.resolve_left (by omega)) b hb
      · exact (hF b hb).resolve_left (by omega)
    · refine .inr fun b hb => ?_
      rcases List.mem_append.1 hb with hb | hb
      · have := h4 b hb; omega
      · have := m4 b hb; omega
    · exact .inl h0
theorem ev_litD {len : Nat} {zs cs : List Value} {parts : Array (Nat × Operand)} {vs : List (Nat × Value)} (lg : List (α × R.γ)) (hb : BSl P t len e R.sz zs) (hp : evp L parts.toList = some vs) (hf : fillL (fun i => some (i * R.sz, R.sz)) zs vs = some cs)
    (hx : cs = (lg.map R.c).flatten) (hl : lg.length = len) (hm : Nat.ble len 1000000 = true) (hS : ∀ p ∈ lg, R.S w F p) (hF : ∀ b ∈ F, b < w.heap.size) :
    EV P L ⟨dst, .buildSlice t len parts, ty, pos, af, gu⟩ w fun v' w' => ∃ g', w.heap.size ≤ g' ∧ OwnD R w' 1 g' e v' F (lg.map Prod.fst) ∧ Gr w w' := by
  refine (ev_litT lg R.c hb hp hf (fun y hy => ?_) hx hl hm).mono ?_
  · obtain ⟨p, hp, rfl⟩ := List.mem_map.1 hy
    exact R.ws (hS p hp)
  · rintro v' w' ⟨g', h1, h2, h3⟩
    exact ⟨g', h1, ⟨lg, rfl, h2, fun p hp => R.keep (hS p hp) h3.size (fun b _ hl => h3.block b hl), fun b hb => Nat.lt_of_lt_of_le (hF b hb) h3.size, .inr fun b hb => by have := hF b hb; omega⟩, h3⟩
end
/-! ### representations -/
/-- a struct with one slice in it -/
def rpSt {α β : Type} (sz : Nat) (cs : α → Value → List Value) (f : α → List β) (k : Nat) (c : β → List Value) (hcs : ∀ a v, oneB v = true → (cs a v).length = sz ∧ ones (cs a v) = true) : Rp α where
  γ := Value
  sz := sz
  c p := cs p.1 p.2
  S w F p := ∃ z g o, Rd w z g o k p.2 ((f p.1).map c) ∧ (z = 0 ∨ g ∈ F)
  ws := fun ⟨z, g, o, h, _⟩ => hcs _ _ h.oneB
  keep := fun ⟨z, g, o, h, hg⟩ hs hF => ⟨z, g, o, h.keep (hg.imp id fun hg hl => hF g hg hl) hs, hg⟩
  mono := fun ⟨z, g, o, h, hg⟩ hF => ⟨z, g, o, h, hg.imp id fun hg => hF g hg⟩
section
variable {α : Type} {R : Rp α} {w : World} {F F' : List Nat} {l : List α} {v : Value}
end
section
variable {α β : Type} {w : World} {z g o k sz : Nat} {F : List Nat} {v : Value} {i : Int}
variable {R : Rp α} {l : List α} {a : α} {P : Program} {L : Slots} {dst : Option Nat} {ty : TypeId} {pos : String} {af : Array Edge} {gu : Option (Nat × Bool)} {x y : Operand} {t e : TypeId}
/-- a flat part of an element -/
theorem vv_elD1 {p q : Nat} {u : Value} (h1 : One P t) (hx : ev L x = some (.pointer (some ⟨g, p, none⟩))) (hr : RdD R w z g o v F l) (hg : getI l i = some a) (hp : p = o + (i.toNat * R.sz + q)) (hc : ∀ x, (R.c (a, x))[q]? = some u) : VV P L ⟨dst, .load t x, ty, pos, af, gu⟩ w u := by
  obtain ⟨lg, x, h2, h3, _⟩ := hr.at hg
  exact vv_el1T h1 hx h2 h3 hp (hc x)
end
/-! ### what is known of the blocks F -/
section
variable {A : Nat → Prop} {F F2 F3 : List Nat} {z g n n2 x : Nat}
theorem fA_nil : ∀ x ∈ ([] : List Nat), A x := nofun
theorem fA_app (h1 : ∀ x ∈ F, A x) (h2 : ∀ x ∈ F2, A x) : ∀ x ∈ F ++ F2, A x := fun x hx => (List.mem_append.1 hx).elim (h1 x) (h2 x)
theorem fA_zf (h : z = 0 ∨ A g) : ∀ x ∈ zf z g, A x := fun x hx => by
  obtain ⟨h1, rfl⟩ := mem_zf.1 hx
  exact h.resolve_left h1
/-- of these blocks, of these slices, or new -/
def Pv (F : List Nat) (zs : List (Nat × Nat)) (n x : Nat) : Prop := x ∈ F ∨ Mz zs x ∨ n ≤ x
theorem fA_pv {zs : List (Nat × Nat)} (h : ∀ x ∈ F, Pv F2 zs n x) (h1 : ∀ x ∈ F2, A x) (h2 : ∀ x, Mz zs x → A x) (h3 : ∀ x, n ≤ x → A x) : ∀ x ∈ F, A x := fun x hx => (h x hx).elim (h1 x) fun h => h.elim (h2 x) (h3 x)
theorem mz_nil : ∀ x, Mz [] x → A x := nofun
theorem zf_lt {w : World} (h : z = 0 ∨ (z = 1 ∧ g < w.heap.size)) : ∀ b ∈ zf z g, b < w.heap.size := fA_zf (h.imp id And.right)
theorem or_1 {b : Nat} (h : z = 0 ∨ g ≠ b) : z = 0 ∨ 1 = 0 ∨ g ≠ b := h.imp id .inr
theorem pv_Pv {zs : List (Nat × Nat)} {F' : List Nat} (h : z = 0 ∨ Mz zs g ∨ n ≤ g) : z = 0 ∨ Pv F' zs n g := h.imp id .inr
theorem in_zf (z g : Nat) : z = 0 ∨ g ∈ zf z g := by
  by_cases h : z = 0
  · exact .inl h
  · exact .inr (mem_zf.2 ⟨h, rfl⟩)
end
end Go.Sx

end
section
set_option linter.unusedVariables false
set_option linter.unusedSimpArgs false
namespace Go.Sx
open Go Go.RowKit
/-- the operation at a place, if it is to be run ¦ to be left -/
def sqp (b : Bool) (n : Nat) (ops : Array Oper) (L : Slots) (i : Nat) : Option Oper :=
  match ops[i]? with
  | some o => match gd ops L o with
    | some g => bif (g == b) && inN n o.dst then some o else none
    | none => none
  | none => none
theorem sqp_eq {b : Bool} {n : Nat} {ops : Array Oper} {L : Slots} {i : Nat} {o : Oper} (h : sqp b n ops L i = some o) : ops[i]? = some o ∧ gd ops L o = some b ∧ inN n o.dst = true := by
  unfold sqp at h
  split at h
  · rename_i o' ho
    split at h
    · rename_i g hg
      cases hc : (g == b) && inN n o'.dst with
      | false => rw [hc] at h; cases h
      | true =>
        rw [hc] at h; cases h
        rw [Bool.and_eq_true] at hc
        exact ⟨ho, by rw [hg, beq_iff_eq.1 hc.1], hc.2⟩
    · cases h
  · cases h
/-- a region in the order of the text -/
def od : Nat → Nat → List (Nat × Nat)
  | 0, _ => []
  | n + 1, i => (i, 0) :: od n (i + 1)
theorem od_fst : ∀ n i, (od n i).map (·.1) = List.range' i n
  | 0, _ => rfl
  | n + 1, i => by rw [od, List.map_cons, od_fst n (i + 1)]; rfl
theorem od_lvl : ∀ n i, ((od n i).all fun x => (lvl x.2).isNone) = true
  | 0, _ => rfl
  | n + 1, i => by rw [od, List.all_cons, od_lvl n (i + 1)]; rfl
section
variable {P : Program} {r : Option Nat} {n : Nat} {Q : Exit → List Deferred → Slots → World → Prop} {D : List Deferred} {L : Slots} {w : World}
theorem qr {id : Nat} {ops : Array Oper} (k : Nat) (hk : ops.size = k) (hnd : allNodef ops = true) (h : SD P n ops (fun L w => Q .normal D L w) (fun _ _ => True) (fun _ _ => false) (od k 0) L w) : SW P r n (.region id ops false) Q D L w :=
  sw_region (od k 0) hnd (od_lvl k 0) (by rw [od_fst, hk, List.range_eq_range']) h
theorem qsr {id : Nat} {ops : Array Oper} {y : Code} (k : Nat) (hk : ops.size = k) (hnd : allNodef ops = true) (h : SD P n ops (fun L w => thenQ (fun D L w => SW P r n y Q D L w) Q .normal D L w) (fun _ _ => True) (fun _ _ => false) (od k 0) L w) : SW P r n (.seq (.region id ops false) y) Q D L w :=
  sw_seq (qr k hk hnd h)
theorem cnF {c : Operand} {x y : Code} {t : Bool} (hc : ev L c = some (.bool t)) (hf : t = false → SW P r n y Q D L w) (ht : t = true → SW P r n x Q D L w) : SW P r n (.cond c x y) Q D L w := sw_cond hc ht hf
theorem qj {x y : Code} {β : Type} (dead : List Nat) (dyn : β → Slots) (J : β → World → Prop) (h : SW P r n x (thenQ (fun D1 L1 w1 => D1 = D ∧ ∃ b, SubP (dyn b ++ drp dead L) L1 ∧ J b w1) Q) D L w) (hk : ∀ b w1, J b w1 → SW P r n y Q D (dyn b ++ drp dead L) w1) : SW P r n (.seq x y) Q D L w := sw_joinD dead dyn J hk h
end
theorem sbq {A B : Slots} (h : SubP A B := by repeat' first | exact trivial | refine ⟨rfl, ?_⟩) : SubP A B := h
section
variable {P : Program} {n : Nat} {ops : Array Oper} {Q : Slots → World → Prop} {rest : List (Nat × Nat)} {i : Nat} {dst : Option Nat} {op : Op} {ty : TypeId} {pos : String} {af : Array Edge} {gu : Option (Nat × Bool)} {L : Slots} {w : World}
theorem qv {v : Value} (hi : sqp true n ops L i = some ⟨dst, op, ty, pos, af, gu⟩) (hv : VV P L ⟨dst, op, ty, pos, af, gu⟩ w v) (h : SD P n ops Q (fun _ _ => True) (fun _ _ => false) rest (putL dst v L) w) : SD P n ops Q (fun _ _ => True) (fun _ _ => false) ((i, 0) :: rest) L w :=
  sd_vv (sqp_eq hi).1 (sqp_eq hi).2.1 (sqp_eq hi).2.2 hv h
theorem qe {R : Value → World → Prop} (hi : sqp true n ops L i = some ⟨dst, op, ty, pos, af, gu⟩) (hv : EV P L ⟨dst, op, ty, pos, af, gu⟩ w R) (h : ∀ v w', R v w' → SD P n ops Q (fun _ _ => True) (fun _ _ => false) rest (putL dst v L) w') : SD P n ops Q (fun _ _ => True) (fun _ _ => false) ((i, 0) :: rest) L w :=
  sd_ev (sqp_eq hi).1 (sqp_eq hi).2.1 (sqp_eq hi).2.2 hv h
theorem qk (hi : sqp false n ops L i = some ⟨dst, op, ty, pos, af, gu⟩) (h : SD P n ops Q (fun _ _ => True) (fun _ _ => false) rest (putL dst undef L) w) : SD P n ops Q (fun _ _ => True) (fun _ _ => false) ((i, 0) :: rest) L w :=
  sd_skip (sqp_eq hi).1 (sqp_eq hi).2.1 (sqp_eq hi).2.2 h
theorem qp {t : Bool} (hi : sqp true n ops L i = some ⟨dst, op, ty, pos, af, gu⟩) (hv : VV P L ⟨dst, op, ty, pos, af, gu⟩ w (.bool t)) (ht : t = true → SD P n ops Q (fun _ _ => True) (fun _ _ => false) rest (putL dst (.bool true) L) w) (hf : t = false → SD P n ops Q (fun _ _ => True) (fun _ _ => false) rest (putL dst (.bool false) L) w) : SD P n ops Q (fun _ _ => True) (fun _ _ => false) ((i, 0) :: rest) L w :=
  sd_split (sqp_eq hi).1 (sqp_eq hi).2.1 (sqp_eq hi).2.2 hv ht hf
theorem qpF {t : Bool} (hi : sqp true n ops L i = some ⟨dst, op, ty, pos, af, gu⟩) (hv : VV P L ⟨dst, op, ty, pos, af, gu⟩ w (.bool t)) (hf : t = false → SD P n ops Q (fun _ _ => True) (fun _ _ => false) rest (putL dst (.bool false) L) w) (ht : t = true → SD P n ops Q (fun _ _ => True) (fun _ _ => false) rest (putL dst (.bool true) L) w) : SD P n ops Q (fun _ _ => True) (fun _ _ => false) ((i, 0) :: rest) L w := qp hi hv ht hf
theorem qt {R : Value → Nat → Prop} (hi : sqp true n ops L i = some ⟨dst, op, ty, pos, af, gu⟩) (hv : ∃ v o, (∀ w1, VV P L ⟨dst, op, ty, pos, af, gu⟩ w1 v) ∧ R v o) (h : ∀ v o, R v o → SD P n ops Q (fun _ _ => True) (fun _ _ => false) rest (putL dst v L) w) : SD P n ops Q (fun _ _ => True) (fun _ _ => false) ((i, 0) :: rest) L w := by
  obtain ⟨v, o, h1, h2⟩ := hv
  exact qv hi (h1 w) (h v o h2)
variable {w₀ : World} {mss : List (List Nat)} {ms : List Nat} {kp : Nat → Nat → Bool}
theorem qh {v : Value} (k : Nat) (hi : sqp true n ops L i = some ⟨dst, op, ty, pos, af, gu⟩) (hm : mss[k]? = some ms) (hS : Kp ms w₀ w) (hv : ∀ w, Kp ms w₀ w → VV P L ⟨dst, op, ty, pos, af, gu⟩ w v) (h : SD P n ops Q (HldN mss w₀) kp rest (putL dst v L) w) : SD P n ops Q (HldN mss w₀) kp ((i, k + 10) :: rest) L w :=
  dd_hn k (sqp_eq hi).1 (sqp_eq hi).2.1 (sqp_eq hi).2.2 hm hS hv h
theorem qx (k : Nat) (hi : sqp false n ops L i = some ⟨dst, op, ty, pos, af, gu⟩) (hm : mss[k]? = some ms) (hS : Kp ms w₀ w) (h : SD P n ops Q (HldN mss w₀) kp rest (putL dst undef L) w) : SD P n ops Q (HldN mss w₀) kp ((i, k + 10) :: rest) L w :=
  dd_sn k (sqp_eq hi).1 (sqp_eq hi).2.1 (sqp_eq hi).2.2 hm hS h
theorem qq {t : Bool} (k : Nat) (hi : sqp true n ops L i = some ⟨dst, op, ty, pos, af, gu⟩) (hm : mss[k]? = some ms) (hS : Kp ms w₀ w) (hv : ∀ w, Kp ms w₀ w → VV P L ⟨dst, op, ty, pos, af, gu⟩ w (.bool t)) (ht : t = true → SD P n ops Q (HldN mss w₀) kp rest (putL dst (.bool true) L) w) (hf : t = false → SD P n ops Q (HldN mss w₀) kp rest (putL dst (.bool false) L) w) : SD P n ops Q (HldN mss w₀) kp ((i, k + 10) :: rest) L w :=
  dd_pn k (sqp_eq hi).1 (sqp_eq hi).2.1 (sqp_eq hi).2.2 hm hS hv ht hf
theorem qqF {t : Bool} (k : Nat) (hi : sqp true n ops L i = some ⟨dst, op, ty, pos, af, gu⟩) (hm : mss[k]? = some ms) (hS : Kp ms w₀ w) (hv : ∀ w, Kp ms w₀ w → VV P L ⟨dst, op, ty, pos, af, gu⟩ w (.bool t)) (hf : t = false → SD P n ops Q (HldN mss w₀) kp rest (putL dst (.bool false) L) w) (ht : t = true → SD P n ops Q (HldN mss w₀) kp rest (putL dst (.bool true) L) w) : SD P n ops Q (HldN mss w₀) kp ((i, k + 10) :: rest) L w := qq k hi hm hS hv ht hf
theorem qz {R : Value → World → Prop} (l : List (Nat × Nat)) (hi : sqp true n ops L i = some ⟨dst, op, ty, pos, af, gu⟩) (hv : EV P L ⟨dst, op, ty, pos, af, gu⟩ w R) (hb : AllL (fun k ms => kp k i = true → InA l (ms.map fun b => (1, b)) w₀.heap.size) 0 mss) (h : ∀ v w', R v w' → Kz l w w' ∧ SD P n ops Q (HldN mss w₀) kp rest (putL dst v L) w') : SD P n ops Q (HldN mss w₀) kp ((i, 0) :: rest) L w :=
  dd_z l (sqp_eq hi).1 (sqp_eq hi).2.1 (sqp_eq hi).2.2 hv hb h
theorem qw {v : Value} (hi : sqp true n ops L i = some ⟨dst, op, ty, pos, af, gu⟩) (hv : VV P L ⟨dst, op, ty, pos, af, gu⟩ w v) (h : SD P n ops Q (HldN mss w₀) kp rest (putL dst v L) w) : SD P n ops Q (HldN mss w₀) kp ((i, 0) :: rest) L w :=
  dd_vz (sqp_eq hi).1 (sqp_eq hi).2.1 (sqp_eq hi).2.2 hv h
theorem qy (hi : sqp false n ops L i = some ⟨dst, op, ty, pos, af, gu⟩) (h : SD P n ops Q (HldN mss w₀) kp rest (putL dst undef L) w) : SD P n ops Q (HldN mss w₀) kp ((i, 0) :: rest) L w :=
  dd_sz (sqp_eq hi).1 (sqp_eq hi).2.1 (sqp_eq hi).2.2 h
end
theorem iT {p : Prop} [Decidable p] {α : Type} {a b : Option α} {r : α} (h : decide p = true) (hm : (if p then a else b) = some r) : a = some r := ite_t (of_decide_eq_true h) hm
theorem iF {p : Prop} [Decidable p] {α : Type} {a b : Option α} {r : α} (h : decide p = false) (hm : (if p then a else b) = some r) : b = some r := ite_f (of_decide_eq_false h) hm
/-! ### what needs nothing but the slots -/
def nthV : List Value → Nat → Option Value
  | [], _ => none
  | v :: _, 0 => some v
  | _ :: r, k + 1 => nthV r k
theorem nthV_eq : ∀ {l : List Value} {k : Nat} {v : Value}, nthV l k = some v → l[k]? = some v
  | [], _, _, h => by cases h
  | a :: r, 0, v, h => h
  | a :: r, k + 1, v, h => by rw [List.getElem?_cons_succ]; exact nthV_eq h
def pureV (L : Slots) : Op → Option Value
  | .move x => ev L x
  | .assign x => ev L x
  | .extract x q => match ev L x with
    | some (.tuple vs) => nthV vs.toList q
    | _ => none
  | .pick c a b => match ev L c with
    | some (.bool t) => bif t then ev L a else ev L b
    | _ => none
  | _ => none
theorem pureV_vv {P : Program} {L : Slots} {dst : Option Nat} {op : Op} {ty : TypeId} {pos : String} {af : Array Edge} {gu : Option (Nat × Bool)} {v : Value} (h : pureV L op = some v) (w : World) : VV P L ⟨dst, op, ty, pos, af, gu⟩ w v := by
  unfold pureV at h
  split at h
  · exact vv_move h
  · exact vv_assign h
  · split at h
    · rename_i x q _ vs hx
      exact vv_extract (vs := vs.toList) (by rw [hx]) (nthV_eq h)
    · cases h
  · split at h
    · rename_i c a b _ t hc
      cases t with
      | true => exact vv_pickT hc h
      | false => exact vv_pickF hc h
    · cases h
  · cases h
def sqm (n : Nat) (ops : Array Oper) (L : Slots) (i : Nat) : Option (Option Nat × Value) :=
  match ops[i]? with
  | some o => match gd ops L o with
    | some true => match pureV L o.op with
      | some v => bif inN n o.dst then some (o.dst, v) else none
      | none => none
    | _ => none
  | none => none
theorem sqm_eq {n : Nat} {ops : Array Oper} {L : Slots} {i : Nat} {dst : Option Nat} {v : Value} (h : sqm n ops L i = some (dst, v)) : ∃ op ty pos af gu, ops[i]? = some ⟨dst, op, ty, pos, af, gu⟩ ∧ gd ops L ⟨dst, op, ty, pos, af, gu⟩ = some true ∧ inN n dst = true ∧ pureV L op = some v := by
  unfold sqm at h
  split at h
  · rename_i o ho
    split at h
    · rename_i hg
      split at h
      · rename_i v' hv
        cases hc : inN n o.dst with
        | false => rw [hc] at h; cases h
        | true =>
          rw [hc] at h; cases h
          exact ⟨_, _, _, _, _, ho, hg, hc, hv⟩
      · cases h
    · cases h
  · cases h
/-- a region's size, and that it defers nothing -/
def rgn (ops : Array Oper) (k : Nat) : Bool := Nat.beq ops.size k && allNodef ops
theorem rgn_eq {ops : Array Oper} {k : Nat} (h : rgn ops k = true) : ops.size = k ∧ allNodef ops = true := by
  unfold rgn at h; rw [Bool.and_eq_true] at h; exact ⟨Nat.eq_of_beq_eq_true h.1, h.2⟩
section
variable {P : Program} {r : Option Nat} {n : Nat} {Q : Exit → List Deferred → Slots → World → Prop} {K : List Deferred → Slots → World → Prop} {D : List Deferred} {L : Slots} {w : World} {S : Nat → World → Prop} {kp : Nat → Nat → Bool}
/-- the region's end, and the next region -/
theorem qd {id : Nat} {ops ops' : Array Oper} {y : Code} (k : Nat) (hk : rgn ops k = true) (h : SD P n ops (fun L w => thenQ (fun D L w => SW P r n y Q D L w) Q .normal D L w) (fun _ _ => True) (fun _ _ => false) (od k 0) L w) :
    SD P n ops' (fun L w => thenQ (fun D L w => SW P r n (.seq (.region id ops false) y) Q D L w) Q .normal D L w) S kp [] L w := sd_done (qsr k (rgn_eq hk).1 (rgn_eq hk).2 h)
theorem qs {id : Nat} {ops : Array Oper} {y : Code} (k : Nat) (hk : rgn ops k = true) (h : SD P n ops (fun L w => thenQ (fun D L w => SW P r n y Q D L w) Q .normal D L w) (fun _ _ => True) (fun _ _ => false) (od k 0) L w) : SW P r n (.seq (.region id ops false) y) Q D L w :=
  qsr k (rgn_eq hk).1 (rgn_eq hk).2 h
theorem qg {id : Nat} {ops : Array Oper} (k : Nat) (hk : rgn ops k = true) (h : SD P n ops (fun L w => Q .normal D L w) (fun _ _ => True) (fun _ _ => false) (od k 0) L w) : SW P r n (.region id ops false) Q D L w :=
  qr k (rgn_eq hk).1 (rgn_eq hk).2 h
/-- the region's end, and the way back -/
theorem qb {ops : Array Oper} {K : List Deferred → Slots → World → Prop} (h : Q .ret D L w) : SD P n ops (fun L w => thenQ (fun D L w => SW P r n .ret (thenQ K Q) D L w) (thenQ K Q) .normal D L w) S kp [] L w := sd_done (sw_ret (then_r h))
theorem qu {y : Code} (h : SW P r n y Q D L w) : SW P r n .skip (thenQ (fun D L w => SW P r n y Q D L w) Q) D L w := sw_skip (then_n h)
end
section
variable {P : Program} {n : Nat} {ops : Array Oper} {Q : Slots → World → Prop} {rest : List (Nat × Nat)} {i : Nat} {dst : Option Nat} {op : Op} {ty : TypeId} {pos : String} {af : Array Edge} {gu : Option (Nat × Bool)} {L : Slots} {w w₀ : World} {v : Value} {mss : List (List Nat)} {ms : List Nat} {kp : Nat → Nat → Bool}
theorem qm (h0 : sqm n ops L i = some (dst, v)) (h : SD P n ops Q (fun _ _ => True) (fun _ _ => false) rest (putL dst v L) w) : SD P n ops Q (fun _ _ => True) (fun _ _ => false) ((i, 0) :: rest) L w := by
  obtain ⟨op, ty, pos, af, gu, h1, h2, h3, h4⟩ := sqm_eq h0
  exact sd_vv h1 h2 h3 (pureV_vv h4 w) h
theorem dn (k : Nat) (h0 : sqm n ops L i = some (dst, v)) (hm : mss[k]? = some ms) (hS : Kp ms w₀ w) (h : SD P n ops Q (HldN mss w₀) kp rest (putL dst v L) w) : SD P n ops Q (HldN mss w₀) kp ((i, k + 10) :: rest) L w := by
  obtain ⟨op, ty, pos, af, gu, h1, h2, h3, h4⟩ := sqm_eq h0
  exact dd_hn k h1 h2 h3 hm hS (fun w _ => pureV_vv h4 w) h
/-- held, at the region's begin -/
theorem dm (k : Nat) (h0 : sqm n ops L i = some (dst, v)) (hm : mss[k]? = some ms) (h : SD P n ops Q (HldN mss w₀) kp rest (putL dst v L) w₀) : SD P n ops Q (HldN mss w₀) kp ((i, k + 10) :: rest) L w₀ := dn k h0 hm (Kp.refl _ _) h
theorem dh {v : Value} (k : Nat) (hi : sqp true n ops L i = some ⟨dst, op, ty, pos, af, gu⟩) (hm : mss[k]? = some ms) (hv : ∀ w, Kp ms w₀ w → VV P L ⟨dst, op, ty, pos, af, gu⟩ w v) (h : SD P n ops Q (HldN mss w₀) kp rest (putL dst v L) w₀) : SD P n ops Q (HldN mss w₀) kp ((i, k + 10) :: rest) L w₀ :=
  qh k hi hm (Kp.refl _ _) hv h
theorem dx (k : Nat) (hi : sqp false n ops L i = some ⟨dst, op, ty, pos, af, gu⟩) (hm : mss[k]? = some ms) (h : SD P n ops Q (HldN mss w₀) kp rest (putL dst undef L) w₀) : SD P n ops Q (HldN mss w₀) kp ((i, k + 10) :: rest) L w₀ :=
  qx k hi hm (Kp.refl _ _) h
end
section
variable {P : Program} {L : Slots} {w : World} {dst : Option Nat} {ty : TypeId} {pos : String} {af : Array Edge} {gu : Option (Nat × Bool)} {x y : Operand} {t : TypeId}
/-- a box gets a new content aas a whole -/
theorem ev_stW {b' m : Nat} {tb : TypeId} {cs vs : List Value} (hs : Agg P t m) (hx : ev L x = some (.pointer (some ⟨b', 0, none⟩))) (hy : ev L y = some (.agg vs.toArray)) (h1 : ones vs = true) (hb : Bx w b' tb cs) (hm : vs.length = m) (hl : cs.length = m) :
    EV P L ⟨dst, .store t x y, ty, pos, af, gu⟩ w fun _ w' => Bx w' b' tb vs ∧ Md b' w w' :=
  ev_stM hs.siz hx hy rfl hm h1 hb (by rw [hl, Nat.zero_add]; exact Nat.ble_eq_true_of_le (Nat.le_refl _)) (by unfold spl; rw [List.take_zero, List.nil_append, Nat.zero_add, List.drop_eq_nil_of_le (by omega), List.append_nil])
end
theorem kz0 {w : World} : Kz [] w w := Kz.refl _ _
/-! a slice's block is not b -/
section
variable {b z g z' g' s z1 g1 z2 g2 z3 g3 : Nat}
theorem pb_app (r : Hdn ((g' = g ∧ z = 1) ∨ s ≤ g' ∨ z' = 0)) (h : z = 0 ∨ g ≠ b) (f : s ≤ b → False := by omega) : z' = 0 ∨ g' ≠ b := pv_app (A := (· ≠ b)) r h (fun x hx e => f (e ▸ hx))
theorem pb_0 (r : Hdn (z = 0 ∨ s ≤ g)) (f : s ≤ b → False := by omega) : z = 0 ∨ g ≠ b := pv_0 (A := (· ≠ b)) r (fun x hx e => f (e ▸ hx))
theorem pb_1 (r : Hdn (z = 0 ∨ (g = g1 ∧ z1 ≠ 0) ∨ s ≤ g)) (h1 : z1 = 0 ∨ g1 ≠ b) (f : s ≤ b → False := by omega) : z = 0 ∨ g ≠ b := pv_1 (A := (· ≠ b)) r h1 (fun x hx e => f (e ▸ hx))
theorem pb_lt (r : Hdn (z = 0 ∨ (z = 1 ∧ g < s))) (f : b < s → False := by omega) : z = 0 ∨ g ≠ b := pv_lt (A := (· ≠ b)) r (fun x hx e => f (e ▸ hx))
end
/-- the numbers from a on -/
def rg : Nat → Nat → List Nat
  | _, 0 => []
  | a, n + 1 => a :: rg (a + 1) n
theorem kG {w w' : World} {p : Prop} (h : Gr w w') (k : p) : Kz [] w w' ∧ p := ⟨Kz.ofGr h, k⟩
theorem kM {w w' : World} {b : Nat} {p : Prop} (h : Md b w w') (k : p) : Kz [(1, b)] w w' ∧ p := ⟨Kz.ofMd h, k⟩
theorem dw {P : Program} {r : Option Nat} {n : Nat} {Q : Exit → List Deferred → Slots → World → Prop} {D : List Deferred} {L : Slots} {w : World} {id : Nat} {ops : Array Oper} (mss : List (List Nat)) (tab : List (Nat × List Nat)) (t : Tz)
    (h : ∀ w1, RowKit.Below w.heap.size w w1 → w1.heap.size = w.heap.size → SDZ P n ops (fun L w => Q .normal D L w) (HldN mss w1) (kpN tab) t L w1) (hm : P.follows .mixedOrders = true := by kernel_rfl) (hnd : allNodef ops = true := by kernel_rfl) (hlen : t.len = ops.size := by exact rfl)
    (ho : okTz ops (kpN tab) t (Array.replicate ops.size false) = true := by kernel_rfl) : SW P r n (.region id ops true) Q D L w := sw_drawN mss tab t hm hnd hlen ho h
/-- a call -/
theorem eC {P : Program} {L : Slots} {w : World} {dst : Option Nat} {ty : TypeId} {pos : String} {af : Array Edge} {gu : Option (Nat × Bool)} {f : Nat} {aas : Array Operand} {at_ : Array TypeId} {vs : List Value} {R : Value → World → Prop} (hen : En P f) (hargs : evs L aas.toList = some vs)
    (hc : Calls P f vs.toArray w fun e w' => ∃ v, e = .returned v ∧ R v w') : EV P L ⟨dst, .call { callee := .value (.func f), args := aas, argTypes := at_ }, ty, pos, af, gu⟩ w R := ev_call hen hargs hc
/-! bytes of a constant: its row gets a mark -/
end Go.Sx

end
section
set_option linter.unusedVariables false
set_option linter.unusedSimpArgs false
namespace Go.Sx
open Go Go.RowKit
theorem bt_and {a b : Bool} (ha : a = true) (hb : b = true) : (a && b) = true := by rw [ha, hb]; rfl
theorem ok_int {P : Program} {W : World} {r : Reach} {base : Nat} {t : TypeId} {v : Value} {k : IntKind} (hu : P.underlying t = some (.int k)) (h : Cell.okWide P W r base t v) : ∃ n, v = .int k n ∧ k.has n := by
  simp only [Cell.okWide, hu, Cell.ok] at h
  split at h <;> try (exact h.elim)
  all_goals first | (obtain ⟨rfl, h⟩ := h; rename_i e; cases e; exact ⟨_, rfl, h⟩) | simp_all
theorem ok_i64 {P : Program} {W : World} {r : Reach} {base : Nat} {t : TypeId} {v : Value} (hu : P.underlying t = some (.int .i64)) (h : Cell.okWide P W r base t v) : ∃ n : Int, v = .int .i64 n ∧ -9223372036854775808 ≤ n ∧ n ≤ 9223372036854775807 := by
  obtain ⟨n, h1, h2⟩ := ok_int hu h
  simp only [IntKind.has, IntKind.min, IntKind.max, IntKind.bits, IntKind.signed] at h2
  exact ⟨n, h1, by simpa using h2.1, by simpa using h2.2⟩
end Go.Sx

end
section
set_option linter.unusedVariables false
set_option linter.unusedSimpArgs false
namespace Go.Sx
open Go Go.RowKit
def I64 (n : Int) : Prop := -9223372036854775808 ≤ n ∧ n ≤ 9223372036854775807
section
variable {H : Type} {enc : TypeId × Value → H} {P : Program} {W : World} {fuel : Nat} {t e : TypeId} {cs : List Value} {x : DataW H × List MemPlace}
/-- what is read takes no more than the form's reach -/
def Sz (P : Program) (t : TypeId) (d : DataW H) : Prop := ∀ n ∈ d.weights P t, n ≤ reachBytes
abbrev Tr (enc : TypeId × Value → H) (P : Program) (W : World) (fuel : Nat) (t : TypeId) (cs : List Value) (x : DataW H × List MemPlace) : Prop := DataW.trod enc P W 0 (fun _ => true) true fuel t cs = some x
theorem op_i64 (hu : P.underlying t = some (.int .i64)) (h : Tr enc P W fuel t cs x) : ∃ n : Int, cs = [.int .i64 n] ∧ I64 n := by
  obtain ⟨n, rfl, _, hw⟩ := DataW.trod_int hu h
  simp [Lit.wf, IntKind.min, IntKind.max, IntKind.signed, IntKind.bits] at hw
  exact ⟨n, rfl, by unfold I64; omega⟩
theorem op_u64 (hu : P.underlying t = some (.int .u64)) (h : Tr enc P W fuel t cs x) : ∃ n : BitVec 64, cs = [wv n] := by
  obtain ⟨n, rfl, _, hw⟩ := DataW.trod_int hu h
  simp [Lit.wf, IntKind.min, IntKind.max, IntKind.signed, IntKind.bits] at hw
  refine ⟨wd n, ?_⟩
  show [Value.int .u64 n] = [Value.int .u64 (un (wd n))]
  rw [un_wd n (by omega) (by omega)]
theorem fld {fs : Array Field} {n : Nat} {xs : List (DataW H × List MemPlace)} (hf : ∀ (i : Nat) (f : Field), fs[i]? = some f → DataW.trod enc P W 0 (fun _ => true) true n f.type ((cs.drop f.offset).take (P.cellsOf f.type)) = xs[i]?) {i o k : Nat} {u : TypeId} {f : Field} {y : DataW H × List MemPlace}
    (hi : fs[i]? = some f) (h1 : f.type = u) (h2 : f.offset = o) (h3 : P.cellsOf u = k) (e : xs[i]? = some y) : Tr enc P W n u ((cs.drop o).take k) y := by
  subst h1; subst h2; subst h3
  exact (hf i f hi).trans e
theorem cat_step {cs a r : List Value} {o k : Nat} (h : (cs.drop o).take k = a) (hr : cs.drop (o + k) = r) : cs.drop o = a ++ r := by rw [← h, ← hr, ← List.drop_drop, List.take_append_drop]
theorem cat_end {cs : List Value} {n : Nat} (h : cs.length = n) : cs.drop n = [] := List.drop_eq_nil_of_le (by omega)
theorem some_at {α : Type} {xs : List α} {n i : Nat} (h : xs.length = n) (hi : Nat.blt i n = true) : ∃ y, xs[i]? = some y := ⟨xs[i]'(by rw [h]; exact Nat.le_of_ble_eq_true hi), by simp⟩
/-! the arguments' own shapes -/
theorem okv_agg {r : Reach} {base : Nat} {v : Value} (hu : (∃ fs, P.underlying t = some (.struct fs)) ∨ ∃ n e, P.underlying t = some (.array n e)) (h : Value.okWide P W r base t v) : ∃ cs : List Value, v = .agg cs.toArray := by
  unfold Value.okWide at h
  split at h
  · obtain ⟨cs, rfl, _⟩ := h; exact ⟨cs.toList, rfl⟩
  · obtain ⟨cs, rfl, _⟩ := h; exact ⟨cs.toList, rfl⟩
  · rename_i h1 h2
    rcases hu with ⟨fs, hu⟩ | ⟨n, e, hu⟩
    · exact absurd hu (h1 fs)
    · exact absurd hu (h2 n e)
theorem okv_cell {r : Reach} {base : Nat} {v : Value} (h1 : ∀ fs, P.underlying t ≠ some (.struct fs)) (h2 : ∀ n e, P.underlying t ≠ some (.array n e)) (h : Value.okWide P W r base t v) : Cell.okWide P W r base t v := by
  unfold Value.okWide at h
  split at h
  · rename_i h3; exact absurd h3 (h1 _)
  · rename_i h3; exact absurd h3 (h2 _ _)
  · exact h
theorem okv_i64 {r : Reach} {base : Nat} {v : Value} (hu : P.underlying t = some (.int .i64)) (h : Value.okWide P W r base t v) : ∃ n : Int, v = .int .i64 n ∧ I64 n := ok_i64 hu (okv_cell (by simp [hu]) (by simp [hu]) h)
theorem cells_agg (cs : List Value) : (Value.agg cs.toArray).cells.toList = cs := rfl
end
end Go.Sx

end
section
set_option linter.unusedVariables false
namespace Go.Sx
open Go
def rotl (x : BitVec 64) (s : Nat) : BitVec 64 := x <<< s ||| x >>> (64 - s)
/-- one round of the cipher, on the two words; and back -/
def rnd (p : W2) (k : BitVec 64) : W2 := ((rotl p.1 56 + p.2) ^^^ k, rotl p.2 3 ^^^ ((rotl p.1 56 + p.2) ^^^ k))
/-- what makes the round keys -/
def ks (k : W2) : Nat → W2
  | 0 => k
  | i + 1 => rnd (ks k i) (wd (i : Int))
/-- the number of bits of a number -/
def lg (a : Int) : Int := if a.toNat = 0 then 0 else (Nat.log2 a.toNat : Int) + 1
end Go.Sx

end
section
set_option linter.unusedVariables false
namespace Go.Sx
open Go
/-- where a part of an owned slice begins, and how long it is -/
def viewG {α : Type} (l : List α) (lo hi : Int) : Option Nat := if 0 ≤ lo ∧ lo < hi ∧ hi ≤ l.length then some (hi - lo).toNat else none
/-- the index in the whole, of an index in a part -/
def ixG (lo : Int) (n : Nat) (i : Int) : Option Int := if 0 ≤ i ∧ i < (n : Int) then some (lo + i) else none
end Go.Sx

end
section
set_option linter.unusedVariables false
set_option maxRecDepth 100000
namespace Go.Sx
open Go Go.RowKit
structure TGroup where
  P : BitVec 64
  Q : BitVec 64
  G : BitVec 64
deriving DecidableEq, Inhabited
def TGroup.cs (x : TGroup)  : List Value := [wv x.P, wv x.Q, wv x.G]
theorem TGroup.cs_ones (x : TGroup)   : ones (TGroup.cs x ) = true := by simp only [TGroup.cs, List.cons_append, List.nil_append, kb, ones, one_int, one_bool, one_str, cond_true]
theorem TGroup.cs_inj {x y : TGroup} (h : TGroup.cs x = TGroup.cs y) : x = y := by
  have h0 : x.P = y.P := cu_inj (congrArg (fun l => l[0]?) h)
  have h1 : x.Q = y.Q := cu_inj (congrArg (fun l => l[1]?) h)
  have h2 : x.G = y.G := cu_inj (congrArg (fun l => l[2]?) h)
  cases x; cases y; simp only at *; subst h0; subst h1; subst h2; rfl
theorem TGroup.ws (l : List TGroup) : Ws 3 (l.map TGroup.cs) := ws_map l (fun _ => rfl) (fun _ => rfl)
structure TScheme where
  Kind : BitVec 8
  Depth : Int
  Degree : Int
  Group : TGroup
deriving DecidableEq, Inhabited
def TScheme.cs (x : TScheme)  : List Value := [bv x.Kind, .int .i64 x.Depth, .int .i64 x.Degree, wv x.Group.P, wv x.Group.Q, wv x.Group.G]
theorem TScheme.cs_ones (x : TScheme)   : ones (TScheme.cs x ) = true := by simp only [TScheme.cs, List.cons_append, List.nil_append, kb, ones, one_int, one_bool, one_str, cond_true]
theorem TScheme.cs_inj {x y : TScheme} (h : TScheme.cs x = TScheme.cs y) : x = y := by
  have h0 : x.Kind = y.Kind := cb_inj (congrArg (fun l => l[0]?) h)
  have h1 : x.Depth = y.Depth := ci_inj (congrArg (fun l => l[1]?) h)
  have h2 : x.Degree = y.Degree := ci_inj (congrArg (fun l => l[2]?) h)
  have h3 : x.Group = y.Group := TGroup.cs_inj (congrArg (fun l => (l.drop 3).take 3) h)
  cases x; cases y; simp only at *; subst h0; subst h1; subst h2; subst h3; rfl
theorem TScheme.ws (l : List TScheme) : Ws 6 (l.map TScheme.cs) := ws_map l (fun _ => rfl) (fun _ => rfl)
structure TSubset where
  Node : Int
  Minus : Int
deriving DecidableEq, Inhabited
def TSubset.cs (x : TSubset)  : List Value := [.int .i64 x.Node, .int .i64 x.Minus]
theorem TSubset.cs_ones (x : TSubset)   : ones (TSubset.cs x ) = true := by simp only [TSubset.cs, List.cons_append, List.nil_append, kb, ones, one_int, one_bool, one_str, cond_true]
theorem TSubset.cs_inj {x y : TSubset} (h : TSubset.cs x = TSubset.cs y) : x = y := by
  have h0 : x.Node = y.Node := ci_inj (congrArg (fun l => l[0]?) h)
  have h1 : x.Minus = y.Minus := ci_inj (congrArg (fun l => l[1]?) h)
  cases x; cases y; simp only at *; subst h0; subst h1; rfl
theorem TSubset.ws (l : List TSubset) : Ws 2 (l.map TSubset.cs) := ws_map l (fun _ => rfl) (fun _ => rfl)
structure Tcover_tree where
  kind : BitVec 8
  depth : Int
  stride : Int
deriving DecidableEq, Inhabited
def Tcover_tree.cs (x : Tcover_tree)  : List Value := [bv x.kind, .int .i64 x.depth, .int .i64 x.stride]
theorem Tcover_tree.cs_ones (x : Tcover_tree)   : ones (Tcover_tree.cs x ) = true := by simp only [Tcover_tree.cs, List.cons_append, List.nil_append, kb, ones, one_int, one_bool, one_str, cond_true]
theorem Tcover_tree.cs_inj {x y : Tcover_tree} (h : Tcover_tree.cs x = Tcover_tree.cs y) : x = y := by
  have h0 : x.kind = y.kind := cb_inj (congrArg (fun l => l[0]?) h)
  have h1 : x.depth = y.depth := ci_inj (congrArg (fun l => l[1]?) h)
  have h2 : x.stride = y.stride := ci_inj (congrArg (fun l => l[2]?) h)
  cases x; cases y; simp only at *; subst h0; subst h1; subst h2; rfl
theorem Tcover_tree.ws (l : List Tcover_tree) : Ws 3 (l.map Tcover_tree.cs) := ws_map l (fun _ => rfl) (fun _ => rfl)
structure TA4_i64 where
  a0 : Int
  a1 : Int
  a2 : Int
  a3 : Int
deriving DecidableEq, Inhabited
def TA4_i64.cs (x : TA4_i64)  : List Value := [.int .i64 x.a0, .int .i64 x.a1, .int .i64 x.a2, .int .i64 x.a3]
theorem TA4_i64.cs_ones (x : TA4_i64)   : ones (TA4_i64.cs x ) = true := by simp only [TA4_i64.cs, List.cons_append, List.nil_append, kb, ones, one_int, one_bool, one_str, cond_true]
theorem TA4_i64.cs_inj {x y : TA4_i64} (h : TA4_i64.cs x = TA4_i64.cs y) : x = y := by
  have h0 : x.a0 = y.a0 := ci_inj (congrArg (fun l => l[0]?) h)
  have h1 : x.a1 = y.a1 := ci_inj (congrArg (fun l => l[1]?) h)
  have h2 : x.a2 = y.a2 := ci_inj (congrArg (fun l => l[2]?) h)
  have h3 : x.a3 = y.a3 := ci_inj (congrArg (fun l => l[3]?) h)
  cases x; cases y; simp only at *; subst h0; subst h1; subst h2; subst h3; rfl
theorem TA4_i64.ws (l : List TA4_i64) : Ws 4 (l.map TA4_i64.cs) := ws_map l (fun _ => rfl) (fun _ => rfl)
structure TA4_slice where
  a0 : List Int
  a1 : List Int
  a2 : List Int
  a3 : List Int
deriving DecidableEq, Inhabited
def TA4_slice.cs (x : TA4_slice) (v0 : Value) (v1 : Value) (v2 : Value) (v3 : Value) : List Value := [v0, v1, v2, v3]
theorem TA4_slice.cs_ones (x : TA4_slice) (v0 : Value) (v1 : Value) (v2 : Value) (v3 : Value) (h0 : oneB v0 = true) (h1 : oneB v1 = true) (h2 : oneB v2 = true) (h3 : oneB v3 = true) : ones (TA4_slice.cs x v0 v1 v2 v3) = true := by simp only [TA4_slice.cs, List.cons_append, List.nil_append, kb, ones, one_int, one_bool, one_str, cond_true, h0, h1, h2, h3]
structure Tplan_tables where
  s : TScheme
  stride : Int
  rows : TA4_slice
  states : Int
deriving DecidableEq, Inhabited
def Tplan_tables.cs (x : Tplan_tables) (v0 : Value) (v1 : Value) (v2 : Value) (v3 : Value) : List Value := [bv x.s.Kind, .int .i64 x.s.Depth, .int .i64 x.s.Degree, wv x.s.Group.P, wv x.s.Group.Q, wv x.s.Group.G, .int .i64 x.stride, v0, v1, v2, v3, .int .i64 x.states]
theorem Tplan_tables.cs_ones (x : Tplan_tables) (v0 : Value) (v1 : Value) (v2 : Value) (v3 : Value) (h0 : oneB v0 = true) (h1 : oneB v1 = true) (h2 : oneB v2 = true) (h3 : oneB v3 = true) : ones (Tplan_tables.cs x v0 v1 v2 v3) = true := by simp only [Tplan_tables.cs, List.cons_append, List.nil_append, kb, ones, one_int, one_bool, one_str, cond_true, h0, h1, h2, h3]
def cover_treeOf_L2 (p0 : TScheme) (rec2 : (Int) → Option (Tcover_tree × Bool)) (a3 : Int) : Option (Tcover_tree × Bool) := (if w64 (a3 * a3) < p0.Depth then (rec2 (w64 (a3 + 1))) else (some ((Tcover_tree.mk p0.Kind p0.Depth a3), true)))
def cover_treeOf_J1 (p0 : TScheme) (a1 : Bool) : Option (Tcover_tree × Bool) := (bif a1 then (some ((Tcover_tree.mk 0#8 0 0), false)) else (fixN (cover_treeOf_L2 p0) FUEL 1))
/-- headend/cover.treeOf -/
def cover_treeOf (p0 : TScheme) : Option (Tcover_tree × Bool) := (if p0.Kind < 1#8 then (cover_treeOf_J1 p0 true) else (if 3#8 < p0.Kind then (cover_treeOf_J1 p0 true) else (if p0.Depth < 0 then (cover_treeOf_J1 p0 true) else (if (6 : Int) < p0.Depth then (cover_treeOf_J1 p0 true) else (cover_treeOf_J1 p0 (decide (p0 ≠ (TScheme.mk p0.Kind p0.Depth 0 (TGroup.mk 0#64 0#64 0#64)))))))))
/-- headend/cover.Check -/
def cover_Check (p0 : TScheme) : Option (Int) := Option.bind (cover_treeOf p0) fun x1 => ((bif (!x1.2) then (some 30) else (some 0)))
def plan_stride_L1 (p0 : Int) (rec1 : (Int) → Option (Int)) (a2 : Int) : Option (Int) := (if w64 (a2 * a2) < p0 then (rec1 (w64 (a2 + 1))) else (some a2))
/-- headend/plan.stride -/
def plan_stride (p0 : Int) : Option (Int) := (fixN (plan_stride_L1 p0) FUEL 1)
/-- headend/plan.width -/
def plan_width (p0 : Int) : Option (Int) := Option.bind (shG p0) fun nn1 => ((some (w64 ((shlI 1 nn1) + 1))))
/-- (*headend/plan.tables).more -/
def plan_tables_more (p0 : Tplan_tables) (p1 : Int) : Option (Int) := (if p1 = 0 then (some 0) else (if p1 = 3 then (some 2) else (some 1)))
/-- headend/plan.splits -/
def plan_splits (p0 : Int) (p1 : Int) : Option (Int × Int) := (some (p0, p1))
def plan_splits_1_L1 (p2 : Int) (nn1 : Nat) (rec1 : (Int) → Option (List Int)) (a3 : Int) : Option (List Int) := (if a3 ≤ mnI p2 (shlI 1 nn1) then (yl a3 ((rec1 (w64 (a3 + 1))))) else (some []))
/-- headend/plan.splits$1: what it yields -/
def plan_splits_1 (p1 : Int) (p2 : Int) : Option (List Int) := Option.bind (shG (w64 (p1 - 1))) fun nn1 => ((fixN (plan_splits_1_L1 p2 nn1) FUEL (mxI 0 (w64 (p2 - (shlI 1 nn1))))))
/-- (*headend/plan.tables).at -/
def plan_tables_at (p0 : Tplan_tables) (p1 : Int) (p2 : Int) : Option (List Int) := Option.bind (shG p2) fun nn1 => (Option.bind (plan_width p2) fun x2 => ((if p1 = 0 then Option.bind (sliG p0.rows.a0 (w64 ((w64 ((shlI 1 nn1) - 1)) + p2)) (w64 ((w64 ((w64 ((shlI 1 nn1) - 1)) + p2)) + x2))) fun l3 => ((some l3)) else (if p1 = 1 then Option.bind (sliG p0.rows.a1 (w64 ((w64 ((shlI 1 nn1) - 1)) + p2)) (w64 ((w64 ((w64 ((shlI 1 nn1) - 1)) + p2)) + x2))) fun l4 => ((some l4)) else (if p1 = 2 then Option.bind (sliG p0.rows.a2 (w64 ((w64 ((shlI 1 nn1) - 1)) + p2)) (w64 ((w64 ((w64 ((shlI 1 nn1) - 1)) + p2)) + x2))) fun l5 => ((some l5)) else (if p1 = 3 then Option.bind (sliG p0.rows.a3 (w64 ((w64 ((shlI 1 nn1) - 1)) + p2)) (w64 ((w64 ((w64 ((shlI 1 nn1) - 1)) + p2)) + x2))) fun l6 => ((some l6)) else none))))))
def plan_tables_below_J2 (p1 : Int) (a3 : Bool) : Option (Int) := (bif a3 then (some 3) else (if p1 = 0 then (some 2) else (some p1)))
def plan_tables_below_J1 (p1 : Int) (x1 : Int) (a2 : Bool) : Option (Int) := (bif a2 then (some 1) else (if p1 = 2 then (plan_tables_below_J2 p1 (decide (x1 = 0))) else (plan_tables_below_J2 p1 false)))
/-- (*headend/plan.tables).below -/
def plan_tables_below (p0 : Tplan_tables) (p1 : Int) (p2 : Int) : Option (Int) := (if p0.s.Kind = 2#8 then (some 1) else Option.bind (remI (w64 (p0.s.Depth - p2)) p0.stride) fun x1 => ((if p1 = 0 then (plan_tables_below_J1 p1 x1 (decide (x1 = 0))) else (plan_tables_below_J1 p1 x1 false))))
def plan_tables_value_J1 (p0 : Tplan_tables) (p1 : Int) (p2 : Int) (p3 : Int) (p4 : Int) (x1 : List Int) (a4 : Bool) : Option (Int) := (bif a4 then Option.bind (getI x1 p4) fun y5 => (Option.bind (getI x1 (w64 (p3 - p4))) fun y6 => (Option.bind (plan_tables_more p0 p1) fun x7 => ((some (w64 ((w64 (y5 + y6)) + x7)))))) else Option.bind (plan_tables_below p0 p1 p2) fun x8 => (Option.bind (plan_tables_at p0 x8 (w64 (p2 - 1))) fun x9 => (Option.bind (getI x9 p3) fun y10 => ((some y10)))))
/-- (*headend/plan.tables).value -/
def plan_tables_value (p0 : Tplan_tables) (p1 : Int) (p2 : Int) (p3 : Int) (p4 : Int) : Option (Int) := Option.bind (plan_tables_at p0 0 (w64 (p2 - 1))) fun x1 => ((if p0.s.Kind = 1#8 then Option.bind (getI x1 p4) fun y2 => (Option.bind (getI x1 (w64 (p3 - p4))) fun y3 => ((some (w64 (y2 + y3))))) else (if (0 : Int) < p4 then (plan_tables_value_J1 p0 p1 p2 p3 p4 x1 (decide (p4 < p3))) else (plan_tables_value_J1 p0 p1 p2 p3 p4 x1 false))))
/-- (*headend/plan.tables).best$1 -/
def plan_tables_best_1 (p0 : Int) (p1_p : Tplan_tables) (p2 : Int) (p3 : Int) (p4 : Int) : Option (Int) := Option.bind (plan_tables_value p1_p p2 p3 p4 p0) fun x1 => ((some x1))
def plan_greatest_cbc1_plan_splits_1_plan_tables_best_1_J2 (a5 : Int) (a6 : Int) (a7 : Bool) (nx1 : (Int × Int × Bool) → Option (Int × Int)) (e8 : Int) (x9 : Int) (a10 : Bool) : Option (Int × Int) := (bif a10 then (nx1 (x9, e8, false)) else (nx1 (a5, a6, a7)))
def plan_greatest_cbc1_plan_splits_1_plan_tables_best_1_D1  (s : Int × Int × Bool) : Option (Int × Int) := match s with | (a5, a6, a7) => (some (a5, a6))
def plan_greatest_cbc1_plan_splits_1_plan_tables_best_1_R1 (p1_0_p : Tplan_tables) (p1_1 : Int) (p1_2 : Int) (p1_3 : Int) (e8 : Int) (nx1 : (Int × Int × Bool) → Option (Int × Int)) (s : Int × Int × Bool) : Option (Int × Int) := match s with | (a5, a6, a7) => Option.bind (plan_tables_best_1 e8 p1_0_p p1_1 p1_2 p1_3) fun x9 => ((bif a7 then (plan_greatest_cbc1_plan_splits_1_plan_tables_best_1_J2 a5 a6 a7 nx1 e8 x9 true) else (plan_greatest_cbc1_plan_splits_1_plan_tables_best_1_J2 a5 a6 a7 nx1 e8 x9 (decide (a5 < x9)))))
/-- headend/plan.greatest[int] -/
def plan_greatest_cbc1_plan_splits_1_plan_tables_best_1 (p0_0 : Int) (p0_1 : Int) (p1_0_p : Tplan_tables) (p1_1 : Int) (p1_2 : Int) (p1_3 : Int) : Option (Int × Int) := Option.bind (plan_splits_1 p0_0 p0_1) fun l1 => ((itL (plan_greatest_cbc1_plan_splits_1_plan_tables_best_1_R1 p1_0_p p1_1 p1_2 p1_3) plan_greatest_cbc1_plan_splits_1_plan_tables_best_1_D1 l1 (0, 0, true)))
/-- (*headend/plan.tables).best -/
def plan_tables_best (p0 : Tplan_tables) (p1 : Int) (p2 : Int) (p3 : Int) : Option (Int × Int) := Option.bind (plan_splits p2 p3) fun x1 => (Option.bind (plan_greatest_cbc1_plan_splits_1_plan_tables_best_1 x1.1 x1.2 p0 p1 p2 p3) fun x2 => ((some (x2.1, x2.2))))
def plan_newTables_J6 (p0 : TScheme) (y1 : Int) (x2 : Int) (a35 : Int) (a56 : Int) (a58 : List Int) (a59 : List Int) (a60 : List Int) (nn65 : Nat) (nn67 : Nat) (a71 : Int) (a72 : List Int) (rec4 : (Int × List Int) → Option (Tplan_tables)) (a77 : Bool) : Option (Tplan_tables) := (bif a77 then Option.bind (ixG (w64 ((w64 ((shlI 1 nn65) - 1)) + a35)) nn67 a71) fun j78 => (Option.bind (getI a72 j78) fun y79 => ((rec4 (w64 (a71 + 1), a72.set j78.toNat 0)))) else (if a35 = 0 then Option.bind (plan_tables_more (Tplan_tables.mk p0 x2 (TA4_slice.mk a72 a58 a59 a60) y1) a56) fun x80 => (Option.bind (ixG (w64 ((w64 ((shlI 1 nn65) - 1)) + a35)) nn67 a71) fun j81 => (Option.bind (getI a72 j81) fun y82 => ((rec4 (w64 (a71 + 1), a72.set j81.toNat x80))))) else Option.bind (plan_tables_best (Tplan_tables.mk p0 x2 (TA4_slice.mk a72 a58 a59 a60) y1) a56 a35 a71) fun x83 => (Option.bind (ixG (w64 ((w64 ((shlI 1 nn65) - 1)) + a35)) nn67 a71) fun j84 => (Option.bind (getI a72 j84) fun y85 => ((rec4 (w64 (a71 + 1), a72.set j84.toNat x83.1)))))))
def plan_newTables_J5 (p0 : TScheme) (y1 : Int) (x2 : Int) (a35 : Int) (a56 : Int) (a58 : List Int) (a59 : List Int) (a60 : List Int) (nn65 : Nat) (nn67 : Nat) (a71 : Int) (a72 : List Int) (rec4 : (Int × List Int) → Option (Tplan_tables)) (a74 : Bool) : Option (Tplan_tables) := (bif a74 then Option.bind (ixG (w64 ((w64 ((shlI 1 nn65) - 1)) + a35)) nn67 a71) fun j75 => (Option.bind (getI a72 j75) fun y76 => ((rec4 (w64 (a71 + 1), a72.set j75.toNat 1)))) else (if a71 = 0 then (plan_newTables_J6 p0 y1 x2 a35 a56 a58 a59 a60 nn65 nn67 a71 a72 rec4 true) else (if p0.Kind = 1#8 then (plan_newTables_J6 p0 y1 x2 a35 a56 a58 a59 a60 nn65 nn67 a71 a72 rec4 (decide (a35 = 0))) else (plan_newTables_J6 p0 y1 x2 a35 a56 a58 a59 a60 nn65 nn67 a71 a72 rec4 false))))
def plan_newTables_L4 (p0 : TScheme) (y1 : Int) (x2 : Int) (a35 : Int) (a56 : Int) (a58 : List Int) (a59 : List Int) (a60 : List Int) (rec3 : (Int × List Int × List Int × List Int × List Int) → Option (Tplan_tables)) (nn65 : Nat) (nn67 : Nat) (rec4 : (Int × List Int) → Option (Tplan_tables)) (s4 : Int × List Int) : Option (Tplan_tables) := match s4 with | (a71, a72) => (if a71 < (nn67 : Int) then (if p0.Kind = 1#8 then (plan_newTables_J5 p0 y1 x2 a35 a56 a58 a59 a60 nn65 nn67 a71 a72 rec4 (decide (a71 = 0))) else (plan_newTables_J5 p0 y1 x2 a35 a56 a58 a59 a60 nn65 nn67 a71 a72 rec4 false)) else (rec3 (w64 (a56 + 1), a72, a58, a59, a60)))
def plan_newTables_J9 (p0 : TScheme) (y1 : Int) (x2 : Int) (a35 : Int) (a56 : Int) (a57 : List Int) (a59 : List Int) (a60 : List Int) (nn65 : Nat) (nn86 : Nat) (a90 : Int) (a91 : List Int) (rec7 : (Int × List Int) → Option (Tplan_tables)) (a96 : Bool) : Option (Tplan_tables) := (bif a96 then Option.bind (ixG (w64 ((w64 ((shlI 1 nn65) - 1)) + a35)) nn86 a90) fun j97 => (Option.bind (getI a91 j97) fun y98 => ((rec7 (w64 (a90 + 1), a91.set j97.toNat 0)))) else (if a35 = 0 then Option.bind (plan_tables_more (Tplan_tables.mk p0 x2 (TA4_slice.mk a57 a91 a59 a60) y1) a56) fun x99 => (Option.bind (ixG (w64 ((w64 ((shlI 1 nn65) - 1)) + a35)) nn86 a90) fun j100 => (Option.bind (getI a91 j100) fun y101 => ((rec7 (w64 (a90 + 1), a91.set j100.toNat x99))))) else Option.bind (plan_tables_best (Tplan_tables.mk p0 x2 (TA4_slice.mk a57 a91 a59 a60) y1) a56 a35 a90) fun x102 => (Option.bind (ixG (w64 ((w64 ((shlI 1 nn65) - 1)) + a35)) nn86 a90) fun j103 => (Option.bind (getI a91 j103) fun y104 => ((rec7 (w64 (a90 + 1), a91.set j103.toNat x102.1)))))))
def plan_newTables_J8 (p0 : TScheme) (y1 : Int) (x2 : Int) (a35 : Int) (a56 : Int) (a57 : List Int) (a59 : List Int) (a60 : List Int) (nn65 : Nat) (nn86 : Nat) (a90 : Int) (a91 : List Int) (rec7 : (Int × List Int) → Option (Tplan_tables)) (a93 : Bool) : Option (Tplan_tables) := (bif a93 then Option.bind (ixG (w64 ((w64 ((shlI 1 nn65) - 1)) + a35)) nn86 a90) fun j94 => (Option.bind (getI a91 j94) fun y95 => ((rec7 (w64 (a90 + 1), a91.set j94.toNat 1)))) else (if a90 = 0 then (plan_newTables_J9 p0 y1 x2 a35 a56 a57 a59 a60 nn65 nn86 a90 a91 rec7 true) else (if p0.Kind = 1#8 then (plan_newTables_J9 p0 y1 x2 a35 a56 a57 a59 a60 nn65 nn86 a90 a91 rec7 (decide (a35 = 0))) else (plan_newTables_J9 p0 y1 x2 a35 a56 a57 a59 a60 nn65 nn86 a90 a91 rec7 false))))
def plan_newTables_L7 (p0 : TScheme) (y1 : Int) (x2 : Int) (a35 : Int) (a56 : Int) (a57 : List Int) (a59 : List Int) (a60 : List Int) (rec3 : (Int × List Int × List Int × List Int × List Int) → Option (Tplan_tables)) (nn65 : Nat) (nn86 : Nat) (rec7 : (Int × List Int) → Option (Tplan_tables)) (s7 : Int × List Int) : Option (Tplan_tables) := match s7 with | (a90, a91) => (if a90 < (nn86 : Int) then (if p0.Kind = 1#8 then (plan_newTables_J8 p0 y1 x2 a35 a56 a57 a59 a60 nn65 nn86 a90 a91 rec7 (decide (a90 = 0))) else (plan_newTables_J8 p0 y1 x2 a35 a56 a57 a59 a60 nn65 nn86 a90 a91 rec7 false)) else (rec3 (w64 (a56 + 1), a57, a91, a59, a60)))
def plan_newTables_J12 (p0 : TScheme) (y1 : Int) (x2 : Int) (a35 : Int) (a56 : Int) (a57 : List Int) (a58 : List Int) (a60 : List Int) (nn65 : Nat) (nn105 : Nat) (a109 : Int) (a110 : List Int) (rec10 : (Int × List Int) → Option (Tplan_tables)) (a115 : Bool) : Option (Tplan_tables) := (bif a115 then Option.bind (ixG (w64 ((w64 ((shlI 1 nn65) - 1)) + a35)) nn105 a109) fun j116 => (Option.bind (getI a110 j116) fun y117 => ((rec10 (w64 (a109 + 1), a110.set j116.toNat 0)))) else (if a35 = 0 then Option.bind (plan_tables_more (Tplan_tables.mk p0 x2 (TA4_slice.mk a57 a58 a110 a60) y1) a56) fun x118 => (Option.bind (ixG (w64 ((w64 ((shlI 1 nn65) - 1)) + a35)) nn105 a109) fun j119 => (Option.bind (getI a110 j119) fun y120 => ((rec10 (w64 (a109 + 1), a110.set j119.toNat x118))))) else Option.bind (plan_tables_best (Tplan_tables.mk p0 x2 (TA4_slice.mk a57 a58 a110 a60) y1) a56 a35 a109) fun x121 => (Option.bind (ixG (w64 ((w64 ((shlI 1 nn65) - 1)) + a35)) nn105 a109) fun j122 => (Option.bind (getI a110 j122) fun y123 => ((rec10 (w64 (a109 + 1), a110.set j122.toNat x121.1)))))))
def plan_newTables_J11 (p0 : TScheme) (y1 : Int) (x2 : Int) (a35 : Int) (a56 : Int) (a57 : List Int) (a58 : List Int) (a60 : List Int) (nn65 : Nat) (nn105 : Nat) (a109 : Int) (a110 : List Int) (rec10 : (Int × List Int) → Option (Tplan_tables)) (a112 : Bool) : Option (Tplan_tables) := (bif a112 then Option.bind (ixG (w64 ((w64 ((shlI 1 nn65) - 1)) + a35)) nn105 a109) fun j113 => (Option.bind (getI a110 j113) fun y114 => ((rec10 (w64 (a109 + 1), a110.set j113.toNat 1)))) else (if a109 = 0 then (plan_newTables_J12 p0 y1 x2 a35 a56 a57 a58 a60 nn65 nn105 a109 a110 rec10 true) else (if p0.Kind = 1#8 then (plan_newTables_J12 p0 y1 x2 a35 a56 a57 a58 a60 nn65 nn105 a109 a110 rec10 (decide (a35 = 0))) else (plan_newTables_J12 p0 y1 x2 a35 a56 a57 a58 a60 nn65 nn105 a109 a110 rec10 false))))
def plan_newTables_L10 (p0 : TScheme) (y1 : Int) (x2 : Int) (a35 : Int) (a56 : Int) (a57 : List Int) (a58 : List Int) (a60 : List Int) (rec3 : (Int × List Int × List Int × List Int × List Int) → Option (Tplan_tables)) (nn65 : Nat) (nn105 : Nat) (rec10 : (Int × List Int) → Option (Tplan_tables)) (s10 : Int × List Int) : Option (Tplan_tables) := match s10 with | (a109, a110) => (if a109 < (nn105 : Int) then (if p0.Kind = 1#8 then (plan_newTables_J11 p0 y1 x2 a35 a56 a57 a58 a60 nn65 nn105 a109 a110 rec10 (decide (a109 = 0))) else (plan_newTables_J11 p0 y1 x2 a35 a56 a57 a58 a60 nn65 nn105 a109 a110 rec10 false)) else (rec3 (w64 (a56 + 1), a57, a58, a110, a60)))
def plan_newTables_J15 (p0 : TScheme) (y1 : Int) (x2 : Int) (a35 : Int) (a56 : Int) (a57 : List Int) (a58 : List Int) (a59 : List Int) (nn65 : Nat) (nn124 : Nat) (a128 : Int) (a129 : List Int) (rec13 : (Int × List Int) → Option (Tplan_tables)) (a134 : Bool) : Option (Tplan_tables) := (bif a134 then Option.bind (ixG (w64 ((w64 ((shlI 1 nn65) - 1)) + a35)) nn124 a128) fun j135 => (Option.bind (getI a129 j135) fun y136 => ((rec13 (w64 (a128 + 1), a129.set j135.toNat 0)))) else (if a35 = 0 then Option.bind (plan_tables_more (Tplan_tables.mk p0 x2 (TA4_slice.mk a57 a58 a59 a129) y1) a56) fun x137 => (Option.bind (ixG (w64 ((w64 ((shlI 1 nn65) - 1)) + a35)) nn124 a128) fun j138 => (Option.bind (getI a129 j138) fun y139 => ((rec13 (w64 (a128 + 1), a129.set j138.toNat x137))))) else Option.bind (plan_tables_best (Tplan_tables.mk p0 x2 (TA4_slice.mk a57 a58 a59 a129) y1) a56 a35 a128) fun x140 => (Option.bind (ixG (w64 ((w64 ((shlI 1 nn65) - 1)) + a35)) nn124 a128) fun j141 => (Option.bind (getI a129 j141) fun y142 => ((rec13 (w64 (a128 + 1), a129.set j141.toNat x140.1)))))))
def plan_newTables_J14 (p0 : TScheme) (y1 : Int) (x2 : Int) (a35 : Int) (a56 : Int) (a57 : List Int) (a58 : List Int) (a59 : List Int) (nn65 : Nat) (nn124 : Nat) (a128 : Int) (a129 : List Int) (rec13 : (Int × List Int) → Option (Tplan_tables)) (a131 : Bool) : Option (Tplan_tables) := (bif a131 then Option.bind (ixG (w64 ((w64 ((shlI 1 nn65) - 1)) + a35)) nn124 a128) fun j132 => (Option.bind (getI a129 j132) fun y133 => ((rec13 (w64 (a128 + 1), a129.set j132.toNat 1)))) else (if a128 = 0 then (plan_newTables_J15 p0 y1 x2 a35 a56 a57 a58 a59 nn65 nn124 a128 a129 rec13 true) else (if p0.Kind = 1#8 then (plan_newTables_J15 p0 y1 x2 a35 a56 a57 a58 a59 nn65 nn124 a128 a129 rec13 (decide (a35 = 0))) else (plan_newTables_J15 p0 y1 x2 a35 a56 a57 a58 a59 nn65 nn124 a128 a129 rec13 false))))
def plan_newTables_L13 (p0 : TScheme) (y1 : Int) (x2 : Int) (a35 : Int) (a56 : Int) (a57 : List Int) (a58 : List Int) (a59 : List Int) (rec3 : (Int × List Int × List Int × List Int × List Int) → Option (Tplan_tables)) (nn65 : Nat) (nn124 : Nat) (rec13 : (Int × List Int) → Option (Tplan_tables)) (s13 : Int × List Int) : Option (Tplan_tables) := match s13 with | (a128, a129) => (if a128 < (nn124 : Int) then (if p0.Kind = 1#8 then (plan_newTables_J14 p0 y1 x2 a35 a56 a57 a58 a59 nn65 nn124 a128 a129 rec13 (decide (a128 = 0))) else (plan_newTables_J14 p0 y1 x2 a35 a56 a57 a58 a59 nn65 nn124 a128 a129 rec13 false)) else (rec3 (w64 (a56 + 1), a57, a58, a59, a129)))
def plan_newTables_L3 (p0 : TScheme) (y1 : Int) (x2 : Int) (a35 : Int) (rec2 : (Int × List Int × List Int × List Int × List Int) → Option (Tplan_tables)) (rec3 : (Int × List Int × List Int × List Int × List Int) → Option (Tplan_tables)) (s3 : Int × List Int × List Int × List Int × List Int) : Option (Tplan_tables) := match s3 with | (a56, a57, a58, a59, a60) => (if a56 < y1 then Option.bind (shG a35) fun nn65 => (Option.bind (plan_width a35) fun x66 => ((if a56 = 0 then Option.bind (viewG a57 (w64 ((w64 ((shlI 1 nn65) - 1)) + a35)) (w64 ((w64 ((w64 ((shlI 1 nn65) - 1)) + a35)) + x66))) fun nn67 => ((fixN (plan_newTables_L4 p0 y1 x2 a35 a56 a58 a59 a60 rec3 nn65 nn67) FUEL (0, a57))) else (if a56 = 1 then Option.bind (viewG a58 (w64 ((w64 ((shlI 1 nn65) - 1)) + a35)) (w64 ((w64 ((w64 ((shlI 1 nn65) - 1)) + a35)) + x66))) fun nn86 => ((fixN (plan_newTables_L7 p0 y1 x2 a35 a56 a57 a59 a60 rec3 nn65 nn86) FUEL (0, a58))) else (if a56 = 2 then Option.bind (viewG a59 (w64 ((w64 ((shlI 1 nn65) - 1)) + a35)) (w64 ((w64 ((w64 ((shlI 1 nn65) - 1)) + a35)) + x66))) fun nn105 => ((fixN (plan_newTables_L10 p0 y1 x2 a35 a56 a57 a58 a60 rec3 nn65 nn105) FUEL (0, a59))) else (if a56 = 3 then Option.bind (viewG a60 (w64 ((w64 ((shlI 1 nn65) - 1)) + a35)) (w64 ((w64 ((w64 ((shlI 1 nn65) - 1)) + a35)) + x66))) fun nn124 => ((fixN (plan_newTables_L13 p0 y1 x2 a35 a56 a57 a58 a59 rec3 nn65 nn124) FUEL (0, a60))) else none)))))) else (rec2 (w64 (a35 + 1), a57, a58, a59, a60)))
def plan_newTables_L2 (p0 : TScheme) (y1 : Int) (x2 : Int) (rec2 : (Int × List Int × List Int × List Int × List Int) → Option (Tplan_tables)) (s2 : Int × List Int × List Int × List Int × List Int) : Option (Tplan_tables) := match s2 with | (a35, a36, a37, a38, a39) => (if a35 < w64 (p0.Depth + 1) then (fixN (plan_newTables_L3 p0 y1 x2 a35 rec2) FUEL (0, a36, a37, a38, a39)) else (some (Tplan_tables.mk p0 x2 (TA4_slice.mk a36 a37 a38 a39) y1)))
def plan_newTables_L1 (p0 : TScheme) (y1 : Int) (x2 : Int) (nn3 : Nat) (rec1 : (Int × List Int × List Int × List Int × List Int) → Option (Tplan_tables)) (s1 : Int × List Int × List Int × List Int × List Int) : Option (Tplan_tables) := match s1 with | (a16, a17, a18, a19, a20) => (if a16 < y1 then Option.bind (mkL 8 (w64 ((w64 ((w64 ((shlI 1 nn3) - 1)) + p0.Depth)) + 1)) 0) fun l25 => ((if a16 = 0 then (rec1 (w64 (a16 + 1), l25, a18, a19, a20)) else (if a16 = 1 then (rec1 (w64 (a16 + 1), a17, l25, a19, a20)) else (if a16 = 2 then (rec1 (w64 (a16 + 1), a17, a18, l25, a20)) else (if a16 = 3 then (rec1 (w64 (a16 + 1), a17, a18, a19, l25)) else none))))) else (fixN (plan_newTables_L2 p0 y1 x2) FUEL (0, a17, a18, a19, a20)))
/-- headend/plan.newTables -/
def plan_newTables (p0 : TScheme) : Option (Tplan_tables) := Option.bind (getI ([0, 1, 2, 4] : List Int) (un8 p0.Kind)) fun y1 => (Option.bind (plan_stride p0.Depth) fun x2 => (Option.bind (shG (w64 (p0.Depth + 1))) fun nn3 => ((fixN (plan_newTables_L1 p0 y1 x2 nn3) FUEL (0, [], [], [], [])))))
end Go.Sx

end
section
set_option linter.unusedVariables false
set_option maxRecDepth 100000
namespace Go.Sx
open Go Go.RowKit
/-- headend/plan.upTo -/
def plan_upTo (p0 : Int) : Option (Int) := (some p0)
def plan_upTo_1_L1 (p1 : Int) (rec1 : (Int) → Option (List Int)) (a2 : Int) : Option (List Int) := (if a2 ≤ p1 then (yl a2 ((rec1 (w64 (a2 + 1))))) else (some []))
/-- headend/plan.upTo$1: what it yields -/
def plan_upTo_1 (p1 : Int) : Option (List Int) := (fixN (plan_upTo_1_L1 p1) FUEL 0)
/-- (*headend/plan.tables).count -/
def plan_tables_count (p0 : Tplan_tables) (p1 : Int) : Option (Int) := (if p1 = 0 then (some 1) else Option.bind (plan_tables_at p0 0 p0.s.Depth) fun x1 => (Option.bind (getI x1 p1) fun y2 => ((some y2))))
def plan_greatest_cbc1_plan_upTo_1_plan_tables_count_J2 (a5 : Int) (a6 : Int) (a7 : Bool) (nx1 : (Int × Int × Bool) → Option (Int × Int)) (e8 : Int) (x9 : Int) (a10 : Bool) : Option (Int × Int) := (bif a10 then (nx1 (x9, e8, false)) else (nx1 (a5, a6, a7)))
def plan_greatest_cbc1_plan_upTo_1_plan_tables_count_D1  (s : Int × Int × Bool) : Option (Int × Int) := match s with | (a5, a6, a7) => (some (a5, a6))
def plan_greatest_cbc1_plan_upTo_1_plan_tables_count_R1 (p1_0 : Tplan_tables) (e8 : Int) (nx1 : (Int × Int × Bool) → Option (Int × Int)) (s : Int × Int × Bool) : Option (Int × Int) := match s with | (a5, a6, a7) => Option.bind (plan_tables_count p1_0 e8) fun x9 => ((bif a7 then (plan_greatest_cbc1_plan_upTo_1_plan_tables_count_J2 a5 a6 a7 nx1 e8 x9 true) else (plan_greatest_cbc1_plan_upTo_1_plan_tables_count_J2 a5 a6 a7 nx1 e8 x9 (decide (a5 < x9)))))
/-- headend/plan.greatest[int] -/
def plan_greatest_cbc1_plan_upTo_1_plan_tables_count (p0_0 : Int) (p1_0 : Tplan_tables) : Option (Int × Int) := Option.bind (plan_upTo_1 p0_0) fun l1 => ((itL (plan_greatest_cbc1_plan_upTo_1_plan_tables_count_R1 p1_0) plan_greatest_cbc1_plan_upTo_1_plan_tables_count_D1 l1 (0, 0, true)))
/-- (*headend/plan.tables).worst -/
def plan_tables_worst (p0 : Tplan_tables) (p1 : Int) : Option (Int × Int) := Option.bind (plan_upTo p1) fun x1 => (Option.bind (plan_greatest_cbc1_plan_upTo_1_plan_tables_count x1 p0) fun x2 => ((some (x2.1, x2.2))))
def plan_Worst_J1 (p0 : TScheme) (p1 : Int) (a2 : Bool) : Option (Int × Int) := (bif a2 then (some (0, 2)) else Option.bind (plan_newTables p0) fun x3 => (Option.bind (plan_tables_worst x3 p1) fun x4 => ((some (x4.1, 0)))))
/-- headend/plan.Worst -/
def plan_Worst (p0 : TScheme) (p1 : Int) : Option (Int × Int) := Option.bind (cover_Check p0) fun x1 => ((if x1 ≠ 0 then (if x1 ≠ 0 then (some (0, x1)) else none) else (if p1 < 0 then (plan_Worst_J1 p0 p1 true) else Option.bind (shG p0.Depth) fun nn5 => ((plan_Worst_J1 p0 p1 (decide (shlI 1 nn5 < p1)))))))
def plan_tables_list_J1 (p0 : Tplan_tables) (p1 : List Int) (p2 : Int) (p4 : Int) (p5 : Int) (rec0 : (Tplan_tables × List Int × Int × Int × Int × Int) → Option (List Int)) (x3 : Int × Int) (a4 : Int) : Option (List Int) := Option.bind (rec0 (p0, p1, w64 (2 * p2), a4, w64 (p4 - 1), x3.2)) fun x5 => (Option.bind (rec0 (p0, x5, w64 ((w64 (2 * p2)) + 1), a4, w64 (p4 - 1), w64 (p5 - x3.2))) fun x6 => ((some x6)))
def plan_tables_list_J2 (p0 : Tplan_tables) (p1 : List Int) (p2 : Int) (p3 : Int) (p4 : Int) (p5 : Int) (rec0 : (Tplan_tables × List Int × Int × Int × Int × Int) → Option (List Int)) (x3 : Int × Int) (a7 : Bool) : Option (List Int) := (bif a7 then Option.bind (plan_tables_below p0 p3 p4) fun x8 => ((plan_tables_list_J1 p0 p1 p2 p4 p5 rec0 x3 x8)) else (plan_tables_list_J1 p0 p1 p2 p4 p5 rec0 x3 0))
def plan_tables_list_R (rec0 : ((Tplan_tables × List Int × Int × Int × Int × Int) → Option (List Int))) (p0 : Tplan_tables) (p1 : List Int) (p2 : Int) (p3 : Int) (p4 : Int) (p5 : Int) : Option (List Int) := (if p5 = 0 then (some p1) else (if p4 = 0 then Option.bind (shG p0.s.Depth) fun nn1 => (Option.bind (appG 8 p1 [w64 (p2 - (shlI 1 nn1))]) fun l2 => ((some l2))) else Option.bind (plan_tables_best p0 p3 p4 p5) fun x3 => ((if p0.s.Kind ≠ 1#8 then (if x3.2 = 0 then (plan_tables_list_J2 p0 p1 p2 p3 p4 p5 rec0 x3 true) else (plan_tables_list_J2 p0 p1 p2 p3 p4 p5 rec0 x3 (decide (x3.2 = p5)))) else (plan_tables_list_J2 p0 p1 p2 p3 p4 p5 rec0 x3 false)))))
def plan_tables_list_F (rec0 : ((Tplan_tables × List Int × Int × Int × Int × Int) → Option (List Int))) (s : Tplan_tables × List Int × Int × Int × Int × Int) : Option (List Int) := match s with | (p0, p1, p2, p3, p4, p5) => plan_tables_list_R rec0 p0 p1 p2 p3 p4 p5
/-- (*headend/plan.tables).list -/
def plan_tables_list (p0 : Tplan_tables) (p1 : List Int) (p2 : Int) (p3 : Int) (p4 : Int) (p5 : Int) : Option (List Int) := fixN plan_tables_list_F FUEL (p0, p1, p2, p3, p4, p5)
def plan_Witness_J1 (p0 : TScheme) (p1 : Int) (a2 : Bool) : Option (List Int × Int) := (bif a2 then (some ([], 2)) else Option.bind (plan_newTables p0) fun x3 => (Option.bind (plan_tables_worst x3 p1) fun x4 => (Option.bind (plan_tables_list x3 ([] : List Int) 1 0 p0.Depth x4.2) fun x5 => ((some (x5, 0))))))
/-- headend/plan.Witness -/
def plan_Witness (p0 : TScheme) (p1 : Int) : Option (List Int × Int) := Option.bind (cover_Check p0) fun x1 => ((if x1 ≠ 0 then (if x1 ≠ 0 then (some ([], x1)) else none) else (if p1 < 0 then (plan_Witness_J1 p0 p1 true) else Option.bind (shG p0.Depth) fun nn6 => ((plan_Witness_J1 p0 p1 (decide (shlI 1 nn6 < p1)))))))
end Go.Sx

end
section
set_option linter.unusedVariables false
set_option maxRecDepth 100000
namespace Go.Sx
open Go Go.RowKit
structure TNeed where
  Depth : Int
  Revoked : Int
  Storage : Int
  Headers : Int
  HeaderPrice : Int
  StoragePrice : Int
  Group : TGroup
deriving DecidableEq, Inhabited
def TNeed.cs (x : TNeed)  : List Value := [.int .i64 x.Depth, .int .i64 x.Revoked, .int .i64 x.Storage, .int .i64 x.Headers, .int .i64 x.HeaderPrice, .int .i64 x.StoragePrice, wv x.Group.P, wv x.Group.Q, wv x.Group.G]
theorem TNeed.cs_ones (x : TNeed)   : ones (TNeed.cs x ) = true := by simp only [TNeed.cs, List.cons_append, List.nil_append, kb, ones, one_int, one_bool, one_str, cond_true]
theorem TNeed.cs_inj {x y : TNeed} (h : TNeed.cs x = TNeed.cs y) : x = y := by
  have h0 : x.Depth = y.Depth := ci_inj (congrArg (fun l => l[0]?) h)
  have h1 : x.Revoked = y.Revoked := ci_inj (congrArg (fun l => l[1]?) h)
  have h2 : x.Storage = y.Storage := ci_inj (congrArg (fun l => l[2]?) h)
  have h3 : x.Headers = y.Headers := ci_inj (congrArg (fun l => l[3]?) h)
  have h4 : x.HeaderPrice = y.HeaderPrice := ci_inj (congrArg (fun l => l[4]?) h)
  have h5 : x.StoragePrice = y.StoragePrice := ci_inj (congrArg (fun l => l[5]?) h)
  have h6 : x.Group = y.Group := TGroup.cs_inj (congrArg (fun l => (l.drop 6).take 3) h)
  cases x; cases y; simp only at *; subst h0; subst h1; subst h2; subst h3; subst h4; subst h5; subst h6; rfl
theorem TNeed.ws (l : List TNeed) : Ws 9 (l.map TNeed.cs) := ws_map l (fun _ => rfl) (fun _ => rfl)
structure TChoice where
  Kind : BitVec 8
  Fits : Bool
  Items : Int
  Points : Int
  Header : Int
  Storage : Int
  Cost : Int
  Witness : List Int
deriving DecidableEq, Inhabited
def TChoice.cs (x : TChoice) (v0 : Value) : List Value := [bv x.Kind, .bool x.Fits, .int .i64 x.Items, .int .i64 x.Points, .int .i64 x.Header, .int .i64 x.Storage, .int .i64 x.Cost, v0]
theorem TChoice.cs_ones (x : TChoice) (v0 : Value) (h0 : oneB v0 = true) : ones (TChoice.cs x v0) = true := by simp only [TChoice.cs, List.cons_append, List.nil_append, kb, ones, one_int, one_bool, one_str, cond_true, h0]
structure TPlan where
  Choices : List TChoice
  Best : BitVec 8
deriving DecidableEq, Inhabited
def TPlan.cs (x : TPlan) (v0 : Value) : List Value := [v0, bv x.Best]
theorem TPlan.cs_ones (x : TPlan) (v0 : Value) (h0 : oneB v0 = true) : ones (TPlan.cs x v0) = true := by simp only [TPlan.cs, List.cons_append, List.nil_append, kb, ones, one_int, one_bool, one_str, cond_true, h0]
/-- headend/plan.within$1 -/
def plan_within_1 (p0 : Int) (p1 : Int) : Option (Bool) := (if p0 < 0 then (some true) else (some (decide (p1 < p0))))
def slices_IndexFunc_7bbb_plan_within_1_L1 (p0 : List Int) (p1_0 : Int) (rec1 : (Int) → Option (Int)) (a2 : Int) : Option (Int) := (if a2 < (p0.length : Int) then Option.bind (getI p0 a2) fun y3 => (Option.bind (plan_within_1 y3 p1_0) fun x4 => ((bif x4 then (some a2) else (rec1 (w64 (a2 + 1)))))) else (some (-1)))
/-- slices.IndexFunc[[]int,int] -/
def slices_IndexFunc_7bbb_plan_within_1 (p0 : List Int) (p1_0 : Int) : Option (Int) := (fixN (slices_IndexFunc_7bbb_plan_within_1_L1 p0 p1_0) FUEL 0)
/-- slices.ContainsFunc[[]int,int] -/
def slices_ContainsFunc_5954_plan_within_1 (p0 : List Int) (p1_0 : Int) : Option (Bool) := Option.bind (slices_IndexFunc_7bbb_plan_within_1 p0 p1_0) fun x1 => ((some (decide ((0 : Int) ≤ x1))))
/-- headend/plan.within -/
def plan_within (p0 : Int) (p1 : List Int) : Option (Bool) := Option.bind (slices_ContainsFunc_5954_plan_within_1 p1 p0) fun x1 => ((some (!x1)))
def plan_CheckNeed_J1 (a1 : Bool) : Option (Int) := (bif a1 then (some 2) else (some 0))
/-- headend/plan.CheckNeed -/
def plan_CheckNeed (p0 : TNeed) : Option (Int) := Option.bind (plan_within 6 [p0.Depth]) fun x2 => ((bif (!x2) then (plan_CheckNeed_J1 true) else Option.bind (shG p0.Depth) fun nn3 => (Option.bind (plan_within (shlI 1 nn3) [p0.Revoked]) fun x4 => ((bif (!x4) then (plan_CheckNeed_J1 true) else Option.bind (plan_within 10000 [p0.Storage]) fun x5 => ((bif (!x5) then (plan_CheckNeed_J1 true) else Option.bind (plan_within 1000 [p0.Headers, p0.HeaderPrice, p0.StoragePrice]) fun x6 => ((plan_CheckNeed_J1 (!x6))))))))))
def number_prime_L2 (p0 : BitVec 64) (rec2 : (BitVec 64) → Option (Bool)) (a3 : BitVec 64) : Option (Bool) := (if a3 * a3 ≤ p0 then Option.bind (remU p0 a3) fun x4 => ((if x4 = 0#64 then (some false) else (rec2 (a3 + 1#64)))) else (some true))
def number_prime_J1 (p0 : BitVec 64) (a1 : Bool) : Option (Bool) := (bif a1 then (some false) else (fixN (number_prime_L2 p0) FUEL 2#64))
/-- headend/number.prime -/
def number_prime (p0 : BitVec 64) : Option (Bool) := (if p0 < 2#64 then (number_prime_J1 p0 true) else (number_prime_J1 p0 (decide (1048575#64 < p0))))
def number_power_L1 (p2 : BitVec 64) (rec1 : (BitVec 64 × BitVec 64 × BitVec 64) → Option (BitVec 64)) (s1 : BitVec 64 × BitVec 64 × BitVec 64) : Option (BitVec 64) := match s1 with | (a6, a7, a8) => (if 0#64 < a7 then (if a7 &&& 1#64 = 1#64 then Option.bind (remU (a8 * a6) p2) fun x9 => (Option.bind (remU (a6 * a6) p2) fun x10 => (Option.bind (shG (un 1#64)) fun nn11 => ((rec1 (x10, a7 >>> nn11, x9))))) else Option.bind (remU (a6 * a6) p2) fun x12 => (Option.bind (shG (un 1#64)) fun nn13 => ((rec1 (x12, a7 >>> nn13, a8))))) else (some a8))
/-- headend/number.power -/
def number_power (p0 : BitVec 64) (p1 : BitVec 64) (p2 : BitVec 64) : Option (BitVec 64) := Option.bind (remU 1#64 p2) fun x1 => (Option.bind (remU p0 p2) fun x2 => ((fixN (number_power_L1 p2) FUEL (x2, p1, x1))))
def number_CheckGroup_J1 (a1 : Bool) : Option (Int) := (bif a1 then (some 13) else (some 0))
/-- headend/number.CheckGroup -/
def number_CheckGroup (p0 : TGroup) : Option (Int) := Option.bind (number_prime p0.P) fun x2 => ((bif (!x2) then (number_CheckGroup_J1 true) else Option.bind (number_prime p0.Q) fun x3 => ((bif (!x3) then (number_CheckGroup_J1 true) else Option.bind (remU (p0.P - 1#64) p0.Q) fun x4 => ((if x4 ≠ 0#64 then (number_CheckGroup_J1 true) else (if p0.G < 2#64 then (number_CheckGroup_J1 true) else (if p0.P ≤ p0.G then (number_CheckGroup_J1 true) else Option.bind (number_power p0.G p0.Q p0.P) fun x5 => ((number_CheckGroup_J1 (decide (x5 ≠ 1#64))))))))))))
/-- headend/poly.valid -/
def poly_valid (p0 : TScheme) : Option (Bool) := (if p0.Kind = 4#8 then (if (0 : Int) ≤ p0.Depth then (if p0.Depth ≤ 6 then (if (1 : Int) ≤ p0.Degree then (if p0.Degree ≤ 8 then Option.bind (number_CheckGroup p0.Group) fun x1 => ((if x1 = 0 then Option.bind (shG p0.Depth) fun nn2 => ((some (decide (wd (w64 ((shlI 1 nn2) + p0.Degree)) < p0.Group.Q)))) else (some false))) else (some false)) else (some false)) else (some false)) else (some false)) else (some false))
/-- headend/poly.Check -/
def poly_Check (p0 : TScheme) : Option (Int) := Option.bind (poly_valid p0) fun x1 => ((bif (!x1) then (some 30) else (some 0)))
/-- (headend/cover.tree).size -/
def cover_tree_size (p0 : Tcover_tree) : Option (Int) := Option.bind (shG p0.depth) fun nn1 => ((some (shlI 1 nn1)))
/-- (headend/cover.tree).has -/
def cover_tree_has (p0 : Tcover_tree) (p1 : Int) : Option (Bool) := (if (1 : Int) ≤ p1 then Option.bind (cover_tree_size p0) fun x1 => ((some (decide (p1 < w64 (2 * x1))))) else (some false))
/-- (headend/cover.node).level -/
def cover_node_level (p0 : Int) : Option (Int) := (some (w64 ((lg (un (wd p0))) - 1)))
def cover_node_below_J1 (p0 : Int) (p1 : Int) (a1 : Bool) : Option (Bool) := (bif a1 then (some false) else Option.bind (cover_node_level p0) fun x2 => (Option.bind (cover_node_level p1) fun x3 => (Option.bind (shG (w64 (x2 - x3))) fun nn4 => ((some (decide (shrI p0 nn4 = p1)))))))
/-- (headend/cover.node).below -/
def cover_node_below (p0 : Int) (p1 : Int) : Option (Bool) := (if p0 < 1 then (cover_node_below_J1 p0 p1 true) else (if p1 < 1 then (cover_node_below_J1 p0 p1 true) else Option.bind (cover_node_level p0) fun x5 => (Option.bind (cover_node_level p1) fun x6 => ((cover_node_below_J1 p0 p1 (decide (x5 < x6)))))))
/-- (headend/cover.tree).special -/
def cover_tree_special (p0 : Tcover_tree) (p1 : Int) : Option (Bool) := Option.bind (cover_node_level p1) fun x1 => (Option.bind (remI x1 p0.stride) fun x2 => ((some (decide (x2 = 0)))))
/-- headend/cover.path -/
def cover_path (p0 : Int) (p1 : Int) : Option (Int × Int) := (some (p0, p1))
/-- (headend/cover.node).toward -/
def cover_node_toward (p0 : Int) (p1 : Int) : Option (Int) := Option.bind (cover_node_level p1) fun x1 => (Option.bind (cover_node_level p0) fun x2 => (Option.bind (shG (w64 ((w64 (x1 - x2)) - 1))) fun nn3 => ((some (shrI p1 nn3)))))
def cover_path_1_L1 (p2 : Int) (rec1 : (Int) → Option (List Int)) (a2 : Int) : Option (List Int) := (if a2 ≠ p2 then Option.bind (cover_node_toward a2 p2) fun x3 => ((yl x3 ((rec1 x3)))) else (some []))
/-- headend/cover.path$1: what it yields -/
def cover_path_1 (p1 : Int) (p2 : Int) : Option (List Int) := (fixN (cover_path_1_L1 p2) FUEL p1)
def cover_first_cover_path_1_cover_tree_special_D1  (s : Int) : Option (Int) := match s with | a3 => (some 0)
def cover_first_cover_path_1_cover_tree_special_X1_0  (s : Int) : Option (Int) := match s with | a3 => (some a3)
def cover_first_cover_path_1_cover_tree_special_R1 (p1_0 : Tcover_tree) (e4 : Int) (nx1 : (Int) → Option (Int)) (s : Int) : Option (Int) := match s with | a3 => Option.bind (cover_tree_special p1_0 e4) fun x5 => ((bif x5 then (cover_first_cover_path_1_cover_tree_special_X1_0 e4) else (nx1 a3)))
/-- headend/cover.first -/
def cover_first_cover_path_1_cover_tree_special (p0_0 : Int) (p0_1 : Int) (p1_0 : Tcover_tree) : Option (Int) := Option.bind (cover_path_1 p0_0 p0_1) fun l1 => ((itL (cover_first_cover_path_1_cover_tree_special_R1 p1_0) cover_first_cover_path_1_cover_tree_special_D1 l1 0))
/-- (headend/cover.tree).cut -/
def cover_tree_cut (p0 : Tcover_tree) (p1 : Int) (p2 : Int) : Option (Int) := Option.bind (shG (un 1#64)) fun nn1 => (Option.bind (cover_path p1 (shrI p2 nn1)) fun x2 => (Option.bind (cover_first_cover_path_1_cover_tree_special x2.1 x2.2 p0) fun x3 => ((some x3))))
def cover_tree_subset_J2 (p0 : Tcover_tree) (p1 : TSubset) (a3 : Bool) : Option (Bool) := (bif a3 then (some false) else (if p0.kind = 2#8 then (some true) else Option.bind (cover_tree_special p0 p1.Node) fun x4 => ((bif x4 then (some true) else Option.bind (cover_tree_cut p0 p1.Node p1.Minus) fun x5 => ((some (decide (x5 = 0))))))))
def cover_tree_subset_J1 (p0 : Tcover_tree) (p1 : TSubset) (a2 : Bool) : Option (Bool) := (bif a2 then (if p1.Minus = 0 then (if p0.kind = 1#8 then (some true) else (some (decide (p1.Node = 1)))) else (some false)) else Option.bind (cover_tree_has p0 p1.Minus) fun x6 => ((bif (!x6) then (cover_tree_subset_J2 p0 p1 true) else (if p1.Minus = p1.Node then (cover_tree_subset_J2 p0 p1 true) else Option.bind (cover_node_below p1.Minus p1.Node) fun x7 => ((cover_tree_subset_J2 p0 p1 (!x7)))))))
/-- (headend/cover.tree).subset -/
def cover_tree_subset (p0 : Tcover_tree) (p1 : TSubset) : Option (Bool) := Option.bind (cover_tree_has p0 p1.Node) fun x1 => ((bif (!x1) then (some false) else (if p0.kind = 1#8 then (cover_tree_subset_J1 p0 p1 true) else (cover_tree_subset_J1 p0 p1 (decide (p1.Minus = 0))))))
def cover_enter_L1 (p1 : List TSubset) (x1 : Tcover_tree × Bool) (rec1 : (Int) → Option (Tcover_tree × Int)) (a3 : Int) : Option (Tcover_tree × Int) := (if a3 < (p1.length : Int) then Option.bind (getI p1 a3) fun y4 => (Option.bind (cover_tree_subset x1.1 y4) fun x5 => ((bif (!x5) then (some ((Tcover_tree.mk 0#8 0 0), 31)) else (rec1 (w64 (a3 + 1)))))) else (some (x1.1, 0)))
/-- headend/cover.enter -/
def cover_enter (p0 : TScheme) (p1 : List TSubset) : Option (Tcover_tree × Int) := Option.bind (cover_treeOf p0) fun x1 => ((bif (!x1.2) then (some ((Tcover_tree.mk 0#8 0 0), 30)) else (fixN (cover_enter_L1 p1 x1) FUEL 0)))
/-- (headend/cover.tree).labels -/
def cover_tree_labels (p0 : Tcover_tree) (p1 : Int) : Option (Tcover_tree × Int) := (some (p0, p1))
/-- (headend/cover.tree).leaf -/
def cover_tree_leaf (p0 : Tcover_tree) (p1 : Int) : Option (Int) := Option.bind (cover_tree_size p0) fun x1 => ((some (w64 (x1 + p1))))
/-- (headend/cover.node).sibling -/
def cover_node_sibling (p0 : Int) : Option (Int) := (some (bitI .xor p0 1))
def cover_tree_labels_1_D2 (x1 : Int) (a2 : Int) (rec1 : (Int) → Option (List (Int × Int))) (s : Unit) : Option (List (Int × Int)) := Option.bind (cover_node_toward a2 x1) fun x10 => ((rec1 x10))
def cover_tree_labels_1_R2 (p1 : Tcover_tree) (a2 : Int) (e7 : Int) (nx2 : Unit → Option (List (Int × Int))) (s : Unit) : Option (List (Int × Int)) := Option.bind (cover_node_sibling e7) fun x8 => (Option.bind (cover_tree_subset p1 (TSubset.mk a2 x8)) fun x9 => ((bif x9 then (yl (a2, x8) ((nx2 ()))) else (nx2 ()))))
def cover_tree_labels_1_L1 (p1 : Tcover_tree) (x1 : Int) (rec1 : (Int) → Option (List (Int × Int))) (a2 : Int) : Option (List (Int × Int)) := (if a2 ≠ x1 then (if p1.kind = 1#8 then Option.bind (cover_node_toward a2 x1) fun x3 => ((yl (x3, 0) (Option.bind (cover_node_toward a2 x1) fun x4 => ((rec1 x4))))) else Option.bind (cover_path a2 x1) fun x5 => (Option.bind (cover_path_1 x5.1 x5.2) fun l6 => ((itL (cover_tree_labels_1_R2 p1 a2) (cover_tree_labels_1_D2 x1 a2 rec1) l6 ())))) else (some []))
/-- (headend/cover.tree).labels$1: what it yields -/
def cover_tree_labels_1 (p1 : Tcover_tree) (p2 : Int) : Option (List (Int × Int)) := Option.bind (cover_tree_leaf p1 p2) fun x1 => ((yl (1, 0) ((fixN (cover_tree_labels_1_L1 p1 x1) FUEL 1))))
def cover_Storage_D1  (s : Int) : Option (Int × Int) := match s with | a5 => (some (a5, 0))
def cover_Storage_R1  (ee : Int × Int) (nx1 : (Int) → Option (Int × Int)) (s : Int) : Option (Int × Int) := match ee with | (e6, e7) => match s with | a5 => (nx1 (w64 (a5 + 1)))
/-- headend/cover.Storage -/
def cover_Storage (p0 : TScheme) : Option (Int × Int) := Option.bind (cover_enter p0 ([] : List TSubset)) fun x1 => ((if x1.2 ≠ 0 then (some (0, x1.2)) else Option.bind (cover_tree_labels x1.1 0) fun x2 => (Option.bind (cover_tree_labels_1 x2.1 x2.2) fun l3 => ((itL cover_Storage_R1 cover_Storage_D1 l3 0)))))
def plan_Choose_J1 (p0 : TNeed) (p1 : BitVec 8) (a2 : Int) (a3 : Int) (a4 : Int) (a5 : List Int) : Option (TChoice × Int) := Option.bind (shG p0.Depth) fun nn7 => ((some ((TChoice.mk p1 (decide (a4 ≤ p0.Storage)) a2 a3 (w64 ((w64 (67 + (w64 (18 * a2)))) + (w64 (16 * a3)))) a4 (w64 ((w64 ((w64 (p0.Headers * p0.HeaderPrice)) * (w64 ((w64 (67 + (w64 (18 * a2)))) + (w64 (16 * a3)))))) + (shlI (w64 (p0.StoragePrice * a4)) nn7))) a5), 0)))
def plan_Choose_J2 (p0 : TNeed) (p1 : BitVec 8) (a8 : Bool) : Option (TChoice × Int) := (bif a8 then (some ((TChoice.mk 0#8 false 0 0 0 0 0 []), 2)) else (if p1 = 4#8 then Option.bind (poly_Check (TScheme.mk p1 p0.Depth (mxI p0.Revoked 1) p0.Group)) fun x9 => ((if x9 ≠ 0 then (some ((TChoice.mk p1 false 0 0 0 0 0 []), 0)) else (plan_Choose_J1 p0 p1 0 (mxI p0.Revoked 1) 8 []))) else Option.bind (plan_newTables (TScheme.mk p1 p0.Depth 0 (TGroup.mk 0#64 0#64 0#64))) fun x10 => (Option.bind (cover_Storage (TScheme.mk p1 p0.Depth 0 (TGroup.mk 0#64 0#64 0#64))) fun x11 => (Option.bind (plan_tables_worst x10 p0.Revoked) fun x12 => (Option.bind (plan_tables_list x10 ([] : List Int) 1 0 p0.Depth x12.2) fun x13 => ((plan_Choose_J1 p0 p1 x12.1 0 (w64 (16 * x11.1)) x13)))))))
/-- headend/plan.Choose -/
def plan_Choose (p0 : TNeed) (p1 : BitVec 8) : Option (TChoice × Int) := Option.bind (plan_CheckNeed p0) fun x1 => ((if x1 ≠ 0 then (some ((TChoice.mk 0#8 false 0 0 0 0 0 []), x1)) else (if p1 < 1#8 then (plan_Choose_J2 p0 p1 true) else (plan_Choose_J2 p0 p1 (decide (4#8 < p1))))))
def plan_Make_J2 (a5 : BitVec 8) (a7 : BitVec 8) (rec1 : (BitVec 8 × List TChoice × BitVec 8) → Option (TPlan × Int)) (l10 : List TChoice) (a11 : Bool) : Option (TPlan × Int) := (bif a11 then (rec1 (a5 + 1#8, l10, a5)) else (rec1 (a5 + 1#8, l10, a7)))
def plan_Make_L1 (p0 : TNeed) (rec1 : (BitVec 8 × List TChoice × BitVec 8) → Option (TPlan × Int)) (s1 : BitVec 8 × List TChoice × BitVec 8) : Option (TPlan × Int) := match s1 with | (a5, a6, a7) => (if a5 ≤ 4#8 then Option.bind (plan_Choose p0 a5) fun x9 => ((if x9.2 ≠ 0 then (some ((TPlan.mk [] 0#8), x9.2)) else Option.bind (appG 72 a6 [x9.1]) fun l10 => ((bif x9.1.Fits then (if a7 = 0#8 then (plan_Make_J2 a5 a7 rec1 l10 true) else Option.bind (getI l10 (un8 (a7 - 1#8))) fun y12 => ((plan_Make_J2 a5 a7 rec1 l10 (decide (x9.1.Cost < y12.Cost))))) else (plan_Make_J2 a5 a7 rec1 l10 false))))) else (some ((TPlan.mk a6 a7), 0)))
/-- headend/plan.Make -/
def plan_Make (p0 : TNeed) : Option (TPlan × Int) := (fixN (plan_Make_L1 p0) FUEL (1#8, [], 0#8))
end Go.Sx

end
section
set_option linter.unusedVariables false
set_option maxRecDepth 100000
namespace Go.Sx
open Go Go.RowKit
def ref03_SameInts_L1 (p0 : List Int) (p1 : List Int) (rec1 : (Int) → Option (Bool)) (a2 : Int) : Option (Bool) := (if a2 < (p0.length : Int) then Option.bind (getI p0 a2) fun y3 => (Option.bind (getI p1 a2) fun y4 => ((if y3 ≠ y4 then (some false) else (rec1 (w64 (a2 + 1)))))) else (some true))
/-- headend/headendref03.SameInts -/
def ref03_SameInts (p0 : List Int) (p1 : List Int) : Option (Bool) := (if (p0.length : Int) ≠ (p1.length : Int) then (some false) else (fixN (ref03_SameInts_L1 p0 p1) FUEL 0))
/-- headend/headendref10.SameNumbers -/
def ref10_SameNumbers (p0 : TChoice) (p1 : TChoice) : Option (Bool) := (if p0.Kind = p1.Kind then (bif (p0.Fits == p1.Fits) then (if p0.Items = p1.Items then (if p0.Points = p1.Points then (if p0.Header = p1.Header then (if p0.Storage = p1.Storage then (some (decide (p0.Cost = p1.Cost))) else (some false)) else (some false)) else (some false)) else (some false)) else (some false)) else (some false))
/-- headend/headendref10.SameChoice -/
def ref10_SameChoice (p0 : TChoice) (p1 : TChoice) : Option (Bool) := Option.bind (ref10_SameNumbers p0 p1) fun x1 => ((bif x1 then Option.bind (ref03_SameInts p0.Witness p1.Witness) fun x2 => ((some x2)) else (some false)))
end Go.Sx

end
section
set_option linter.unusedVariables false
set_option maxRecDepth 100000
namespace Go.Sx
open Go Go.RowKit
/-- headend/headendlaw10.tree -/
def law10_tree (p0 : BitVec 8) (p1 : Int) : Option (TScheme) := (some (TScheme.mk p0 p1 0 (TGroup.mk 0#64 0#64 0#64)))
/-- headend/headendlaw10.small -/
def law10_small  : Option (TNeed) := (some (TNeed.mk 2 1 48 10 1 2 (TGroup.mk 0#64 0#64 0#64)))
def law10_worsts_J2 (a2 : Int) (rec1 : (Int) → Option (Bool)) (a4 : Bool) : Option (Bool) := (bif a4 then (some false) else (rec1 (w64 (a2 + 1))))
def law10_worsts_L1 (p0 : TScheme) (p1 : List Int) (rec1 : (Int) → Option (Bool)) (a2 : Int) : Option (Bool) := (if a2 < (p1.length : Int) then Option.bind (plan_Worst p0 a2) fun x3 => ((if x3.2 ≠ 0 then (law10_worsts_J2 a2 rec1 true) else Option.bind (getI p1 a2) fun y5 => ((law10_worsts_J2 a2 rec1 (decide (x3.1 ≠ y5)))))) else (some true))
/-- headend/headendlaw10.worsts -/
def law10_worsts (p0 : TScheme) (p1 : List Int) : Option (Bool) := (fixN (law10_worsts_L1 p0 p1) FUEL 0)
def law10_alive_J1 (x6 : TChoice × Int) (x8 : TPlan × Int) (a9 : Bool) : Option (Bool) := (bif a9 then (some false) else Option.bind (law10_tree 1#8 2) fun x10 => (Option.bind (law10_worsts x10 [1, 2, 2, 2, 2]) fun x11 => ((bif x11 then Option.bind (law10_tree 2#8 2) fun x12 => (Option.bind (law10_worsts x12 [1, 1, 2, 2, 2]) fun x13 => ((bif x13 then Option.bind (ref10_SameChoice x6.1 (TChoice.mk 1#8 true 2 0 103 48 1414 [3])) fun x14 => ((bif x14 then (if x8.1.Best = 1#8 then (some (decide ((x8.1.Choices.length : Int) = 4))) else (some false)) else (some false))) else (some false)))) else (some false)))))
/-- headend/headendlaw10.alive -/
def law10_alive  : Option (Bool) := Option.bind (law10_tree 1#8 2) fun x1 => (Option.bind (plan_Witness x1 2) fun x2 => (Option.bind (law10_tree 2#8 2) fun x3 => (Option.bind (plan_Witness x3 2) fun x4 => (Option.bind (law10_small) fun x5 => (Option.bind (plan_Choose x5 1#8) fun x6 => (Option.bind (law10_small) fun x7 => (Option.bind (plan_Make x7) fun x8 => ((if x2.2 ≠ 0 then (law10_alive_J1 x6 x8 true) else (if x4.2 ≠ 0 then (law10_alive_J1 x6 x8 true) else (if x6.2 ≠ 0 then (law10_alive_J1 x6 x8 true) else (if x8.2 ≠ 0 then (law10_alive_J1 x6 x8 true) else Option.bind (ref03_SameInts x2.1 [3]) fun x15 => ((bif (!x15) then (law10_alive_J1 x6 x8 true) else Option.bind (ref03_SameInts x4.1 [1, 3]) fun x16 => ((law10_alive_J1 x6 x8 (!x16)))))))))))))))))
end Go.Sx

end
section
set_option linter.unusedVariables false
set_option maxRecDepth 100000
namespace Go.Sx
open Go Go.RowKit
def law10_PlanScales_J5 (a8 : Int) (rec4 : (Int) → Option (Bool)) (a9 : Bool) : Option (Bool) := (bif a9 then (some false) else (rec4 (w64 (a8 + 1))))
def law10_PlanScales_J6 (x1 : Bool) (x3 : TPlan × Int) (x14 : TPlan × Int) (a15 : Bool) : Option (Bool) := (bif a15 then (some false) else (bif x1 then (if x3.1.Best = 0#8 then (some true) else (if 0#8 < x14.1.Best then Option.bind (getI x14.1.Choices (un8 (x14.1.Best - 1#8))) fun y16 => (Option.bind (getI x3.1.Choices (un8 (x3.1.Best - 1#8))) fun y17 => ((some (decide (y16.Cost ≤ y17.Cost))))) else (some false))) else (some false)))
def law10_PlanScales_L4 (p0 : TNeed) (p1 : Int) (p2 : Int) (x1 : Bool) (x3 : TPlan × Int) (x5 : TPlan × Int) (rec4 : (Int) → Option (Bool)) (a8 : Int) : Option (Bool) := (if a8 < (x3.1.Choices.length : Int) then Option.bind (getI x5.1.Choices a8) fun y10 => (Option.bind (getI x3.1.Choices a8) fun y11 => ((if y10.Cost ≠ w64 (p1 * y11.Cost) then (law10_PlanScales_J5 a8 rec4 true) else Option.bind (getI x5.1.Choices a8) fun y12 => (Option.bind (getI x3.1.Choices a8) fun y13 => ((law10_PlanScales_J5 a8 rec4 (decide (y12.Header ≠ y13.Header)))))))) else Option.bind (plan_Make (TNeed.mk p0.Depth p0.Revoked (mnI (w64 (p0.Storage + p2)) 10000) p0.Headers p0.HeaderPrice p0.StoragePrice p0.Group)) fun x14 => ((if x14.2 ≠ 0 then (law10_PlanScales_J6 x1 x3 x14 true) else (if (x14.1.Choices.length : Int) ≠ 4 then (law10_PlanScales_J6 x1 x3 x14 true) else (law10_PlanScales_J6 x1 x3 x14 (decide (4#8 < x14.1.Best)))))))
def law10_PlanScales_J3 (p0 : TNeed) (p1 : Int) (p2 : Int) (x1 : Bool) (x3 : TPlan × Int) (x5 : TPlan × Int) (a6 : Bool) : Option (Bool) := (bif a6 then (some false) else (fixN (law10_PlanScales_L4 p0 p1 p2 x1 x3 x5) FUEL 0))
def law10_PlanScales_J2 (p0 : TNeed) (p1 : Int) (p2 : Int) (x1 : Bool) (x3 : TPlan × Int) (a4 : Bool) : Option (Bool) := (bif a4 then (some x1) else Option.bind (plan_Make (TNeed.mk p0.Depth p0.Revoked p0.Storage p0.Headers (w64 (p0.HeaderPrice * p1)) (w64 (p0.StoragePrice * p1)) p0.Group)) fun x5 => ((if x5.2 ≠ 0 then (law10_PlanScales_J3 p0 p1 p2 x1 x3 x5 true) else (if (x3.1.Choices.length : Int) ≠ 4 then (law10_PlanScales_J3 p0 p1 p2 x1 x3 x5 true) else (if (x5.1.Choices.length : Int) ≠ 4 then (law10_PlanScales_J3 p0 p1 p2 x1 x3 x5 true) else (if x5.1.Best ≠ x3.1.Best then (law10_PlanScales_J3 p0 p1 p2 x1 x3 x5 true) else (law10_PlanScales_J3 p0 p1 p2 x1 x3 x5 (decide (4#8 < x3.1.Best)))))))))
def law10_PlanScales_J1 (p0 : TNeed) (p1 : Int) (p2 : Int) (x1 : Bool) (a2 : Bool) : Option (Bool) := (bif a2 then (some x1) else Option.bind (plan_Make p0) fun x3 => ((if x3.2 ≠ 0 then (law10_PlanScales_J2 p0 p1 p2 x1 x3 true) else (if p0.HeaderPrice < 0 then (law10_PlanScales_J2 p0 p1 p2 x1 x3 true) else (if p0.StoragePrice < 0 then (law10_PlanScales_J2 p0 p1 p2 x1 x3 true) else (if (1000 : Int) < w64 (p0.HeaderPrice * p1) then (law10_PlanScales_J2 p0 p1 p2 x1 x3 true) else (law10_PlanScales_J2 p0 p1 p2 x1 x3 (decide ((1000 : Int) < w64 (p0.StoragePrice * p1))))))))))
/-- headend/headendlaw10.PlanScales -/
def law10_PlanScales (p0 : TNeed) (p1 : Int) (p2 : Int) : Option (Bool) := Option.bind (law10_alive) fun x1 => ((if p1 < 1 then (law10_PlanScales_J1 p0 p1 p2 x1 true) else (if (1000 : Int) < p1 then (law10_PlanScales_J1 p0 p1 p2 x1 true) else (if p2 < 0 then (law10_PlanScales_J1 p0 p1 p2 x1 true) else (law10_PlanScales_J1 p0 p1 p2 x1 (decide ((10000 : Int) < p2)))))))
end Go.Sx

end
section
set_option linter.unusedVariables false
set_option linter.unusedSimpArgs false
set_option maxRecDepth 100000
namespace Go.Sx
open Go Go.RowKit Go.Proofs
theorem op_TGroup {H : Type} {enc : TypeId × Value → H} {W : World} {fuel : Nat} {cs : List Value} {x : DataW H × List MemPlace} (h : Tr enc Try.prog W fuel 24 cs x) : ∃ (m : TGroup), cs = TGroup.cs m := by
  obtain ⟨xs, n, rfl, rfl, hl, hx, hf⟩ := DataW.trod_struct Try.underlying24 h
  replace hl : cs.length = 3 := hl.trans (by kernel_rfl)
  replace hx : xs.length = 3 := hx
  obtain ⟨y0, e0⟩ := some_at (i := 0) hx rfl
  have h0 : Tr enc Try.prog W n 22 ((cs.drop 0).take 1) y0 := fld hf (i := 0) rfl rfl rfl (by kernel_rfl) e0
  obtain ⟨m0, c0⟩ := op_u64 Try.underlying22 h0
  obtain ⟨y1, e1⟩ := some_at (i := 1) hx rfl
  have h1 : Tr enc Try.prog W n 22 ((cs.drop 1).take 1) y1 := fld hf (i := 1) rfl rfl rfl (by kernel_rfl) e1
  obtain ⟨m1, c1⟩ := op_u64 Try.underlying22 h1
  obtain ⟨y2, e2⟩ := some_at (i := 2) hx rfl
  have h2 : Tr enc Try.prog W n 22 ((cs.drop 2).take 1) y2 := fld hf (i := 2) rfl rfl rfl (by kernel_rfl) e2
  obtain ⟨m2, c2⟩ := op_u64 Try.underlying22 h2
  have q := cat_end hl
  replace q := cat_step (o := 2) (k := 1) c2 q
  replace q := cat_step (o := 1) (k := 1) c1 q
  replace q := cat_step (o := 0) (k := 1) c0 q
  exact ⟨⟨m0, m1, m2⟩, q⟩
def TNeed.ok (x : TNeed) : Prop := I64 x.Depth ∧ I64 x.Revoked ∧ I64 x.Storage ∧ I64 x.Headers ∧ I64 x.HeaderPrice ∧ I64 x.StoragePrice
theorem op_TNeed {H : Type} {enc : TypeId × Value → H} {W : World} {fuel : Nat} {cs : List Value} {x : DataW H × List MemPlace} (h : Tr enc Try.prog W fuel 50 cs x) : ∃ (m : TNeed), cs = TNeed.cs m ∧ TNeed.ok m := by
  obtain ⟨xs, n, rfl, rfl, hl, hx, hf⟩ := DataW.trod_struct Try.underlying50 h
  replace hl : cs.length = 9 := hl.trans (by kernel_rfl)
  replace hx : xs.length = 7 := hx
  obtain ⟨y0, e0⟩ := some_at (i := 0) hx rfl
  have h0 : Tr enc Try.prog W n 3 ((cs.drop 0).take 1) y0 := fld hf (i := 0) rfl rfl rfl (by kernel_rfl) e0
  obtain ⟨m0, c0, k0⟩ := op_i64 Try.underlying3 h0
  obtain ⟨y1, e1⟩ := some_at (i := 1) hx rfl
  have h1 : Tr enc Try.prog W n 3 ((cs.drop 1).take 1) y1 := fld hf (i := 1) rfl rfl rfl (by kernel_rfl) e1
  obtain ⟨m1, c1, k1⟩ := op_i64 Try.underlying3 h1
  obtain ⟨y2, e2⟩ := some_at (i := 2) hx rfl
  have h2 : Tr enc Try.prog W n 3 ((cs.drop 2).take 1) y2 := fld hf (i := 2) rfl rfl rfl (by kernel_rfl) e2
  obtain ⟨m2, c2, k2⟩ := op_i64 Try.underlying3 h2
  obtain ⟨y3, e3⟩ := some_at (i := 3) hx rfl
  have h3 : Tr enc Try.prog W n 3 ((cs.drop 3).take 1) y3 := fld hf (i := 3) rfl rfl rfl (by kernel_rfl) e3
  obtain ⟨m3, c3, k3⟩ := op_i64 Try.underlying3 h3
  obtain ⟨y4, e4⟩ := some_at (i := 4) hx rfl
  have h4 : Tr enc Try.prog W n 3 ((cs.drop 4).take 1) y4 := fld hf (i := 4) rfl rfl rfl (by kernel_rfl) e4
  obtain ⟨m4, c4, k4⟩ := op_i64 Try.underlying3 h4
  obtain ⟨y5, e5⟩ := some_at (i := 5) hx rfl
  have h5 : Tr enc Try.prog W n 3 ((cs.drop 5).take 1) y5 := fld hf (i := 5) rfl rfl rfl (by kernel_rfl) e5
  obtain ⟨m5, c5, k5⟩ := op_i64 Try.underlying3 h5
  obtain ⟨y6, e6⟩ := some_at (i := 6) hx rfl
  have h6 : Tr enc Try.prog W n 24 ((cs.drop 6).take 3) y6 := fld hf (i := 6) rfl rfl rfl (by kernel_rfl) e6
  obtain ⟨m6, c6⟩ := op_TGroup h6
  have q := cat_end hl
  replace q := cat_step (o := 6) (k := 3) c6 q
  replace q := cat_step (o := 5) (k := 1) c5 q
  replace q := cat_step (o := 4) (k := 1) c4 q
  replace q := cat_step (o := 3) (k := 1) c3 q
  replace q := cat_step (o := 2) (k := 1) c2 q
  replace q := cat_step (o := 1) (k := 1) c1 q
  replace q := cat_step (o := 0) (k := 1) c0 q
  exact ⟨⟨m0, m1, m2, m3, m4, m5, m6⟩, q, ⟨k0, k1, k2, k3, k4, k5⟩⟩
end Go.Sx

end
section
set_option linter.unusedVariables false
set_option linter.unusedSimpArgs false
namespace Go.Sx
open Go Go.RowKit
section
variable {P : Program} {L : Slots} {w : World} {dst : Option Nat} {ty : TypeId} {pos : String} {af : Array Edge} {gu : Option (Nat × Bool)} {x y p q r : Operand} {t e : TypeId} {v : Value} {z g o sz : Nat} {α : Type} {l m : List α} {c : α → List Value} {lo hi : Int} {kl kh km : IntKind}
theorem run_sli3 {ρ : Operand → Value} {a : Option Addr} {len cap : Nat} (hρ : Cons L ρ) (hu : P.underlying t = some (.slice e)) (hs : Siz P e sz) (hp : ev L p = some (.int kl lo)) (hq : ev L q = some (.int kh hi)) (hm : ev L r = some (.int km hi)) (h0 : 0 ≤ lo) (h1 : lo ≤ hi) (h2 : hi ≤ (cap : Int)) :
    (Instr.sliceAt t (.slice a len cap) (some (ρ p)) (some (ρ q)) (some (ρ r))).run P w = .ok (sliced a lo.toNat hi.toNat hi.toNat sz) w := by
  have he : P.elem t = e := by simp [Program.elem, hu]
  have hu' : P.underlying t = some (.slice (P.elem t)) := by rw [he]; exact hu
  rw [run_sliceAt_slice _ _ _ _ _ _ hu', hρ _ _ hp, hρ _ _ hq, hρ _ _ hm, run_slice_lhm _ _ _ _ _ hu' _ _ _ _ _ _ h0 h1 (by omega) h2, he, hs w]; simp [Result.andThen]
theorem vv_sliT3 (hu : P.underlying t = some (.slice e)) (hs : Siz P e sz) (hx : ev L x = some v) (hr : Rd w z g o sz v (l.map c)) (hp : ev L p = some (.int kl lo)) (hq : ev L q = some (.int kh hi)) (hmx : ev L r = some (.int km hi)) (hl : sliG l lo hi = some m) :
    ∃ v' o', (∀ w1, VV P L ⟨dst, .slice t x (some p) (some q) (some r), ty, pos, af, gu⟩ w1 v') ∧ Rd w z g o' sz v' (m.map c) := by
  obtain ⟨rfl, h3, h4, h5⟩ := sliG_eq hl
  rcases hr.2 with ⟨hz, hnil, a, cap, rfl⟩ | ⟨hz, cap, rfl, ⟨hg, hcap⟩, hcell⟩
  · have hl0 : l = [] := by simpa using hnil
    subst hl0
    simp only [List.length_nil] at h5
    have e1 : lo = 0 := by omega
    have e2 : hi = 0 := by omega
    subst e1 e2
    refine ⟨_, 0, fun w1 ρ hρ => run_v (by rw [hρ _ _ hx]; exact run_sli3 hρ hu hs hp hq hmx (by omega) (by omega) (by omega)), by simpa using hr.1, .inl ⟨hz, by simp, ?_⟩⟩
    exact ⟨_, _, rfl⟩
  · rw [List.length_map] at hcap hx
    have hlen : ((l.map c).take hi.toNat).length = hi.toNat := by rw [List.length_take, List.length_map]; omega
    have hm : (((l.take hi.toNat).drop lo.toNat).map c) = ((l.map c).take hi.toNat).drop lo.toNat := by rw [List.map_drop, List.map_take]
    have hml : (((l.take hi.toNat).drop lo.toNat).map c).length = hi.toNat - lo.toNat := by rw [hm, List.length_drop, hlen]
    refine ⟨_, if hi.toNat = lo.toNat then o else o + lo.toNat * sz, fun w1 ρ hρ => run_v (by rw [hρ _ _ hx]; exact run_sli3 hρ hu hs hp hq hmx h3 h4 (by omega)), by rw [hm]; exact hr.1.take.drop, .inr ⟨hz, hi.toNat - lo.toNat, ?_, ⟨hg, by rw [hml]; omega⟩, fun j u hj => ?_⟩⟩
    · simp only [sliced, hml]
      by_cases e : hi.toNat = lo.toNat
      · rw [if_pos e, if_pos e]
      · rw [if_neg e, if_neg e]; simp [Addr.add_lit]
    · rw [hm, flat_drop _ _ hr.1.take, flat_take _ _ hr.1, List.getElem?_drop] at hj
      have hj2 : (l.map c).flatten[lo.toNat * sz + j]? = some u := by
        rw [List.getElem?_take] at hj
        split at hj
        · exact hj
        · cases hj
      by_cases e : hi.toNat = lo.toNat
      · exfalso
        rw [List.getElem?_take, e] at hj
        split at hj
        · omega
        · cases hj
      · rw [if_neg e, Nat.add_assoc]; exact hcell _ _ hj2
/-- a part of an owned slice -/
theorem vv_sliV {n : Nat} (hu : P.underlying t = some (.slice e)) (hs : Siz P e sz) (hx : ev L x = some v) (h : Own w z g e sz v (l.map c)) (hp : ev L p = some (.int kl lo)) (hq : ev L q = some (.int kh hi)) (hm : ev L r = some (.int km hi)) (hl : viewG l lo hi = some n) :
    VV P L ⟨dst, .slice t x (some p) (some q) (some r), ty, pos, af, gu⟩ w (.slice (some ⟨g, lo.toNat * sz, none⟩) n n) := fun ρ hρ => by
  unfold viewG at hl
  split at hl
  · rename_i hh
    obtain ⟨h0, h1, h2⟩ := hh
    cases hl
    rcases h.2 with ⟨_, _, h0'⟩ | ⟨hz, cap, cur, rfl, h1', h2', h3⟩
    · have : l = [] := by simpa using h0'
      subst this; simp at h2; omega
    · rw [List.length_map] at h2'
      refine run_v ?_
      rw [hρ _ _ hx]
      show (Instr.sliceAt t (.slice (some ⟨g, 0, none⟩) _ cap) (some (ρ p)) (some (ρ q)) (some (ρ r))).run P w = _
      rw [run_sli3 hρ hu hs hp hq hm h0 (by omega) (by omega)]
      simp only [sliced]
      rw [if_neg (by omega)]
      simp [Addr.add_lit]
      omega
  · cases hl
theorem vv_ixVw {n : Nat} {i j : Int} {k : IntKind} {v : Value} (hv : v = .slice (some ⟨g, lo.toNat * sz, none⟩) n n) (h0 : 0 ≤ lo) (hu : P.underlying t = some (.slice e)) (hs : Siz P e sz) (hx : ev L x = some v) (hy : ev L y = some (.int k i)) (hj : ixG lo n i = some j) :
    VV P L ⟨dst, .indexAddr t x y, ty, pos, af, gu⟩ w (.pointer (some ⟨g, 0 + j.toNat * sz, none⟩)) := by
  unfold ixG at hj
  split at hj
  · rename_i hh
    cases hj
    subst hv
    have := vv_indexAddrS (dst := dst) (ty := ty) (pos := pos) (af := af) (gu := gu) (w := w) hu hs hx hy hh.1 hh.2
    have e : lo.toNat * sz + i.toNat * sz = 0 + (lo + i).toNat * sz := by rw [← Nat.add_mul, Int.toNat_add h0 hh.1]; omega
    rwa [e] at this
  · cases hj
theorem viewG_nn {n : Nat} (hl : viewG l lo hi = some n) : 0 ≤ lo := by
  unfold viewG at hl; split at hl
  · rename_i hh; exact hh.1
  · cases hl
/-- an index in an array that is held -/
theorem vv_ixE {len b' off : Nat} {i : Int} {k : IntKind} (j : Nat) (hu : P.underlying t = some (.array len e)) (hs : Siz P e sz) (hx : ev L x = some (.pointer (some ⟨b', off, none⟩))) (hy : ev L y = some (.int k i)) (h : i = (j : Int)) (hj : j < len) :
    VV P L ⟨dst, .indexAddr t x y, ty, pos, af, gu⟩ w (.pointer (some ⟨b', off + j * sz, none⟩)) := by
  have := vv_indexAddr (dst := dst) (ty := ty) (pos := pos) (af := af) (gu := gu) (w := w) hu hs hx hy (by omega) (by omega)
  rwa [show i.toNat = j from by omega] at this
theorem vv_ixV1 {len : Nat} {i : Int} {k : IntKind} {a : α} {u : Value} {cs : List Value} (hu : P.underlying t = some (.array len e)) (hs : Siz P e 1) (h1 : One P e) (hx : ev L x = some (.agg cs.toArray)) (hcs : cs = (l.map c).flatten) (hl : l.length = len) (hw : Ws 1 (l.map c)) (hy : ev L y = some (.int k i)) (hg : getI l i = some a) (hc : c a = [u]) :
    VV P L ⟨dst, .index t x y, ty, pos, af, gu⟩ w u := fun ρ hρ => by
  have h0 := getI_nn hg
  have h2 := getI_lt hg
  have h2' : i < (len : Int) := by omega
  have hp : (part e cs.toArray (i.toNat * 1)).run P w = .ok u w := by
    have hq : cs[i.toNat]? = some u := by
      have := Ws.at (sz := 1) i.toNat 0 (c a) hw (getm (getI_at hg)) (by omega)
      rw [hcs]; rw [hc] at this; simpa using this
    have hq2 : cs.toArray[i.toNat]? = some u := by simpa using hq
    simp [part, (h1 w).1, hq2]
  rw [Nat.mul_one] at hp
  refine run_v ?_
  rw [hρ _ _ hx, hρ _ _ hy]
  simp [Instr.index, run_underlying hu, asIntOf, h0, h2', hs w, hp]
end
end Go.Sx

end
