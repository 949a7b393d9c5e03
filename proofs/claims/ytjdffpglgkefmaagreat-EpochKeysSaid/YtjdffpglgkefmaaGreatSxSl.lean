/- SX: slices: rows that the walk has made, rows that are read. -/
import Derived.Test.YtjdffpglgkefmaaGreatSxIter
import Derived.Laws.AppendOwn
set_option linter.unusedVariables false
set_option linter.unusedSimpArgs false
namespace Go.Sx
open Go Go.RowKit

/-- of the old blocks only g may have turned, and none where z is 0 -/
structure Ka (z g : Nat) (w w' : World) : Prop where
  os : w'.os = w.os
  tape : w'.tape = w.tape
  output : w'.output = w.output
  size : w.heap.size ≤ w'.heap.size
  block : ∀ k, k < w.heap.size → (z = 0 ∨ k ≠ g) → w'.heap[k]? = w.heap[k]?
section
variable {w w' w₁ w₂ : World} {z g b : Nat} {t : TypeId} {cs : List Value} {ms : List Nat}
theorem Bx.ka (h : Bx w b t cs) (a : Ka z g w w') (hn : z = 0 ∨ b ≠ g := by omega) : Bx w' b t cs := (a.block b h.lt hn).trans h
theorem Gr.ka (h : Gr w w₁) (a : Ka z g w₁ w₂) (hg : z = 0 ∨ w.heap.size ≤ g := by omega) : Gr w w₂ :=
  ⟨a.os.trans h.os, a.tape.trans h.tape, a.output.trans h.output, Nat.le_trans h.size a.size, fun k hk => (a.block k (Nat.lt_of_lt_of_le hk h.size) (by omega)).trans (h.block k hk)⟩
theorem Kp.ka (h : Kp ms w w₁) (a : Ka z g w₁ w₂) (hg : z = 0 ∨ g ∈ ms ∨ w.heap.size ≤ g := by (try simp only [List.mem_cons, List.mem_append, mem_zf, List.not_mem_nil, or_false, false_or, not_or, ne_eq, List.nil_append, List.cons_append, true_and, and_true, false_and, and_false, not_true_eq_false, not_false_eq_true, or_true, true_or]) <;> omega) : Kp ms w w₂ :=
  ⟨a.os.trans h.os, a.tape.trans h.tape, a.output.trans h.output, Nat.le_trans h.size a.size, fun k hk hm => (a.block k (Nat.lt_of_lt_of_le hk h.size) (by
    rcases hg with h0 | h0 | h0
    · exact .inl h0
    · exact .inr fun e => hm (e ▸ h0)
    · exact .inr (by omega))).trans (h.block k hk hm)⟩
theorem Ka.env (a : Ka z g w w') : Env w w' := ⟨a.os, a.tape, a.output, a.size⟩
theorem Df.ka {D : Nat} (h : w.heap[D]? = some (.deferred (some []))) (a : Ka z g w w') (hn : z = 0 ∨ D ≠ g := by omega) : w'.heap[D]? = some (.deferred (some [])) := (a.block D (Array.getElem?_eq_some_iff.1 h).1 hn).trans h
theorem Ka.refl (z g : Nat) (w : World) : Ka z g w w := ⟨rfl, rfl, rfl, Nat.le_refl _, fun _ _ _ => rfl⟩
end

/-- elements of sz cells each -/
def Ws (sz : Nat) (xs : List (List Value)) : Prop := ∀ x ∈ xs, x.length = sz ∧ ones x = true
theorem ws_nil (sz : Nat) : Ws sz [] := fun _ h => by cases h
theorem ws_cons {sz : Nat} {x : List Value} {xs : List (List Value)} (h1 : x.length = sz) (h2 : ones x = true) (h : Ws sz xs) : Ws sz (x :: xs) := fun y hy => by
  rcases List.mem_cons.1 hy with rfl | hy
  · exact ⟨h1, h2⟩
  · exact h y hy
theorem ws_append {sz : Nat} {xs ys : List (List Value)} (h : Ws sz xs) (k : Ws sz ys) : Ws sz (xs ++ ys) := fun y hy => by
  rcases List.mem_append.1 hy with hy | hy
  · exact h y hy
  · exact k y hy
theorem ws_map {sz : Nat} {α : Type} {c : α → List Value} (l : List α) (h1 : ∀ x, (c x).length = sz) (h2 : ∀ x, ones (c x) = true) : Ws sz (l.map c) := fun y hy => by
  obtain ⟨x, _, rfl⟩ := List.mem_map.1 hy
  exact ⟨h1 x, h2 x⟩
theorem Ws.flat {sz : Nat} : ∀ {xs : List (List Value)}, Ws sz xs → xs.flatten.length = xs.length * sz
  | [], _ => by simp
  | x :: xs, h => by
    rw [List.flatten_cons, List.length_append, (h x (by simp)).1, Ws.flat (fun y hy => h y (List.mem_cons_of_mem _ hy)), List.length_cons, Nat.add_mul]; omega
theorem Ws.one {sz : Nat} {xs : List (List Value)} (h : Ws sz xs) : ∀ u ∈ xs.flatten, u.oneCell' = true := fun u hu => by
  obtain ⟨x, hx, hux⟩ := List.mem_flatten.1 hu
  exact ones_spec (h x hx).2 u hux
theorem Ws.at {sz : Nat} : ∀ {xs : List (List Value)} (i q : Nat) (c : List Value), Ws sz xs → xs[i]? = some c → q < sz → xs.flatten[i * sz + q]? = c[q]?
  | [], i, q, c, _, hi, _ => by simp at hi
  | x :: xs, 0, q, c, h, hi, hq => by
    simp at hi; subst hi
    rw [List.flatten_cons, Nat.zero_mul, Nat.zero_add, List.getElem?_append_left (by rw [(h x (by simp)).1]; exact hq)]
  | x :: xs, i + 1, q, c, h, hi, hq => by
    simp at hi
    have hx := (h x (by simp)).1
    rw [List.flatten_cons, List.getElem?_append_right (by rw [hx, Nat.add_mul]; omega)]
    have e : (i + 1) * sz + q - x.length = i * sz + q := by rw [hx, Nat.add_mul]; omega
    rw [e]; exact Ws.at i q c (fun y hy => h y (List.mem_cons_of_mem _ hy)) hi hq
theorem get_ex {α : Type} {l : List α} {i : Nat} (h : i < l.length) : ∃ y, l[i]? = some y ∧ y ∈ l := ⟨l[i], by simp [h], List.getElem_mem h⟩
theorem getm {α β : Type} {l : List α} {k : Nat} {x : α} {c : α → β} (h : l[k]? = some x) : (l.map c)[k]? = some (c x) := by simp [h]

/-- a slice that the walk has made: nil where z is 0; else its row is all of block g -/
def Own (w : World) (z g : Nat) (e : TypeId) (sz : Nat) (v : Value) (xs : List (List Value)) : Prop :=
  Ws sz xs ∧ ((z = 0 ∧ v = .slice none 0 0 ∧ xs = []) ∨
    (z = 1 ∧ ∃ cap cur, v = .slice (some ⟨g, 0, none⟩) xs.length cap ∧ w.heap[g]? = some (.cells cur e (0, 0)) ∧ xs.length ≤ cap ∧ cap ≤ maxLen ∧ cur.size = cap * sz ∧ cur.toList.take (xs.length * sz) = xs.flatten))
/-- a slice that is read: empty where z is 0; else it begins in block g at o -/
def Rd (w : World) (z g o sz : Nat) (v : Value) (xs : List (List Value)) : Prop :=
  Ws sz xs ∧ ((z = 0 ∧ xs = [] ∧ ∃ a cap, v = .slice a 0 cap) ∨
    (z = 1 ∧ ∃ cap, v = .slice (some ⟨g, o, none⟩) xs.length cap ∧ (g < w.heap.size ∧ xs.length ≤ cap) ∧ ∀ j u, xs.flatten[j]? = some u → w.cell? ⟨g, o + j, none⟩ = some u))
section
variable {w w' : World} {z g o sz b z' g' : Nat} {e : TypeId} {v : Value} {xs : List (List Value)} {ms : List Nat}
theorem Own.keep (h : Own w z g e sz v xs) (hb : z = 0 ∨ (g < w.heap.size → w'.heap[g]? = w.heap[g]?)) : Own w' z g e sz v xs := by
  refine ⟨h.1, ?_⟩
  rcases h.2 with h0 | ⟨rfl, cap, cur, h1, h2, h3⟩
  · exact .inl h0
  · refine .inr ⟨rfl, cap, cur, h1, ?_, h3⟩
    rcases hb with hb | hb
    · cases hb
    · rw [hb (Array.getElem?_eq_some_iff.1 h2).1]; exact h2
theorem Own.gr (h : Own w z g e sz v xs) (k : Gr w w') : Own w' z g e sz v xs := h.keep (.inr fun hl => k.block g hl)
theorem Own.md (h : Own w z g e sz v xs) (k : Md b w w') (hn : z = 0 ∨ g ≠ b := by omega) : Own w' z g e sz v xs := h.keep (hn.imp id fun hn _ => k.block g hn)
theorem Own.kp (h : Own w z g e sz v xs) (k : Kp ms w w') (hn : z = 0 ∨ g ∉ ms := by (try simp only [List.mem_cons, List.mem_append, mem_zf, List.not_mem_nil, or_false, false_or, not_or, ne_eq, List.nil_append, List.cons_append, true_and, and_true, false_and, and_false, not_true_eq_false, not_false_eq_true, or_true, true_or]) <;> omega) : Own w' z g e sz v xs := h.keep (hn.imp id fun hn hl => k.block g hl hn)
theorem Own.ka (h : Own w z g e sz v xs) (k : Ka z' g' w w') (hn : z = 0 ∨ z' = 0 ∨ g ≠ g' := by omega) : Own w' z g e sz v xs := h.keep (hn.imp id fun hn hl => k.block g hl hn)
theorem Own.lt (h : Own w z g e sz v xs) : z = 0 ∨ (z = 1 ∧ g < w.heap.size) := by
  rcases h.2 with h0 | ⟨rfl, cap, cur, h1, h2, h3⟩
  · exact .inl h0.1
  · exact .inr ⟨rfl, (Array.getElem?_eq_some_iff.1 h2).1⟩
theorem Own.oneB (h : Own w z g e sz v xs) : oneB v = true := by
  rcases h.2 with ⟨_, rfl, _⟩ | ⟨_, cap, cur, rfl, _⟩ <;> rfl
theorem own_nil (w : World) (g : Nat) (e : TypeId) (sz : Nat) : Own w 0 g e sz (.slice none 0 0) [] := ⟨ws_nil _, .inl ⟨rfl, rfl, rfl⟩⟩
theorem Rd.keep (h : Rd w z g o sz v xs) (hb : z = 0 ∨ (g < w.heap.size → w'.heap[g]? = w.heap[g]?)) (hs : w.heap.size ≤ w'.heap.size) : Rd w' z g o sz v xs := by
  refine ⟨h.1, ?_⟩
  rcases h.2 with h0 | ⟨rfl, cap, h1, h2, h3⟩
  · exact .inl h0
  · refine .inr ⟨rfl, cap, h1, ⟨Nat.lt_of_lt_of_le h2.1 hs, h2.2⟩, fun j u hj => ?_⟩
    rcases hb with hb | hb
    · cases hb
    · rw [World.cell?_of_block (hb h2.1)]; exact h3 j u hj
theorem Rd.gr (h : Rd w z g o sz v xs) (k : Gr w w') : Rd w' z g o sz v xs := h.keep (.inr fun hl => k.block g hl) k.size
theorem Rd.md (h : Rd w z g o sz v xs) (k : Md b w w') (hn : z = 0 ∨ g ≠ b := by omega) : Rd w' z g o sz v xs := h.keep (hn.imp id fun hn _ => k.block g hn) (by rw [k.size]; exact Nat.le_refl _)
theorem Rd.kp (h : Rd w z g o sz v xs) (k : Kp ms w w') (hn : z = 0 ∨ g ∉ ms := by (try simp only [List.mem_cons, List.mem_append, mem_zf, List.not_mem_nil, or_false, false_or, not_or, ne_eq, List.nil_append, List.cons_append, true_and, and_true, false_and, and_false, not_true_eq_false, not_false_eq_true, or_true, true_or]) <;> omega) : Rd w' z g o sz v xs := h.keep (hn.imp id fun hn hl => k.block g hl hn) k.size
theorem Rd.ka (h : Rd w z g o sz v xs) (k : Ka z' g' w w') (hn : z = 0 ∨ z' = 0 ∨ g ≠ g' := by omega) : Rd w' z g o sz v xs := h.keep (hn.imp id fun hn hl => k.block g hl hn) k.size
theorem Rd.lt (h : Rd w z g o sz v xs) : z = 0 ∨ (z = 1 ∧ g < w.heap.size) := by
  rcases h.2 with h0 | ⟨rfl, cap, h1, h2, h3⟩
  · exact .inl h0.1
  · exact .inr ⟨rfl, h2.1⟩
theorem Own.lth (h : Own w z g e sz v xs) : Hdn (z = 0 ∨ (z = 1 ∧ g < w.heap.size)) := ⟨h.lt⟩
theorem Rd.lth (h : Rd w z g o sz v xs) : Hdn (z = 0 ∨ (z = 1 ∧ g < w.heap.size)) := ⟨h.lt⟩
theorem Own.rd (h : Own w z g e sz v xs) : Rd w z g 0 sz v xs := by
  refine ⟨h.1, ?_⟩
  rcases h.2 with ⟨h0, h1, h2⟩ | ⟨rfl, cap, cur, h1, h2, h3, h4, h5, h6⟩
  · exact .inl ⟨h0, h2, none, 0, h1⟩
  · refine .inr ⟨rfl, cap, h1, ⟨(Array.getElem?_eq_some_iff.1 h2).1, h3⟩, fun j u hj => ?_⟩
    rw [Nat.zero_add, cell_of_row w g j cur e (0, 0) h2]
    rw [← h6, List.getElem?_take] at hj
    split at hj
    · simpa using hj
    · cases hj
theorem Own.row (h : Own w z g e sz v xs) (hz : z = 1) : w.ownsRow g e sz v xs.length xs.flatten := by
  rcases h.2 with ⟨h0, h1, h2⟩ | ⟨_, cap, cur, h1, h2, h3, h4, h5, h6⟩
  · omega
  · exact ⟨h.1.flat, .inr ⟨g, cap, cur, h1, Nat.le_refl _, h2, h3, h4, h5, h6⟩⟩
theorem Own.rowN (h : Own w z g e sz v xs) (hz : z = 0) (base : Nat) : w.ownsRow base e sz v xs.length xs.flatten := by
  rcases h.2 with ⟨h0, rfl, rfl⟩ | ⟨h0, _⟩
  · exact World.ownsRow_nil _ _ _ _
  · omega
theorem own_row {base n : Nat} (h : w.ownsRow base e sz v n xs.flatten) (hn : n = xs.length) (hw : Ws sz xs) : ∃ z g, Own w z g e sz v xs ∧ v.ownBlock = (if z = 0 then none else some g) ∧ (z = 0 ∨ base ≤ g) := by
  subst hn
  rcases h.2 with ⟨h0, h1⟩ | ⟨g, cap, cur, h1, hb, h2⟩
  · have : xs = [] := List.eq_nil_of_length_eq_zero h1
    subst this
    exact ⟨0, 0, ⟨hw, .inl ⟨rfl, h0, rfl⟩⟩, by rw [h0]; rfl, .inl rfl⟩
  · exact ⟨1, g, ⟨hw, .inr ⟨rfl, cap, cur, h1, h2⟩⟩, by rw [h1]; rfl, .inr hb⟩
end

section
variable {P : Program} {L : Slots} {w : World} {dst : Option Nat} {ty : TypeId} {pos : String} {af : Array Edge} {gu : Option (Nat × Bool)}
variable {x y : Operand} {t : TypeId} {z g o sz : Nat} {e : TypeId} {v : Value} {xs : List (List Value)} {k : IntKind}
theorem vv_len (hu : P.underlying t = some (.slice e)) (hx : ev L x = some v) (hr : Rd w z g o sz v xs) : VV P L ⟨dst, .call { callee := .builtin .len, args := #[x], argTypes := #[t] }, ty, pos, af, gu⟩ w (.int .i64 xs.length) := by
  rcases hr.2 with ⟨_, rfl, a, cap, rfl⟩ | ⟨_, cap, rfl, _⟩
  · exact vv_lenS hu hx
  · exact vv_lenS hu hx
theorem vv_lenN {n : Nat} (hu : P.underlying t = some (.slice e)) (hx : ev L x = some v) (hr : Rd w z g o sz v xs) (hn : xs.length = n) : VV P L ⟨dst, .call { callee := .builtin .len, args := #[x], argTypes := #[t] }, ty, pos, af, gu⟩ w (.int .i64 (n : Int)) := hn ▸ vv_len hu hx hr
theorem vv_ixN {i : Int} {n : Nat} (hu : P.underlying t = some (.slice e)) (hs : Siz P e sz) (hx : ev L x = some v) (hr : Rd w z g o sz v xs) (hn : xs.length = n) (hy : ev L y = some (.int k i)) (h0 : 0 ≤ i) (h1 : i < (n : Int)) :
    VV P L ⟨dst, .indexAddr t x y, ty, pos, af, gu⟩ w (.pointer (some ⟨g, o + i.toNat * sz, none⟩)) := by
  rcases hr.2 with ⟨_, rfl, a, cap, rfl⟩ | ⟨_, cap, rfl, _⟩
  · simp at hn; omega
  · exact vv_indexAddrS hu hs hx hy h0 (by omega)
theorem vv_ix {i : Int} (hu : P.underlying t = some (.slice e)) (hs : Siz P e sz) (hx : ev L x = some v) (hr : Rd w z g o sz v xs) (hy : ev L y = some (.int k i)) (h0 : 0 ≤ i) (h1 : i < xs.length) :
    VV P L ⟨dst, .indexAddr t x y, ty, pos, af, gu⟩ w (.pointer (some ⟨g, o + i.toNat * sz, none⟩)) := by
  rcases hr.2 with ⟨_, rfl, a, cap, rfl⟩ | ⟨_, cap, rfl, _⟩
  · simp at h1; omega
  · exact vv_indexAddrS hu hs hx hy h0 h1
/-- a cell of element i -/
theorem vv_el1 {p i q : Nat} {c : List Value} {u : Value} (h1 : One P t) (hx : ev L x = some (.pointer (some ⟨g, p, none⟩))) (hr : Rd w z g o sz v xs) (hi : xs[i]? = some c) (hp : p = o + (i * sz + q)) (hc : c[q]? = some u) : VV P L ⟨dst, .load t x, ty, pos, af, gu⟩ w u := fun ρ hρ => by
  rcases hr.2 with ⟨_, rfl, _⟩ | ⟨_, cap, rfl, _, hcell⟩
  · simp at hi
  · have hq : q < sz := by
      have h2 := (List.getElem?_eq_some_iff.1 hc).1
      have h3 := (hr.1 c (List.mem_of_getElem? hi)).1
      omega
    have hc' : w.cell? ⟨g, p, none⟩ = some u := by rw [hp]; exact hcell _ _ (by rw [hr.1.at i q c hi hq]; exact hc)
    simp [execOp, hρ _ _ hx, Instr.loadAt, Instr.sureAddr, loadVar, (h1 w).1, hc', go_sem]
/-- some cells of element i, as a struct ¦ array -/
theorem vv_elM {p i q m : Nat} {c vs : List Value} (h1 : Agg P t m) (hx : ev L x = some (.pointer (some ⟨g, p, none⟩))) (hr : Rd w z g o sz v xs) (hi : xs[i]? = some c) (hp : p = o + (i * sz + q)) (hc : (c.drop q).take m = vs) (hl : vs.length = m) : VV P L ⟨dst, .load t x, ty, pos, af, gu⟩ w (.agg vs.toArray) := fun ρ hρ => by
  rcases hr.2 with ⟨_, rfl, _⟩ | ⟨_, cap, rfl, _, hcell⟩
  · simp at hi
  · have h3 := (hr.1 c (List.mem_of_getElem? hi)).1
    have hld : (loadCells ⟨g, p, none⟩ vs.length).run P w = .ok vs.toArray w := run_loadCells_list w _ _ (fun j u hj => by
      rw [Addr.add_lit, hp]
      have hjm : j < m := by rw [← hl]; exact (List.getElem?_eq_some_iff.1 hj).1
      rw [← hc, List.getElem?_take_of_lt hjm, List.getElem?_drop] at hj
      have hq : q + j < sz := by rw [← h3]; exact (List.getElem?_eq_some_iff.1 hj).1
      have := hcell (i * sz + (q + j)) u (by rw [hr.1.at i (q + j) c hi hq]; exact hj)
      rw [← this]; congr 2; omega)
    rw [hl] at hld
    refine run_v ?_
    rw [hρ _ _ hx]
    simp [Instr.loadAt, Instr.sureAddr, loadVar, (h1 w).1, (h1 w).2, hld]
theorem vv_elW {p i : Nat} {c : List Value} (h1 : Agg P t sz) (hx : ev L x = some (.pointer (some ⟨g, p, none⟩))) (hr : Rd w z g o sz v xs) (hi : xs[i]? = some c) (hp : p = o + i * sz) : VV P L ⟨dst, .load t x, ty, pos, af, gu⟩ w (.agg c.toArray) := by
  have hl := (hr.1 c (List.mem_of_getElem? hi)).1
  exact vv_elM (q := 0) h1 hx hr hi (by omega) (by rw [List.drop_zero, List.take_of_length_le (by omega)]) hl

/-- a slice literal -/
def BSl (P : Program) (t : TypeId) (len : Nat) (e : TypeId) (sz : Nat) (zs : List Value) : Prop := ∀ (parts : Array (Nat × Value)) (cs : Array Value) w, Instr.fill (fun i => some (i * sz, sz)) zs.toArray parts.toList = some cs →
  (Instr.buildSlice t len parts).run P w = .ok (.slice (some ⟨w.heap.size, 0, none⟩) len len) (w.alloc (.cells cs e))
theorem bsl_mk {len : Nat} {zv : Value} {zs : List Value} (hu : P.underlying t = some (.slice e)) (hs : Siz P e sz) (hz : ZV P e zv) (hlen : Nat.ble (len * sz) 16777216 = true) (hpos : Nat.ble 1 (len * sz) = true)
    (hzs : (Array.range (len * sz)).map (fun i => zv.cells[i % zv.cells.size]!) = zs.toArray) : BSl P t len e sz zs := fun parts cs w hf => by
  have h1 : ¬ (len * sz > 2 ^ 24) := by have := Nat.le_of_ble_eq_true hlen; omega
  have h2 : ¬ (len * sz = 0) := by have := Nat.le_of_ble_eq_true hpos; omega
  simp only [Instr.buildSlice, Sem.run_bind, run_underlying hu, Result.andThen_ok, hs w, h1, h2, if_false, Sem.run_pure, hz w, hzs, hf]
  simp [newRow, go_sem]
theorem bsl_nil (hu : P.underlying t = some (.slice e)) (hs : Siz P e sz) : BSl P t 0 e sz [] := fun parts cs w hf => by
  simp only [Instr.buildSlice, Sem.run_bind, run_underlying hu, Result.andThen_ok, hs w, Nat.zero_mul, if_true, Sem.run_pure, show ¬ (0 > 2 ^ 24) from by omega, if_false]
  have : ∀ f : Nat → Value, (Array.range 0).map f = #[] := fun f => by simp
  rw [this]
  have hf' : Instr.fill (fun i => some (i * sz, sz)) #[] parts.toList = some cs := hf
  simp [hf', newRow, go_sem]
theorem ev_bsl {len : Nat} {zs cs : List Value} {parts : Array (Nat × Operand)} {vs : List (Nat × Value)} {xs : List (List Value)} (hb : BSl P t len e sz zs) (hp : evp L parts.toList = some vs) (hf : fillL (fun i => some (i * sz, sz)) zs vs = some cs)
    (hw : Ws sz xs) (hx : cs = xs.flatten) (hl : xs.length = len) (hm : Nat.ble len 1000000 = true) :
    EV P L ⟨dst, .buildSlice t len parts, ty, pos, af, gu⟩ w fun v' w' => ∃ g', w.heap.size ≤ g' ∧ Own w' 1 g' e sz v' xs ∧ Gr w w' := fun ρ hρ => by
  have e1 : (parts.map fun (x : Nat × Operand) => (x.1, ρ x.2)) = vs.toArray := by rw [← hρ.mapP hp, ← Array.toList_map]
  have hr := hb vs.toArray cs.toArray w (fill_of vs zs cs hf)
  have hm' := Nat.le_of_ble_eq_true hm
  refine .val _ _ (run_v ?_) ⟨w.heap.size, Nat.le_refl _, ⟨hw, .inr ⟨rfl, len, cs.toArray, by rw [hl], heap_alloc_new w _, by omega, by simp only [maxLen]; omega, ?_, ?_⟩⟩, (Below.refl _ _).alloc (Nat.le_refl _) _⟩
  · show (Instr.buildSlice t len (parts.map fun (x : Nat × Operand) => (x.1, ρ x.2))).run P w = _
    rw [e1]; exact hr
  · subst hx; rw [← hl]; simpa using hw.flat
  · subst hx; rw [← hw.flat]; simp only [List.take_length]

/-- what append wants to know of a slice's type -/
structure ApT (P : Program) (t e : TypeId) (sz bytes : Nat) : Prop where
  und : P.underlying t = some (.slice e)
  info : ∃ i zv, P.info? e = some i ∧ i.zero = some zv ∧ i.size = sz ∧ i.bytes = bytes ∧ zv.cells.size = sz
  pos : 0 < sz
theorem run_app0 {bytes : Nat} (ha : ApT P t e sz bytes) (h : Own w z g e sz v xs) {a : Option Addr} {c : Nat} : (Builtin.append_ #[t, t] ty #[v, .slice a 0 c]).run P w = .ok v w := by
  obtain ⟨i, zv, hi, _, hsz, _⟩ := ha.info
  have hf : (Builtin.firstCells i.size 0 (.slice a 0 c)).run P w = .ok #[] w := by cases a <;> simp [Builtin.firstCells, loadCells, loadCellsFrom]
  rcases h.2 with ⟨_, rfl, rfl⟩ | ⟨_, cap, cur, rfl, h2, h3, _⟩
  · simp [Builtin.append_, run_underlying ha.und, sizeOf, typeInfo, hi, Builtin.lenOf, hf]
  · simp [Builtin.append_, run_underlying ha.und, sizeOf, typeInfo, hi, Builtin.lenOf, hf, h3, storeCells]
theorem ev_app {bytes z2 g2 o2 : Nat} {u : Value} {ys : List (List Value)} (ha : ApT P t e sz bytes) (hx : ev L x = some v) (hy : ev L y = some u) (h : Own w z g e sz v xs) (hr : Rd w z2 g2 o2 sz u ys)
    (hb : (xs.length + ys.length) * bytes ≤ 140737488355328) (hl : xs.length + ys.length ≤ 9223372036854775807) :
    EV P L ⟨dst, .call { callee := .builtin .append, args := #[x, y], argTypes := #[t, t] }, ty, pos, af, gu⟩ w fun v' w' => ∃ z' g', Own w' z' g' e sz v' (xs ++ ys) ∧ Ka z g w w' ∧ (z' = 0 ∨ (z' = 1 ∧ g' < w'.heap.size)) ∧ ((g' = g ∧ z = 1) ∨ w.heap.size ≤ g' ∨ z' = 0) ∧ (z' = 0 → z = 0 ∧ ys.length = 0) := fun ρ hρ => by
  rcases hr.2 with ⟨hz2, rfl, a, cap, rfl⟩ | ⟨hz2, cap, rfl, hlt, hcell⟩
  · refine .val v w ?_ ⟨z, g, by simpa using h, Ka.refl _ _ _, ?_, ?_, fun h0 => ⟨h0, rfl⟩⟩
    · have := run_app0 (ty := ty) ha h (a := a) (c := cap)
      simp [execOp, resolve, invoke, builtin, hρ _ _ hx, hρ _ _ hy, this]
    · rcases h.lt with h1 | h1 <;> omega
    · rcases h.lt with h1 | h1 <;> omega
  · obtain ⟨i, zv, hi, hzv, hsz, hby, hzs⟩ := ha.info
    have hsrc : ∀ j u, ys.flatten[j]? = some u → w.cell? ((⟨g2, o2, none⟩ : Addr).add j) = some u := fun j u hj => by rw [Addr.add_lit]; exact hcell j u hj
    have hml : maxLen = 9223372036854775807 := rfl
    have main : ∀ base, w.ownsRow base e sz v xs.length xs.flatten → base ≤ w.heap.size → ∃ v' w', (Builtin.append_ #[t, t] ty #[v, .slice (some ⟨g2, o2, none⟩) ys.length cap]).run P w = .ok v' w' ∧ w'.ownsRow base e sz v' (xs.length + ys.length) (xs ++ ys).flatten ∧ w.grownBy w' v.ownBlock ∧ (v' = .slice none 0 0 ↔ v = .slice none 0 0 ∧ ys.length = 0) := fun base hrow hbase => by
      obtain ⟨v', w', h1, h2, h3, h4⟩ := run_append_own w base t ty e i zv sz bytes ha.und hi hzv hsz hby hzs ha.pos v xs.length xs.flatten hrow ⟨g2, o2, none⟩ ys.length cap ys.flatten hr.1.flat hsrc hr.1.one (by omega) hb hbase
      exact ⟨v', w', h1, by rw [List.flatten_append]; exact h2, h3, h4⟩
    have fin : ∀ v' w', (Builtin.append_ #[t, t] ty #[v, .slice (some ⟨g2, o2, none⟩) ys.length cap]).run P w = .ok v' w' → (execOp ρ ⟨dst, .call { callee := .builtin .append, args := #[x, y], argTypes := #[t, t] }, ty, pos, af, gu⟩).run P w = .ok (.value v') w' := fun v' w' h1 => by
      simp [execOp, resolve, invoke, builtin, hρ _ _ hx, hρ _ _ hy, h1]
    rcases h.2 with ⟨hz, rfl, rfl⟩ | ⟨hz, cap1, cur, hv, hg, hn1, hc1, hcs, htk⟩
    · obtain ⟨v', w', h1, h2, h3, h4⟩ := main w.heap.size (h.rowN hz _) (Nat.le_refl _)
      obtain ⟨z', g', h5, h6, h7⟩ := own_row h2 (by simp) (ws_append h.1 hr.1)
      refine .val v' w' (fin v' w' h1) ⟨z', g', h5, ⟨h3.os, h3.tape, h3.output, h3.size, fun k hk _ => h3.block k hk (by simp [Value.ownBlock])⟩, h5.lt, by omega, fun h0 => ⟨hz, ?_⟩⟩
      rcases h5.2 with ⟨_, e1, e2⟩ | ⟨e1, _⟩
      · exact (h4.1 e1).2
      · omega
    · have hlt1 := (Array.getElem?_eq_some_iff.1 hg).1
      subst hv
      subst hsz hby
      have hflx := h.1.flat
      have hfly := hr.1.flat
      have hlen : (xs ++ ys).flatten.length = (xs ++ ys).length * i.size := (ws_append h.1 hr.1).flat
      by_cases hroom : xs.length + ys.length ≤ cap1
      · have hfit : xs.length * i.size + ys.flatten.length ≤ cur.size := by rw [hfly, hcs, ← Nat.add_mul]; exact Nat.mul_le_mul_right _ hroom
        have hrun := run_append_room (P := P) w t ty e i ha.und hi g xs.length cap1 cur hg ⟨g2, o2, none⟩ ys.length cap ys.flatten hfly hsrc hr.1.one hroom hfit
        refine .val _ _ (fin _ _ hrun) ⟨1, g, ⟨ws_append h.1 hr.1, .inr ⟨rfl, cap1, _, by rw [List.length_append], setRow_heap w g cur _ e _ hg, by rw [List.length_append]; exact hroom, hc1, ?_, ?_⟩⟩,
          ⟨rfl, rfl, rfl, by simp, fun k _ hk => setRow_other w g k _ (by omega)⟩, .inr ⟨rfl, by simpa using hlt1⟩, .inl ⟨rfl, hz⟩, fun h0 => by omega⟩
        · simp only [List.size_toArray, List.length_append, List.length_take, List.length_drop, Array.length_toList]; omega
        · rw [htk, ← hlen, List.flatten_append]; exact List.take_left
      · have holds : ∀ j u, xs.flatten[j]? = some u → w.cell? ((⟨g, 0, none⟩ : Addr).add j) = some u := (h.row hz).cells (g := g) rfl
        have hrun := run_append_grow (P := P) w t ty e i zv ha.und hi hzv ⟨g, 0, none⟩ xs.length cap1 xs.flatten hflx holds ⟨g2, o2, none⟩ ys.length cap ys.flatten hfly hsrc (by omega) (by omega) (growslice_fits (by omega) hb)
        have hge := grownCap_ge w (xs.length + ys.length) cap1 e
        have hcm : grownCap w (xs.length + ys.length) cap1 e ≤ maxLen := grownCap_le_maxLen w _ cap1 e (by omega)
        refine .val _ _ (fin _ _ hrun) ⟨1, w.heap.size, ⟨ws_append h.1 hr.1, .inr ⟨rfl, _, _, by rw [List.length_append], heap_alloc_new w.drew _, by rw [List.length_append]; exact hge, hcm, ?_, ?_⟩⟩,
          ⟨rfl, rfl, rfl, by simp, fun k hk _ => heap_alloc_old w.drew _ hk⟩, .inr ⟨rfl, by simp⟩, .inr (.inl (Nat.le_refl _)), fun h0 => by omega⟩
        · simp only [Array.size_append, List.size_toArray, size_zeroCells, hzs, hflx, hfly, ← Nat.add_mul]
          congr 1
          omega
        · simp only [Array.toList_append, List.append_assoc]
          rw [← hlen, List.flatten_append, ← List.append_assoc]
          exact List.take_left
/-- closed: what append wants to know of the elements' type -/
def infB (P : Program) (e : TypeId) (sz bytes : Nat) : Bool := match P.info? e with
  | some i => (match i.zero with | some zv => i.size == sz && i.bytes == bytes && zv.cells.size == sz | none => false)
  | none => false
theorem apt_mk {bytes : Nat} (hu : P.underlying t = some (.slice e)) (hpos : Nat.ble 1 sz = true) (h : infB P e sz bytes = true) : ApT P t e sz bytes := by
  refine ⟨hu, ?_, Nat.le_of_ble_eq_true hpos⟩
  unfold infB at h
  split at h
  · rename_i i hi
    split at h
    · rename_i zv hz
      simp only [Bool.and_eq_true, beq_iff_eq] at h
      exact ⟨i, zv, hi, hz, h.1.1, h.1.2, h.2⟩
    · cases h
  · cases h
theorem rd_nil (w : World) (g o sz : Nat) : Rd w 0 g o sz (.slice none 0 0) [] := ⟨ws_nil _, .inl ⟨rfl, rfl, none, 0, rfl⟩⟩
/-- cells, sz by sz -/
def chunk (sz : Nat) : Nat → List Value → List (List Value)
  | 0, _ => []
  | n + 1, cs => cs.take sz :: chunk sz n (cs.drop sz)
def wsB (sz : Nat) : List (List Value) → Bool
  | [] => true
  | x :: xs => bif Nat.beq x.length sz then (bif ones x then wsB sz xs else false) else false
theorem ws_of {xs : List (List Value)} : wsB sz xs = true → Ws sz xs := by
  induction xs with
  | nil => exact fun _ => ws_nil _
  | cons x xs ih =>
    intro h
    unfold wsB at h
    cases h1 : Nat.beq x.length sz with
    | false => rw [h1] at h; cases h
    | true =>
      rw [h1] at h
      cases h2 : ones x with
      | false => rw [h2] at h; cases h
      | true => rw [h2] at h; exact ws_cons (Nat.eq_of_beq_eq_true h1) h2 (ih h)
theorem chunk_flat : ∀ (n : Nat) (cs : List Value), cs.length = n * sz → cs = (chunk sz n cs).flatten
  | 0, cs, h => by simp at h; subst h; rfl
  | n + 1, cs, h => by
    unfold chunk
    rw [List.flatten_cons, ← chunk_flat n (cs.drop sz) (by rw [List.length_drop, h, Nat.add_mul]; omega), List.take_append_drop]
theorem chunk_len : ∀ (n : Nat) (cs : List Value), (chunk sz n cs).length = n
  | 0, _ => rfl
  | n + 1, cs => by unfold chunk; rw [List.length_cons, chunk_len n]
theorem ev_lit {len : Nat} {zs cs : List Value} {parts : Array (Nat × Operand)} {vs : List (Nat × Value)} (hb : BSl P t len e sz zs) (hp : evp L parts.toList = some vs) (hf : fillL (fun i => some (i * sz, sz)) zs vs = some cs)
    (hl : cs.length = len * sz) (hw : wsB sz (chunk sz len cs) = true) (hm : Nat.ble len 1000000 = true) :
    EV P L ⟨dst, .buildSlice t len parts, ty, pos, af, gu⟩ w fun v' w' => ∃ g', w.heap.size ≤ g' ∧ Own w' 1 g' e sz v' (chunk sz len cs) ∧ Gr w w' :=
  ev_bsl hb hp hf (ws_of hw) (chunk_flat len cs hl) (chunk_len len cs) hm
end
/-- drawn: an append -/
theorem dd_ap {P : Program} {n : Nat} {ops : Array Oper} {Q : Slots → World → Prop} {rest : List (Nat × Nat)} {i : Nat} {dst : Option Nat} {op : Op} {ty : TypeId} {pos : String} {af : Array Edge} {gu : Option (Nat × Bool)} {L : Slots} {w w₀ : World} {ms : List Nat} {kp : Nat → Nat → Bool}
    {R : Value → World → Prop} {z g : Nat} (hi : ops[i]? = some ⟨dst, op, ty, pos, af, gu⟩) (hk : kp 0 i = false) (hg : gd ops L ⟨dst, op, ty, pos, af, gu⟩ = some true) (hd : inN n dst = true) (hv : EV P L ⟨dst, op, ty, pos, af, gu⟩ w R) (hb : z = 0 ∨ g ∈ ms ∨ w₀.heap.size ≤ g)
    (h : ∀ v w', R v w' → Ka z g w w' ∧ SD P n ops Q (Hld ms w₀) kp rest (putL dst v L) w') : SD P n ops Q (Hld ms w₀) kp ((i, 2) :: rest) L w :=
  ⟨_, hi, hd, .inl ⟨hg, R, hv, fun v w' hR => ⟨fun lv hk' hS => by
    cases lv with
    | zero => rw [hk] at hk'; cases hk'
    | succ k => exact Kp.ka hS (h v w' hR).1 hb, (h v w' hR).2⟩⟩⟩
/-! ### slices of arrays -/
section
variable {P : Program} {L : Slots} {w : World} {dst : Option Nat} {ty : TypeId} {pos : String} {af : Array Edge} {gu : Option (Nat × Bool)} {x : Operand} {t e : TypeId} {sz : Nat}
/-- a bound of a slice expression -/
def OB (L : Slots) (o : Option Operand) (d v : Nat) : Prop := match o with
  | none => v = d
  | some x => ∃ k, ev L x = some (.int k (v : Int))
theorem vv_sliceA {n l h b' off : Nat} {lo hi : Option Operand} (hu : P.underlying t = some (.array n e)) (hs : Siz P e sz) (hx : ev L x = some (.pointer (some ⟨b', off, none⟩))) (hlo : OB L lo 0 l) (hhi : OB L hi n h) (h1 : l ≤ h) (h2 : h ≤ n) (h3 : l < n) :
    VV P L ⟨dst, .slice t x lo hi none, ty, pos, af, gu⟩ w (.slice (some ⟨b', off + l * sz, none⟩) (h - l) (n - l)) := fun ρ hρ => by
  have hne : ¬ (n = l) := by omega
  refine run_v ?_
  show (Instr.sliceAt t (ρ x) (lo.map ρ) (hi.map ρ) none).run P w = _
  rw [hρ _ _ hx]
  cases lo with
  | none =>
    simp [OB] at hlo; subst hlo
    cases hi with
    | none => simp [OB] at hhi; subst hhi; simp [Instr.sliceAt, run_underlying hu, Instr.sureAddr, Instr.sliceBounds, hs w, hne, Addr.add]
    | some o =>
      obtain ⟨k, ho⟩ := hhi
      simp [Instr.sliceAt, run_underlying hu, Instr.sureAddr, Instr.sliceBounds, hρ _ _ ho, Instr.sliceBound, asIntOf, h2, hs w, hne, Addr.add]
  | some o1 =>
    obtain ⟨k1, ho1⟩ := hlo
    cases hi with
    | none => simp [OB] at hhi; subst hhi; simp [Instr.sliceAt, run_underlying hu, Instr.sureAddr, Instr.sliceBounds, hρ _ _ ho1, Instr.sliceBound, asIntOf, h1, hs w, hne, Addr.add_lit]
    | some o =>
      obtain ⟨k, ho⟩ := hhi
      simp [Instr.sliceAt, run_underlying hu, Instr.sureAddr, Instr.sliceBounds, hρ _ _ ho, hρ _ _ ho1, Instr.sliceBound, asIntOf, h1, h2, hs w, hne, Addr.add_lit]
theorem rd_seg {b o m cap : Nat} {cs : List Value} {xs : List (List Value)} (hb : Bx w b t cs) (hw : Ws sz xs) (hl : xs.length = m) (hs : (cs.drop o).take xs.flatten.length = xs.flatten) (hcap : Nat.ble m cap = true := by rfl) : Rd w 1 b o sz (.slice (some ⟨b, o, none⟩) m cap) xs := by
  refine ⟨hw, .inr ⟨rfl, cap, by rw [hl], ⟨hb.lt, by rw [hl]; exact Nat.le_of_ble_eq_true hcap⟩, fun j u hj => ?_⟩⟩
  have hjl := (List.getElem?_eq_some_iff.1 hj).1
  rw [← hs, List.getElem?_take_of_lt hjl, List.getElem?_drop] at hj
  rw [hb.cell]; exact hj
end
/-! ### results, each by itself -/
section
variable {P : Program} {fn : Func} {L : Slots} {w : World}
def rval (tmps : Array Value) : ResultVar → Sem Value
  | .tmp t => pure (tmps.getD t undef)
  | .cell a t => do loadVar t (← asAddr (tmps.getD a undef))
def RV (P : Program) (r : ResultVar) (L : Slots) (w : World) (v : Value) : Prop := ∀ n D a, FOk n D L a → (rval a.tmps r).run P w = .ok v w
theorem rv_tmp {t : Nat} {v : Value} (hv : lk t L = some v) : RV P (.tmp t) L w v := fun n D a ha => by
  have := ha.get t v hv
  simp [rval, Array.getD_eq_getD_getElem?, this]
theorem rv_cellW {t b m : Nat} {ty tb : TypeId} {cs : List Value} (h1 : Agg P ty m) (hv : lk t L = some (.pointer (some ⟨b, 0, none⟩))) (hb : Bx w b tb cs) (hl : cs.length = m) : RV P (.cell t ty) L w (.agg cs.toArray) := fun n D a ha => by
  have hc : (loadCells ⟨b, 0, none⟩ cs.length).run P w = .ok cs.toArray w := run_loadCells_list w _ _ (fun j v hj => by rw [Addr.add_lit, hb.cell, Nat.zero_add]; exact hj)
  rw [hl] at hc
  have := ha.get t _ hv
  simp [rval, this, asAddr, loadVar, (h1 w).1, (h1 w).2, hc]
theorem rv_cell1 {t b : Nat} {ty tb : TypeId} {v : Value} (h1 : One P ty) (hv : lk t L = some (.pointer (some ⟨b, 0, none⟩))) (hb : Bx w b tb [v]) : RV P (.cell t ty) L w v := fun n D a ha => by
  have hc : w.cell? ⟨b, 0, none⟩ = some v := by rw [hb.cell]; rfl
  have := ha.get t _ hv
  simp [rval, this, asAddr, loadVar, (h1 w).1, hc]
theorem res_1 {r : ResultVar} {v : Value} (h : fn.results = #[r]) (h1 : RV P r L w v) : RES P fn L w v := fun n D a ha => by
  have e := h1 n D a ha
  have : (results fn a.tmps) = (do let vs ← fn.results.mapM (rval a.tmps); pure (if h : vs.size = 1 then vs[0] else .tuple vs)) := by
    unfold results; congr 2
  rw [this, h]; simp [e]
theorem res_2 {r1 r2 : ResultVar} {v1 v2 : Value} (h : fn.results = #[r1, r2]) (h1 : RV P r1 L w v1) (h2 : RV P r2 L w v2) : RES P fn L w (.tuple [v1, v2].toArray) := fun n D a ha => by
  have e1 := h1 n D a ha
  have e2 := h2 n D a ha
  have : (results fn a.tmps) = (do let vs ← fn.results.mapM (rval a.tmps); pure (if h : vs.size = 1 then vs[0] else .tuple vs)) := by
    unfold results; congr 2
  rw [this, h]; simp [e1, e2]
theorem res_3 {r1 r2 r3 : ResultVar} {v1 v2 v3 : Value} (h : fn.results = #[r1, r2, r3]) (h1 : RV P r1 L w v1) (h2 : RV P r2 L w v2) (h3 : RV P r3 L w v3) : RES P fn L w (.tuple [v1, v2, v3].toArray) := fun n D a ha => by
  have e1 := h1 n D a ha
  have e2 := h2 n D a ha
  have e3 := h3 n D a ha
  have : (results fn a.tmps) = (do let vs ← fn.results.mapM (rval a.tmps); pure (if h : vs.size = 1 then vs[0] else .tuple vs)) := by
    unfold results; congr 2
  rw [this, h]; simp [e1, e2, e3]
end
end Go.Sx
