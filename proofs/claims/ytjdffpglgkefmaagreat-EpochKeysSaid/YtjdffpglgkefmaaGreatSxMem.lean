/- SX: what becomes of memory. -/
import Derived.Test.YtjdffpglgkefmaaGreatSxDraw
import Derived.Laws.Rows
set_option linter.unusedVariables false
set_option linter.unusedSimpArgs false
namespace Go.Sx
open Go Go.RowKit

/-! ### memory -/
/-- a fact that omega is not to see -/
structure Hdn (p : Prop) : Prop where
  o : p
/-- the block of a slice, if it has one -/
def zf (z g : Nat) : List Nat := if z = 0 then [] else [g]
theorem mem_zf {z g x : Nat} : x ∈ zf z g ↔ (z ≠ 0 ∧ x = g) := by unfold zf; split <;> simp_all
/-- a block of cells, none of them frozen -/
def Bx (w : World) (b : Nat) (t : TypeId) (cs : List Value) : Prop := w.heap[b]? = some (.cells cs.toArray t (0, 0))
/-- only block b has turned -/
structure Md (b : Nat) (w w' : World) : Prop where
  os : w'.os = w.os
  tape : w'.tape = w.tape
  output : w'.output = w.output
  size : w'.heap.size = w.heap.size
  block : ∀ k, k ≠ b → w'.heap[k]? = w.heap[k]?
abbrev Gr (w w' : World) : Prop := Below w.heap.size w w'
section
variable {w w' : World} {b c : Nat} {t : TypeId} {cs : List Value}
theorem Bx.lt (h : Bx w b t cs) : b < w.heap.size := (Array.getElem?_eq_some_iff.1 h).1
theorem Bx.gr (h : Bx w b t cs) (g : Gr w w') : Bx w' b t cs := (g.block b h.lt).trans h
theorem Bx.below {B : Nat} (h : Bx w b t cs) (g : Below B w w') (hb : b < B) : Bx w' b t cs := (g.block b hb).trans h
theorem Bx.md (h : Bx w c t cs) (m : Md b w w') (ne : c ≠ b := by omega) : Bx w' c t cs := (m.block c ne).trans h
theorem Bx.cell (h : Bx w b t cs) (off : Nat) : w.cell? ⟨b, off, none⟩ = cs[off]? := by rw [cell_of_row w b off _ t _ h]; simp
theorem Bx.drew (h : Bx w b t cs) : Bx w.drew b t cs := h
theorem Gr.refl (w : World) : Gr w w := Below.refl _ _
theorem Gr.drew (w : World) : Gr w w.drew := (Below.refl _ _).drew
theorem Gr.trans {w₁ w₂ w₃ : World} (h : Gr w₁ w₂) (k : Gr w₂ w₃) : Gr w₁ w₃ := Below.trans h (k.mono h.size)
theorem Gr.below {B : Nat} {w₁ w₂ w₃ : World} (h : Below B w₁ w₂) (hB : B ≤ w₂.heap.size) (k : Gr w₂ w₃) : Below B w₁ w₃ := Below.trans h (k.mono hB)
theorem Md.refl (b : Nat) (w : World) : Md b w w := ⟨rfl, rfl, rfl, rfl, fun _ _ => rfl⟩
theorem Md.trans {w₁ w₂ w₃ : World} (h : Md b w₁ w₂) (k : Md b w₂ w₃) : Md b w₁ w₃ := ⟨k.os.trans h.os, k.tape.trans h.tape, k.output.trans h.output, k.size.trans h.size, fun i hi => (k.block i hi).trans (h.block i hi)⟩
theorem Md.below {B : Nat} {w₀ : World} (h : Below B w₀ w) (m : Md b w w') (hb : B ≤ b) : Below B w₀ w' :=
  ⟨m.os.trans h.os, m.tape.trans h.tape, m.output.trans h.output, by rw [m.size]; exact h.size, fun k hk => (m.block k (by omega)).trans (h.block k hk)⟩
theorem Md.of_setCell (hb : Bx w b t cs) (off : Nat) (v : Value) : Md b w (w.setCell ⟨b, off, none⟩ v) ∧ Bx (w.setCell ⟨b, off, none⟩ v) b t (cs.set off v) := by
  refine ⟨⟨rfl, rfl, rfl, by simp [World.setCell], fun k hk => heap_setCell_other w ⟨b, off, none⟩ k v hk⟩, ?_⟩
  unfold Bx at *
  rw [heap_setCell_same w b off _ t v hb]
  simp
end

theorem Gr.md {w w₁ w₂ : World} {b : Nat} (h : Gr w w₁) (m : Md b w₁ w₂) (hb : w.heap.size ≤ b := by omega) : Gr w w₂ := Md.below h m hb
/-- of the blocks of w only those of ms may have turned -/
structure Kp (ms : List Nat) (w w' : World) : Prop where
  os : w'.os = w.os
  tape : w'.tape = w.tape
  output : w'.output = w.output
  size : w.heap.size ≤ w'.heap.size
  block : ∀ k, k < w.heap.size → k ∉ ms → w'.heap[k]? = w.heap[k]?
theorem Kp.refl (ms : List Nat) (w : World) : Kp ms w w := ⟨rfl, rfl, rfl, Nat.le_refl _, fun _ _ _ => rfl⟩
theorem Kp.gr {ms : List Nat} {w w₁ w₂ : World} (h : Kp ms w w₁) (g : Gr w₁ w₂) : Kp ms w w₂ := ⟨g.os.trans h.os, g.tape.trans h.tape, g.output.trans h.output, Nat.le_trans h.size g.size, fun k hk hm => (g.block k (Nat.lt_of_lt_of_le hk h.size)).trans (h.block k hk hm)⟩
theorem Kp.md {ms : List Nat} {w w₁ w₂ : World} {b : Nat} (h : Kp ms w w₁) (m : Md b w₁ w₂) (hb : b ∈ ms ∨ w.heap.size ≤ b := by (try simp only [List.mem_cons, List.mem_append, mem_zf, List.not_mem_nil, or_false, false_or, not_or, ne_eq, List.nil_append, List.cons_append, true_and, and_true, false_and, and_false, not_true_eq_false, not_false_eq_true, or_true, true_or]) <;> omega) : Kp ms w w₂ := ⟨m.os.trans h.os, m.tape.trans h.tape, m.output.trans h.output, by rw [m.size]; exact h.size, fun k hk hm => (m.block k (by rintro rfl; rcases hb with hb | hb; exact hm hb; omega)).trans (h.block k hk hm)⟩
theorem Bx.kp {ms : List Nat} {w w' : World} {b : Nat} {t : TypeId} {cs : List Value} (h : Bx w b t cs) (g : Kp ms w w') (hn : b ∉ ms := by (try simp only [List.mem_cons, List.mem_append, mem_zf, List.not_mem_nil, or_false, false_or, not_or, ne_eq, List.nil_append, List.cons_append, true_and, and_true, false_and, and_false, not_true_eq_false, not_false_eq_true, or_true, true_or]) <;> omega) : Bx w' b t cs := (g.block b h.lt hn).trans h
theorem Gr.kp {ms : List Nat} {w w₁ w₂ : World} (h : Gr w w₁) (g : Kp ms w₁ w₂) (hm : ∀ b ∈ ms, w.heap.size ≤ b) : Gr w w₂ :=
  ⟨g.os.trans h.os, g.tape.trans h.tape, g.output.trans h.output, Nat.le_trans h.size g.size, fun k hk => (g.block k (Nat.lt_of_lt_of_le hk h.size) (fun hb => by have := hm k hb; omega)).trans (h.block k hk)⟩


/-- what is held in a drawn region that begins at w₀: all memory; all but the blocks ms -/
def Hld (ms : List Nat) (w₀ : World) : Nat → World → Prop
  | 0, w => Gr w₀ w
  | _, w => Kp ms w₀ w
end Go.Sx
