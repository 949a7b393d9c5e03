/- How the arguments' types are opened. Printed by rows2.py. -/
import Derived.Test.YtkdghilkigojgaaOpn
import Derived.Test.YtkdghilkigojgaaRows
import Derived.KernelRfl
import Derived.Test.YtkdghilkigojgaaQiM
set_option linter.unusedVariables false
set_option linter.unusedSimpArgs false
set_option maxRecDepth 100000
namespace Go.Sx
open Go Go.RowKit Go.Proofs
def TLabel.ok (x : TLabel) : Prop := I64 x.Node ∧ I64 x.Minus
theorem op_TLabel {H : Type} {enc : TypeId × Value → H} {W : World} {fuel : Nat} {cs : List Value} {x : DataW H × List MemPlace} (h : Tr enc Try.prog W fuel 88 cs x) : ∃ (m : TLabel), cs = TLabel.cs m ∧ TLabel.ok m := by
  obtain ⟨xs, n, rfl, rfl, hl, hx, hf⟩ := DataW.trod_struct Try.underlying88 h
  replace hl : cs.length = 18 := hl.trans (by kernel_rfl)
  replace hx : xs.length = 3 := hx
  obtain ⟨y0, e0⟩ := some_at (i := 0) hx rfl
  have h0 : Tr enc Try.prog W n 3 ((cs.drop 0).take 1) y0 := fld hf (i := 0) rfl rfl rfl (by kernel_rfl) e0
  obtain ⟨m0, c0, k0⟩ := op_i64 Try.underlying3 h0
  obtain ⟨y1, e1⟩ := some_at (i := 1) hx rfl
  have h1 : Tr enc Try.prog W n 3 ((cs.drop 1).take 1) y1 := fld hf (i := 1) rfl rfl rfl (by kernel_rfl) e1
  obtain ⟨m1, c1, k1⟩ := op_i64 Try.underlying3 h1
  obtain ⟨y2, e2⟩ := some_at (i := 2) hx rfl
  have h2 : Tr enc Try.prog W n 23 ((cs.drop 2).take 16) y2 := fld hf (i := 2) rfl rfl rfl (by kernel_rfl) e2
  obtain ⟨m2, c2⟩ := op_key Try.underlying23 Try.underlying5 (by kernel_rfl) (by kernel_rfl) h2
  have q := cat_end hl
  replace q := cat_step (o := 2) (k := 16) c2 q
  replace q := cat_step (o := 1) (k := 1) c1 q
  replace q := cat_step (o := 0) (k := 1) c0 q
  exact ⟨⟨m0, m1, m2⟩, q, ⟨k0, k1⟩⟩
def TPunctured.ok (x : TPunctured) : Prop := I64 x.Depth ∧ ((∀ a ∈ x.Labels, TLabel.ok a) ∧ x.Labels.length * 32 ≤ 140737488351232)
theorem op_TPunctured {H : Type} {enc : TypeId × Value → H} {W : World} {fuel : Nat} {cs : List Value} {x : DataW H × List MemPlace} (h : Tr enc Try.prog W fuel 76 cs x) (hw : Sz Try.prog 76 x.1) : ∃ (m : TPunctured) (v0 : Value) (z0 g0 o0 : Nat), cs = TPunctured.cs m v0 ∧ Rd W z0 g0 o0 18 v0 (m.Labels.map TLabel.cs) ∧ TPunctured.ok m := by
  obtain ⟨xs, n, rfl, rfl, hl, hx, hf⟩ := DataW.trod_struct Try.underlying76 h
  replace hl : cs.length = 2 := hl.trans (by kernel_rfl)
  replace hx : xs.length = 2 := hx
  obtain ⟨y0, e0⟩ := some_at (i := 0) hx rfl
  have h0 : Tr enc Try.prog W n 3 ((cs.drop 0).take 1) y0 := fld hf (i := 0) rfl rfl rfl (by kernel_rfl) e0
  obtain ⟨m0, c0, k0⟩ := op_i64 Try.underlying3 h0
  obtain ⟨y1, e1⟩ := some_at (i := 1) hx rfl
  have h1 : Tr enc Try.prog W n 29 ((cs.drop 1).take 1) y1 := fld hf (i := 1) rfl rfl rfl (by kernel_rfl) e1
  obtain ⟨m1, v0_, z0_, g0_, o0_, c1, R0_, k1, l1⟩ := op_sl (c := TLabel.cs) (ok := fun a => TLabel.ok a) (sz := 18) (bytes := 32) Try.underlying29 (by kernel_rfl) (by kernel_rfl) (by decide) (fun _ => ⟨rfl, rfl⟩) (fun _ _ _ h => op_TLabel h) h1 (sz_field Try.underlying76 hw (i := 1) rfl (by rw [List.getElem?_map, e1]; rfl))
  have q := cat_end hl
  replace q := cat_step (o := 1) (k := 1) c1 q
  replace q := cat_step (o := 0) (k := 1) c0 q
  exact ⟨⟨m0, m1⟩, v0_, z0_, g0_, o0_, q, R0_, ⟨k0, ⟨k1, l1⟩⟩⟩
end Go.Sx
