/- How the arguments' types are opened. Printed by rows2.py. -/
import Derived.Test.YtkdghilkigojgaaOpn
import Derived.Test.YtkdghilkigojgaaRows
import Derived.KernelRfl
import Derived.Test.YtkdghilkigojgaaPnM
set_option linter.unusedVariables false
set_option linter.unusedSimpArgs false
set_option maxRecDepth 100000
namespace Go.Sx
open Go Go.RowKit Go.Proofs
theorem op_TGroup {H : Type} {enc : TypeId × Value → H} {W : World} {fuel : Nat} {cs : List Value} {x : DataW H × List MemPlace} (h : Tr enc Try.prog W fuel 26 cs x) : ∃ (m : TGroup), cs = TGroup.cs m := by
  obtain ⟨xs, n, rfl, rfl, hl, hx, hf⟩ := DataW.trod_struct Try.underlying26 h
  replace hl : cs.length = 3 := hl.trans (by kernel_rfl)
  replace hx : xs.length = 3 := hx
  obtain ⟨y0, e0⟩ := some_at (i := 0) hx rfl
  have h0 : Tr enc Try.prog W n 24 ((cs.drop 0).take 1) y0 := fld hf (i := 0) rfl rfl rfl (by kernel_rfl) e0
  obtain ⟨m0, c0⟩ := op_u64 Try.underlying24 h0
  obtain ⟨y1, e1⟩ := some_at (i := 1) hx rfl
  have h1 : Tr enc Try.prog W n 24 ((cs.drop 1).take 1) y1 := fld hf (i := 1) rfl rfl rfl (by kernel_rfl) e1
  obtain ⟨m1, c1⟩ := op_u64 Try.underlying24 h1
  obtain ⟨y2, e2⟩ := some_at (i := 2) hx rfl
  have h2 : Tr enc Try.prog W n 24 ((cs.drop 2).take 1) y2 := fld hf (i := 2) rfl rfl rfl (by kernel_rfl) e2
  obtain ⟨m2, c2⟩ := op_u64 Try.underlying24 h2
  have q := cat_end hl
  replace q := cat_step (o := 2) (k := 1) c2 q
  replace q := cat_step (o := 1) (k := 1) c1 q
  replace q := cat_step (o := 0) (k := 1) c0 q
  exact ⟨⟨m0, m1, m2⟩, q⟩
def TScheme.ok (x : TScheme) : Prop := I64 x.Depth ∧ I64 x.Degree
theorem op_TScheme {H : Type} {enc : TypeId × Value → H} {W : World} {fuel : Nat} {cs : List Value} {x : DataW H × List MemPlace} (h : Tr enc Try.prog W fuel 28 cs x) : ∃ (m : TScheme), cs = TScheme.cs m ∧ TScheme.ok m := by
  obtain ⟨xs, n, rfl, rfl, hl, hx, hf⟩ := DataW.trod_struct Try.underlying28 h
  replace hl : cs.length = 6 := hl.trans (by kernel_rfl)
  replace hx : xs.length = 4 := hx
  obtain ⟨y0, e0⟩ := some_at (i := 0) hx rfl
  have h0 : Tr enc Try.prog W n 5 ((cs.drop 0).take 1) y0 := fld hf (i := 0) rfl rfl rfl (by kernel_rfl) e0
  obtain ⟨m0, c0⟩ := op_u8 Try.underlying5 h0
  obtain ⟨y1, e1⟩ := some_at (i := 1) hx rfl
  have h1 : Tr enc Try.prog W n 3 ((cs.drop 1).take 1) y1 := fld hf (i := 1) rfl rfl rfl (by kernel_rfl) e1
  obtain ⟨m1, c1, k1⟩ := op_i64 Try.underlying3 h1
  obtain ⟨y2, e2⟩ := some_at (i := 2) hx rfl
  have h2 : Tr enc Try.prog W n 3 ((cs.drop 2).take 1) y2 := fld hf (i := 2) rfl rfl rfl (by kernel_rfl) e2
  obtain ⟨m2, c2, k2⟩ := op_i64 Try.underlying3 h2
  obtain ⟨y3, e3⟩ := some_at (i := 3) hx rfl
  have h3 : Tr enc Try.prog W n 26 ((cs.drop 3).take 3) y3 := fld hf (i := 3) rfl rfl rfl (by kernel_rfl) e3
  obtain ⟨m3, c3⟩ := op_TGroup h3
  have q := cat_end hl
  replace q := cat_step (o := 3) (k := 3) c3 q
  replace q := cat_step (o := 2) (k := 1) c2 q
  replace q := cat_step (o := 1) (k := 1) c1 q
  replace q := cat_step (o := 0) (k := 1) c0 q
  exact ⟨⟨m0, m1, m2, m3⟩, q, ⟨k1, k2⟩⟩
def TLabel.ok (x : TLabel) : Prop := I64 x.Node ∧ I64 x.Minus
theorem op_TLabel {H : Type} {enc : TypeId × Value → H} {W : World} {fuel : Nat} {cs : List Value} {x : DataW H × List MemPlace} (h : Tr enc Try.prog W fuel 88 cs x) : ∃ (m : TLabel), cs = TLabel.cs m ∧ TLabel.ok m := by
  obtain ⟨xs, n, rfl, rfl, hl, hx, hf⟩ := DataW.trod_struct Try.underlying88 h
  replace hl : cs.length = 18 := hl.trans (by kernel_rfl)
  replace hx : xs.length = 3 := hx
  obtain ⟨y0, e0⟩ := some_at (i := 0) hx rfl
  have h0 : Tr enc Try.prog W n 3 ((cs.drop 0).take 1) y0 := fld hf (i := 0) rfl rfl rfl (by kernel_rfl) e0
  obtain ⟨m0, c0, k0⟩ := op_i64 Try.underlying3 h0
  obtain ⟨y1, e1⟩ := some_at (i := 1) hx rfl
  have h1 : Tr enc Try.prog W n 3 ((cs.drop 1).take 1) y1 := fld hf (i := 1) rfl rfl rfl (by kernel_rfl) e1
  obtain ⟨m1, c1, k1⟩ := op_i64 Try.underlying3 h1
  obtain ⟨y2, e2⟩ := some_at (i := 2) hx rfl
  have h2 : Tr enc Try.prog W n 23 ((cs.drop 2).take 16) y2 := fld hf (i := 2) rfl rfl rfl (by kernel_rfl) e2
  obtain ⟨m2, c2⟩ := op_key Try.underlying23 Try.underlying5 (by kernel_rfl) (by kernel_rfl) h2
  have q := cat_end hl
  replace q := cat_step (o := 2) (k := 16) c2 q
  replace q := cat_step (o := 1) (k := 1) c1 q
  replace q := cat_step (o := 0) (k := 1) c0 q
  exact ⟨⟨m0, m1, m2⟩, q, ⟨k0, k1⟩⟩
theorem op_TPoint {H : Type} {enc : TypeId × Value → H} {W : World} {fuel : Nat} {cs : List Value} {x : DataW H × List MemPlace} (h : Tr enc Try.prog W fuel 31 cs x) : ∃ (m : TPoint), cs = TPoint.cs m := by
  obtain ⟨xs, n, rfl, rfl, hl, hx, hf⟩ := DataW.trod_struct Try.underlying31 h
  replace hl : cs.length = 2 := hl.trans (by kernel_rfl)
  replace hx : xs.length = 2 := hx
  obtain ⟨y0, e0⟩ := some_at (i := 0) hx rfl
  have h0 : Tr enc Try.prog W n 24 ((cs.drop 0).take 1) y0 := fld hf (i := 0) rfl rfl rfl (by kernel_rfl) e0
  obtain ⟨m0, c0⟩ := op_u64 Try.underlying24 h0
  obtain ⟨y1, e1⟩ := some_at (i := 1) hx rfl
  have h1 : Tr enc Try.prog W n 24 ((cs.drop 1).take 1) y1 := fld hf (i := 1) rfl rfl rfl (by kernel_rfl) e1
  obtain ⟨m1, c1⟩ := op_u64 Try.underlying24 h1
  have q := cat_end hl
  replace q := cat_step (o := 1) (k := 1) c1 q
  replace q := cat_step (o := 0) (k := 1) c0 q
  exact ⟨⟨m0, m1⟩, q⟩
def TSecret.ok (x : TSecret) : Prop := I64 x.Receiver ∧ ((∀ a ∈ x.Labels, TLabel.ok a) ∧ x.Labels.length * 32 ≤ 140737488351232)
theorem op_TSecret {H : Type} {enc : TypeId × Value → H} {W : World} {fuel : Nat} {cs : List Value} {x : DataW H × List MemPlace} (h : Tr enc Try.prog W fuel 33 cs x) (hw : Sz Try.prog 33 x.1) : ∃ (m : TSecret) (v0 : Value) (z0 g0 o0 : Nat), cs = TSecret.cs m v0 ∧ Rd W z0 g0 o0 18 v0 (m.Labels.map TLabel.cs) ∧ TSecret.ok m := by
  obtain ⟨xs, n, rfl, rfl, hl, hx, hf⟩ := DataW.trod_struct Try.underlying33 h
  replace hl : cs.length = 4 := hl.trans (by kernel_rfl)
  replace hx : xs.length = 3 := hx
  obtain ⟨y0, e0⟩ := some_at (i := 0) hx rfl
  have h0 : Tr enc Try.prog W n 3 ((cs.drop 0).take 1) y0 := fld hf (i := 0) rfl rfl rfl (by kernel_rfl) e0
  obtain ⟨m0, c0, k0⟩ := op_i64 Try.underlying3 h0
  obtain ⟨y1, e1⟩ := some_at (i := 1) hx rfl
  have h1 : Tr enc Try.prog W n 29 ((cs.drop 1).take 1) y1 := fld hf (i := 1) rfl rfl rfl (by kernel_rfl) e1
  obtain ⟨m1, v0_, z0_, g0_, o0_, c1, R0_, k1, l1⟩ := op_sl (c := TLabel.cs) (ok := fun a => TLabel.ok a) (sz := 18) (bytes := 32) Try.underlying29 (by kernel_rfl) (by kernel_rfl) (by decide) (fun _ => ⟨rfl, rfl⟩) (fun _ _ _ h => op_TLabel h) h1 (sz_field Try.underlying33 hw (i := 1) rfl (by rw [List.getElem?_map, e1]; rfl))
  obtain ⟨y2, e2⟩ := some_at (i := 2) hx rfl
  have h2 : Tr enc Try.prog W n 31 ((cs.drop 2).take 2) y2 := fld hf (i := 2) rfl rfl rfl (by kernel_rfl) e2
  obtain ⟨m2, c2⟩ := op_TPoint h2
  have q := cat_end hl
  replace q := cat_step (o := 2) (k := 2) c2 q
  replace q := cat_step (o := 1) (k := 1) c1 q
  replace q := cat_step (o := 0) (k := 1) c0 q
  exact ⟨⟨m0, m1, m2⟩, v0_, z0_, g0_, o0_, q, R0_, ⟨k0, ⟨k1, l1⟩⟩⟩
def TSubset.ok (x : TSubset) : Prop := I64 x.Node ∧ I64 x.Minus
theorem op_TSubset {H : Type} {enc : TypeId × Value → H} {W : World} {fuel : Nat} {cs : List Value} {x : DataW H × List MemPlace} (h : Tr enc Try.prog W fuel 129 cs x) : ∃ (m : TSubset), cs = TSubset.cs m ∧ TSubset.ok m := by
  obtain ⟨xs, n, rfl, rfl, hl, hx, hf⟩ := DataW.trod_struct Try.underlying129 h
  replace hl : cs.length = 2 := hl.trans (by kernel_rfl)
  replace hx : xs.length = 2 := hx
  obtain ⟨y0, e0⟩ := some_at (i := 0) hx rfl
  have h0 : Tr enc Try.prog W n 3 ((cs.drop 0).take 1) y0 := fld hf (i := 0) rfl rfl rfl (by kernel_rfl) e0
  obtain ⟨m0, c0, k0⟩ := op_i64 Try.underlying3 h0
  obtain ⟨y1, e1⟩ := some_at (i := 1) hx rfl
  have h1 : Tr enc Try.prog W n 3 ((cs.drop 1).take 1) y1 := fld hf (i := 1) rfl rfl rfl (by kernel_rfl) e1
  obtain ⟨m1, c1, k1⟩ := op_i64 Try.underlying3 h1
  have q := cat_end hl
  replace q := cat_step (o := 1) (k := 1) c1 q
  replace q := cat_step (o := 0) (k := 1) c0 q
  exact ⟨⟨m0, m1⟩, q, ⟨k0, k1⟩⟩
def TItem.ok (x : TItem) : Prop := TSubset.ok x.Subset
theorem op_TItem {H : Type} {enc : TypeId × Value → H} {W : World} {fuel : Nat} {cs : List Value} {x : DataW H × List MemPlace} (h : Tr enc Try.prog W fuel 131 cs x) : ∃ (m : TItem), cs = TItem.cs m ∧ TItem.ok m := by
  obtain ⟨xs, n, rfl, rfl, hl, hx, hf⟩ := DataW.trod_struct Try.underlying131 h
  replace hl : cs.length = 18 := hl.trans (by kernel_rfl)
  replace hx : xs.length = 2 := hx
  obtain ⟨y0, e0⟩ := some_at (i := 0) hx rfl
  have h0 : Tr enc Try.prog W n 129 ((cs.drop 0).take 2) y0 := fld hf (i := 0) rfl rfl rfl (by kernel_rfl) e0
  obtain ⟨m0, c0, k0⟩ := op_TSubset h0
  obtain ⟨y1, e1⟩ := some_at (i := 1) hx rfl
  have h1 : Tr enc Try.prog W n 23 ((cs.drop 2).take 16) y1 := fld hf (i := 1) rfl rfl rfl (by kernel_rfl) e1
  obtain ⟨m1, c1⟩ := op_key Try.underlying23 Try.underlying5 (by kernel_rfl) (by kernel_rfl) h1
  have q := cat_end hl
  replace q := cat_step (o := 2) (k := 16) c1 q
  replace q := cat_step (o := 0) (k := 2) c0 q
  exact ⟨⟨m0, m1⟩, q, k0⟩
def THeader.ok (x : THeader) : Prop := ((∀ a ∈ x.Items, TItem.ok a) ∧ x.Items.length * 32 ≤ 140737488351232) ∧ (x.Points.length * 16 ≤ 140737488351232)
theorem op_THeader {H : Type} {enc : TypeId × Value → H} {W : World} {fuel : Nat} {cs : List Value} {x : DataW H × List MemPlace} (h : Tr enc Try.prog W fuel 45 cs x) (hw : Sz Try.prog 45 x.1) : ∃ (m : THeader) (v0 : Value) (z0 g0 o0 : Nat) (v1 : Value) (z1 g1 o1 : Nat), cs = THeader.cs m v0 v1 ∧ Rd W z0 g0 o0 18 v0 (m.Items.map TItem.cs) ∧ Rd W z1 g1 o1 2 v1 (m.Points.map TPoint.cs) ∧ THeader.ok m := by
  obtain ⟨xs, n, rfl, rfl, hl, hx, hf⟩ := DataW.trod_struct Try.underlying45 h
  replace hl : cs.length = 35 := hl.trans (by kernel_rfl)
  replace hx : xs.length = 5 := hx
  obtain ⟨y0, e0⟩ := some_at (i := 0) hx rfl
  have h0 : Tr enc Try.prog W n 42 ((cs.drop 0).take 1) y0 := fld hf (i := 0) rfl rfl rfl (by kernel_rfl) e0
  obtain ⟨m0, v0_, z0_, g0_, o0_, c0, R0_, k0, l0⟩ := op_sl (c := TItem.cs) (ok := fun a => TItem.ok a) (sz := 18) (bytes := 32) Try.underlying42 (by kernel_rfl) (by kernel_rfl) (by decide) (fun _ => ⟨rfl, rfl⟩) (fun _ _ _ h => op_TItem h) h0 (sz_field Try.underlying45 hw (i := 0) rfl (by rw [List.getElem?_map, e0]; rfl))
  obtain ⟨y1, e1⟩ := some_at (i := 1) hx rfl
  have h1 : Tr enc Try.prog W n 24 ((cs.drop 1).take 1) y1 := fld hf (i := 1) rfl rfl rfl (by kernel_rfl) e1
  obtain ⟨m1, c1⟩ := op_u64 Try.underlying24 h1
  obtain ⟨y2, e2⟩ := some_at (i := 2) hx rfl
  have h2 : Tr enc Try.prog W n 43 ((cs.drop 2).take 1) y2 := fld hf (i := 2) rfl rfl rfl (by kernel_rfl) e2
  obtain ⟨m2, v1_, z1_, g1_, o1_, c2, R1_, k2, l2⟩ := op_sl (c := TPoint.cs) (ok := fun a => True) (sz := 2) (bytes := 16) Try.underlying43 (by kernel_rfl) (by kernel_rfl) (by decide) (fun _ => ⟨rfl, rfl⟩) (fun _ _ _ h => (let ⟨n, c⟩ := op_TPoint h; ⟨n, c, trivial⟩)) h2 (sz_field Try.underlying45 hw (i := 2) rfl (by rw [List.getElem?_map, e2]; rfl))
  obtain ⟨y3, e3⟩ := some_at (i := 3) hx rfl
  have h3 : Tr enc Try.prog W n 23 ((cs.drop 3).take 16) y3 := fld hf (i := 3) rfl rfl rfl (by kernel_rfl) e3
  obtain ⟨m3, c3⟩ := op_key Try.underlying23 Try.underlying5 (by kernel_rfl) (by kernel_rfl) h3
  obtain ⟨y4, e4⟩ := some_at (i := 4) hx rfl
  have h4 : Tr enc Try.prog W n 23 ((cs.drop 19).take 16) y4 := fld hf (i := 4) rfl rfl rfl (by kernel_rfl) e4
  obtain ⟨m4, c4⟩ := op_key Try.underlying23 Try.underlying5 (by kernel_rfl) (by kernel_rfl) h4
  have q := cat_end hl
  replace q := cat_step (o := 19) (k := 16) c4 q
  replace q := cat_step (o := 3) (k := 16) c3 q
  replace q := cat_step (o := 2) (k := 1) c2 q
  replace q := cat_step (o := 1) (k := 1) c1 q
  replace q := cat_step (o := 0) (k := 1) c0 q
  exact ⟨⟨m0, m1, m2, m3, m4⟩, v0_, z0_, g0_, o0_, v1_, z1_, g1_, o1_, q, R0_, R1_, ⟨⟨k0, l0⟩, l2⟩⟩
end Go.Sx
