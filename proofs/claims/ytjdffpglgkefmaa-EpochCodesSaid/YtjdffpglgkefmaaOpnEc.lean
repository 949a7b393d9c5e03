/- How the arguments' types are opened. Printed by rows2.py. -/
import Derived.Test.YtjdffpglgkefmaaOpn
import Derived.Test.YtjdffpglgkefmaaRows
import Derived.KernelRfl
import Derived.Test.YtjdffpglgkefmaaEcM
set_option linter.unusedVariables false
set_option linter.unusedSimpArgs false
set_option maxRecDepth 100000
namespace Go.Sx
open Go Go.RowKit Go.Proofs
def TSubset.ok (x : TSubset) : Prop := I64 x.Node ∧ I64 x.Minus
theorem op_TSubset {H : Type} {enc : TypeId × Value → H} {W : World} {fuel : Nat} {cs : List Value} {x : DataW H × List MemPlace} (h : Tr enc Try.prog W fuel 62 cs x) : ∃ (m : TSubset), cs = TSubset.cs m ∧ TSubset.ok m := by
  obtain ⟨xs, n, rfl, rfl, hl, hx, hf⟩ := DataW.trod_struct Try.underlying62 h
  replace hl : cs.length = 2 := hl.trans (by kernel_rfl)
  replace hx : xs.length = 2 := hx
  obtain ⟨y0, e0⟩ := some_at (i := 0) hx rfl
  have h0 : Tr enc Try.prog W n 3 ((cs.drop 0).take 1) y0 := fld hf (i := 0) rfl rfl rfl (by kernel_rfl) e0
  obtain ⟨m0, c0, k0⟩ := op_i64 Try.underlying3 h0
  obtain ⟨y1, e1⟩ := some_at (i := 1) hx rfl
  have h1 : Tr enc Try.prog W n 3 ((cs.drop 1).take 1) y1 := fld hf (i := 1) rfl rfl rfl (by kernel_rfl) e1
  obtain ⟨m1, c1, k1⟩ := op_i64 Try.underlying3 h1
  have q := cat_end hl
  replace q := cat_step (o := 1) (k := 1) c1 q
  replace q := cat_step (o := 0) (k := 1) c0 q
  exact ⟨⟨m0, m1⟩, q, ⟨k0, k1⟩⟩
def TItem.ok (x : TItem) : Prop := TSubset.ok x.Subset
theorem op_TItem {H : Type} {enc : TypeId × Value → H} {W : World} {fuel : Nat} {cs : List Value} {x : DataW H × List MemPlace} (h : Tr enc Try.prog W fuel 64 cs x) : ∃ (m : TItem), cs = TItem.cs m ∧ TItem.ok m := by
  obtain ⟨xs, n, rfl, rfl, hl, hx, hf⟩ := DataW.trod_struct Try.underlying64 h
  replace hl : cs.length = 18 := hl.trans (by kernel_rfl)
  replace hx : xs.length = 2 := hx
  obtain ⟨y0, e0⟩ := some_at (i := 0) hx rfl
  have h0 : Tr enc Try.prog W n 62 ((cs.drop 0).take 2) y0 := fld hf (i := 0) rfl rfl rfl (by kernel_rfl) e0
  obtain ⟨m0, c0, k0⟩ := op_TSubset h0
  obtain ⟨y1, e1⟩ := some_at (i := 1) hx rfl
  have h1 : Tr enc Try.prog W n 26 ((cs.drop 2).take 16) y1 := fld hf (i := 1) rfl rfl rfl (by kernel_rfl) e1
  obtain ⟨m1, c1⟩ := op_key Try.underlying26 Try.underlying5 (by kernel_rfl) (by kernel_rfl) h1
  have q := cat_end hl
  replace q := cat_step (o := 2) (k := 16) c1 q
  replace q := cat_step (o := 0) (k := 2) c0 q
  exact ⟨⟨m0, m1⟩, q, k0⟩
theorem op_TPoint {H : Type} {enc : TypeId × Value → H} {W : World} {fuel : Nat} {cs : List Value} {x : DataW H × List MemPlace} (h : Tr enc Try.prog W fuel 35 cs x) : ∃ (m : TPoint), cs = TPoint.cs m := by
  obtain ⟨xs, n, rfl, rfl, hl, hx, hf⟩ := DataW.trod_struct Try.underlying35 h
  replace hl : cs.length = 2 := hl.trans (by kernel_rfl)
  replace hx : xs.length = 2 := hx
  obtain ⟨y0, e0⟩ := some_at (i := 0) hx rfl
  have h0 : Tr enc Try.prog W n 23 ((cs.drop 0).take 1) y0 := fld hf (i := 0) rfl rfl rfl (by kernel_rfl) e0
  obtain ⟨m0, c0⟩ := op_u64 Try.underlying23 h0
  obtain ⟨y1, e1⟩ := some_at (i := 1) hx rfl
  have h1 : Tr enc Try.prog W n 23 ((cs.drop 1).take 1) y1 := fld hf (i := 1) rfl rfl rfl (by kernel_rfl) e1
  obtain ⟨m1, c1⟩ := op_u64 Try.underlying23 h1
  have q := cat_end hl
  replace q := cat_step (o := 1) (k := 1) c1 q
  replace q := cat_step (o := 0) (k := 1) c0 q
  exact ⟨⟨m0, m1⟩, q⟩
def THeader.ok (x : THeader) : Prop := ((∀ a ∈ x.Items, TItem.ok a) ∧ x.Items.length * 32 ≤ 140737488351232) ∧ (x.Points.length * 16 ≤ 140737488351232)
theorem op_THeader {H : Type} {enc : TypeId × Value → H} {W : World} {fuel : Nat} {cs : List Value} {x : DataW H × List MemPlace} (h : Tr enc Try.prog W fuel 28 cs x) (hw : Sz Try.prog 28 x.1) : ∃ (m : THeader) (v0 : Value) (z0 g0 o0 : Nat) (v1 : Value) (z1 g1 o1 : Nat), cs = THeader.cs m v0 v1 ∧ Rd W z0 g0 o0 18 v0 (m.Items.map TItem.cs) ∧ Rd W z1 g1 o1 2 v1 (m.Points.map TPoint.cs) ∧ THeader.ok m := by
  obtain ⟨xs, n, rfl, rfl, hl, hx, hf⟩ := DataW.trod_struct Try.underlying28 h
  replace hl : cs.length = 35 := hl.trans (by kernel_rfl)
  replace hx : xs.length = 5 := hx
  obtain ⟨y0, e0⟩ := some_at (i := 0) hx rfl
  have h0 : Tr enc Try.prog W n 22 ((cs.drop 0).take 1) y0 := fld hf (i := 0) rfl rfl rfl (by kernel_rfl) e0
  obtain ⟨m0, v0_, z0_, g0_, o0_, c0, R0_, k0, l0⟩ := op_sl (c := TItem.cs) (ok := fun a => TItem.ok a) (sz := 18) (bytes := 32) Try.underlying22 (by kernel_rfl) (by kernel_rfl) (by decide) (fun _ => ⟨rfl, rfl⟩) (fun _ _ _ h => op_TItem h) h0 (sz_field Try.underlying28 hw (i := 0) rfl (by rw [List.getElem?_map, e0]; rfl))
  obtain ⟨y1, e1⟩ := some_at (i := 1) hx rfl
  have h1 : Tr enc Try.prog W n 23 ((cs.drop 1).take 1) y1 := fld hf (i := 1) rfl rfl rfl (by kernel_rfl) e1
  obtain ⟨m1, c1⟩ := op_u64 Try.underlying23 h1
  obtain ⟨y2, e2⟩ := some_at (i := 2) hx rfl
  have h2 : Tr enc Try.prog W n 24 ((cs.drop 2).take 1) y2 := fld hf (i := 2) rfl rfl rfl (by kernel_rfl) e2
  obtain ⟨m2, v1_, z1_, g1_, o1_, c2, R1_, k2, l2⟩ := op_sl (c := TPoint.cs) (ok := fun a => True) (sz := 2) (bytes := 16) Try.underlying24 (by kernel_rfl) (by kernel_rfl) (by decide) (fun _ => ⟨rfl, rfl⟩) (fun _ _ _ h => (let ⟨n, c⟩ := op_TPoint h; ⟨n, c, trivial⟩)) h2 (sz_field Try.underlying28 hw (i := 2) rfl (by rw [List.getElem?_map, e2]; rfl))
  obtain ⟨y3, e3⟩ := some_at (i := 3) hx rfl
  have h3 : Tr enc Try.prog W n 26 ((cs.drop 3).take 16) y3 := fld hf (i := 3) rfl rfl rfl (by kernel_rfl) e3
  obtain ⟨m3, c3⟩ := op_key Try.underlying26 Try.underlying5 (by kernel_rfl) (by kernel_rfl) h3
  obtain ⟨y4, e4⟩ := some_at (i := 4) hx rfl
  have h4 : Tr enc Try.prog W n 26 ((cs.drop 19).take 16) y4 := fld hf (i := 4) rfl rfl rfl (by kernel_rfl) e4
  obtain ⟨m4, c4⟩ := op_key Try.underlying26 Try.underlying5 (by kernel_rfl) (by kernel_rfl) h4
  have q := cat_end hl
  replace q := cat_step (o := 19) (k := 16) c4 q
  replace q := cat_step (o := 3) (k := 16) c3 q
  replace q := cat_step (o := 2) (k := 1) c2 q
  replace q := cat_step (o := 1) (k := 1) c1 q
  replace q := cat_step (o := 0) (k := 1) c0 q
  exact ⟨⟨m0, m1, m2, m3, m4⟩, v0_, z0_, g0_, o0_, v1_, z1_, g1_, o1_, q, R0_, R1_, ⟨⟨k0, l0⟩, l2⟩⟩
def TPacket.ok (x : TPacket) : Prop := I64 x.Epoch ∧ THeader.ok x.Head ∧ (x.Data.length * 1 ≤ 140737488351232)
theorem op_TPacket {H : Type} {enc : TypeId × Value → H} {W : World} {fuel : Nat} {cs : List Value} {x : DataW H × List MemPlace} (h : Tr enc Try.prog W fuel 31 cs x) (hw : Sz Try.prog 31 x.1) : ∃ (m : TPacket) (v0 : Value) (z0 g0 o0 : Nat) (v1 : Value) (z1 g1 o1 : Nat) (v2 : Value) (z2 g2 o2 : Nat), cs = TPacket.cs m v0 v1 v2 ∧ Rd W z0 g0 o0 18 v0 (m.Head.Items.map TItem.cs) ∧ Rd W z1 g1 o1 2 v1 (m.Head.Points.map TPoint.cs) ∧ Rd W z2 g2 o2 1 v2 (m.Data.map bvc) ∧ TPacket.ok m := by
  obtain ⟨xs, n, rfl, rfl, hl, hx, hf⟩ := DataW.trod_struct Try.underlying31 h
  replace hl : cs.length = 56 := hl.trans (by kernel_rfl)
  replace hx : xs.length = 7 := hx
  obtain ⟨y0, e0⟩ := some_at (i := 0) hx rfl
  have h0 : Tr enc Try.prog W n 5 ((cs.drop 0).take 1) y0 := fld hf (i := 0) rfl rfl rfl (by kernel_rfl) e0
  obtain ⟨m0, c0⟩ := op_u8 Try.underlying5 h0
  obtain ⟨y1, e1⟩ := some_at (i := 1) hx rfl
  have h1 : Tr enc Try.prog W n 3 ((cs.drop 1).take 1) y1 := fld hf (i := 1) rfl rfl rfl (by kernel_rfl) e1
  obtain ⟨m1, c1, k1⟩ := op_i64 Try.underlying3 h1
  obtain ⟨y2, e2⟩ := some_at (i := 2) hx rfl
  have h2 : Tr enc Try.prog W n 28 ((cs.drop 2).take 35) y2 := fld hf (i := 2) rfl rfl rfl (by kernel_rfl) e2
  obtain ⟨m2, v0_, z0_, g0_, o0_, v1_, z1_, g1_, o1_, c2, R0_, R1_, k2⟩ := op_THeader h2 (sz_field Try.underlying31 hw (i := 2) rfl (by rw [List.getElem?_map, e2]; rfl))
  obtain ⟨y3, e3⟩ := some_at (i := 3) hx rfl
  have h3 : Tr enc Try.prog W n 5 ((cs.drop 37).take 1) y3 := fld hf (i := 3) rfl rfl rfl (by kernel_rfl) e3
  obtain ⟨m3, c3⟩ := op_u8 Try.underlying5 h3
  obtain ⟨y4, e4⟩ := some_at (i := 4) hx rfl
  have h4 : Tr enc Try.prog W n 23 ((cs.drop 38).take 1) y4 := fld hf (i := 4) rfl rfl rfl (by kernel_rfl) e4
  obtain ⟨m4, c4⟩ := op_u64 Try.underlying23 h4
  obtain ⟨y5, e5⟩ := some_at (i := 5) hx rfl
  have h5 : Tr enc Try.prog W n 29 ((cs.drop 39).take 1) y5 := fld hf (i := 5) rfl rfl rfl (by kernel_rfl) e5
  obtain ⟨m5, v2_, z2_, g2_, o2_, c5, R2_, k5, l5⟩ := op_sl (c := bvc) (ok := fun a => True) (sz := 1) (bytes := 1) Try.underlying29 (by kernel_rfl) (by kernel_rfl) (by decide) (fun _ => ⟨rfl, rfl⟩) (fun _ _ _ h => (let ⟨n, c⟩ := op_u8 Try.underlying5 h; ⟨n, c, trivial⟩)) h5 (sz_field Try.underlying31 hw (i := 5) rfl (by rw [List.getElem?_map, e5]; rfl))
  obtain ⟨y6, e6⟩ := some_at (i := 6) hx rfl
  have h6 : Tr enc Try.prog W n 26 ((cs.drop 40).take 16) y6 := fld hf (i := 6) rfl rfl rfl (by kernel_rfl) e6
  obtain ⟨m6, c6⟩ := op_key Try.underlying26 Try.underlying5 (by kernel_rfl) (by kernel_rfl) h6
  have q := cat_end hl
  replace q := cat_step (o := 40) (k := 16) c6 q
  replace q := cat_step (o := 39) (k := 1) c5 q
  replace q := cat_step (o := 38) (k := 1) c4 q
  replace q := cat_step (o := 37) (k := 1) c3 q
  replace q := cat_step (o := 2) (k := 35) c2 q
  replace q := cat_step (o := 1) (k := 1) c1 q
  replace q := cat_step (o := 0) (k := 1) c0 q
  exact ⟨⟨m0, m1, m2, m3, m4, m5, m6⟩, v0_, z0_, g0_, o0_, v1_, z1_, g1_, o1_, v2_, z2_, g2_, o2_, q, R0_, R1_, R2_, ⟨k1, k2, l5⟩⟩
end Go.Sx
