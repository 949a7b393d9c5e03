/- merged by mg.py: Nm Vb Alp OpnQj LawQj -/
import Derived.Test.YtkdghilkigojgaaPaM
import Derived.Test.YtkdghilkigojgaaFy
import Derived.Test.YtkdghilkigojgaaPl4M
import Derived.KernelRfl
import Derived.Test.YtkdghilkigojgaaOpn
import Derived.Test.YtkdghilkigojgaaRows
import Derived.Test.YtkdghilkigojgaaQjM
section
/- Numbers modulo, plainly: primes, powers, groups; the program's and the document's come to the same. -/
set_option linter.unusedVariables false
set_option linter.unusedSimpArgs false
set_option maxRecDepth 100000
namespace Go.Sx.Po
open Go

abbrev bn (n : Nat) : BitVec 64 := BitVec.ofNat 64 n
/-! primes -/
/-! powers -/
end Go.Sx.Po

end
section
/- Bytes and words, plainly; and loops of n rounds. -/
set_option linter.unusedVariables false
set_option linter.unusedSimpArgs false
set_option maxRecDepth 100000
namespace Go.Sx.Po
open Go

end Go.Sx.Po

end
section
/- alive (layer 4): the chapter's examples hold. -/
set_option linter.unusedVariables false
set_option linter.unusedSimpArgs false
set_option maxRecDepth 100000
namespace Go.Sx
open Go

/-- law04_alive_J1 with what follows it left open -/
def aliveJ (f : Bool → Option Bool) (x1 : TScheme) (a4 : Bool) : Option (Bool) := (bif a4 then (some false) else Option.bind (poly_Seal (72057594037927936#64, 0#64) x1 [1] (144115188075855872#64, 0#64) 5#64) fun x5 => (Option.bind (poly_Secret (72057594037927936#64, 0#64) x1 0) fun x6 => (Option.bind (poly_Secret (72057594037927936#64, 0#64) x1 1) fun x7 => (Option.bind (poly_Open x1 x6.1 x5.1) fun x8 => (Option.bind (poly_Open x1 x7.1 x5.1) fun x9 => (Option.bind (law04_points x5.1 x5.2 [2#64, 5#64]) fun x18 => ((bif (!x18) then (f true) else (if x6.2 ≠ 0 then (f true) else (if x6.1.Share.X ≠ 1#64 then (f true) else (if x7.2 ≠ 0 then (f true) else (if x8.2 ≠ 0 then (f true) else (if x8.1 ≠ (144115188075855872#64, 0#64) then (f true) else (f (decide (x9.2 ≠ 6))))))))))))))))
def aliveA (f : Bool → Option Bool) : Option Bool := Option.bind (law04_small) fun x1 => (Option.bind (poly_Value x1 [3#64, 0#64, 2#64] 4#64) fun x2 => (Option.bind (poly_Interpolate x1 [(TPoint.mk 1#64 5#64), (TPoint.mk 4#64 2#64), (TPoint.mk 0#64 3#64)]) fun x3 => (Option.bind (poly_Check x1) fun x19 => ((if x19 ≠ 0 then (aliveJ f x1 true) else (if x2.2 ≠ 0 then (aliveJ f x1 true) else (if x2.1 ≠ 2#64 then (aliveJ f x1 true) else Option.bind (law04_words x3.1 x3.2 [3#64, 0#64, 2#64]) fun x20 => ((aliveJ f x1 (!x20))))))))))
theorem alive_of : law04_alive = aliveA law04_alive_J2 := by
  unfold law04_alive aliveA law04_alive_J1 aliveJ; rfl
theorem alive_go (f : Bool → Option Bool) : aliveA f = f false := by kernel_rfl
def aliveK : W2 := (72057594037927936#64, 0#64)
def aliveP : List TLabel := [⟨3, 0, drv aliveK (un8 32#8) 0#64⟩, ⟨4, 0, drv (drv aliveK (un8 31#8) 0#64) (un8 31#8) 0#64⟩]
theorem alive_full : poly_Full aliveK 2 = some (⟨2, [⟨1, 0, aliveK⟩]⟩, 0) := by kernel_rfl
theorem alive_sort : aliveP.mergeSort (fun a b => decide (a.Node ≤ b.Node)) = aliveP := List.mergeSort_of_pairwise (by decide +kernel)
theorem alive_pun : poly_Puncture ⟨2, [⟨1, 0, aliveK⟩]⟩ 1 = some (⟨2, aliveP⟩, 0) := by
  have : poly_Puncture ⟨2, [⟨1, 0, aliveK⟩]⟩ 1 = some (⟨2, aliveP.mergeSort (fun a b => decide (a.Node ≤ b.Node))⟩, 0) := by kernel_rfl
  rw [this, alive_sort]
def aliveB (f : TPunctured × Int) (q : TPunctured × Int) : Option Bool := Option.bind (poly_Evaluate q.1 1) fun x13 => (Option.bind (poly_Evaluate q.1 0) fun x14 => (Option.bind (poly_Evaluate f.1 0) fun x15 => (Option.bind (law04_nodes f.1 f.2 [1]) fun x16 => ((bif x16 then Option.bind (law04_nodes q.1 q.2 [3, 4]) fun x17 => ((bif x17 then (if x13.2 = 6 then (if x14.2 = 0 then (if x15.2 = 0 then (some (decide (x14.1 = x15.1))) else (some false)) else (some false)) else (some false)) else (some false))) else (some false))))))
theorem alive_B : aliveB (⟨2, [⟨1, 0, aliveK⟩]⟩, 0) (⟨2, aliveP⟩, 0) = some true := by decide +kernel
theorem alive4_eq : law04_alive = some true := by
  rw [alive_of, alive_go]
  unfold law04_alive_J2
  rw [cond_false, show ((72057594037927936#64, 0#64) : W2) = aliveK from rfl, alive_full, bind_some, alive_pun, bind_some]
  exact alive_B
end Go.Sx

end
section
/- How the arguments' types are opened. Printed by rows2.py. -/
set_option linter.unusedVariables false
set_option linter.unusedSimpArgs false
set_option maxRecDepth 100000
namespace Go.Sx
open Go Go.RowKit Go.Proofs

end Go.Sx

end
section
/- PolyExamples on the mirrors: the chapter's examples. -/
set_option linter.unusedVariables false
set_option linter.unusedSimpArgs false
set_option maxRecDepth 100000
namespace Go.Sx
open Go Po

/-- the law's parts with what follows them left open -/
def exJ3 (f : Bool → Option Bool) (x1 : TScheme) (a15 : Bool) : Option Bool := (bif a15 then (some false) else Option.bind (poly_Seal k0 x1 [0, 2] k0 0#64) fun x16 => (Option.bind (poly_Seal k0 x1 ([] : List Int) k0 0#64) fun x17 => (Option.bind (poly_Seal k0 x1 [0, 1, 2] k0 0#64) fun x18 => (Option.bind (law04_points x16.1 x16.2 [1#64, 3#64]) fun x33 => ((bif (!x33) then (f true) else Option.bind (law04_points x17.1 x17.2 [5#64, 6#64]) fun x34 => ((bif (!x34) then (f true) else (f (decide (x18.2 ≠ 4)))))))))))
def exJ2 (f : Bool → Option Bool) (x1 : TScheme) (a10 : Bool) : Option Bool := (bif a10 then (some false) else Option.bind (poly_Interpolate x1 [(TPoint.mk 1#64 5#64), (TPoint.mk 1#64 5#64), (TPoint.mk 0#64 3#64)]) fun x11 => (Option.bind (poly_Interpolate x1 [(TPoint.mk 1#64 5#64), (TPoint.mk 4#64 2#64)]) fun x12 => (Option.bind (poly_Secret k0 x1 3) fun x13 => (Option.bind (poly_Secret k0 x1 4) fun x14 => ((if x11.2 ≠ 2 then (exJ3 f x1 true) else (if x12.2 ≠ 2 then (exJ3 f x1 true) else (if x13.2 ≠ 0 then (exJ3 f x1 true) else (if x13.1.Share.X ≠ 4#64 then (exJ3 f x1 true) else (exJ3 f x1 (decide (x14.2 ≠ 2))))))))))))
def exJ1 (f : Bool → Option Bool) (x1 : TScheme) (a5 : Bool) : Option Bool := (bif a5 then (some false) else Option.bind (poly_Value x1 [3#64, 0#64, 2#64] 0#64) fun x6 => (Option.bind (poly_Value x1 [3#64, 0#64, 2#64] 1#64) fun x7 => (Option.bind (poly_Value x1 [3#64, 0#64, 2#64] 11#64) fun x8 => (Option.bind (poly_Value x1 [3#64, 0#64] 0#64) fun x9 => ((if x6.2 ≠ 0 then (exJ2 f x1 true) else (if x6.1 ≠ 3#64 then (exJ2 f x1 true) else (if x7.2 ≠ 0 then (exJ2 f x1 true) else (if x7.1 ≠ 5#64 then (exJ2 f x1 true) else (if x8.2 ≠ 2 then (exJ2 f x1 true) else (exJ2 f x1 (decide (x9.2 ≠ 2)))))))))))))
def exA (al : Option Bool) (f : Bool → Option Bool) : Option Bool := Option.bind (law04_small) fun x1 => (Option.bind (law04_small) fun x2 => (Option.bind (law04_small) fun x3 => (Option.bind (law04_small) fun x4 => (Option.bind al fun x35 => ((bif (!x35) then (exJ1 f x1 true) else Option.bind (poly_Check (TScheme.mk x2.Kind x2.Depth 9 x2.Group)) fun x36 => ((if x36 ≠ 30 then (exJ1 f x1 true) else Option.bind (poly_Check (TScheme.mk x3.Kind 4 x3.Degree x3.Group)) fun x37 => ((if x37 ≠ 30 then (exJ1 f x1 true) else Option.bind (poly_Check (TScheme.mk x4.Kind x4.Depth x4.Degree (TGroup.mk x4.Group.P x4.Group.Q 5#64))) fun x38 => ((exJ1 f x1 (decide (x38 ≠ 30))))))))))))))
theorem exL_of : law04_PolyExamples = exA law04_alive law04_PolyExamples_J4 := by
  unfold law04_PolyExamples exA law04_PolyExamples_J1 exJ1 law04_PolyExamples_J2 exJ2 law04_PolyExamples_J3 exJ3; rfl
theorem exL_go (f : Bool → Option Bool) : exA (some true) f = f false := by kernel_rfl
def exK : W2 := (504403158265495552#64, 0#64)
def k3E : W2 := drv exK (un8 32#8) 0#64
def k4E : W2 := drv (drv exK (un8 31#8) 0#64) (un8 31#8) 0#64
def k6E : W2 := drv k3E (un8 31#8) 0#64
def le88 (a b : TLabel) : Bool := decide (a.Node ≤ b.Node)
theorem pun_c {L L' : List TLabel} {n : Int} (h : poly_Puncture ⟨2, L⟩ n = some (⟨2, L'.mergeSort fun a b => decide (a.Node ≤ b.Node)⟩, 0)) (hs : L'.Pairwise fun a b => decide (a.Node ≤ b.Node) = true) : poly_Puncture ⟨2, L⟩ n = some (⟨2, L'⟩, 0) := by
  rw [h, List.mergeSort_of_pairwise hs]
theorem exL_0 : poly_Full exK 2 = some (⟨2, [⟨1, 0, exK⟩]⟩, 0) := by kernel_rfl
theorem exL_1 : poly_Puncture ⟨2, [⟨1, 0, exK⟩]⟩ 1 = some (⟨2, [⟨3, 0, k3E⟩, ⟨4, 0, k4E⟩]⟩, 0) := pun_c (by kernel_rfl) (by decide +kernel)
theorem exL_2 : poly_Puncture ⟨2, [⟨3, 0, k3E⟩, ⟨4, 0, k4E⟩]⟩ 3 = some (⟨2, [⟨4, 0, k4E⟩, ⟨6, 0, k6E⟩]⟩, 0) := pun_c (by kernel_rfl) (by decide +kernel)
theorem exL_3 : poly_Puncture ⟨2, [⟨4, 0, k4E⟩, ⟨6, 0, k6E⟩]⟩ 1 = some (⟨2, [⟨4, 0, k4E⟩, ⟨6, 0, k6E⟩]⟩, 0) := by kernel_rfl
theorem exL_4 : poly_Puncture ⟨2, [⟨4, 0, k4E⟩, ⟨6, 0, k6E⟩]⟩ 0 = some (⟨2, [⟨6, 0, k6E⟩]⟩, 0) := pun_c (by kernel_rfl) (by decide +kernel)
theorem exL_5 : poly_Puncture ⟨2, [⟨6, 0, k6E⟩]⟩ 2 = some (⟨2, []⟩, 0) := pun_c (by kernel_rfl) (by decide +kernel)
def exB (x21 x22 x23 x24 x25 : TPunctured × Int) : Option Bool := ((if x21.2 ≠ 0 then (law04_PolyExamples_J5 x22 true) else Option.bind (law04_nodes x22.1 x22.2 [4, 6]) fun x30 => ((bif (!x30) then (law04_PolyExamples_J5 x22 true) else Option.bind (law04_nodes x23.1 x23.2 [4, 6]) fun x31 => ((bif (!x31) then (law04_PolyExamples_J5 x22 true) else (if x24.2 ≠ 0 then (law04_PolyExamples_J5 x22 true) else Option.bind (law04_nodes x25.1 x25.2 ([] : List Int)) fun x32 => ((law04_PolyExamples_J5 x22 (!x32))))))))))
theorem exL_B : exB (⟨2, [⟨3, 0, k3E⟩, ⟨4, 0, k4E⟩]⟩, 0) (⟨2, [⟨4, 0, k4E⟩, ⟨6, 0, k6E⟩]⟩, 0) (⟨2, [⟨4, 0, k4E⟩, ⟨6, 0, k6E⟩]⟩, 0) (⟨2, [⟨6, 0, k6E⟩]⟩, 0) (⟨2, []⟩, 0) = some true := by decide +kernel
theorem law04_PolyExamples_ok : law04_PolyExamples = some true := by
  rw [exL_of, alive4_eq, exL_go]
  unfold law04_PolyExamples_J4
  rw [cond_false, show ((504403158265495552#64, 0#64) : W2) = exK from rfl, exL_0, bind_some, exL_1, bind_some, exL_2, bind_some, exL_3, bind_some, exL_4, bind_some, exL_5, bind_some]
  exact exL_B
end Go.Sx

end
