/- slices.SortFunc over TLabel, by Node. Printed by srt.py (the laying: the shelf's plain text). -/
import Derived.Test.YtkdghilkigojgaaSrt
import Derived.Test.YtkdghilkigojgaaPaM
import Derived.Shelf.SlGeneric
import Derived.Test.YtkdghilkigojgaaProg
set_option linter.unusedVariables false
set_option linter.unusedSimpArgs false
set_option maxRecDepth 100000
namespace Go.Proofs.Ytkdghilkigojgaa.Mx
open Go Go.RowKit Go.Sx Go.Proofs Go.Shelf Go.Lib Go.Sort
def layLbl_ren : Go.Shelf.Ren := ⟨fun | 6 => 100 | 15 => 107 | 14 => 138 | 28 => 140 | 29 => 141 | 20 => 150 | 21 => 151 | 22 => 152 | 23 => 153 | 24 => 154 | 25 => 155 | 26 => 156 | 27 => 157 | 46 => 158 | 47 => 159 | 48 => 160 | 49 => 161 | 50 => 162 | 57 => 163 | n => n, fun | 22 => 29 | 24 => 88 | 25 => 157 | 3 => 3 | 39 => 163 | 0 => 0 | 53 => 191 | 55 => 24 | 4 => 4 | 46 => 198 | 45 => 197 | 50 => 202 | 5 => 5 | 9 => 9 | 66 => 204 | 70 => 208 | 76 => 210 | 77 => 211 | n => n, fun | n => n⟩
theorem layLbl : Go.Proofs.SlLaysF0.n6 Try.prog layLbl_ren := {
  mixed := by kernel_rfl
  f6 := ⟨Try.f100.name, by decide, Try.func100.trans (congrArg some (by kernel_rfl))⟩
  f14 := ⟨Try.f138.name, by decide, Try.func138.trans (congrArg some (by kernel_rfl))⟩
  f15 := Try.func107.trans (congrArg some (by kernel_rfl))
  f20 := ⟨Try.f150.name, by decide, Try.func150.trans (congrArg some (by kernel_rfl))⟩
  f21 := ⟨Try.f151.name, by decide, Try.func151.trans (congrArg some (by kernel_rfl))⟩
  f22 := ⟨Try.f152.name, by decide, Try.func152.trans (congrArg some (by kernel_rfl))⟩
  f23 := ⟨Try.f153.name, by decide, Try.func153.trans (congrArg some (by kernel_rfl))⟩
  f24 := ⟨Try.f154.name, by decide, Try.func154.trans (congrArg some (by kernel_rfl))⟩
  f25 := ⟨Try.f155.name, by decide, Try.func155.trans (congrArg some (by kernel_rfl))⟩
  f26 := ⟨Try.f156.name, by decide, Try.func156.trans (congrArg some (by kernel_rfl))⟩
  f27 := ⟨Try.f157.name, by decide, Try.func157.trans (congrArg some (by kernel_rfl))⟩
  f28 := Try.func140.trans (congrArg some (by kernel_rfl))
  f29 := Try.func141.trans (congrArg some (by kernel_rfl))
  f46 := ⟨Try.f158.name, by decide, Try.func158.trans (congrArg some (by kernel_rfl))⟩
  f47 := Try.func159.trans (congrArg some (by kernel_rfl))
  f48 := Try.func160.trans (congrArg some (by kernel_rfl))
  f49 := ⟨Try.f161.name, by decide, Try.func161.trans (congrArg some (by kernel_rfl))⟩
  f50 := ⟨Try.f162.name, by decide, Try.func162.trans (congrArg some (by kernel_rfl))⟩
  f57 := ⟨Try.f163.name, by decide, Try.func163.trans (congrArg some (by kernel_rfl))⟩
  t0 := Try.underlying0
  a0 := Try.isAgg0
  z0 := Try.sizeOf0
  v0 := Try.zeroValue0
  t3 := Try.underlying3
  a3 := Try.isAgg3
  z3 := Try.sizeOf3
  v3 := Try.zeroValue3
  t4 := Try.underlying4
  a4 := Try.isAgg4
  z4 := Try.sizeOf4
  v4 := Try.zeroValue4
  t5 := Try.underlying5
  a5 := Try.isAgg5
  z5 := Try.sizeOf5
  v5 := Try.zeroValue5
  t9 := Try.underlying9
  a9 := Try.isAgg9
  z9 := Try.sizeOf9
  v9 := Try.zeroValue9
  t22 := Try.underlying29
  a22 := Try.isAgg29
  z22 := Try.sizeOf29
  v22 := Try.zeroValue29
  t25 := Try.underlying157
  a25 := Try.isAgg157
  z25 := Try.sizeOf157
  v25 := Try.zeroValue157
  t39 := Try.underlying163
  a39 := Try.isAgg163
  z39 := Try.sizeOf163
  v39 := Try.zeroValue163
  t45 := Try.underlying197
  a45 := Try.isAgg197
  z45 := Try.sizeOf197
  v45 := Try.zeroValue197
  t46 := Try.underlying198
  a46 := Try.isAgg198
  z46 := Try.sizeOf198
  v46 := Try.zeroValue198
  t50 := Try.underlying202
  a50 := Try.isAgg202
  z50 := Try.sizeOf202
  v50 := Try.zeroValue202
  t53 := Try.underlying191
  a53 := Try.isAgg191
  z53 := Try.sizeOf191
  v53 := Try.zeroValue191
  t55 := Try.underlying24
  a55 := Try.isAgg24
  z55 := Try.sizeOf24
  v55 := Try.zeroValue24
  t66 := Try.underlying204
  a66 := Try.isAgg204
  z66 := Try.sizeOf204
  v66 := Try.zeroValue204
  t70 := Try.underlying208
  a70 := Try.isAgg208
  z70 := Try.sizeOf208
  v70 := Try.zeroValue208
  t76 := Try.underlying210
  a76 := Try.isAgg210
  z76 := Try.sizeOf210
  v76 := Try.zeroValue210
  t77 := Try.underlying211
  a77 := Try.isAgg211
  z77 := Try.sizeOf211
  v77 := Try.zeroValue211 }


theorem w64_sub {a b : Int} (ha : 0 ≤ a ∧ a < 4611686018427387904) (hb : 0 ≤ b ∧ b < 4611686018427387904) : IntKind.i64.wrap (a - b) = a - b := by rw [IntKind.wrap_i64]; omega
set_option maxHeartbeats 1000000 in
theorem cloLbl (x y : TLabel) (W : World) (hx : 0 ≤ x.Node ∧ x.Node < 4611686018427387904) (hy : 0 ≤ y.Node ∧ y.Node < 4611686018427387904) : Calls Try.prog 101 #[.agg #[.int .i64 x.Node, .int .i64 x.Minus, .int .u8 (bt x.Key.1 0), .int .u8 (bt x.Key.1 1), .int .u8 (bt x.Key.1 2), .int .u8 (bt x.Key.1 3), .int .u8 (bt x.Key.1 4), .int .u8 (bt x.Key.1 5), .int .u8 (bt x.Key.1 6), .int .u8 (bt x.Key.1 7), .int .u8 (bt x.Key.2 0), .int .u8 (bt x.Key.2 1), .int .u8 (bt x.Key.2 2), .int .u8 (bt x.Key.2 3), .int .u8 (bt x.Key.2 4), .int .u8 (bt x.Key.2 5), .int .u8 (bt x.Key.2 6), .int .u8 (bt x.Key.2 7)], .agg #[.int .i64 y.Node, .int .i64 y.Minus, .int .u8 (bt y.Key.1 0), .int .u8 (bt y.Key.1 1), .int .u8 (bt y.Key.1 2), .int .u8 (bt y.Key.1 3), .int .u8 (bt y.Key.1 4), .int .u8 (bt y.Key.1 5), .int .u8 (bt y.Key.1 6), .int .u8 (bt y.Key.1 7), .int .u8 (bt y.Key.2 0), .int .u8 (bt y.Key.2 1), .int .u8 (bt y.Key.2 2), .int .u8 (bt y.Key.2 3), .int .u8 (bt y.Key.2 4), .int .u8 (bt y.Key.2 5), .int .u8 (bt y.Key.2 6), .int .u8 (bt y.Key.2 7)]] W fun e w' => e = .returned (.int .i64 (x.Node - y.Node)) ∧ ∃ q os', w' = grow (W.drewN q) os' := by
  have hw := w64_sub hx hy
  go_enter Try.func101, Try.ntmps101
  go_wp2
  go_ret
  exact ⟨rfl, 0, _, by rw [alloc_eq_grow, alloc_eq_grow, grow_grow]; rfl⟩
theorem sortLbl_c {l m : List TLabel} (hm : srtBy TLabel.Node l = some m) (w : World) (z g : Nat) (v : Value) (h : Own w z g 88 18 v (l.map TLabel.cs)) : Calls Try.prog 100 [v, .func (.func 101) #[] #[]].toArray w fun e' w' => ∃ v', e' = .returned v' ∧ (Own w' z g 88 18 v (m.map TLabel.cs) ∧ Kz [(z, g)] w w') :=
  sort_gen (ρ := layLbl_ren) TLabel.cs 18 (fun _ => rfl) (fun x => TLabel.cs_ones x) (by decide) TLabel.Node 101 layLbl (fun _ => by kernel_rfl) (fun _ => by kernel_rfl) (fun _ _ => by kernel_rfl) (fun x y W hx hy => cloLbl x y W hx hy) hm w z g 88 v h
end Go.Proofs.Ytkdghilkigojgaa.Mx
