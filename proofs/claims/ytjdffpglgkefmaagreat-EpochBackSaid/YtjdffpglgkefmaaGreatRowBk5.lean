/- Proved: for every input, a call of the Go function headendlaw05.EpochBack returns true, and its arguments read afterwards as before (the given statement Rows.EpochBackSaid). Conditions: none but those of the given row itself. -/
import Derived.Test.YtjdffpglgkefmaaGreatZc
import Derived.Test.YtjdffpglgkefmaaGreatZd
import Derived.Test.YtjdffpglgkefmaaGreatBk5
import Derived.Test.YtjdffpglgkefmaaGreatZe
set_option linter.unusedVariables false
set_option linter.unusedSimpArgs false
set_option maxRecDepth 100000
namespace Go.Proofs.YtjdffpglgkefmaaGreat.epochBack
open Go Go.RowKit Go.Sx Go.ChangeShapes Go.WideShapes Go.ChangeAt
theorem own : ownKnob Tryz.prog.godebug = none := by kernel_rfl
theorem laidOut : laidOutB Tryz.prog = true := by kernel_rfl
theorem walk {H : Type} {enc : TypeId × Value → H} (W : World) (base : Nat) (v0 v1 v2 : Value) (d0 : DataW H) (p0 : List MemPlace) (k0 : Value.okWide Tryz.prog W .any base 52 v0) (h0 : DataW.Trod enc Tryz.prog W 0 (fun _ => true) true 52 v0 d0 p0) (s0 : Sz Tryz.prog 52 d0) (d1 : DataW H) (p1 : List MemPlace) (k1 : Value.okWide Tryz.prog W .any base 50 v1) (h1 : DataW.Trod enc Tryz.prog W 0 (fun _ => true) true 50 v1 d1 p1) (s1 : Sz Tryz.prog 50 d1) (d2 : DataW H) (p2 : List MemPlace) (k2 : Value.okWide Tryz.prog W .any base 3 v2) (h2 : DataW.Trod enc Tryz.prog W 0 (fun _ => true) true 3 v2 d2 p2) (s2 : Sz Tryz.prog 3 d2) :
    Calls Tryz.prog 12 #[v0, v1, v2] W fun e w' => e = .returned (.bool true) ∧ Below W.heap.size W w' := by
  obtain ⟨cs0, rfl⟩ := Xik (.inl ⟨_, Tryz.underlying52⟩) k0
  obtain ⟨fu0, f0⟩ := h0
  rw [Xbf] at f0
  obtain ⟨m0, v0_0, z0_0, g0_0, o0_0, v0_1, z0_1, g0_1, o0_1, v0_2, z0_2, g0_2, o0_2, rfl, R0_0, R0_1, R0_2, ok0⟩ := Xai f0 s0
  obtain ⟨a1, b1, c1, rfl⟩ := okWide_slice Tryz.underlying50 k1
  obtain ⟨fu1, f1⟩ := h1
  rw [Xfq] at f1
  obtain ⟨m1, v1_, z1_, g1_, o1_, hc1, R1, ka1, la1⟩ := Xew (c := bvc) (ok := fun a => True) (sz := 1) (bytes := 1) Tryz.underlying50 (by kernel_rfl) (by kernel_rfl) (by decide) (fun _ => ⟨rfl, rfl⟩) (fun _ _ _ h => (let ⟨n, c⟩ := Xbl Tryz.underlying5 h; ⟨n, c, trivial⟩)) f1 s1
  rw [(List.cons.inj hc1).1]
  obtain ⟨m2, rfl, ok2⟩ := Xhs Tryz.underlying3 k2
  have hl := Qra m0 m1 m2 ok0 la1 ok2
  exact (@Mx.Qs4 m0 m1 m2 _ _ _ _ _ _ _ _ _ _ _ _ _ _ _ _ true hl W R0_0 R0_1 R0_2 R1).mono fun e w' ⟨v, he, hv, hg⟩ => ⟨by rw [he, hv], hg⟩
theorem lifted (os : Os) (started : os.Started) (H : Type) (enc : TypeId × Value → H) :
    ReturnsInHanded {} Tryz.checked os 12 .any (Rows.epochBackSpec.pre6 enc Tryz.prog Tryz.f12 Rows.epochBackRow.domain false) (Rows.epochBackSpec.post enc Tryz.prog Tryz.f12 false true false false) := by
  refine returnsInHanded_of_change_sized (C := Tryz.checked) own started (by kernel_rfl) Tryz.func12
    (ChangeSpec.witness6 (enc := enc) (C := Tryz.checked) false ⟨#[], #[.agg #[.int .u8 0, .int .i64 0, .slice none 0 0, .int .u64 0, .slice none 0 0, .int .u8 0, .int .u8 0, .int .u8 0, .int .u8 0, .int .u8 0, .int .u8 0, .int .u8 0, .int .u8 0, .int .u8 0, .int .u8 0, .int .u8 0, .int .u8 0, .int .u8 0, .int .u8 0, .int .u8 0, .int .u8 0, .int .u8 0, .int .u8 0, .int .u8 0, .int .u8 0, .int .u8 0, .int .u8 0, .int .u8 0, .int .u8 0, .int .u8 0, .int .u8 0, .int .u8 0, .int .u8 0, .int .u8 0, .int .u8 0, .int .u8 0, .int .u8 0, .int .u8 0, .int .u64 0, .slice none 0 0, .int .u8 0, .int .u8 0, .int .u8 0, .int .u8 0, .int .u8 0, .int .u8 0, .int .u8 0, .int .u8 0, .int .u8 0, .int .u8 0, .int .u8 0, .int .u8 0, .int .u8 0, .int .u8 0, .int .u8 0, .int .u8 0], .slice none 0 0, .int .i64 0], []⟩ 8 (by kernel_rfl) (by kernel_rfl) (by kernel_rfl) (by kernel_rfl)) ?_
  intro W base args ds gs before hval0 hW hcnd hsz _
  have hval : ∀ (j : Nat) t v, Tryz.f12.params[j]? = some t → args[j]? = some v → Value.okWide Tryz.prog W .any base t v := hval0
  have hW' := hW
  obtain ⟨p, q, hA0, hV, rfl, hfz, hnd⟩ := hW
  have hA : DataW.TrodAll enc Tryz.prog W 0 (fun _ => true) true Tryz.f12.params.toList args.toList ds p := hA0
  rw [Tryz.params12] at hA hval
  obtain ⟨v0, vs0, d0, ds0, p0, q0, hargs, rfl, rfl, h0, r0⟩ := trodAll_cons hA
  obtain ⟨v1, vs1, d1, ds1, p1, q1, rfl, rfl, rfl, h1, r1⟩ := trodAll_cons r0
  obtain ⟨v2, vs2, d2, ds2, p2, q2, rfl, rfl, rfl, h2, r2⟩ := trodAll_cons r1
  obtain ⟨rfl, rfl, rfl⟩ := trodAll_nil r2
  obtain rfl : args = #[v0, v1, v2] := by cases args; simp_all
  obtain ⟨rfl, rfl⟩ := trodVars_none hV
  have lt0 : ∀ x ∈ p0, x.block < W.heap.size := by obtain ⟨m, hm⟩ := h0; exact DataW.trod_lt m _ _ _ hm
  have s0 : Sz Tryz.prog 52 d0 := fun n hn => by simpa using List.all_eq_true.1 hsz n (DataW.weights_mem_each (j := 0) rfl rfl n hn)
  have lt1 : ∀ x ∈ p1, x.block < W.heap.size := by obtain ⟨m, hm⟩ := h1; exact DataW.trod_lt m _ _ _ hm
  have s1 : Sz Tryz.prog 50 d1 := fun n hn => by simpa using List.all_eq_true.1 hsz n (DataW.weights_mem_each (j := 1) rfl rfl n hn)
  have lt2 : ∀ x ∈ p2, x.block < W.heap.size := by obtain ⟨m, hm⟩ := h2; exact DataW.trod_lt m _ _ _ hm
  have s2 : Sz Tryz.prog 3 d2 := fun n hn => by simpa using List.all_eq_true.1 hsz n (DataW.weights_mem_each (j := 2) rfl rfl n hn)
  clear hA0 hval0
  refine (walk (enc := enc) W base v0 v1 v2 d0 p0 (hval 0 52 v0 rfl rfl) h0 s0 d1 p1 (hval 1 50 v1 rfl rfl) h1 s1 d2 p2 (hval 2 3 v2 rfl rfl) h2 s2).mono fun e W' ⟨he, bel⟩ => ?_
  subst he
  exact ⟨_, rfl, _, _, _, [], _, [], hW', trodAll_mk1 (shut_bool Tryz.underlying4 _), (trodAll_cons_mk (Below.trod laidOut (by kernel_rfl) (of_decide_eq_true (by kernel_rfl)) h0 bel lt0) (trodAll_cons_mk (Below.trod laidOut (by kernel_rfl) (of_decide_eq_true (by kernel_rfl)) h1 bel lt1) (trodAll_cons_mk (Below.trod laidOut (by kernel_rfl) (of_decide_eq_true (by kernel_rfl)) h2 bel lt2) trodAll_mk0))), rfl, bel.frame _, fun h => by cases h⟩
theorem k1 : (Rows.epochBackRow.wf (OpenSpec.ofChange Rows.epochBackSpec)) = true := by kernel_rfl
theorem k2 : (laidOutB Tryz.pinned.checked.prog) = true := by kernel_rfl
theorem k3 : (mapsRowed Tryz.pinned.checked.prog) = true := by kernel_rfl
theorem k4 : (Tryz.f12.params.all (Tryz.pinned.checked.prog.readableRec ·)) = true := by kernel_rfl
theorem k5 : (namedTie Tryz.pinned.checked.prog Rows.epochBackRow.named Rows.epochBackSpec.vars) = true := by kernel_rfl
theorem k6 : ((Rows.epochBackRow.stops == [])) = true := by kernel_rfl
theorem k7 : ((Tryz.pinned.checked.prog.stops == [])) = true := by kernel_rfl
theorem k8 : ((Rows.epochBackRow.knobs == [])) = true := by kernel_rfl
theorem k9 : ((Tryz.pinned.checked.prog.stopKnobs == [])) = true := by kernel_rfl
theorem k10 : ((Rows.epochBackRow.inPlace == Tryz.pinned.checked.prog.inPlace 12)) = true := by kernel_rfl
theorem k11 : ((Rows.epochBackRow.unfollowed == Tryz.pinned.checked.prog.unfollowed 12)) = true := by kernel_rfl
theorem k12 : ((Rows.epochBackRow.recurses == Tryz.pinned.checked.prog.recurses 12)) = true := by kernel_rfl
theorem k13 : ((Rows.epochBackRow.named == Tryz.pinned.checked.prog.varsNamed 12)) = true := by kernel_rfl
theorem k14 : ((Rows.epochBackRow.maps == (Tryz.f12.params.toList ++ Rows.epochBackSpec.plain.varTypes Tryz.pinned.checked.prog).any (Tryz.pinned.checked.prog.mapsRec ·))) = true := by kernel_rfl
theorem k15 : ((Rows.epochBackRow.ifaces == (Tryz.f12.params.toList ++ Rows.epochBackSpec.plain.varTypes Tryz.pinned.checked.prog).any (Tryz.pinned.checked.prog.ifacesRec ·))) = true := by kernel_rfl
theorem k16 : ((Rows.epochBackRow.mapsOut == Tryz.pinned.checked.prog.mapsAmong Tryz.f12.resultTypes.toList)) = true := by kernel_rfl
theorem k17 : ((Rows.epochBackRow.loops == (Tryz.f12.params.toList ++ Rows.epochBackSpec.plain.varTypes Tryz.pinned.checked.prog).any (Tryz.pinned.checked.prog.loopsFrom ·))) = true := by kernel_rfl
theorem k18 : ((Rows.epochBackRow.wideKeys == (Tryz.f12.params.toList ++ Rows.epochBackSpec.plain.varTypes Tryz.pinned.checked.prog ++ Tryz.f12.resultTypes.toList).any (Tryz.pinned.checked.prog.wideKeysFrom ·))) = true := by kernel_rfl
theorem k19 : (Rows.epochBackSpec.vars.all (Tryz.pinned.checked.prog.varReadable ·)) = true := by kernel_rfl
theorem k20 : (Tryz.f12.resultTypes.all (fun t => Tryz.pinned.checked.prog.readableRec t && decide (t < Tryz.pinned.checked.prog.types.size))) = true := by kernel_rfl
theorem k21 : ((Rows.epochBackRow.ifacesOut == Tryz.f12.resultTypes.toList.any (Tryz.pinned.checked.prog.ifacesRec ·))) = true := by kernel_rfl
theorem k22 : ((Rows.epochBackRow.loopsOut == Tryz.f12.resultTypes.toList.any (Tryz.pinned.checked.prog.loopsFrom ·))) = true := by kernel_rfl
theorem k23 : ((Rows.epochBackRow.plainKeys == Tryz.pinned.checked.prog.plainKeys)) = true := by kernel_rfl
theorem k24 : (Rows.epochBackRow.shortTexts.isNone) = true := by kernel_rfl
theorem k25 : (Tryz.pinned.checked.prog.stopsHeard) = true := by kernel_rfl
theorem k26 : (Tryz.pinned.checked.prog.mayEnter) = true := by kernel_rfl
theorem k27 : ((Rows.epochBackRow.lifted == Tryz.pinned.checked.prog.liftsFinal)) = true := by kernel_rfl
theorem k28 : ((Tryz.pinned.checked.prog.make == some Rows.epochBackRow.make)) = true := by kernel_rfl
theorem k30 : ((Rows.epochBackRow.pinned == Rows.epochBackRow.pinnedBy)) = true := by kernel_rfl
theorem k31 : ((Rows.epochBackRow.veiled == (Tryz.f12.params.toList ++ Rows.epochBackSpec.plain.varTypes Tryz.pinned.checked.prog ++ Tryz.f12.resultTypes.toList).any (Tryz.pinned.checked.prog.veiledRec ·))) = true := by kernel_rfl
theorem k32 : (Rows.epochBackRow.veiledFits Tryz.pinned.checked.prog Tryz.f12.params.toList (Tryz.f12.params.toList ++ Rows.epochBackSpec.plain.varTypes Tryz.pinned.checked.prog ++ Tryz.f12.resultTypes.toList)) = true := by kernel_rfl
theorem closed : joinedFacts Tryz.pinned.checked.prog 12 Tryz.f12 Rows.epochBackSpec Rows.epochBackRow = true := by unfold joinedFacts; exact Qew (Qew (Qew (Qew (Qew (Qew (Qew (Qew (Qew (Qew (Qew (Qew (Qew (Qew (Qew (Qew (Qew (Qew (Qew (Qew (Qew (Qew (Qew (Qew (Qew (Qew (Qew (Qew (Qew (Qew (Qew (k1) k2) k3) k4) k5) k6) k7) k8) k9) k10) k11) k12) k13) k14) k15) k16) k17) k18) k19) k20) k21) k22) k23) k24) k25) k26) k27) k28) (by kernel_rfl)) k30) k31) k32
theorem named : Tryz.pinned.checked.prog.funcNamed Rows.epochBackRow.func = some 12 := by kernel_rfl
theorem inst : Tryz.f12.isInstance Tryz.pinned.checked.prog Rows.epochBackRow.origin Rows.epochBackRow.targs := of_decide_eq_true (by kernel_rfl)
theorem wrap : Tryz.f12.isWrapper Tryz.pinned.checked.prog Rows.epochBackRow.wrapper Rows.epochBackRow.mainSum := by unfold Func.isWrapper; first | (rw [if_pos (by decide +kernel)]; kernel_rfl) | (rw [if_neg (by decide +kernel)]; exact ⟨rfl, rfl⟩)
theorem over : Rows.epochBackRow.holds Tryz.pinned (OpenSpec.ofChange Rows.epochBackSpec) :=
  OpenClaim.holds_of_wide 12 Tryz.f12 rfl rfl rfl rfl rfl rfl rfl ⟨rfl, rfl, rfl, rfl, rfl⟩ rfl rfl rfl rfl rfl named Tryz.func12 closed inst wrap
    (fun os started H enc _ => lifted os started H enc)
theorem proved : Rows.EpochBackSaid := over
end Go.Proofs.YtjdffpglgkefmaaGreat.epochBack
