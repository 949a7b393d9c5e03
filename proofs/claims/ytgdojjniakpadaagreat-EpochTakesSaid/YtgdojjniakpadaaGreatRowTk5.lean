/- Proved: for every input, a call of the Go function headendlaw05.EpochTakes returns true, and its arguments read afterwards as before (the given statement Rows.EpochTakesSaid). Conditions: none but those of the given row itself. -/
import Derived.Test.YtgdojjniakpadaaGreatZc
import Derived.Test.YtgdojjniakpadaaGreatZd
import Derived.Test.YtgdojjniakpadaaGreatTk5
import Derived.Test.YtgdojjniakpadaaGreatZg
set_option linter.unusedVariables false
set_option linter.unusedSimpArgs false
set_option maxRecDepth 100000
namespace Go.Proofs.YtgdojjniakpadaaGreat.epochTakes
open Go Go.RowKit Go.Sx Go.ChangeShapes Go.WideShapes Go.ChangeAt
theorem own : ownKnob Tryz.prog.godebug = none := by kernel_rfl
theorem laidOut : laidOutB Tryz.prog = true := by kernel_rfl
theorem walk {H : Type} {enc : TypeId × Value → H} (W : World) (base : Nat) (v0 v1 v2 v3 v4 v5 : Value) (d0 : DataW H) (p0 : List MemPlace) (k0 : Value.okWide Tryz.prog W .any base 23 v0) (h0 : DataW.Trod enc Tryz.prog W 0 (fun _ => true) true 23 v0 d0 p0) (s0 : Sz Tryz.prog 23 d0) (d1 : DataW H) (p1 : List MemPlace) (k1 : Value.okWide Tryz.prog W .any base 28 v1) (h1 : DataW.Trod enc Tryz.prog W 0 (fun _ => true) true 28 v1 d1 p1) (s1 : Sz Tryz.prog 28 d1) (d2 : DataW H) (p2 : List MemPlace) (k2 : Value.okWide Tryz.prog W .any base 30 v2) (h2 : DataW.Trod enc Tryz.prog W 0 (fun _ => true) true 30 v2 d2 p2) (s2 : Sz Tryz.prog 30 d2) (d3 : DataW H) (p3 : List MemPlace) (k3 : Value.okWide Tryz.prog W .any base 57 v3) (h3 : DataW.Trod enc Tryz.prog W 0 (fun _ => true) true 57 v3 d3 p3) (s3 : Sz Tryz.prog 57 d3) (d4 : DataW H) (p4 : List MemPlace) (k4 : Value.okWide Tryz.prog W .any base 38 v4) (h4 : DataW.Trod enc Tryz.prog W 0 (fun _ => true) true 38 v4 d4 p4) (s4 : Sz Tryz.prog 38 d4) (d5 : DataW H) (p5 : List MemPlace) (k5 : Value.okWide Tryz.prog W .any base 3 v5) (h5 : DataW.Trod enc Tryz.prog W 0 (fun _ => true) true 3 v5 d5 p5) (s5 : Sz Tryz.prog 3 d5) :
    Calls Tryz.prog 4 #[v0, v1, v2, v3, v4, v5] W fun e w' => e = .returned (.bool true) ∧ Below W.heap.size W w' := by
  obtain ⟨cs0, rfl⟩ := Qf6 (.inr ⟨_, _, Tryz.underlying23⟩) k0
  obtain ⟨fu0, f0⟩ := h0
  rw [Qdh] at f0
  obtain ⟨m0, rfl⟩ := Ah Tryz.underlying23 Tryz.underlying5 (by kernel_rfl) (by kernel_rfl) f0
  obtain ⟨cs1, rfl⟩ := Qf6 (.inl ⟨_, Tryz.underlying28⟩) k1
  obtain ⟨fu1, f1⟩ := h1
  rw [Qdh] at f1
  obtain ⟨m1, rfl, ok1⟩ := Xdh f1
  obtain ⟨cs2, rfl⟩ := Qf6 (.inl ⟨_, Tryz.underlying30⟩) k2
  obtain ⟨fu2, f2⟩ := h2
  rw [Qdh] at f2
  obtain ⟨m2, rfl, ok2⟩ := Xda f2
  obtain ⟨cs3, rfl⟩ := Qf6 (.inl ⟨_, Tryz.underlying57⟩) k3
  obtain ⟨fu3, f3⟩ := h3
  rw [Qdh] at f3
  obtain ⟨m3, v3_0, z3_0, g3_0, o3_0, rfl, R3_0, ok3⟩ := Xdg f3 s3
  obtain ⟨cs4, rfl⟩ := Qf6 (.inl ⟨_, Tryz.underlying38⟩) k4
  obtain ⟨fu4, f4⟩ := h4
  rw [Qdh] at f4
  obtain ⟨m4, v4_0, z4_0, g4_0, o4_0, v4_1, z4_1, g4_1, o4_1, v4_2, z4_2, g4_2, o4_2, rfl, R4_0, R4_1, R4_2, ok4⟩ := Xdf f4 s4
  obtain ⟨m5, rfl, ok5⟩ := Xd5 Tryz.underlying3 k5
  have hl := Xcd m0 m1 m2 m3 m4 m5 ok1 ok2 ok3 ok4 ok5
  exact (@Mx.Xce m0 m1 m2 m3 m4 m5 _ _ _ _ _ _ _ _ _ _ _ _ _ _ _ _ true hl W R3_0 R4_0 R4_1 R4_2).mono fun e w' ⟨v, he, hv, hg⟩ => ⟨by rw [he, hv], hg⟩
theorem lifted (os : Os) (started : os.Started) (H : Type) (enc : TypeId × Value → H) :
    ReturnsInHanded {} Tryz.checked os 4 .any (Rows.epochTakesSpec.pre6 enc Tryz.prog Tryz.f4 Rows.epochTakesRow.domain false) (Rows.epochTakesSpec.post enc Tryz.prog Tryz.f4 false true false false) := by
  refine returnsInHanded_of_change_sized (C := Tryz.checked) own started (by kernel_rfl) Tryz.func4
    (ChangeSpec.witness6 (enc := enc) (C := Tryz.checked) false ⟨#[], #[.agg #[.int .u8 0, .int .u8 0, .int .u8 0, .int .u8 0, .int .u8 0, .int .u8 0, .int .u8 0, .int .u8 0, .int .u8 0, .int .u8 0, .int .u8 0, .int .u8 0, .int .u8 0, .int .u8 0, .int .u8 0, .int .u8 0], .agg #[.int .u8 0, .int .i64 0, .int .i64 0, .int .u64 0, .int .u64 0, .int .u64 0], .agg #[.int .i64 0, .int .i64 0, .int .i64 0, .int .i64 0, .int .i64 0], .agg #[.int .i64 0, .slice none 0 0, .int .u64 0, .int .u64 0, .int .i64 0, .bool false, .int .i64 0, .int .u8 0, .int .u8 0, .int .u8 0, .int .u8 0, .int .u8 0, .int .u8 0, .int .u8 0, .int .u8 0, .int .u8 0, .int .u8 0, .int .u8 0, .int .u8 0, .int .u8 0, .int .u8 0, .int .u8 0, .int .u8 0, .bool false, .int .i64 0, .int .u8 0, .int .u8 0, .int .u8 0, .int .u8 0, .int .u8 0, .int .u8 0, .int .u8 0, .int .u8 0, .int .u8 0, .int .u8 0, .int .u8 0, .int .u8 0, .int .u8 0, .int .u8 0, .int .u8 0, .int .u8 0], .agg #[.int .u8 0, .int .i64 0, .slice none 0 0, .int .u64 0, .slice none 0 0, .int .u8 0, .int .u8 0, .int .u8 0, .int .u8 0, .int .u8 0, .int .u8 0, .int .u8 0, .int .u8 0, .int .u8 0, .int .u8 0, .int .u8 0, .int .u8 0, .int .u8 0, .int .u8 0, .int .u8 0, .int .u8 0, .int .u8 0, .int .u8 0, .int .u8 0, .int .u8 0, .int .u8 0, .int .u8 0, .int .u8 0, .int .u8 0, .int .u8 0, .int .u8 0, .int .u8 0, .int .u8 0, .int .u8 0, .int .u8 0, .int .u8 0, .int .u8 0, .int .u8 0, .int .u64 0, .slice none 0 0, .int .u8 0, .int .u8 0, .int .u8 0, .int .u8 0, .int .u8 0, .int .u8 0, .int .u8 0, .int .u8 0, .int .u8 0, .int .u8 0, .int .u8 0, .int .u8 0, .int .u8 0, .int .u8 0, .int .u8 0, .int .u8 0], .int .i64 0], []⟩ 8 (by kernel_rfl) (by kernel_rfl) (by kernel_rfl) (by kernel_rfl)) ?_
  intro W base args ds gs before hval0 hW hcnd hsz _
  have hval : ∀ (j : Nat) t v, Tryz.f4.params[j]? = some t → args[j]? = some v → Value.okWide Tryz.prog W .any base t v := hval0
  have hW' := hW
  obtain ⟨p, q, hA0, hV, rfl, hfz, hnd⟩ := hW
  have hA : DataW.TrodAll enc Tryz.prog W 0 (fun _ => true) true Tryz.f4.params.toList args.toList ds p := hA0
  rw [Tryz.params4] at hA hval
  obtain ⟨v0, vs0, d0, ds0, p0, q0, hargs, rfl, rfl, h0, r0⟩ := trodAll_cons hA
  obtain ⟨v1, vs1, d1, ds1, p1, q1, rfl, rfl, rfl, h1, r1⟩ := trodAll_cons r0
  obtain ⟨v2, vs2, d2, ds2, p2, q2, rfl, rfl, rfl, h2, r2⟩ := trodAll_cons r1
  obtain ⟨v3, vs3, d3, ds3, p3, q3, rfl, rfl, rfl, h3, r3⟩ := trodAll_cons r2
  obtain ⟨v4, vs4, d4, ds4, p4, q4, rfl, rfl, rfl, h4, r4⟩ := trodAll_cons r3
  obtain ⟨v5, vs5, d5, ds5, p5, q5, rfl, rfl, rfl, h5, r5⟩ := trodAll_cons r4
  obtain ⟨rfl, rfl, rfl⟩ := trodAll_nil r5
  obtain rfl : args = #[v0, v1, v2, v3, v4, v5] := by cases args; simp_all
  obtain ⟨rfl, rfl⟩ := trodVars_none hV
  have lt0 : ∀ x ∈ p0, x.block < W.heap.size := by obtain ⟨m, hm⟩ := h0; exact DataW.trod_lt m _ _ _ hm
  have s0 : Sz Tryz.prog 23 d0 := fun n hn => by simpa using List.all_eq_true.1 hsz n (DataW.weights_mem_each (j := 0) rfl rfl n hn)
  have lt1 : ∀ x ∈ p1, x.block < W.heap.size := by obtain ⟨m, hm⟩ := h1; exact DataW.trod_lt m _ _ _ hm
  have s1 : Sz Tryz.prog 28 d1 := fun n hn => by simpa using List.all_eq_true.1 hsz n (DataW.weights_mem_each (j := 1) rfl rfl n hn)
  have lt2 : ∀ x ∈ p2, x.block < W.heap.size := by obtain ⟨m, hm⟩ := h2; exact DataW.trod_lt m _ _ _ hm
  have s2 : Sz Tryz.prog 30 d2 := fun n hn => by simpa using List.all_eq_true.1 hsz n (DataW.weights_mem_each (j := 2) rfl rfl n hn)
  have lt3 : ∀ x ∈ p3, x.block < W.heap.size := by obtain ⟨m, hm⟩ := h3; exact DataW.trod_lt m _ _ _ hm
  have s3 : Sz Tryz.prog 57 d3 := fun n hn => by simpa using List.all_eq_true.1 hsz n (DataW.weights_mem_each (j := 3) rfl rfl n hn)
  have lt4 : ∀ x ∈ p4, x.block < W.heap.size := by obtain ⟨m, hm⟩ := h4; exact DataW.trod_lt m _ _ _ hm
  have s4 : Sz Tryz.prog 38 d4 := fun n hn => by simpa using List.all_eq_true.1 hsz n (DataW.weights_mem_each (j := 4) rfl rfl n hn)
  have lt5 : ∀ x ∈ p5, x.block < W.heap.size := by obtain ⟨m, hm⟩ := h5; exact DataW.trod_lt m _ _ _ hm
  have s5 : Sz Tryz.prog 3 d5 := fun n hn => by simpa using List.all_eq_true.1 hsz n (DataW.weights_mem_each (j := 5) rfl rfl n hn)
  clear hA0 hval0
  refine (walk (enc := enc) W base v0 v1 v2 v3 v4 v5 d0 p0 (hval 0 23 v0 rfl rfl) h0 s0 d1 p1 (hval 1 28 v1 rfl rfl) h1 s1 d2 p2 (hval 2 30 v2 rfl rfl) h2 s2 d3 p3 (hval 3 57 v3 rfl rfl) h3 s3 d4 p4 (hval 4 38 v4 rfl rfl) h4 s4 d5 p5 (hval 5 3 v5 rfl rfl) h5 s5).mono fun e W' ⟨he, bel⟩ => ?_
  subst he
  exact ⟨_, rfl, _, _, _, [], _, [], hW', trodAll_mk1 (shut_bool Tryz.underlying4 _), (trodAll_cons_mk (Below.trod laidOut (by kernel_rfl) (of_decide_eq_true (by kernel_rfl)) h0 bel lt0) (trodAll_cons_mk (Below.trod laidOut (by kernel_rfl) (of_decide_eq_true (by kernel_rfl)) h1 bel lt1) (trodAll_cons_mk (Below.trod laidOut (by kernel_rfl) (of_decide_eq_true (by kernel_rfl)) h2 bel lt2) (trodAll_cons_mk (Below.trod laidOut (by kernel_rfl) (of_decide_eq_true (by kernel_rfl)) h3 bel lt3) (trodAll_cons_mk (Below.trod laidOut (by kernel_rfl) (of_decide_eq_true (by kernel_rfl)) h4 bel lt4) (trodAll_cons_mk (Below.trod laidOut (by kernel_rfl) (of_decide_eq_true (by kernel_rfl)) h5 bel lt5) trodAll_mk0)))))), rfl, bel.frame _, fun h => by cases h⟩
theorem k1 : (Rows.epochTakesRow.wf (OpenSpec.ofChange Rows.epochTakesSpec)) = true := by kernel_rfl
theorem k2 : (laidOutB Tryz.pinned.checked.prog) = true := by kernel_rfl
theorem k3 : (mapsRowed Tryz.pinned.checked.prog) = true := by kernel_rfl
theorem k4 : (Tryz.f4.params.all (Tryz.pinned.checked.prog.readableRec ·)) = true := by kernel_rfl
theorem k5 : (namedTie Tryz.pinned.checked.prog Rows.epochTakesRow.named Rows.epochTakesSpec.vars) = true := by kernel_rfl
theorem k6 : ((Rows.epochTakesRow.stops == [])) = true := by kernel_rfl
theorem k7 : ((Tryz.pinned.checked.prog.stops == [])) = true := by kernel_rfl
theorem k8 : ((Rows.epochTakesRow.knobs == [])) = true := by kernel_rfl
theorem k9 : ((Tryz.pinned.checked.prog.stopKnobs == [])) = true := by kernel_rfl
theorem k10 : ((Rows.epochTakesRow.inPlace == Tryz.pinned.checked.prog.inPlace 4)) = true := by kernel_rfl
theorem k11 : ((Rows.epochTakesRow.unfollowed == Tryz.pinned.checked.prog.unfollowed 4)) = true := by kernel_rfl
theorem k12 : ((Rows.epochTakesRow.recurses == Tryz.pinned.checked.prog.recurses 4)) = true := by kernel_rfl
theorem k13 : ((Rows.epochTakesRow.named == Tryz.pinned.checked.prog.varsNamed 4)) = true := by kernel_rfl
theorem k14 : ((Rows.epochTakesRow.maps == (Tryz.f4.params.toList ++ Rows.epochTakesSpec.plain.varTypes Tryz.pinned.checked.prog).any (Tryz.pinned.checked.prog.mapsRec ·))) = true := by kernel_rfl
theorem k15 : ((Rows.epochTakesRow.ifaces == (Tryz.f4.params.toList ++ Rows.epochTakesSpec.plain.varTypes Tryz.pinned.checked.prog).any (Tryz.pinned.checked.prog.ifacesRec ·))) = true := by kernel_rfl
theorem k16 : ((Rows.epochTakesRow.mapsOut == Tryz.pinned.checked.prog.mapsAmong Tryz.f4.resultTypes.toList)) = true := by kernel_rfl
theorem k17 : ((Rows.epochTakesRow.loops == (Tryz.f4.params.toList ++ Rows.epochTakesSpec.plain.varTypes Tryz.pinned.checked.prog).any (Tryz.pinned.checked.prog.loopsFrom ·))) = true := by kernel_rfl
theorem k18 : ((Rows.epochTakesRow.wideKeys == (Tryz.f4.params.toList ++ Rows.epochTakesSpec.plain.varTypes Tryz.pinned.checked.prog ++ Tryz.f4.resultTypes.toList).any (Tryz.pinned.checked.prog.wideKeysFrom ·))) = true := by kernel_rfl
theorem k19 : (Rows.epochTakesSpec.vars.all (Tryz.pinned.checked.prog.varReadable ·)) = true := by kernel_rfl
theorem k20 : (Tryz.f4.resultTypes.all (fun t => Tryz.pinned.checked.prog.readableRec t && decide (t < Tryz.pinned.checked.prog.types.size))) = true := by kernel_rfl
theorem k21 : ((Rows.epochTakesRow.ifacesOut == Tryz.f4.resultTypes.toList.any (Tryz.pinned.checked.prog.ifacesRec ·))) = true := by kernel_rfl
theorem k22 : ((Rows.epochTakesRow.loopsOut == Tryz.f4.resultTypes.toList.any (Tryz.pinned.checked.prog.loopsFrom ·))) = true := by kernel_rfl
theorem k23 : ((Rows.epochTakesRow.plainKeys == Tryz.pinned.checked.prog.plainKeys)) = true := by kernel_rfl
theorem k24 : (Rows.epochTakesRow.shortTexts.isNone) = true := by kernel_rfl
theorem k25 : (Tryz.pinned.checked.prog.stopsHeard) = true := by kernel_rfl
theorem k26 : (Tryz.pinned.checked.prog.mayEnter) = true := by kernel_rfl
theorem k27 : ((Rows.epochTakesRow.lifted == Tryz.pinned.checked.prog.liftsFinal)) = true := by kernel_rfl
theorem k28 : ((Tryz.pinned.checked.prog.make == some Rows.epochTakesRow.make)) = true := by kernel_rfl
theorem k30 : ((Rows.epochTakesRow.pinned == Rows.epochTakesRow.pinnedBy)) = true := by kernel_rfl
theorem k31 : ((Rows.epochTakesRow.veiled == (Tryz.f4.params.toList ++ Rows.epochTakesSpec.plain.varTypes Tryz.pinned.checked.prog ++ Tryz.f4.resultTypes.toList).any (Tryz.pinned.checked.prog.veiledRec ·))) = true := by kernel_rfl
theorem k32 : (Rows.epochTakesRow.veiledFits Tryz.pinned.checked.prog Tryz.f4.params.toList (Tryz.f4.params.toList ++ Rows.epochTakesSpec.plain.varTypes Tryz.pinned.checked.prog ++ Tryz.f4.resultTypes.toList)) = true := by kernel_rfl
theorem closed : joinedFacts Tryz.pinned.checked.prog 4 Tryz.f4 Rows.epochTakesSpec Rows.epochTakesRow = true := by unfold joinedFacts; exact Vo (Vo (Vo (Vo (Vo (Vo (Vo (Vo (Vo (Vo (Vo (Vo (Vo (Vo (Vo (Vo (Vo (Vo (Vo (Vo (Vo (Vo (Vo (Vo (Vo (Vo (Vo (Vo (Vo (Vo (Vo (k1) k2) k3) k4) k5) k6) k7) k8) k9) k10) k11) k12) k13) k14) k15) k16) k17) k18) k19) k20) k21) k22) k23) k24) k25) k26) k27) k28) (by kernel_rfl)) k30) k31) k32
theorem named : Tryz.pinned.checked.prog.funcNamed Rows.epochTakesRow.func = some 4 := by kernel_rfl
theorem inst : Tryz.f4.isInstance Tryz.pinned.checked.prog Rows.epochTakesRow.origin Rows.epochTakesRow.targs := of_decide_eq_true (by kernel_rfl)
theorem wrap : Tryz.f4.isWrapper Tryz.pinned.checked.prog Rows.epochTakesRow.wrapper Rows.epochTakesRow.mainSum := by unfold Func.isWrapper; first | (rw [if_pos (by decide +kernel)]; kernel_rfl) | (rw [if_neg (by decide +kernel)]; exact ⟨rfl, rfl⟩)
theorem over : Rows.epochTakesRow.holds Tryz.pinned (OpenSpec.ofChange Rows.epochTakesSpec) :=
  OpenClaim.holds_of_wide 4 Tryz.f4 rfl rfl rfl rfl rfl rfl rfl ⟨rfl, rfl, rfl, rfl, rfl⟩ rfl rfl rfl rfl rfl named Tryz.func4 closed inst wrap
    (fun os started H enc _ => lifted os started H enc)
theorem proved : Rows.EpochTakesSaid := over
end Go.Proofs.YtgdojjniakpadaaGreat.epochTakes
