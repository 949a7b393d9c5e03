/- Proved: for every input, a call of the Go function headendlaw05.EpochSends returns true, and its arguments read afterwards as before (the given statement Rows.EpochSendsSaid). Conditions: none but those of the given row itself. -/
import Derived.Test.YtgdojjniakpadaaGreatZc
import Derived.Test.YtgdojjniakpadaaGreatZd
import Derived.Test.YtgdojjniakpadaaGreatSn5
import Derived.Test.YtgdojjniakpadaaGreatZg
set_option linter.unusedVariables false
set_option linter.unusedSimpArgs false
set_option maxRecDepth 100000
namespace Go.Proofs.YtgdojjniakpadaaGreat.epochSends
open Go Go.RowKit Go.Sx Go.ChangeShapes Go.WideShapes Go.ChangeAt
theorem own : ownKnob Tryz.prog.godebug = none := by kernel_rfl
theorem laidOut : laidOutB Tryz.prog = true := by kernel_rfl
theorem walk {H : Type} {enc : TypeId × Value → H} (W : World) (base : Nat) (v0 v1 v2 v3 v4 v5 v6 v7 : Value) (d0 : DataW H) (p0 : List MemPlace) (k0 : Value.okWide Tryz.prog W .any base 23 v0) (h0 : DataW.Trod enc Tryz.prog W 0 (fun _ => true) true 23 v0 d0 p0) (s0 : Sz Tryz.prog 23 d0) (d1 : DataW H) (p1 : List MemPlace) (k1 : Value.okWide Tryz.prog W .any base 28 v1) (h1 : DataW.Trod enc Tryz.prog W 0 (fun _ => true) true 28 v1 d1 p1) (s1 : Sz Tryz.prog 28 d1) (d2 : DataW H) (p2 : List MemPlace) (k2 : Value.okWide Tryz.prog W .any base 30 v2) (h2 : DataW.Trod enc Tryz.prog W 0 (fun _ => true) true 30 v2 d2 p2) (s2 : Sz Tryz.prog 30 d2) (d3 : DataW H) (p3 : List MemPlace) (k3 : Value.okWide Tryz.prog W .any base 3 v3) (h3 : DataW.Trod enc Tryz.prog W 0 (fun _ => true) true 3 v3 d3 p3) (s3 : Sz Tryz.prog 3 d3) (d4 : DataW H) (p4 : List MemPlace) (k4 : Value.okWide Tryz.prog W .any base 31 v4) (h4 : DataW.Trod enc Tryz.prog W 0 (fun _ => true) true 31 v4 d4 p4) (s4 : Sz Tryz.prog 31 d4) (d5 : DataW H) (p5 : List MemPlace) (k5 : Value.okWide Tryz.prog W .any base 3 v5) (h5 : DataW.Trod enc Tryz.prog W 0 (fun _ => true) true 3 v5 d5 p5) (s5 : Sz Tryz.prog 3 d5) (d6 : DataW H) (p6 : List MemPlace) (k6 : Value.okWide Tryz.prog W .any base 24 v6) (h6 : DataW.Trod enc Tryz.prog W 0 (fun _ => true) true 24 v6 d6 p6) (s6 : Sz Tryz.prog 24 d6) (d7 : DataW H) (p7 : List MemPlace) (k7 : Value.okWide Tryz.prog W .any base 32 v7) (h7 : DataW.Trod enc Tryz.prog W 0 (fun _ => true) true 32 v7 d7 p7) (s7 : Sz Tryz.prog 32 d7) :
    Calls Tryz.prog 3 #[v0, v1, v2, v3, v4, v5, v6, v7] W fun e w' => e = .returned (.bool true) ∧ Below W.heap.size W w' := by
  obtain ⟨cs0, rfl⟩ := okv_agg (.inr ⟨_, _, Tryz.underlying23⟩) k0
  obtain ⟨fu0, f0⟩ := h0
  rw [cells_agg] at f0
  obtain ⟨m0, rfl⟩ := op_key Tryz.underlying23 Tryz.underlying5 (by kernel_rfl) (by kernel_rfl) f0
  obtain ⟨cs1, rfl⟩ := okv_agg (.inl ⟨_, Tryz.underlying28⟩) k1
  obtain ⟨fu1, f1⟩ := h1
  rw [cells_agg] at f1
  obtain ⟨m1, rfl, ok1⟩ := op_TScheme f1
  obtain ⟨cs2, rfl⟩ := okv_agg (.inl ⟨_, Tryz.underlying30⟩) k2
  obtain ⟨fu2, f2⟩ := h2
  rw [cells_agg] at f2
  obtain ⟨m2, rfl, ok2⟩ := op_TAir f2
  obtain ⟨m3, rfl, ok3⟩ := okv_i64 Tryz.underlying3 k3
  obtain ⟨a4, b4, c4, rfl⟩ := okWide_slice Tryz.underlying31 k4
  obtain ⟨fu4, f4⟩ := h4
  rw [cells_sl] at f4
  obtain ⟨m4, v4_, z4_, g4_, o4_, hc4, R4, ka4, la4⟩ := op_sl (c := ic) (ok := fun a => I64 a) (sz := 1) (bytes := 8) Tryz.underlying31 (by kernel_rfl) (by kernel_rfl) (by decide) (fun _ => ⟨rfl, rfl⟩) (fun _ _ _ h => op_i64 Tryz.underlying3 h) f4 s4
  rw [(List.cons.inj hc4).1]
  obtain ⟨m5, rfl, ok5⟩ := okv_i64 Tryz.underlying3 k5
  obtain ⟨m6, rfl⟩ := okv_u64 Tryz.underlying24 k6
  obtain ⟨a7, b7, c7, rfl⟩ := okWide_slice Tryz.underlying32 k7
  obtain ⟨fu7, f7⟩ := h7
  rw [cells_sl] at f7
  obtain ⟨m7, v7_, z7_, g7_, o7_, hc7, R7, ka7, la7⟩ := op_sl (c := bvc) (ok := fun a => True) (sz := 1) (bytes := 1) Tryz.underlying32 (by kernel_rfl) (by kernel_rfl) (by decide) (fun _ => ⟨rfl, rfl⟩) (fun _ _ _ h => (let ⟨n, c⟩ := op_u8 Tryz.underlying5 h; ⟨n, c, trivial⟩)) f7 s7
  rw [(List.cons.inj hc7).1]
  have hl := law05_EpochSends_ok m0 m1 m2 m3 m4 m5 m6 m7 ok1 ok2 ok3 ka4 la4 ok5 la7
  exact (@Mx.law05_EpochSends_w m0 m1 m2 m3 m4 m5 m6 m7 _ _ _ _ _ _ _ _ true hl W R4 R7).mono fun e w' ⟨v, he, hv, hg⟩ => ⟨by rw [he, hv], hg⟩
theorem lifted (os : Os) (started : os.Started) (H : Type) (enc : TypeId × Value → H) :
    ReturnsInHanded {} Tryz.checked os 3 .any (Rows.epochSendsSpec.pre6 enc Tryz.prog Tryz.f3 Rows.epochSendsRow.domain false) (Rows.epochSendsSpec.post enc Tryz.prog Tryz.f3 false true false false) := by
  refine returnsInHanded_of_change_sized (C := Tryz.checked) own started (by kernel_rfl) Tryz.func3
    (ChangeSpec.witness6 (enc := enc) (C := Tryz.checked) false ⟨#[], #[.agg #[.int .u8 0, .int .u8 0, .int .u8 0, .int .u8 0, .int .u8 0, .int .u8 0, .int .u8 0, .int .u8 0, .int .u8 0, .int .u8 0, .int .u8 0, .int .u8 0, .int .u8 0, .int .u8 0, .int .u8 0, .int .u8 0], .agg #[.int .u8 0, .int .i64 0, .int .i64 0, .int .u64 0, .int .u64 0, .int .u64 0], .agg #[.int .i64 0, .int .i64 0, .int .i64 0, .int .i64 0, .int .i64 0], .int .i64 0, .slice none 0 0, .int .i64 0, .int .u64 0, .slice none 0 0], []⟩ 8 (by kernel_rfl) (by kernel_rfl) (by kernel_rfl) (by kernel_rfl)) ?_
  intro W base args ds gs before hval0 hW hcnd hsz _
  have hval : ∀ (j : Nat) t v, Tryz.f3.params[j]? = some t → args[j]? = some v → Value.okWide Tryz.prog W .any base t v := hval0
  have hW' := hW
  obtain ⟨p, q, hA0, hV, rfl, hfz, hnd⟩ := hW
  have hA : DataW.TrodAll enc Tryz.prog W 0 (fun _ => true) true Tryz.f3.params.toList args.toList ds p := hA0
  rw [Tryz.params3] at hA hval
  obtain ⟨v0, vs0, d0, ds0, p0, q0, hargs, rfl, rfl, h0, r0⟩ := trodAll_cons hA
  obtain ⟨v1, vs1, d1, ds1, p1, q1, rfl, rfl, rfl, h1, r1⟩ := trodAll_cons r0
  obtain ⟨v2, vs2, d2, ds2, p2, q2, rfl, rfl, rfl, h2, r2⟩ := trodAll_cons r1
  obtain ⟨v3, vs3, d3, ds3, p3, q3, rfl, rfl, rfl, h3, r3⟩ := trodAll_cons r2
  obtain ⟨v4, vs4, d4, ds4, p4, q4, rfl, rfl, rfl, h4, r4⟩ := trodAll_cons r3
  obtain ⟨v5, vs5, d5, ds5, p5, q5, rfl, rfl, rfl, h5, r5⟩ := trodAll_cons r4
  obtain ⟨v6, vs6, d6, ds6, p6, q6, rfl, rfl, rfl, h6, r6⟩ := trodAll_cons r5
  obtain ⟨v7, vs7, d7, ds7, p7, q7, rfl, rfl, rfl, h7, r7⟩ := trodAll_cons r6
  obtain ⟨rfl, rfl, rfl⟩ := trodAll_nil r7
  obtain rfl : args = #[v0, v1, v2, v3, v4, v5, v6, v7] := by cases args; simp_all
  obtain ⟨rfl, rfl⟩ := trodVars_none hV
  have lt0 : ∀ x ∈ p0, x.block < W.heap.size := by obtain ⟨m, hm⟩ := h0; exact DataW.trod_lt m _ _ _ hm
  have s0 : Sz Tryz.prog 23 d0 := fun n hn => by simpa using List.all_eq_true.1 hsz n (DataW.weights_mem_each (j := 0) rfl rfl n hn)
  have lt1 : ∀ x ∈ p1, x.block < W.heap.size := by obtain ⟨m, hm⟩ := h1; exact DataW.trod_lt m _ _ _ hm
  have s1 : Sz Tryz.prog 28 d1 := fun n hn => by simpa using List.all_eq_true.1 hsz n (DataW.weights_mem_each (j := 1) rfl rfl n hn)
  have lt2 : ∀ x ∈ p2, x.block < W.heap.size := by obtain ⟨m, hm⟩ := h2; exact DataW.trod_lt m _ _ _ hm
  have s2 : Sz Tryz.prog 30 d2 := fun n hn => by simpa using List.all_eq_true.1 hsz n (DataW.weights_mem_each (j := 2) rfl rfl n hn)
  have lt3 : ∀ x ∈ p3, x.block < W.heap.size := by obtain ⟨m, hm⟩ := h3; exact DataW.trod_lt m _ _ _ hm
  have s3 : Sz Tryz.prog 3 d3 := fun n hn => by simpa using List.all_eq_true.1 hsz n (DataW.weights_mem_each (j := 3) rfl rfl n hn)
  have lt4 : ∀ x ∈ p4, x.block < W.heap.size := by obtain ⟨m, hm⟩ := h4; exact DataW.trod_lt m _ _ _ hm
  have s4 : Sz Tryz.prog 31 d4 := fun n hn => by simpa using List.all_eq_true.1 hsz n (DataW.weights_mem_each (j := 4) rfl rfl n hn)
  have lt5 : ∀ x ∈ p5, x.block < W.heap.size := by obtain ⟨m, hm⟩ := h5; exact DataW.trod_lt m _ _ _ hm
  have s5 : Sz Tryz.prog 3 d5 := fun n hn => by simpa using List.all_eq_true.1 hsz n (DataW.weights_mem_each (j := 5) rfl rfl n hn)
  have lt6 : ∀ x ∈ p6, x.block < W.heap.size := by obtain ⟨m, hm⟩ := h6; exact DataW.trod_lt m _ _ _ hm
  have s6 : Sz Tryz.prog 24 d6 := fun n hn => by simpa using List.all_eq_true.1 hsz n (DataW.weights_mem_each (j := 6) rfl rfl n hn)
  have lt7 : ∀ x ∈ p7, x.block < W.heap.size := by obtain ⟨m, hm⟩ := h7; exact DataW.trod_lt m _ _ _ hm
  have s7 : Sz Tryz.prog 32 d7 := fun n hn => by simpa using List.all_eq_true.1 hsz n (DataW.weights_mem_each (j := 7) rfl rfl n hn)
  clear hA0 hval0
  refine (walk (enc := enc) W base v0 v1 v2 v3 v4 v5 v6 v7 d0 p0 (hval 0 23 v0 rfl rfl) h0 s0 d1 p1 (hval 1 28 v1 rfl rfl) h1 s1 d2 p2 (hval 2 30 v2 rfl rfl) h2 s2 d3 p3 (hval 3 3 v3 rfl rfl) h3 s3 d4 p4 (hval 4 31 v4 rfl rfl) h4 s4 d5 p5 (hval 5 3 v5 rfl rfl) h5 s5 d6 p6 (hval 6 24 v6 rfl rfl) h6 s6 d7 p7 (hval 7 32 v7 rfl rfl) h7 s7).mono fun e W' ⟨he, bel⟩ => ?_
  subst he
  exact ⟨_, rfl, _, _, _, [], _, [], hW', trodAll_mk1 (shut_bool Tryz.underlying4 _), (trodAll_cons_mk (Below.trod laidOut (by kernel_rfl) (of_decide_eq_true (by kernel_rfl)) h0 bel lt0) (trodAll_cons_mk (Below.trod laidOut (by kernel_rfl) (of_decide_eq_true (by kernel_rfl)) h1 bel lt1) (trodAll_cons_mk (Below.trod laidOut (by kernel_rfl) (of_decide_eq_true (by kernel_rfl)) h2 bel lt2) (trodAll_cons_mk (Below.trod laidOut (by kernel_rfl) (of_decide_eq_true (by kernel_rfl)) h3 bel lt3) (trodAll_cons_mk (Below.trod laidOut (by kernel_rfl) (of_decide_eq_true (by kernel_rfl)) h4 bel lt4) (trodAll_cons_mk (Below.trod laidOut (by kernel_rfl) (of_decide_eq_true (by kernel_rfl)) h5 bel lt5) (trodAll_cons_mk (Below.trod laidOut (by kernel_rfl) (of_decide_eq_true (by kernel_rfl)) h6 bel lt6) (trodAll_cons_mk (Below.trod laidOut (by kernel_rfl) (of_decide_eq_true (by kernel_rfl)) h7 bel lt7) trodAll_mk0)))))))), rfl, bel.frame _, fun h => by cases h⟩
theorem k1 : (Rows.epochSendsRow.wf (OpenSpec.ofChange Rows.epochSendsSpec)) = true := by kernel_rfl
theorem k2 : (laidOutB Tryz.pinned.checked.prog) = true := by kernel_rfl
theorem k3 : (mapsRowed Tryz.pinned.checked.prog) = true := by kernel_rfl
theorem k4 : (Tryz.f3.params.all (Tryz.pinned.checked.prog.readableRec ·)) = true := by kernel_rfl
theorem k5 : (namedTie Tryz.pinned.checked.prog Rows.epochSendsRow.named Rows.epochSendsSpec.vars) = true := by kernel_rfl
theorem k6 : ((Rows.epochSendsRow.stops == [])) = true := by kernel_rfl
theorem k7 : ((Tryz.pinned.checked.prog.stops == [])) = true := by kernel_rfl
theorem k8 : ((Rows.epochSendsRow.knobs == [])) = true := by kernel_rfl
theorem k9 : ((Tryz.pinned.checked.prog.stopKnobs == [])) = true := by kernel_rfl
theorem k10 : ((Rows.epochSendsRow.inPlace == Tryz.pinned.checked.prog.inPlace 3)) = true := by kernel_rfl
theorem k11 : ((Rows.epochSendsRow.unfollowed == Tryz.pinned.checked.prog.unfollowed 3)) = true := by kernel_rfl
theorem k12 : ((Rows.epochSendsRow.recurses == Tryz.pinned.checked.prog.recurses 3)) = true := by kernel_rfl
theorem k13 : ((Rows.epochSendsRow.named == Tryz.pinned.checked.prog.varsNamed 3)) = true := by kernel_rfl
theorem k14 : ((Rows.epochSendsRow.maps == (Tryz.f3.params.toList ++ Rows.epochSendsSpec.plain.varTypes Tryz.pinned.checked.prog).any (Tryz.pinned.checked.prog.mapsRec ·))) = true := by kernel_rfl
theorem k15 : ((Rows.epochSendsRow.ifaces == (Tryz.f3.params.toList ++ Rows.epochSendsSpec.plain.varTypes Tryz.pinned.checked.prog).any (Tryz.pinned.checked.prog.ifacesRec ·))) = true := by kernel_rfl
theorem k16 : ((Rows.epochSendsRow.mapsOut == Tryz.pinned.checked.prog.mapsAmong Tryz.f3.resultTypes.toList)) = true := by kernel_rfl
theorem k17 : ((Rows.epochSendsRow.loops == (Tryz.f3.params.toList ++ Rows.epochSendsSpec.plain.varTypes Tryz.pinned.checked.prog).any (Tryz.pinned.checked.prog.loopsFrom ·))) = true := by kernel_rfl
theorem k18 : ((Rows.epochSendsRow.wideKeys == (Tryz.f3.params.toList ++ Rows.epochSendsSpec.plain.varTypes Tryz.pinned.checked.prog ++ Tryz.f3.resultTypes.toList).any (Tryz.pinned.checked.prog.wideKeysFrom ·))) = true := by kernel_rfl
theorem k19 : (Rows.epochSendsSpec.vars.all (Tryz.pinned.checked.prog.varReadable ·)) = true := by kernel_rfl
theorem k20 : (Tryz.f3.resultTypes.all (fun t => Tryz.pinned.checked.prog.readableRec t && decide (t < Tryz.pinned.checked.prog.types.size))) = true := by kernel_rfl
theorem k21 : ((Rows.epochSendsRow.ifacesOut == Tryz.f3.resultTypes.toList.any (Tryz.pinned.checked.prog.ifacesRec ·))) = true := by kernel_rfl
theorem k22 : ((Rows.epochSendsRow.loopsOut == Tryz.f3.resultTypes.toList.any (Tryz.pinned.checked.prog.loopsFrom ·))) = true := by kernel_rfl
theorem k23 : ((Rows.epochSendsRow.plainKeys == Tryz.pinned.checked.prog.plainKeys)) = true := by kernel_rfl
theorem k24 : (Rows.epochSendsRow.shortTexts.isNone) = true := by kernel_rfl
theorem k25 : (Tryz.pinned.checked.prog.stopsHeard) = true := by kernel_rfl
theorem k26 : (Tryz.pinned.checked.prog.mayEnter) = true := by kernel_rfl
theorem k27 : ((Rows.epochSendsRow.lifted == Tryz.pinned.checked.prog.liftsFinal)) = true := by kernel_rfl
theorem k28 : ((Tryz.pinned.checked.prog.make == some Rows.epochSendsRow.make)) = true := by kernel_rfl
theorem k30 : ((Rows.epochSendsRow.pinned == Rows.epochSendsRow.pinnedBy)) = true := by kernel_rfl
theorem k31 : ((Rows.epochSendsRow.veiled == (Tryz.f3.params.toList ++ Rows.epochSendsSpec.plain.varTypes Tryz.pinned.checked.prog ++ Tryz.f3.resultTypes.toList).any (Tryz.pinned.checked.prog.veiledRec ·))) = true := by kernel_rfl
theorem k32 : (Rows.epochSendsRow.veiledFits Tryz.pinned.checked.prog Tryz.f3.params.toList (Tryz.f3.params.toList ++ Rows.epochSendsSpec.plain.varTypes Tryz.pinned.checked.prog ++ Tryz.f3.resultTypes.toList)) = true := by kernel_rfl
theorem closed : joinedFacts Tryz.pinned.checked.prog 3 Tryz.f3 Rows.epochSendsSpec Rows.epochSendsRow = true := by unfold joinedFacts; exact bt_and (bt_and (bt_and (bt_and (bt_and (bt_and (bt_and (bt_and (bt_and (bt_and (bt_and (bt_and (bt_and (bt_and (bt_and (bt_and (bt_and (bt_and (bt_and (bt_and (bt_and (bt_and (bt_and (bt_and (bt_and (bt_and (bt_and (bt_and (bt_and (bt_and (bt_and (k1) k2) k3) k4) k5) k6) k7) k8) k9) k10) k11) k12) k13) k14) k15) k16) k17) k18) k19) k20) k21) k22) k23) k24) k25) k26) k27) k28) (by kernel_rfl)) k30) k31) k32
theorem named : Tryz.pinned.checked.prog.funcNamed Rows.epochSendsRow.func = some 3 := by kernel_rfl
theorem inst : Tryz.f3.isInstance Tryz.pinned.checked.prog Rows.epochSendsRow.origin Rows.epochSendsRow.targs := of_decide_eq_true (by kernel_rfl)
theorem wrap : Tryz.f3.isWrapper Tryz.pinned.checked.prog Rows.epochSendsRow.wrapper Rows.epochSendsRow.mainSum := by unfold Func.isWrapper; first | (rw [if_pos (by decide +kernel)]; kernel_rfl) | (rw [if_neg (by decide +kernel)]; exact ⟨rfl, rfl⟩)
theorem over : Rows.epochSendsRow.holds Tryz.pinned (OpenSpec.ofChange Rows.epochSendsSpec) :=
  OpenClaim.holds_of_wide 3 Tryz.f3 rfl rfl rfl rfl rfl rfl rfl ⟨rfl, rfl, rfl, rfl, rfl⟩ rfl rfl rfl rfl rfl named Tryz.func3 closed inst wrap
    (fun os started H enc _ => lifted os started H enc)
theorem proved : Rows.EpochSendsSaid := over
end Go.Proofs.YtgdojjniakpadaaGreat.epochSends
