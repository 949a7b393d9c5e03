/- Proved: for every input, a call of the Go function headendlaw04.PolyHidden returns true, and its arguments read afterwards as before (the given statement Rows.PolyHiddenSaid). Conditions: none but those of the given row itself. -/
import Derived.Test.YtkdghilkigojgaaRow
import Derived.Test.YtkdghilkigojgaaPy8
import Derived.Test.YtkdghilkigojgaaQe
set_option linter.unusedVariables false
set_option linter.unusedSimpArgs false
set_option maxRecDepth 100000
namespace Go.Proofs.Ytkdghilkigojgaa.polyHidden
open Go Go.RowKit Go.Sx Go.ChangeShapes Go.WideShapes Go.ChangeAt

theorem own : ownKnob Try.prog.godebug = none := by kernel_rfl
theorem laidOut : laidOutB Try.prog = true := by kernel_rfl

theorem walk {H : Type} {enc : TypeId × Value → H} (W : World) (base : Nat) (v0 v1 v2 v3 v4 v5 v6 : Value) (d0 : DataW H) (p0 : List MemPlace) (k0 : Value.okWide Try.prog W .any base 23 v0) (h0 : DataW.Trod enc Try.prog W 0 (fun _ => true) true 23 v0 d0 p0) (s0 : Sz Try.prog 23 d0) (d1 : DataW H) (p1 : List MemPlace) (k1 : Value.okWide Try.prog W .any base 28 v1) (h1 : DataW.Trod enc Try.prog W 0 (fun _ => true) true 28 v1 d1 p1) (s1 : Sz Try.prog 28 d1) (d2 : DataW H) (p2 : List MemPlace) (k2 : Value.okWide Try.prog W .any base 41 v2) (h2 : DataW.Trod enc Try.prog W 0 (fun _ => true) true 41 v2 d2 p2) (s2 : Sz Try.prog 41 d2) (d3 : DataW H) (p3 : List MemPlace) (k3 : Value.okWide Try.prog W .any base 23 v3) (h3 : DataW.Trod enc Try.prog W 0 (fun _ => true) true 23 v3 d3 p3) (s3 : Sz Try.prog 23 d3) (d4 : DataW H) (p4 : List MemPlace) (k4 : Value.okWide Try.prog W .any base 24 v4) (h4 : DataW.Trod enc Try.prog W 0 (fun _ => true) true 24 v4 d4 p4) (s4 : Sz Try.prog 24 d4) (d5 : DataW H) (p5 : List MemPlace) (k5 : Value.okWide Try.prog W .any base 24 v5) (h5 : DataW.Trod enc Try.prog W 0 (fun _ => true) true 24 v5 d5 p5) (s5 : Sz Try.prog 24 d5) (d6 : DataW H) (p6 : List MemPlace) (k6 : Value.okWide Try.prog W .any base 24 v6) (h6 : DataW.Trod enc Try.prog W 0 (fun _ => true) true 24 v6 d6 p6) (s6 : Sz Try.prog 24 d6) :
    Calls Try.prog 16 #[v0, v1, v2, v3, v4, v5, v6] W fun e w' => e = .returned (.bool true) ∧ Below W.heap.size W w' := by
  obtain ⟨cs0, rfl⟩ := okv_agg (.inr ⟨_, _, Try.underlying23⟩) k0
  obtain ⟨fu0, f0⟩ := h0
  rw [cells_agg] at f0
  obtain ⟨m0, rfl⟩ := op_key Try.underlying23 Try.underlying5 (by kernel_rfl) (by kernel_rfl) f0
  obtain ⟨cs1, rfl⟩ := okv_agg (.inl ⟨_, Try.underlying28⟩) k1
  obtain ⟨fu1, f1⟩ := h1
  rw [cells_agg] at f1
  obtain ⟨m1, rfl, ok1⟩ := op_TScheme f1
  obtain ⟨a2, b2, c2, rfl⟩ := okWide_slice Try.underlying41 k2
  obtain ⟨fu2, f2⟩ := h2
  rw [cells_sl] at f2
  obtain ⟨m2, v2_, z2_, g2_, o2_, hc2, R2, ka2, la2⟩ := op_sl (c := ic) (ok := fun a => I64 a) (sz := 1) (bytes := 8) Try.underlying41 (by kernel_rfl) (by kernel_rfl) (by decide) (fun _ => ⟨rfl, rfl⟩) (fun _ _ _ h => op_i64 Try.underlying3 h) f2 s2
  rw [(List.cons.inj hc2).1]
  obtain ⟨cs3, rfl⟩ := okv_agg (.inr ⟨_, _, Try.underlying23⟩) k3
  obtain ⟨fu3, f3⟩ := h3
  rw [cells_agg] at f3
  obtain ⟨m3, rfl⟩ := op_key Try.underlying23 Try.underlying5 (by kernel_rfl) (by kernel_rfl) f3
  obtain ⟨m4, rfl⟩ := okv_u64 Try.underlying24 k4
  obtain ⟨m5, rfl⟩ := okv_u64 Try.underlying24 k5
  obtain ⟨m6, rfl⟩ := okv_u64 Try.underlying24 k6
  have hl := law04_PolyHidden_ok m0 m1 m2 m3 m4 m5 m6 ok1 ka2 la2
  exact (Mx.law04_PolyHidden_w m0 m1 m2 m3 m4 m5 m6 _ _ _ _ true hl W R2).mono fun e w' ⟨v, he, hv, hg⟩ => ⟨by rw [he, hv], hg⟩

theorem lifted (os : Os) (started : os.Started) (H : Type) (enc : TypeId × Value → H) :
    ReturnsInHanded {} Try.checked os 16 .any (Rows.polyHiddenSpec.pre6 enc Try.prog Try.f16 Rows.polyHiddenRow.domain false) (Rows.polyHiddenSpec.post enc Try.prog Try.f16 false true false false) := by
  refine returnsInHanded_of_change_sized (C := Try.checked) own started (by kernel_rfl) Try.func16
    (ChangeSpec.witness6 (enc := enc) (C := Try.checked) false ⟨#[], #[.agg #[.int .u8 0, .int .u8 0, .int .u8 0, .int .u8 0, .int .u8 0, .int .u8 0, .int .u8 0, .int .u8 0, .int .u8 0, .int .u8 0, .int .u8 0, .int .u8 0, .int .u8 0, .int .u8 0, .int .u8 0, .int .u8 0], .agg #[.int .u8 0, .int .i64 0, .int .i64 0, .int .u64 0, .int .u64 0, .int .u64 0], .slice none 0 0, .agg #[.int .u8 0, .int .u8 0, .int .u8 0, .int .u8 0, .int .u8 0, .int .u8 0, .int .u8 0, .int .u8 0, .int .u8 0, .int .u8 0, .int .u8 0, .int .u8 0, .int .u8 0, .int .u8 0, .int .u8 0, .int .u8 0], .int .u64 0, .int .u64 0, .int .u64 0], []⟩ 8 (by kernel_rfl) (by kernel_rfl) (by kernel_rfl) (by kernel_rfl)) ?_
  intro W base args ds gs before hval0 hW hcnd hsz _
  have hval : ∀ (j : Nat) t v, Try.f16.params[j]? = some t → args[j]? = some v → Value.okWide Try.prog W .any base t v := hval0
  have hW' := hW
  obtain ⟨p, q, hA0, hV, rfl, hfz, hnd⟩ := hW
  have hA : DataW.TrodAll enc Try.prog W 0 (fun _ => true) true Try.f16.params.toList args.toList ds p := hA0
  rw [Try.params16] at hA hval
  obtain ⟨v0, vs0, d0, ds0, p0, q0, hargs, rfl, rfl, h0, r0⟩ := trodAll_cons hA
  obtain ⟨v1, vs1, d1, ds1, p1, q1, rfl, rfl, rfl, h1, r1⟩ := trodAll_cons r0
  obtain ⟨v2, vs2, d2, ds2, p2, q2, rfl, rfl, rfl, h2, r2⟩ := trodAll_cons r1
  obtain ⟨v3, vs3, d3, ds3, p3, q3, rfl, rfl, rfl, h3, r3⟩ := trodAll_cons r2
  obtain ⟨v4, vs4, d4, ds4, p4, q4, rfl, rfl, rfl, h4, r4⟩ := trodAll_cons r3
  obtain ⟨v5, vs5, d5, ds5, p5, q5, rfl, rfl, rfl, h5, r5⟩ := trodAll_cons r4
  obtain ⟨v6, vs6, d6, ds6, p6, q6, rfl, rfl, rfl, h6, r6⟩ := trodAll_cons r5
  obtain ⟨rfl, rfl, rfl⟩ := trodAll_nil r6
  obtain rfl : args = #[v0, v1, v2, v3, v4, v5, v6] := by cases args; simp_all
  obtain ⟨rfl, rfl⟩ := trodVars_none hV
  have lt0 : ∀ x ∈ p0, x.block < W.heap.size := by obtain ⟨m, hm⟩ := h0; exact DataW.trod_lt m _ _ _ hm
  have s0 : Sz Try.prog 23 d0 := fun n hn => by simpa using List.all_eq_true.1 hsz n (DataW.weights_mem_each (j := 0) rfl rfl n hn)
  have lt1 : ∀ x ∈ p1, x.block < W.heap.size := by obtain ⟨m, hm⟩ := h1; exact DataW.trod_lt m _ _ _ hm
  have s1 : Sz Try.prog 28 d1 := fun n hn => by simpa using List.all_eq_true.1 hsz n (DataW.weights_mem_each (j := 1) rfl rfl n hn)
  have lt2 : ∀ x ∈ p2, x.block < W.heap.size := by obtain ⟨m, hm⟩ := h2; exact DataW.trod_lt m _ _ _ hm
  have s2 : Sz Try.prog 41 d2 := fun n hn => by simpa using List.all_eq_true.1 hsz n (DataW.weights_mem_each (j := 2) rfl rfl n hn)
  have lt3 : ∀ x ∈ p3, x.block < W.heap.size := by obtain ⟨m, hm⟩ := h3; exact DataW.trod_lt m _ _ _ hm
  have s3 : Sz Try.prog 23 d3 := fun n hn => by simpa using List.all_eq_true.1 hsz n (DataW.weights_mem_each (j := 3) rfl rfl n hn)
  have lt4 : ∀ x ∈ p4, x.block < W.heap.size := by obtain ⟨m, hm⟩ := h4; exact DataW.trod_lt m _ _ _ hm
  have s4 : Sz Try.prog 24 d4 := fun n hn => by simpa using List.all_eq_true.1 hsz n (DataW.weights_mem_each (j := 4) rfl rfl n hn)
  have lt5 : ∀ x ∈ p5, x.block < W.heap.size := by obtain ⟨m, hm⟩ := h5; exact DataW.trod_lt m _ _ _ hm
  have s5 : Sz Try.prog 24 d5 := fun n hn => by simpa using List.all_eq_true.1 hsz n (DataW.weights_mem_each (j := 5) rfl rfl n hn)
  have lt6 : ∀ x ∈ p6, x.block < W.heap.size := by obtain ⟨m, hm⟩ := h6; exact DataW.trod_lt m _ _ _ hm
  have s6 : Sz Try.prog 24 d6 := fun n hn => by simpa using List.all_eq_true.1 hsz n (DataW.weights_mem_each (j := 6) rfl rfl n hn)
  clear hA0 hval0
  refine (walk (enc := enc) W base v0 v1 v2 v3 v4 v5 v6 d0 p0 (hval 0 23 v0 rfl rfl) h0 s0 d1 p1 (hval 1 28 v1 rfl rfl) h1 s1 d2 p2 (hval 2 41 v2 rfl rfl) h2 s2 d3 p3 (hval 3 23 v3 rfl rfl) h3 s3 d4 p4 (hval 4 24 v4 rfl rfl) h4 s4 d5 p5 (hval 5 24 v5 rfl rfl) h5 s5 d6 p6 (hval 6 24 v6 rfl rfl) h6 s6).mono fun e W' ⟨he, bel⟩ => ?_
  subst he
  exact ⟨_, rfl, _, _, _, [], _, [], hW', trodAll_mk1 (shut_bool Try.underlying4 _), (trodAll_cons_mk (Below.trod laidOut (by kernel_rfl) (of_decide_eq_true (by kernel_rfl)) h0 bel lt0) (trodAll_cons_mk (Below.trod laidOut (by kernel_rfl) (of_decide_eq_true (by kernel_rfl)) h1 bel lt1) (trodAll_cons_mk (Below.trod laidOut (by kernel_rfl) (of_decide_eq_true (by kernel_rfl)) h2 bel lt2) (trodAll_cons_mk (Below.trod laidOut (by kernel_rfl) (of_decide_eq_true (by kernel_rfl)) h3 bel lt3) (trodAll_cons_mk (Below.trod laidOut (by kernel_rfl) (of_decide_eq_true (by kernel_rfl)) h4 bel lt4) (trodAll_cons_mk (Below.trod laidOut (by kernel_rfl) (of_decide_eq_true (by kernel_rfl)) h5 bel lt5) (trodAll_cons_mk (Below.trod laidOut (by kernel_rfl) (of_decide_eq_true (by kernel_rfl)) h6 bel lt6) trodAll_mk0))))))), rfl, bel.frame _, fun h => by cases h⟩

theorem k1 : (Rows.polyHiddenRow.wf (OpenSpec.ofChange Rows.polyHiddenSpec)) = true := by kernel_rfl
theorem k2 : (laidOutB Try.pinned.checked.prog) = true := by kernel_rfl
theorem k3 : (mapsRowed Try.pinned.checked.prog) = true := by kernel_rfl
theorem k4 : (Try.f16.params.all (Try.pinned.checked.prog.readableRec ·)) = true := by kernel_rfl
theorem k5 : (namedTie Try.pinned.checked.prog Rows.polyHiddenRow.named Rows.polyHiddenSpec.vars) = true := by kernel_rfl
theorem k6 : ((Rows.polyHiddenRow.stops == [])) = true := by kernel_rfl
theorem k7 : ((Try.pinned.checked.prog.stops == [])) = true := by kernel_rfl
theorem k8 : ((Rows.polyHiddenRow.knobs == [])) = true := by kernel_rfl
theorem k9 : ((Try.pinned.checked.prog.stopKnobs == [])) = true := by kernel_rfl
theorem k10 : ((Rows.polyHiddenRow.inPlace == Try.pinned.checked.prog.inPlace 16)) = true := by kernel_rfl
theorem k11 : ((Rows.polyHiddenRow.unfollowed == Try.pinned.checked.prog.unfollowed 16)) = true := by kernel_rfl
theorem k12 : ((Rows.polyHiddenRow.recurses == Try.pinned.checked.prog.recurses 16)) = true := by kernel_rfl
theorem k13 : ((Rows.polyHiddenRow.named == Try.pinned.checked.prog.varsNamed 16)) = true := by kernel_rfl
theorem k14 : ((Rows.polyHiddenRow.maps == (Try.f16.params.toList ++ Rows.polyHiddenSpec.plain.varTypes Try.pinned.checked.prog).any (Try.pinned.checked.prog.mapsRec ·))) = true := by kernel_rfl
theorem k15 : ((Rows.polyHiddenRow.ifaces == (Try.f16.params.toList ++ Rows.polyHiddenSpec.plain.varTypes Try.pinned.checked.prog).any (Try.pinned.checked.prog.ifacesRec ·))) = true := by kernel_rfl
theorem k16 : ((Rows.polyHiddenRow.mapsOut == Try.pinned.checked.prog.mapsAmong Try.f16.resultTypes.toList)) = true := by kernel_rfl
theorem k17 : ((Rows.polyHiddenRow.loops == (Try.f16.params.toList ++ Rows.polyHiddenSpec.plain.varTypes Try.pinned.checked.prog).any (Try.pinned.checked.prog.loopsFrom ·))) = true := by kernel_rfl
theorem k18 : ((Rows.polyHiddenRow.wideKeys == (Try.f16.params.toList ++ Rows.polyHiddenSpec.plain.varTypes Try.pinned.checked.prog ++ Try.f16.resultTypes.toList).any (Try.pinned.checked.prog.wideKeysFrom ·))) = true := by kernel_rfl
theorem k19 : (Rows.polyHiddenSpec.vars.all (Try.pinned.checked.prog.varReadable ·)) = true := by kernel_rfl
theorem k20 : (Try.f16.resultTypes.all (fun t => Try.pinned.checked.prog.readableRec t && decide (t < Try.pinned.checked.prog.types.size))) = true := by kernel_rfl
theorem k21 : ((Rows.polyHiddenRow.ifacesOut == Try.f16.resultTypes.toList.any (Try.pinned.checked.prog.ifacesRec ·))) = true := by kernel_rfl
theorem k22 : ((Rows.polyHiddenRow.loopsOut == Try.f16.resultTypes.toList.any (Try.pinned.checked.prog.loopsFrom ·))) = true := by kernel_rfl
theorem k23 : ((Rows.polyHiddenRow.plainKeys == Try.pinned.checked.prog.plainKeys)) = true := by kernel_rfl
theorem k24 : (Rows.polyHiddenRow.shortTexts.isNone) = true := by kernel_rfl
theorem k25 : (Try.pinned.checked.prog.stopsHeard) = true := by kernel_rfl
theorem k26 : (Try.pinned.checked.prog.mayEnter) = true := by kernel_rfl
theorem k27 : ((Rows.polyHiddenRow.lifted == Try.pinned.checked.prog.liftsFinal)) = true := by kernel_rfl
theorem k28 : ((Try.pinned.checked.prog.make == some Rows.polyHiddenRow.make)) = true := by kernel_rfl
theorem k30 : ((Rows.polyHiddenRow.pinned == Rows.polyHiddenRow.pinnedBy)) = true := by kernel_rfl
theorem k31 : ((Rows.polyHiddenRow.veiled == (Try.f16.params.toList ++ Rows.polyHiddenSpec.plain.varTypes Try.pinned.checked.prog ++ Try.f16.resultTypes.toList).any (Try.pinned.checked.prog.veiledRec ·))) = true := by kernel_rfl
theorem k32 : (Rows.polyHiddenRow.veiledFits Try.pinned.checked.prog Try.f16.params.toList (Try.f16.params.toList ++ Rows.polyHiddenSpec.plain.varTypes Try.pinned.checked.prog ++ Try.f16.resultTypes.toList)) = true := by kernel_rfl
theorem closed : joinedFacts Try.pinned.checked.prog 16 Try.f16 Rows.polyHiddenSpec Rows.polyHiddenRow = true := by unfold joinedFacts; exact bt_and (bt_and (bt_and (bt_and (bt_and (bt_and (bt_and (bt_and (bt_and (bt_and (bt_and (bt_and (bt_and (bt_and (bt_and (bt_and (bt_and (bt_and (bt_and (bt_and (bt_and (bt_and (bt_and (bt_and (bt_and (bt_and (bt_and (bt_and (bt_and (bt_and (bt_and (k1) k2) k3) k4) k5) k6) k7) k8) k9) k10) k11) k12) k13) k14) k15) k16) k17) k18) k19) k20) k21) k22) k23) k24) k25) k26) k27) k28) (by kernel_rfl)) k30) k31) k32
theorem named : Try.pinned.checked.prog.funcNamed Rows.polyHiddenRow.func = some 16 := by kernel_rfl
theorem inst : Try.f16.isInstance Try.pinned.checked.prog Rows.polyHiddenRow.origin Rows.polyHiddenRow.targs := of_decide_eq_true (by kernel_rfl)
theorem wrap : Try.f16.isWrapper Try.pinned.checked.prog Rows.polyHiddenRow.wrapper Rows.polyHiddenRow.mainSum := by unfold Func.isWrapper; first | (rw [if_pos (by decide +kernel)]; kernel_rfl) | (rw [if_neg (by decide +kernel)]; exact ⟨rfl, rfl⟩)

theorem over : Rows.polyHiddenRow.holds Try.pinned (OpenSpec.ofChange Rows.polyHiddenSpec) :=
  OpenClaim.holds_of_wide 16 Try.f16 rfl rfl rfl rfl rfl rfl rfl ⟨rfl, rfl, rfl, rfl, rfl⟩ rfl rfl rfl rfl rfl named Try.func16 closed inst wrap
    (fun os started H enc _ => lifted os started H enc)

theorem proved : Rows.PolyHiddenSaid := over
end Go.Proofs.Ytkdghilkigojgaa.polyHidden
