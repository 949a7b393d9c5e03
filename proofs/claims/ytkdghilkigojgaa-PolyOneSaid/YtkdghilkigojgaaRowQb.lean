/- Proved: for every input, a call of the Go function headendlaw04.PolyOne returns true, and its arguments read afterwards as before (the given statement Rows.PolyOneSaid). Conditions: none but those of the given row itself. -/
import Derived.Test.YtkdghilkigojgaaRow
import Derived.Test.YtkdghilkigojgaaPy5
import Derived.Test.YtkdghilkigojgaaQb
set_option linter.unusedVariables false
set_option linter.unusedSimpArgs false
set_option maxRecDepth 100000
namespace Go.Proofs.Ytkdghilkigojgaa.polyOne
open Go Go.RowKit Go.Sx Go.ChangeShapes Go.WideShapes Go.ChangeAt

theorem own : ownKnob Try.prog.godebug = none := by kernel_rfl
theorem laidOut : laidOutB Try.prog = true := by kernel_rfl

theorem walk {H : Type} {enc : TypeId × Value → H} (W : World) (base : Nat) (v0 v1 v2 : Value) (d0 : DataW H) (p0 : List MemPlace) (k0 : Value.okWide Try.prog W .any base 28 v0) (h0 : DataW.Trod enc Try.prog W 0 (fun _ => true) true 28 v0 d0 p0) (s0 : Sz Try.prog 28 d0) (d1 : DataW H) (p1 : List MemPlace) (k1 : Value.okWide Try.prog W .any base 60 v1) (h1 : DataW.Trod enc Try.prog W 0 (fun _ => true) true 60 v1 d1 p1) (s1 : Sz Try.prog 60 d1) (d2 : DataW H) (p2 : List MemPlace) (k2 : Value.okWide Try.prog W .any base 60 v2) (h2 : DataW.Trod enc Try.prog W 0 (fun _ => true) true 60 v2 d2 p2) (s2 : Sz Try.prog 60 d2) :
    Calls Try.prog 10 #[v0, v1, v2] W fun e w' => e = .returned (.bool true) ∧ Below W.heap.size W w' := by
  obtain ⟨cs0, rfl⟩ := okv_agg (.inl ⟨_, Try.underlying28⟩) k0
  obtain ⟨fu0, f0⟩ := h0
  rw [cells_agg] at f0
  obtain ⟨m0, rfl, ok0⟩ := op_TScheme f0
  obtain ⟨a1, b1, c1, rfl⟩ := okWide_slice Try.underlying60 k1
  obtain ⟨fu1, f1⟩ := h1
  rw [cells_sl] at f1
  obtain ⟨m1, v1_, z1_, g1_, o1_, hc1, R1, ka1, la1⟩ := op_sl (c := uwc) (ok := fun a => True) (sz := 1) (bytes := 8) Try.underlying60 (by kernel_rfl) (by kernel_rfl) (by decide) (fun _ => ⟨rfl, rfl⟩) (fun _ _ _ h => (let ⟨n, c⟩ := op_u64 Try.underlying24 h; ⟨n, c, trivial⟩)) f1 s1
  rw [(List.cons.inj hc1).1]
  obtain ⟨a2, b2, c2, rfl⟩ := okWide_slice Try.underlying60 k2
  obtain ⟨fu2, f2⟩ := h2
  rw [cells_sl] at f2
  obtain ⟨m2, v2_, z2_, g2_, o2_, hc2, R2, ka2, la2⟩ := op_sl (c := uwc) (ok := fun a => True) (sz := 1) (bytes := 8) Try.underlying60 (by kernel_rfl) (by kernel_rfl) (by decide) (fun _ => ⟨rfl, rfl⟩) (fun _ _ _ h => (let ⟨n, c⟩ := op_u64 Try.underlying24 h; ⟨n, c, trivial⟩)) f2 s2
  rw [(List.cons.inj hc2).1]
  have hl := law04_PolyOne_ok m0 m1 m2 ok0 la1 la2
  exact (Mx.law04_PolyOne_w m0 m1 m2 _ _ _ _ _ _ _ _ true hl W R1 R2).mono fun e w' ⟨v, he, hv, hg⟩ => ⟨by rw [he, hv], hg⟩

theorem lifted (os : Os) (started : os.Started) (H : Type) (enc : TypeId × Value → H) :
    ReturnsInHanded {} Try.checked os 10 .any (Rows.polyOneSpec.pre6 enc Try.prog Try.f10 Rows.polyOneRow.domain false) (Rows.polyOneSpec.post enc Try.prog Try.f10 false true false false) := by
  refine returnsInHanded_of_change_sized (C := Try.checked) own started (by kernel_rfl) Try.func10
    (ChangeSpec.witness6 (enc := enc) (C := Try.checked) false ⟨#[], #[.agg #[.int .u8 0, .int .i64 0, .int .i64 0, .int .u64 0, .int .u64 0, .int .u64 0], .slice none 0 0, .slice none 0 0], []⟩ 8 (by kernel_rfl) (by kernel_rfl) (by kernel_rfl) (by kernel_rfl)) ?_
  intro W base args ds gs before hval0 hW hcnd hsz _
  have hval : ∀ (j : Nat) t v, Try.f10.params[j]? = some t → args[j]? = some v → Value.okWide Try.prog W .any base t v := hval0
  have hW' := hW
  obtain ⟨p, q, hA0, hV, rfl, hfz, hnd⟩ := hW
  have hA : DataW.TrodAll enc Try.prog W 0 (fun _ => true) true Try.f10.params.toList args.toList ds p := hA0
  rw [Try.params10] at hA hval
  obtain ⟨v0, vs0, d0, ds0, p0, q0, hargs, rfl, rfl, h0, r0⟩ := trodAll_cons hA
  obtain ⟨v1, vs1, d1, ds1, p1, q1, rfl, rfl, rfl, h1, r1⟩ := trodAll_cons r0
  obtain ⟨v2, vs2, d2, ds2, p2, q2, rfl, rfl, rfl, h2, r2⟩ := trodAll_cons r1
  obtain ⟨rfl, rfl, rfl⟩ := trodAll_nil r2
  obtain rfl : args = #[v0, v1, v2] := by cases args; simp_all
  obtain ⟨rfl, rfl⟩ := trodVars_none hV
  have lt0 : ∀ x ∈ p0, x.block < W.heap.size := by obtain ⟨m, hm⟩ := h0; exact DataW.trod_lt m _ _ _ hm
  have s0 : Sz Try.prog 28 d0 := fun n hn => by simpa using List.all_eq_true.1 hsz n (DataW.weights_mem_each (j := 0) rfl rfl n hn)
  have lt1 : ∀ x ∈ p1, x.block < W.heap.size := by obtain ⟨m, hm⟩ := h1; exact DataW.trod_lt m _ _ _ hm
  have s1 : Sz Try.prog 60 d1 := fun n hn => by simpa using List.all_eq_true.1 hsz n (DataW.weights_mem_each (j := 1) rfl rfl n hn)
  have lt2 : ∀ x ∈ p2, x.block < W.heap.size := by obtain ⟨m, hm⟩ := h2; exact DataW.trod_lt m _ _ _ hm
  have s2 : Sz Try.prog 60 d2 := fun n hn => by simpa using List.all_eq_true.1 hsz n (DataW.weights_mem_each (j := 2) rfl rfl n hn)
  clear hA0 hval0
  refine (walk (enc := enc) W base v0 v1 v2 d0 p0 (hval 0 28 v0 rfl rfl) h0 s0 d1 p1 (hval 1 60 v1 rfl rfl) h1 s1 d2 p2 (hval 2 60 v2 rfl rfl) h2 s2).mono fun e W' ⟨he, bel⟩ => ?_
  subst he
  exact ⟨_, rfl, _, _, _, [], _, [], hW', trodAll_mk1 (shut_bool Try.underlying4 _), (trodAll_cons_mk (Below.trod laidOut (by kernel_rfl) (of_decide_eq_true (by kernel_rfl)) h0 bel lt0) (trodAll_cons_mk (Below.trod laidOut (by kernel_rfl) (of_decide_eq_true (by kernel_rfl)) h1 bel lt1) (trodAll_cons_mk (Below.trod laidOut (by kernel_rfl) (of_decide_eq_true (by kernel_rfl)) h2 bel lt2) trodAll_mk0))), rfl, bel.frame _, fun h => by cases h⟩

theorem k1 : (Rows.polyOneRow.wf (OpenSpec.ofChange Rows.polyOneSpec)) = true := by kernel_rfl
theorem k2 : (laidOutB Try.pinned.checked.prog) = true := by kernel_rfl
theorem k3 : (mapsRowed Try.pinned.checked.prog) = true := by kernel_rfl
theorem k4 : (Try.f10.params.all (Try.pinned.checked.prog.readableRec ·)) = true := by kernel_rfl
theorem k5 : (namedTie Try.pinned.checked.prog Rows.polyOneRow.named Rows.polyOneSpec.vars) = true := by kernel_rfl
theorem k6 : ((Rows.polyOneRow.stops == [])) = true := by kernel_rfl
theorem k7 : ((Try.pinned.checked.prog.stops == [])) = true := by kernel_rfl
theorem k8 : ((Rows.polyOneRow.knobs == [])) = true := by kernel_rfl
theorem k9 : ((Try.pinned.checked.prog.stopKnobs == [])) = true := by kernel_rfl
theorem k10 : ((Rows.polyOneRow.inPlace == Try.pinned.checked.prog.inPlace 10)) = true := by kernel_rfl
theorem k11 : ((Rows.polyOneRow.unfollowed == Try.pinned.checked.prog.unfollowed 10)) = true := by kernel_rfl
theorem k12 : ((Rows.polyOneRow.recurses == Try.pinned.checked.prog.recurses 10)) = true := by kernel_rfl
theorem k13 : ((Rows.polyOneRow.named == Try.pinned.checked.prog.varsNamed 10)) = true := by kernel_rfl
theorem k14 : ((Rows.polyOneRow.maps == (Try.f10.params.toList ++ Rows.polyOneSpec.plain.varTypes Try.pinned.checked.prog).any (Try.pinned.checked.prog.mapsRec ·))) = true := by kernel_rfl
theorem k15 : ((Rows.polyOneRow.ifaces == (Try.f10.params.toList ++ Rows.polyOneSpec.plain.varTypes Try.pinned.checked.prog).any (Try.pinned.checked.prog.ifacesRec ·))) = true := by kernel_rfl
theorem k16 : ((Rows.polyOneRow.mapsOut == Try.pinned.checked.prog.mapsAmong Try.f10.resultTypes.toList)) = true := by kernel_rfl
theorem k17 : ((Rows.polyOneRow.loops == (Try.f10.params.toList ++ Rows.polyOneSpec.plain.varTypes Try.pinned.checked.prog).any (Try.pinned.checked.prog.loopsFrom ·))) = true := by kernel_rfl
theorem k18 : ((Rows.polyOneRow.wideKeys == (Try.f10.params.toList ++ Rows.polyOneSpec.plain.varTypes Try.pinned.checked.prog ++ Try.f10.resultTypes.toList).any (Try.pinned.checked.prog.wideKeysFrom ·))) = true := by kernel_rfl
theorem k19 : (Rows.polyOneSpec.vars.all (Try.pinned.checked.prog.varReadable ·)) = true := by kernel_rfl
theorem k20 : (Try.f10.resultTypes.all (fun t => Try.pinned.checked.prog.readableRec t && decide (t < Try.pinned.checked.prog.types.size))) = true := by kernel_rfl
theorem k21 : ((Rows.polyOneRow.ifacesOut == Try.f10.resultTypes.toList.any (Try.pinned.checked.prog.ifacesRec ·))) = true := by kernel_rfl
theorem k22 : ((Rows.polyOneRow.loopsOut == Try.f10.resultTypes.toList.any (Try.pinned.checked.prog.loopsFrom ·))) = true := by kernel_rfl
theorem k23 : ((Rows.polyOneRow.plainKeys == Try.pinned.checked.prog.plainKeys)) = true := by kernel_rfl
theorem k24 : (Rows.polyOneRow.shortTexts.isNone) = true := by kernel_rfl
theorem k25 : (Try.pinned.checked.prog.stopsHeard) = true := by kernel_rfl
theorem k26 : (Try.pinned.checked.prog.mayEnter) = true := by kernel_rfl
theorem k27 : ((Rows.polyOneRow.lifted == Try.pinned.checked.prog.liftsFinal)) = true := by kernel_rfl
theorem k28 : ((Try.pinned.checked.prog.make == some Rows.polyOneRow.make)) = true := by kernel_rfl
theorem k30 : ((Rows.polyOneRow.pinned == Rows.polyOneRow.pinnedBy)) = true := by kernel_rfl
theorem k31 : ((Rows.polyOneRow.veiled == (Try.f10.params.toList ++ Rows.polyOneSpec.plain.varTypes Try.pinned.checked.prog ++ Try.f10.resultTypes.toList).any (Try.pinned.checked.prog.veiledRec ·))) = true := by kernel_rfl
theorem k32 : (Rows.polyOneRow.veiledFits Try.pinned.checked.prog Try.f10.params.toList (Try.f10.params.toList ++ Rows.polyOneSpec.plain.varTypes Try.pinned.checked.prog ++ Try.f10.resultTypes.toList)) = true := by kernel_rfl
theorem closed : joinedFacts Try.pinned.checked.prog 10 Try.f10 Rows.polyOneSpec Rows.polyOneRow = true := by unfold joinedFacts; exact bt_and (bt_and (bt_and (bt_and (bt_and (bt_and (bt_and (bt_and (bt_and (bt_and (bt_and (bt_and (bt_and (bt_and (bt_and (bt_and (bt_and (bt_and (bt_and (bt_and (bt_and (bt_and (bt_and (bt_and (bt_and (bt_and (bt_and (bt_and (bt_and (bt_and (bt_and (k1) k2) k3) k4) k5) k6) k7) k8) k9) k10) k11) k12) k13) k14) k15) k16) k17) k18) k19) k20) k21) k22) k23) k24) k25) k26) k27) k28) (by kernel_rfl)) k30) k31) k32
theorem named : Try.pinned.checked.prog.funcNamed Rows.polyOneRow.func = some 10 := by kernel_rfl
theorem inst : Try.f10.isInstance Try.pinned.checked.prog Rows.polyOneRow.origin Rows.polyOneRow.targs := of_decide_eq_true (by kernel_rfl)
theorem wrap : Try.f10.isWrapper Try.pinned.checked.prog Rows.polyOneRow.wrapper Rows.polyOneRow.mainSum := by unfold Func.isWrapper; first | (rw [if_pos (by decide +kernel)]; kernel_rfl) | (rw [if_neg (by decide +kernel)]; exact ⟨rfl, rfl⟩)

theorem over : Rows.polyOneRow.holds Try.pinned (OpenSpec.ofChange Rows.polyOneSpec) :=
  OpenClaim.holds_of_wide 10 Try.f10 rfl rfl rfl rfl rfl rfl rfl ⟨rfl, rfl, rfl, rfl, rfl⟩ rfl rfl rfl rfl rfl named Try.func10 closed inst wrap
    (fun os started H enc _ => lifted os started H enc)

theorem proved : Rows.PolyOneSaid := over
end Go.Proofs.Ytkdghilkigojgaa.polyOne
