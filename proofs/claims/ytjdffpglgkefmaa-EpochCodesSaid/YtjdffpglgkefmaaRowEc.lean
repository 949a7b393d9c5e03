/- Proved: for every input, a call of the Go function headendlaw05.EpochCodes returns true, and its arguments read afterwards as before (the given statement Rows.EpochCodesSaid). Conditions: none but those of the given row itself. -/
import Derived.Test.YtjdffpglgkefmaaRow
import Derived.Test.YtjdffpglgkefmaaOpnEc
import Derived.Test.YtjdffpglgkefmaaEc
import Derived.Test.YtjdffpglgkefmaaLawEc
set_option linter.unusedVariables false
set_option linter.unusedSimpArgs false
set_option maxRecDepth 100000
namespace Go.Proofs.Ytjdffpglgkefmaa.epochCodes
open Go Go.RowKit Go.Sx Go.ChangeShapes Go.WideShapes Go.ChangeAt

theorem own : ownKnob Try.prog.godebug = none := by kernel_rfl
theorem laidOut : laidOutB Try.prog = true := by kernel_rfl

theorem walk {H : Type} {enc : TypeId × Value → H} (W : World) (base : Nat) (v0 v1 : Value) (d0 : DataW H) (p0 : List MemPlace) (k0 : Value.okWide Try.prog W .any base 31 v0) (h0 : DataW.Trod enc Try.prog W 0 (fun _ => true) true 31 v0 d0 p0) (s0 : Sz Try.prog 31 d0) (d1 : DataW H) (p1 : List MemPlace) (k1 : Value.okWide Try.prog W .any base 29 v1) (h1 : DataW.Trod enc Try.prog W 0 (fun _ => true) true 29 v1 d1 p1) (s1 : Sz Try.prog 29 d1) :
    Calls Try.prog 3 #[v0, v1] W fun e w' => e = .returned (.bool true) ∧ Below W.heap.size W w' := by
  obtain ⟨cs0, rfl⟩ := okv_agg (.inl ⟨_, Try.underlying31⟩) k0
  obtain ⟨fu0, f0⟩ := h0
  rw [cells_agg] at f0
  obtain ⟨m0, v0_0, z0_0, g0_0, o0_0, v0_1, z0_1, g0_1, o0_1, v0_2, z0_2, g0_2, o0_2, rfl, R0_0, R0_1, R0_2, ok0⟩ := op_TPacket f0 s0
  obtain ⟨a1, b1, c1, rfl⟩ := okWide_slice Try.underlying29 k1
  obtain ⟨fu1, f1⟩ := h1
  rw [cells_sl] at f1
  obtain ⟨m1, v1_, z1_, g1_, o1_, hc1, R1, ka1, la1⟩ := op_sl (c := bvc) (ok := fun a => True) (sz := 1) (bytes := 1) Try.underlying29 (by kernel_rfl) (by kernel_rfl) (by decide) (fun _ => ⟨rfl, rfl⟩) (fun _ _ _ h => (let ⟨n, c⟩ := op_u8 Try.underlying5 h; ⟨n, c, trivial⟩)) f1 s1
  rw [(List.cons.inj hc1).1]
  have hl := law05_EpochCodes_ok m0 m1 ok0 la1
  exact (Mx.law05_EpochCodes_w m0 m1 _ _ _ _ _ _ _ _ _ _ _ _ _ _ _ _ true hl W R0_0 R0_1 R0_2 R1).mono fun e w' ⟨v, he, hv, hg⟩ => ⟨by rw [he, hv], hg⟩

theorem lifted (os : Os) (started : os.Started) (H : Type) (enc : TypeId × Value → H) :
    ReturnsInHanded {} Try.checked os 3 .any (Rows.epochCodesSpec.pre6 enc Try.prog Try.f3 Rows.epochCodesRow.domain false) (Rows.epochCodesSpec.post enc Try.prog Try.f3 false true false false) := by
  refine returnsInHanded_of_change_sized (C := Try.checked) own started (by kernel_rfl) Try.func3
    (ChangeSpec.witness6 (enc := enc) (C := Try.checked) false ⟨#[], #[.agg #[.int .u8 0, .int .i64 0, .slice none 0 0, .int .u64 0, .slice none 0 0, .int .u8 0, .int .u8 0, .int .u8 0, .int .u8 0, .int .u8 0, .int .u8 0, .int .u8 0, .int .u8 0, .int .u8 0, .int .u8 0, .int .u8 0, .int .u8 0, .int .u8 0, .int .u8 0, .int .u8 0, .int .u8 0, .int .u8 0, .int .u8 0, .int .u8 0, .int .u8 0, .int .u8 0, .int .u8 0, .int .u8 0, .int .u8 0, .int .u8 0, .int .u8 0, .int .u8 0, .int .u8 0, .int .u8 0, .int .u8 0, .int .u8 0, .int .u8 0, .int .u8 0, .int .u64 0, .slice none 0 0, .int .u8 0, .int .u8 0, .int .u8 0, .int .u8 0, .int .u8 0, .int .u8 0, .int .u8 0, .int .u8 0, .int .u8 0, .int .u8 0, .int .u8 0, .int .u8 0, .int .u8 0, .int .u8 0, .int .u8 0, .int .u8 0], .slice none 0 0], []⟩ 8 (by kernel_rfl) (by kernel_rfl) (by kernel_rfl) (by kernel_rfl)) ?_
  intro W base args ds gs before hval0 hW hcnd hsz _
  have hval : ∀ (j : Nat) t v, Try.f3.params[j]? = some t → args[j]? = some v → Value.okWide Try.prog W .any base t v := hval0
  have hW' := hW
  obtain ⟨p, q, hA0, hV, rfl, hfz, hnd⟩ := hW
  have hA : DataW.TrodAll enc Try.prog W 0 (fun _ => true) true Try.f3.params.toList args.toList ds p := hA0
  rw [Try.params3] at hA hval
  obtain ⟨v0, vs0, d0, ds0, p0, q0, hargs, rfl, rfl, h0, r0⟩ := trodAll_cons hA
  obtain ⟨v1, vs1, d1, ds1, p1, q1, rfl, rfl, rfl, h1, r1⟩ := trodAll_cons r0
  obtain ⟨rfl, rfl, rfl⟩ := trodAll_nil r1
  obtain rfl : args = #[v0, v1] := by cases args; simp_all
  obtain ⟨rfl, rfl⟩ := trodVars_none hV
  have lt0 : ∀ x ∈ p0, x.block < W.heap.size := by obtain ⟨m, hm⟩ := h0; exact DataW.trod_lt m _ _ _ hm
  have s0 : Sz Try.prog 31 d0 := fun n hn => by simpa using List.all_eq_true.1 hsz n (DataW.weights_mem_each (j := 0) rfl rfl n hn)
  have lt1 : ∀ x ∈ p1, x.block < W.heap.size := by obtain ⟨m, hm⟩ := h1; exact DataW.trod_lt m _ _ _ hm
  have s1 : Sz Try.prog 29 d1 := fun n hn => by simpa using List.all_eq_true.1 hsz n (DataW.weights_mem_each (j := 1) rfl rfl n hn)
  clear hA0 hval0
  refine (walk (enc := enc) W base v0 v1 d0 p0 (hval 0 31 v0 rfl rfl) h0 s0 d1 p1 (hval 1 29 v1 rfl rfl) h1 s1).mono fun e W' ⟨he, bel⟩ => ?_
  subst he
  exact ⟨_, rfl, _, _, _, [], _, [], hW', trodAll_mk1 (shut_bool Try.underlying4 _), (trodAll_cons_mk (Below.trod laidOut (by kernel_rfl) (of_decide_eq_true (by kernel_rfl)) h0 bel lt0) (trodAll_cons_mk (Below.trod laidOut (by kernel_rfl) (of_decide_eq_true (by kernel_rfl)) h1 bel lt1) trodAll_mk0)), rfl, bel.frame _, fun h => by cases h⟩

theorem k1 : (Rows.epochCodesRow.wf (OpenSpec.ofChange Rows.epochCodesSpec)) = true := by kernel_rfl
theorem k2 : (laidOutB Try.pinned.checked.prog) = true := by kernel_rfl
theorem k3 : (mapsRowed Try.pinned.checked.prog) = true := by kernel_rfl
theorem k4 : (Try.f3.params.all (Try.pinned.checked.prog.readableRec ·)) = true := by kernel_rfl
theorem k5 : (namedTie Try.pinned.checked.prog Rows.epochCodesRow.named Rows.epochCodesSpec.vars) = true := by kernel_rfl
theorem k6 : ((Rows.epochCodesRow.stops == [])) = true := by kernel_rfl
theorem k7 : ((Try.pinned.checked.prog.stops == [])) = true := by kernel_rfl
theorem k8 : ((Rows.epochCodesRow.knobs == [])) = true := by kernel_rfl
theorem k9 : ((Try.pinned.checked.prog.stopKnobs == [])) = true := by kernel_rfl
theorem k10 : ((Rows.epochCodesRow.inPlace == Try.pinned.checked.prog.inPlace 3)) = true := by kernel_rfl
theorem k11 : ((Rows.epochCodesRow.unfollowed == Try.pinned.checked.prog.unfollowed 3)) = true := by kernel_rfl
theorem k12 : ((Rows.epochCodesRow.recurses == Try.pinned.checked.prog.recurses 3)) = true := by kernel_rfl
theorem k13 : ((Rows.epochCodesRow.named == Try.pinned.checked.prog.varsNamed 3)) = true := by kernel_rfl
theorem k14 : ((Rows.epochCodesRow.maps == (Try.f3.params.toList ++ Rows.epochCodesSpec.plain.varTypes Try.pinned.checked.prog).any (Try.pinned.checked.prog.mapsRec ·))) = true := by kernel_rfl
theorem k15 : ((Rows.epochCodesRow.ifaces == (Try.f3.params.toList ++ Rows.epochCodesSpec.plain.varTypes Try.pinned.checked.prog).any (Try.pinned.checked.prog.ifacesRec ·))) = true := by kernel_rfl
theorem k16 : ((Rows.epochCodesRow.mapsOut == Try.pinned.checked.prog.mapsAmong Try.f3.resultTypes.toList)) = true := by kernel_rfl
theorem k17 : ((Rows.epochCodesRow.loops == (Try.f3.params.toList ++ Rows.epochCodesSpec.plain.varTypes Try.pinned.checked.prog).any (Try.pinned.checked.prog.loopsFrom ·))) = true := by kernel_rfl
theorem k18 : ((Rows.epochCodesRow.wideKeys == (Try.f3.params.toList ++ Rows.epochCodesSpec.plain.varTypes Try.pinned.checked.prog ++ Try.f3.resultTypes.toList).any (Try.pinned.checked.prog.wideKeysFrom ·))) = true := by kernel_rfl
theorem k19 : (Rows.epochCodesSpec.vars.all (Try.pinned.checked.prog.varReadable ·)) = true := by kernel_rfl
theorem k20 : (Try.f3.resultTypes.all (fun t => Try.pinned.checked.prog.readableRec t && decide (t < Try.pinned.checked.prog.types.size))) = true := by kernel_rfl
theorem k21 : ((Rows.epochCodesRow.ifacesOut == Try.f3.resultTypes.toList.any (Try.pinned.checked.prog.ifacesRec ·))) = true := by kernel_rfl
theorem k22 : ((Rows.epochCodesRow.loopsOut == Try.f3.resultTypes.toList.any (Try.pinned.checked.prog.loopsFrom ·))) = true := by kernel_rfl
theorem k23 : ((Rows.epochCodesRow.plainKeys == Try.pinned.checked.prog.plainKeys)) = true := by kernel_rfl
theorem k24 : (Rows.epochCodesRow.shortTexts.isNone) = true := by kernel_rfl
theorem k25 : (Try.pinned.checked.prog.stopsHeard) = true := by kernel_rfl
theorem k26 : (Try.pinned.checked.prog.mayEnter) = true := by kernel_rfl
theorem k27 : ((Rows.epochCodesRow.lifted == Try.pinned.checked.prog.liftsFinal)) = true := by kernel_rfl
theorem k28 : ((Try.pinned.checked.prog.make == some Rows.epochCodesRow.make)) = true := by kernel_rfl
theorem k30 : ((Rows.epochCodesRow.pinned == Rows.epochCodesRow.pinnedBy)) = true := by kernel_rfl
theorem k31 : ((Rows.epochCodesRow.veiled == (Try.f3.params.toList ++ Rows.epochCodesSpec.plain.varTypes Try.pinned.checked.prog ++ Try.f3.resultTypes.toList).any (Try.pinned.checked.prog.veiledRec ·))) = true := by kernel_rfl
theorem k32 : (Rows.epochCodesRow.veiledFits Try.pinned.checked.prog Try.f3.params.toList (Try.f3.params.toList ++ Rows.epochCodesSpec.plain.varTypes Try.pinned.checked.prog ++ Try.f3.resultTypes.toList)) = true := by kernel_rfl
theorem closed : joinedFacts Try.pinned.checked.prog 3 Try.f3 Rows.epochCodesSpec Rows.epochCodesRow = true := by unfold joinedFacts; exact bt_and (bt_and (bt_and (bt_and (bt_and (bt_and (bt_and (bt_and (bt_and (bt_and (bt_and (bt_and (bt_and (bt_and (bt_and (bt_and (bt_and (bt_and (bt_and (bt_and (bt_and (bt_and (bt_and (bt_and (bt_and (bt_and (bt_and (bt_and (bt_and (bt_and (bt_and (k1) k2) k3) k4) k5) k6) k7) k8) k9) k10) k11) k12) k13) k14) k15) k16) k17) k18) k19) k20) k21) k22) k23) k24) k25) k26) k27) k28) (by kernel_rfl)) k30) k31) k32
theorem named : Try.pinned.checked.prog.funcNamed Rows.epochCodesRow.func = some 3 := by kernel_rfl
theorem inst : Try.f3.isInstance Try.pinned.checked.prog Rows.epochCodesRow.origin Rows.epochCodesRow.targs := of_decide_eq_true (by kernel_rfl)
theorem wrap : Try.f3.isWrapper Try.pinned.checked.prog Rows.epochCodesRow.wrapper Rows.epochCodesRow.mainSum := by unfold Func.isWrapper; first | (rw [if_pos (by decide +kernel)]; kernel_rfl) | (rw [if_neg (by decide +kernel)]; exact ⟨rfl, rfl⟩)

theorem over : Rows.epochCodesRow.holds Try.pinned (OpenSpec.ofChange Rows.epochCodesSpec) :=
  OpenClaim.holds_of_wide 3 Try.f3 rfl rfl rfl rfl rfl rfl rfl ⟨rfl, rfl, rfl, rfl, rfl⟩ rfl rfl rfl rfl rfl named Try.func3 closed inst wrap
    (fun os started H enc _ => lifted os started H enc)

theorem proved : Rows.EpochCodesSaid := over
end Go.Proofs.Ytjdffpglgkefmaa.epochCodes
