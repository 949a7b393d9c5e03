/- Proved: for every input, a call of the Go function headendlaw03.CoverSplits returns true, and its arguments read afterwards as before (the given statement Rows.CoverSplitsSaid). Conditions: none but those of the given row itself. -/
import Derived.Test.YtecempahccgijaaRow
import Derived.Test.YtecempahccgijaaLawSplits
namespace Go.Proofs.Ytecempahccgijaa.coverSplits
open Go Go.RowKit Go.Sx Go.ChangeShapes Go.WideShapes Go.ChangeAt

theorem own : ownKnob Try.prog.godebug = none := by kernel_rfl
theorem laidOut : laidOutB Try.prog = true := by kernel_rfl

set_option maxRecDepth 100000 in
theorem walk {H : Type} {enc : TypeId × Value → H} (W : World) (base : Nat) (v0 v1 : Value)  (k0 : Value.okWide Try.prog W .any base 45 v0) (k1 : Value.okWide Try.prog W .any base 47 v1) :
    Calls Try.prog 4 #[v0, v1] W fun e w' => e = .returned (.bool true) ∧ Below W.heap.size W w' := by
  obtain ⟨cs0, rfl, ok0⟩ := ok_agg (P := Try.prog) (t := 45) (ts := [5, 3, 3, 23, 23, 23]) (.inl ⟨_, Try.underlying45⟩) (by kernel_rfl) (by kernel_rfl) k0
  obtain ⟨a0, a1, a2, a3, a4, a5, rfl, o0, o1, o2, o3, o4, o5⟩ : ∃ a0 a1 a2 a3 a4 a5, cs0 = [a0, a1, a2, a3, a4, a5] ∧ Cell.okWide Try.prog W .any base 5 a0 ∧ Cell.okWide Try.prog W .any base 3 a1 ∧ Cell.okWide Try.prog W .any base 3 a2 ∧ Cell.okWide Try.prog W .any base 23 a3 ∧ Cell.okWide Try.prog W .any base 23 a4 ∧ Cell.okWide Try.prog W .any base 23 a5 := by
    match cs0, ok0 with
    | [a0, a1, a2, a3, a4, a5], ⟨o0, o1, o2, o3, o4, o5, _⟩ => exact ⟨a0, a1, a2, a3, a4, a5, rfl, o0, o1, o2, o3, o4, o5⟩
  obtain ⟨n0, rfl, b0⟩ := ok_u8 Try.underlying5 o0
  obtain ⟨n1, rfl, b1⟩ := ok_i64 Try.underlying3 o1
  obtain ⟨n2, rfl, b2⟩ := ok_i64 Try.underlying3 o2
  obtain ⟨n3, rfl⟩ := ok_u64 Try.underlying23 o3
  obtain ⟨n4, rfl⟩ := ok_u64 Try.underlying23 o4
  obtain ⟨n5, rfl⟩ := ok_u64 Try.underlying23 o5
  obtain ⟨cs1, rfl, ok1⟩ := ok_agg (P := Try.prog) (t := 47) (ts := [3, 3]) (.inl ⟨_, Try.underlying47⟩) (by kernel_rfl) (by kernel_rfl) k1
  obtain ⟨x0, x1, rfl, q0, q1⟩ : ∃ x0 x1, cs1 = [x0, x1] ∧ Cell.okWide Try.prog W .any base 3 x0 ∧ Cell.okWide Try.prog W .any base 3 x1 := by
    match cs1, ok1 with
    | [x0, x1], ⟨q0, q1, _⟩ => exact ⟨x0, x1, rfl, q0, q1⟩
  obtain ⟨m0, rfl, c0⟩ := ok_i64 Try.underlying3 q0
  obtain ⟨m1, rfl, c1⟩ := ok_i64 Try.underlying3 q1
  exact (coverSplits_c ⟨n0, n1, n2, n3, n4, n5⟩ (m0, m1) c0.1 c0.2 c1.1 c1.2 W).mono fun e w' ⟨v, he, hv, hg⟩ => ⟨by rw [he, hv], hg⟩

set_option maxRecDepth 100000 in
theorem lifted (os : Os) (started : os.Started) (H : Type) (enc : TypeId × Value → H) :
    ReturnsInHanded {} Try.checked os 4 .any (Rows.coverSplitsSpec.pre6 enc Try.prog Try.f4 Rows.coverSplitsRow.domain false) (Rows.coverSplitsSpec.post enc Try.prog Try.f4 false true false false) := by
  refine returnsInHanded_of_change (C := Try.checked) own started (by kernel_rfl) Try.func4
    (ChangeSpec.witness6 (enc := enc) (C := Try.checked) false ⟨#[], #[.agg #[.int .u8 0, .int .i64 0, .int .i64 0, .int .u64 0, .int .u64 0, .int .u64 0], .agg #[.int .i64 0, .int .i64 0]], []⟩ 8 (by kernel_rfl) (by kernel_rfl) (by kernel_rfl) (by kernel_rfl)) ?_
  intro W base args ds gs before hval0 hW hcnd _
  have hval : ∀ (j : Nat) t v, Try.f4.params[j]? = some t → args[j]? = some v → Value.okWide Try.prog W .any base t v := hval0
  have hW' := hW
  obtain ⟨p, q, hA0, hV, rfl, hfz, hnd⟩ := hW
  have hA : DataW.TrodAll enc Try.prog W 0 (fun _ => true) true Try.f4.params.toList args.toList ds p := hA0
  rw [Try.params4] at hA hval
  obtain ⟨v0, vs0, d0, ds0, p0, q0, hargs, rfl, rfl, h0, r0⟩ := trodAll_cons hA
  obtain ⟨v1, vs1, d1, ds1, p1, q1, rfl, rfl, rfl, h1, r1⟩ := trodAll_cons r0
  obtain ⟨rfl, rfl, rfl⟩ := trodAll_nil r1
  obtain rfl : args = #[v0, v1] := by cases args; simp_all
  obtain ⟨rfl, rfl⟩ := trodVars_none hV
  have lt0 : ∀ x ∈ p0, x.block < W.heap.size := by obtain ⟨m, hm⟩ := h0; exact DataW.trod_lt m _ _ _ hm
  have lt1 : ∀ x ∈ p1, x.block < W.heap.size := by obtain ⟨m, hm⟩ := h1; exact DataW.trod_lt m _ _ _ hm
  clear hA0 hval0
  refine (walk (enc := enc) W base v0 v1  (hval 0 45 v0 rfl rfl) (hval 1 47 v1 rfl rfl)).mono fun e W' ⟨he, bel⟩ => ?_
  subst he
  exact ⟨_, rfl, _, _, _, [], _, [], hW', trodAll_mk1 (shut_bool Try.underlying4 _), (trodAll_cons_mk (Below.trod laidOut (by kernel_rfl) (of_decide_eq_true (by kernel_rfl)) h0 bel lt0) (trodAll_cons_mk (Below.trod laidOut (by kernel_rfl) (of_decide_eq_true (by kernel_rfl)) h1 bel lt1) trodAll_mk0)), rfl, bel.frame _, fun h => by cases h⟩

theorem k1 : (Rows.coverSplitsRow.wf (OpenSpec.ofChange Rows.coverSplitsSpec)) = true := by kernel_rfl
theorem k2 : (laidOutB Try.pinned.checked.prog) = true := by kernel_rfl
theorem k3 : (mapsRowed Try.pinned.checked.prog) = true := by kernel_rfl
theorem k4 : (Try.f4.params.all (Try.pinned.checked.prog.readableRec ·)) = true := by kernel_rfl
theorem k5 : (namedTie Try.pinned.checked.prog Rows.coverSplitsRow.named Rows.coverSplitsSpec.vars) = true := by kernel_rfl
theorem k6 : ((Rows.coverSplitsRow.stops == [])) = true := by kernel_rfl
theorem k7 : ((Try.pinned.checked.prog.stops == [])) = true := by kernel_rfl
theorem k8 : ((Rows.coverSplitsRow.knobs == [])) = true := by kernel_rfl
theorem k9 : ((Try.pinned.checked.prog.stopKnobs == [])) = true := by kernel_rfl
theorem k10 : ((Rows.coverSplitsRow.inPlace == Try.pinned.checked.prog.inPlace 4)) = true := by kernel_rfl
theorem k11 : ((Rows.coverSplitsRow.unfollowed == Try.pinned.checked.prog.unfollowed 4)) = true := by kernel_rfl
theorem k12 : ((Rows.coverSplitsRow.recurses == Try.pinned.checked.prog.recurses 4)) = true := by kernel_rfl
theorem k13 : ((Rows.coverSplitsRow.named == Try.pinned.checked.prog.varsNamed 4)) = true := by kernel_rfl
theorem k14 : ((Rows.coverSplitsRow.maps == (Try.f4.params.toList ++ Rows.coverSplitsSpec.plain.varTypes Try.pinned.checked.prog).any (Try.pinned.checked.prog.mapsRec ·))) = true := by kernel_rfl
theorem k15 : ((Rows.coverSplitsRow.ifaces == (Try.f4.params.toList ++ Rows.coverSplitsSpec.plain.varTypes Try.pinned.checked.prog).any (Try.pinned.checked.prog.ifacesRec ·))) = true := by kernel_rfl
theorem k16 : ((Rows.coverSplitsRow.mapsOut == Try.pinned.checked.prog.mapsAmong Try.f4.resultTypes.toList)) = true := by kernel_rfl
theorem k17 : ((Rows.coverSplitsRow.loops == (Try.f4.params.toList ++ Rows.coverSplitsSpec.plain.varTypes Try.pinned.checked.prog).any (Try.pinned.checked.prog.loopsFrom ·))) = true := by kernel_rfl
theorem k18 : ((Rows.coverSplitsRow.wideKeys == (Try.f4.params.toList ++ Rows.coverSplitsSpec.plain.varTypes Try.pinned.checked.prog ++ Try.f4.resultTypes.toList).any (Try.pinned.checked.prog.wideKeysFrom ·))) = true := by kernel_rfl
theorem k19 : (Rows.coverSplitsSpec.vars.all (Try.pinned.checked.prog.varReadable ·)) = true := by kernel_rfl
theorem k20 : (Try.f4.resultTypes.all (fun t => Try.pinned.checked.prog.readableRec t && decide (t < Try.pinned.checked.prog.types.size))) = true := by kernel_rfl
theorem k21 : ((Rows.coverSplitsRow.ifacesOut == Try.f4.resultTypes.toList.any (Try.pinned.checked.prog.ifacesRec ·))) = true := by kernel_rfl
theorem k22 : ((Rows.coverSplitsRow.loopsOut == Try.f4.resultTypes.toList.any (Try.pinned.checked.prog.loopsFrom ·))) = true := by kernel_rfl
theorem k23 : ((Rows.coverSplitsRow.plainKeys == Try.pinned.checked.prog.plainKeys)) = true := by kernel_rfl
theorem k24 : (Rows.coverSplitsRow.shortTexts.isNone) = true := by kernel_rfl
theorem k25 : (Try.pinned.checked.prog.stopsHeard) = true := by kernel_rfl
theorem k26 : (Try.pinned.checked.prog.mayEnter) = true := by kernel_rfl
theorem k27 : ((Rows.coverSplitsRow.lifted == Try.pinned.checked.prog.liftsFinal)) = true := by kernel_rfl
theorem k28 : ((Try.pinned.checked.prog.make == some Rows.coverSplitsRow.make)) = true := by kernel_rfl
theorem k30 : ((Rows.coverSplitsRow.pinned == Rows.coverSplitsRow.pinnedBy)) = true := by kernel_rfl
theorem k31 : ((Rows.coverSplitsRow.veiled == (Try.f4.params.toList ++ Rows.coverSplitsSpec.plain.varTypes Try.pinned.checked.prog ++ Try.f4.resultTypes.toList).any (Try.pinned.checked.prog.veiledRec ·))) = true := by kernel_rfl
theorem k32 : (Rows.coverSplitsRow.veiledFits Try.pinned.checked.prog Try.f4.params.toList (Try.f4.params.toList ++ Rows.coverSplitsSpec.plain.varTypes Try.pinned.checked.prog ++ Try.f4.resultTypes.toList)) = true := by kernel_rfl
theorem closed : joinedFacts Try.pinned.checked.prog 4 Try.f4 Rows.coverSplitsSpec Rows.coverSplitsRow = true := by unfold joinedFacts; exact bt_and (bt_and (bt_and (bt_and (bt_and (bt_and (bt_and (bt_and (bt_and (bt_and (bt_and (bt_and (bt_and (bt_and (bt_and (bt_and (bt_and (bt_and (bt_and (bt_and (bt_and (bt_and (bt_and (bt_and (bt_and (bt_and (bt_and (bt_and (bt_and (bt_and (bt_and (k1) k2) k3) k4) k5) k6) k7) k8) k9) k10) k11) k12) k13) k14) k15) k16) k17) k18) k19) k20) k21) k22) k23) k24) k25) k26) k27) k28) (by kernel_rfl)) k30) k31) k32
theorem named : Try.pinned.checked.prog.funcNamed Rows.coverSplitsRow.func = some 4 := by kernel_rfl
theorem inst : Try.f4.isInstance Try.pinned.checked.prog Rows.coverSplitsRow.origin Rows.coverSplitsRow.targs := of_decide_eq_true (by kernel_rfl)
theorem wrap : Try.f4.isWrapper Try.pinned.checked.prog Rows.coverSplitsRow.wrapper Rows.coverSplitsRow.mainSum := by unfold Func.isWrapper; first | (rw [if_pos (by decide +kernel)]; kernel_rfl) | (rw [if_neg (by decide +kernel)]; exact ⟨rfl, rfl⟩)

theorem over : Rows.coverSplitsRow.holds Try.pinned (OpenSpec.ofChange Rows.coverSplitsSpec) :=
  OpenClaim.holds_of_wide 4 Try.f4 rfl rfl rfl rfl rfl rfl rfl ⟨rfl, rfl, rfl, rfl, rfl⟩ rfl rfl rfl rfl rfl named Try.func4 closed inst wrap
    (fun os started H enc _ => lifted os started H enc)

theorem proved : Rows.CoverSplitsSaid := over
end Go.Proofs.Ytecempahccgijaa.coverSplits
