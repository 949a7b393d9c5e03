/- Proved: for every input, a call of the Go function headendlaw10.PlanExamples returns true, and its arguments read afterwards as before (the given statement Rows.PlanExamplesSaid). Conditions: none but those of the given row itself. -/
import Derived.Test.YtopkalcefepilaaZd
import Derived.Test.YtopkalcefepilaaZf
import Derived.Test.YtopkalcefepilaaXp
set_option linter.unusedVariables false
set_option linter.unusedSimpArgs false
set_option maxRecDepth 100000
namespace Go.Proofs.Ytopkalcefepilaa.planExamples
open Go Go.RowKit Go.Sx Go.ChangeShapes Go.WideShapes Go.ChangeAt
theorem own : ownKnob Try.prog.godebug = none := by kernel_rfl
theorem laidOut : laidOutB Try.prog = true := by kernel_rfl
theorem walk {H : Type} {enc : TypeId × Value → H} (W : World) (base : Nat) (vv : Value)  :
    Calls Try.prog 13 #[] W fun e w' => e = .returned (.bool true) ∧ Below W.heap.size W w' := by
  have hl := law10_PlanExamples_ok  
  exact (@Mx.law10_PlanExamples_w   true hl W ).mono fun e w' ⟨v, he, hv, hg⟩ => ⟨by rw [he, hv], hg⟩
theorem lifted (os : Os) (started : os.Started) (H : Type) (enc : TypeId × Value → H) :
    ReturnsInHanded {} Try.checked os 13 .any (Rows.planExamplesSpec.pre6 enc Try.prog Try.f13 Rows.planExamplesRow.domain false) (Rows.planExamplesSpec.post enc Try.prog Try.f13 false true false false) := by
  refine returnsInHanded_of_change_sized (C := Try.checked) own started (by kernel_rfl) Try.func13
    (ChangeSpec.witness6 (enc := enc) (C := Try.checked) false ⟨#[], #[], []⟩ 8 (by kernel_rfl) (by kernel_rfl) (by kernel_rfl) (by kernel_rfl)) ?_
  intro W base args ds gs before hval0 hW hcnd hsz _
  have hval : ∀ (j : Nat) t v, Try.f13.params[j]? = some t → args[j]? = some v → Value.okWide Try.prog W .any base t v := hval0
  have hW' := hW
  obtain ⟨p, q, hA0, hV, rfl, hfz, hnd⟩ := hW
  have hA : DataW.TrodAll enc Try.prog W 0 (fun _ => true) true Try.f13.params.toList args.toList ds p := hA0
  rw [Try.params13] at hA hval
  obtain ⟨hargs, rfl, rfl⟩ := trodAll_nil hA
  obtain rfl : args = #[] := by cases args; simp_all
  obtain ⟨rfl, rfl⟩ := trodVars_none hV
  clear hA0 hval0
  refine (walk (enc := enc) W base (.bool true)).mono fun e W' ⟨he, bel⟩ => ?_
  subst he
  exact ⟨_, rfl, _, _, _, [], _, [], hW', trodAll_mk1 (shut_bool Try.underlying4 _), trodAll_mk0, rfl, bel.frame _, fun h => by cases h⟩
theorem k1 : (Rows.planExamplesRow.wf (OpenSpec.ofChange Rows.planExamplesSpec)) = true := by kernel_rfl
theorem k2 : (laidOutB Try.pinned.checked.prog) = true := by kernel_rfl
theorem k3 : (mapsRowed Try.pinned.checked.prog) = true := by kernel_rfl
theorem k4 : (Try.f13.params.all (Try.pinned.checked.prog.readableRec ·)) = true := by kernel_rfl
theorem k5 : (namedTie Try.pinned.checked.prog Rows.planExamplesRow.named Rows.planExamplesSpec.vars) = true := by kernel_rfl
theorem k6 : ((Rows.planExamplesRow.stops == [])) = true := by kernel_rfl
theorem k7 : ((Try.pinned.checked.prog.stops == [])) = true := by kernel_rfl
theorem k8 : ((Rows.planExamplesRow.knobs == [])) = true := by kernel_rfl
theorem k9 : ((Try.pinned.checked.prog.stopKnobs == [])) = true := by kernel_rfl
theorem k10 : ((Rows.planExamplesRow.inPlace == Try.pinned.checked.prog.inPlace 13)) = true := by kernel_rfl
theorem k11 : ((Rows.planExamplesRow.unfollowed == Try.pinned.checked.prog.unfollowed 13)) = true := by kernel_rfl
theorem k12 : ((Rows.planExamplesRow.recurses == Try.pinned.checked.prog.recurses 13)) = true := by kernel_rfl
theorem k13 : ((Rows.planExamplesRow.named == Try.pinned.checked.prog.varsNamed 13)) = true := by kernel_rfl
theorem k14 : ((Rows.planExamplesRow.maps == (Try.f13.params.toList ++ Rows.planExamplesSpec.plain.varTypes Try.pinned.checked.prog).any (Try.pinned.checked.prog.mapsRec ·))) = true := by kernel_rfl
theorem k15 : ((Rows.planExamplesRow.ifaces == (Try.f13.params.toList ++ Rows.planExamplesSpec.plain.varTypes Try.pinned.checked.prog).any (Try.pinned.checked.prog.ifacesRec ·))) = true := by kernel_rfl
theorem k16 : ((Rows.planExamplesRow.mapsOut == Try.pinned.checked.prog.mapsAmong Try.f13.resultTypes.toList)) = true := by kernel_rfl
theorem k17 : ((Rows.planExamplesRow.loops == (Try.f13.params.toList ++ Rows.planExamplesSpec.plain.varTypes Try.pinned.checked.prog).any (Try.pinned.checked.prog.loopsFrom ·))) = true := by kernel_rfl
theorem k18 : ((Rows.planExamplesRow.wideKeys == (Try.f13.params.toList ++ Rows.planExamplesSpec.plain.varTypes Try.pinned.checked.prog ++ Try.f13.resultTypes.toList).any (Try.pinned.checked.prog.wideKeysFrom ·))) = true := by kernel_rfl
theorem k19 : (Rows.planExamplesSpec.vars.all (Try.pinned.checked.prog.varReadable ·)) = true := by kernel_rfl
theorem k20 : (Try.f13.resultTypes.all (fun t => Try.pinned.checked.prog.readableRec t && decide (t < Try.pinned.checked.prog.types.size))) = true := by kernel_rfl
theorem k21 : ((Rows.planExamplesRow.ifacesOut == Try.f13.resultTypes.toList.any (Try.pinned.checked.prog.ifacesRec ·))) = true := by kernel_rfl
theorem k22 : ((Rows.planExamplesRow.loopsOut == Try.f13.resultTypes.toList.any (Try.pinned.checked.prog.loopsFrom ·))) = true := by kernel_rfl
theorem k23 : ((Rows.planExamplesRow.plainKeys == Try.pinned.checked.prog.plainKeys)) = true := by kernel_rfl
theorem k24 : (Rows.planExamplesRow.shortTexts.isNone) = true := by kernel_rfl
theorem k25 : (Try.pinned.checked.prog.stopsHeard) = true := by kernel_rfl
theorem k26 : (Try.pinned.checked.prog.mayEnter) = true := by kernel_rfl
theorem k27 : ((Rows.planExamplesRow.lifted == Try.pinned.checked.prog.liftsFinal)) = true := by kernel_rfl
theorem k28 : ((Try.pinned.checked.prog.make == some Rows.planExamplesRow.make)) = true := by kernel_rfl
theorem k30 : ((Rows.planExamplesRow.pinned == Rows.planExamplesRow.pinnedBy)) = true := by kernel_rfl
theorem k31 : ((Rows.planExamplesRow.veiled == (Try.f13.params.toList ++ Rows.planExamplesSpec.plain.varTypes Try.pinned.checked.prog ++ Try.f13.resultTypes.toList).any (Try.pinned.checked.prog.veiledRec ·))) = true := by kernel_rfl
theorem k32 : (Rows.planExamplesRow.veiledFits Try.pinned.checked.prog Try.f13.params.toList (Try.f13.params.toList ++ Rows.planExamplesSpec.plain.varTypes Try.pinned.checked.prog ++ Try.f13.resultTypes.toList)) = true := by kernel_rfl
theorem closed : joinedFacts Try.pinned.checked.prog 13 Try.f13 Rows.planExamplesSpec Rows.planExamplesRow = true := by unfold joinedFacts; exact bt_and (bt_and (bt_and (bt_and (bt_and (bt_and (bt_and (bt_and (bt_and (bt_and (bt_and (bt_and (bt_and (bt_and (bt_and (bt_and (bt_and (bt_and (bt_and (bt_and (bt_and (bt_and (bt_and (bt_and (bt_and (bt_and (bt_and (bt_and (bt_and (bt_and (bt_and (k1) k2) k3) k4) k5) k6) k7) k8) k9) k10) k11) k12) k13) k14) k15) k16) k17) k18) k19) k20) k21) k22) k23) k24) k25) k26) k27) k28) (by kernel_rfl)) k30) k31) k32
theorem named : Try.pinned.checked.prog.funcNamed Rows.planExamplesRow.func = some 13 := by kernel_rfl
theorem inst : Try.f13.isInstance Try.pinned.checked.prog Rows.planExamplesRow.origin Rows.planExamplesRow.targs := of_decide_eq_true (by kernel_rfl)
theorem wrap : Try.f13.isWrapper Try.pinned.checked.prog Rows.planExamplesRow.wrapper Rows.planExamplesRow.mainSum := by unfold Func.isWrapper; first | (rw [if_pos (by decide +kernel)]; kernel_rfl) | (rw [if_neg (by decide +kernel)]; exact ⟨rfl, rfl⟩)
theorem over : Rows.planExamplesRow.holds Try.pinned (OpenSpec.ofChange Rows.planExamplesSpec) :=
  OpenClaim.holds_of_wide 13 Try.f13 rfl rfl rfl rfl rfl rfl rfl ⟨rfl, rfl, rfl, rfl, rfl⟩ rfl rfl rfl rfl rfl named Try.func13 closed inst wrap
    (fun os started H enc _ => lifted os started H enc)
theorem proved : Rows.PlanExamplesSaid := over
end Go.Proofs.Ytopkalcefepilaa.planExamples
