/- Proved: for every input, a call of the Go function headendlaw05.EpochExamples returns true, and its arguments read afterwards as before (the given statement Rows.EpochExamplesSaid). Conditions: none but those of the given row itself. -/
import Derived.Test.YtplcaaglieefgaaGreatZc
import Derived.Test.YtplcaaglieefgaaGreatZd
import Derived.Test.YtplcaaglieefgaaGreatEx5
import Derived.Test.YtplcaaglieefgaaGreatZe
set_option linter.unusedVariables false
set_option linter.unusedSimpArgs false
set_option maxRecDepth 100000
set_option linter.unusedVariables false
set_option linter.unusedSimpArgs false
set_option maxRecDepth 100000
namespace Go.Proofs.YtplcaaglieefgaaGreat.epochExamples
open Go Go.RowKit Go.Sx Go.ChangeShapes Go.WideShapes Go.ChangeAt
theorem own:ownKnob Tryz.prog.godebug=none:=by kernel_rfl
theorem laidOut:laidOutB Tryz.prog=true:=by kernel_rfl
theorem walk {H:Type}{enc:TypeId × Value→H}(W:World)(base:Nat)(vv:Value)  :
 Calls Tryz.prog 7 #[] W fun e w'=>e=.returned (.bool true)∧Below W.heap.size W w':=by
 have hl:=Ub;exact(@Mx.Uc   true hl W ).mono fun e w' ⟨v,he,hv,hg⟩=>⟨by rw[he,hv],hg⟩
theorem lifted (os:Os)(started:os.Started)(H:Type)(enc:TypeId × Value→H):
 ReturnsInHanded {} Tryz.checked os 7 .any (Rows.epochExamplesSpec.pre6 enc Tryz.prog Tryz.f7 Rows.epochExamplesRow.domain false) (Rows.epochExamplesSpec.post enc Tryz.prog Tryz.f7 false true false false):=by
 refine returnsInHanded_of_change_sized (C:=Tryz.checked) own started (by kernel_rfl) Tryz.func7
  (ChangeSpec.witness6 (enc:=enc) (C:=Tryz.checked) false ⟨#[],#[],[]⟩ 8 (by kernel_rfl) (by kernel_rfl) (by kernel_rfl) (by kernel_rfl)) ?_
 intro W base args ds gs before hval0 hW hcnd hsz _;have hval:∀ (j:Nat) t v,Tryz.f7.params[j]? = some t→args[j]? = some v→Value.okWide Tryz.prog W .any base t v:=hval0;have hW':=hW;obtain⟨p,q,hA0,hV,rfl,hfz,hnd⟩:=hW;have hA:DataW.TrodAll enc Tryz.prog W 0 (fun _=>true) true Tryz.f7.params.toList args.toList ds p:=hA0;rw[Tryz.params7] at hA hval;obtain⟨hargs,rfl,rfl⟩:=trodAll_nil hA;obtain rfl:args = #[]:=by cases args;simp_all
 obtain⟨rfl,rfl⟩:=trodVars_none hV;clear hA0 hval0;refine(walk (enc:=enc) W base (.bool true)).mono fun e W' ⟨he,bel⟩=>?_;subst he;exact⟨_,rfl,_,_,_,[],_,[],hW',trodAll_mk1 (shut_bool Tryz.underlying4 _),trodAll_mk0,rfl,bel.frame _,fun h=>by cases h⟩
theorem k1:(Rows.epochExamplesRow.wf (OpenSpec.ofChange Rows.epochExamplesSpec))=true:=by kernel_rfl
theorem k2:(laidOutB Tryz.pinned.checked.prog)=true:=by kernel_rfl
theorem k3:(mapsRowed Tryz.pinned.checked.prog)=true:=by kernel_rfl
theorem k4:(Tryz.f7.params.all (Tryz.pinned.checked.prog.readableRec ·))=true:=by kernel_rfl
theorem k5:(namedTie Tryz.pinned.checked.prog Rows.epochExamplesRow.named Rows.epochExamplesSpec.vars)=true:=by kernel_rfl
theorem k6:((Rows.epochExamplesRow.stops == []))=true:=by kernel_rfl
theorem k7:((Tryz.pinned.checked.prog.stops == []))=true:=by kernel_rfl
theorem k8:((Rows.epochExamplesRow.knobs == []))=true:=by kernel_rfl
theorem k9:((Tryz.pinned.checked.prog.stopKnobs == []))=true:=by kernel_rfl
theorem k10:((Rows.epochExamplesRow.inPlace == Tryz.pinned.checked.prog.inPlace 7))=true:=by kernel_rfl
theorem k11:((Rows.epochExamplesRow.unfollowed == Tryz.pinned.checked.prog.unfollowed 7))=true:=by kernel_rfl
theorem k12:((Rows.epochExamplesRow.recurses == Tryz.pinned.checked.prog.recurses 7))=true:=by kernel_rfl
theorem k13:((Rows.epochExamplesRow.named == Tryz.pinned.checked.prog.varsNamed 7))=true:=by kernel_rfl
theorem k14:((Rows.epochExamplesRow.maps == (Tryz.f7.params.toList++Rows.epochExamplesSpec.plain.varTypes Tryz.pinned.checked.prog).any (Tryz.pinned.checked.prog.mapsRec ·)))=true:=by kernel_rfl
theorem k15:((Rows.epochExamplesRow.ifaces == (Tryz.f7.params.toList++Rows.epochExamplesSpec.plain.varTypes Tryz.pinned.checked.prog).any (Tryz.pinned.checked.prog.ifacesRec ·)))=true:=by kernel_rfl
theorem k16:((Rows.epochExamplesRow.mapsOut == Tryz.pinned.checked.prog.mapsAmong Tryz.f7.resultTypes.toList))=true:=by kernel_rfl
theorem k17:((Rows.epochExamplesRow.loops == (Tryz.f7.params.toList++Rows.epochExamplesSpec.plain.varTypes Tryz.pinned.checked.prog).any (Tryz.pinned.checked.prog.loopsFrom ·)))=true:=by kernel_rfl
theorem k18:((Rows.epochExamplesRow.wideKeys == (Tryz.f7.params.toList++Rows.epochExamplesSpec.plain.varTypes Tryz.pinned.checked.prog++Tryz.f7.resultTypes.toList).any (Tryz.pinned.checked.prog.wideKeysFrom ·)))=true:=by kernel_rfl
theorem k19:(Rows.epochExamplesSpec.vars.all (Tryz.pinned.checked.prog.varReadable ·))=true:=by kernel_rfl
theorem k20:(Tryz.f7.resultTypes.all (fun t=>Tryz.pinned.checked.prog.readableRec t&&decide (t<Tryz.pinned.checked.prog.types.size)))=true:=by kernel_rfl
theorem k21:((Rows.epochExamplesRow.ifacesOut == Tryz.f7.resultTypes.toList.any (Tryz.pinned.checked.prog.ifacesRec ·)))=true:=by kernel_rfl
theorem k22:((Rows.epochExamplesRow.loopsOut == Tryz.f7.resultTypes.toList.any (Tryz.pinned.checked.prog.loopsFrom ·)))=true:=by kernel_rfl
theorem k23:((Rows.epochExamplesRow.plainKeys == Tryz.pinned.checked.prog.plainKeys))=true:=by kernel_rfl
theorem k24:(Rows.epochExamplesRow.shortTexts.isNone)=true:=by kernel_rfl
theorem k25:(Tryz.pinned.checked.prog.stopsHeard)=true:=by kernel_rfl
theorem k26:(Tryz.pinned.checked.prog.mayEnter)=true:=by kernel_rfl
theorem k27:((Rows.epochExamplesRow.lifted == Tryz.pinned.checked.prog.liftsFinal))=true:=by kernel_rfl
theorem k28:((Tryz.pinned.checked.prog.make == some Rows.epochExamplesRow.make))=true:=by kernel_rfl
theorem k30:((Rows.epochExamplesRow.pinned == Rows.epochExamplesRow.pinnedBy))=true:=by kernel_rfl
theorem k31:((Rows.epochExamplesRow.veiled == (Tryz.f7.params.toList++Rows.epochExamplesSpec.plain.varTypes Tryz.pinned.checked.prog++Tryz.f7.resultTypes.toList).any (Tryz.pinned.checked.prog.veiledRec ·)))=true:=by kernel_rfl
theorem k32:(Rows.epochExamplesRow.veiledFits Tryz.pinned.checked.prog Tryz.f7.params.toList (Tryz.f7.params.toList++Rows.epochExamplesSpec.plain.varTypes Tryz.pinned.checked.prog++Tryz.f7.resultTypes.toList))=true:=by kernel_rfl
theorem closed:joinedFacts Tryz.pinned.checked.prog 7 Tryz.f7 Rows.epochExamplesSpec Rows.epochExamplesRow=true:=by unfold joinedFacts;exact fX (fX (fX (fX (fX (fX (fX (fX (fX (fX (fX (fX (fX (fX (fX (fX (fX (fX (fX (fX (fX (fX (fX (fX (fX (fX (fX (fX (fX (fX (fX (k1) k2) k3) k4) k5) k6) k7) k8) k9) k10) k11) k12) k13) k14) k15) k16) k17) k18) k19) k20) k21) k22) k23) k24) k25) k26) k27) k28) (by kernel_rfl)) k30) k31) k32
theorem named:Tryz.pinned.checked.prog.funcNamed Rows.epochExamplesRow.func=some 7:=by kernel_rfl
theorem inst:Tryz.f7.isInstance Tryz.pinned.checked.prog Rows.epochExamplesRow.origin Rows.epochExamplesRow.targs:=of_decide_eq_true (by kernel_rfl)
theorem wrap:Tryz.f7.isWrapper Tryz.pinned.checked.prog Rows.epochExamplesRow.wrapper Rows.epochExamplesRow.mainSum:=by unfold Func.isWrapper;first|(rw[if_pos (by decide +kernel)];kernel_rfl)|(rw[if_neg (by decide +kernel)];exact⟨rfl,rfl⟩)
theorem over:Rows.epochExamplesRow.holds Tryz.pinned (OpenSpec.ofChange Rows.epochExamplesSpec):=
 OpenClaim.holds_of_wide 7 Tryz.f7 rfl rfl rfl rfl rfl rfl rfl ⟨rfl,rfl,rfl,rfl,rfl⟩ rfl rfl rfl rfl rfl named Tryz.func7 closed inst wrap
  (fun os started H enc _=>lifted os started H enc)
theorem proved:Rows.EpochExamplesSaid:=over
end Go.Proofs.YtplcaaglieefgaaGreat.epochExamples
