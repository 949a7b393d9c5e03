/- Proved: for every input, a call of the Go function headendlaw10.PlanChecks returns true, and its arguments read afterwards as before (the given statement Rows.PlanChecksSaid). Conditions: none but those of the given row itself. -/
import Derived.Test.YtopkalcefepilaaGreatZc
import Derived.Test.YtopkalcefepilaaGreatZd
import Derived.Test.YtopkalcefepilaaGreatCk
import Derived.Test.YtopkalcefepilaaGreatZf
set_option linter.unusedVariables false
set_option linter.unusedSimpArgs false
set_option maxRecDepth 100000
namespace Go.Proofs.YtopkalcefepilaaGreat.planChecks
open Go Go.RowKit Go.Sx Go.ChangeShapes Go.WideShapes Go.ChangeAt
theorem own:ownKnob Tryz.prog.godebug=none:=by kernel_rfl
theorem laidOut:laidOutB Tryz.prog=true:=by kernel_rfl
theorem walk {H:Type}{enc:TypeId × Value→H}(W:World)(base:Nat)(v0 v1:Value)(d0:DataW H)(p0:List MemPlace)(k0:Value.okWide Tryz.prog W .any base 26 v0)(h0:DataW.Trod enc Tryz.prog W 0 (fun _=>true) true 26 v0 d0 p0)(s0:Sz Tryz.prog 26 d0)(d1:DataW H)(p1:List MemPlace)(k1:Value.okWide Tryz.prog W .any base 29 v1)(h1:DataW.Trod enc Tryz.prog W 0 (fun _=>true) true 29 v1 d1 p1)(s1:Sz Tryz.prog 29 d1):
 Calls Tryz.prog 3 #[v0,v1] W fun e w'=>e=.returned (.bool true)∧Below W.heap.size W w':=by
 obtain⟨cs0,rfl⟩:=Qkh (.inl ⟨_,Tryz.underlying26⟩) k0
 obtain⟨fu0,f0⟩:=h0
 rw[Qhc] at f0
 obtain⟨m0,rfl,ok0⟩:=Qt1 f0
 obtain⟨cs1,rfl⟩:=Qkh (.inl ⟨_,Tryz.underlying29⟩) k1
 obtain⟨fu1,f1⟩:=h1
 rw[Qhc] at f1
 obtain⟨m1,v1_0,z1_0,g1_0,o1_0,rfl,R1_0,ok1⟩:=Qt2 f1 s1
 have hl:=Qrk m0 m1 ok0 ok1
 exact(@Mx.Qrl m0 m1 _ _ _ _ _ true hl W R1_0).mono fun e w' ⟨v,he,hv,hg⟩=>⟨by rw[he,hv],hg⟩
theorem lifted (os:Os)(started:os.Started)(H:Type)(enc:TypeId × Value→H):
 ReturnsInHanded {} Tryz.checked os 3 .any (Rows.planChecksSpec.pre6 enc Tryz.prog Tryz.f3 Rows.planChecksRow.domain false) (Rows.planChecksSpec.post enc Tryz.prog Tryz.f3 false true false false):=by
 refine returnsInHanded_of_change_sized (C:=Tryz.checked) own started (by kernel_rfl) Tryz.func3
  (ChangeSpec.witness6 (enc:=enc) (C:=Tryz.checked) false ⟨#[],#[.agg #[.int .i64 0,.int .i64 0,.int .i64 0,.int .i64 0,.int .i64 0,.int .i64 0,.int .u64 0,.int .u64 0,.int .u64 0],.agg #[.slice none 0 0,.int .u8 0]],[]⟩ 8 (by kernel_rfl) (by kernel_rfl) (by kernel_rfl) (by kernel_rfl)) ?_
 intro W base args ds gs before hval0 hW hcnd hsz _
 have hval:∀ (j:Nat) t v,Tryz.f3.params[j]? = some t→args[j]? = some v→Value.okWide Tryz.prog W .any base t v:=hval0
 have hW':=hW
 obtain⟨p,q,hA0,hV,rfl,hfz,hnd⟩:=hW
 have hA:DataW.TrodAll enc Tryz.prog W 0 (fun _=>true) true Tryz.f3.params.toList args.toList ds p:=hA0
 rw[Tryz.params3] at hA hval
 obtain⟨v0,vs0,d0,ds0,p0,q0,hargs,rfl,rfl,h0,r0⟩:=trodAll_cons hA
 obtain⟨v1,vs1,d1,ds1,p1,q1,rfl,rfl,rfl,h1,r1⟩:=trodAll_cons r0
 obtain⟨rfl,rfl,rfl⟩:=trodAll_nil r1
 obtain rfl:args = #[v0,v1]:=by cases args;simp_all
 obtain⟨rfl,rfl⟩:=trodVars_none hV
 have lt0:∀ x∈p0,x.block<W.heap.size:=by obtain⟨m,hm⟩:=h0;exact DataW.trod_lt m _ _ _ hm
 have s0:Sz Tryz.prog 26 d0:=fun n hn=>by simpa using List.all_eq_true.1 hsz n (DataW.weights_mem_each (j:=0) rfl rfl n hn)
 have lt1:∀ x∈p1,x.block<W.heap.size:=by obtain⟨m,hm⟩:=h1;exact DataW.trod_lt m _ _ _ hm
 have s1:Sz Tryz.prog 29 d1:=fun n hn=>by simpa using List.all_eq_true.1 hsz n (DataW.weights_mem_each (j:=1) rfl rfl n hn)
 clear hA0 hval0
 refine(walk (enc:=enc) W base v0 v1 d0 p0 (hval 0 26 v0 rfl rfl) h0 s0 d1 p1 (hval 1 29 v1 rfl rfl) h1 s1).mono fun e W' ⟨he,bel⟩=>?_
 subst he
 exact⟨_,rfl,_,_,_,[],_,[],hW',trodAll_mk1 (shut_bool Tryz.underlying4 _),(trodAll_cons_mk (Below.trod laidOut (by kernel_rfl) (of_decide_eq_true (by kernel_rfl)) h0 bel lt0) (trodAll_cons_mk (Below.trod laidOut (by kernel_rfl) (of_decide_eq_true (by kernel_rfl)) h1 bel lt1) trodAll_mk0)),rfl,bel.frame _,fun h=>by cases h⟩
theorem k1:(Rows.planChecksRow.wf (OpenSpec.ofChange Rows.planChecksSpec))=true:=by kernel_rfl
theorem k2:(laidOutB Tryz.pinned.checked.prog)=true:=by kernel_rfl
theorem k3:(mapsRowed Tryz.pinned.checked.prog)=true:=by kernel_rfl
theorem k4:(Tryz.f3.params.all (Tryz.pinned.checked.prog.readableRec ·))=true:=by kernel_rfl
theorem k5:(namedTie Tryz.pinned.checked.prog Rows.planChecksRow.named Rows.planChecksSpec.vars)=true:=by kernel_rfl
theorem k6:((Rows.planChecksRow.stops == []))=true:=by kernel_rfl
theorem k7:((Tryz.pinned.checked.prog.stops == []))=true:=by kernel_rfl
theorem k8:((Rows.planChecksRow.knobs == []))=true:=by kernel_rfl
theorem k9:((Tryz.pinned.checked.prog.stopKnobs == []))=true:=by kernel_rfl
theorem k10:((Rows.planChecksRow.inPlace == Tryz.pinned.checked.prog.inPlace 3))=true:=by kernel_rfl
theorem k11:((Rows.planChecksRow.unfollowed == Tryz.pinned.checked.prog.unfollowed 3))=true:=by kernel_rfl
theorem k12:((Rows.planChecksRow.recurses == Tryz.pinned.checked.prog.recurses 3))=true:=by kernel_rfl
theorem k13:((Rows.planChecksRow.named == Tryz.pinned.checked.prog.varsNamed 3))=true:=by kernel_rfl
theorem k14:((Rows.planChecksRow.maps == (Tryz.f3.params.toList++Rows.planChecksSpec.plain.varTypes Tryz.pinned.checked.prog).any (Tryz.pinned.checked.prog.mapsRec ·)))=true:=by kernel_rfl
theorem k15:((Rows.planChecksRow.ifaces == (Tryz.f3.params.toList++Rows.planChecksSpec.plain.varTypes Tryz.pinned.checked.prog).any (Tryz.pinned.checked.prog.ifacesRec ·)))=true:=by kernel_rfl
theorem k16:((Rows.planChecksRow.mapsOut == Tryz.pinned.checked.prog.mapsAmong Tryz.f3.resultTypes.toList))=true:=by kernel_rfl
theorem k17:((Rows.planChecksRow.loops == (Tryz.f3.params.toList++Rows.planChecksSpec.plain.varTypes Tryz.pinned.checked.prog).any (Tryz.pinned.checked.prog.loopsFrom ·)))=true:=by kernel_rfl
theorem k18:((Rows.planChecksRow.wideKeys == (Tryz.f3.params.toList++Rows.planChecksSpec.plain.varTypes Tryz.pinned.checked.prog++Tryz.f3.resultTypes.toList).any (Tryz.pinned.checked.prog.wideKeysFrom ·)))=true:=by kernel_rfl
theorem k19:(Rows.planChecksSpec.vars.all (Tryz.pinned.checked.prog.varReadable ·))=true:=by kernel_rfl
theorem k20:(Tryz.f3.resultTypes.all (fun t=>Tryz.pinned.checked.prog.readableRec t&&decide (t<Tryz.pinned.checked.prog.types.size)))=true:=by kernel_rfl
theorem k21:((Rows.planChecksRow.ifacesOut == Tryz.f3.resultTypes.toList.any (Tryz.pinned.checked.prog.ifacesRec ·)))=true:=by kernel_rfl
theorem k22:((Rows.planChecksRow.loopsOut == Tryz.f3.resultTypes.toList.any (Tryz.pinned.checked.prog.loopsFrom ·)))=true:=by kernel_rfl
theorem k23:((Rows.planChecksRow.plainKeys == Tryz.pinned.checked.prog.plainKeys))=true:=by kernel_rfl
theorem k24:(Rows.planChecksRow.shortTexts.isNone)=true:=by kernel_rfl
theorem k25:(Tryz.pinned.checked.prog.stopsHeard)=true:=by kernel_rfl
theorem k26:(Tryz.pinned.checked.prog.mayEnter)=true:=by kernel_rfl
theorem k27:((Rows.planChecksRow.lifted == Tryz.pinned.checked.prog.liftsFinal))=true:=by kernel_rfl
theorem k28:((Tryz.pinned.checked.prog.make == some Rows.planChecksRow.make))=true:=by kernel_rfl
theorem k30:((Rows.planChecksRow.pinned == Rows.planChecksRow.pinnedBy))=true:=by kernel_rfl
theorem k31:((Rows.planChecksRow.veiled == (Tryz.f3.params.toList++Rows.planChecksSpec.plain.varTypes Tryz.pinned.checked.prog++Tryz.f3.resultTypes.toList).any (Tryz.pinned.checked.prog.veiledRec ·)))=true:=by kernel_rfl
theorem k32:(Rows.planChecksRow.veiledFits Tryz.pinned.checked.prog Tryz.f3.params.toList (Tryz.f3.params.toList++Rows.planChecksSpec.plain.varTypes Tryz.pinned.checked.prog++Tryz.f3.resultTypes.toList))=true:=by kernel_rfl
theorem closed:joinedFacts Tryz.pinned.checked.prog 3 Tryz.f3 Rows.planChecksSpec Rows.planChecksRow=true:=by unfold joinedFacts;exact Kh (Kh (Kh (Kh (Kh (Kh (Kh (Kh (Kh (Kh (Kh (Kh (Kh (Kh (Kh (Kh (Kh (Kh (Kh (Kh (Kh (Kh (Kh (Kh (Kh (Kh (Kh (Kh (Kh (Kh (Kh (k1) k2) k3) k4) k5) k6) k7) k8) k9) k10) k11) k12) k13) k14) k15) k16) k17) k18) k19) k20) k21) k22) k23) k24) k25) k26) k27) k28) (by kernel_rfl)) k30) k31) k32
theorem named:Tryz.pinned.checked.prog.funcNamed Rows.planChecksRow.func=some 3:=by kernel_rfl
theorem inst:Tryz.f3.isInstance Tryz.pinned.checked.prog Rows.planChecksRow.origin Rows.planChecksRow.targs:=of_decide_eq_true (by kernel_rfl)
theorem wrap:Tryz.f3.isWrapper Tryz.pinned.checked.prog Rows.planChecksRow.wrapper Rows.planChecksRow.mainSum:=by unfold Func.isWrapper;first|(rw[if_pos (by decide +kernel)];kernel_rfl)|(rw[if_neg (by decide +kernel)];exact⟨rfl,rfl⟩)
theorem over:Rows.planChecksRow.holds Tryz.pinned (OpenSpec.ofChange Rows.planChecksSpec):=
 OpenClaim.holds_of_wide 3 Tryz.f3 rfl rfl rfl rfl rfl rfl rfl ⟨rfl,rfl,rfl,rfl,rfl⟩ rfl rfl rfl rfl rfl named Tryz.func3 closed inst wrap
  (fun os started H enc _=>lifted os started H enc)
theorem proved:Rows.PlanChecksSaid:=over
end Go.Proofs.YtopkalcefepilaaGreat.planChecks
