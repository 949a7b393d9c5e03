/- Proved: for every input, a call of the Go function headendtop.TopPlanned returns true, and its arguments read afterwards as before (the given statement Rows.TopPlannedSaid). Conditions: none but those of the given row itself. -/
import Derived.Test.YtplcaaglieefgaaGreatZc
import Derived.Test.YtplcaaglieefgaaGreatZd
import Derived.Test.YtplcaaglieefgaaGreatTp
import Derived.Test.YtplcaaglieefgaaGreatZh
set_option linter.unusedVariables false
set_option linter.unusedSimpArgs false
set_option maxRecDepth 100000
set_option linter.unusedVariables false
set_option linter.unusedSimpArgs false
set_option maxRecDepth 100000
namespace Go.Proofs.YtplcaaglieefgaaGreat.topPlanned
open Go Go.RowKit Go.Sx Go.ChangeShapes Go.WideShapes Go.ChangeAt
theorem own:ownKnob Tryz.prog.godebug=none:=by kernel_rfl
theorem laidOut:laidOutB Tryz.prog=true:=by kernel_rfl
theorem walk {H:Type}{enc:TypeId × Value→H}(W:World)(base:Nat)(v0 v1 v2 v3 v4 v5:Value)(d0:DataW H)(p0:List MemPlace)(k0:Value.okWide Tryz.prog W .any base 26 v0)(h0:DataW.Trod enc Tryz.prog W 0 (fun _=>true) true 26 v0 d0 p0)(s0:Sz Tryz.prog 26 d0)(d1:DataW H)(p1:List MemPlace)(k1:Value.okWide Tryz.prog W .any base 34 v1)(h1:DataW.Trod enc Tryz.prog W 0 (fun _=>true) true 34 v1 d1 p1)(s1:Sz Tryz.prog 34 d1)(d2:DataW H)(p2:List MemPlace)(k2:Value.okWide Tryz.prog W .any base 36 v2)(h2:DataW.Trod enc Tryz.prog W 0 (fun _=>true) true 36 v2 d2 p2)(s2:Sz Tryz.prog 36 d2)(d3:DataW H)(p3:List MemPlace)(k3:Value.okWide Tryz.prog W .any base 3 v3)(h3:DataW.Trod enc Tryz.prog W 0 (fun _=>true) true 3 v3 d3 p3)(s3:Sz Tryz.prog 3 d3)(d4:DataW H)(p4:List MemPlace)(k4:Value.okWide Tryz.prog W .any base 3 v4)(h4:DataW.Trod enc Tryz.prog W 0 (fun _=>true) true 3 v4 d4 p4)(s4:Sz Tryz.prog 3 d4)(d5:DataW H)(p5:List MemPlace)(k5:Value.okWide Tryz.prog W .any base 3 v5)(h5:DataW.Trod enc Tryz.prog W 0 (fun _=>true) true 3 v5 d5 p5)(s5:Sz Tryz.prog 3 d5):
 Calls Tryz.prog 3 #[v0,v1,v2,v3,v4,v5] W fun e w'=>e=.returned (.bool true)∧Below W.heap.size W w':=by
 obtain⟨cs0,rfl⟩:=Ch (.inl ⟨_,Tryz.underlying26⟩) k0;obtain⟨fu0,f0⟩:=h0;rw[Lm] at f0;obtain⟨m0,rfl,ok0⟩:=Qsg f0;obtain⟨cs1,rfl⟩:=Ch (.inl ⟨_,Tryz.underlying34⟩) k1;obtain⟨fu1,f1⟩:=h1;rw[Lm] at f1;obtain⟨m1,v1_0,z1_0,g1_0,o1_0,v1_1,z1_1,g1_1,o1_1,v1_2,z1_2,g1_2,o1_2,v1_3,z1_3,g1_3,o1_3,v1_4,z1_4,g1_4,o1_4,rfl,R1_0,R1_1,R1_2,R1_3,R1_4,ok1⟩:=Qsb f1 s1;obtain⟨cs2,rfl⟩:=Ch (.inr ⟨_,_,Tryz.underlying36⟩) k2;obtain⟨fu2,f2⟩:=h2;rw[Lm] at f2;obtain⟨m2,rfl⟩:=Qsk Tryz.underlying36 Tryz.underlying5 (by kernel_rfl) (by kernel_rfl) f2;obtain⟨m3,rfl,ok3⟩:=Ci Tryz.underlying3 k3;obtain⟨m4,rfl,ok4⟩:=Ci Tryz.underlying3 k4;obtain⟨m5,rfl,ok5⟩:=Ci Tryz.underlying3 k5;have hl:=Qp7 m0 m1 m2 m3 m4 m5 ok0 ok1 ok3 ok4 ok5;exact(@Mx.Qp8 m0 m1 m2 m3 m4 m5 _ _ _ _ _ _ _ _ _ _ _ _ _ _ _ _ _ _ _ _ true hl W R1_0 R1_1 R1_2 R1_3 R1_4).mono fun e w' ⟨v,he,hv,hg⟩=>⟨by rw[he,hv],hg⟩
theorem lifted (os:Os)(started:os.Started)(H:Type)(enc:TypeId × Value→H):
 ReturnsInHanded {} Tryz.checked os 3 .any (Rows.topPlannedSpec.pre6 enc Tryz.prog Tryz.f3 Rows.topPlannedRow.domain false) (Rows.topPlannedSpec.post enc Tryz.prog Tryz.f3 false true false false):=by
 refine returnsInHanded_of_change_sized (C:=Tryz.checked) own started (by kernel_rfl) Tryz.func3
  (ChangeSpec.witness6 (enc:=enc) (C:=Tryz.checked) false ⟨#[],#[.agg #[.int .i64 0,.int .i64 0,.int .i64 0,.int .i64 0,.int .i64 0,.int .i64 0,.int .u64 0,.int .u64 0,.int .u64 0],.agg #[.slice none 0 0,.slice none 0 0,.slice none 0 0,.slice none 0 0,.slice none 0 0,.int .i64 0,.int .i64 0,.int .i64 0,.int .i64 0,.int .i64 0,.int .i64 0,.int .i64 0,.int .i64 0,.int .i64 0,.int .i64 0,.int .i64 0,.int .i64 0,.int .i64 0,.int .i64 0,.int .i64 0,.int .i64 0],.agg #[.int .u8 0,.int .u8 0,.int .u8 0,.int .u8 0,.int .u8 0,.int .u8 0,.int .u8 0,.int .u8 0,.int .u8 0,.int .u8 0,.int .u8 0,.int .u8 0,.int .u8 0,.int .u8 0,.int .u8 0,.int .u8 0],.int .i64 0,.int .i64 0,.int .i64 0],[]⟩ 8 (by kernel_rfl) (by kernel_rfl) (by kernel_rfl) (by kernel_rfl)) ?_
 intro W base args ds gs before hval0 hW hcnd hsz _;have hval:∀ (j:Nat) t v,Tryz.f3.params[j]? = some t→args[j]? = some v→Value.okWide Tryz.prog W .any base t v:=hval0;have hW':=hW;obtain⟨p,q,hA0,hV,rfl,hfz,hnd⟩:=hW;have hA:DataW.TrodAll enc Tryz.prog W 0 (fun _=>true) true Tryz.f3.params.toList args.toList ds p:=hA0;rw[Tryz.params3] at hA hval;obtain⟨v0,vs0,d0,ds0,p0,q0,hargs,rfl,rfl,h0,r0⟩:=trodAll_cons hA;obtain⟨v1,vs1,d1,ds1,p1,q1,rfl,rfl,rfl,h1,r1⟩:=trodAll_cons r0;obtain⟨v2,vs2,d2,ds2,p2,q2,rfl,rfl,rfl,h2,r2⟩:=trodAll_cons r1;obtain⟨v3,vs3,d3,ds3,p3,q3,rfl,rfl,rfl,h3,r3⟩:=trodAll_cons r2;obtain⟨v4,vs4,d4,ds4,p4,q4,rfl,rfl,rfl,h4,r4⟩:=trodAll_cons r3;obtain⟨v5,vs5,d5,ds5,p5,q5,rfl,rfl,rfl,h5,r5⟩:=trodAll_cons r4;obtain⟨rfl,rfl,rfl⟩:=trodAll_nil r5;obtain rfl:args = #[v0,v1,v2,v3,v4,v5]:=by cases args;simp_all
 obtain⟨rfl,rfl⟩:=trodVars_none hV;have lt0:∀ x∈p0,x.block<W.heap.size:=by obtain⟨m,hm⟩:=h0;exact DataW.trod_lt m _ _ _ hm
 have s0:Sz Tryz.prog 26 d0:=fun n hn=>by simpa using List.all_eq_true.1 hsz n (DataW.weights_mem_each (j:=0) rfl rfl n hn)
 have lt1:∀ x∈p1,x.block<W.heap.size:=by obtain⟨m,hm⟩:=h1;exact DataW.trod_lt m _ _ _ hm
 have s1:Sz Tryz.prog 34 d1:=fun n hn=>by simpa using List.all_eq_true.1 hsz n (DataW.weights_mem_each (j:=1) rfl rfl n hn)
 have lt2:∀ x∈p2,x.block<W.heap.size:=by obtain⟨m,hm⟩:=h2;exact DataW.trod_lt m _ _ _ hm
 have s2:Sz Tryz.prog 36 d2:=fun n hn=>by simpa using List.all_eq_true.1 hsz n (DataW.weights_mem_each (j:=2) rfl rfl n hn)
 have lt3:∀ x∈p3,x.block<W.heap.size:=by obtain⟨m,hm⟩:=h3;exact DataW.trod_lt m _ _ _ hm
 have s3:Sz Tryz.prog 3 d3:=fun n hn=>by simpa using List.all_eq_true.1 hsz n (DataW.weights_mem_each (j:=3) rfl rfl n hn)
 have lt4:∀ x∈p4,x.block<W.heap.size:=by obtain⟨m,hm⟩:=h4;exact DataW.trod_lt m _ _ _ hm
 have s4:Sz Tryz.prog 3 d4:=fun n hn=>by simpa using List.all_eq_true.1 hsz n (DataW.weights_mem_each (j:=4) rfl rfl n hn)
 have lt5:∀ x∈p5,x.block<W.heap.size:=by obtain⟨m,hm⟩:=h5;exact DataW.trod_lt m _ _ _ hm
 have s5:Sz Tryz.prog 3 d5:=fun n hn=>by simpa using List.all_eq_true.1 hsz n (DataW.weights_mem_each (j:=5) rfl rfl n hn)
 clear hA0 hval0;refine(walk (enc:=enc) W base v0 v1 v2 v3 v4 v5 d0 p0 (hval 0 26 v0 rfl rfl) h0 s0 d1 p1 (hval 1 34 v1 rfl rfl) h1 s1 d2 p2 (hval 2 36 v2 rfl rfl) h2 s2 d3 p3 (hval 3 3 v3 rfl rfl) h3 s3 d4 p4 (hval 4 3 v4 rfl rfl) h4 s4 d5 p5 (hval 5 3 v5 rfl rfl) h5 s5).mono fun e W' ⟨he,bel⟩=>?_;subst he;exact⟨_,rfl,_,_,_,[],_,[],hW',trodAll_mk1 (shut_bool Tryz.underlying4 _),(trodAll_cons_mk (Below.trod laidOut (by kernel_rfl) (of_decide_eq_true (by kernel_rfl)) h0 bel lt0) (trodAll_cons_mk (Below.trod laidOut (by kernel_rfl) (of_decide_eq_true (by kernel_rfl)) h1 bel lt1) (trodAll_cons_mk (Below.trod laidOut (by kernel_rfl) (of_decide_eq_true (by kernel_rfl)) h2 bel lt2) (trodAll_cons_mk (Below.trod laidOut (by kernel_rfl) (of_decide_eq_true (by kernel_rfl)) h3 bel lt3) (trodAll_cons_mk (Below.trod laidOut (by kernel_rfl) (of_decide_eq_true (by kernel_rfl)) h4 bel lt4) (trodAll_cons_mk (Below.trod laidOut (by kernel_rfl) (of_decide_eq_true (by kernel_rfl)) h5 bel lt5) trodAll_mk0)))))),rfl,bel.frame _,fun h=>by cases h⟩
theorem k1:(Rows.topPlannedRow.wf (OpenSpec.ofChange Rows.topPlannedSpec))=true:=by kernel_rfl
theorem k2:(laidOutB Tryz.pinned.checked.prog)=true:=by kernel_rfl
theorem k3:(mapsRowed Tryz.pinned.checked.prog)=true:=by kernel_rfl
theorem k4:(Tryz.f3.params.all (Tryz.pinned.checked.prog.readableRec ·))=true:=by kernel_rfl
theorem k5:(namedTie Tryz.pinned.checked.prog Rows.topPlannedRow.named Rows.topPlannedSpec.vars)=true:=by kernel_rfl
theorem k6:((Rows.topPlannedRow.stops == []))=true:=by kernel_rfl
theorem k7:((Tryz.pinned.checked.prog.stops == []))=true:=by kernel_rfl
theorem k8:((Rows.topPlannedRow.knobs == []))=true:=by kernel_rfl
theorem k9:((Tryz.pinned.checked.prog.stopKnobs == []))=true:=by kernel_rfl
theorem k10:((Rows.topPlannedRow.inPlace == Tryz.pinned.checked.prog.inPlace 3))=true:=by kernel_rfl
theorem k11:((Rows.topPlannedRow.unfollowed == Tryz.pinned.checked.prog.unfollowed 3))=true:=by kernel_rfl
theorem k12:((Rows.topPlannedRow.recurses == Tryz.pinned.checked.prog.recurses 3))=true:=by kernel_rfl
theorem k13:((Rows.topPlannedRow.named == Tryz.pinned.checked.prog.varsNamed 3))=true:=by kernel_rfl
theorem k14:((Rows.topPlannedRow.maps == (Tryz.f3.params.toList++Rows.topPlannedSpec.plain.varTypes Tryz.pinned.checked.prog).any (Tryz.pinned.checked.prog.mapsRec ·)))=true:=by kernel_rfl
theorem k15:((Rows.topPlannedRow.ifaces == (Tryz.f3.params.toList++Rows.topPlannedSpec.plain.varTypes Tryz.pinned.checked.prog).any (Tryz.pinned.checked.prog.ifacesRec ·)))=true:=by kernel_rfl
theorem k16:((Rows.topPlannedRow.mapsOut == Tryz.pinned.checked.prog.mapsAmong Tryz.f3.resultTypes.toList))=true:=by kernel_rfl
theorem k17:((Rows.topPlannedRow.loops == (Tryz.f3.params.toList++Rows.topPlannedSpec.plain.varTypes Tryz.pinned.checked.prog).any (Tryz.pinned.checked.prog.loopsFrom ·)))=true:=by kernel_rfl
theorem k18:((Rows.topPlannedRow.wideKeys == (Tryz.f3.params.toList++Rows.topPlannedSpec.plain.varTypes Tryz.pinned.checked.prog++Tryz.f3.resultTypes.toList).any (Tryz.pinned.checked.prog.wideKeysFrom ·)))=true:=by kernel_rfl
theorem k19:(Rows.topPlannedSpec.vars.all (Tryz.pinned.checked.prog.varReadable ·))=true:=by kernel_rfl
theorem k20:(Tryz.f3.resultTypes.all (fun t=>Tryz.pinned.checked.prog.readableRec t&&decide (t<Tryz.pinned.checked.prog.types.size)))=true:=by kernel_rfl
theorem k21:((Rows.topPlannedRow.ifacesOut == Tryz.f3.resultTypes.toList.any (Tryz.pinned.checked.prog.ifacesRec ·)))=true:=by kernel_rfl
theorem k22:((Rows.topPlannedRow.loopsOut == Tryz.f3.resultTypes.toList.any (Tryz.pinned.checked.prog.loopsFrom ·)))=true:=by kernel_rfl
theorem k23:((Rows.topPlannedRow.plainKeys == Tryz.pinned.checked.prog.plainKeys))=true:=by kernel_rfl
theorem k24:(Rows.topPlannedRow.shortTexts.isNone)=true:=by kernel_rfl
theorem k25:(Tryz.pinned.checked.prog.stopsHeard)=true:=by kernel_rfl
theorem k26:(Tryz.pinned.checked.prog.mayEnter)=true:=by kernel_rfl
theorem k27:((Rows.topPlannedRow.lifted == Tryz.pinned.checked.prog.liftsFinal))=true:=by kernel_rfl
theorem k28:((Tryz.pinned.checked.prog.make == some Rows.topPlannedRow.make))=true:=by kernel_rfl
theorem k30:((Rows.topPlannedRow.pinned == Rows.topPlannedRow.pinnedBy))=true:=by kernel_rfl
theorem k31:((Rows.topPlannedRow.veiled == (Tryz.f3.params.toList++Rows.topPlannedSpec.plain.varTypes Tryz.pinned.checked.prog++Tryz.f3.resultTypes.toList).any (Tryz.pinned.checked.prog.veiledRec ·)))=true:=by kernel_rfl
theorem k32:(Rows.topPlannedRow.veiledFits Tryz.pinned.checked.prog Tryz.f3.params.toList (Tryz.f3.params.toList++Rows.topPlannedSpec.plain.varTypes Tryz.pinned.checked.prog++Tryz.f3.resultTypes.toList))=true:=by kernel_rfl
theorem closed:joinedFacts Tryz.pinned.checked.prog 3 Tryz.f3 Rows.topPlannedSpec Rows.topPlannedRow=true:=by unfold joinedFacts;exact gH (gH (gH (gH (gH (gH (gH (gH (gH (gH (gH (gH (gH (gH (gH (gH (gH (gH (gH (gH (gH (gH (gH (gH (gH (gH (gH (gH (gH (gH (gH (k1) k2) k3) k4) k5) k6) k7) k8) k9) k10) k11) k12) k13) k14) k15) k16) k17) k18) k19) k20) k21) k22) k23) k24) k25) k26) k27) k28) (by kernel_rfl)) k30) k31) k32
theorem named:Tryz.pinned.checked.prog.funcNamed Rows.topPlannedRow.func=some 3:=by kernel_rfl
theorem inst:Tryz.f3.isInstance Tryz.pinned.checked.prog Rows.topPlannedRow.origin Rows.topPlannedRow.targs:=of_decide_eq_true (by kernel_rfl)
theorem wrap:Tryz.f3.isWrapper Tryz.pinned.checked.prog Rows.topPlannedRow.wrapper Rows.topPlannedRow.mainSum:=by unfold Func.isWrapper;first|(rw[if_pos (by decide +kernel)];kernel_rfl)|(rw[if_neg (by decide +kernel)];exact⟨rfl,rfl⟩)
theorem over:Rows.topPlannedRow.holds Tryz.pinned (OpenSpec.ofChange Rows.topPlannedSpec):=
 OpenClaim.holds_of_wide 3 Tryz.f3 rfl rfl rfl rfl rfl rfl rfl ⟨rfl,rfl,rfl,rfl,rfl⟩ rfl rfl rfl rfl rfl named Tryz.func3 closed inst wrap
  (fun os started H enc _=>lifted os started H enc)
theorem proved:Rows.TopPlannedSaid:=over
end Go.Proofs.YtplcaaglieefgaaGreat.topPlanned
