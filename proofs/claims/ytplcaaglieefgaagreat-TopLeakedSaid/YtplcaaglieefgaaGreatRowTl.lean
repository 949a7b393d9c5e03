/- Proved: for every input, a call of the Go function headendtop.TopLeaked returns true, and its arguments read afterwards as before (the given statement Rows.TopLeakedSaid). Conditions: none but those of the given row itself. -/
import Derived.Test.YtplcaaglieefgaaGreatZc
import Derived.Test.YtplcaaglieefgaaGreatZe
import Derived.Test.YtplcaaglieefgaaGreatTl
import Derived.Test.YtplcaaglieefgaaGreatZh
set_option linter.unusedVariables false
set_option linter.unusedSimpArgs false
set_option maxRecDepth 100000
set_option linter.unusedVariables false
set_option linter.unusedSimpArgs false
set_option maxRecDepth 100000
namespace Go.Proofs.YtplcaaglieefgaaGreat.topLeaked
open Go Go.RowKit Go.Sx Go.ChangeShapes Go.WideShapes Go.ChangeAt
theorem own:ownKnob Tryz.prog.godebug=none:=by kernel_rfl
theorem laidOut:laidOutB Tryz.prog=true:=by kernel_rfl
theorem walk {H:Type}{enc:TypeId × Value→H}(W:World)(base:Nat)(v0 v1 v2 v3 v4 v5 v6 v7:Value)(d0:DataW H)(p0:List MemPlace)(k0:Value.okWide Tryz.prog W .any base 81 v0)(h0:DataW.Trod enc Tryz.prog W 0 (fun _=>true) true 81 v0 d0 p0)(s0:Sz Tryz.prog 81 d0)(d1:DataW H)(p1:List MemPlace)(k1:Value.okWide Tryz.prog W .any base 54 v1)(h1:DataW.Trod enc Tryz.prog W 0 (fun _=>true) true 54 v1 d1 p1)(s1:Sz Tryz.prog 54 d1)(d2:DataW H)(p2:List MemPlace)(k2:Value.okWide Tryz.prog W .any base 34 v2)(h2:DataW.Trod enc Tryz.prog W 0 (fun _=>true) true 34 v2 d2 p2)(s2:Sz Tryz.prog 34 d2)(d3:DataW H)(p3:List MemPlace)(k3:Value.okWide Tryz.prog W .any base 36 v3)(h3:DataW.Trod enc Tryz.prog W 0 (fun _=>true) true 36 v3 d3 p3)(s3:Sz Tryz.prog 36 d3)(d4:DataW H)(p4:List MemPlace)(k4:Value.okWide Tryz.prog W .any base 49 v4)(h4:DataW.Trod enc Tryz.prog W 0 (fun _=>true) true 49 v4 d4 p4)(s4:Sz Tryz.prog 49 d4)(d5:DataW H)(p5:List MemPlace)(k5:Value.okWide Tryz.prog W .any base 3 v5)(h5:DataW.Trod enc Tryz.prog W 0 (fun _=>true) true 3 v5 d5 p5)(s5:Sz Tryz.prog 3 d5)(d6:DataW H)(p6:List MemPlace)(k6:Value.okWide Tryz.prog W .any base 3 v6)(h6:DataW.Trod enc Tryz.prog W 0 (fun _=>true) true 3 v6 d6 p6)(s6:Sz Tryz.prog 3 d6)(d7:DataW H)(p7:List MemPlace)(k7:Value.okWide Tryz.prog W .any base 3 v7)(h7:DataW.Trod enc Tryz.prog W 0 (fun _=>true) true 3 v7 d7 p7)(s7:Sz Tryz.prog 3 d7):
 Calls Tryz.prog 4 #[v0,v1,v2,v3,v4,v5,v6,v7] W fun e w'=>e=.returned (.bool true)∧Below W.heap.size W w':=by
 obtain⟨cs0,rfl⟩:=Mv (.inl ⟨_,Tryz.underlying81⟩) k0;obtain⟨fu0,f0⟩:=h0;rw[Fs] at f0;obtain⟨m0,v0_0,z0_0,g0_0,o0_0,v0_1,z0_1,g0_1,o0_1,rfl,R0_0,R0_1,ok0⟩:=Xcw f0 s0;obtain⟨a1,b1,c1,rfl⟩:=okWide_slice Tryz.underlying54 k1;obtain⟨fu1,f1⟩:=h1;rw[Qth] at f1;obtain⟨m1,v1_,z1_,g1_,o1_,hc1,R1,ka1,la1⟩:=Q8 (c:=lD) (ok:=fun a=>True) (sz:=1) (bytes:=1) Tryz.underlying54 (by kernel_rfl) (by kernel_rfl) (by decide) (fun _=>⟨rfl,rfl⟩) (fun _ _ _ h=>(let ⟨n,c⟩:=S3 Tryz.underlying5 h;⟨n,c,trivial⟩)) f1 s1;rw[(List.cons.inj hc1).1];obtain⟨cs2,rfl⟩:=Mv (.inl ⟨_,Tryz.underlying34⟩) k2;obtain⟨fu2,f2⟩:=h2;rw[Fs] at f2;obtain⟨m2,v2_0,z2_0,g2_0,o2_0,v2_1,z2_1,g2_1,o2_1,v2_2,z2_2,g2_2,o2_2,v2_3,z2_3,g2_3,o2_3,v2_4,z2_4,g2_4,o2_4,rfl,R2_0,R2_1,R2_2,R2_3,R2_4,ok2⟩:=Xcn f2 s2;obtain⟨cs3,rfl⟩:=Mv (.inr ⟨_,_,Tryz.underlying36⟩) k3;obtain⟨fu3,f3⟩:=h3;rw[Fs] at f3;obtain⟨m3,rfl⟩:=Qnw Tryz.underlying36 Tryz.underlying5 (by kernel_rfl) (by kernel_rfl) f3;obtain⟨cs4,rfl⟩:=Mv (.inl ⟨_,Tryz.underlying49⟩) k4;obtain⟨fu4,f4⟩:=h4;rw[Fs] at f4;obtain⟨m4,rfl,ok4⟩:=Xcv f4;obtain⟨m5,rfl,ok5⟩:=Qex Tryz.underlying3 k5;obtain⟨m6,rfl,ok6⟩:=Qex Tryz.underlying3 k6;obtain⟨m7,rfl,ok7⟩:=Qex Tryz.underlying3 k7;have hl:=Qzs m0 m1 m2 m3 m4 m5 m6 m7 ok0 la1 ok2 ok4 ok5 ok6 ok7;exact(@Mx.Qzt m0 m1 m2 m3 m4 m5 m6 m7 _ _ _ _ _ _ _ _ _ _ _ _ _ _ _ _ _ _ _ _ _ _ _ _ _ _ _ _ _ _ _ _ true hl W R0_0 R0_1 R1 R2_0 R2_1 R2_2 R2_3 R2_4).mono fun e w' ⟨v,he,hv,hg⟩=>⟨by rw[he,hv],hg⟩
theorem lifted (os:Os)(started:os.Started)(H:Type)(enc:TypeId × Value→H):
 ReturnsInHanded {} Tryz.checked os 4 .any (Rows.topLeakedSpec.pre6 enc Tryz.prog Tryz.f4 Rows.topLeakedRow.domain false) (Rows.topLeakedSpec.post enc Tryz.prog Tryz.f4 false true false false):=by
 refine returnsInHanded_of_change_sized (C:=Tryz.checked) own started (by kernel_rfl) Tryz.func4
  (ChangeSpec.witness6 (enc:=enc) (C:=Tryz.checked) false ⟨#[],#[.agg #[.int .i64 0,.int .i64 0,.int .u8 0,.int .u8 0,.int .u8 0,.int .u8 0,.int .u8 0,.int .u8 0,.int .u8 0,.int .u8 0,.int .u8 0,.int .u8 0,.int .u8 0,.int .u8 0,.int .u8 0,.int .u8 0,.int .u8 0,.int .u8 0,.slice none 0 0,.slice none 0 0],.slice none 0 0,.agg #[.slice none 0 0,.slice none 0 0,.slice none 0 0,.slice none 0 0,.slice none 0 0,.int .i64 0,.int .i64 0,.int .i64 0,.int .i64 0,.int .i64 0,.int .i64 0,.int .i64 0,.int .i64 0,.int .i64 0,.int .i64 0,.int .i64 0,.int .i64 0,.int .i64 0,.int .i64 0,.int .i64 0,.int .i64 0],.agg #[.int .u8 0,.int .u8 0,.int .u8 0,.int .u8 0,.int .u8 0,.int .u8 0,.int .u8 0,.int .u8 0,.int .u8 0,.int .u8 0,.int .u8 0,.int .u8 0,.int .u8 0,.int .u8 0,.int .u8 0,.int .u8 0],.agg #[.int .u8 0,.int .i64 0,.int .i64 0,.int .u64 0,.int .u64 0,.int .u64 0],.int .i64 0,.int .i64 0,.int .i64 0],[]⟩ 8 (by kernel_rfl) (by kernel_rfl) (by kernel_rfl) (by kernel_rfl)) ?_
 intro W base args ds gs before hval0 hW hcnd hsz _;have hval:∀ (j:Nat) t v,Tryz.f4.params[j]? = some t→args[j]? = some v→Value.okWide Tryz.prog W .any base t v:=hval0;have hW':=hW;obtain⟨p,q,hA0,hV,rfl,hfz,hnd⟩:=hW;have hA:DataW.TrodAll enc Tryz.prog W 0 (fun _=>true) true Tryz.f4.params.toList args.toList ds p:=hA0;rw[Tryz.params4] at hA hval;obtain⟨v0,vs0,d0,ds0,p0,q0,hargs,rfl,rfl,h0,r0⟩:=trodAll_cons hA;obtain⟨v1,vs1,d1,ds1,p1,q1,rfl,rfl,rfl,h1,r1⟩:=trodAll_cons r0;obtain⟨v2,vs2,d2,ds2,p2,q2,rfl,rfl,rfl,h2,r2⟩:=trodAll_cons r1;obtain⟨v3,vs3,d3,ds3,p3,q3,rfl,rfl,rfl,h3,r3⟩:=trodAll_cons r2;obtain⟨v4,vs4,d4,ds4,p4,q4,rfl,rfl,rfl,h4,r4⟩:=trodAll_cons r3;obtain⟨v5,vs5,d5,ds5,p5,q5,rfl,rfl,rfl,h5,r5⟩:=trodAll_cons r4;obtain⟨v6,vs6,d6,ds6,p6,q6,rfl,rfl,rfl,h6,r6⟩:=trodAll_cons r5;obtain⟨v7,vs7,d7,ds7,p7,q7,rfl,rfl,rfl,h7,r7⟩:=trodAll_cons r6;obtain⟨rfl,rfl,rfl⟩:=trodAll_nil r7;obtain rfl:args = #[v0,v1,v2,v3,v4,v5,v6,v7]:=by cases args;simp_all
 obtain⟨rfl,rfl⟩:=trodVars_none hV;have lt0:∀ x∈p0,x.block<W.heap.size:=by obtain⟨m,hm⟩:=h0;exact DataW.trod_lt m _ _ _ hm
 have s0:Sz Tryz.prog 81 d0:=fun n hn=>by simpa using List.all_eq_true.1 hsz n (DataW.weights_mem_each (j:=0) rfl rfl n hn)
 have lt1:∀ x∈p1,x.block<W.heap.size:=by obtain⟨m,hm⟩:=h1;exact DataW.trod_lt m _ _ _ hm
 have s1:Sz Tryz.prog 54 d1:=fun n hn=>by simpa using List.all_eq_true.1 hsz n (DataW.weights_mem_each (j:=1) rfl rfl n hn)
 have lt2:∀ x∈p2,x.block<W.heap.size:=by obtain⟨m,hm⟩:=h2;exact DataW.trod_lt m _ _ _ hm
 have s2:Sz Tryz.prog 34 d2:=fun n hn=>by simpa using List.all_eq_true.1 hsz n (DataW.weights_mem_each (j:=2) rfl rfl n hn)
 have lt3:∀ x∈p3,x.block<W.heap.size:=by obtain⟨m,hm⟩:=h3;exact DataW.trod_lt m _ _ _ hm
 have s3:Sz Tryz.prog 36 d3:=fun n hn=>by simpa using List.all_eq_true.1 hsz n (DataW.weights_mem_each (j:=3) rfl rfl n hn)
 have lt4:∀ x∈p4,x.block<W.heap.size:=by obtain⟨m,hm⟩:=h4;exact DataW.trod_lt m _ _ _ hm
 have s4:Sz Tryz.prog 49 d4:=fun n hn=>by simpa using List.all_eq_true.1 hsz n (DataW.weights_mem_each (j:=4) rfl rfl n hn)
 have lt5:∀ x∈p5,x.block<W.heap.size:=by obtain⟨m,hm⟩:=h5;exact DataW.trod_lt m _ _ _ hm
 have s5:Sz Tryz.prog 3 d5:=fun n hn=>by simpa using List.all_eq_true.1 hsz n (DataW.weights_mem_each (j:=5) rfl rfl n hn)
 have lt6:∀ x∈p6,x.block<W.heap.size:=by obtain⟨m,hm⟩:=h6;exact DataW.trod_lt m _ _ _ hm
 have s6:Sz Tryz.prog 3 d6:=fun n hn=>by simpa using List.all_eq_true.1 hsz n (DataW.weights_mem_each (j:=6) rfl rfl n hn)
 have lt7:∀ x∈p7,x.block<W.heap.size:=by obtain⟨m,hm⟩:=h7;exact DataW.trod_lt m _ _ _ hm
 have s7:Sz Tryz.prog 3 d7:=fun n hn=>by simpa using List.all_eq_true.1 hsz n (DataW.weights_mem_each (j:=7) rfl rfl n hn)
 clear hA0 hval0;refine(walk (enc:=enc) W base v0 v1 v2 v3 v4 v5 v6 v7 d0 p0 (hval 0 81 v0 rfl rfl) h0 s0 d1 p1 (hval 1 54 v1 rfl rfl) h1 s1 d2 p2 (hval 2 34 v2 rfl rfl) h2 s2 d3 p3 (hval 3 36 v3 rfl rfl) h3 s3 d4 p4 (hval 4 49 v4 rfl rfl) h4 s4 d5 p5 (hval 5 3 v5 rfl rfl) h5 s5 d6 p6 (hval 6 3 v6 rfl rfl) h6 s6 d7 p7 (hval 7 3 v7 rfl rfl) h7 s7).mono fun e W' ⟨he,bel⟩=>?_;subst he;exact⟨_,rfl,_,_,_,[],_,[],hW',trodAll_mk1 (shut_bool Tryz.underlying4 _),(trodAll_cons_mk (Below.trod laidOut (by kernel_rfl) (of_decide_eq_true (by kernel_rfl)) h0 bel lt0) (trodAll_cons_mk (Below.trod laidOut (by kernel_rfl) (of_decide_eq_true (by kernel_rfl)) h1 bel lt1) (trodAll_cons_mk (Below.trod laidOut (by kernel_rfl) (of_decide_eq_true (by kernel_rfl)) h2 bel lt2) (trodAll_cons_mk (Below.trod laidOut (by kernel_rfl) (of_decide_eq_true (by kernel_rfl)) h3 bel lt3) (trodAll_cons_mk (Below.trod laidOut (by kernel_rfl) (of_decide_eq_true (by kernel_rfl)) h4 bel lt4) (trodAll_cons_mk (Below.trod laidOut (by kernel_rfl) (of_decide_eq_true (by kernel_rfl)) h5 bel lt5) (trodAll_cons_mk (Below.trod laidOut (by kernel_rfl) (of_decide_eq_true (by kernel_rfl)) h6 bel lt6) (trodAll_cons_mk (Below.trod laidOut (by kernel_rfl) (of_decide_eq_true (by kernel_rfl)) h7 bel lt7) trodAll_mk0)))))))),rfl,bel.frame _,fun h=>by cases h⟩
theorem k1:(Rows.topLeakedRow.wf (OpenSpec.ofChange Rows.topLeakedSpec))=true:=by kernel_rfl
theorem k2:(laidOutB Tryz.pinned.checked.prog)=true:=by kernel_rfl
theorem k3:(mapsRowed Tryz.pinned.checked.prog)=true:=by kernel_rfl
theorem k4:(Tryz.f4.params.all (Tryz.pinned.checked.prog.readableRec ·))=true:=by kernel_rfl
theorem k5:(namedTie Tryz.pinned.checked.prog Rows.topLeakedRow.named Rows.topLeakedSpec.vars)=true:=by kernel_rfl
theorem k6:((Rows.topLeakedRow.stops == []))=true:=by kernel_rfl
theorem k7:((Tryz.pinned.checked.prog.stops == []))=true:=by kernel_rfl
theorem k8:((Rows.topLeakedRow.knobs == []))=true:=by kernel_rfl
theorem k9:((Tryz.pinned.checked.prog.stopKnobs == []))=true:=by kernel_rfl
theorem k10:((Rows.topLeakedRow.inPlace == Tryz.pinned.checked.prog.inPlace 4))=true:=by kernel_rfl
theorem k11:((Rows.topLeakedRow.unfollowed == Tryz.pinned.checked.prog.unfollowed 4))=true:=by kernel_rfl
theorem k12:((Rows.topLeakedRow.recurses == Tryz.pinned.checked.prog.recurses 4))=true:=by kernel_rfl
theorem k13:((Rows.topLeakedRow.named == Tryz.pinned.checked.prog.varsNamed 4))=true:=by kernel_rfl
theorem k14:((Rows.topLeakedRow.maps == (Tryz.f4.params.toList++Rows.topLeakedSpec.plain.varTypes Tryz.pinned.checked.prog).any (Tryz.pinned.checked.prog.mapsRec ·)))=true:=by kernel_rfl
theorem k15:((Rows.topLeakedRow.ifaces == (Tryz.f4.params.toList++Rows.topLeakedSpec.plain.varTypes Tryz.pinned.checked.prog).any (Tryz.pinned.checked.prog.ifacesRec ·)))=true:=by kernel_rfl
theorem k16:((Rows.topLeakedRow.mapsOut == Tryz.pinned.checked.prog.mapsAmong Tryz.f4.resultTypes.toList))=true:=by kernel_rfl
theorem k17:((Rows.topLeakedRow.loops == (Tryz.f4.params.toList++Rows.topLeakedSpec.plain.varTypes Tryz.pinned.checked.prog).any (Tryz.pinned.checked.prog.loopsFrom ·)))=true:=by kernel_rfl
theorem k18:((Rows.topLeakedRow.wideKeys == (Tryz.f4.params.toList++Rows.topLeakedSpec.plain.varTypes Tryz.pinned.checked.prog++Tryz.f4.resultTypes.toList).any (Tryz.pinned.checked.prog.wideKeysFrom ·)))=true:=by kernel_rfl
theorem k19:(Rows.topLeakedSpec.vars.all (Tryz.pinned.checked.prog.varReadable ·))=true:=by kernel_rfl
theorem k20:(Tryz.f4.resultTypes.all (fun t=>Tryz.pinned.checked.prog.readableRec t&&decide (t<Tryz.pinned.checked.prog.types.size)))=true:=by kernel_rfl
theorem k21:((Rows.topLeakedRow.ifacesOut == Tryz.f4.resultTypes.toList.any (Tryz.pinned.checked.prog.ifacesRec ·)))=true:=by kernel_rfl
theorem k22:((Rows.topLeakedRow.loopsOut == Tryz.f4.resultTypes.toList.any (Tryz.pinned.checked.prog.loopsFrom ·)))=true:=by kernel_rfl
theorem k23:((Rows.topLeakedRow.plainKeys == Tryz.pinned.checked.prog.plainKeys))=true:=by kernel_rfl
theorem k24:(Rows.topLeakedRow.shortTexts.isNone)=true:=by kernel_rfl
theorem k25:(Tryz.pinned.checked.prog.stopsHeard)=true:=by kernel_rfl
theorem k26:(Tryz.pinned.checked.prog.mayEnter)=true:=by kernel_rfl
theorem k27:((Rows.topLeakedRow.lifted == Tryz.pinned.checked.prog.liftsFinal))=true:=by kernel_rfl
theorem k28:((Tryz.pinned.checked.prog.make == some Rows.topLeakedRow.make))=true:=by kernel_rfl
theorem k30:((Rows.topLeakedRow.pinned == Rows.topLeakedRow.pinnedBy))=true:=by kernel_rfl
theorem k31:((Rows.topLeakedRow.veiled == (Tryz.f4.params.toList++Rows.topLeakedSpec.plain.varTypes Tryz.pinned.checked.prog++Tryz.f4.resultTypes.toList).any (Tryz.pinned.checked.prog.veiledRec ·)))=true:=by kernel_rfl
theorem k32:(Rows.topLeakedRow.veiledFits Tryz.pinned.checked.prog Tryz.f4.params.toList (Tryz.f4.params.toList++Rows.topLeakedSpec.plain.varTypes Tryz.pinned.checked.prog++Tryz.f4.resultTypes.toList))=true:=by kernel_rfl
theorem closed:joinedFacts Tryz.pinned.checked.prog 4 Tryz.f4 Rows.topLeakedSpec Rows.topLeakedRow=true:=by unfold joinedFacts;exact iL (iL (iL (iL (iL (iL (iL (iL (iL (iL (iL (iL (iL (iL (iL (iL (iL (iL (iL (iL (iL (iL (iL (iL (iL (iL (iL (iL (iL (iL (iL (k1) k2) k3) k4) k5) k6) k7) k8) k9) k10) k11) k12) k13) k14) k15) k16) k17) k18) k19) k20) k21) k22) k23) k24) k25) k26) k27) k28) (by kernel_rfl)) k30) k31) k32
theorem named:Tryz.pinned.checked.prog.funcNamed Rows.topLeakedRow.func=some 4:=by kernel_rfl
theorem inst:Tryz.f4.isInstance Tryz.pinned.checked.prog Rows.topLeakedRow.origin Rows.topLeakedRow.targs:=of_decide_eq_true (by kernel_rfl)
theorem wrap:Tryz.f4.isWrapper Tryz.pinned.checked.prog Rows.topLeakedRow.wrapper Rows.topLeakedRow.mainSum:=by unfold Func.isWrapper;first|(rw[if_pos (by decide +kernel)];kernel_rfl)|(rw[if_neg (by decide +kernel)];exact⟨rfl,rfl⟩)
theorem over:Rows.topLeakedRow.holds Tryz.pinned (OpenSpec.ofChange Rows.topLeakedSpec):=
 OpenClaim.holds_of_wide 4 Tryz.f4 rfl rfl rfl rfl rfl rfl rfl ⟨rfl,rfl,rfl,rfl,rfl⟩ rfl rfl rfl rfl rfl named Tryz.func4 closed inst wrap
  (fun os started H enc _=>lifted os started H enc)
theorem proved:Rows.TopLeakedSaid:=over
end Go.Proofs.YtplcaaglieefgaaGreat.topLeaked
