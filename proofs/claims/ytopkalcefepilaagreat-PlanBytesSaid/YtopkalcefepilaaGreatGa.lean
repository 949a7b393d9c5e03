/- Walks that follow mirrors: Ga. Printed by mx.py. -/
import Derived.Test.YtopkalcefepilaaGreatZc
import Derived.Test.YtopkalcefepilaaGreatZd
import Derived.Test.YtopkalcefepilaaGreatZe
import Derived.Test.YtopkalcefepilaaGreatChecked
set_option linter.unusedVariables false
set_option linter.unusedSimpArgs false
set_option maxRecDepth 100000
set_option maxHeartbeats 30000000
namespace Go.Proofs.YtopkalcefepilaaGreat.Mx
open Go Go.RowKit Go.Sx
theorem Zq:Ky Tryz.prog 44 6:=fun _=>⟨by kernel_rfl,by kernel_rfl⟩
theorem Sc:ZV Tryz.prog 120 (.agg [.int .u8 0,.int .i64 0,.int .i64 0].toArray):=fun _=>by kernel_rfl
theorem Ye:FA Tryz.prog 44 0 0:=fun _ _ _=>by kernel_rfl
theorem Zb:Ku Tryz.prog 5:=fun _=>⟨by kernel_rfl,by kernel_rfl⟩
theorem Wo:FA Tryz.prog 44 1 1:=fun _ _ _=>by kernel_rfl
theorem Qm:Ku Tryz.prog 3:=fun _=>⟨by kernel_rfl,by kernel_rfl⟩
theorem Ar:ZV Tryz.prog 44 (.agg [.int .u8 0,.int .i64 0,.int .i64 0,.int .u64 0,.int .u64 0,.int .u64 0].toArray):=fun _=>by kernel_rfl
theorem Ml:Ky Tryz.prog 24 3:=fun _=>⟨by kernel_rfl,by kernel_rfl⟩
theorem Qc5:BS Tryz.prog 44 (fun i=>[(0,1),(1,1),(2,1),(3,3)][i]?) [.int .u8 0,.int .i64 0,.int .i64 0,.int .u64 0,.int .u64 0,.int .u64 0]:=Dc Tryz.underlying44 Ar ⟨rfl,(Zb).siz,rfl,(Qm).siz,rfl,(Qm).siz,rfl,(Ml).siz,trivial⟩
theorem Zw:Ku Tryz.prog 22:=fun _=>⟨by kernel_rfl,by kernel_rfl⟩
theorem Qk9:Ps Tryz.prog 1 22 [.i .u64]:=Qka Tryz.underlying22 Zw
theorem Qzy:Ps Tryz.prog 2 24 [.i .u64,.i .u64,.i .u64]:=Qqf Tryz.underlying24 (by kernel_rfl) Ml (show Ax _ 1 _ _ _ from(Uq (ks1:=[.i .u64]) (ks2:=[.i .u64,.i .u64]) rfl (by simp) (Qk9.up (by decide)) (Uq (ks1:=[.i .u64]) (ks2:=[.i .u64]) rfl (by simp) (Qk9.up (by decide)) (Uq (ks1:=[.i .u64]) (ks2:=[]) rfl (by simp) (Qk9.up (by decide)) (Qqg _)))))
theorem Qqd:Ps Tryz.prog 1 3 [.i .i64]:=Qka Tryz.underlying3 Qm
theorem Qqe:Ps Tryz.prog 1 5 [.i .u8]:=Qka Tryz.underlying5 Zb
theorem Xa0:Ps Tryz.prog 3 44 [.i .u8,.i .i64,.i .i64,.i .u64,.i .u64,.i .u64]:=Qqf Tryz.underlying44 (by kernel_rfl) Zq (show Ax _ 2 _ _ _ from(Uq (ks1:=[.i .u8]) (ks2:=[.i .i64,.i .i64,.i .u64,.i .u64,.i .u64]) rfl (by simp) (Qqe.up (by decide)) (Uq (ks1:=[.i .i64]) (ks2:=[.i .i64,.i .u64,.i .u64,.i .u64]) rfl (by simp) (Qqd.up (by decide)) (Uq (ks1:=[.i .i64]) (ks2:=[.i .u64,.i .u64,.i .u64]) rfl (by simp) (Qqd.up (by decide)) (Uq (ks1:=[.i .u64,.i .u64,.i .u64]) (ks2:=[]) rfl (by simp) (Qzy.up (by decide)) (Qqg _))))))
theorem Xa3:Rq Tryz.prog 44 [.i .u8,.i .i64,.i .i64,.i .u64,.i .u64,.i .u64]:=⟨by kernel_rfl,Zq,3,by decide,Xa0⟩
theorem Qeh:BS Tryz.prog 120 (fun i=>[(0,1),(1,1),(2,1)][i]?) [.int .u8 0,.int .i64 0,.int .i64 0]:=Dc Tryz.underlying120 Sc ⟨rfl,(Zb).siz,rfl,(Qm).siz,rfl,(Qm).siz,trivial⟩
theorem Ki:Ky Tryz.prog 120 3:=fun _=>⟨by kernel_rfl,by kernel_rfl⟩
theorem Qcu:FA Tryz.prog 120 2 2:=fun _ _ _=>by kernel_rfl
theorem Qqn:FA Tryz.prog 120 1 1:=fun _ _ _=>by kernel_rfl
theorem Qq7:En Tryz.prog 95:=fun _ _=>by kernel_rfl
theorem Xib:ZV Tryz.prog 113 (.agg [.int .i64 0,.int .i64 0,.int .i64 0,.int .i64 0].toArray):=fun _=>by kernel_rfl
theorem Qw2:BA Tryz.prog 113 1 [.int .i64 0,.int .i64 0,.int .i64 0,.int .i64 0]:=⟨_,_,Tryz.underlying113,(Qm).siz,Xib⟩
theorem Qz5:En Tryz.prog 49:=fun _ _=>by kernel_rfl
theorem Xic:ZV Tryz.prog 116 (.agg [.int .u8 0,.int .i64 0,.int .i64 0,.int .u64 0,.int .u64 0,.int .u64 0,.int .i64 0,.slice none 0 0,.slice none 0 0,.slice none 0 0,.slice none 0 0,.int .i64 0].toArray):=fun _=>by kernel_rfl
theorem Qvt:Ky Tryz.prog 114 4:=fun _=>⟨by kernel_rfl,by kernel_rfl⟩
theorem Qwj:BS Tryz.prog 116 (fun i=>[(0,6),(6,1),(7,4),(11,1)][i]?) [.int .u8 0,.int .i64 0,.int .i64 0,.int .u64 0,.int .u64 0,.int .u64 0,.int .i64 0,.slice none 0 0,.slice none 0 0,.slice none 0 0,.slice none 0 0,.int .i64 0]:=Dc Tryz.underlying116 Xic ⟨rfl,(Zq).siz,rfl,(Qm).siz,rfl,(Qvt).siz,rfl,(Qm).siz,trivial⟩
theorem Qqm:FA Tryz.prog 116 3 11:=fun _ _ _=>by kernel_rfl
theorem Qkc:FA Tryz.prog 116 2 7:=fun _ _ _=>by kernel_rfl
theorem Qnw:Dt Tryz.prog 30 3 1 8:=Rs Tryz.underlying30 rfl (by kernel_rfl)
theorem Sd:ZV Tryz.prog 3 (.int .i64 0):=fun _=>by kernel_rfl
theorem Vr:Ku Tryz.prog 30:=fun _=>⟨by kernel_rfl,by kernel_rfl⟩
theorem Qf8:En Tryz.prog 50:=fun _ _=>by kernel_rfl
theorem Qq6:En Tryz.prog 91:=fun _ _=>by kernel_rfl
theorem Qco:En Tryz.prog 51:=fun _ _=>by kernel_rfl
theorem Qzk:En Tryz.prog 92:=fun _ _=>by kernel_rfl
theorem Qvr:ZV Tryz.prog 4 (.bool false):=fun _=>by kernel_rfl
theorem Ns:Ku Tryz.prog 4:=fun _=>⟨by kernel_rfl,by kernel_rfl⟩
theorem Qso:Ku Tryz.prog 104:=fun _=>⟨by kernel_rfl,by kernel_rfl⟩
theorem Xdk:Ku Tryz.prog 81:=fun _=>⟨by kernel_rfl,by kernel_rfl⟩
theorem Qad:FA Tryz.prog 116 0 0:=fun _ _ _=>by kernel_rfl
theorem Xaj:FA Tryz.prog 116 1 6:=fun _ _ _=>by kernel_rfl
theorem Qq3:En Tryz.prog 58:=fun _ _=>by kernel_rfl
theorem Qzm:En Tryz.prog 94:=fun _ _=>by kernel_rfl
theorem Qzl:En Tryz.prog 93:=fun _ _=>by kernel_rfl
theorem Qyl:En Tryz.prog 146:=fun _ _=>by kernel_rfl
theorem Qq2:En Tryz.prog 55:=fun _ _=>by kernel_rfl
theorem Qcp:En Tryz.prog 52:=fun _ _=>by kernel_rfl
theorem Qoz {p0 r}(hm:Ov p0=some r){w:World}:
 Calls Tryz.prog 95 [.agg (Qj.cs p0).toArray].toArray w fun e w'=>∃ v,e=.returned v∧(v=.tuple [.agg (Xj.cs r.1).toArray,.bool r.2].toArray∧Gr w w'):=by
 unfold Ov at hm
 refine Xi 51 Tryz.func95 rfl rfl rfl<|qs 3 rfl<|qe rfl (Xo (cs:=Qj.cs p0) rfl rfl) ?_
 rintro _ w1 ⟨b1,rfl,y,f,G1⟩
 have z1:=G1.size
 have E:=f.lt
 refine qe rfl (Xg (cs:=Xj.cs (Xj.mk 0#8 0 0)) Sc rfl) ?_
 rintro _ w2 ⟨b2,rfl,z,g,G2⟩
 have z3:=G2.size
 have F:=g.lt
 refine qm rfl<|Qa<|Qe ?_
 have X5:=(((Gr.refl w).trans G1).trans G2)
 refine qj (β:=Bool) (rg 5 27) (fun a1=>[(31,.bool a1)]) (fun a1 wr=>(Bb p0 a1=some r)∧Kz [] w2 wr) ?_ ?_
 · refine qg 27 rfl<|qv rfl (Qh Ye rfl) ?_
   have d:=(f.gr G2)
   refine qv rfl (Qi (v:=bv p0.Kind) Zb rfl d rfl)<|qv rfl (Qbp (p:=p0.Kind) (q:=1#8) rfl rfl)<|Ji hm rfl (Qt rfl) (fun c3 hm=>?_) (fun c3 hm=>?_)
   · refine qn 7 rfl ?_
     refine qn 7 rfl ?_
     refine qn 7 rfl ?_
     refine qn 2 rfl<|Qk ?_
     exact⟨rfl,true,Ql,hm,Xe⟩
   refine qv rfl (Qh Ye rfl)<|qv rfl (Qi (v:=bv p0.Kind) Zb rfl d rfl)<|qv rfl (Qv9 (p:=p0.Kind) (q:=3#8) rfl rfl)<|qm rfl<|Ji hm rfl (Qt rfl) (fun c4 hm=>?_) (fun c4 hm=>?_)
   · refine qn 7 rfl ?_
     refine qn 7 rfl ?_
     refine qn 4 rfl<|Qk ?_
     exact⟨rfl,true,Ql,hm,Xe⟩
   refine qv rfl (Qh Wo rfl)<|qv rfl (Qi (v:=.int .i64 p0.Depth) Qm rfl d rfl)<|qv rfl (Jv (a:=p0.Depth) (b:=0) rfl rfl)<|qm rfl<|Ji hm rfl (Qt rfl) (fun c5 hm=>?_) (fun c5 hm=>?_)
   · refine qn 7 rfl ?_
     refine qn 6 rfl<|Qk ?_
     exact⟨rfl,true,Ql,hm,Xe⟩
   refine qv rfl (Qh Wo rfl)<|qv rfl (Qi (v:=.int .i64 p0.Depth) Qm rfl d rfl)<|qv rfl (Wr (a:=p0.Depth) (b:=6) rfl rfl)<|qm rfl<|Ji hm rfl (Qt rfl) (fun c6 hm=>?_) (fun c6 hm=>?_)
   · refine qn 7 rfl ?_
     refine qm rfl<|Qk ?_
     exact⟨rfl,true,Ql,hm,Xe⟩
   refine qv rfl (Xa Zq rfl d rfl)<|qv rfl (Qh Ye rfl)<|qv rfl (Qi (v:=bv p0.Kind) Zb rfl d rfl)<|qv rfl (Qh Wo rfl)<|qv rfl (Qi (v:=.int .i64 p0.Depth) Qm rfl d rfl)<|qv rfl (Zk (cs:=Qj.cs (Qj.mk p0.Kind p0.Depth 0 (Jb.mk 0#64 0#64 0#64))) Qc5 rfl rfl)<|qv rfl (Xhp (cf:=Qj.cs) (a:=p0) (b:=(Qj.mk p0.Kind p0.Depth 0 (Jb.mk 0#64 0#64 0#64))) Xa3 rfl rfl rfl rfl (fun h=>Qj.cs_inj h)) ?_
   refine qm rfl<|Qk ?_
   exact⟨rfl,(decide (p0≠(Qj.mk p0.Kind p0.Depth 0 (Jb.mk 0#64 0#64 0#64)))),Ql,hm,Xe⟩
 clear hm;rintro a1 w3 ⟨hm,K3⟩
 have z6:=K3.size
 unfold Bb at hm
 refine Jo hm rfl (fun c1 hm=>?_) (fun c1 hm=>?_)
 · refine qs 3 rfl<|qv rfl (Zk (cs:=Xj.cs (Xj.mk 0#8 0 0)) Qeh rfl rfl) ?_
   have B7:=(g.kz K3)
   refine qe rfl (Xf Ki rfl rfl rfl B7 rfl rfl) ?_
   rintro _ w4 ⟨m,M4⟩
   have z8:=M4.size
   refine qm rfl<|qb ?_
   have X9:=((X5.kz K3).md M4)
   cases hm
   exact⟨_,_,rfl,Za rfl (Zf Ki rfl m rfl) (Qn rfl),rfl,X9⟩
 refine qu<|qs 7 rfl<|qv rfl (Qh Ye rfl) ?_
 have j:=((f.gr G2).kz K3)
 refine qv rfl (Qi (v:=bv p0.Kind) Zb rfl j rfl)<|qv rfl (Qh Wo rfl)<|qv rfl (Qi (v:=.int .i64 p0.Depth) Qm rfl j rfl)<|qv rfl (Zk (cs:=Xj.cs (Xj.mk p0.Kind p0.Depth 1)) Qeh rfl rfl)<|qe rfl (Xg (cs:=Xj.cs (Xj.mk 0#8 0 0)) Sc rfl) ?_
 rintro _ w5 ⟨b5,rfl,A,l,G5⟩
 have G:=G5.size
 have B:=l.lt
 refine qe rfl (Xf Ki rfl rfl rfl l rfl rfl) ?_
 rintro _ w6 ⟨n,M6⟩
 have H:=M6.size
 refine Qa<|Qe<|Xn ?_
 have o:=(((X5.kz K3).trans G5).md M6)
 refine Kf (α:=Nat × Int) (rg 38 12) (fun⟨n2,a3⟩=>[]) (fun⟨n2,a3⟩ wr=>(Qv (Uc p0) n2 a3=some r)∧Bx wr b5 120 (Xj.cs (Xj.mk p0.Kind p0.Depth a3))∧Kz [(1,b5)] w6 wr) (fun⟨n2,a3⟩=>n2) ⟨Xb,1⟩ ?_ ?_ ?_
 · exact Ql
 · exact⟨hm,n,Kz.refl _ _⟩
 clear hm;rintro⟨n2,a3⟩ w7 ⟨hm,c,K7⟩
 have I:=K7.size
 have C:=c.lt
 have hb:=Kl hm;clear hm;obtain⟨n2,rfl,hm⟩:=hb
 generalize i:Qv (Uc p0) n2=D at hm
 unfold Uc at hm
 try dsimp only at hm
 refine Qe<|qs 8 rfl<|qv rfl (Qh Qcu rfl)<|qv rfl (Qi (v:=.int .i64 a3) Qm rfl c rfl)<|qv rfl (Qh Qcu rfl)<|qv rfl (Qi (v:=.int .i64 a3) Qm rfl c rfl) ?_
 refine qv rfl (Hw (k:=.i64) (a:=a3) (b:=a3) rfl rfl)<|qv rfl (Qh Qqn rfl)<|qv rfl (Qi (v:=.int .i64 p0.Depth) Qm rfl c rfl)<|qv rfl (Jv (a:=Qc (a3*a3)) (b:=p0.Depth) rfl rfl)<|Qa<|Zv hm rfl (fun c2 hm=>?_) (fun c2 hm=>?_)
 · refine qu<|Xn<|qg 5 rfl<|qv rfl (Qh Qcu rfl)<|qv rfl (Qi (v:=.int .i64 a3) Qm rfl c rfl)<|qv rfl (Zd (k:=.i64) (a:=a3) (b:=1) rfl rfl) ?_
   refine qv rfl (Qh Qcu rfl)<|qe rfl (Zp (cs':=Xj.cs (Xj.mk p0.Kind p0.Depth (Qc (a3+1)))) (Qm).siz rfl rfl rfl c rfl rfl) ?_
   rintro _ w8 ⟨s,M8⟩
   have J:=M8.size
   refine Qk<|Xh ?_
   have K_18:Kz [(1,b5)] w6 w8:=(K7.md M8)
   subst i
   exact⟨rfl,⟨n2,Qc (a3+1)⟩,Ql,⟨hm,s,K_18⟩,Nat.lt_succ_self _⟩
 refine Jl<|Xu<|Xu<|Jk<|Xl<|qs 3 rfl ?_
 refine qv rfl (Xa Ki rfl c rfl) ?_
 have t:=((((g.kz K3).gr G5).md M6).kz K7)
 refine qe rfl (Xf Ki rfl rfl rfl t rfl rfl) ?_
 rintro _ w9 ⟨u,M9⟩
 have K:=M9.size
 refine qm rfl<|Qa<|Qq ?_
 have x:=((o.kz K7).md M9)
 cases hm
 exact⟨_,_,rfl,Za rfl (Zf Ki rfl u rfl) (Qn rfl),rfl,x⟩
theorem Oc {p0 r}(hm:Tj p0=some r){w:World}:
 Calls Tryz.prog 59 [.agg (Qj.cs p0).toArray].toArray w fun e w'=>∃ v,e=.returned v∧(v=.int .i64 r∧Gr w w'):=by
 unfold Tj at hm
 refine Xi 12 Tryz.func59 rfl rfl rfl<|qs 2 rfl<|qe rfl (Xo (cs:=Qj.cs p0) rfl rfl) ?_
 rintro _ w1 ⟨b1,rfl,d,a,G1⟩
 have z1:=G1.size
 have g:=a.lt
 refine qm rfl<|Qa<|Qe<|qs 8 rfl<|qv rfl (Xa Zq rfl a rfl) ?_
 obtain⟨x1,c,hm⟩:=Qd hm
 refine qe rfl (eC Qq7 rfl (Qoz c)) ?_
 rintro _ w2 ⟨rfl,G2⟩
 have z3:=G2.size
 refine qn 3 rfl<|qe rfl (Xg (cs:=Xj.cs (Xj.mk 0#8 0 0)) Sc rfl) ?_
 rintro _ w3 ⟨b3,rfl,f,b,G3⟩
 have z4:=G3.size
 have h:=b.lt
 refine qe rfl (Xf Ki rfl rfl rfl b rfl rfl) ?_
 rintro _ w4 ⟨i,M4⟩
 have z6:=M4.size
 refine qm rfl<|qd 2 rfl<|qm rfl<|qv rfl (Kd rfl)<|Qa ?_
 refine Jo hm rfl (fun c1 hm=>?_) (fun c1 hm=>?_)
 · refine qs 1 rfl<|qm rfl<|qb ?_
   have X7:=(((((Gr.refl w).trans G1).trans G2).trans G3).md M4)
   cases hm
   exact⟨_,_,rfl,Qz rfl (Qn rfl),rfl,X7⟩
 refine qu<|qs 1 rfl<|qm rfl<|Qa<|Qq ?_
 have X8:=(((((Gr.refl w).trans G1).trans G2).trans G3).md M4)
 cases hm
 exact⟨_,_,rfl,Qz rfl (Qn rfl),rfl,X8⟩
theorem Xe4 {p0 r}(hm:Qln p0=some r){w:World}:
 Calls Tryz.prog 49 [.int .i64 p0].toArray w fun e w'=>∃ v,e=.returned v∧(v=.int .i64 r∧Gr w w'):=by
 unfold Qln at hm
 refine Xi 12 Tryz.func49 rfl rfl rfl<|qs 1 rfl<|qm rfl<|qd 1 rfl ?_
 refine qm rfl<|Qa<|Qe<|Xn<|Kf (α:=Nat × Int) (rg 3 8) (fun⟨n1,a2⟩=>[(3,.int .i64 a2)]) (fun⟨n1,a2⟩ wr=>(Qv (Qh9 p0) n1 a2=some r)∧Kz [] w wr) (fun⟨n1,a2⟩=>n1) ⟨Xb,1⟩ ?_ ?_ ?_
 · exact Ql
 · exact⟨hm,Kz.refl _ _⟩
 clear hm;rintro⟨n1,a2⟩ w1 ⟨hm,K1⟩
 have z1:=K1.size
 have hb:=Kl hm;clear hm;obtain⟨n1,rfl,hm⟩:=hb
 generalize c:Qv (Qh9 p0) n1=d at hm
 unfold Qh9 at hm
 try dsimp only at hm
 refine Qe<|qs 5 rfl<|qn 2 rfl<|qv rfl (Hw (k:=.i64) (a:=a2) (b:=a2) rfl rfl)<|qm rfl ?_
 refine qv rfl (Jv (a:=Qc (a2*a2)) (b:=p0) rfl rfl)<|Qa<|Zv hm rfl (fun c1 hm=>?_) (fun c1 hm=>?_)
 · refine qu<|Xn<|qg 3 rfl<|qm rfl<|qv rfl (Zd (k:=.i64) (a:=a2) (b:=1) rfl rfl)<|qm rfl ?_
   refine Qk<|Xh ?_
   have K_2:Kz [] w w1:=K1
   subst c
   exact⟨rfl,⟨n1,Qc (a2+1)⟩,Ql,⟨hm,K_2⟩,Nat.lt_succ_self _⟩
 refine Jl<|Xu<|Xu<|Jk<|Xl<|qs 2 rfl ?_
 refine qn 2 rfl<|Qa<|Qq ?_
 have X3:=((Gr.refl w).kz K1)
 cases hm
 exact⟨_,_,rfl,Qz rfl (Qn rfl),rfl,X3⟩
theorem Qsz {p0 r}(hm:Qhh p0=some r){w:World}:
 Calls Tryz.prog 91 [.int .i64 p0].toArray w fun e w'=>∃ v,e=.returned v∧(v=.int .i64 r∧Gr w w'):=by
 unfold Qhh at hm
 refine Xi 6 Tryz.func91 rfl rfl rfl<|qs 1 rfl<|qm rfl<|qd 4 rfl ?_
 refine qm rfl ?_
 obtain⟨nn1,hnn1,hm⟩:=Qd hm
 refine qv rfl (Tf (a:=1) (b:=p0) rfl rfl hnn1)<|qv rfl (Zd (k:=.i64) (a:=Xw 1 nn1) (b:=1) rfl rfl)<|qm rfl<|Qa<|Qq ?_
 cases hm
 exact⟨_,_,rfl,Qz rfl (Qn rfl),rfl,(Gr.refl w)⟩
theorem Qdm {p0 p1 bp0 vp0_7 zp0_7 gp0_7 op0_7 vp0_8 zp0_8 gp0_8 op0_8 vp0_9 zp0_9 gp0_9 op0_9 vp0_10 zp0_10 gp0_10 op0_10 r}(hm:Es p0 p1=some r){w:World}(hbp0:Bx w bp0 116 (Xc.cs p0 vp0_7 vp0_8 vp0_9 vp0_10))(d:Rd w zp0_7 gp0_7 op0_7 1 vp0_7 (p0.rows.a0.map ic))(f:Rd w zp0_8 gp0_8 op0_8 1 vp0_8 (p0.rows.a1.map ic))(g:Rd w zp0_9 gp0_9 op0_9 1 vp0_9 (p0.rows.a2.map ic))(c:Rd w zp0_10 gp0_10 op0_10 1 vp0_10 (p0.rows.a3.map ic)):
 Calls Tryz.prog 51 [.pointer (some ⟨bp0,0,none⟩),.int .i64 p1].toArray w fun e w'=>∃ v,e=.returned v∧(v=.int .i64 r∧Gr w w'):=by
 have h:=d.lth
 have i:=f.lth
 have j:=g.lth
 have k:=c.lth
 have l:=hbp0.lt
 unfold Es at hm
 refine Xi 11 Tryz.func51 rfl rfl rfl<|qs 1 rfl<|qm rfl<|Qa<|Qe<|Xn ?_
 refine qs 3 rfl<|qm rfl<|qv rfl (Zu (a:=p1) (b:=0) rfl rfl)<|qm rfl<|Qa<|Zv hm rfl (fun c1 hm=>?_) (fun c1 hm=>?_)
 · refine qs 1 rfl<|qm rfl<|Qa<|Qq<|Jf<|Xz ?_
   cases hm
   exact⟨_,_,rfl,Qz rfl (Qn rfl),rfl,(Gr.refl w)⟩
 refine qs 3 rfl<|qm rfl<|qv rfl (Zu (a:=p1) (b:=3) rfl rfl)<|qm rfl<|Qa<|Zv hm rfl (fun c2 hm=>?_) (fun c2 hm=>?_)
 · refine qs 1 rfl<|qm rfl<|Qa<|Qq<|Jf<|Xz ?_
   cases hm
   exact⟨_,_,rfl,Qz rfl (Qn rfl),rfl,(Gr.refl w)⟩
 refine Jn<|Xh<|Xl<|qs 1 rfl<|qm rfl<|Qa ?_
 refine Qq ?_
 cases hm
 exact⟨_,_,rfl,Qz rfl (Qn rfl),rfl,(Gr.refl w)⟩
theorem Xe3 {p0 p1 r}(hm:Qll p0 p1=some r){w:World}:
 Calls Tryz.prog 92 [.int .i64 p0,.int .i64 p1].toArray w fun e w'=>∃ v,e=.returned v∧(∃ bc0 bc1,v=.func (.func 146) #[] [.pointer (some ⟨bc0,0,none⟩),.pointer (some ⟨bc1,0,none⟩)].toArray∧Bx w' bc0 3 ([.int .i64 r.1])∧(w.heap.size≤bc0)∧Bx w' bc1 3 ([.int .i64 r.2])∧(w.heap.size≤bc1)∧Gr w w'):=by
 unfold Qll at hm
 refine Xi 6 Tryz.func92 rfl rfl rfl<|qs 3 rfl<|qe rfl (Xo (cs:=[.int .i64 p0]) rfl rfl) ?_
 rintro _ w1 ⟨b1,rfl,c,a,G1⟩
 have z1:=G1.size
 have f:=a.lt
 refine qe rfl (Xo (cs:=[.int .i64 p1]) rfl rfl) ?_
 rintro _ w2 ⟨b2,rfl,d,b,G2⟩
 have z3:=G2.size
 have g:=b.lt
 refine qm rfl<|qd 2 rfl<|qv rfl (Tu rfl rfl)<|qm rfl<|Qa ?_
 refine Qq ?_
 have B5:=(a.gr G2)
 have X6:=(((Gr.refl w).trans G1).trans G2)
 cases hm
 exact⟨_,_,rfl,Qz rfl (Qn rfl),b1,b2,rfl,B5,by omega,b,by omega,X6⟩
theorem Xe2 (p1:Int)(p2:Int)(bp1:Nat)(bp2:Nat)(xs:List Int)(hm:Qlm p1 p2=some xs)(w0:World)(hbp1:Bx w0 bp1 3 ([.int .i64 p1]))(hbp2:Bx w0 bp2 3 ([.int .i64 p2])):
 IT Tryz.prog 146 [.pointer (some ⟨bp1,0,none⟩),.pointer (some ⟨bp2,0,none⟩)] (xs.map (fun(x:Int)=>([.int .i64 x]:List Value))) ([bp1]++[bp2]) w0:=by
 intro l J Jx w fp hG hJ hJx hcap h0 hY
 have c1:=Bx.gr hbp1 hG
 have u:=c1.lt
 have p:bp1∉fp:=hcap _ (by simp)
 have c4:=Bx.gr hbp2 hG
 have y:=c4.lt
 have q:bp2∉fp:=hcap _ (by simp)
 have hd:=Qcm xs
 unfold Qlm at hm
 refine Xi 24 Tryz.func146 rfl rfl rfl<|qs 4 rfl<|qv rfl (Qi (v:=.int .i64 p1) Qm rfl c1 rfl)<|qv rfl (Vx (k:=.i64) (a:=p1) (b:=1) rfl rfl) ?_
 obtain⟨nn1,hnn1,hm⟩:=Qd hm
 refine qv rfl (Tf (a:=1) (b:=(Qc (p1-1))) rfl rfl hnn1)<|qm rfl<|qd 5 rfl<|qv rfl (Qi (v:=.int .i64 p2) Qm rfl c4 rfl)<|qm rfl ?_
 refine qv rfl (Vx (k:=.i64) (a:=p2) (b:=Xw 1 nn1) rfl rfl)<|qv rfl (Qim rfl rfl)<|qm rfl<|Qa<|Xn<|Kf (α:=Nat × Int × Nat × List Nat × List Int) ([5]++rg 13 11) (fun⟨n1,a3,kk,fpl,rl⟩=>[(5,.int .i64 a3)]) (fun⟨n1,a3,kk,fpl,rl⟩ wr=>(Qv (Qh8 p2 nn1) n1 a3=some rl)∧Dr xs kk rl∧J kk fpl wr∧(∀ c∈fpl,c∈fp∨w.heap.size≤c)∧Kp fp w wr∧Bx wr bp1 3 ([.int .i64 p1])∧Bx wr bp2 3 ([.int .i64 p2])∧bp1∉fpl∧bp2∉fpl∧True) (fun⟨n1,a3,kk,fpl,rl⟩=>n1) ⟨Xb,Yf 0 (Qc (p2-(Xw 1 nn1))),0,fp,xs⟩ ?_ ?_ ?_
 · exact Ql
 · exact⟨hm,hd,h0,(fun c hc=>Or.inl hc),(Kp.refl fp w),c1,c4,p,q,trivial⟩
 clear hm;rintro⟨n1,a3,j,fpl1,rl1⟩ w1 ⟨hm,dl1,JLw1,sl1,KLw1,f,d,g,h,-⟩
 have z7:=KLw1.size
 have z:=f.lt
 have A:=d.lt
 have hb:=Kl hm;clear hm;obtain⟨n1,rfl,hm⟩:=hb
 generalize m:Qv (Qh8 p2 nn1) n1=t at hm
 unfold Qh8 at hm
 try dsimp only at hm
 refine Qe<|qs 5 rfl<|qm rfl<|qv rfl (Qi (v:=.int .i64 p2) Qm rfl d rfl)<|qm rfl<|qv rfl (Qvd rfl rfl) ?_
 refine qv rfl (Tt (a:=a3) (b:=Ft p2 (Xw 1 nn1)) rfl rfl)<|Qa<|Kx hm rfl (fun c1 hm=>?_) (fun c1 hm=>?_)
 · refine Jl<|Xu<|Xu<|Jk ?_
   have he:=Option.some.inj hm
   have hl:=Dr.last (c:=(fun(x:Int)=>([.int .i64 x]:List Value))) dl1 he.symm
   refine⟨_,_,rfl,Hj rfl,KLw1,.inl ⟨_,sl1,?_⟩⟩
   rw[←hl];exact JLw1
 refine qu<|Qe<|Xn<|qs 4 rfl<|qm rfl ?_
 refine qm rfl ?_
 obtain⟨rr10,hm,he10⟩:=Aq hm
 have i:=Dr.at dl1 he10
 have hd10:=Dr.next dl1 he10
 refine qe rfl (Bj rfl rfl (hY _ _ _ _ (Gu i) JLw1 KLw1 sl1)) ?_
 rintro _ w2 ⟨bb,rfl,KF10,e,hg10,hJb⟩
 have B:=KF10.size
 have sub10:∀ c∈e,c∈fp∨w.heap.size≤c:=Na sl1 hg10 (by omega)
 have n:=Ke hg10 g (by omega)
 have o:=Ke hg10 h (by omega)
 cases bb
 · have Jy10:Jx (j+1) e w2:=hJb
   refine qv rfl (Kd rfl)<|Qa<|Nb rfl<|Qq<|Jf<|Xz<|Xz ?_
   refine Jf ?_
   have KI14:Kp fp w w2:=(KLw1.trans KF10 sl1)
   exact⟨_,_,rfl,Hj rfl,KI14,.inr ⟨_,_,sub10,(by rw[List.length_map];exact(List.getElem?_eq_some_iff.1 i).1),Jy10⟩⟩
 have Jy10:J (j+1) e w2:=hJb
 refine qv rfl (Kd rfl)<|Qa<|Ty rfl<|Jn<|Xh<|Xl<|qg 3 rfl ?_
 refine qm rfl<|qv rfl (Zd (k:=.i64) (a:=a3) (b:=1) rfl rfl)<|qm rfl<|Qk ?_
 have KI15:Kp fp w w2:=(KLw1.trans KF10 sl1)
 have r:=(Bx.kp f KF10 g)
 have s:=(Bx.kp d KF10 h)
 subst m
 exact⟨rfl,⟨n1,Qc (a3+1),(j+1),e,rr10⟩,Ql,⟨hm,hd10,Jy10,sub10,KI15,r,s,n,o,trivial⟩,Nat.lt_succ_self _⟩
theorem Qlo {p0 p1 p2 bp0 vp0_7 zp0_7 gp0_7 op0_7 vp0_8 zp0_8 gp0_8 op0_8 vp0_9 zp0_9 gp0_9 op0_9 vp0_10 zp0_10 gp0_10 op0_10 r}(hm:Qdi p0 p1 p2=some r){w:World}(hbp0:Bx w bp0 116 (Xc.cs p0 vp0_7 vp0_8 vp0_9 vp0_10))(f:Rd w zp0_7 gp0_7 op0_7 1 vp0_7 (p0.rows.a0.map ic))(g:Rd w zp0_8 gp0_8 op0_8 1 vp0_8 (p0.rows.a1.map ic))(h:Rd w zp0_9 gp0_9 op0_9 1 vp0_9 (p0.rows.a2.map ic))(d:Rd w zp0_10 gp0_10 op0_10 1 vp0_10 (p0.rows.a3.map ic)):
 Calls Tryz.prog 50 [.pointer (some ⟨bp0,0,none⟩),.int .i64 p1,.int .i64 p2].toArray w fun e w'=>∃ v,e=.returned v∧(∃ ur0_s zr0_s gr0_s or0_s,v=ur0_s∧Rd w' zr0_s gr0_s or0_s 1 ur0_s (r.map ic)∧Xd (zr0_s=0∨(gr0_s=gp0_7∧zp0_7≠0)∨(gr0_s=gp0_8∧zp0_8≠0)∨(gr0_s=gp0_9∧zp0_9≠0)∨(gr0_s=gp0_10∧zp0_10≠0)∨w.heap.size≤gr0_s)∧Gr w w'):=by
 have O:=f.lth
 have P:=g.lth
 have Q:=h.lth
 have R:=d.lth
 have S:=hbp0.lt
 unfold Qdi at hm
 refine Xi 28 Tryz.func50 rfl rfl rfl<|qs 1 rfl<|qm rfl<|qd 6 rfl ?_
 refine qm rfl ?_
 obtain⟨nn1,hnn1,hm⟩:=Qd hm
 refine qv rfl (Tf (a:=1) (b:=p2) rfl rfl hnn1)<|qv rfl (Vx (k:=.i64) (a:=Xw 1 nn1) (b:=1) rfl rfl)<|qm rfl<|qv rfl (Zd (k:=.i64) (a:=Qc ((Xw 1 nn1)-1)) (b:=p2) rfl rfl)<|qm rfl<|Qa<|Qe ?_
 refine qg 5 rfl<|qn 2 rfl ?_
 obtain⟨x2,m,hm⟩:=Qd hm
 refine qe rfl (eC Qq6 rfl (Qsz m)) ?_
 rintro _ w1 ⟨rfl,G1⟩
 have z6:=G1.size
 refine qv rfl (Zd (k:=.i64) (a:=Qc ((Qc ((Xw 1 nn1)-1))+p2)) (b:=x2) rfl rfl)<|qm rfl<|qd 11 rfl<|qn 2 rfl ?_
 refine qv rfl (Hy rfl rfl)<|qv rfl (Qh Qkc rfl) ?_
 by_cases c1:p1=0
 · replace hm:=Hg c1 hm
   refine qv rfl (Nc 0 Tryz.underlying114 (Vr).siz rfl rfl c1 (by decide)) ?_
   have B7:=(hbp0.gr G1)
   refine qv rfl (Qi (v:=vp0_7) Vr rfl B7 rfl)<|qn 3 rfl ?_
   obtain⟨l3,n,hm⟩:=Qd hm
   have B9:=(f.gr G1)
   refine qt rfl (Qio (c:=ic) Tryz.underlying30 (Qm).siz rfl B9 rfl rfl rfl n) ?_
   rintro v8 o8 R8
   have K:=R8.lth
   refine qm rfl<|Qa<|Qq ?_
   have o:=((Gr.refl w).trans G1)
   cases hm
   exact⟨_,_,rfl,Qz rfl (Qn rfl),v8,zp0_7,gp0_7,o8,rfl,R8,⟨Qf⟩,o⟩
 replace hm:=Hf c1 hm
 by_cases c2:p1=1
 · replace hm:=Hg c2 hm
   refine qv rfl (Nc 1 Tryz.underlying114 (Vr).siz rfl rfl c2 (by decide)) ?_
   have p:=(hbp0.gr G1)
   refine qv rfl (Qi (v:=vp0_8) Vr rfl p rfl)<|qn 3 rfl ?_
   obtain⟨l4,q,hm⟩:=Qd hm
   have s:=(g.gr G1)
   refine qt rfl (Qio (c:=ic) Tryz.underlying30 (Qm).siz rfl s rfl rfl rfl q) ?_
   rintro t u i
   have L:=i.lth
   refine qm rfl<|Qa<|Qq ?_
   have x:=((Gr.refl w).trans G1)
   cases hm
   exact⟨_,_,rfl,Qz rfl (Qn rfl),t,zp0_8,gp0_8,u,rfl,i,⟨Qf⟩,x⟩
 replace hm:=Hf c2 hm
 by_cases c3:p1=2
 · replace hm:=Hg c3 hm
   refine qv rfl (Nc 2 Tryz.underlying114 (Vr).siz rfl rfl c3 (by decide)) ?_
   have y:=(hbp0.gr G1)
   refine qv rfl (Qi (v:=vp0_9) Vr rfl y rfl)<|qn 3 rfl ?_
   obtain⟨l5,z,hm⟩:=Qd hm
   have A:=(h.gr G1)
   refine qt rfl (Qio (c:=ic) Tryz.underlying30 (Qm).siz rfl A rfl rfl rfl z) ?_
   rintro B C j
   have M:=j.lth
   refine qm rfl<|Qa<|Qq ?_
   have D:=((Gr.refl w).trans G1)
   cases hm
   exact⟨_,_,rfl,Qz rfl (Qn rfl),B,zp0_9,gp0_9,C,rfl,j,⟨Qf⟩,D⟩
 replace hm:=Hf c3 hm
 by_cases c4:p1=3
 · replace hm:=Hg c4 hm
   refine qv rfl (Nc 3 Tryz.underlying114 (Vr).siz rfl rfl c4 (by decide)) ?_
   have E:=(hbp0.gr G1)
   refine qv rfl (Qi (v:=vp0_10) Vr rfl E rfl)<|qn 3 rfl ?_
   obtain⟨l6,F,hm⟩:=Qd hm
   have G:=(d.gr G1)
   refine qt rfl (Qio (c:=ic) Tryz.underlying30 (Qm).siz rfl G rfl rfl rfl F) ?_
   rintro H I l
   have N:=l.lth
   refine qm rfl<|Qa<|Qq ?_
   have J:=((Gr.refl w).trans G1)
   cases hm
   exact⟨_,_,rfl,Qz rfl (Qn rfl),H,zp0_10,gp0_10,I,rfl,l,⟨Qf⟩,J⟩
 replace hm:=Hf c4 hm
 cases hm
theorem Qsx {p0 p1 p2 bp0 vp0_7 zp0_7 gp0_7 op0_7 vp0_8 zp0_8 gp0_8 op0_8 vp0_9 zp0_9 gp0_9 op0_9 vp0_10 zp0_10 gp0_10 op0_10 r}(hm:Qha p0 p1 p2=some r){w:World}(hbp0:Bx w bp0 116 (Xc.cs p0 vp0_7 vp0_8 vp0_9 vp0_10))(d:Rd w zp0_7 gp0_7 op0_7 1 vp0_7 (p0.rows.a0.map ic))(f:Rd w zp0_8 gp0_8 op0_8 1 vp0_8 (p0.rows.a1.map ic))(g:Rd w zp0_9 gp0_9 op0_9 1 vp0_9 (p0.rows.a2.map ic))(c:Rd w zp0_10 gp0_10 op0_10 1 vp0_10 (p0.rows.a3.map ic)):
 Calls Tryz.prog 58 [.pointer (some ⟨bp0,0,none⟩),.int .i64 p1,.int .i64 p2].toArray w fun e w'=>∃ v,e=.returned v∧(v=.int .i64 r∧Gr w w'):=by
 have n:=d.lth
 have o:=f.lth
 have t:=g.lth
 have u:=c.lth
 have x:=hbp0.lt
 unfold Qha at hm
 refine Xi 43 Tryz.func58 rfl rfl rfl<|qs 1 rfl<|qm rfl<|Qa<|Qe<|Qe ?_
 refine qg 6 rfl<|qm rfl<|qv rfl (Hy rfl rfl)<|qv rfl (Qh Qad rfl)<|qv rfl (Qh Ye rfl)<|qv rfl (Qi (v:=bv p0.s.Kind) Zb rfl hbp0 rfl)<|qv rfl (Vt (p:=p0.s.Kind) (q:=2#8) rfl rfl) ?_
 refine Qa<|Zv hm rfl (fun c1 hm=>?_) (fun c1 hm=>?_)
 · refine qs 1 rfl<|qm rfl<|qb ?_
   cases hm
   exact⟨_,_,rfl,Qz rfl (Qn rfl),rfl,(Gr.refl w)⟩
 refine qu<|Qe<|dw [([])] [] (.leaf [(0,10),(1,10),(2,10),(3,10),(4,10),(5,10),(6,10),(7,10),(8,10),(9,10),(10,10),(11,10),(12,10),(13,10)]) ?_
 intro w1 G1 y
 refine Zz<|dm 0 rfl rfl<|dh 0 rfl rfl (fun w hS=>Hy rfl rfl)<|dh 0 rfl rfl (fun w hS=>Qh Qad rfl)<|dh 0 rfl rfl (fun w hS=>Qh Wo rfl) ?_
 have B6:=(hbp0.gr G1)
 refine dh 0 rfl rfl (fun w hS=>Qi (v:=.int .i64 p0.s.Depth) Qm rfl (Bx.kp B6 hS) rfl)<|dm 0 rfl rfl<|dh 0 rfl rfl (fun w hS=>Vx (k:=.i64) (a:=p0.s.Depth) (b:=p2) rfl rfl)<|dm 0 rfl rfl<|dh 0 rfl rfl (fun w hS=>Hy rfl rfl)<|dh 0 rfl rfl (fun w hS=>Qh Xaj rfl)<|dh 0 rfl rfl (fun w hS=>Qi (v:=.int .i64 p0.stride) Qm rfl (Bx.kp B6 hS) rfl) ?_
 obtain⟨x1,i,hm⟩:=Qd hm
 refine dh 0 rfl rfl (fun w hS=>Qnj (a:=Qc (p0.s.Depth-p2)) (b:=p0.stride) rfl rfl i)<|dh 0 rfl rfl (fun w hS=>Zu (a:=x1) (b:=0) rfl rfl)<|dm 0 rfl rfl<|Qa<|Qe<|Xn ?_
 have X7:=((Gr.refl w).trans G1)
 refine qj (β:=Bool) (rg 27 6) (fun a2=>[(27,.bool a2)]) (fun a2 wr=>(Qhb p1 x1 a2=some r)∧Kz [] w1 wr) ?_ ?_
 · refine qg 6 rfl<|qm rfl<|qv rfl (Zu (a:=p1) (b:=0) rfl rfl)<|Ji hm rfl (Qt rfl) (fun c6 hm=>?_) (fun c6 hm=>?_)
   · refine qn 3 rfl<|Qk ?_
     exact⟨rfl,(decide (x1=0)),Ql,hm,Xe⟩
   refine qn 3 rfl<|Qk ?_
   exact⟨rfl,false,Ql,hm,Xe⟩
 clear hm;rintro a2 w2 ⟨hm,K2⟩
 have z8:=K2.size
 unfold Qhb at hm
 refine Jo hm rfl (fun c2 hm=>?_) (fun c2 hm=>?_)
 · refine qs 1 rfl<|qm rfl<|Qa<|Qq<|Jf<|Xz ?_
   have X9:=(X7.kz K2)
   cases hm
   exact⟨_,_,rfl,Qz rfl (Qn rfl),rfl,X9⟩
 have h:=(X7.kz K2)
 refine qj (β:=Bool) (rg 33 6) (fun a3=>[(33,.bool a3)]) (fun a3 wr=>(Qhc p1 a3=some r)∧Kz [] w2 wr) ?_ ?_
 · refine qg 6 rfl<|qm rfl<|qv rfl (Zu (a:=p1) (b:=2) rfl rfl)<|Ji hm rfl (Qt rfl) (fun c5 hm=>?_) (fun c5 hm=>?_)
   · refine qn 3 rfl<|Qk ?_
     exact⟨rfl,(decide (x1=0)),Ql,hm,Xe⟩
   refine qn 3 rfl<|Qk ?_
   exact⟨rfl,false,Ql,hm,Xe⟩
 clear hm;rintro a3 w3 ⟨hm,K3⟩
 have z:=K3.size
 unfold Qhc at hm
 refine Jo hm rfl (fun c3 hm=>?_) (fun c3 hm=>?_)
 · refine qs 1 rfl<|qm rfl<|Qa<|Qq<|Jf<|Xz ?_
   have j:=(h.kz K3)
   cases hm
   exact⟨_,_,rfl,Qz rfl (Qn rfl),rfl,j⟩
 refine qs 3 rfl<|qm rfl<|qv rfl (Zu (a:=p1) (b:=0) rfl rfl)<|qm rfl<|Qa<|Zv hm rfl (fun c4 hm=>?_) (fun c4 hm=>?_)
 · refine qs 1 rfl<|qm rfl<|Qa<|Qq<|Jf<|Xz ?_
   have l:=(h.kz K3)
   cases hm
   exact⟨_,_,rfl,Qz rfl (Qn rfl),rfl,l⟩
 refine Jn<|Xh<|Xl<|qs 2 rfl<|qn 2 rfl ?_
 refine Qa<|Qq ?_
 have m:=(h.kz K3)
 cases hm
 exact⟨_,_,rfl,Qz rfl (Qn rfl),rfl,m⟩
theorem Xe8 {p0 p1 p2 p3 p4 bp0 vp0_7 zp0_7 gp0_7 op0_7 vp0_8 zp0_8 gp0_8 op0_8 vp0_9 zp0_9 gp0_9 op0_9 vp0_10 zp0_10 gp0_10 op0_10 r}(hm:Qls p0 p1 p2 p3 p4=some r){w:World}(hbp0:Bx w bp0 116 (Xc.cs p0 vp0_7 vp0_8 vp0_9 vp0_10))(g:Rd w zp0_7 gp0_7 op0_7 1 vp0_7 (p0.rows.a0.map ic))(h:Rd w zp0_8 gp0_8 op0_8 1 vp0_8 (p0.rows.a1.map ic))(j:Rd w zp0_9 gp0_9 op0_9 1 vp0_9 (p0.rows.a2.map ic))(c:Rd w zp0_10 gp0_10 op0_10 1 vp0_10 (p0.rows.a3.map ic)):
 Calls Tryz.prog 94 [.pointer (some ⟨bp0,0,none⟩),.int .i64 p1,.int .i64 p2,.int .i64 p3,.int .i64 p4].toArray w fun e w'=>∃ v,e=.returned v∧(v=.int .i64 r∧Gr w w'):=by
 have ai:=g.lth
 have aj:=h.lth
 have ak:=j.lth
 have al:=c.lth
 have am:=hbp0.lt
 unfold Qls at hm
 refine Xi 68 Tryz.func94 rfl rfl rfl<|qs 1 rfl<|qm rfl<|qd 5 rfl ?_
 refine qn 2 rfl<|qv rfl (Vx (k:=.i64) (a:=p2) (b:=1) rfl rfl) ?_
 obtain⟨x1,P,hm⟩:=Qd hm
 refine qe rfl (eC Qf8 rfl (Qlo P hbp0 g h j c)) ?_
 rintro n w1 ⟨_,o,t,x,rfl,d,y,G1⟩
 have z6:=G1.size
 have an:=d.lth
 refine qm rfl<|Qa<|Qe<|Xn<|qs 7 rfl<|qm rfl ?_
 refine qv rfl (Hy rfl rfl)<|qv rfl (Qh Qad rfl)<|qv rfl (Qh Ye rfl) ?_
 have B8:=(hbp0.gr G1)
 refine qv rfl (Qi (v:=bv p0.s.Kind) Zb rfl B8 rfl)<|qv rfl (Vt (p:=p0.s.Kind) (q:=1#8) rfl rfl)<|qm rfl<|Qa<|Zv hm rfl (fun c1 hm=>?_) (fun c1 hm=>?_)
 · refine Qe<|dw [([])] [] (.leaf [(0,10),(1,10),(2,10),(3,10),(4,10),(5,10),(6,10),(7,10),(8,10),(9,10),(10,10),(11,10)]) ?_
   intro w2 G2 ao
   refine Zz<|dm 0 rfl rfl<|dm 0 rfl rfl ?_
   obtain⟨y2,z,hm⟩:=Qd hm
   have B9:=(d.gr G2)
   refine dh 0 rfl rfl (fun w hS=>Yq (i:=p4) Tryz.underlying30 (Qm).siz rfl (Rd.kp B9 hS) rfl z)<|dh 0 rfl rfl (fun w hS=>Hl (q:=0) (u:=.int .i64 y2) Qm rfl (Rd.kp B9 hS) z (by first|rfl|omega) rfl)<|dm 0 rfl rfl<|dm 0 rfl rfl<|dm 0 rfl rfl<|dh 0 rfl rfl (fun w hS=>Vx (k:=.i64) (a:=p3) (b:=p4) rfl rfl) ?_
   obtain⟨y3,A,hm⟩:=Qd hm
   refine dh 0 rfl rfl (fun w hS=>Yq (i:=Qc (p3-p4)) Tryz.underlying30 (Qm).siz rfl (Rd.kp B9 hS) rfl A)<|dh 0 rfl rfl (fun w hS=>Hl (q:=0) (u:=.int .i64 y3) Qm rfl (Rd.kp B9 hS) A (by first|rfl|omega) rfl)<|dh 0 rfl rfl (fun w hS=>Zd (k:=.i64) (a:=y2) (b:=y3) rfl rfl)<|dm 0 rfl rfl<|Qa<|Qq<|Jf ?_
   refine Xz ?_
   have Q:=(((Gr.refl w).trans G1).trans G2)
   cases hm
   exact⟨_,_,rfl,Qz rfl (Qn rfl),rfl,Q⟩
 have B:=((Gr.refl w).trans G1)
 refine qj (β:=Bool) (rg 34 8) (fun a4=>[(34,.bool a4)]) (fun a4 wr=>(Qhf p0 p1 p2 p3 p4 x1 a4=some r)∧Kz [] w1 wr) ?_ ?_
 · refine qg 8 rfl<|qm rfl<|qv rfl (Wr (a:=p4) (b:=0) rfl rfl)<|Ji hm rfl (Qt rfl) (fun c3 hm=>?_) (fun c3 hm=>?_)
   · refine qn 2 rfl<|qv rfl (Jv (a:=p4) (b:=p3) rfl rfl)<|qn 2 rfl<|Qk ?_
     exact⟨rfl,(decide (p4<p3)),Ql,hm,Xe⟩
   refine qn 5 rfl<|Qk ?_
   exact⟨rfl,false,Ql,hm,Xe⟩
 clear hm;rintro a4 w3 ⟨hm,K3⟩
 have ap:=K3.size
 unfold Qhf at hm
 refine Si hm rfl (fun c2 hm=>?_) (fun c2 hm=>?_)
 · refine Jn<|Xh<|Xl<|qs 12 rfl<|qn 2 rfl ?_
   refine qn 2 rfl ?_
   have C:=(B8.kz K3)
   have D:=((g.gr G1).kz K3)
   have E:=((h.gr G1).kz K3)
   have F:=((j.gr G1).kz K3)
   have G:=((c.gr G1).kz K3)
   obtain⟨x8,R,hm⟩:=Qd hm
   refine qe rfl (eC Qq3 rfl (Qsx R C D E F G)) ?_
   rintro _ w6 ⟨rfl,G6⟩
   have aq:=G6.size
   refine qm rfl<|qv rfl (Vx (k:=.i64) (a:=p2) (b:=1) rfl rfl) ?_
   have S:=(C.gr G6)
   have T:=(D.gr G6)
   have U:=(E.gr G6)
   have V:=(F.gr G6)
   have W:=(G.gr G6)
   obtain⟨x9,X,hm⟩:=Qd hm
   refine qe rfl (eC Qf8 rfl (Qlo X S T U V W)) ?_
   rintro H w7 ⟨_,I,J,K,rfl,f,L,G7⟩
   have ar:=G7.size
   have ah:=f.lth
   refine qm rfl ?_
   obtain⟨Y,m,hm⟩:=Qd hm
   refine qv rfl (Yq (i:=p3) Tryz.underlying30 (Qm).siz rfl f rfl m)<|qv rfl (Hl (q:=0) (u:=.int .i64 Y) Qm rfl f m (by first|rfl|omega) rfl)<|qm rfl<|Qa<|Qq ?_
   have Z:=(((B.kz K3).trans G6).trans G7)
   cases hm
   exact⟨_,_,rfl,Qz rfl (Qn rfl),rfl,Z⟩
 refine Qe<|dw [([])] [] (.leaf [(0,10),(1,10),(2,10),(3,10),(4,10),(5,10),(6,10),(7,10),(8,10),(9,10),(10,10),(11,10),(12,10),(13,0),(14,10),(15,10)]) ?_
 intro w4 G4 au
 refine Zz<|dm 0 rfl rfl<|dm 0 rfl rfl ?_
 obtain⟨y5,M,hm⟩:=Qd hm
 have l:=((d.kz K3).gr G4)
 refine dh 0 rfl rfl (fun w hS=>Yq (i:=p4) Tryz.underlying30 (Qm).siz rfl (Rd.kp l hS) rfl M)<|dh 0 rfl rfl (fun w hS=>Hl (q:=0) (u:=.int .i64 y5) Qm rfl (Rd.kp l hS) M (by first|rfl|omega) rfl)<|dm 0 rfl rfl<|dm 0 rfl rfl<|dm 0 rfl rfl<|dh 0 rfl rfl (fun w hS=>Vx (k:=.i64) (a:=p3) (b:=p4) rfl rfl) ?_
 obtain⟨y6,N,hm⟩:=Qd hm
 refine dh 0 rfl rfl (fun w hS=>Yq (i:=Qc (p3-p4)) Tryz.underlying30 (Qm).siz rfl (Rd.kp l hS) rfl N)<|dh 0 rfl rfl (fun w hS=>Hl (q:=0) (u:=.int .i64 y6) Qm rfl (Rd.kp l hS) N (by first|rfl|omega) rfl)<|dh 0 rfl rfl (fun w hS=>Zd (k:=.i64) (a:=y5) (b:=y6) rfl rfl)<|dm 0 rfl rfl<|dm 0 rfl rfl ?_
 have aa:=((B8.kz K3).gr G4)
 have ab:=(((g.gr G1).kz K3).gr G4)
 have ac:=(((h.gr G1).kz K3).gr G4)
 have ad:=(((j.gr G1).kz K3).gr G4)
 have ae:=(((c.gr G1).kz K3).gr G4)
 obtain⟨x7,af,hm⟩:=Qd hm
 refine qz [] rfl (eC Qco rfl (Qdm af aa ab ac ad ae)) ⟨fun _=>Qf,trivial⟩ ?_
 rintro _ w5 ⟨rfl,G5⟩
 have av:=G5.size
 refine kG G5 ?_
 have O:=((Kp.refl ([]) w4).gr G5)
 refine qh 0 rfl rfl O (fun w hS=>Zd (k:=.i64) (a:=Qc (y5+y6)) (b:=x7) rfl rfl)<|dn 0 rfl rfl O<|Qa<|Qq<|Jf<|Xz ?_
 have ag:=(((B.kz K3).trans G4).trans G5)
 cases hm
 exact⟨_,_,rfl,Qz rfl (Qn rfl),rfl,ag⟩
theorem Xe5 {p0 a p2 p3 p4 bp1 bp1_p vp1_p_7 zp1_p_7 gp1_p_7 op1_p_7 vp1_p_8 zp1_p_8 gp1_p_8 op1_p_8 vp1_p_9 zp1_p_9 gp1_p_9 op1_p_9 vp1_p_10 zp1_p_10 gp1_p_10 op1_p_10 bp2 bp3 bp4 r}(hm:Qlp p0 a p2 p3 p4=some r){w:World}(hbp1_p:Bx w bp1_p 116 (Xc.cs a vp1_p_7 vp1_p_8 vp1_p_9 vp1_p_10))(c:Rd w zp1_p_7 gp1_p_7 op1_p_7 1 vp1_p_7 (a.rows.a0.map ic))(d:Rd w zp1_p_8 gp1_p_8 op1_p_8 1 vp1_p_8 (a.rows.a1.map ic))(f:Rd w zp1_p_9 gp1_p_9 op1_p_9 1 vp1_p_9 (a.rows.a2.map ic))(b:Rd w zp1_p_10 gp1_p_10 op1_p_10 1 vp1_p_10 (a.rows.a3.map ic))(hbp1:Bx w bp1 81 [.pointer (some ⟨bp1_p,0,none⟩)])(hbp2:Bx w bp2 3 ([.int .i64 p2]))(hbp3:Bx w bp3 3 ([.int .i64 p3]))(hbp4:Bx w bp4 3 ([.int .i64 p4])):
 Calls Tryz.prog 93 [.int .i64 p0,.pointer (some ⟨bp1,0,none⟩),.pointer (some ⟨bp2,0,none⟩),.pointer (some ⟨bp3,0,none⟩),.pointer (some ⟨bp4,0,none⟩)].toArray w fun e w'=>∃ v,e=.returned v∧(v=.int .i64 r∧Gr w w'):=by
 have i:=c.lth
 have j:=d.lth
 have k:=f.lth
 have l:=b.lth
 have m:=hbp1_p.lt
 have n:=hbp1.lt
 have o:=hbp2.lt
 have p:=hbp3.lt
 have q:=hbp4.lt
 unfold Qlp at hm
 refine Xi 13 Tryz.func93 rfl rfl rfl<|qs 1 rfl<|qm rfl<|qd 7 rfl ?_
 refine qv rfl (Qi Xdk rfl hbp1 rfl)<|qv rfl (Qi (v:=.int .i64 p2) Qm rfl hbp2 rfl)<|qv rfl (Qi (v:=.int .i64 p3) Qm rfl hbp3 rfl)<|qv rfl (Qi (v:=.int .i64 p4) Qm rfl hbp4 rfl)<|qm rfl ?_
 obtain⟨x1,g,hm⟩:=Qd hm
 refine qe rfl (eC Qzm rfl (Xe8 g hbp1_p c d f b)) ?_
 rintro _ w1 ⟨rfl,G1⟩
 have s:=G1.size
 refine qm rfl<|Qa<|Qq ?_
 have h:=((Gr.refl w).trans G1)
 cases hm
 exact⟨_,_,rfl,Qz rfl (Qn rfl),rfl,h⟩
theorem Xe0 {z A d q s t bp0_0 bp0_1 bp1_0 bp1_0_p vp1_0_p_7 zp1_0_p_7 gp1_0_p_7 op1_0_p_7 vp1_0_p_8 zp1_0_p_8 gp1_0_p_8 op1_0_p_8 vp1_0_p_9 zp1_0_p_9 gp1_0_p_9 op1_0_p_9 vp1_0_p_10 zp1_0_p_10 gp1_0_p_10 op1_0_p_10 bp1_1 bp1_2 bp1_3 r}(hm:Qli z A d q s t=some r){w:World}(hbp0_0:Bx w bp0_0 3 ([.int .i64 z]))(hbp0_1:Bx w bp0_1 3 ([.int .i64 A]))(hbp1_0_p:Bx w bp1_0_p 116 (Xc.cs d vp1_0_p_7 vp1_0_p_8 vp1_0_p_9 vp1_0_p_10))(g:Rd w zp1_0_p_7 gp1_0_p_7 op1_0_p_7 1 vp1_0_p_7 (d.rows.a0.map ic))(i:Rd w zp1_0_p_8 gp1_0_p_8 op1_0_p_8 1 vp1_0_p_8 (d.rows.a1.map ic))(j:Rd w zp1_0_p_9 gp1_0_p_9 op1_0_p_9 1 vp1_0_p_9 (d.rows.a2.map ic))(f:Rd w zp1_0_p_10 gp1_0_p_10 op1_0_p_10 1 vp1_0_p_10 (d.rows.a3.map ic))(hbp1_0:Bx w bp1_0 81 [.pointer (some ⟨bp1_0_p,0,none⟩)])(hbp1_1:Bx w bp1_1 3 ([.int .i64 q]))(hbp1_2:Bx w bp1_2 3 ([.int .i64 s]))(hbp1_3:Bx w bp1_3 3 ([.int .i64 t])):
 Calls Tryz.prog 55 [.func (.func 146) [].toArray [.pointer (some ⟨bp0_0,0,none⟩),.pointer (some ⟨bp0_1,0,none⟩)].toArray,.func (.func 93) [].toArray [.pointer (some ⟨bp1_0,0,none⟩),.pointer (some ⟨bp1_1,0,none⟩),.pointer (some ⟨bp1_2,0,none⟩),.pointer (some ⟨bp1_3,0,none⟩)].toArray].toArray w fun e w'=>∃ v,e=.returned v∧(v=.tuple [.int .i64 r.1,.int .i64 r.2].toArray∧Gr w w'):=by
 have bw:=hbp0_0.lt
 have bx:=hbp0_1.lt
 have B:=g.lth
 have C:=i.lth
 have D:=j.lth
 have F:=f.lth
 have bz:=hbp1_0_p.lt
 have bA:=hbp1_0.lt
 have bB:=hbp1_1.lt
 have ba:=hbp1_2.lt
 have bb:=hbp1_3.lt
 unfold Qli at hm
 refine Xi 24 Tryz.func55 rfl rfl rfl<|qs 3 rfl<|qe rfl (Xo rfl rfl) ?_
 rintro _ w1 ⟨b1,rfl,bc,R,G1⟩
 have bC:=G1.size
 have bd:=R.lt
 refine qe rfl (Xg (cs:=[.int .i64 0]) Sd rfl) ?_
 rintro _ w2 ⟨b2,rfl,bf,S,G2⟩
 have bD:=G2.size
 have bg:=S.lt
 refine qe rfl (Xg (cs:=[.int .i64 0]) Sd rfl) ?_
 rintro _ w3 ⟨b3,rfl,bh,T,G3⟩
 have bE:=G3.size
 have bi:=T.lt
 refine qd 2 rfl<|qe rfl (Xg (cs:=[.bool false]) Qvr rfl) ?_
 rintro _ w4 ⟨b4,rfl,bj,U,G4⟩
 have bF:=G4.size
 have bk:=U.lt
 refine qe rfl (Zp (cs':=[.bool true]) (Ns).siz rfl rfl rfl U rfl rfl) ?_
 rintro _ w5 ⟨ak,M5⟩
 have bG:=M5.size
 refine Qa<|Qe<|qs 1 rfl<|qm rfl<|Qa<|Xn ?_
 have Y1:=Gr.trans (Gr.trans (Gr.trans G1 G2) G3) G4
 have al:=((hbp0_0.gr Y1).md M5)
 have am:=((hbp0_1.gr Y1).md M5)
 obtain⟨l1,an,hm⟩:=Qd hm
 have V:=(((Gr.refl w).trans Y1).md M5)
 have ao:=((g.gr Y1).md M5 (Qw B))
 have ap:=((i.gr Y1).md M5 (Qw C))
 have aq:=((j.gr Y1).md M5 (Qw D))
 have ar:=((f.gr Y1).md M5 (Qw F))
 have au:=((hbp1_0_p.gr Y1).md M5)
 have av:=((hbp1_0.gr Y1).md M5)
 have aw:=((hbp1_1.gr Y1).md M5)
 have ax:=((hbp1_2.gr Y1).md M5)
 have ay:=((hbp1_3.gr Y1).md M5)
 have Y2:=Gr.trans (Gr.trans G2 G3) G4
 have az:=((R.gr Y2).md M5)
 have Y3:=Gr.trans G3 G4
 have aA:=((S.gr Y3).md M5)
 have aB:=((T.gr G4).md M5)
 refine Rl (gf:=146) rfl Qyl (Xe2 z A _ _ _ an _ al am) (by intro x hx;obtain⟨a,_,rfl⟩:=List.mem_map.1 hx;rfl) rfl _ (fun _ _ _ _=>False) ([b2,b3,b4]) (Sa (α:=Int × Int × Bool) (fun⟨a5,a6,a7⟩ rk=>Js (Qgt d q s t) Qgr (List.drop rk l1) (a5,a6,a7)=some r) (fun⟨a5,a6,a7⟩=>([b2,b3,b4])) (fun⟨a5,a6,a7⟩ W=>Bx W b2 3 ([.int .i64 a5])∧Bx W b3 3 ([.int .i64 a6])∧Bx W b4 4 ([.bool a7])∧True) (by rintro⟨a5,a6,a7⟩ W ⟨F0,F1,F2,_⟩ b hb;have q0:=F0.lt;have q1:=F1.lt;have q2:=F2.lt;replace hb:b∈([b2,b3,b4]):=hb;simp only[List.mem_cons,List.mem_append,Xt,List.not_mem_nil,or_false,false_or,not_or,ne_eq,List.nil_append,List.cons_append,true_and,and_true,false_and,and_false,not_true_eq_false,not_false_eq_true,or_true,true_or] at hb;omega) (by rintro⟨a5,a6,a7⟩ W W' ⟨F0,F1,F2,_⟩ E hs;replace hs:∀ b∈([b2,b3,b4]),W'.heap[b]? = W.heap[b]? := hs;exact⟨(hs _ (by simp)).trans F0,(hs _ (by simp)).trans F1,(hs _ (by simp)).trans F2,trivial⟩)) (fun _=>Al) (by intro b hb;simp only[List.mem_cons,List.mem_append,Xt,List.not_mem_nil,or_false,false_or,not_or,ne_eq,List.nil_append,List.cons_append,true_and,and_true,false_and,and_false,not_true_eq_false,not_false_eq_true,or_true,true_or] at hb ⊢;omega) ⟨⟨0,0,true⟩,hm,rfl,aA,aB,ak,trivial⟩ ?_ ?_ ?_
 · rintro l rk x fp w6 hl hx _ K6 hF hln Jc
   clear hm
   obtain⟨e8,hxe,rfl⟩:=map_some hx
   have m:Kz [(1,b2),(1,b3),(1,b4)] w5 w6:=Ta K6 (by intro k hk;simp only[Zh,and_true,List.mem_cons,List.mem_append,Xt,List.not_mem_nil,or_false,false_or,not_or,ne_eq,List.nil_append,List.cons_append,true_and,and_true,false_and,and_false,not_true_eq_false,not_false_eq_true,or_true,true_or] at hk ⊢;omega)
   have bH:=K6.size
   refine qg 1 rfl<|qm rfl<|Qk<|⟨rfl,(Gr.refl _),?_⟩
   rintro w7 M7 ⟨⟨a5,a6,a7⟩,hm,rfl,n,p,o,-⟩
   have bI:=M7.size
   have bl:=n.lt
   have bm:=p.lt
   have bo:=o.lt
   replace hm:=Br hm hxe
   generalize hnx1:Js (Qgt d q s t) Qgr (List.drop (rk+1) l1)=aC at hm
   unfold Qgt at hm
   try dsimp only at hm
   refine Xn<|qs 4 rfl ?_
   have aD:=((az.kz m).md M7)
   refine qv rfl (Qi Qso rfl aD rfl)<|qm rfl ?_
   have aE:=((au.kz m).md M7)
   have aF:=((ao.kz m (Cn (Qw (b:=b2) B) (Qw (b:=b3) B) (Qw (b:=b4) B))).md M7 (Qw B))
   have aG:=((ap.kz m (Cn (Qw (b:=b2) C) (Qw (b:=b3) C) (Qw (b:=b4) C))).md M7 (Qw C))
   have aH:=((aq.kz m (Cn (Qw (b:=b2) D) (Qw (b:=b3) D) (Qw (b:=b4) D))).md M7 (Qw D))
   have aI:=((ar.kz m (Cn (Qw (b:=b2) F) (Qw (b:=b3) F) (Qw (b:=b4) F))).md M7 (Qw F))
   have aJ:=((av.kz m).md M7)
   have aK:=((aw.kz m).md M7)
   have aL:=((ax.kz m).md M7)
   have aM:=((ay.kz m).md M7)
   obtain⟨x9,aN,hm⟩:=Qd hm
   refine qe rfl (Yu Qzl rfl rfl (Xe5 aN aE aF aG aH aI aJ aK aL aM)) ?_
   rintro _ w8 ⟨rfl,G8⟩
   have bJ:=G8.size
   refine qm rfl<|Qa ?_
   have bK:=(((V.kz m).md M7).trans G8)
   refine qj (β:=Bool) (rg 14 6) (fun K=>[(19,.bool K)]) (fun K wr=>(Qgs a5 a6 a7 aC e8 x9 K=some r)∧Kz [] w8 wr) ?_ ?_
   · refine qg 6 rfl ?_
     have aO:=(o.gr G8)
     refine qv rfl (Qi (v:=.bool a7) Ns rfl aO rfl)<|Ch hm rfl (Qt rfl) (fun c2 hm=>?_) (fun c2 hm=>?_)
     · refine qn 4 rfl<|Qk ?_
       exact⟨rfl,true,Ql,hm,Xe⟩
     refine qm rfl ?_
     have aP:=(n.gr G8)
     refine qv rfl (Qi (v:=.int .i64 a5) Qm rfl aP rfl)<|qv rfl (Wr (a:=x9) (b:=a5) rfl rfl)<|qm rfl<|Qk ?_
     exact⟨rfl,(decide (a5<x9)),Ql,hm,Xe⟩
   clear hm;rintro K w9 ⟨hm,K9⟩
   have bL:=K9.size
   unfold Qgs at hm
   refine Si hm rfl (fun c1 hm=>?_) (fun c1 hm=>?_)
   · refine Jn<|Xh ?_
     have aQ:=((n.gr G8).kz K9)
     have aR:=((p.gr G8).kz K9)
     have aS:=((o.gr G8).kz K9)
     have K_63:Kz [(1,b2),(1,b3),(1,b4)] w7 w9:=((Kz.gr (Kz.refl _ _) G8).kz K9)
     have Kq63:Kp ([b2,b3,b4]) w7 w9:=Lo K_63 (by intro k hk;simp only[Zh,and_true,List.mem_cons,List.mem_append,Xt,List.not_mem_nil,or_false,false_or,not_or,ne_eq,List.nil_append,List.cons_append,true_and,and_true,false_and,and_false,not_true_eq_false,not_false_eq_true,or_true,true_or] at hk ⊢;omega)
     subst hnx1
     exact⟨Kq63,([b2,b3,b4]),(by intro c hc;simp only[List.mem_cons,List.mem_append,Xt,List.not_mem_nil,or_false,false_or,not_or,ne_eq,List.nil_append,List.cons_append,true_and,and_true,false_and,and_false,not_true_eq_false,not_false_eq_true,or_true,true_or] at hc ⊢;omega),⟨⟨a5,a6,a7⟩,hm,rfl,aQ,aR,aS,trivial⟩⟩
   refine qg 5 rfl<|qn 2 rfl ?_
   have aT:=((n.gr G8).kz K9)
   refine qe rfl (Zp (cs':=[.int .i64 x9]) (Qm).siz rfl rfl rfl aT rfl rfl) ?_
   rintro _ bM ⟨X,L⟩
   have bN:=L.size
   have aU:=(((p.gr G8).kz K9).md L)
   refine qe rfl (Zp (cs':=[.int .i64 e8]) (Qm).siz rfl rfl rfl aU rfl rfl) ?_
   rintro _ bO ⟨Y,M⟩
   have bP:=M.size
   have aV:=((((o.gr G8).kz K9).md L).md M)
   refine qe rfl (Zp (cs':=[.bool false]) (Ns).siz rfl rfl rfl aV rfl rfl) ?_
   rintro _ Z ⟨aa,N⟩
   have bQ:=N.size
   refine Qk<|Xh ?_
   have aW:=((X.md M).md N)
   have aX:=(Y.md N)
   have K_60:Kz [(1,b2),(1,b3),(1,b4)] w7 Z:=(((((Kz.gr (Kz.refl _ _) G8).kz K9).md L).md M).md N)
   have Kq60:Kp ([b2,b3,b4]) w7 Z:=Lo K_60 (by intro k hk;simp only[Zh,and_true,List.mem_cons,List.mem_append,Xt,List.not_mem_nil,or_false,false_or,not_or,ne_eq,List.nil_append,List.cons_append,true_and,and_true,false_and,and_false,not_true_eq_false,not_false_eq_true,or_true,true_or] at hk ⊢;omega)
   subst hnx1
   exact⟨Kq60,([b2,b3,b4]),(by intro c hc;simp only[List.mem_cons,List.mem_append,Xt,List.not_mem_nil,or_false,false_or,not_or,ne_eq,List.nil_append,List.cons_append,true_and,and_true,false_and,and_false,not_true_eq_false,not_false_eq_true,or_true,true_or] at hc ⊢;omega),⟨⟨x9,e8,false⟩,hm,rfl,aW,aX,aa,trivial⟩⟩
 · clear hm;rintro G fp ab aY H ac ⟨⟨a5,a6,a7⟩,hm,rfl,u,y,O,-⟩ ad
   replace hm:=Bs hm
   have ae:Kz [(1,b2),(1,b3),(1,b4)] w5 ab:=Ta ad (by intro k hk;simp only[Zh,and_true,List.mem_cons,List.mem_append,Xt,List.not_mem_nil,or_false,false_or,not_or,ne_eq,List.nil_append,List.cons_append,true_and,and_true,false_and,and_false,not_true_eq_false,not_false_eq_true,or_true,true_or] at hk ⊢;omega)
   have bR:=ad.size
   have bp:=Df.lt (w:=ab) H
   simp only[List.mem_cons,List.mem_append,Xt,List.not_mem_nil,or_false,false_or,not_or,ne_eq,List.nil_append,List.cons_append,true_and,and_true,false_and,and_false,not_true_eq_false,not_false_eq_true,or_true,true_or,not_and] at ac
   have bq:=u.lt
   have br:=y.lt
   have bs:=O.lt
   unfold Qgr at hm
   try dsimp only at hm
   refine Xh<|Xl<|Qe<|dw [([b2,b3]),([b3]),([b2])] [(2,[1]),(3,[2])] (.leaf [(0,11),(1,12),(2,0),(3,0)]) ?_
   intro bS P bu
   refine Zz ?_
   have af:=(u.gr P)
   refine dh 1 rfl rfl (fun w hS=>Qi (v:=.int .i64 a5) Qm rfl (Bx.kp af hS) rfl) ?_
   have ag:=(y.gr P)
   refine dh 2 rfl rfl (fun w hS=>Qi (v:=.int .i64 a6) Qm rfl (Bx.kp ag hS) rfl)<|qz [(1,b2)] rfl (Zp (cs':=[.int .i64 a5]) (Qm).siz rfl rfl rfl af rfl rfl) ⟨fun _=>Qf,nofun,fun _=>Qf,trivial⟩ ?_
   rintro _ bT ⟨ah,I⟩
   have bU:=I.size
   refine kM I ?_
   have aZ:=(ag.md I)
   refine qz [(1,b3)] rfl (Zp (cs':=[.int .i64 a6]) (Qm).siz rfl rfl rfl aZ rfl rfl) ⟨fun _=>Qf,fun _=>Qf,nofun,trivial⟩ ?_
   rintro _ ai ⟨aj,J⟩
   have bV:=J.size
   refine kM J<|Qa<|Qq ?_
   have DL81:=(Df.md (Df.md (Df.gr H P) I) J)
   have Q:=Md.put (w:=ai) G (.deferred none)
   have zL81:=Q.size
   have a4:=((ah.md J).md Q)
   have a8:=(aj.md Q)
   have a9:Gr w (ai.putObj G (.deferred none)):=(((((V.kz ae).trans P).md I).md J).md Q)
   cases hm
   refine⟨_,_,⟨G,rfl,DL81,rfl⟩,Za rfl (Qbe Qm rfl a4) (Qbe Qm rfl a8),?_⟩
   exact⟨rfl,a9⟩
 rintro _ _ _ _ _ _ _ _ _ h _
 exact h.elim
theorem Qdj {p0 p1 p2 p3 bp0 vp0_7 zp0_7 gp0_7 op0_7 vp0_8 zp0_8 gp0_8 op0_8 vp0_9 zp0_9 gp0_9 op0_9 vp0_10 zp0_10 gp0_10 op0_10 r}(hm:Er p0 p1 p2 p3=some r){w:World}(hbp0:Bx w bp0 116 (Xc.cs p0 vp0_7 vp0_8 vp0_9 vp0_10))(d:Rd w zp0_7 gp0_7 op0_7 1 vp0_7 (p0.rows.a0.map ic))(f:Rd w zp0_8 gp0_8 op0_8 1 vp0_8 (p0.rows.a1.map ic))(g:Rd w zp0_9 gp0_9 op0_9 1 vp0_9 (p0.rows.a2.map ic))(c:Rd w zp0_10 gp0_10 op0_10 1 vp0_10 (p0.rows.a3.map ic)):
 Calls Tryz.prog 52 [.pointer (some ⟨bp0,0,none⟩),.int .i64 p1,.int .i64 p2,.int .i64 p3].toArray w fun e w'=>∃ v,e=.returned v∧(v=.tuple [.int .i64 r.1,.int .i64 r.2].toArray∧Gr w w'):=by
 have N:=d.lth
 have O:=f.lth
 have P:=g.lth
 have Q:=c.lth
 have R:=hbp0.lt
 unfold Er at hm
 refine Xi 17 Tryz.func52 rfl rfl rfl<|qs 6 rfl<|qe rfl (Xo rfl rfl) ?_
 rintro _ w1 ⟨b1,rfl,F,i,G1⟩
 have z6:=G1.size
 have S:=i.lt
 refine qe rfl (Xo (cs:=[.int .i64 p1]) rfl rfl) ?_
 rintro _ w2 ⟨b2,rfl,G,j,G2⟩
 have z8:=G2.size
 have T:=j.lt
 refine qe rfl (Xo (cs:=[.int .i64 p2]) rfl rfl) ?_
 rintro _ w3 ⟨b3,rfl,H,k,G3⟩
 have U:=G3.size
 have I:=k.lt
 refine qe rfl (Xo (cs:=[.int .i64 p3]) rfl rfl) ?_
 rintro _ w4 ⟨b4,rfl,J,h,G4⟩
 have V:=G4.size
 have K:=h.lt
 refine qn 2 rfl<|qd 9 rfl ?_
 have l:=(k.gr G4)
 refine qv rfl (Qi (v:=.int .i64 p2) Qm rfl l rfl)<|qv rfl (Qi (v:=.int .i64 p3) Qm rfl h rfl) ?_
 obtain⟨x1,q,hm⟩:=Qd hm
 refine qe rfl (eC Qzk rfl (Xe3 q)) ?_
 rintro _ w5 ⟨m,n,rfl,a,o,b,p,G5⟩
 have W:=G5.size
 have L:=a.lt
 have M:=b.lt
 refine qv rfl (Tu rfl rfl) ?_
 have Y1:=Gr.trans (Gr.trans (Gr.trans (Gr.trans G1 G2) G3) G4) G5
 have s:=(hbp0.gr Y1)
 have t:=(d.gr Y1)
 have u:=(f.gr Y1)
 have x:=(g.gr Y1)
 have y:=(c.gr Y1)
 have Y2:=Gr.trans (Gr.trans (Gr.trans G2 G3) G4) G5
 have z:=(i.gr Y2)
 have Y3:=Gr.trans (Gr.trans G3 G4) G5
 have A:=(j.gr Y3)
 have B:=(l.gr G5)
 have C:=(h.gr G5)
 obtain⟨x2,D,hm⟩:=Qd hm
 refine qe rfl (eC Qq2 rfl (Xe0 D a b s t u x y z A B C)) ?_
 rintro _ w6 ⟨rfl,G6⟩
 have X:=G6.size
 refine qn 4 rfl<|Qa<|Qq ?_
 have E:=(((Gr.refl w).trans Y1).trans G6)
 cases hm
 exact⟨_,_,rfl,Za rfl (Qn rfl) (Qn rfl),rfl,E⟩
theorem Qlk {p0 r}(hm:Yb p0=some r){w:World}:
 Calls Tryz.prog 31 [.agg (Qj.cs p0).toArray].toArray w fun e w'=>∃ v,e=.returned v∧(∃ bc0 uc0_7 zc0_7 gc0_7 uc0_8 zc0_8 gc0_8 uc0_9 zc0_9 gc0_9 uc0_10 zc0_10 gc0_10,v=.pointer (some ⟨bc0,0,none⟩)∧Bx w' bc0 116 (Xc.cs r uc0_7 uc0_8 uc0_9 uc0_10)∧(w.heap.size≤bc0)∧Qg w' zc0_7 gc0_7 3 1 uc0_7 (r.rows.a0.map ic)∧Xd (zc0_7=0∨w.heap.size≤gc0_7)∧Xd (zc0_7=0∨gc0_7≠bc0)∧Qg w' zc0_8 gc0_8 3 1 uc0_8 (r.rows.a1.map ic)∧Xd (zc0_8=0∨w.heap.size≤gc0_8)∧Xd (zc0_8=0∨gc0_8≠bc0)∧Qg w' zc0_9 gc0_9 3 1 uc0_9 (r.rows.a2.map ic)∧Xd (zc0_9=0∨w.heap.size≤gc0_9)∧Xd (zc0_9=0∨gc0_9≠bc0)∧Qg w' zc0_10 gc0_10 3 1 uc0_10 (r.rows.a3.map ic)∧Xd (zc0_10=0∨w.heap.size≤gc0_10)∧Xd (zc0_10=0∨gc0_10≠bc0)∧Xd (zc0_8=0∨zc0_7=0∨gc0_8≠gc0_7)∧Xd (zc0_9=0∨zc0_7=0∨gc0_9≠gc0_7)∧Xd (zc0_9=0∨zc0_8=0∨gc0_9≠gc0_8)∧Xd (zc0_10=0∨zc0_7=0∨gc0_10≠gc0_7)∧Xd (zc0_10=0∨zc0_8=0∨gc0_10≠gc0_8)∧Xd (zc0_10=0∨zc0_9=0∨gc0_10≠gc0_9)∧Gr w w'):=by
 unfold Yb at hm
 refine Xi 116 Tryz.func31 rfl rfl rfl<|qs 2 rfl<|qe rfl (Xo (cs:=Qj.cs p0) rfl rfl) ?_
 rintro _ w1 ⟨b1,rfl,h0,ed,G1⟩
 have z1:=G1.size
 have i5:=ed.lt
 refine qm rfl<|Qa<|Qe<|dw [([])] [] (.leaf [(0,10),(1,10),(2,10),(4,10),(5,10),(6,10),(7,10),(3,0),(8,10),(9,0),(10,10)]) ?_
 intro w2 G2 i6
 refine Zz ?_
 have B3:=(ed.gr G2)
 refine dh 0 rfl rfl (fun w hS=>Xa Zq rfl (Bx.kp B3 hS) rfl)<|dh 0 rfl rfl (fun w hS=>Qh Wo rfl)<|dh 0 rfl rfl (fun w hS=>Qi (v:=.int .i64 p0.Depth) Qm rfl (Bx.kp B3 hS) rfl)<|dh 0 rfl rfl (fun w hS=>Qii (cs:=Dv.cs (Dv.mk 0 1 2 4)) Qw2 rfl rfl)<|dh 0 rfl rfl (fun w hS=>Qh Ye rfl)<|dh 0 rfl rfl (fun w hS=>Qi (v:=bv p0.Kind) Zb rfl (Bx.kp B3 hS) rfl) ?_
 obtain⟨y1,f8,hm⟩:=Qd hm
 refine dh 0 rfl rfl (fun w hS=>Xhh (l:=[0,1,2,4]) (c:=ic) (i:=Qs p0.Kind) Tryz.underlying113 (Qm).siz Qm rfl rfl rfl (Pb _ (fun _=>rfl) (fun _=>rfl)) rfl f8 rfl) ?_
 obtain⟨x2,f9,hm⟩:=Qd hm
 refine qz [] rfl (eC Qz5 rfl (Xe4 f9)) ⟨fun _=>Qf,trivial⟩ ?_
 rintro _ w3 ⟨rfl,G3⟩
 have z4:=G3.size
 refine kG G3 ?_
 have S5:=((Kp.refl ([]) w2).gr G3)
 refine qh 0 rfl rfl S5 (fun w hS=>Zk (cs:=Xc.cs (Xc.mk p0 x2 (Vn.mk [] [] [] []) y1) (.slice none 0 0) (.slice none 0 0) (.slice none 0 0) (.slice none 0 0)) Qwj rfl (Vz rfl rfl rfl (Vz rfl rfl rfl (Vz rfl rfl rfl rfl))))<|qz [] rfl (Xo (cs:=Xc.cs (Xc.mk p0 x2 (Vn.mk [] [] [] []) y1) (.slice none 0 0) (.slice none 0 0) (.slice none 0 0) (.slice none 0 0)) rfl rfl) ⟨fun _=>Qf,trivial⟩ ?_
 rintro _ w4 ⟨b4,rfl,h1,ee,G4⟩
 have z6:=G4.size
 have i7:=ee.lt
 refine kG G4 ?_
 have S8:=(S5.gr G4)
 refine dn 0 rfl rfl S8<|Qa<|Qe<|dw [([])] [] (.leaf [(0,10),(1,10),(2,10),(3,10),(4,10),(5,10),(6,10),(7,10),(8,10),(9,10)]) ?_
 intro w5 G5 i8
 refine Zz<|dh 0 rfl rfl (fun w hS=>Qh Wo rfl) ?_
 have B9:=(((B3.gr G3).gr G4).gr G5)
 refine dh 0 rfl rfl (fun w hS=>Qi (v:=.int .i64 p0.Depth) Qm rfl (Bx.kp B9 hS) rfl)<|dh 0 rfl rfl (fun w hS=>Zd (k:=.i64) (a:=p0.Depth) (b:=1) rfl rfl) ?_
 obtain⟨nn3,hnn3,hm⟩:=Qd hm
 refine dh 0 rfl rfl (fun w hS=>Tf (a:=1) (b:=(Qc (p0.Depth+1))) rfl rfl hnn3)<|dh 0 rfl rfl (fun w hS=>Vx (k:=.i64) (a:=Xw 1 nn3) (b:=1) rfl rfl)<|dh 0 rfl rfl (fun w hS=>Qh Wo rfl)<|dh 0 rfl rfl (fun w hS=>Qi (v:=.int .i64 p0.Depth) Qm rfl (Bx.kp B9 hS) rfl)<|dh 0 rfl rfl (fun w hS=>Zd (k:=.i64) (a:=Qc ((Xw 1 nn3)-1)) (b:=p0.Depth) rfl rfl)<|dh 0 rfl rfl (fun w hS=>Zd (k:=.i64) (a:=Qc ((Qc ((Xw 1 nn3)-1))+p0.Depth)) (b:=1) rfl rfl)<|dm 0 rfl rfl ?_
 refine Qa<|Qe<|qs 5 rfl<|qm rfl<|qv rfl (Hy rfl rfl)<|qv rfl (Qh Qqm rfl) ?_
 have ef:=(ee.gr G5)
 refine qv rfl (Qi (v:=.int .i64 y1) Qm rfl ef rfl)<|qm rfl<|Qa<|Xn ?_
 have ga:=((((((Gr.refl w).trans G1).trans G2).trans G3).trans G4).trans G5)
 refine Kf (α:=Nat × Int × List Int × List Int × List Int × List Int × Value × Nat × Nat × Value × Nat × Nat × Value × Nat × Nat × Value × Nat × Nat) ([5]++rg 33 11) (fun⟨n1,ae,aI,aJ,aK,aL,vy21,zy21,gy21,vy22,zy22,gy22,vy23,zy23,gy23,vy24,zy24,gy24⟩=>[(33,.int .i64 ae)]) (fun⟨n1,ae,aI,aJ,aK,aL,vy21,zy21,gy21,vy22,zy22,gy22,vy23,zy23,gy23,vy24,zy24,gy24⟩ wr=>(Qv (Qh1 p0 y1 x2 nn3) n1 (ae,aI,aJ,aK,aL)=some r)∧Qg wr zy21 gy21 3 1 vy21 (aI.map ic)∧Xd (zy21=0∨w5.heap.size≤gy21)∧Qg wr zy22 gy22 3 1 vy22 (aJ.map ic)∧Xd (zy22=0∨w5.heap.size≤gy22)∧Qg wr zy23 gy23 3 1 vy23 (aK.map ic)∧Xd (zy23=0∨w5.heap.size≤gy23)∧Qg wr zy24 gy24 3 1 vy24 (aL.map ic)∧Xd (zy24=0∨w5.heap.size≤gy24)∧Xd (zy22=0∨zy21=0∨gy22≠gy21)∧Xd (zy23=0∨zy21=0∨gy23≠gy21)∧Xd (zy23=0∨zy22=0∨gy23≠gy22)∧Xd (zy24=0∨zy21=0∨gy24≠gy21)∧Xd (zy24=0∨zy22=0∨gy24≠gy22)∧Xd (zy24=0∨zy23=0∨gy24≠gy23)∧Bx wr b4 116 (Xc.cs (Xc.mk p0 x2 (Vn.mk aI aJ aK aL) y1) vy21 vy22 vy23 vy24)∧Kz [(1,b4)] w5 wr) (fun⟨n1,ae,aI,aJ,aK,aL,vy21,zy21,gy21,vy22,zy22,gy22,vy23,zy23,gy23,vy24,zy24,gy24⟩=>n1) ⟨Xb,0,[],[],[],[],(.slice none 0 0),0,0,(.slice none 0 0),0,0,(.slice none 0 0),0,0,(.slice none 0 0),0,0⟩ ?_ ?_ ?_
 · exact Ql
 · exact⟨hm,(Zi _ 0 3 1),⟨(.inl rfl)⟩,(Zi _ 0 3 1),⟨(.inl rfl)⟩,(Zi _ 0 3 1),⟨(.inl rfl)⟩,(Zi _ 0 3 1),⟨(.inl rfl)⟩,⟨(.inl rfl)⟩,⟨(.inl rfl)⟩,⟨(.inl rfl)⟩,⟨(.inl rfl)⟩,⟨(.inl rfl)⟩,⟨(.inl rfl)⟩,ef,Kz.refl _ _⟩
 clear hm;rintro⟨n1,ae,aI,aJ,aK,aL,vy21,zy21,gy21,vy22,zy22,gy22,vy23,zy23,gy23,vy24,zy24,gy24⟩ w6 ⟨hm,aT,d,aU,f,aV,g,aW,h,aX,aY,aD,aE,aF,aG,ak,K6⟩
 have i9:=K6.size
 have a5:=aT.lth
 have a6:=aU.lth
 have a7:=aV.lth
 have a8:=aW.lth
 have h2:=ak.lt
 have hb:=Kl hm;clear hm;obtain⟨n1,rfl,hm⟩:=hb
 generalize a9:Qv (Qh1 p0 y1 x2 nn3) n1=h3 at hm
 unfold Qh1 at hm
 try dsimp only at hm
 refine qs 1 rfl<|qv rfl (Jv (a:=ae) (b:=y1) rfl rfl)<|Qa<|Qe<|Zv hm rfl (fun c1 hm=>?_) (fun c1 hm=>?_)
 · refine qu<|Qe<|Xn<|qs 2 rfl<|qm rfl ?_
   refine qm rfl<|Qa<|dw [([b4])] [] (.leaf [(0,10),(1,10),(2,10),(4,10),(5,10),(3,0),(6,10),(7,0)]) ?_
   intro w7 G7 ja
   refine Zz<|dm 0 rfl rfl<|dm 0 rfl rfl<|dm 0 rfl rfl<|dh 0 rfl rfl (fun w hS=>Hy rfl rfl)<|dh 0 rfl rfl (fun w hS=>Qh Qkc rfl) ?_
   obtain⟨bk,eg,hm⟩:=Qd hm
   refine qz [] rfl (Qqk (c:=ic) (a:=0) Qnw Sd rfl ⟨rfl,rfl⟩ rfl eg (by decide)) ⟨fun _=>Qf,trivial⟩ ?_
   rintro bl w8 ⟨bm,h4,ba,G8⟩
   have jb:=G8.size
   have h5:=ba.lth
   refine kG G8 ?_
   by_cases c2:ae=0
   · replace hm:=Hg c2 hm
     have gb:=((Kp.refl ([b4]) w7).gr G8)
     refine qh 0 rfl rfl gb (fun w hS=>Nc 0 Tryz.underlying114 (Vr).siz rfl rfl c2 (by decide)) ?_
     have Y1:=Gr.trans G7 G8
     have gc:=(ak.gr Y1)
     refine qz [(1,b4)] rfl (Zp (cs':=Xc.cs (Xc.mk p0 x2 (Vn.mk bk aJ aK aL) y1) bl vy22 vy23 vy24) (Vr).siz rfl rfl (Qg.oneB ba) gc rfl rfl) ⟨fun _=>Qf,trivial⟩ ?_
     rintro _ w9 ⟨gf,M9⟩
     have jc:=M9.size
     refine kM M9<|Qk<|Xh<|Xl<|qg 2 rfl<|qv rfl (Zd (k:=.i64) (a:=ae) (b:=1) rfl rfl)<|qm rfl ?_
     refine Qk ?_
     have K_23:Kz [(1,b4)] w5 w9:=((K6.gr Y1).md M9)
     have gg:=(ba.md M9 (Qb ((.inr Qf):1=0∨bm≠b4)))
     have gh:=((aU.gr Y1).md M9 (Qr f))
     have gi:=((aV.gr Y1).md M9 (Qr g))
     have gj:=((aW.gr Y1).md M9 (Qr h))
     subst a9
     exact⟨rfl,⟨n1,Qc (ae+1),bk,aJ,aK,aL,bl,1,bm,vy22,zy22,gy22,vy23,zy23,gy23,vy24,zy24,gy24⟩,Ql,⟨hm,gg,⟨(.inr Qf)⟩,gh,⟨(Xm (A:=(fun x=>w5.heap.size≤x)) f)⟩,gi,⟨(Xm (A:=(fun x=>w5.heap.size≤x)) g)⟩,gj,⟨(Xm (A:=(fun x=>w5.heap.size≤x)) h)⟩,⟨(Jh (.inr (Qb a6.o)))⟩,⟨(Jh (.inr (Qb a7.o)))⟩,⟨(Qb aD.o)⟩,⟨(Jh (.inr (Qb a8.o)))⟩,⟨(Qb aF.o)⟩,⟨(Qb aG.o)⟩,gf,K_23⟩,Nat.lt_succ_self _⟩
   replace hm:=Hf c2 hm
   by_cases c3:ae=1
   · replace hm:=Hg c3 hm
     have gk:=((Kp.refl ([b4]) w7).gr G8)
     refine qh 0 rfl rfl gk (fun w hS=>Nc 1 Tryz.underlying114 (Vr).siz rfl rfl c3 (by decide)) ?_
     have Y2:=Gr.trans G7 G8
     have gl:=(ak.gr Y2)
     refine qz [(1,b4)] rfl (Zp (cs':=Xc.cs (Xc.mk p0 x2 (Vn.mk aI bk aK aL) y1) vy21 bl vy23 vy24) (Vr).siz rfl rfl (Qg.oneB ba) gl rfl rfl) ⟨fun _=>Qf,trivial⟩ ?_
     rintro _ gm ⟨eh,bs⟩
     have jd:=bs.size
     refine kM bs<|Qk<|Xh<|Xl<|qg 2 rfl<|qv rfl (Zd (k:=.i64) (a:=ae) (b:=1) rfl rfl)<|qm rfl ?_
     refine Qk ?_
     have K_31:Kz [(1,b4)] w5 gm:=((K6.gr Y2).md bs)
     have gn:=((aT.gr Y2).md bs (Qr d))
     have go:=(ba.md bs (Qb ((.inr Qf):1=0∨bm≠b4)))
     have gp:=((aV.gr Y2).md bs (Qr g))
     have gq:=((aW.gr Y2).md bs (Qr h))
     subst a9
     exact⟨rfl,⟨n1,Qc (ae+1),aI,bk,aK,aL,vy21,zy21,gy21,bl,1,bm,vy23,zy23,gy23,vy24,zy24,gy24⟩,Ql,⟨hm,gn,⟨(Xm (A:=(fun x=>w5.heap.size≤x)) d)⟩,go,⟨(.inr Qf)⟩,gp,⟨(Xm (A:=(fun x=>w5.heap.size≤x)) g)⟩,gq,⟨(Xm (A:=(fun x=>w5.heap.size≤x)) h)⟩,⟨(.inr (Qb a5.o))⟩,⟨(Qb aY.o)⟩,⟨(Jh (.inr (Qb a7.o)))⟩,⟨(Qb aE.o)⟩,⟨(Jh (.inr (Qb a8.o)))⟩,⟨(Qb aG.o)⟩,eh,K_31⟩,Nat.lt_succ_self _⟩
   replace hm:=Hf c3 hm
   by_cases c4:ae=2
   · replace hm:=Hg c4 hm
     have gs:=((Kp.refl ([b4]) w7).gr G8)
     refine qh 0 rfl rfl gs (fun w hS=>Nc 2 Tryz.underlying114 (Vr).siz rfl rfl c4 (by decide)) ?_
     have Y3:=Gr.trans G7 G8
     have gu:=(ak.gr Y3)
     refine qz [(1,b4)] rfl (Zp (cs':=Xc.cs (Xc.mk p0 x2 (Vn.mk aI aJ bk aL) y1) vy21 vy22 bl vy24) (Vr).siz rfl rfl (Qg.oneB ba) gu rfl rfl) ⟨fun _=>Qf,trivial⟩ ?_
     rintro _ gv ⟨ei,bu⟩
     have je:=bu.size
     refine kM bu<|Qk<|Xh<|Xl<|qg 2 rfl<|qv rfl (Zd (k:=.i64) (a:=ae) (b:=1) rfl rfl)<|qm rfl ?_
     refine Qk ?_
     have K_39:Kz [(1,b4)] w5 gv:=((K6.gr Y3).md bu)
     have gw:=((aT.gr Y3).md bu (Qr d))
     have gx:=((aU.gr Y3).md bu (Qr f))
     have gy:=(ba.md bu (Qb ((.inr Qf):1=0∨bm≠b4)))
     have gz:=((aW.gr Y3).md bu (Qr h))
     subst a9
     exact⟨rfl,⟨n1,Qc (ae+1),aI,aJ,bk,aL,vy21,zy21,gy21,vy22,zy22,gy22,bl,1,bm,vy24,zy24,gy24⟩,Ql,⟨hm,gw,⟨(Xm (A:=(fun x=>w5.heap.size≤x)) d)⟩,gx,⟨(Xm (A:=(fun x=>w5.heap.size≤x)) f)⟩,gy,⟨(.inr Qf)⟩,gz,⟨(Xm (A:=(fun x=>w5.heap.size≤x)) h)⟩,⟨(Qb aX.o)⟩,⟨(.inr (Qb a5.o))⟩,⟨(.inr (Qb a6.o))⟩,⟨(Qb aE.o)⟩,⟨(Qb aF.o)⟩,⟨(Jh (.inr (Qb a8.o)))⟩,ei,K_39⟩,Nat.lt_succ_self _⟩
   replace hm:=Hf c4 hm
   by_cases c5:ae=3
   · replace hm:=Hg c5 hm
     have gA:=((Kp.refl ([b4]) w7).gr G8)
     refine qh 0 rfl rfl gA (fun w hS=>Nc 3 Tryz.underlying114 (Vr).siz rfl rfl c5 (by decide)) ?_
     have Y4:=Gr.trans G7 G8
     have gB:=(ak.gr Y4)
     refine qz [(1,b4)] rfl (Zp (cs':=Xc.cs (Xc.mk p0 x2 (Vn.mk aI aJ aK bk) y1) vy21 vy22 vy23 bl) (Vr).siz rfl rfl (Qg.oneB ba) gB rfl rfl) ⟨fun _=>Qf,trivial⟩ ?_
     rintro _ gC ⟨ej,bw⟩
     have jf:=bw.size
     refine kM bw<|Qk<|Xh<|Xl<|qg 2 rfl<|qv rfl (Zd (k:=.i64) (a:=ae) (b:=1) rfl rfl)<|qm rfl ?_
     refine Qk ?_
     have K_47:Kz [(1,b4)] w5 gC:=((K6.gr Y4).md bw)
     have gD:=((aT.gr Y4).md bw (Qr d))
     have gE:=((aU.gr Y4).md bw (Qr f))
     have gF:=((aV.gr Y4).md bw (Qr g))
     have gG:=(ba.md bw (Qb ((.inr Qf):1=0∨bm≠b4)))
     subst a9
     exact⟨rfl,⟨n1,Qc (ae+1),aI,aJ,aK,bk,vy21,zy21,gy21,vy22,zy22,gy22,vy23,zy23,gy23,bl,1,bm⟩,Ql,⟨hm,gD,⟨(Xm (A:=(fun x=>w5.heap.size≤x)) d)⟩,gE,⟨(Xm (A:=(fun x=>w5.heap.size≤x)) f)⟩,gF,⟨(Xm (A:=(fun x=>w5.heap.size≤x)) g)⟩,gG,⟨(.inr Qf)⟩,⟨(Qb aX.o)⟩,⟨(Qb aY.o)⟩,⟨(Qb aD.o)⟩,⟨(.inr (Qb a5.o))⟩,⟨(.inr (Qb a6.o))⟩,⟨(.inr (Qb a7.o))⟩,ej,K_47⟩,Nat.lt_succ_self _⟩
   replace hm:=Hf c5 hm
   cases hm
 refine Jl<|Xu<|Xu<|Jk<|Xl<|Qe<|Qe ?_
 refine qg 4 rfl<|qv rfl (Qh Wo rfl) ?_
 have bb:=(B9.kz K6)
 refine qv rfl (Qi (v:=.int .i64 p0.Depth) Qm rfl bb rfl)<|qv rfl (Zd (k:=.i64) (a:=p0.Depth) (b:=1) rfl rfl)<|qm rfl<|Qa<|Xn ?_
 have ek:=(ga.kz K6)
 refine Kf (α:=Nat × Int × List Int × List Int × List Int × List Int) ([6,7,8,9]++rg 47 68) (fun⟨n2,j,bx,bz,bA,bB⟩=>[(47,.int .i64 j)]) (fun⟨n2,j,bx,bz,bA,bB⟩ wr=>(Qv (Qh4 p0 y1 x2) n2 (j,bx,bz,bA,bB)=some r)∧Qg wr zy21 gy21 3 1 vy21 (bx.map ic)∧Xd (zy21=0∨(gy21=gy21∧zy21≠0)∨w6.heap.size≤gy21)∧Qg wr zy22 gy22 3 1 vy22 (bz.map ic)∧Xd (zy22=0∨(gy22=gy22∧zy22≠0)∨w6.heap.size≤gy22)∧Qg wr zy23 gy23 3 1 vy23 (bA.map ic)∧Xd (zy23=0∨(gy23=gy23∧zy23≠0)∨w6.heap.size≤gy23)∧Qg wr zy24 gy24 3 1 vy24 (bB.map ic)∧Xd (zy24=0∨(gy24=gy24∧zy24≠0)∨w6.heap.size≤gy24)∧Xd (zy22=0∨zy21=0∨gy22≠gy21)∧Xd (zy23=0∨zy21=0∨gy23≠gy21)∧Xd (zy23=0∨zy22=0∨gy23≠gy22)∧Xd (zy24=0∨zy21=0∨gy24≠gy21)∧Xd (zy24=0∨zy22=0∨gy24≠gy22)∧Xd (zy24=0∨zy23=0∨gy24≠gy23)∧Bx wr b4 116 (Xc.cs (Xc.mk p0 x2 (Vn.mk bx bz bA bB) y1) vy21 vy22 vy23 vy24)∧Kz [(1,b4),(zy21,gy21),(zy22,gy22),(zy23,gy23),(zy24,gy24)] w6 wr) (fun⟨n2,j,bx,bz,bA,bB⟩=>n2) ⟨Xb,0,aI,aJ,aK,aL⟩ ?_ ?_ ?_
 · exact Ql
 · exact⟨hm,aT,⟨Qf⟩,aU,⟨Qf⟩,aV,⟨Qf⟩,aW,⟨Qf⟩,⟨(Qb aX.o)⟩,⟨(Qb aY.o)⟩,⟨(Qb aD.o)⟩,⟨(Qb aE.o)⟩,⟨(Qb aF.o)⟩,⟨(Qb aG.o)⟩,ak,Kz.refl _ _⟩
 clear hm;rintro⟨n2,j,bx,bz,bA,bB⟩ aM ⟨hm,bc,z,bd,B,bf,C,bg,D,bC,bD,bo,bp,bq,br,aH,aQ⟩
 have jg:=aQ.size
 have h6:=bc.lth
 have h7:=bd.lth
 have h8:=bf.lth
 have h9:=bg.lth
 have ia:=aH.lt
 have hb:=Kl hm;clear hm;obtain⟨n2,rfl,hm⟩:=hb
 generalize dy:Qv (Qh4 p0 y1 x2) n2=cr at hm
 unfold Qh4 at hm
 try dsimp only at hm
 refine qs 1 rfl<|qv rfl (Jv (a:=j) (b:=Qc (p0.Depth+1)) rfl rfl)<|Qa<|Qe<|Kx hm rfl (fun c6 hm=>?_) (fun c6 hm=>?_)
 · refine Jl<|Xu<|Xu<|Jk<|Xl<|qs 2 rfl ?_
   refine qn 2 rfl<|Qa<|Qq ?_
   have el:=(ek.kz aQ (Wa (Xm (A:=(fun x=>w.heap.size≤x)) f) (Xm (A:=(fun x=>w.heap.size≤x)) g) (Xm (A:=(fun x=>w.heap.size≤x)) h) (Xm (A:=(fun x=>w.heap.size≤x)) d)))
   cases hm
   exact⟨_,_,rfl,Qz rfl (Qn rfl),b4,vy21,zy21,gy21,vy22,zy22,gy22,vy23,zy23,gy23,vy24,zy24,gy24,rfl,aH,by omega,bc,⟨(Qp (A:=(fun x=>w.heap.size≤x)) z (Xm (A:=(fun x=>w.heap.size≤x)) d))⟩,⟨(Qp (A:=(fun x=>x≠b4)) z (Xm (A:=(fun x=>x≠b4)) d))⟩,bd,⟨(Qp (A:=(fun x=>w.heap.size≤x)) B (Xm (A:=(fun x=>w.heap.size≤x)) f))⟩,⟨(Qp (A:=(fun x=>x≠b4)) B (Xm (A:=(fun x=>x≠b4)) f))⟩,bf,⟨(Qp (A:=(fun x=>w.heap.size≤x)) C (Xm (A:=(fun x=>w.heap.size≤x)) g))⟩,⟨(Qp (A:=(fun x=>x≠b4)) C (Xm (A:=(fun x=>x≠b4)) g))⟩,bg,⟨(Qp (A:=(fun x=>w.heap.size≤x)) D (Xm (A:=(fun x=>w.heap.size≤x)) h))⟩,⟨(Qp (A:=(fun x=>x≠b4)) D (Xm (A:=(fun x=>x≠b4)) h))⟩,⟨(Qb bC.o)⟩,⟨(Qb bD.o)⟩,⟨(Qb bo.o)⟩,⟨(Qb bp.o)⟩,⟨(Qb bq.o)⟩,⟨(Qb br.o)⟩,el⟩
 refine qu<|Qe<|Xn<|qs 2 rfl<|qm rfl ?_
 refine qm rfl<|qd 5 rfl<|qm rfl<|qv rfl (Hy rfl rfl)<|qv rfl (Qh Qqm rfl) ?_
 refine qv rfl (Qi (v:=.int .i64 y1) Qm rfl aH rfl)<|qm rfl<|Qa<|Xn ?_
 have ce:=(ek.kz aQ (Wa (Xm (A:=(fun x=>w.heap.size≤x)) f) (Xm (A:=(fun x=>w.heap.size≤x)) g) (Xm (A:=(fun x=>w.heap.size≤x)) h) (Xm (A:=(fun x=>w.heap.size≤x)) d)))
 refine Kf (α:=Nat × Int × List Int × List Int × List Int × List Int) ([7,8,9]++rg 54 60) (fun⟨n3,E,L,M,N,O⟩=>[(54,.int .i64 E)]) (fun⟨n3,E,L,M,N,O⟩ wr=>(Qv (Qh5 p0 y1 x2 j cr) n3 (E,L,M,N,O)=some r)∧Qg wr zy21 gy21 3 1 vy21 (L.map ic)∧Xd (zy21=0∨(gy21=gy21∧zy21≠0)∨aM.heap.size≤gy21)∧Qg wr zy22 gy22 3 1 vy22 (M.map ic)∧Xd (zy22=0∨(gy22=gy22∧zy22≠0)∨aM.heap.size≤gy22)∧Qg wr zy23 gy23 3 1 vy23 (N.map ic)∧Xd (zy23=0∨(gy23=gy23∧zy23≠0)∨aM.heap.size≤gy23)∧Qg wr zy24 gy24 3 1 vy24 (O.map ic)∧Xd (zy24=0∨(gy24=gy24∧zy24≠0)∨aM.heap.size≤gy24)∧Xd (zy22=0∨zy21=0∨gy22≠gy21)∧Xd (zy23=0∨zy21=0∨gy23≠gy21)∧Xd (zy23=0∨zy22=0∨gy23≠gy22)∧Xd (zy24=0∨zy21=0∨gy24≠gy21)∧Xd (zy24=0∨zy22=0∨gy24≠gy22)∧Xd (zy24=0∨zy23=0∨gy24≠gy23)∧Bx wr b4 116 (Xc.cs (Xc.mk p0 x2 (Vn.mk L M N O) y1) vy21 vy22 vy23 vy24)∧Kz [(1,b4),(zy21,gy21),(zy22,gy22),(zy23,gy23),(zy24,gy24)] aM wr) (fun⟨n3,E,L,M,N,O⟩=>n3) ⟨Xb,0,bx,bz,bA,bB⟩ ?_ ?_ ?_
 · exact Ql
 · exact⟨hm,bc,⟨Qf⟩,bd,⟨Qf⟩,bf,⟨Qf⟩,bg,⟨Qf⟩,⟨(Qb bC.o)⟩,⟨(Qb bD.o)⟩,⟨(Qb bo.o)⟩,⟨(Qb bp.o)⟩,⟨(Qb bq.o)⟩,⟨(Qb br.o)⟩,aH,Kz.refl _ _⟩
 clear hm;rintro⟨n3,E,L,M,N,O⟩ gH ⟨hm,al,n,am,s,an,t,ao,u,P,Q,F,G,H,I,V,af⟩
 have jh:=af.size
 have bI:=al.lth
 have bJ:=am.lth
 have bK:=an.lth
 have bL:=ao.lth
 have ib:=V.lt
 have hb:=Kl hm;clear hm;obtain⟨n3,rfl,hm⟩:=hb
 generalize bh:Qv (Qh5 p0 y1 x2 j cr) n3=aP at hm
 unfold Qh5 at hm
 try dsimp only at hm
 refine qs 1 rfl<|qv rfl (Jv (a:=E) (b:=y1) rfl rfl)<|Qa<|Qe<|Kx hm rfl (fun c7 hm=>?_) (fun c7 hm=>?_)
 · refine Jl<|Xu<|Xu<|Jk<|Xh<|Xl<|qg 2 rfl ?_
   refine qv rfl (Zd (k:=.i64) (a:=j) (b:=1) rfl rfl)<|qm rfl<|Qk ?_
   have K_292:Kz [(1,b4),(zy21,gy21),(zy22,gy22),(zy23,gy23),(zy24,gy24)] w6 gH:=(aQ.kz af (Wa (Qf:zy21=0∨(gy21=gy21∧zy21≠0)∨(gy21=gy22∧zy22≠0)∨(gy21=gy23∧zy23≠0)∨(gy21=gy24∧zy24≠0)∨w6.heap.size≤gy21) (Qf:zy22=0∨(gy22=gy21∧zy21≠0)∨(gy22=gy22∧zy22≠0)∨(gy22=gy23∧zy23≠0)∨(gy22=gy24∧zy24≠0)∨w6.heap.size≤gy22) (Qf:zy23=0∨(gy23=gy21∧zy21≠0)∨(gy23=gy22∧zy22≠0)∨(gy23=gy23∧zy23≠0)∨(gy23=gy24∧zy24≠0)∨w6.heap.size≤gy23) (Qf:zy24=0∨(gy24=gy21∧zy21≠0)∨(gy24=gy22∧zy22≠0)∨(gy24=gy23∧zy23≠0)∨(gy24=gy24∧zy24≠0)∨w6.heap.size≤gy24)))
   subst dy
   exact⟨rfl,⟨n2,Qc (j+1),L,M,N,O⟩,Ql,⟨hm,al,⟨Qf⟩,am,⟨Qf⟩,an,⟨Qf⟩,ao,⟨Qf⟩,⟨(Qb P.o)⟩,⟨(Qb Q.o)⟩,⟨(Qb F.o)⟩,⟨(Qb G.o)⟩,⟨(Qb H.o)⟩,⟨(Qb I.o)⟩,V,K_292⟩,Nat.lt_succ_self _⟩
 refine qu<|Qe<|Xn<|qs 2 rfl<|qm rfl ?_
 refine qm rfl<|qd 5 rfl<|qn 3 rfl ?_
 refine Cj 28 Tryz.func50 rfl rfl rfl Qf8 rfl rfl rfl rfl rfl<|qs 1 rfl<|qm rfl<|qd 6 rfl ?_
 refine qm rfl ?_
 obtain⟨nn65,hnn65,hm⟩:=Qd hm
 refine qv rfl (Tf (a:=1) (b:=j) rfl rfl hnn65)<|qv rfl (Vx (k:=.i64) (a:=Xw 1 nn65) (b:=1) rfl rfl)<|qm rfl<|qv rfl (Zd (k:=.i64) (a:=Qc ((Xw 1 nn65)-1)) (b:=j) rfl rfl)<|qm rfl<|Qa<|Qe ?_
 refine qg 5 rfl<|qn 2 rfl ?_
 obtain⟨gI,em,hm⟩:=Qd hm
 refine qe rfl (eC Qq6 rfl (Qsz em)) ?_
 rintro _ m ⟨rfl,y⟩
 have ji:=y.size
 refine qv rfl (Zd (k:=.i64) (a:=Qc ((Qc ((Xw 1 nn65)-1))+j)) (b:=gI) rfl rfl)<|qm rfl<|qd 11 rfl<|qn 2 rfl ?_
 refine qv rfl (Hy rfl rfl)<|qv rfl (Qh Qkc rfl) ?_
 by_cases c8:E=0
 · replace hm:=Hg c8 hm
   refine qv rfl (Nc 0 Tryz.underlying114 (Vr).siz rfl rfl c8 (by decide)) ?_
   have en:=(V.gr y)
   refine qv rfl (Qi (v:=vy21) Vr rfl en rfl)<|qn 3 rfl ?_
   have eo:=(al.gr y)
   obtain⟨nn67,hnn67,hm⟩:=Qd hm
   refine qv rfl (Qip (c:=ic) Tryz.underlying30 (Qm).siz rfl eo rfl rfl rfl hnn67)<|qm rfl<|Qa<|Qq<|⟨_,_,rfl,Qz rfl (Qn rfl),?_⟩
   refine qm rfl<|qd 3 rfl<|qm rfl<|qv rfl (Qbo Tryz.underlying30 rfl)<|qm rfl ?_
   refine Qa<|Xn ?_
   have gJ:=((ce.kz af (Wa (Qp (A:=(fun x=>w.heap.size≤x)) z (Xm (A:=(fun x=>w.heap.size≤x)) d)) (Qp (A:=(fun x=>w.heap.size≤x)) B (Xm (A:=(fun x=>w.heap.size≤x)) f)) (Qp (A:=(fun x=>w.heap.size≤x)) C (Xm (A:=(fun x=>w.heap.size≤x)) g)) (Qp (A:=(fun x=>w.heap.size≤x)) D (Xm (A:=(fun x=>w.heap.size≤x)) h)))).trans y)
   have dz:=(am.gr y)
   have dA:=(an.gr y)
   have dB:=(ao.gr y)
   refine Kf (α:=Nat × Int × List Int) ([9]++rg 63 50) (fun⟨n4,Y,aN⟩=>[(63,.int .i64 Y)]) (fun⟨n4,Y,aN⟩ wr=>(Qv (Qh6 p0 y1 x2 j E M N O aP nn65 nn67) n4 (Y,aN)=some r)∧Qg wr zy21 gy21 3 1 vy21 (aN.map ic)∧Xd (zy21=0∨(gy21=gy21∧zy21≠0)∨m.heap.size≤gy21)∧Bx wr b4 116 (Xc.cs (Xc.mk p0 x2 (Vn.mk aN M N O) y1) vy21 vy22 vy23 vy24)∧Kz [(1,b4),(zy21,gy21)] m wr) (fun⟨n4,Y,aN⟩=>n4) ⟨Xb,0,L⟩ ?_ ?_ ?_
   · exact Ql
   · exact⟨hm,eo,⟨Qf⟩,en,Kz.refl _ _⟩
   clear hm;rintro⟨n4,Y,aN⟩ ep ⟨hm,ap,Z,aq,ag⟩
   have jj:=ag.size
   have ie:=ap.lth
   have ig:=aq.lt
   have hb:=Kl hm;clear hm;obtain⟨n4,rfl,hm⟩:=hb
   generalize bi:Qv (Qh6 p0 y1 x2 j E M N O aP nn65 nn67) n4=ct at hm
   unfold Qh6 at hm
   try dsimp only at hm
   refine qs 1 rfl<|qv rfl (Jv (a:=Y) (b:=(nn67:Int)) rfl rfl)<|Qa<|Qe<|Kx hm rfl (fun c9 hm=>?_) (fun c9 hm=>?_)
   · refine Jl<|Xu<|Xu<|Jk<|Xh<|Xl<|qg 2 rfl ?_
     refine qv rfl (Zd (k:=.i64) (a:=E) (b:=1) rfl rfl)<|qm rfl<|Qk ?_
     have K_120:Kz [(1,b4),(zy21,gy21),(zy22,gy22),(zy23,gy23),(zy24,gy24)] aM ep:=((af.gr y).kz ag (Qb (Qf:zy21=0∨(gy21=gy21∧zy21≠0)∨(gy21=gy22∧zy22≠0)∨(gy21=gy23∧zy23≠0)∨(gy21=gy24∧zy24≠0)∨aM.heap.size≤gy21)))
     have er:=(dz.kz ag (Zc ((Qb P.o):zy22=0∨zy21=0∨gy22≠gy21) (Qo (b:=b4) s (Qr f))))
     have es:=(dA.kz ag (Zc ((Qb Q.o):zy23=0∨zy21=0∨gy23≠gy21) (Qo (b:=b4) t (Qr g))))
     have et:=(dB.kz ag (Zc ((Qb G.o):zy24=0∨zy21=0∨gy24≠gy21) (Qo (b:=b4) u (Qr h))))
     subst bh
     exact⟨rfl,⟨n3,Qc (E+1),aN,M,N,O⟩,Ql,⟨hm,ap,⟨Qf⟩,er,⟨Qf⟩,es,⟨Qf⟩,et,⟨Qf⟩,⟨(Jh (Qp (A:=(fun x=>zy22=0∨x≠gy22)) Z (Jh (Qp (A:=(fun x=>zy21=0∨x≠gy21)) s (Qb aX.o) (fun x hx=>(Qb a5.o)))) (fun x hx=>(Qb bJ.o))))⟩,⟨(Jh (Qp (A:=(fun x=>zy23=0∨x≠gy23)) Z (Jh (Qp (A:=(fun x=>zy21=0∨x≠gy21)) t (Qb aY.o) (fun x hx=>(Qb a5.o)))) (fun x hx=>(Qb bK.o))))⟩,⟨(Qb F.o)⟩,⟨(Jh (Qp (A:=(fun x=>zy24=0∨x≠gy24)) Z (Jh (Qp (A:=(fun x=>zy21=0∨x≠gy21)) u (Qb aE.o) (fun x hx=>(Qb a5.o)))) (fun x hx=>(Qb bL.o))))⟩,⟨(Qb H.o)⟩,⟨(Qb I.o)⟩,aq,K_120⟩,Nat.lt_succ_self _⟩
   refine qu<|Qe<|Xn<|qs 2 rfl<|qm rfl ?_
   refine qm rfl<|Qa<|Xn ?_
   have gK:=(gJ.kz ag (Qb (Qp (A:=(fun x=>w.heap.size≤x)) n (Xm (A:=(fun x=>w.heap.size≤x)) d))))
   refine qj (β:=Bool) (rg 77 8) (fun cf=>[(77,.bool cf)]) (fun cf wr=>(Qgz p0 y1 x2 j E M N O nn65 nn67 Y aN ct cf=some r)∧Kz [] ep wr) ?_ ?_
   · refine qg 8 rfl<|qv rfl (Qh Ye rfl) ?_
     have eu:=((((bb.kz aQ (Wa (Qr (b:=b1) f) (Qr (b:=b1) g) (Qr (b:=b1) h) (Qr (b:=b1) d))).kz af (Wa (Qo (b:=b1) z (Qr d)) (Qo (b:=b1) B (Qr f)) (Qo (b:=b1) C (Qr g)) (Qo (b:=b1) D (Qr h)))).gr y).kz ag (Qb (Qo (b:=b1) n (Qr d))))
     refine qv rfl (Qi (v:=bv p0.Kind) Zb rfl eu rfl)<|qv rfl (Vt (p:=p0.Kind) (q:=1#8) rfl rfl)<|Ji hm rfl (Qt rfl) (fun gL hm=>?_) (fun gL hm=>?_)
     · refine qm rfl<|qv rfl (Zu (a:=Y) (b:=0) rfl rfl)<|qn 2 rfl<|Qk ?_
       exact⟨rfl,(decide (Y=0)),Ql,hm,Xe⟩
     refine qn 4 rfl<|Qk ?_
     exact⟨rfl,false,Ql,hm,Xe⟩
   clear hm;rintro cf gM ⟨hm,R⟩
   have jk:=R.size
   unfold Qgz at hm
   refine Jo hm rfl (fun gN hm=>?_) (fun gN hm=>?_)
   · refine qg 4 rfl<|qn 2 rfl ?_
     obtain⟨ew,ex,hm⟩:=Qd hm
     obtain⟨jl,cu,hm⟩:=Qd hm
     refine qv rfl (Dq (sz:=1) rfl (Dp hnn67) Tryz.underlying30 (Qm).siz rfl rfl ex) ?_
     have ey:=(ap.kz R)
     have ih:=Qg.z1 ey cu
     refine qe rfl (Pj (i:=ew) (q:=0) (a':=1) (vs:=[.int .i64 1]) (c:=ic) (Qm).siz rfl rfl rfl rfl rfl ey cu (by first|rfl|omega) rfl rfl ⟨rfl,rfl⟩) ?_
     rintro _ gO ⟨ez,dC⟩
     have jm:=dC.size
     refine Qk<|Xh<|Xh<|Xl<|qg 2 rfl<|qv rfl (Zd (k:=.i64) (a:=Y) (b:=1) rfl rfl)<|qm rfl ?_
     refine Qk ?_
     have K_82:Kz [(1,b4),(zy21,gy21)] m gO:=((ag.kz R).md dC (Qb (Qf:zy21=0∨(gy21=gy21∧zy21≠0)∨m.heap.size≤gy21)))
     have gP:=((aq.kz R).md dC (Qb (Qo (b:=b4) Z (Qr d))))
     subst bi
     exact⟨rfl,⟨n4,Qc (Y+1),aN.set ew.toNat 1⟩,Ql,⟨hm,ez,⟨Qf⟩,gP,K_82⟩,Nat.lt_succ_self _⟩
   have jn:=(gK.kz R)
   refine qj (β:=Bool) (rg 88 12) (fun cg=>[(88,.bool cg)]) (fun cg wr=>(Qdg p0 y1 x2 j E M N O nn65 nn67 Y aN ct cg=some r)∧Kz [] gM wr) ?_ ?_
   · refine qg 12 rfl<|qm rfl<|qv rfl (Zu (a:=Y) (b:=0) rfl rfl)<|Ji hm rfl (Qt rfl) (fun gQ hm=>?_) (fun gQ hm=>?_)
     · refine qn 7 rfl ?_
       refine qn 2 rfl<|Qk ?_
       exact⟨rfl,true,Ql,hm,Xe⟩
     refine qv rfl (Qh Ye rfl) ?_
     have eA:=(((((bb.kz aQ (Wa (Qr (b:=b1) f) (Qr (b:=b1) g) (Qr (b:=b1) h) (Qr (b:=b1) d))).kz af (Wa (Qo (b:=b1) z (Qr d)) (Qo (b:=b1) B (Qr f)) (Qo (b:=b1) C (Qr g)) (Qo (b:=b1) D (Qr h)))).gr y).kz ag (Qb (Qo (b:=b1) n (Qr d)))).kz R)
     refine qv rfl (Qi (v:=bv p0.Kind) Zb rfl eA rfl)<|qv rfl (Vt (p:=p0.Kind) (q:=1#8) rfl rfl)<|Ji hm rfl (Qt rfl) (fun gR hm=>?_) (fun gR hm=>?_)
     · refine qm rfl<|qv rfl (Zu (a:=j) (b:=0) rfl rfl)<|qn 3 rfl<|Qk ?_
       exact⟨rfl,(decide (j=0)),Ql,hm,Xe⟩
     refine qn 5 rfl<|Qk ?_
     exact⟨rfl,false,Ql,hm,Xe⟩
   clear hm;rintro cg jo ⟨hm,az⟩
   have jp:=az.size
   unfold Qdg at hm
   refine Jo hm rfl (fun gS hm=>?_) (fun gS hm=>?_)
   · refine qg 4 rfl<|qn 2 rfl ?_
     obtain⟨eB,eD,hm⟩:=Qd hm
     obtain⟨jq,cv,hm⟩:=Qd hm
     refine qv rfl (Dq (sz:=1) rfl (Dp hnn67) Tryz.underlying30 (Qm).siz rfl rfl eD) ?_
     have eE:=((ap.kz R).kz az)
     have ii:=Qg.z1 eE cv
     refine qe rfl (Pj (i:=eB) (q:=0) (a':=0) (vs:=[.int .i64 0]) (c:=ic) (Qm).siz rfl rfl rfl rfl rfl eE cv (by first|rfl|omega) rfl rfl ⟨rfl,rfl⟩) ?_
     rintro _ gT ⟨eF,dD⟩
     have jr:=dD.size
     refine Qk<|Xh<|Xh<|Xl<|qg 2 rfl<|qv rfl (Zd (k:=.i64) (a:=Y) (b:=1) rfl rfl)<|qm rfl ?_
     refine Qk ?_
     have K_89:Kz [(1,b4),(zy21,gy21)] m gT:=(((ag.kz R).kz az).md dD (Qb (Qf:zy21=0∨(gy21=gy21∧zy21≠0)∨m.heap.size≤gy21)))
     have gU:=(((aq.kz R).kz az).md dD (Qb (Qo (b:=b4) Z (Qr d))))
     subst bi
     exact⟨rfl,⟨n4,Qc (Y+1),aN.set eB.toNat 0⟩,Ql,⟨hm,eF,⟨Qf⟩,gU,K_89⟩,Nat.lt_succ_self _⟩
   refine qs 3 rfl<|qm rfl<|qv rfl (Zu (a:=j) (b:=0) rfl rfl)<|qm rfl<|Qa<|Zv hm rfl (fun gV hm=>?_) (fun gV hm=>?_)
   · refine qg 7 rfl<|qn 4 rfl ?_
     have eG:=((aq.kz R).kz az)
     have eH:=((ap.kz R).kz az)
     have gW:=(((dz.kz ag (Zc ((Qb P.o):zy22=0∨zy21=0∨gy22≠gy21) (Qo (b:=b4) s (Qr f)))).kz R).kz az)
     have gX:=(((dA.kz ag (Zc ((Qb Q.o):zy23=0∨zy21=0∨gy23≠gy21) (Qo (b:=b4) t (Qr g)))).kz R).kz az)
     have gY:=(((dB.kz ag (Zc ((Qb G.o):zy24=0∨zy21=0∨gy24≠gy21) (Qo (b:=b4) u (Qr h)))).kz R).kz az)
     obtain⟨dE,eI,hm⟩:=Qd hm
     refine qe rfl (eC Qco rfl (Qdm eI eG (Qg.rd eH) (Qg.rd gW) (Qg.rd gX) (Qg.rd gY))) ?_
     rintro _ js ⟨rfl,ch⟩
     have jt:=ch.size
     obtain⟨eJ,eK,hm⟩:=Qd hm
     obtain⟨ju,cw,hm⟩:=Qd hm
     refine qv rfl (Dq (sz:=1) rfl (Dp hnn67) Tryz.underlying30 (Qm).siz rfl rfl eK) ?_
     have eL:=(eH.gr ch)
     have ij:=Qg.z1 eL cw
     refine qe rfl (Pj (i:=eJ) (q:=0) (a':=dE) (vs:=[.int .i64 dE]) (c:=ic) (Qm).siz rfl rfl rfl rfl rfl eL cw (by first|rfl|omega) rfl rfl ⟨rfl,rfl⟩) ?_
     rintro _ gZ ⟨eM,dF⟩
     have jv:=dF.size
     refine Qk<|Xh<|Xh<|Xl<|qg 2 rfl<|qv rfl (Zd (k:=.i64) (a:=Y) (b:=1) rfl rfl)<|qm rfl ?_
     refine Qk ?_
     have K_100:Kz [(1,b4),(zy21,gy21)] m gZ:=((((ag.kz R).kz az).gr ch).md dF (Qb (Qf:zy21=0∨(gy21=gy21∧zy21≠0)∨m.heap.size≤gy21)))
     have eN:=((eG.gr ch).md dF (Qb (Qo (b:=b4) Z (Qr d))))
     subst bi
     exact⟨rfl,⟨n4,Qc (Y+1),aN.set eJ.toNat dE⟩,Ql,⟨hm,eM,⟨Qf⟩,eN,K_100⟩,Nat.lt_succ_self _⟩
   refine qg 12 rfl<|qn 6 rfl ?_
   have cx:=((aq.kz R).kz az)
   have cy:=((ap.kz R).kz az)
   have eO:=(((dz.kz ag (Zc ((Qb P.o):zy22=0∨zy21=0∨gy22≠gy21) (Qo (b:=b4) s (Qr f)))).kz R).kz az)
   have eP:=(((dA.kz ag (Zc ((Qb Q.o):zy23=0∨zy21=0∨gy23≠gy21) (Qo (b:=b4) t (Qr g)))).kz R).kz az)
   have eQ:=(((dB.kz ag (Zc ((Qb G.o):zy24=0∨zy21=0∨gy24≠gy21) (Qo (b:=b4) u (Qr h)))).kz R).kz az)
   obtain⟨dG,eR,hm⟩:=Qd hm
   refine qe rfl (eC Qcp rfl (Qdj eR cx (Qg.rd cy) (Qg.rd eO) (Qg.rd eP) (Qg.rd eQ))) ?_
   rintro _ jw ⟨rfl,ci⟩
   have ik:=ci.size
   refine qn 3 rfl ?_
   obtain⟨eS,eT,hm⟩:=Qd hm
   obtain⟨jx,cz,hm⟩:=Qd hm
   refine qv rfl (Dq (sz:=1) rfl (Dp hnn67) Tryz.underlying30 (Qm).siz rfl rfl eT) ?_
   have cA:=(cy.gr ci)
   have g0:=Qg.z1 cA cz
   refine qe rfl (Pj (i:=eS) (q:=0) (a':=dG.1) (vs:=[.int .i64 dG.1]) (c:=ic) (Qm).siz rfl rfl rfl rfl rfl cA cz (by first|rfl|omega) rfl rfl ⟨rfl,rfl⟩) ?_
   rintro _ g1 ⟨eU,dH⟩
   have il:=dH.size
   refine Qk<|Xh<|Xh<|Xl<|qg 2 rfl<|qv rfl (Zd (k:=.i64) (a:=Y) (b:=1) rfl rfl)<|qm rfl ?_
   refine Qk ?_
   have K_111:Kz [(1,b4),(zy21,gy21)] m g1:=((((ag.kz R).kz az).gr ci).md dH (Qb (Qf:zy21=0∨(gy21=gy21∧zy21≠0)∨m.heap.size≤gy21)))
   have eV:=((cx.gr ci).md dH (Qb (Qo (b:=b4) Z (Qr d))))
   subst bi
   exact⟨rfl,⟨n4,Qc (Y+1),aN.set eS.toNat dG.1⟩,Ql,⟨hm,eU,⟨Qf⟩,eV,K_111⟩,Nat.lt_succ_self _⟩
 replace hm:=Hf c8 hm
 by_cases dI:E=1
 · replace hm:=Hg dI hm
   refine qv rfl (Nc 1 Tryz.underlying114 (Vr).siz rfl rfl dI (by decide)) ?_
   have cB:=(V.gr y)
   refine qv rfl (Qi (v:=vy22) Vr rfl cB rfl)<|qn 3 rfl ?_
   have cC:=(am.gr y)
   obtain⟨nn86,hnn86,hm⟩:=Qd hm
   refine qv rfl (Qip (c:=ic) Tryz.underlying30 (Qm).siz rfl cC rfl rfl rfl hnn86)<|qm rfl<|Qa<|Qq<|⟨_,_,rfl,Qz rfl (Qn rfl),?_⟩
   refine qm rfl<|qd 3 rfl<|qm rfl<|qv rfl (Qbo Tryz.underlying30 rfl)<|qm rfl ?_
   refine Qa<|Xn ?_
   have eW:=((ce.kz af (Wa (Qp (A:=(fun x=>w.heap.size≤x)) z (Xm (A:=(fun x=>w.heap.size≤x)) d)) (Qp (A:=(fun x=>w.heap.size≤x)) B (Xm (A:=(fun x=>w.heap.size≤x)) f)) (Qp (A:=(fun x=>w.heap.size≤x)) C (Xm (A:=(fun x=>w.heap.size≤x)) g)) (Qp (A:=(fun x=>w.heap.size≤x)) D (Xm (A:=(fun x=>w.heap.size≤x)) h)))).trans y)
   have bM:=(al.gr y)
   have bN:=(an.gr y)
   have bO:=(ao.gr y)
   refine Kf (α:=Nat × Int × List Int) ([9]++rg 63 50) (fun⟨n7,aa,aO⟩=>[(63,.int .i64 aa)]) (fun⟨n7,aa,aO⟩ wr=>(Qv (Qh7 p0 y1 x2 j E L N O aP nn65 nn86) n7 (aa,aO)=some r)∧Qg wr zy22 gy22 3 1 vy22 (aO.map ic)∧Xd (zy22=0∨(gy22=gy22∧zy22≠0)∨m.heap.size≤gy22)∧Bx wr b4 116 (Xc.cs (Xc.mk p0 x2 (Vn.mk L aO N O) y1) vy21 vy22 vy23 vy24)∧Kz [(1,b4),(zy22,gy22)] m wr) (fun⟨n7,aa,aO⟩=>n7) ⟨Xb,0,M⟩ ?_ ?_ ?_
   · exact Ql
   · exact⟨hm,cC,⟨Qf⟩,cB,Kz.refl _ _⟩
   clear hm;rintro⟨n7,aa,aO⟩ eX ⟨hm,ar,ab,au,ah⟩
   have im:=ah.size
   have g2:=ar.lth
   have g3:=au.lt
   have hb:=Kl hm;clear hm;obtain⟨n7,rfl,hm⟩:=hb
   generalize bj:Qv (Qh7 p0 y1 x2 j E L N O aP nn65 nn86) n7=cD at hm
   unfold Qh7 at hm
   try dsimp only at hm
   refine qs 1 rfl<|qv rfl (Jv (a:=aa) (b:=(nn86:Int)) rfl rfl)<|Qa<|Qe<|Kx hm rfl (fun g4 hm=>?_) (fun g4 hm=>?_)
   · refine Jl<|Xu<|Xu<|Jk<|Xh<|Xl<|qg 2 rfl ?_
     refine qv rfl (Zd (k:=.i64) (a:=E) (b:=1) rfl rfl)<|qm rfl<|Qk ?_
     have K_176:Kz [(1,b4),(zy21,gy21),(zy22,gy22),(zy23,gy23),(zy24,gy24)] aM eX:=((af.gr y).kz ah (Qb (Qf:zy22=0∨(gy22=gy21∧zy21≠0)∨(gy22=gy22∧zy22≠0)∨(gy22=gy23∧zy23≠0)∨(gy22=gy24∧zy24≠0)∨aM.heap.size≤gy22)))
     have eY:=(bM.kz ah (Zc ((Qb P.o):zy21=0∨zy22=0∨gy21≠gy22) (Qo (b:=b4) n (Qr d))))
     have eZ:=(bN.kz ah (Zc ((Qb F.o):zy23=0∨zy22=0∨gy23≠gy22) (Qo (b:=b4) t (Qr g))))
     have e0:=(bO.kz ah (Zc ((Qb H.o):zy24=0∨zy22=0∨gy24≠gy22) (Qo (b:=b4) u (Qr h))))
     subst bh
     exact⟨rfl,⟨n3,Qc (E+1),L,aO,N,O⟩,Ql,⟨hm,eY,⟨Qf⟩,ar,⟨Qf⟩,eZ,⟨Qf⟩,e0,⟨Qf⟩,⟨(Qp (A:=(fun x=>zy21=0∨x≠gy21)) ab (Jh (Qp (A:=(fun x=>zy22=0∨x≠gy22)) n (Qb aX.o) (fun x hx=>(Qb a6.o)))) (fun x hx=>(Qb bI.o)))⟩,⟨(Qb Q.o)⟩,⟨(Jh (Qp (A:=(fun x=>zy23=0∨x≠gy23)) ab (Jh (Qp (A:=(fun x=>zy22=0∨x≠gy22)) t (Qb aD.o) (fun x hx=>(Qb a6.o)))) (fun x hx=>(Qb bK.o))))⟩,⟨(Qb G.o)⟩,⟨(Jh (Qp (A:=(fun x=>zy24=0∨x≠gy24)) ab (Jh (Qp (A:=(fun x=>zy22=0∨x≠gy22)) u (Qb aF.o) (fun x hx=>(Qb a6.o)))) (fun x hx=>(Qb bL.o))))⟩,⟨(Qb I.o)⟩,au,K_176⟩,Nat.lt_succ_self _⟩
   refine qu<|Qe<|Xn<|qs 2 rfl<|qm rfl ?_
   refine qm rfl<|Qa<|Xn ?_
   have e1:=(eW.kz ah (Qb (Qp (A:=(fun x=>w.heap.size≤x)) s (Xm (A:=(fun x=>w.heap.size≤x)) f))))
   refine qj (β:=Bool) (rg 77 8) (fun cj=>[(77,.bool cj)]) (fun cj wr=>(Qh0 p0 y1 x2 j E L N O nn65 nn86 aa aO cD cj=some r)∧Kz [] eX wr) ?_ ?_
   · refine qg 8 rfl<|qv rfl (Qh Ye rfl) ?_
     have e2:=((((bb.kz aQ (Wa (Qr (b:=b1) f) (Qr (b:=b1) g) (Qr (b:=b1) h) (Qr (b:=b1) d))).kz af (Wa (Qo (b:=b1) z (Qr d)) (Qo (b:=b1) B (Qr f)) (Qo (b:=b1) C (Qr g)) (Qo (b:=b1) D (Qr h)))).gr y).kz ah (Qb (Qo (b:=b1) s (Qr f))))
     refine qv rfl (Qi (v:=bv p0.Kind) Zb rfl e2 rfl)<|qv rfl (Vt (p:=p0.Kind) (q:=1#8) rfl rfl)<|Ji hm rfl (Qt rfl) (fun g5 hm=>?_) (fun g5 hm=>?_)
     · refine qm rfl<|qv rfl (Zu (a:=aa) (b:=0) rfl rfl)<|qn 2 rfl<|Qk ?_
       exact⟨rfl,(decide (aa=0)),Ql,hm,Xe⟩
     refine qn 4 rfl<|Qk ?_
     exact⟨rfl,false,Ql,hm,Xe⟩
   clear hm;rintro cj g6 ⟨hm,S⟩
   have io:=S.size
   unfold Qh0 at hm
   refine Jo hm rfl (fun g7 hm=>?_) (fun g7 hm=>?_)
   · refine qg 4 rfl<|qn 2 rfl ?_
     obtain⟨e3,e4,hm⟩:=Qd hm
     obtain⟨jy,cE,hm⟩:=Qd hm
     refine qv rfl (Dq (sz:=1) rfl (Dp hnn86) Tryz.underlying30 (Qm).siz rfl rfl e4) ?_
     have cF:=(ar.kz S)
     have g8:=Qg.z1 cF cE
     refine qe rfl (Pj (i:=e3) (q:=0) (a':=1) (vs:=[.int .i64 1]) (c:=ic) (Qm).siz rfl rfl rfl rfl rfl cF cE (by first|rfl|omega) rfl rfl ⟨rfl,rfl⟩) ?_
     rintro _ g9 ⟨e5,dJ⟩
     have ip:=dJ.size
     refine Qk<|Xh<|Xh<|Xl<|qg 2 rfl<|qv rfl (Zd (k:=.i64) (a:=aa) (b:=1) rfl rfl)<|qm rfl ?_
     refine Qk ?_
     have K_138:Kz [(1,b4),(zy22,gy22)] m g9:=((ah.kz S).md dJ (Qb (Qf:zy22=0∨(gy22=gy22∧zy22≠0)∨m.heap.size≤gy22)))
     have e6:=((au.kz S).md dJ (Qb (Qo (b:=b4) ab (Qr f))))
     subst bj
     exact⟨rfl,⟨n7,Qc (aa+1),aO.set e3.toNat 1⟩,Ql,⟨hm,e5,⟨Qf⟩,e6,K_138⟩,Nat.lt_succ_self _⟩
   have iq:=(e1.kz S)
   refine qj (β:=Bool) (rg 88 12) (fun ck=>[(88,.bool ck)]) (fun ck wr=>(Qdh p0 y1 x2 j E L N O nn65 nn86 aa aO cD ck=some r)∧Kz [] g6 wr) ?_ ?_
   · refine qg 12 rfl<|qm rfl<|qv rfl (Zu (a:=aa) (b:=0) rfl rfl)<|Ji hm rfl (Qt rfl) (fun ha hm=>?_) (fun ha hm=>?_)
     · refine qn 7 rfl ?_
       refine qn 2 rfl<|Qk ?_
       exact⟨rfl,true,Ql,hm,Xe⟩
     refine qv rfl (Qh Ye rfl) ?_
     have e7:=(((((bb.kz aQ (Wa (Qr (b:=b1) f) (Qr (b:=b1) g) (Qr (b:=b1) h) (Qr (b:=b1) d))).kz af (Wa (Qo (b:=b1) z (Qr d)) (Qo (b:=b1) B (Qr f)) (Qo (b:=b1) C (Qr g)) (Qo (b:=b1) D (Qr h)))).gr y).kz ah (Qb (Qo (b:=b1) s (Qr f)))).kz S)
     refine qv rfl (Qi (v:=bv p0.Kind) Zb rfl e7 rfl)<|qv rfl (Vt (p:=p0.Kind) (q:=1#8) rfl rfl)<|Ji hm rfl (Qt rfl) (fun hc hm=>?_) (fun hc hm=>?_)
     · refine qm rfl<|qv rfl (Zu (a:=j) (b:=0) rfl rfl)<|qn 3 rfl<|Qk ?_
       exact⟨rfl,(decide (j=0)),Ql,hm,Xe⟩
     refine qn 5 rfl<|Qk ?_
     exact⟨rfl,false,Ql,hm,Xe⟩
   clear hm;rintro ck jz ⟨hm,aA⟩
   have ir:=aA.size
   unfold Qdh at hm
   refine Jo hm rfl (fun hd hm=>?_) (fun hd hm=>?_)
   · refine qg 4 rfl<|qn 2 rfl ?_
     obtain⟨e8,e9,hm⟩:=Qd hm
     obtain⟨jA,cG,hm⟩:=Qd hm
     refine qv rfl (Dq (sz:=1) rfl (Dp hnn86) Tryz.underlying30 (Qm).siz rfl rfl e9) ?_
     have cH:=((ar.kz S).kz aA)
     have he:=Qg.z1 cH cG
     refine qe rfl (Pj (i:=e8) (q:=0) (a':=0) (vs:=[.int .i64 0]) (c:=ic) (Qm).siz rfl rfl rfl rfl rfl cH cG (by first|rfl|omega) rfl rfl ⟨rfl,rfl⟩) ?_
     rintro _ hf ⟨fa,dK⟩
     have it:=dK.size
     refine Qk<|Xh<|Xh<|Xl<|qg 2 rfl<|qv rfl (Zd (k:=.i64) (a:=aa) (b:=1) rfl rfl)<|qm rfl ?_
     refine Qk ?_
     have K_145:Kz [(1,b4),(zy22,gy22)] m hf:=(((ah.kz S).kz aA).md dK (Qb (Qf:zy22=0∨(gy22=gy22∧zy22≠0)∨m.heap.size≤gy22)))
     have fb:=(((au.kz S).kz aA).md dK (Qb (Qo (b:=b4) ab (Qr f))))
     subst bj
     exact⟨rfl,⟨n7,Qc (aa+1),aO.set e8.toNat 0⟩,Ql,⟨hm,fa,⟨Qf⟩,fb,K_145⟩,Nat.lt_succ_self _⟩
   refine qs 3 rfl<|qm rfl<|qv rfl (Zu (a:=j) (b:=0) rfl rfl)<|qm rfl<|Qa<|Zv hm rfl (fun hg hm=>?_) (fun hg hm=>?_)
   · refine qg 7 rfl<|qn 4 rfl ?_
     have cI:=((au.kz S).kz aA)
     have fc:=(((bM.kz ah (Zc ((Qb P.o):zy21=0∨zy22=0∨gy21≠gy22) (Qo (b:=b4) n (Qr d)))).kz S).kz aA)
     have cJ:=((ar.kz S).kz aA)
     have fd:=(((bN.kz ah (Zc ((Qb F.o):zy23=0∨zy22=0∨gy23≠gy22) (Qo (b:=b4) t (Qr g)))).kz S).kz aA)
     have ff:=(((bO.kz ah (Zc ((Qb H.o):zy24=0∨zy22=0∨gy24≠gy22) (Qo (b:=b4) u (Qr h)))).kz S).kz aA)
     obtain⟨dL,fg,hm⟩:=Qd hm
     refine qe rfl (eC Qco rfl (Qdm fg cI (Qg.rd fc) (Qg.rd cJ) (Qg.rd fd) (Qg.rd ff))) ?_
     rintro _ jB ⟨rfl,cl⟩
     have iu:=cl.size
     obtain⟨cK,dM,hm⟩:=Qd hm
     obtain⟨iw,bP,hm⟩:=Qd hm
     refine qv rfl (Dq (sz:=1) rfl (Dp hnn86) Tryz.underlying30 (Qm).siz rfl rfl dM) ?_
     have cL:=(cJ.gr cl)
     have hh:=Qg.z1 cL bP
     refine qe rfl (Pj (i:=cK) (q:=0) (a':=dL) (vs:=[.int .i64 dL]) (c:=ic) (Qm).siz rfl rfl rfl rfl rfl cL bP (by first|rfl|omega) rfl rfl ⟨rfl,rfl⟩) ?_
     rintro _ hi ⟨fh,dN⟩
     have ix:=dN.size
     refine Qk<|Xh<|Xh<|Xl<|qg 2 rfl<|qv rfl (Zd (k:=.i64) (a:=aa) (b:=1) rfl rfl)<|qm rfl ?_
     refine Qk ?_
     have K_156:Kz [(1,b4),(zy22,gy22)] m hi:=((((ah.kz S).kz aA).gr cl).md dN (Qb (Qf:zy22=0∨(gy22=gy22∧zy22≠0)∨m.heap.size≤gy22)))
     have fj:=((cI.gr cl).md dN (Qb (Qo (b:=b4) ab (Qr f))))
     subst bj
     exact⟨rfl,⟨n7,Qc (aa+1),aO.set cK.toNat dL⟩,Ql,⟨hm,fh,⟨Qf⟩,fj,K_156⟩,Nat.lt_succ_self _⟩
   refine qg 12 rfl<|qn 6 rfl ?_
   have cM:=((au.kz S).kz aA)
   have fk:=(((bM.kz ah (Zc ((Qb P.o):zy21=0∨zy22=0∨gy21≠gy22) (Qo (b:=b4) n (Qr d)))).kz S).kz aA)
   have cN:=((ar.kz S).kz aA)
   have fl:=(((bN.kz ah (Zc ((Qb F.o):zy23=0∨zy22=0∨gy23≠gy22) (Qo (b:=b4) t (Qr g)))).kz S).kz aA)
   have fm:=(((bO.kz ah (Zc ((Qb H.o):zy24=0∨zy22=0∨gy24≠gy22) (Qo (b:=b4) u (Qr h)))).kz S).kz aA)
   obtain⟨bQ,dO,hm⟩:=Qd hm
   refine qe rfl (eC Qcp rfl (Qdj dO cM (Qg.rd fk) (Qg.rd cN) (Qg.rd fl) (Qg.rd fm))) ?_
   rintro _ jC ⟨rfl,cm⟩
   have iy:=cm.size
   refine qn 3 rfl ?_
   obtain⟨cO,dP,hm⟩:=Qd hm
   obtain⟨iz,bR,hm⟩:=Qd hm
   refine qv rfl (Dq (sz:=1) rfl (Dp hnn86) Tryz.underlying30 (Qm).siz rfl rfl dP) ?_
   have cP:=(cN.gr cm)
   have hj:=Qg.z1 cP bR
   refine qe rfl (Pj (i:=cO) (q:=0) (a':=bQ.1) (vs:=[.int .i64 bQ.1]) (c:=ic) (Qm).siz rfl rfl rfl rfl rfl cP bR (by first|rfl|omega) rfl rfl ⟨rfl,rfl⟩) ?_
   rintro _ hk ⟨fn,dQ⟩
   have iA:=dQ.size
   refine Qk<|Xh<|Xh<|Xl<|qg 2 rfl<|qv rfl (Zd (k:=.i64) (a:=aa) (b:=1) rfl rfl)<|qm rfl ?_
   refine Qk ?_
   have K_167:Kz [(1,b4),(zy22,gy22)] m hk:=((((ah.kz S).kz aA).gr cm).md dQ (Qb (Qf:zy22=0∨(gy22=gy22∧zy22≠0)∨m.heap.size≤gy22)))
   have fo:=((cM.gr cm).md dQ (Qb (Qo (b:=b4) ab (Qr f))))
   subst bj
   exact⟨rfl,⟨n7,Qc (aa+1),aO.set cO.toNat bQ.1⟩,Ql,⟨hm,fn,⟨Qf⟩,fo,K_167⟩,Nat.lt_succ_self _⟩
 replace hm:=Hf dI hm
 by_cases dR:E=2
 · replace hm:=Hg dR hm
   refine qv rfl (Nc 2 Tryz.underlying114 (Vr).siz rfl rfl dR (by decide)) ?_
   have cQ:=(V.gr y)
   refine qv rfl (Qi (v:=vy23) Vr rfl cQ rfl)<|qn 3 rfl ?_
   have cR:=(an.gr y)
   obtain⟨nn105,hnn105,hm⟩:=Qd hm
   refine qv rfl (Qip (c:=ic) Tryz.underlying30 (Qm).siz rfl cR rfl rfl rfl hnn105)<|qm rfl<|Qa<|Qq<|⟨_,_,rfl,Qz rfl (Qn rfl),?_⟩
   refine qm rfl<|qd 3 rfl<|qm rfl<|qv rfl (Qbo Tryz.underlying30 rfl)<|qm rfl ?_
   refine Qa<|Xn ?_
   have fp:=((ce.kz af (Wa (Qp (A:=(fun x=>w.heap.size≤x)) z (Xm (A:=(fun x=>w.heap.size≤x)) d)) (Qp (A:=(fun x=>w.heap.size≤x)) B (Xm (A:=(fun x=>w.heap.size≤x)) f)) (Qp (A:=(fun x=>w.heap.size≤x)) C (Xm (A:=(fun x=>w.heap.size≤x)) g)) (Qp (A:=(fun x=>w.heap.size≤x)) D (Xm (A:=(fun x=>w.heap.size≤x)) h)))).trans y)
   have bS:=(al.gr y)
   have bT:=(am.gr y)
   have bU:=(ao.gr y)
   refine Kf (α:=Nat × Int × List Int) ([9]++rg 63 50) (fun⟨aZ,J,W⟩=>[(63,.int .i64 J)]) (fun⟨aZ,J,W⟩ wr=>(Qv (Qh2 p0 y1 x2 j E L M O aP nn65 nn105) aZ (J,W)=some r)∧Qg wr zy23 gy23 3 1 vy23 (W.map ic)∧Xd (zy23=0∨(gy23=gy23∧zy23≠0)∨m.heap.size≤gy23)∧Bx wr b4 116 (Xc.cs (Xc.mk p0 x2 (Vn.mk L M W O) y1) vy21 vy22 vy23 vy24)∧Kz [(1,b4),(zy23,gy23)] m wr) (fun⟨aZ,J,W⟩=>aZ) ⟨Xb,0,N⟩ ?_ ?_ ?_
   · exact Ql
   · exact⟨hm,cR,⟨Qf⟩,cQ,Kz.refl _ _⟩
   clear hm;rintro⟨aZ,J,W⟩ fq ⟨hm,av,ac,aw,ai⟩
   have iB:=ai.size
   have hl:=av.lth
   have hn:=aw.lt
   have hb:=Kl hm;clear hm;obtain⟨aZ,rfl,hm⟩:=hb
   generalize aR:Qv (Qh2 p0 y1 x2 j E L M O aP nn65 nn105) aZ=bV at hm
   unfold Qh2 at hm
   try dsimp only at hm
   refine qs 1 rfl<|qv rfl (Jv (a:=J) (b:=(nn105:Int)) rfl rfl)<|Qa<|Qe<|Kx hm rfl (fun ho hm=>?_) (fun ho hm=>?_)
   · refine Jl<|Xu<|Xu<|Jk<|Xh<|Xl<|qg 2 rfl ?_
     refine qv rfl (Zd (k:=.i64) (a:=E) (b:=1) rfl rfl)<|qm rfl<|Qk ?_
     have K_232:Kz [(1,b4),(zy21,gy21),(zy22,gy22),(zy23,gy23),(zy24,gy24)] aM fq:=((af.gr y).kz ai (Qb (Qf:zy23=0∨(gy23=gy21∧zy21≠0)∨(gy23=gy22∧zy22≠0)∨(gy23=gy23∧zy23≠0)∨(gy23=gy24∧zy24≠0)∨aM.heap.size≤gy23)))
     have fr:=(bS.kz ai (Zc ((Qb Q.o):zy21=0∨zy23=0∨gy21≠gy23) (Qo (b:=b4) n (Qr d))))
     have fs:=(bT.kz ai (Zc ((Qb F.o):zy22=0∨zy23=0∨gy22≠gy23) (Qo (b:=b4) s (Qr f))))
     have ft:=(bU.kz ai (Zc ((Qb I.o):zy24=0∨zy23=0∨gy24≠gy23) (Qo (b:=b4) u (Qr h))))
     subst bh
     exact⟨rfl,⟨n3,Qc (E+1),L,M,W,O⟩,Ql,⟨hm,fr,⟨Qf⟩,fs,⟨Qf⟩,av,⟨Qf⟩,ft,⟨Qf⟩,⟨(Qb P.o)⟩,⟨(Qp (A:=(fun x=>zy21=0∨x≠gy21)) ac (Jh (Qp (A:=(fun x=>zy23=0∨x≠gy23)) n (Qb aY.o) (fun x hx=>(Qb a7.o)))) (fun x hx=>(Qb bI.o)))⟩,⟨(Qp (A:=(fun x=>zy22=0∨x≠gy22)) ac (Jh (Qp (A:=(fun x=>zy23=0∨x≠gy23)) s (Qb aD.o) (fun x hx=>(Qb a7.o)))) (fun x hx=>(Qb bJ.o)))⟩,⟨(Qb G.o)⟩,⟨(Qb H.o)⟩,⟨(Jh (Qp (A:=(fun x=>zy24=0∨x≠gy24)) ac (Jh (Qp (A:=(fun x=>zy23=0∨x≠gy23)) u (Qb aG.o) (fun x hx=>(Qb a7.o)))) (fun x hx=>(Qb bL.o))))⟩,aw,K_232⟩,Nat.lt_succ_self _⟩
   refine qu<|Qe<|Xn<|qs 2 rfl<|qm rfl ?_
   refine qm rfl<|Qa<|Xn ?_
   have fu:=(fp.kz ai (Qb (Qp (A:=(fun x=>w.heap.size≤x)) t (Xm (A:=(fun x=>w.heap.size≤x)) g))))
   refine qj (β:=Bool) (rg 77 8) (fun bE=>[(77,.bool bE)]) (fun bE wr=>(Qgx p0 y1 x2 j E L M O nn65 nn105 J W bV bE=some r)∧Kz [] fq wr) ?_ ?_
   · refine qg 8 rfl<|qv rfl (Qh Ye rfl) ?_
     have fv:=((((bb.kz aQ (Wa (Qr (b:=b1) f) (Qr (b:=b1) g) (Qr (b:=b1) h) (Qr (b:=b1) d))).kz af (Wa (Qo (b:=b1) z (Qr d)) (Qo (b:=b1) B (Qr f)) (Qo (b:=b1) C (Qr g)) (Qo (b:=b1) D (Qr h)))).gr y).kz ai (Qb (Qo (b:=b1) t (Qr g))))
     refine qv rfl (Qi (v:=bv p0.Kind) Zb rfl fv rfl)<|qv rfl (Vt (p:=p0.Kind) (q:=1#8) rfl rfl)<|Ji hm rfl (Qt rfl) (fun hp hm=>?_) (fun hp hm=>?_)
     · refine qm rfl<|qv rfl (Zu (a:=J) (b:=0) rfl rfl)<|qn 2 rfl<|Qk ?_
       exact⟨rfl,(decide (J=0)),Ql,hm,Xe⟩
     refine qn 4 rfl<|Qk ?_
     exact⟨rfl,false,Ql,hm,Xe⟩
   clear hm;rintro bE hq ⟨hm,T⟩
   have iC:=T.size
   unfold Qgx at hm
   refine Jo hm rfl (fun hr hm=>?_) (fun hr hm=>?_)
   · refine qg 4 rfl<|qn 2 rfl ?_
     obtain⟨cS,dS,hm⟩:=Qd hm
     obtain⟨iD,bW,hm⟩:=Qd hm
     refine qv rfl (Dq (sz:=1) rfl (Dp hnn105) Tryz.underlying30 (Qm).siz rfl rfl dS) ?_
     have cT:=(av.kz T)
     have ht:=Qg.z1 cT bW
     refine qe rfl (Pj (i:=cS) (q:=0) (a':=1) (vs:=[.int .i64 1]) (c:=ic) (Qm).siz rfl rfl rfl rfl rfl cT bW (by first|rfl|omega) rfl rfl ⟨rfl,rfl⟩) ?_
     rintro _ hu ⟨fw,dT⟩
     have iE:=dT.size
     refine Qk<|Xh<|Xh<|Xl<|qg 2 rfl<|qv rfl (Zd (k:=.i64) (a:=J) (b:=1) rfl rfl)<|qm rfl ?_
     refine Qk ?_
     have K_194:Kz [(1,b4),(zy23,gy23)] m hu:=((ai.kz T).md dT (Qb (Qf:zy23=0∨(gy23=gy23∧zy23≠0)∨m.heap.size≤gy23)))
     have fx:=((aw.kz T).md dT (Qb (Qo (b:=b4) ac (Qr g))))
     subst aR
     exact⟨rfl,⟨aZ,Qc (J+1),W.set cS.toNat 1⟩,Ql,⟨hm,fw,⟨Qf⟩,fx,K_194⟩,Nat.lt_succ_self _⟩
   have iG:=(fu.kz T)
   refine qj (β:=Bool) (rg 88 12) (fun bF=>[(88,.bool bF)]) (fun bF wr=>(Qde p0 y1 x2 j E L M O nn65 nn105 J W bV bF=some r)∧Kz [] hq wr) ?_ ?_
   · refine qg 12 rfl<|qm rfl<|qv rfl (Zu (a:=J) (b:=0) rfl rfl)<|Ji hm rfl (Qt rfl) (fun hw hm=>?_) (fun hw hm=>?_)
     · refine qn 7 rfl ?_
       refine qn 2 rfl<|Qk ?_
       exact⟨rfl,true,Ql,hm,Xe⟩
     refine qv rfl (Qh Ye rfl) ?_
     have fy:=(((((bb.kz aQ (Wa (Qr (b:=b1) f) (Qr (b:=b1) g) (Qr (b:=b1) h) (Qr (b:=b1) d))).kz af (Wa (Qo (b:=b1) z (Qr d)) (Qo (b:=b1) B (Qr f)) (Qo (b:=b1) C (Qr g)) (Qo (b:=b1) D (Qr h)))).gr y).kz ai (Qb (Qo (b:=b1) t (Qr g)))).kz T)
     refine qv rfl (Qi (v:=bv p0.Kind) Zb rfl fy rfl)<|qv rfl (Vt (p:=p0.Kind) (q:=1#8) rfl rfl)<|Ji hm rfl (Qt rfl) (fun hy hm=>?_) (fun hy hm=>?_)
     · refine qm rfl<|qv rfl (Zu (a:=j) (b:=0) rfl rfl)<|qn 3 rfl<|Qk ?_
       exact⟨rfl,(decide (j=0)),Ql,hm,Xe⟩
     refine qn 5 rfl<|Qk ?_
     exact⟨rfl,false,Ql,hm,Xe⟩
   clear hm;rintro bF jD ⟨hm,aB⟩
   have iH:=aB.size
   unfold Qde at hm
   refine Jo hm rfl (fun hz hm=>?_) (fun hz hm=>?_)
   · refine qg 4 rfl<|qn 2 rfl ?_
     obtain⟨cU,dU,hm⟩:=Qd hm
     obtain⟨iI,bX,hm⟩:=Qd hm
     refine qv rfl (Dq (sz:=1) rfl (Dp hnn105) Tryz.underlying30 (Qm).siz rfl rfl dU) ?_
     have cV:=((av.kz T).kz aB)
     have hA:=Qg.z1 cV bX
     refine qe rfl (Pj (i:=cU) (q:=0) (a':=0) (vs:=[.int .i64 0]) (c:=ic) (Qm).siz rfl rfl rfl rfl rfl cV bX (by first|rfl|omega) rfl rfl ⟨rfl,rfl⟩) ?_
     rintro _ hB ⟨fz,dV⟩
     have iJ:=dV.size
     refine Qk<|Xh<|Xh<|Xl<|qg 2 rfl<|qv rfl (Zd (k:=.i64) (a:=J) (b:=1) rfl rfl)<|qm rfl ?_
     refine Qk ?_
     have K_201:Kz [(1,b4),(zy23,gy23)] m hB:=(((ai.kz T).kz aB).md dV (Qb (Qf:zy23=0∨(gy23=gy23∧zy23≠0)∨m.heap.size≤gy23)))
     have fA:=(((aw.kz T).kz aB).md dV (Qb (Qo (b:=b4) ac (Qr g))))
     subst aR
     exact⟨rfl,⟨aZ,Qc (J+1),W.set cU.toNat 0⟩,Ql,⟨hm,fz,⟨Qf⟩,fA,K_201⟩,Nat.lt_succ_self _⟩
   refine qs 3 rfl<|qm rfl<|qv rfl (Zu (a:=j) (b:=0) rfl rfl)<|qm rfl<|Qa<|Zv hm rfl (fun hC hm=>?_) (fun hC hm=>?_)
   · refine qg 7 rfl<|qn 4 rfl ?_
     have cW:=((aw.kz T).kz aB)
     have fB:=(((bS.kz ai (Zc ((Qb Q.o):zy21=0∨zy23=0∨gy21≠gy23) (Qo (b:=b4) n (Qr d)))).kz T).kz aB)
     have fC:=(((bT.kz ai (Zc ((Qb F.o):zy22=0∨zy23=0∨gy22≠gy23) (Qo (b:=b4) s (Qr f)))).kz T).kz aB)
     have cX:=((av.kz T).kz aB)
     have fD:=(((bU.kz ai (Zc ((Qb I.o):zy24=0∨zy23=0∨gy24≠gy23) (Qo (b:=b4) u (Qr h)))).kz T).kz aB)
     obtain⟨bY,dW,hm⟩:=Qd hm
     refine qe rfl (eC Qco rfl (Qdm dW cW (Qg.rd fB) (Qg.rd fC) (Qg.rd cX) (Qg.rd fD))) ?_
     rintro _ jE ⟨rfl,cn⟩
     have iK:=cn.size
     obtain⟨cY,dX,hm⟩:=Qd hm
     obtain⟨iL,bZ,hm⟩:=Qd hm
     refine qv rfl (Dq (sz:=1) rfl (Dp hnn105) Tryz.underlying30 (Qm).siz rfl rfl dX) ?_
     have cZ:=(cX.gr cn)
     have hD:=Qg.z1 cZ bZ
     refine qe rfl (Pj (i:=cY) (q:=0) (a':=bY) (vs:=[.int .i64 bY]) (c:=ic) (Qm).siz rfl rfl rfl rfl rfl cZ bZ (by first|rfl|omega) rfl rfl ⟨rfl,rfl⟩) ?_
     rintro _ hE ⟨fE,dY⟩
     have iM:=dY.size
     refine Qk<|Xh<|Xh<|Xl<|qg 2 rfl<|qv rfl (Zd (k:=.i64) (a:=J) (b:=1) rfl rfl)<|qm rfl ?_
     refine Qk ?_
     have K_212:Kz [(1,b4),(zy23,gy23)] m hE:=((((ai.kz T).kz aB).gr cn).md dY (Qb (Qf:zy23=0∨(gy23=gy23∧zy23≠0)∨m.heap.size≤gy23)))
     have fF:=((cW.gr cn).md dY (Qb (Qo (b:=b4) ac (Qr g))))
     subst aR
     exact⟨rfl,⟨aZ,Qc (J+1),W.set cY.toNat bY⟩,Ql,⟨hm,fE,⟨Qf⟩,fF,K_212⟩,Nat.lt_succ_self _⟩
   refine qg 12 rfl<|qn 6 rfl ?_
   have c0:=((aw.kz T).kz aB)
   have fG:=(((bS.kz ai (Zc ((Qb Q.o):zy21=0∨zy23=0∨gy21≠gy23) (Qo (b:=b4) n (Qr d)))).kz T).kz aB)
   have fH:=(((bT.kz ai (Zc ((Qb F.o):zy22=0∨zy23=0∨gy22≠gy23) (Qo (b:=b4) s (Qr f)))).kz T).kz aB)
   have da:=((av.kz T).kz aB)
   have fI:=(((bU.kz ai (Zc ((Qb I.o):zy24=0∨zy23=0∨gy24≠gy23) (Qo (b:=b4) u (Qr h)))).kz T).kz aB)
   obtain⟨b0,dZ,hm⟩:=Qd hm
   refine qe rfl (eC Qcp rfl (Qdj dZ c0 (Qg.rd fG) (Qg.rd fH) (Qg.rd da) (Qg.rd fI))) ?_
   rintro _ jF ⟨rfl,co⟩
   have iN:=co.size
   refine qn 3 rfl ?_
   obtain⟨db,d0,hm⟩:=Qd hm
   obtain⟨iO,b2,hm⟩:=Qd hm
   refine qv rfl (Dq (sz:=1) rfl (Dp hnn105) Tryz.underlying30 (Qm).siz rfl rfl d0) ?_
   have dc:=(da.gr co)
   have hF:=Qg.z1 dc b2
   refine qe rfl (Pj (i:=db) (q:=0) (a':=b0.1) (vs:=[.int .i64 b0.1]) (c:=ic) (Qm).siz rfl rfl rfl rfl rfl dc b2 (by first|rfl|omega) rfl rfl ⟨rfl,rfl⟩) ?_
   rintro _ hG ⟨fJ,d1⟩
   have iP:=d1.size
   refine Qk<|Xh<|Xh<|Xl<|qg 2 rfl<|qv rfl (Zd (k:=.i64) (a:=J) (b:=1) rfl rfl)<|qm rfl ?_
   refine Qk ?_
   have K_223:Kz [(1,b4),(zy23,gy23)] m hG:=((((ai.kz T).kz aB).gr co).md d1 (Qb (Qf:zy23=0∨(gy23=gy23∧zy23≠0)∨m.heap.size≤gy23)))
   have fK:=((c0.gr co).md d1 (Qb (Qo (b:=b4) ac (Qr g))))
   subst aR
   exact⟨rfl,⟨aZ,Qc (J+1),W.set db.toNat b0.1⟩,Ql,⟨hm,fJ,⟨Qf⟩,fK,K_223⟩,Nat.lt_succ_self _⟩
 replace hm:=Hf dR hm
 by_cases d2:E=3
 · replace hm:=Hg d2 hm
   refine qv rfl (Nc 3 Tryz.underlying114 (Vr).siz rfl rfl d2 (by decide)) ?_
   have de:=(V.gr y)
   refine qv rfl (Qi (v:=vy24) Vr rfl de rfl)<|qn 3 rfl ?_
   have df:=(ao.gr y)
   obtain⟨nn124,hnn124,hm⟩:=Qd hm
   refine qv rfl (Qip (c:=ic) Tryz.underlying30 (Qm).siz rfl df rfl rfl rfl hnn124)<|qm rfl<|Qa<|Qq<|⟨_,_,rfl,Qz rfl (Qn rfl),?_⟩
   refine qm rfl<|qd 3 rfl<|qm rfl<|qv rfl (Qbo Tryz.underlying30 rfl)<|qm rfl ?_
   refine Qa<|Xn ?_
   have fL:=((ce.kz af (Wa (Qp (A:=(fun x=>w.heap.size≤x)) z (Xm (A:=(fun x=>w.heap.size≤x)) d)) (Qp (A:=(fun x=>w.heap.size≤x)) B (Xm (A:=(fun x=>w.heap.size≤x)) f)) (Qp (A:=(fun x=>w.heap.size≤x)) C (Xm (A:=(fun x=>w.heap.size≤x)) g)) (Qp (A:=(fun x=>w.heap.size≤x)) D (Xm (A:=(fun x=>w.heap.size≤x)) h)))).trans y)
   have b3:=(al.gr y)
   have b5:=(am.gr y)
   have b6:=(an.gr y)
   refine Kf (α:=Nat × Int × List Int) ([9]++rg 63 50) (fun⟨a4,K,X⟩=>[(63,.int .i64 K)]) (fun⟨a4,K,X⟩ wr=>(Qv (Qh3 p0 y1 x2 j E L M N aP nn65 nn124) a4 (K,X)=some r)∧Qg wr zy24 gy24 3 1 vy24 (X.map ic)∧Xd (zy24=0∨(gy24=gy24∧zy24≠0)∨m.heap.size≤gy24)∧Bx wr b4 116 (Xc.cs (Xc.mk p0 x2 (Vn.mk L M N X) y1) vy21 vy22 vy23 vy24)∧Kz [(1,b4),(zy24,gy24)] m wr) (fun⟨a4,K,X⟩=>a4) ⟨Xb,0,O⟩ ?_ ?_ ?_
   · exact Ql
   · exact⟨hm,df,⟨Qf⟩,de,Kz.refl _ _⟩
   clear hm;rintro⟨a4,K,X⟩ fM ⟨hm,ax,ad,ay,aj⟩
   have iQ:=aj.size
   have hH:=ax.lth
   have hI:=ay.lt
   have hb:=Kl hm;clear hm;obtain⟨a4,rfl,hm⟩:=hb
   generalize aS:Qv (Qh3 p0 y1 x2 j E L M N aP nn65 nn124) a4=b7 at hm
   unfold Qh3 at hm
   try dsimp only at hm
   refine qs 1 rfl<|qv rfl (Jv (a:=K) (b:=(nn124:Int)) rfl rfl)<|Qa<|Qe<|Kx hm rfl (fun hJ hm=>?_) (fun hJ hm=>?_)
   · refine Jl<|Xu<|Xu<|Jk<|Xh<|Xl<|qg 2 rfl ?_
     refine qv rfl (Zd (k:=.i64) (a:=E) (b:=1) rfl rfl)<|qm rfl<|Qk ?_
     have K_288:Kz [(1,b4),(zy21,gy21),(zy22,gy22),(zy23,gy23),(zy24,gy24)] aM fM:=((af.gr y).kz aj (Qb (Qf:zy24=0∨(gy24=gy21∧zy21≠0)∨(gy24=gy22∧zy22≠0)∨(gy24=gy23∧zy23≠0)∨(gy24=gy24∧zy24≠0)∨aM.heap.size≤gy24)))
     have fO:=(b3.kz aj (Zc ((Qb G.o):zy21=0∨zy24=0∨gy21≠gy24) (Qo (b:=b4) n (Qr d))))
     have fP:=(b5.kz aj (Zc ((Qb H.o):zy22=0∨zy24=0∨gy22≠gy24) (Qo (b:=b4) s (Qr f))))
     have fQ:=(b6.kz aj (Zc ((Qb I.o):zy23=0∨zy24=0∨gy23≠gy24) (Qo (b:=b4) t (Qr g))))
     subst bh
     exact⟨rfl,⟨n3,Qc (E+1),L,M,N,X⟩,Ql,⟨hm,fO,⟨Qf⟩,fP,⟨Qf⟩,fQ,⟨Qf⟩,ax,⟨Qf⟩,⟨(Qb P.o)⟩,⟨(Qb Q.o)⟩,⟨(Qb F.o)⟩,⟨(Qp (A:=(fun x=>zy21=0∨x≠gy21)) ad (Jh (Qp (A:=(fun x=>zy24=0∨x≠gy24)) n (Qb aE.o) (fun x hx=>(Qb a8.o)))) (fun x hx=>(Qb bI.o)))⟩,⟨(Qp (A:=(fun x=>zy22=0∨x≠gy22)) ad (Jh (Qp (A:=(fun x=>zy24=0∨x≠gy24)) s (Qb aF.o) (fun x hx=>(Qb a8.o)))) (fun x hx=>(Qb bJ.o)))⟩,⟨(Qp (A:=(fun x=>zy23=0∨x≠gy23)) ad (Jh (Qp (A:=(fun x=>zy24=0∨x≠gy24)) t (Qb aG.o) (fun x hx=>(Qb a8.o)))) (fun x hx=>(Qb bK.o)))⟩,ay,K_288⟩,Nat.lt_succ_self _⟩
   refine qu<|Qe<|Xn<|qs 2 rfl<|qm rfl ?_
   refine qm rfl<|Qa<|Xn ?_
   have fR:=(fL.kz aj (Qb (Qp (A:=(fun x=>w.heap.size≤x)) u (Xm (A:=(fun x=>w.heap.size≤x)) h))))
   refine qj (β:=Bool) (rg 77 8) (fun bG=>[(77,.bool bG)]) (fun bG wr=>(Qgy p0 y1 x2 j E L M N nn65 nn124 K X b7 bG=some r)∧Kz [] fM wr) ?_ ?_
   · refine qg 8 rfl<|qv rfl (Qh Ye rfl) ?_
     have fS:=((((bb.kz aQ (Wa (Qr (b:=b1) f) (Qr (b:=b1) g) (Qr (b:=b1) h) (Qr (b:=b1) d))).kz af (Wa (Qo (b:=b1) z (Qr d)) (Qo (b:=b1) B (Qr f)) (Qo (b:=b1) C (Qr g)) (Qo (b:=b1) D (Qr h)))).gr y).kz aj (Qb (Qo (b:=b1) u (Qr h))))
     refine qv rfl (Qi (v:=bv p0.Kind) Zb rfl fS rfl)<|qv rfl (Vt (p:=p0.Kind) (q:=1#8) rfl rfl)<|Ji hm rfl (Qt rfl) (fun hK hm=>?_) (fun hK hm=>?_)
     · refine qm rfl<|qv rfl (Zu (a:=K) (b:=0) rfl rfl)<|qn 2 rfl<|Qk ?_
       exact⟨rfl,(decide (K=0)),Ql,hm,Xe⟩
     refine qn 4 rfl<|Qk ?_
     exact⟨rfl,false,Ql,hm,Xe⟩
   clear hm;rintro bG hL ⟨hm,U⟩
   have iR:=U.size
   unfold Qgy at hm
   refine Jo hm rfl (fun hM hm=>?_) (fun hM hm=>?_)
   · refine qg 4 rfl<|qn 2 rfl ?_
     obtain⟨dg,d3,hm⟩:=Qd hm
     obtain⟨iS,b8,hm⟩:=Qd hm
     refine qv rfl (Dq (sz:=1) rfl (Dp hnn124) Tryz.underlying30 (Qm).siz rfl rfl d3) ?_
     have di:=(ax.kz U)
     have hN:=Qg.z1 di b8
     refine qe rfl (Pj (i:=dg) (q:=0) (a':=1) (vs:=[.int .i64 1]) (c:=ic) (Qm).siz rfl rfl rfl rfl rfl di b8 (by first|rfl|omega) rfl rfl ⟨rfl,rfl⟩) ?_
     rintro _ hO ⟨fT,d4⟩
     have iU:=d4.size
     refine Qk<|Xh<|Xh<|Xl<|qg 2 rfl<|qv rfl (Zd (k:=.i64) (a:=K) (b:=1) rfl rfl)<|qm rfl ?_
     refine Qk ?_
     have K_250:Kz [(1,b4),(zy24,gy24)] m hO:=((aj.kz U).md d4 (Qb (Qf:zy24=0∨(gy24=gy24∧zy24≠0)∨m.heap.size≤gy24)))
     have fU:=((ay.kz U).md d4 (Qb (Qo (b:=b4) ad (Qr h))))
     subst aS
     exact⟨rfl,⟨a4,Qc (K+1),X.set dg.toNat 1⟩,Ql,⟨hm,fT,⟨Qf⟩,fU,K_250⟩,Nat.lt_succ_self _⟩
   have iV:=(fR.kz U)
   refine qj (β:=Bool) (rg 88 12) (fun bH=>[(88,.bool bH)]) (fun bH wr=>(Qdf p0 y1 x2 j E L M N nn65 nn124 K X b7 bH=some r)∧Kz [] hL wr) ?_ ?_
   · refine qg 12 rfl<|qm rfl<|qv rfl (Zu (a:=K) (b:=0) rfl rfl)<|Ji hm rfl (Qt rfl) (fun hP hm=>?_) (fun hP hm=>?_)
     · refine qn 7 rfl ?_
       refine qn 2 rfl<|Qk ?_
       exact⟨rfl,true,Ql,hm,Xe⟩
     refine qv rfl (Qh Ye rfl) ?_
     have fV:=(((((bb.kz aQ (Wa (Qr (b:=b1) f) (Qr (b:=b1) g) (Qr (b:=b1) h) (Qr (b:=b1) d))).kz af (Wa (Qo (b:=b1) z (Qr d)) (Qo (b:=b1) B (Qr f)) (Qo (b:=b1) C (Qr g)) (Qo (b:=b1) D (Qr h)))).gr y).kz aj (Qb (Qo (b:=b1) u (Qr h)))).kz U)
     refine qv rfl (Qi (v:=bv p0.Kind) Zb rfl fV rfl)<|qv rfl (Vt (p:=p0.Kind) (q:=1#8) rfl rfl)<|Ji hm rfl (Qt rfl) (fun hQ hm=>?_) (fun hQ hm=>?_)
     · refine qm rfl<|qv rfl (Zu (a:=j) (b:=0) rfl rfl)<|qn 3 rfl<|Qk ?_
       exact⟨rfl,(decide (j=0)),Ql,hm,Xe⟩
     refine qn 5 rfl<|Qk ?_
     exact⟨rfl,false,Ql,hm,Xe⟩
   clear hm;rintro bH jG ⟨hm,aC⟩
   have iW:=aC.size
   unfold Qdf at hm
   refine Jo hm rfl (fun hR hm=>?_) (fun hR hm=>?_)
   · refine qg 4 rfl<|qn 2 rfl ?_
     obtain⟨dj,d5,hm⟩:=Qd hm
     obtain⟨iX,b9,hm⟩:=Qd hm
     refine qv rfl (Dq (sz:=1) rfl (Dp hnn124) Tryz.underlying30 (Qm).siz rfl rfl d5) ?_
     have dk:=((ax.kz U).kz aC)
     have hT:=Qg.z1 dk b9
     refine qe rfl (Pj (i:=dj) (q:=0) (a':=0) (vs:=[.int .i64 0]) (c:=ic) (Qm).siz rfl rfl rfl rfl rfl dk b9 (by first|rfl|omega) rfl rfl ⟨rfl,rfl⟩) ?_
     rintro _ hU ⟨fW,d6⟩
     have iY:=d6.size
     refine Qk<|Xh<|Xh<|Xl<|qg 2 rfl<|qv rfl (Zd (k:=.i64) (a:=K) (b:=1) rfl rfl)<|qm rfl ?_
     refine Qk ?_
     have K_257:Kz [(1,b4),(zy24,gy24)] m hU:=(((aj.kz U).kz aC).md d6 (Qb (Qf:zy24=0∨(gy24=gy24∧zy24≠0)∨m.heap.size≤gy24)))
     have fX:=(((ay.kz U).kz aC).md d6 (Qb (Qo (b:=b4) ad (Qr h))))
     subst aS
     exact⟨rfl,⟨a4,Qc (K+1),X.set dj.toNat 0⟩,Ql,⟨hm,fW,⟨Qf⟩,fX,K_257⟩,Nat.lt_succ_self _⟩
   refine qs 3 rfl<|qm rfl<|qv rfl (Zu (a:=j) (b:=0) rfl rfl)<|qm rfl<|Qa<|Zv hm rfl (fun hV hm=>?_) (fun hV hm=>?_)
   · refine qg 7 rfl<|qn 4 rfl ?_
     have dl:=((ay.kz U).kz aC)
     have fY:=(((b3.kz aj (Zc ((Qb G.o):zy21=0∨zy24=0∨gy21≠gy24) (Qo (b:=b4) n (Qr d)))).kz U).kz aC)
     have fZ:=(((b5.kz aj (Zc ((Qb H.o):zy22=0∨zy24=0∨gy22≠gy24) (Qo (b:=b4) s (Qr f)))).kz U).kz aC)
     have f0:=(((b6.kz aj (Zc ((Qb I.o):zy23=0∨zy24=0∨gy23≠gy24) (Qo (b:=b4) t (Qr g)))).kz U).kz aC)
     have dp:=((ax.kz U).kz aC)
     obtain⟨ca,d7,hm⟩:=Qd hm
     refine qe rfl (eC Qco rfl (Qdm d7 dl (Qg.rd fY) (Qg.rd fZ) (Qg.rd f0) (Qg.rd dp))) ?_
     rintro _ jH ⟨rfl,cp⟩
     have iZ:=cp.size
     obtain⟨dq,d8,hm⟩:=Qd hm
     obtain⟨i0,cb,hm⟩:=Qd hm
     refine qv rfl (Dq (sz:=1) rfl (Dp hnn124) Tryz.underlying30 (Qm).siz rfl rfl d8) ?_
     have dr:=(dp.gr cp)
     have hW:=Qg.z1 dr cb
     refine qe rfl (Pj (i:=dq) (q:=0) (a':=ca) (vs:=[.int .i64 ca]) (c:=ic) (Qm).siz rfl rfl rfl rfl rfl dr cb (by first|rfl|omega) rfl rfl ⟨rfl,rfl⟩) ?_
     rintro _ hX ⟨f1,d9⟩
     have i1:=d9.size
     refine Qk<|Xh<|Xh<|Xl<|qg 2 rfl<|qv rfl (Zd (k:=.i64) (a:=K) (b:=1) rfl rfl)<|qm rfl ?_
     refine Qk ?_
     have K_268:Kz [(1,b4),(zy24,gy24)] m hX:=((((aj.kz U).kz aC).gr cp).md d9 (Qb (Qf:zy24=0∨(gy24=gy24∧zy24≠0)∨m.heap.size≤gy24)))
     have f2:=((dl.gr cp).md d9 (Qb (Qo (b:=b4) ad (Qr h))))
     subst aS
     exact⟨rfl,⟨a4,Qc (K+1),X.set dq.toNat ca⟩,Ql,⟨hm,f1,⟨Qf⟩,f2,K_268⟩,Nat.lt_succ_self _⟩
   refine qg 12 rfl<|qn 6 rfl ?_
   have ds:=((ay.kz U).kz aC)
   have f3:=(((b3.kz aj (Zc ((Qb G.o):zy21=0∨zy24=0∨gy21≠gy24) (Qo (b:=b4) n (Qr d)))).kz U).kz aC)
   have f4:=(((b5.kz aj (Zc ((Qb H.o):zy22=0∨zy24=0∨gy22≠gy24) (Qo (b:=b4) s (Qr f)))).kz U).kz aC)
   have f5:=(((b6.kz aj (Zc ((Qb I.o):zy23=0∨zy24=0∨gy23≠gy24) (Qo (b:=b4) t (Qr g)))).kz U).kz aC)
   have dt:=((ax.kz U).kz aC)
   obtain⟨cc,ea,hm⟩:=Qd hm
   refine qe rfl (eC Qcp rfl (Qdj ea ds (Qg.rd f3) (Qg.rd f4) (Qg.rd f5) (Qg.rd dt))) ?_
   rintro _ jI ⟨rfl,cq⟩
   have i2:=cq.size
   refine qn 3 rfl ?_
   obtain⟨du,eb,hm⟩:=Qd hm
   obtain⟨i3,cd,hm⟩:=Qd hm
   refine qv rfl (Dq (sz:=1) rfl (Dp hnn124) Tryz.underlying30 (Qm).siz rfl rfl eb) ?_
   have dv:=(dt.gr cq)
   have hY:=Qg.z1 dv cd
   refine qe rfl (Pj (i:=du) (q:=0) (a':=cc.1) (vs:=[.int .i64 cc.1]) (c:=ic) (Qm).siz rfl rfl rfl rfl rfl dv cd (by first|rfl|omega) rfl rfl ⟨rfl,rfl⟩) ?_
   rintro _ hZ ⟨f6,ec⟩
   have i4:=ec.size
   refine Qk<|Xh<|Xh<|Xl<|qg 2 rfl<|qv rfl (Zd (k:=.i64) (a:=K) (b:=1) rfl rfl)<|qm rfl ?_
   refine Qk ?_
   have K_279:Kz [(1,b4),(zy24,gy24)] m hZ:=((((aj.kz U).kz aC).gr cq).md ec (Qb (Qf:zy24=0∨(gy24=gy24∧zy24≠0)∨m.heap.size≤gy24)))
   have f7:=((ds.gr cq).md ec (Qb (Qo (b:=b4) ad (Qr h))))
   subst aS
   exact⟨rfl,⟨a4,Qc (K+1),X.set du.toNat cc.1⟩,Ql,⟨hm,f6,⟨Qf⟩,f7,K_279⟩,Nat.lt_succ_self _⟩
 replace hm:=Hf d2 hm
 cases hm
end Go.Proofs.YtopkalcefepilaaGreat.Mx
