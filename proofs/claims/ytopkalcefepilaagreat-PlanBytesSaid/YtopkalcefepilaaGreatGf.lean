/- Walks that follow mirrors: Gf. Printed by mx.py. -/
import Derived.Test.YtopkalcefepilaaGreatGe
import Derived.Test.YtopkalcefepilaaGreatZd
set_option linter.unusedVariables false
set_option linter.unusedSimpArgs false
set_option maxRecDepth 100000
set_option maxHeartbeats 2000000
namespace Go.Proofs.YtopkalcefepilaaGreat.Mx
open Go Go.RowKit Go.Sx
theorem Qf3:En Tryz.prog 25:=fun _ _=>by kernel_rfl
theorem Qpx:En Tryz.prog 24:=fun _ _=>by kernel_rfl
theorem Qvq:ZV Tryz.prog 26 (.agg [.int .i64 0,.int .i64 0,.int .i64 0,.int .i64 0,.int .i64 0,.int .i64 0,.int .u64 0,.int .u64 0,.int .u64 0].toArray):=fun _=>by kernel_rfl
theorem Qwn:BS Tryz.prog 26 (fun i=>[(0,1),(1,1),(2,1),(3,1),(4,1),(5,1),(6,3)][i]?) [.int .i64 0,.int .i64 0,.int .i64 0,.int .i64 0,.int .i64 0,.int .i64 0,.int .u64 0,.int .u64 0,.int .u64 0]:=Dc Tryz.underlying26 Qvq ⟨rfl,(Qm).siz,rfl,(Qm).siz,rfl,(Qm).siz,rfl,(Qm).siz,rfl,(Qm).siz,rfl,(Qm).siz,rfl,(Ml).siz,trivial⟩
theorem Qpy:En Tryz.prog 26:=fun _ _=>by kernel_rfl
theorem Qyn:En Tryz.prog 15:=fun _ _=>by kernel_rfl
theorem Qwr:Du Tryz.prog 30 2 3 1 [.int .i64 0,.int .i64 0]:=Nf Tryz.underlying30 (Qm).siz Sd rfl rfl (by kernel_rfl)
theorem Qod:Du Tryz.prog 30 5 3 1 [.int .i64 0,.int .i64 0,.int .i64 0,.int .i64 0,.int .i64 0]:=Nf Tryz.underlying30 (Qm).siz Sd rfl rfl (by kernel_rfl)
theorem Qz4:En Tryz.prog 46:=fun _ _=>by kernel_rfl
theorem Qpz:En Tryz.prog 28:=fun _ _=>by kernel_rfl
theorem Qyx:En Tryz.prog 23:=fun _ _=>by kernel_rfl
theorem Qg8 {p0 p1 r}(hm:Qaq p0 p1=some r){w:World}:
 Calls Tryz.prog 25 [bv p0,.int .i64 p1].toArray w fun e w'=>∃ v,e=.returned v∧(v=.agg (Qj.cs r).toArray∧Gr w w'):=by
 unfold Qaq at hm
 refine Xi 8 Tryz.func25 rfl rfl rfl<|qs 1 rfl<|qe rfl (Xg (cs:=Qj.cs (Qj.mk 0#8 0 0 (Jb.mk 0#64 0#64 0#64))) Ar rfl) ?_
 rintro _ w1 ⟨b1,rfl,c,a,G1⟩
 have z1:=G1.size
 have d:=a.lt
 refine qd 4 rfl<|qn 2 rfl<|qv rfl (Zk (cs:=Qj.cs (Qj.mk p0 p1 0 (Jb.mk 0#64 0#64 0#64))) Qc5 rfl rfl)<|qe rfl (Xf Zq rfl rfl rfl a rfl rfl) ?_
 rintro _ w2 ⟨b,M2⟩
 have z3:=M2.size
 refine Qa<|Qq ?_
 have X4:=(((Gr.refl w).trans G1).md M2)
 cases hm
 exact⟨_,_,rfl,Qz rfl (Zf Zq rfl b rfl),rfl,X4⟩
theorem Qru {r}(hm:Qg7=some r){w:World}:
 Calls Tryz.prog 26 [].toArray w fun e w'=>∃ v,e=.returned v∧(v=.agg (Zs.cs r).toArray∧Gr w w'):=by
 unfold Qg7 at hm
 refine Xi 2 Tryz.func26 rfl rfl rfl<|qs 1 rfl<|qe rfl (Xg (cs:=Zs.cs (Zs.mk 0 0 0 0 0 0 (Jb.mk 0#64 0#64 0#64))) Qvq rfl) ?_
 rintro _ w1 ⟨b1,rfl,c,a,G1⟩
 have z1:=G1.size
 have d:=a.lt
 refine qd 2 rfl<|qv rfl (Zk (cs:=Zs.cs (Zs.mk 2 1 48 10 1 2 (Jb.mk 0#64 0#64 0#64))) Qwn rfl rfl)<|qe rfl (Xf Ib rfl rfl rfl a rfl rfl) ?_
 rintro _ w2 ⟨b,M2⟩
 have z3:=M2.size
 refine Qa<|Qq ?_
 have X4:=(((Gr.refl w).trans G1).md M2)
 cases hm
 exact⟨_,_,rfl,Qz rfl (Zf Ib rfl b rfl),rfl,X4⟩
theorem Qrv {p0 p1 vp1 zp1 gp1 op1 r}(hm:Qg9 p0 p1=some r){w:World}(f:Rd w zp1 gp1 op1 1 vp1 (p1.map ic)):
 Calls Tryz.prog 28 [.agg (Qj.cs p0).toArray,vp1].toArray w fun e w'=>∃ v,e=.returned v∧(v=.bool r∧Gr w w'):=by
 have t:=f.lth
 unfold Qg9 at hm
 refine Xi 30 Tryz.func28 rfl rfl rfl<|qs 2 rfl<|qe rfl (Xo (cs:=Qj.cs p0) rfl rfl) ?_
 rintro _ w1 ⟨b1,rfl,s,g,G1⟩
 have z2:=G1.size
 have x:=g.lt
 refine qm rfl<|Qa<|Qe<|qs 3 rfl<|qm rfl ?_
 have B4:=(f.gr G1)
 refine qv rfl (Kq (l:=p1) (c:=ic) Tryz.underlying30 rfl B4)<|qm rfl<|Qa<|Xn ?_
 have X5:=((Gr.refl w).trans G1)
 refine Kf (α:=Nat × Int) ([4,5,6,7]++rg 10 20) (fun⟨n1,a2⟩=>[(4,.bool false),(10,.int .i64 a2)]) (fun⟨n1,a2⟩ wr=>(Qv (Qgb p0 p1) n1 a2=some r)∧Kz [] w1 wr) (fun⟨n1,a2⟩=>n1) ⟨Xb,0⟩ ?_ ?_ ?_
 · exact Ql
 · exact⟨hm,Kz.refl _ _⟩
 clear hm;rintro⟨n1,a2⟩ w2 ⟨hm,K2⟩
 have z6:=K2.size
 have hb:=Kl hm;clear hm;obtain⟨n1,rfl,hm⟩:=hb
 generalize d:Qv (Qgb p0 p1) n1=h at hm
 unfold Qgb at hm
 try dsimp only at hm
 refine qs 1 rfl<|qv rfl (Jv (a:=a2) (b:=(p1.length:Int)) rfl rfl)<|Qa<|Qe<|Kx hm rfl (fun c1 hm=>?_) (fun c1 hm=>?_)
 · refine Jl<|Xu<|Xu<|Jk<|Xl<|qs 1 rfl ?_
   refine qm rfl<|Qa<|Qq ?_
   have n:=(X5.kz K2)
   cases hm
   exact⟨_,_,rfl,Qz rfl (Qn rfl),rfl,n⟩
 refine qu<|Qe<|Xn<|qs 2 rfl<|qm rfl ?_
 refine qm rfl<|qd 8 rfl ?_
 have B7:=(g.kz K2)
 refine qv rfl (Xa Zq rfl B7 rfl)<|qm rfl ?_
 obtain⟨x3,o,hm⟩:=Qd hm
 refine qe rfl (eC Qz4 rfl (Xdz o)) ?_
 rintro _ w3 ⟨rfl,G3⟩
 have z8:=G3.size
 refine qn 5 rfl<|Qa ?_
 have X9:=((X5.kz K2).trans G3)
 refine qj (β:=Bool) (rg 19 10) (fun a4=>[(28,.bool a4)]) (fun a4 wr=>(Qga a2 h a4=some r)∧Kz [] w3 wr) ?_ ?_
 · refine qg 10 rfl<|qm rfl<|qv rfl (Kg (a:=x3.2) (b:=0) rfl rfl)<|Ji hm rfl (Qt rfl) (fun c3 hm=>?_) (fun c3 hm=>?_)
   · refine qn 7 rfl ?_
     refine Qk ?_
     exact⟨rfl,true,Ql,hm,Xe⟩
   refine qn 3 rfl ?_
   obtain⟨y5,j,hm⟩:=Qd hm
   have m:=((B4.kz K2).gr G3)
   refine qv rfl (Yq (i:=a2) Tryz.underlying30 (Qm).siz rfl m rfl j)<|qv rfl (Hl (q:=0) (u:=.int .i64 y5) Qm rfl m j (by first|rfl|omega) rfl)<|qv rfl (Kg (a:=x3.1) (b:=y5) rfl rfl)<|qm rfl<|Qk ?_
   exact⟨rfl,(decide (x3.1≠y5)),Ql,hm,Xe⟩
 clear hm;rintro a4 w4 ⟨hm,K4⟩
 have y:=K4.size
 unfold Qga at hm
 refine Jo hm rfl (fun c2 hm=>?_) (fun c2 hm=>?_)
 · refine qs 1 rfl<|qm rfl<|Qa<|Qq<|Jf<|Xz ?_
   refine Xz<|Jf<|Xz ?_
   have p:=(X9.kz K4)
   cases hm
   exact⟨_,_,rfl,Qz rfl (Qn rfl),rfl,p⟩
 refine Jn<|Xh<|Xl<|qg 2 rfl<|qv rfl (Zd (k:=.i64) (a:=a2) (b:=1) rfl rfl)<|qm rfl<|Qk ?_
 have K_12:Kz [] w1 w4:=((K2.gr G3).kz K4)
 subst d
 exact⟨rfl,⟨n1,Qc (a2+1)⟩,Ql,⟨hm,K_12⟩,Nat.lt_succ_self _⟩
theorem Xbv {r}(hm:Qg6=some r){w:World}:
 Calls Tryz.prog 8 [].toArray w fun e w'=>∃ v,e=.returned v∧(v=.bool r∧Gr w w'):=by
 unfold Qg6 at hm
 refine Xi 82 Tryz.func8 rfl rfl rfl<|qs 1 rfl<|qm rfl<|qd 7 rfl ?_
 obtain⟨x1,aE,hm⟩:=Qd hm
 refine qe rfl (eC Qf3 rfl (Qg8 aE)) ?_
 rintro _ w1 ⟨rfl,G1⟩
 have z1:=G1.size
 obtain⟨x2,aF,hm⟩:=Qd hm
 refine qe rfl (eC Qpx rfl (Qsw aF)) ?_
 rintro _ w2 ⟨W,X,Y,rfl,g,Z,G2⟩
 have z2:=G2.size
 have aa:=g.lth
 refine qn 5 rfl<|Qa<|Qe ?_
 refine qg 7 rfl ?_
 obtain⟨x3,aG,hm⟩:=Qd hm
 refine qe rfl (eC Qf3 rfl (Qg8 aG)) ?_
 rintro _ w3 ⟨rfl,G3⟩
 have z4:=G3.size
 obtain⟨x4,aH,hm⟩:=Qd hm
 refine qe rfl (eC Qpx rfl (Qsw aH)) ?_
 rintro _ w4 ⟨ab,ac,ad,rfl,h,ae,G4⟩
 have z5:=G4.size
 have af:=h.lth
 refine qn 5 rfl<|Qa<|Qe ?_
 refine qg 8 rfl ?_
 obtain⟨x5,aI,hm⟩:=Qd hm
 refine qe rfl (eC Qpy rfl (Qru aI)) ?_
 rintro _ w5 ⟨rfl,G5⟩
 have z7:=G5.size
 obtain⟨x6,aJ,hm⟩:=Qd hm
 refine qe rfl (eC Qk3 rfl (Qlf aJ)) ?_
 rintro _ w6 ⟨ag,ah,ai,rfl,i,aj,G6⟩
 have z8:=G6.size
 have K:=i.lth
 refine qn 3 rfl<|qe rfl (Xg (cs:=Xs.cs (Xs.mk 0#8 false 0 0 0 0 0 []) (.slice none 0 0)) Cz rfl) ?_
 rintro _ w7 ⟨b7,rfl,bf,ak,G7⟩
 have bA:=G7.size
 have bg:=ak.lt
 have al:=(i.gr G7)
 refine qe rfl (Xf Wc rfl rfl (Xs.cs_ones _ _ (Qg.oneB al)) ak rfl rfl) ?_
 rintro _ w8 ⟨aK,M8⟩
 have bB:=M8.size
 refine qm rfl<|qd 8 rfl ?_
 obtain⟨x7,aL,hm⟩:=Qd hm
 refine qe rfl (eC Qpy rfl (Qru aL)) ?_
 rintro _ w9 ⟨rfl,G9⟩
 have bC:=G9.size
 obtain⟨x8,aM,hm⟩:=Qd hm
 refine qe rfl (eC Qyn rfl (Xdy aM)) ?_
 rintro _ bD ⟨k,R,S,T,rfl,c,U,V,am⟩
 have bE:=am.size
 have C:=c.flt
 have D:=c.lth
 refine qn 3 rfl<|qe rfl (Xg (cs:=Vf.cs (Vf.mk [] 0#8) (.slice none 0 0)) Qix rfl) ?_
 rintro _ bF ⟨aN,rfl,aO,E,L⟩
 have bG:=L.size
 have bh:=E.lt
 have an:=(c.gr L)
 refine qe rfl (Xf Ic rfl rfl (Vf.cs_ones _ _ (Jz.oneB an)) E rfl rfl) ?_
 rintro _ aP ⟨ao,j⟩
 have bH:=j.size
 refine qm rfl<|Qa<|Qe ?_
 have Y1:=Gr.trans (Gr.trans G9 am) L
 have m:=(((((((((((Gr.refl w).trans G1).trans G2).trans G3).trans G4).trans G5).trans G6).trans G7).md M8).trans Y1).md j)
 refine qj (β:=Bool) (rg 30 26) (fun a9=>[(55,.bool a9)]) (fun a9 wr=>(Bv x6 x8 a9=some r)∧Kz [] aP wr) ?_ ?_
 · refine qg 26 rfl<|qm rfl<|qv rfl (Kg (a:=x2.2) (b:=0) rfl rfl)<|Ji hm rfl (Qt rfl) (fun c6 hm=>?_) (fun c6 hm=>?_)
   · refine qn 7 rfl ?_
     refine qn 7 rfl ?_
     refine qn 7 rfl ?_
     refine qn 2 rfl<|Qk ?_
     exact⟨rfl,true,Ql,hm,Xe⟩
   refine qm rfl<|qv rfl (Kg (a:=x4.2) (b:=0) rfl rfl)<|qm rfl<|Ji hm rfl (Qt rfl) (fun c7 hm=>?_) (fun c7 hm=>?_)
   · refine qn 7 rfl ?_
     refine qn 7 rfl ?_
     refine qn 5 rfl<|Qk ?_
     exact⟨rfl,true,Ql,hm,Xe⟩
   refine qm rfl<|qv rfl (Kg (a:=x6.2) (b:=0) rfl rfl)<|qm rfl<|Ji hm rfl (Qt rfl) (fun c8 hm=>?_) (fun c8 hm=>?_)
   · refine qn 7 rfl ?_
     refine qn 7 rfl ?_
     refine qm rfl<|Qk ?_
     exact⟨rfl,true,Ql,hm,Xe⟩
   refine qm rfl<|qv rfl (Kg (a:=x8.2) (b:=0) rfl rfl)<|qm rfl<|Ji hm rfl (Qt rfl) (fun c9 hm=>?_) (fun c9 hm=>?_)
   · refine qn 7 rfl ?_
     refine qn 4 rfl<|Qk ?_
     exact⟨rfl,true,Ql,hm,Xe⟩
   refine qm rfl<|qe rfl (Ha [3] ic Il rfl rfl (Pc rfl) rfl rfl rfl) ?_
   rintro bi bI ⟨bj,aQ,F,n⟩
   have bJ:=n.size
   have bk:=F.lth
   have Y2:=Gr.trans (Gr.trans (Gr.trans (Gr.trans G3 G4) G5) G6) G7
   have aR:=(((((g.gr Y2).md M8 (Qw aa)).gr Y1).md j (Qw aa)).gr n)
   obtain⟨bK,ap,hm⟩:=Qd hm
   refine qe rfl (eC Qjt rfl (Qmk ap (Qg.rd aR) (Qg.rd F))) ?_
   rintro _ bL ⟨rfl,t⟩
   have bM:=t.size
   refine qv rfl (Kd rfl)<|qm rfl<|Ch hm rfl (Qt rfl) (fun aS hm=>?_) (fun aS hm=>?_)
   · refine qn 5 rfl<|Qk ?_
     exact⟨rfl,true,Ql,hm,((Xe.gr n).gr t)⟩
   refine qm rfl<|qe rfl (Ha [1,3] ic Qwr rfl rfl (Pc rfl) rfl rfl rfl) ?_
   rintro bl bN ⟨bm,aT,G,M⟩
   have bO:=M.size
   have bo:=G.lth
   have Y3:=Gr.trans (Gr.trans G5 G6) G7
   have aU:=(((((((h.gr Y3).md M8 (Qw af)).gr Y1).md j (Qw af)).gr n).gr t).gr M)
   obtain⟨aV,aq,hm⟩:=Qd hm
   refine qe rfl (eC Qjt rfl (Qmk aq (Qg.rd aU) (Qg.rd G))) ?_
   rintro _ bP ⟨rfl,ar⟩
   have bQ:=ar.size
   refine qv rfl (Kd rfl)<|qm rfl<|Qk ?_
   exact⟨rfl,(!aV),Ql,hm,((((Xe.gr n).gr t).gr M).gr ar)⟩
 clear hm;rintro a9 bR ⟨hm,d⟩
 have bS:=d.size
 unfold Bv at hm
 refine Jo hm rfl (fun c1 hm=>?_) (fun c1 hm=>?_)
 · refine qs 1 rfl<|qm rfl<|qb ?_
   have aW:=(m.kz d)
   cases hm
   exact⟨_,_,rfl,Qz rfl (Qn rfl),rfl,aW⟩
 refine qu<|qs 4 rfl<|qe rfl (Ha [3] ic Il rfl rfl (Pc rfl) rfl rfl rfl) ?_
 rintro au bT ⟨bp,aX,o,u⟩
 have bU:=u.size
 have av:=o.lth
 refine qv rfl (Zk (cs:=Xs.cs (Xs.mk 1#8 true 2 0 103 48 1414 [3]) au) Qej rfl (Vz rfl rfl rfl (Vz rfl rfl rfl (Vz rfl rfl rfl (Vz rfl rfl rfl (Vz rfl rfl rfl (Vz rfl rfl rfl (Xaq rfl (Qg.oneB o) rfl rfl))))))))<|qe rfl (Xg (cs:=Xs.cs (Xs.mk 0#8 false 0 0 0 0 0 []) (.slice none 0 0)) Cz rfl) ?_
 rintro _ bV ⟨aY,rfl,aZ,H,s⟩
 have bW:=s.size
 have bq:=H.lt
 have aw:=(o.gr s)
 refine qe rfl (Xf Wc rfl rfl (Xs.cs_ones _ _ (Qg.oneB aw)) H rfl rfl) ?_
 rintro _ bX ⟨ax,f⟩
 have bY:=f.size
 refine qd 25 rfl ?_
 obtain⟨bZ,ay,hm⟩:=Qd hm
 refine qe rfl (eC Qf3 rfl (Qg8 ay)) ?_
 rintro _ b0 ⟨rfl,y⟩
 have b1:=y.size
 refine qe rfl (Ha [1,2,2,2,2] ic Qod rfl rfl (Pc rfl) rfl rfl rfl) ?_
 rintro br b2 ⟨bs,a0,I,z⟩
 have b3:=z.size
 have bu:=I.lth
 obtain⟨b4,az,hm⟩:=Qd hm
 refine qe rfl (eC Qpz rfl (Qrv az (Qg.rd I))) ?_
 rintro _ b5 ⟨rfl,A⟩
 have b6:=A.size
 refine Ra hm rfl (Qt rfl) (fun c2 hm=>?_) (fun c2 hm=>?_)
 · refine qn 7 rfl ?_
   refine qn 7 rfl ?_
   refine qn 7 rfl ?_
   refine Qa<|Qq ?_
   have Y4:=Gr.trans u s
   have Y5:=Gr.trans (Gr.trans y z) A
   have a1:=((((m.kz d).trans Y4).md f).trans Y5)
   cases hm
   exact⟨_,_,rfl,Qz rfl (Qn rfl),rfl,a1⟩
 obtain⟨b8,aA,hm⟩:=Qd hm
 refine qe rfl (eC Qf3 rfl (Qg8 aA)) ?_
 rintro _ b9 ⟨rfl,N⟩
 have ca:=N.size
 refine qe rfl (Ha [1,1,2,2,2] ic Qod rfl rfl (Pc rfl) rfl rfl rfl) ?_
 rintro bw cb ⟨bx,a2,J,O⟩
 have cc:=O.size
 have bz:=J.lth
 obtain⟨cd,aB,hm⟩:=Qd hm
 refine qe rfl (eC Qpz rfl (Qrv aB (Qg.rd J))) ?_
 rintro _ ce ⟨rfl,P⟩
 have cf:=P.size
 refine qm rfl<|Ra hm rfl (Qt rfl) (fun c3 hm=>?_) (fun c3 hm=>?_)
 · refine qn 7 rfl ?_
   refine qn 7 rfl ?_
   refine qn 2 rfl<|Qa<|Qq ?_
   have Y6:=Gr.trans u s
   have Y7:=Gr.trans (Gr.trans (Gr.trans (Gr.trans (Gr.trans y z) A) N) O) P
   have a3:=((((m.kz d).trans Y6).md f).trans Y7)
   cases hm
   exact⟨_,_,rfl,Qz rfl (Qn rfl),rfl,a3⟩
 have Y8:=Gr.trans u s
 have Y9:=Gr.trans (Gr.trans (Gr.trans (Gr.trans (Gr.trans y z) A) N) O) P
 have a4:=((((((aK.gr Y1).md j).kz d).gr Y8).md f).gr Y9)
 refine qv rfl (Xa Wc rfl a4 rfl) ?_
 have a5:=(ax.gr Y9)
 refine qv rfl (Xa Wc rfl a5 rfl) ?_
 have a6:=(((((((al.md M8 (Qw K)).gr Y1).md j (Qw K)).kz d).gr Y8).md f (Qw K)).gr Y9)
 have a7:=((aw.md f (Qw av)).gr Y9)
 obtain⟨cg,aC,hm⟩:=Qd hm
 refine qe rfl (eC Qyx rfl (Xer aC (Qg.rd a6) (Qg.rd a7))) ?_
 rintro _ ch ⟨rfl,Q⟩
 have ci:=Q.size
 refine qm rfl<|Ra hm rfl (Qt rfl) (fun c4 hm=>?_) (fun c4 hm=>?_)
 · refine qn 7 rfl ?_
   refine qn 4 rfl<|Qa<|Qq ?_
   have a8:=Gr.trans Y9 Q
   have ba:=((((m.kz d).trans Y8).md f).trans a8)
   cases hm
   exact⟨_,_,rfl,Qz rfl (Qn rfl),rfl,ba⟩
 refine qv rfl (Qh Qfj rfl) ?_
 have B:=Gr.trans Y9 Q
 have aD:=((((ao.kz d).gr Y8).md f).gr B)
 refine qv rfl (Qi (v:=bv x8.1.Best) Zb rfl aD rfl)<|qv rfl (Vt (p:=x8.1.Best) (q:=1#8) rfl rfl)<|qm rfl<|Vc hm rfl (Qt rfl) (fun c5 hm=>?_) (fun c5 hm=>?_)
 · refine qn 6 rfl<|Qa ?_
   refine Qq ?_
   have bb:=((((m.kz d).trans Y8).md f).trans B)
   cases hm
   exact⟨_,_,rfl,Qz rfl (Qn rfl),rfl,bb⟩
 refine qv rfl (Qh Qfi rfl)<|qv rfl (Qi (v:=k) Qda rfl aD rfl) ?_
 have bc:=(((((an.md j (Qb (Qw (b:=aN) D)) (fun x hx=>.inr (by have:=C x hx;omega))).kz d Qf (fun x hx=>Qf)).gr Y8).md f (Qb (Qw (b:=aY) D)) (fun x hx=>.inr (by have:=C x hx;omega))).gr B)
 refine qv rfl (Xhj (l:=x8.1.Choices) Tryz.underlying27 rfl (Jz.rd bc))<|qv rfl (Zu (a:=(x8.1.Choices.length:Int)) (b:=4) rfl rfl)<|qn 2 rfl<|Qa<|Qq ?_
 have bd:=((((m.kz d).trans Y8).md f).trans B)
 cases hm
 exact⟨_,_,rfl,Qz rfl (Qn rfl),rfl,bd⟩
end Go.Proofs.YtopkalcefepilaaGreat.Mx
