/- Walks that follow mirrors: Gd. Printed by mx.py. -/
import Derived.Test.YtopkalcefepilaaGreatGf
import Derived.Test.YtopkalcefepilaaGreatZd
set_option linter.unusedVariables false
set_option linter.unusedSimpArgs false
set_option maxRecDepth 100000
set_option maxHeartbeats 2000000
namespace Go.Proofs.YtopkalcefepilaaGreat.Mx
open Go Go.RowKit Go.Sx
theorem Qpj:En Tryz.prog 101:=fun _ _=>by kernel_rfl
theorem Qze:En Tryz.prog 73:=fun _ _=>by kernel_rfl
theorem Qoc:Du Tryz.prog 101 1 137 2 [.int .i64 0,.int .i64 0]:=Nf Tryz.underlying101 (Nd).siz Qiv rfl rfl (by kernel_rfl)
theorem Eg:MpT Tryz.prog 148 149 4:=⟨Tryz.underlying148,Tryz.underlying149,fun _=>by kernel_rfl⟩
theorem Xia:ZV Tryz.prog 101 (.slice none 0 0):=fun _=>by kernel_rfl
theorem Qgi:Ku Tryz.prog 101:=fun _=>⟨by kernel_rfl,by kernel_rfl⟩
theorem Qvv:Dt Tryz.prog 101 137 2 16:=Rs Tryz.underlying101 rfl (by kernel_rfl)
theorem Qk1:En Tryz.prog 75:=fun _ _=>by kernel_rfl
theorem Qzf:En Tryz.prog 79:=fun _ _=>by kernel_rfl
theorem Qp6 {p0 p1 r}(hm:Uf p0 p1=some r){w:World}:
 Calls Tryz.prog 101 [.agg (Xj.cs p0).toArray,.int .i64 p1].toArray w fun e w'=>∃ v,e=.returned v∧(v=.bool r∧Gr w w'):=by
 unfold Uf at hm
 refine Xi 13 Tryz.func101 rfl rfl rfl<|qs 2 rfl<|qe rfl (Xo (cs:=Xj.cs p0) rfl rfl) ?_
 rintro _ w1 ⟨b1,rfl,f,c,G1⟩
 have z1:=G1.size
 have g:=c.lt
 refine qm rfl<|qd 9 rfl<|qm rfl<|qv rfl (Wk (a:=p1) (b:=0) rfl rfl)<|Vc hm rfl (Qt rfl) (fun c1 hm=>?_) (fun c1 hm=>?_)
 · refine qn 6 rfl<|Qa ?_
   refine Qq ?_
   have X5:=((Gr.refl w).trans G1)
   cases hm
   exact⟨_,_,rfl,Qz rfl (Qn rfl),rfl,X5⟩
 refine qm rfl<|qv rfl (Xa Ki rfl c rfl) ?_
 obtain⟨x1,d,hm⟩:=Qd hm
 refine qe rfl (eC Qjr rfl (Qjh d)) ?_
 rintro _ w2 ⟨rfl,G2⟩
 have z3:=G2.size
 refine qv rfl (Jv (a:=p1) (b:=x1) rfl rfl)<|qn 2 rfl<|Qa<|Qq ?_
 have X4:=(((Gr.refl w).trans G1).trans G2)
 cases hm
 exact⟨_,_,rfl,Qz rfl (Qn rfl),rfl,X4⟩
theorem Qxt {p0 p1 vp1 zp1 gp1 op1 r}(hm:Oy p0 p1=some r){w:World}(f:Rd w zp1 gp1 op1 1 vp1 (p1.map ic)):
 Calls Tryz.prog 73 [.agg (Xj.cs p0).toArray,vp1].toArray w fun e w'=>∃ v,e=.returned v∧(v=.bool r∧Gr w w'):=by
 have y:=f.lth
 unfold Oy at hm
 refine Xi 32 Tryz.func73 rfl rfl rfl<|qs 2 rfl<|qe rfl (Xo (cs:=Xj.cs p0) rfl rfl) ?_
 rintro _ w1 ⟨b1,rfl,x,g,G1⟩
 have z2:=G1.size
 have z:=g.lt
 refine qm rfl<|Qa<|Qe<|qs 3 rfl<|qm rfl ?_
 have B4:=(f.gr G1)
 refine qv rfl (Kq (l:=p1) (c:=ic) Tryz.underlying30 rfl B4)<|qm rfl<|Qa<|Xn ?_
 have X5:=((Gr.refl w).trans G1)
 refine Kf (α:=Nat × Int) ([4,5,6]++rg 9 23) (fun⟨n1,a2⟩=>[(4,.bool false),(9,.int .i64 a2)]) (fun⟨n1,a2⟩ wr=>(Qv (Ue p0 p1) n1 a2=some r)∧Kz [] w1 wr) (fun⟨n1,a2⟩=>n1) ⟨Xb,0⟩ ?_ ?_ ?_
 · exact Ql
 · exact⟨hm,Kz.refl _ _⟩
 clear hm;rintro⟨n1,a2⟩ w2 ⟨hm,K2⟩
 have z6:=K2.size
 have hb:=Kl hm;clear hm;obtain⟨n1,rfl,hm⟩:=hb
 generalize d:Qv (Ue p0 p1) n1=h at hm
 unfold Ue at hm
 try dsimp only at hm
 refine qs 1 rfl<|qv rfl (Jv (a:=a2) (b:=(p1.length:Int)) rfl rfl)<|Qa<|Qe<|Kx hm rfl (fun c1 hm=>?_) (fun c1 hm=>?_)
 · refine Jl<|Xu<|Xu<|Jk<|Xl<|qs 1 rfl ?_
   refine qm rfl<|Qa<|Qq ?_
   have o:=(X5.kz K2)
   cases hm
   exact⟨_,_,rfl,Qz rfl (Qn rfl),rfl,o⟩
 refine qu<|Qe<|Xn<|qs 5 rfl<|qm rfl ?_
 obtain⟨y3,j,hm⟩:=Qd hm
 have B7:=(B4.kz K2)
 refine qv rfl (Yq (i:=a2) Tryz.underlying30 (Qm).siz rfl B7 rfl j)<|qv rfl (Hl (q:=0) (u:=.int .i64 y3) Qm rfl B7 j (by first|rfl|omega) rfl)<|qn 2 rfl<|Qa ?_
 have X8:=(X5.kz K2)
 refine qj (β:=Bool) (rg 14 17) (fun a4=>[(30,.bool a4)]) (fun a4 wr=>(Oz a2 h a4=some r)∧Kz [] w2 wr) ?_ ?_
 · refine qg 17 rfl ?_
   have p:=(g.kz K2)
   refine qv rfl (Xa Ki rfl p rfl)<|qm rfl ?_
   obtain⟨x5,s,hm⟩:=Qd hm
   refine qe rfl (eC Qpj rfl (Qp6 s)) ?_
   rintro _ w4 ⟨rfl,G4⟩
   have A:=G4.size
   refine qv rfl (Kd rfl)<|Ch hm rfl (Qt rfl) (fun c3 hm=>?_) (fun c3 hm=>?_)
   · refine qn 7 rfl ?_
     refine qn 5 rfl<|Qk ?_
     exact⟨rfl,true,Ql,hm,(Xe.gr G4)⟩
   refine qm rfl<|qv rfl (Wr (a:=a2) (b:=0) rfl rfl)<|Vc hm rfl (Qt rfl) (fun c4 hm=>?_) (fun c4 hm=>?_)
   · refine qn 7 rfl ?_
     refine qn 2 rfl<|Qk ?_
     exact⟨rfl,false,Ql,hm,(Xe.gr G4)⟩
   refine qn 3 rfl<|qv rfl (Vx (k:=.i64) (a:=a2) (b:=1) rfl rfl) ?_
   obtain⟨y6,m,hm⟩:=Qd hm
   have n:=(B7.gr G4)
   refine qv rfl (Yq (i:=Qc (a2-1)) Tryz.underlying30 (Qm).siz rfl n rfl m)<|qv rfl (Hl (q:=0) (u:=.int .i64 y6) Qm rfl n m (by first|rfl|omega) rfl)<|qv rfl (Tt (a:=y3) (b:=y6) rfl rfl)<|qn 2 rfl<|Qk ?_
   exact⟨rfl,(decide (y3≤y6)),Ql,hm,(Xe.gr G4)⟩
 clear hm;rintro a4 w3 ⟨hm,K3⟩
 have z9:=K3.size
 unfold Oz at hm
 refine Jo hm rfl (fun c2 hm=>?_) (fun c2 hm=>?_)
 · refine qs 1 rfl<|qm rfl<|Qa<|Qq<|Jf<|Xz ?_
   refine Xz<|Jf<|Xz ?_
   have t:=(X8.kz K3)
   cases hm
   exact⟨_,_,rfl,Qz rfl (Qn rfl),rfl,t⟩
 refine Jn<|Xh<|Xl<|qg 2 rfl<|qv rfl (Zd (k:=.i64) (a:=a2) (b:=1) rfl rfl)<|qm rfl<|Qk ?_
 have K_11:Kz [] w1 w3:=(K2.kz K3)
 subst d
 exact⟨rfl,⟨n1,Qc (a2+1)⟩,Ql,⟨hm,K_11⟩,Nat.lt_succ_self _⟩
theorem Qjc {p0 p1 p2 bp2 vp2_0 zp2_0 gp2_0 r}(hm:Ms p0 p1 p2=some r){w:World}(hbp2:Bx w bp2 101 ([vp2_0]))(a:Qg w zp2_0 gp2_0 137 2 vp2_0 (p2.map Qx.cs))(d:Xd (zp2_0=0∨gp2_0≠bp2)):
 Calls Tryz.prog 75 [.int .i64 p0,.int .i64 p1,.pointer (some ⟨bp2,0,none⟩)].toArray w fun e w'=>∃ v,e=.returned v∧(∃ ub0_s zb0_s gb0_s,v=.tuple #[]∧Qg w' zb0_s gb0_s 137 2 ub0_s (r.map Qx.cs)∧Xd (zb0_s=0∨(gb0_s=gp2_0∧zp2_0≠0)∨w.heap.size≤gb0_s)∧Bx w' bp2 101 ([ub0_s])∧Kz [(zp2_0,gp2_0),(1,bp2)] w w'):=by
 have f:=a.lth
 have u:=hbp2.lt
 unfold Ms at hm
 refine Xi 11 Tryz.func75 rfl rfl rfl<|qg 7 rfl<|qv rfl (Qi (v:=vp2_0) Qgi rfl hbp2 rfl)<|qn 2 rfl<|qv rfl (Zk (cs:=Qx.cs (Qx.mk p0 p1)) Qei rfl rfl)<|qe rfl (Ha [(Qx.mk p0 p1)] Qx.cs Qoc rfl rfl (Pc rfl) rfl rfl rfl) ?_
 rintro y w1 ⟨z,t,g,G1⟩
 have z3:=G1.size
 have B:=g.lth
 have B5:=(a.gr G1)
 obtain⟨l1,k,hm⟩:=Qd hm
 refine qe rfl (Nk (l:=p2) (m:=[(Qx.mk p0 p1)]) (c:=Qx.cs) Qvv rfl rfl B5 (Qg.rd g) k (by decide)) ?_
 rintro h w2 ⟨n,p,i,b,C,j⟩
 have z6:=b.size
 have B7:=((hbp2.gr G1).ka b (Qb ((Zc f.o d.o):zp2_0=0∨gp2_0≠bp2)))
 refine qe rfl (Zp (cs':=[h]) (Qgi).siz rfl rfl (Qg.oneB i) B7 rfl rfl) ?_
 rintro _ w3 ⟨q,M3⟩
 have z8:=M3.size
 refine Qk ?_
 have B9:=(i.md M3 (Nt j (Zc f.o d.o)))
 have s:=((((Kz.refl [(zp2_0,gp2_0),(1,bp2)] w).gr G1).ka b (Qb (Qf:zp2_0=0∨(gp2_0=gp2_0∧zp2_0≠0)∨w.heap.size≤gp2_0))).md M3)
 cases hm
 exact⟨_,_,rfl,Hj rfl,h,n,p,rfl,B9,⟨(Tq (A:=(fun x=>(x=gp2_0∧zp2_0≠0)∨w.heap.size≤x)) j Qf)⟩,q,s⟩
theorem Qxm {p0 p1 vp1 zp1 gp1 op1 r}(hm:Qcc p0 p1=some r){w:World}(aP:Rd w zp1 gp1 op1 1 vp1 (p1.map ic)):
 Calls Tryz.prog 41 [.agg (Qj.cs p0).toArray,vp1].toArray w fun e w'=>∃ v,e=.returned v∧(∃ ur0_s zr0_s gr0_s,v=.tuple [ur0_s,.int .i64 r.2].toArray∧Qg w' zr0_s gr0_s 137 2 ur0_s (r.1.map Qx.cs)∧Xd (zr0_s=0∨w.heap.size≤gr0_s)∧Gr w w'):=by
 have P:=aP.lth
 unfold Qcc at hm
 refine Xi 134 Tryz.func41 rfl rfl rfl<|qs 3 rfl<|qe rfl (Xo (cs:=Qj.cs p0) rfl rfl) ?_
 rintro _ w1 ⟨b1,rfl,cp,aQ,G1⟩
 have z2:=G1.size
 have cO:=aQ.lt
 refine qn 2 rfl<|qd 8 rfl<|qv rfl (Xa Zq rfl aQ rfl) ?_
 obtain⟨x1,bs,hm⟩:=Qd hm
 refine qe rfl (eC Qf9 rfl (Qes bs (Qg.rd (Zi _ 0 137 2)))) ?_
 rintro _ w2 ⟨rfl,G2⟩
 have z4:=G2.size
 refine qn 3 rfl<|qe rfl (Xg (cs:=Xj.cs (Xj.mk 0#8 0 0)) Sc rfl) ?_
 rintro _ w3 ⟨b3,rfl,cq,aR,G3⟩
 have z5:=G3.size
 have cP:=aR.lt
 refine qe rfl (Xf Ki rfl rfl rfl aR rfl rfl) ?_
 rintro _ w4 ⟨az,M4⟩
 have z7:=M4.size
 refine qm rfl<|Qa<|Qe<|qs 2 rfl<|qm rfl<|qv rfl (Kg (a:=x1.2) (b:=0) rfl rfl) ?_
 refine Qa<|Zv hm rfl (fun c1 hm=>?_) (fun c1 hm=>?_)
 · refine qs 3 rfl<|qn 3 rfl<|Qa<|Qq ?_
   refine Xz ?_
   have Y1:=Gr.trans (Gr.trans G1 G2) G3
   have X8:=(((Gr.refl w).trans Y1).md M4)
   cases hm
   exact⟨_,_,rfl,Za rfl (Qn rfl) (Qn rfl),(.slice none 0 0),0,0,rfl,(Zi _ 0 137 2),⟨.inl rfl⟩,X8⟩
 refine qu<|Qe<|qs 4 rfl<|qv rfl (Xa Ki rfl az rfl)<|qm rfl ?_
 have Y2:=Gr.trans (Gr.trans G1 G2) G3
 have B9:=((aP.gr Y2).md M4 (Qw P))
 obtain⟨x2,bu,hm⟩:=Qd hm
 refine qe rfl (eC Qze rfl (Qxt bu B9)) ?_
 rintro _ w5 ⟨rfl,G5⟩
 have cQ:=G5.size
 refine qv rfl (Kd rfl)<|Qa<|Jo hm rfl (fun c2 hm=>?_) (fun c2 hm=>?_)
 · refine qs 2 rfl<|qn 2 rfl<|Qa<|Qq<|Xz ?_
   have bw:=((((Gr.refl w).trans Y2).md M4).trans G5)
   cases hm
   exact⟨_,_,rfl,Za rfl (Qn rfl) (Qn rfl),(.slice none 0 0),0,0,rfl,(Zi _ 0 137 2),⟨.inl rfl⟩,bw⟩
 refine qu<|Qe<|qs 3 rfl<|qm rfl ?_
 have aS:=(B9.gr G5)
 refine qv rfl (Kq (l:=p1) (c:=ic) Tryz.underlying30 rfl aS)<|qv rfl (Zu (a:=(p1.length:Int)) (b:=0) rfl rfl)<|Qa<|Zv hm rfl (fun c3 hm=>?_) (fun c3 hm=>?_)
 · refine qs 4 rfl<|qv rfl (Zk (cs:=Qx.cs (Qx.mk 1 0)) Qei rfl rfl)<|qe rfl (Ha [(Qx.mk 1 0)] Qx.cs Qoc rfl rfl (Pc rfl) rfl rfl rfl) ?_
   rintro bx w6 ⟨bz,cr,aT,G6⟩
   have cR:=G6.size
   have ct:=aT.lth
   refine qn 2 rfl<|qb ?_
   have bA:=(((((Gr.refl w).trans Y2).md M4).trans G5).trans G6)
   cases hm
   exact⟨_,_,rfl,Za rfl (Qn rfl) (Qn rfl),bx,1,bz,rfl,aT,⟨(.inr Qf)⟩,bA⟩
 refine qu<|qs 2 rfl<|qe rfl (Xaa) ?_
 rintro _ w7 ⟨b7,rfl,cu,aU,G7⟩
 have cS:=G7.size
 have cv:=aU.lt
 refine qm rfl<|Qa<|Qe<|qs 3 rfl<|qm rfl ?_
 have aA:=(aS.gr G7)
 refine qv rfl (Kq (l:=p1) (c:=ic) Tryz.underlying30 rfl aA)<|qm rfl<|Qa<|Xn ?_
 have aV:=(((((Gr.refl w).trans Y2).md M4).trans G5).trans G7)
 refine Kf (α:=Nat × Int × List Int) ([10,11]++rg 37 14) (fun⟨n1,a5,a6⟩=>[(37,.int .i64 a5)]) (fun⟨n1,a5,a6⟩ wr=>(Qv (Mu p1 x1) n1 (a5,a6)=some r)∧Mo wr b7 a6∧Kz [(1,b7)] w7 wr) (fun⟨n1,a5,a6⟩=>n1) ⟨Xb,0,[]⟩ ?_ ?_ ?_
 · exact Ql
 · exact⟨hm,aU,Kz.refl _ _⟩
 clear hm;rintro⟨n1,a5,a6⟩ w8 ⟨hm,K,K8⟩
 have cT:=K8.size
 have cw:=K.lt
 have hb:=Kl hm;clear hm;obtain⟨n1,rfl,hm⟩:=hb
 generalize aB:Qv (Mu p1 x1) n1=au at hm
 unfold Mu at hm
 try dsimp only at hm
 refine qs 1 rfl<|qv rfl (Jv (a:=a5) (b:=(p1.length:Int)) rfl rfl)<|Qa<|Qe<|Zv hm rfl (fun c4 hm=>?_) (fun c4 hm=>?_)
 · refine qu<|Qe<|Xn<|qs 3 rfl ?_
   obtain⟨y7,aW,hm⟩:=Qd hm
   have aC:=(aA.kz K8 (Qb (Qw (b:=b7) P)))
   refine qv rfl (Yq (i:=a5) Tryz.underlying30 (Qm).siz rfl aC rfl aW)<|qv rfl (Hl (q:=0) (u:=.int .i64 y7) Qm rfl aC aW (by first|rfl|omega) rfl)<|qm rfl<|qd 4 rfl ?_
   have bB:=(((az.gr G5).gr G7).kz K8)
   refine qv rfl (Xa Ki rfl bB rfl)<|qm rfl ?_
   obtain⟨x8,bC,hm⟩:=Qd hm
   refine qe rfl (eC Qq4 rfl (Qp5 bC)) ?_
   rintro _ w9 ⟨rfl,G9⟩
   have cU:=G9.size
   refine qm rfl<|Qa<|Xn ?_
   have cV:=((aV.kz K8).trans G9)
   have cW:=(aC.gr G9)
   have bD:=(K.gr G9)
   refine Kf (α:=Nat × Int × List Int) ([11]++rg 44 6) (fun⟨n2,C,L⟩=>[(11,.int .i64 C)]) (fun⟨n2,C,L⟩ wr=>(Qv (Mv a5 au) n2 (C,L)=some r)∧Mo wr b7 L∧Kz [(1,b7)] w9 wr) (fun⟨n2,C,L⟩=>n2) ⟨Xb,x8,a6⟩ ?_ ?_ ?_
   · exact Ql
   · exact⟨hm,bD,Kz.refl _ _⟩
   clear hm;rintro⟨n2,C,L⟩ bE ⟨hm,G,aD⟩
   have cX:=aD.size
   have cx:=G.lt
   have hb:=Kl hm;clear hm;obtain⟨n2,rfl,hm⟩:=hb
   generalize aE:Qv (Mv a5 au) n2=cy at hm
   unfold Mv at hm
   try dsimp only at hm
   refine Qe<|qs 2 rfl<|qm rfl<|qv rfl (Wr (a:=C) (b:=0) rfl rfl)<|Qa<|Kx hm rfl (fun c5 hm=>?_) (fun c5 hm=>?_)
   · refine Jl<|Xu<|Xu<|Jk<|Xh<|Xl<|qg 2 rfl ?_
     refine qv rfl (Zd (k:=.i64) (a:=a5) (b:=1) rfl rfl)<|qm rfl<|Qk ?_
     have K_32:Kz [(1,b7)] w7 bE:=((K8.gr G9).kz aD)
     subst aB
     exact⟨rfl,⟨n1,Qc (a5+1),L⟩,Ql,⟨hm,G,K_32⟩,Nat.lt_succ_self _⟩
   refine qu<|Qe<|Xn<|qg 3 rfl<|qn 2 rfl ?_
   refine qe rfl (Xab (k:=C) Eg rfl rfl rfl G) ?_
   rintro _ bF ⟨aX,aY⟩
   have cY:=aY.size
   refine Qk<|Xh<|Xl<|qg 3 rfl<|qm rfl ?_
   obtain⟨nn13,hnn13,hm⟩:=Qd hm
   refine qv rfl (Qin (a:=C) (b:=(un 1#64)) rfl rfl hnn13)<|qm rfl<|Qk ?_
   have K_31:Kz [(1,b7)] w9 bF:=(aD.md aY)
   subst aE
   exact⟨rfl,⟨n2,Rh C nn13,Dz L C⟩,Ql,⟨hm,aX,K_31⟩,Nat.lt_succ_self _⟩
 refine Jl<|Xu<|Xu<|Jk<|Xl<|qs 1 rfl ?_
 refine qe rfl (Xg (cs:=[(.slice none 0 0)]) Xia rfl) ?_
 rintro _ cZ ⟨s,rfl,bG,av,ae⟩
 have c0:=ae.size
 have cz:=av.lt
 refine qd 2 rfl<|qv rfl (Tu rfl rfl)<|qm rfl<|Qa<|Qe ?_
 refine qs 2 rfl<|qm rfl ?_
 have aZ:=(K.gr ae)
 refine qe rfl (Xad Eg rfl aZ) ?_
 rintro _ h ⟨B,rfl,bH,aw,Q⟩
 have da:=Q.size
 have cA:=aw.lt
 refine Qa<|Xn ?_
 have aF:=(((aV.kz K8).trans ae).trans Q)
 have bI:=(((aA.kz K8 (Qb (Qw (b:=b7) P))).gr ae).gr Q)
 have bJ:=(aZ.gr Q)
 have bK:=(av.gr Q)
 refine Kf (α:=Nat × List Qx × Value × Nat × Nat × List Int) ([14,15,16]++rg 54 77) (fun⟨n3,t,vy17,zy17,gy17,rem⟩=>[]) (fun⟨n3,t,vy17,zy17,gy17,rem⟩ wr=>(Tc (Rw x1 a6) Mt n3 rem t=some r)∧Qg wr zy17 gy17 137 2 vy17 (t.map Qx.cs)∧Xd (zy17=0∨h.heap.size≤gy17)∧Bx wr s 101 [vy17]∧Mi wr B b7 a6 rem∧Kz [(1,s),(1,B)] h wr) (fun⟨n3,t,vy17,zy17,gy17,rem⟩=>n3) ⟨Xb,[],(.slice none 0 0),0,0,a6⟩ ?_ ?_ ?_
 · exact Ql
 · exact⟨hm,(Zi _ 0 137 2),⟨(.inl rfl)⟩,bK,aw,Kz.refl _ _⟩
 clear hm;rintro⟨n3,t,vy17,zy17,gy17,rem3⟩ db ⟨hm,n,d,f,ax,y⟩
 have dc:=y.size
 have cB:=n.lth
 have cC:=f.lt
 have cD:=ax.lt
 refine qs 2 rfl ?_
 have a0:=(bJ.kz y)
 refine qe rfl (Xac rfl a0 ax) ?_
 rintro _ a1 (⟨rfl,hr,ah⟩|⟨k18,hk,rfl,MKw15,g⟩)
 · have de:=ah.size
   replace hm:=Xf0 hm hr
   unfold Mt at hm
   try dsimp only at hm
   refine qm rfl<|Qa<|Qe<|Ty rfl<|Jl<|Xu<|Xu ?_
   refine Jk<|Xl<|qs 2 rfl ?_
   have a2:=(f.gr ah)
   refine qv rfl (Qi (v:=vy17) Qgi rfl a2 rfl) ?_
   have bL:=(n.gr ah)
   obtain⟨df,a3,hm⟩:=Qd hm
   refine qe rfl (eC Qzf rfl (Xft a3 _ _ _ _ bL)) ?_
   rintro _ dg ⟨a4,aG⟩
   have di:=aG.size
   refine qd 3 rfl ?_
   have bM:=(a2.kz aG (Qb (Qr (b:=s) d)))
   refine qv rfl (Qi (v:=vy17) Qgi rfl bM rfl)<|qn 2 rfl<|Qa<|Qq ?_
   have bN:=(((aF.kz y).trans ah).kz aG (Qb (Xm (A:=(fun x=>w.heap.size≤x)) d)))
   cases hm
   exact⟨_,_,rfl,Za rfl (Qn rfl) (Qn rfl),vy17,zy17,gy17,rfl,a4,⟨(Xm (A:=(fun x=>w.heap.size≤x)) d)⟩,bN⟩
 have dj:=g.size
 have hb:=Xez hm hk;clear hm;obtain⟨n3,rfl,hm⟩:=hb
 generalize hnx3:Tc (Rw x1 a6) Mt n3 (rem3.filter (· ≠ k18))=R at hm
 unfold Rw at hm
 try dsimp only at hm
 refine qm rfl<|Qa<|Qe<|Nb rfl<|qu<|Xn ?_
 refine qs 3 rfl ?_
 have ai:=(a0.md g)
 refine qv rfl (Xhb rfl ai MKw15)<|qn 2 rfl<|Qa<|Qe<|qs 3 rfl ?_
 refine qv rfl (Qh Ut rfl) ?_
 have a7:=(((((((az.gr G5).gr G7).kz K8).gr ae).gr Q).kz y).md g)
 refine qv rfl (Qi (v:=bv x1.1.kind) Zb rfl a7 rfl)<|qv rfl (Vt (p:=x1.1.kind) (q:=1#8) rfl rfl)<|Qa<|Zv hm rfl (fun c6 hm=>?_) (fun c6 hm=>?_)
 · refine Qe ?_
   have dk:=((aF.kz y).md g)
   refine qj (β:=Bool) (rg 61 9) (fun aj=>[(69,.bool aj)]) (fun aj wr=>(Od t R k18 aj=some r)∧Kz [] a1 wr) ?_ ?_
   · refine qg 9 rfl<|qm rfl<|qv rfl (Wr (a:=k18) (b:=1) rfl rfl)<|Vc hm rfl (Qt rfl) (fun c8 hm=>?_) (fun c8 hm=>?_)
     · refine qn 6 rfl<|Qk ?_
       exact⟨rfl,false,Ql,hm,Xe⟩
     refine qn 2 rfl ?_
     obtain⟨a8,a9,hm⟩:=Qd hm
     refine qe rfl (eC Qfb rfl (Qev a9)) ?_
     rintro _ dl ⟨rfl,aH⟩
     have dp:=aH.size
     have bO:=(ai.gr aH)
     refine qv rfl (Qe5 (k:=a8) (ks:=a6) Eg rfl rfl bO)<|qv rfl (Qni rfl)<|qm rfl<|Qk ?_
     exact⟨rfl,(decide (¬ (a8∈a6))),Ql,hm,(Xe.gr aH)⟩
   clear hm;rintro aj bP ⟨hm,H⟩
   have dq:=H.size
   unfold Od at hm
   refine Si hm rfl (fun c7 hm=>?_) (fun c7 hm=>?_)
   · refine qu<|Jl<|Xu<|Jk ?_
     have K_65:Kz [(1,s),(1,B)] h bP:=((y.md g).kz H)
     have bQ:=((n.md g (Qr d)).kz H)
     have bR:=((f.md g).kz H)
     have bS:=(Mi.kz (Mk.mi MKw15) H)
     subst hnx3
     exact⟨rfl,⟨n3,t,vy17,zy17,gy17,(rem3.filter (· ≠ k18))⟩,Ql,⟨hm,bQ,⟨(Xm (A:=(fun x=>h.heap.size≤x)) d)⟩,bR,bS,K_65⟩,Nat.lt_succ_self _⟩
   refine qg 4 rfl<|qn 2 rfl ?_
   obtain⟨dr,ba,hm⟩:=Qd hm
   refine qe rfl (eC Qfb rfl (Qev ba)) ?_
   rintro _ ds ⟨rfl,af⟩
   have dt:=af.size
   have bT:=(((f.md g).kz H).gr af)
   have bU:=(((n.md g (Qr d)).kz H).gr af)
   obtain⟨bV,bb,hm⟩:=Qd hm
   refine qe rfl (Yu Qk1 rfl rfl (Qjc bb bT bU ⟨(Qb (Qr (b:=s) d))⟩)) ?_
   rintro _ bW ⟨S,T,U,rfl,D,V,ak,aI⟩
   have du:=aI.size
   have cE:=D.lth
   refine Qa<|Jl<|Xu<|Jk ?_
   have K_63:Kz [(1,s),(1,B)] h bW:=((((y.md g).kz H).gr af).kz aI (Qb (Xm (A:=(fun x=>h.heap.size≤x)) d)))
   have bX:=(Mi.kz (Mi.gr (Mi.kz (Mk.mi MKw15) H) af) aI (Qb (Qr (b:=B) d)))
   subst hnx3
   exact⟨rfl,⟨n3,bV,S,T,U,(rem3.filter (· ≠ k18))⟩,Ql,⟨hm,D,⟨(Qp (A:=(fun x=>h.heap.size≤x)) V (Xm (A:=(fun x=>h.heap.size≤x)) d))⟩,ak,bX,K_63⟩,Nat.lt_succ_self _⟩
 refine qu<|Qe ?_
 have bY:=((aF.kz y).md g)
 refine qj (β:=Bool) (rg 74 9) (fun al=>[(82,.bool al)]) (fun al wr=>(Rv x1 a6 t R k18 al=some r)∧Kz [] a1 wr) ?_ ?_
 · refine qg 9 rfl<|qm rfl<|qv rfl (Wr (a:=k18) (b:=1) rfl rfl)<|Vc hm rfl (Qt rfl) (fun bZ hm=>?_) (fun bZ hm=>?_)
   · refine qn 6 rfl<|Qk ?_
     exact⟨rfl,false,Ql,hm,Xe⟩
   refine qn 2 rfl ?_
   obtain⟨bc,bd,hm⟩:=Qd hm
   refine qe rfl (eC Qfb rfl (Qev bd)) ?_
   rintro _ dv ⟨rfl,aJ⟩
   have cF:=aJ.size
   have bf:=(ai.gr aJ)
   refine qv rfl (Qe5 (k:=bc) (ks:=a6) Eg rfl rfl bf)<|qv rfl (Qni rfl)<|qm rfl<|Qk ?_
   exact⟨rfl,(decide (¬ (bc∈a6))),Ql,hm,(Xe.gr aJ)⟩
 clear hm;rintro al am ⟨hm,m⟩
 have dy:=m.size
 unfold Rv at hm
 refine Jo hm rfl (fun c9 hm=>?_) (fun c9 hm=>?_)
 · refine Jl<|Xu<|Jk ?_
   have K_75:Kz [(1,s),(1,B)] h am:=((y.md g).kz m)
   have b0:=((n.md g (Qr d)).kz m)
   have b2:=((f.md g).kz m)
   have b4:=(Mi.kz (Mk.mi MKw15) m)
   subst hnx3
   exact⟨rfl,⟨n3,t,vy17,zy17,gy17,(rem3.filter (· ≠ k18))⟩,Ql,⟨hm,b0,⟨(Xm (A:=(fun x=>h.heap.size≤x)) d)⟩,b2,b4,K_75⟩,Nat.lt_succ_self _⟩
 refine qu<|qs 2 rfl<|qn 2 rfl<|Qa ?_
 refine Qe<|Xn ?_
 have b5:=(bY.kz m)
 have dz:=(((bI.kz y (Zc (Qw (b:=s) P) (Qw (b:=B) P))).md g (Qw P)).kz m)
 have aK:=((n.md g (Qr d)).kz m)
 refine Kf (α:=Nat × Int) ([15]++rg 84 18) (fun⟨n6,j⟩=>[(15,.int .i64 j)]) (fun⟨n6,j⟩ wr=>(Qv (Sk x1 a6 t R k18) n6 j=some r)∧Kz [] am wr) (fun⟨n6,j⟩=>n6) ⟨Xb,k18⟩ ?_ ?_ ?_
 · exact Ql
 · exact⟨hm,Kz.refl _ _⟩
 clear hm;rintro⟨n6,j⟩ J ⟨hm,o⟩
 have dA:=o.size
 have hb:=Kl hm;clear hm;obtain⟨n6,rfl,hm⟩:=hb
 generalize ag:Qv (Sk x1 a6 t R k18) n6=cG at hm
 unfold Sk at hm
 try dsimp only at hm
 refine Qe<|qs 10 rfl<|qn 2 rfl<|qv rfl (Hw (k:=.i64) (a:=2) (b:=j) rfl rfl) ?_
 have aL:=((ai.kz m).kz o)
 refine qv rfl (Qe5 (k:=Qc (2*j)) (ks:=a6) Eg rfl rfl aL)<|qn 2 rfl<|qv rfl (Hw (k:=.i64) (a:=2) (b:=j) rfl rfl)<|qv rfl (Zd (k:=.i64) (a:=Qc (2*j)) (b:=1) rfl rfl)<|qv rfl (Qe5 (k:=Qc ((Qc (2*j))+1)) (ks:=a6) Eg rfl rfl aL)<|qv rfl (Xho Tryz.underlying4 rfl rfl) ?_
 refine Qa<|Jo hm rfl (fun b6 hm=>?_) (fun b6 hm=>?_)
 · refine qu<|Xn<|qs 3 rfl<|qm rfl<|qv rfl (Hw (k:=.i64) (a:=j) (b:=2) rfl rfl) ?_
   refine qm rfl<|qd 4 rfl<|qn 2 rfl<|qv rfl (Qe5 (k:=Qc (j*2)) (ks:=a6) Eg rfl rfl aL) ?_
   refine qv rfl (Qni rfl)<|Qa<|Kx hm rfl (fun b8 hm=>?_) (fun b8 hm=>?_)
   · refine Jn<|Xh ?_
     have K_85:Kz [] am J:=o
     subst ag
     exact⟨rfl,⟨n6,Qc (j*2)⟩,Ql,⟨hm,K_85⟩,Nat.lt_succ_self _⟩
   refine qg 3 rfl<|qm rfl<|qv rfl (Zd (k:=.i64) (a:=Qc (j*2)) (b:=1) rfl rfl)<|qm rfl<|Qk<|Xh ?_
   have K_84:Kz [] am J:=o
   subst ag
   exact⟨rfl,⟨n6,Qc ((Qc (j*2))+1)⟩,Ql,⟨hm,K_84⟩,Nat.lt_succ_self _⟩
 refine Jl<|Xu<|Xu<|Jk<|Xl<|Qe<|Qe ?_
 refine qg 3 rfl<|qn 2 rfl<|qv rfl (Zu (a:=j) (b:=k18) rfl rfl)<|Qa<|Zv hm rfl (fun b9 hm=>?_) (fun b9 hm=>?_)
 · refine Jl<|Xu<|Jk ?_
   have K_86:Kz [(1,s),(1,B)] h J:=(((y.md g).kz m).kz o)
   have ca:=(aK.kz o)
   have cb:=(((f.md g).kz m).kz o)
   have cc:=(Mi.kz (Mi.kz (Mk.mi MKw15) m) o)
   subst hnx3
   exact⟨rfl,⟨n3,t,vy17,zy17,gy17,(rem3.filter (· ≠ k18))⟩,Ql,⟨hm,ca,⟨(Xm (A:=(fun x=>h.heap.size≤x)) d)⟩,cb,cc,K_86⟩,Nat.lt_succ_self _⟩
 refine qu ?_
 have cd:=(b5.kz o)
 refine qj (β:=Int × List Qx × Value × Nat × Nat) ([14,16]++rg 105 22) (fun⟨an,ao,vy29,zy29,gy29⟩=>[(14,.int .i64 an)]) (fun⟨an,ao,vy29,zy29,gy29⟩ wr=>(Oe R j an ao=some r)∧Qg wr zy29 gy29 137 2 vy29 (ao.map Qx.cs)∧Xd (zy29=0∨(gy29=gy17∧zy17≠0)∨J.heap.size≤gy29)∧Bx wr s 101 [vy29]∧Kz [(1,s),(zy17,gy17)] J wr) ?_ ?_
 · refine qs 5 rfl ?_
   have bg:=((a7.kz m).kz o)
   refine qv rfl (Xa Ki rfl bg rfl)<|qn 2 rfl ?_
   obtain⟨aM,bh,hm⟩:=Qd hm
   refine qe rfl (eC Qq5 rfl (Qp0 bh)) ?_
   rintro _ ce ⟨rfl,I⟩
   have dB:=I.size
   refine qm rfl<|Qa ?_
   have cH:=(cd.trans I)
   refine qj (β:=Bool) (rg 109 13) (fun ap=>[(121,.bool ap)]) (fun ap wr=>(Gk t R k18 j aM ap=some r)∧Kz [] ce wr) ?_ ?_
   · refine qg 13 rfl<|qm rfl<|qv rfl (Kg (a:=aM) (b:=0) rfl rfl)<|Vc hm rfl (Qt rfl) (fun cf hm=>?_) (fun cf hm=>?_)
     · refine qn 7 rfl ?_
       refine qn 3 rfl<|Qk ?_
       exact⟨rfl,false,Ql,hm,Xe⟩
     refine qv rfl (Qh Ut rfl) ?_
     have ay:=(bg.gr I)
     refine qv rfl (Qi (v:=bv x1.1.kind) Zb rfl ay rfl)<|qv rfl (Vt (p:=x1.1.kind) (q:=3#8) rfl rfl)<|qm rfl<|Vc hm rfl (Qt rfl) (fun cg hm=>?_) (fun cg hm=>?_)
     · refine qn 5 rfl<|Qk ?_
       exact⟨rfl,false,Ql,hm,Xe⟩
     refine qv rfl (Xa Ki rfl ay rfl)<|qm rfl ?_
     obtain⟨ch,bi,hm⟩:=Qd hm
     refine qe rfl (eC Qk2 rfl (Qji bi)) ?_
     rintro _ dC ⟨rfl,bj⟩
     have cI:=bj.size
     refine qv rfl (Kd rfl)<|qm rfl<|Qk ?_
     exact⟨rfl,(!ch),Ql,hm,(Xe.gr bj)⟩
   clear hm;rintro ap ci ⟨hm,M⟩
   have cJ:=M.size
   unfold Gk at hm
   refine Si hm rfl (fun cj hm=>?_) (fun cj hm=>?_)
   · refine Jn ?_
     have K_107:Kz [(1,s),(zy17,gy17)] J ci:=((Kz.gr (Kz.refl _ _) I).kz M)
     have bk:=(((aK.kz o).gr I).kz M)
     have bl:=(((((f.md g).kz m).kz o).gr I).kz M)
     exact⟨rfl,⟨k18,t,vy17,zy17,gy17⟩,Ql,hm,bk,⟨Qf⟩,bl,K_107⟩
   refine qs 4 rfl<|qn 3 rfl ?_
   have bm:=(((((f.md g).kz m).kz o).gr I).kz M)
   have bo:=(((aK.kz o).gr I).kz M)
   obtain⟨ck,bp,hm⟩:=Qd hm
   refine qe rfl (Yu Qk1 rfl rfl (Qjc bp bm bo ⟨(Qb (Qr (b:=s) d))⟩)) ?_
   rintro _ dD ⟨W,X,Y,rfl,E,Z,aq,bq⟩
   have cK:=bq.size
   have cl:=E.lth
   refine Qa<|qg 2 rfl<|qn 2 rfl<|Qk ?_
   exact⟨rfl,⟨aM,ck,W,X,Y⟩,Ql,hm,E,⟨(Qp (A:=(fun x=>(x=gy17∧zy17≠0)∨J.heap.size≤x)) Z Qf)⟩,aq,(((Kz.gr (Kz.refl _ _) I).kz M).kz bq (Qb (Qf:zy17=0∨(gy17=gy17∧zy17≠0)∨J.heap.size≤gy17)))⟩
 clear hm;rintro⟨an,ao,vy29,zy29,gy29⟩ dE ⟨hm,N,z,O,aN⟩
 have dF:=aN.size
 have cL:=N.lth
 have cM:=O.lt
 unfold Oe at hm
 refine qg 4 rfl<|qn 3 rfl ?_
 obtain⟨cm,br,hm⟩:=Qd hm
 refine qe rfl (Yu Qk1 rfl rfl (Qjc br O N ⟨(Qb (Qo (b:=s) z (Qr d)))⟩)) ?_
 rintro _ cn ⟨aa,ab,ac,rfl,F,ad,ar,aO⟩
 have dG:=aO.size
 have cN:=F.lth
 refine Qk<|Xh ?_
 have K_96:Kz [(1,s),(1,B)] h cn:=(((((y.md g).kz m).kz o).kz aN (Qb (Xm (A:=(fun x=>h.heap.size≤x)) d))).kz aO (Qb (Qp (A:=(fun x=>h.heap.size≤x)) z (Xm (A:=(fun x=>h.heap.size≤x)) d))))
 have co:=(Mi.kz (Mi.kz (Mi.kz (Mi.kz (Mk.mi MKw15) m) o) aN (Qb (Qr (b:=B) d))) aO (Qb (Qo (b:=B) z (Qr d))))
 subst hnx3
 exact⟨rfl,⟨n3,cm,aa,ab,ac,(rem3.filter (· ≠ k18))⟩,Ql,⟨hm,F,⟨(Qp (A:=(fun x=>h.heap.size≤x)) ad (Qp (A:=(fun x=>h.heap.size≤x)) z (Xm (A:=(fun x=>h.heap.size≤x)) d)))⟩,ar,co,K_96⟩,Nat.lt_succ_self _⟩
end Go.Proofs.YtopkalcefepilaaGreat.Mx
