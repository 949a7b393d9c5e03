/- Walks that follow mirrors: Gd. Printed by mx.py. -/
import Derived.Test.YtopkalcefepilaaGreatGf
import Derived.Test.YtopkalcefepilaaGreatZd
set_option linter.unusedVariables false
set_option linter.unusedSimpArgs false
set_option maxRecDepth 100000
set_option maxHeartbeats 2000000
namespace Go.Proofs.YtopkalcefepilaaGreat.Mx
open Go Go.RowKit Go.Sx
theorem Qp4:En Tryz.prog 101:=fun _ _=>by kernel_rfl
theorem Qq7:En Tryz.prog 73:=fun _ _=>by kernel_rfl
theorem Nz:Wt Tryz.prog 101 1 137 2 [.int .i64 0,.int .i64 0]:=La Tryz.underlying101 (Wn).siz Qa2 rfl rfl (by kernel_rfl)
theorem Rn:MpT Tryz.prog 148 149 4:=⟨Tryz.underlying148,Tryz.underlying149,fun _=>by kernel_rfl⟩
theorem Qxm:ZV Tryz.prog 101 (.slice none 0 0):=fun _=>by kernel_rfl
theorem Qbb:Ya Tryz.prog 101:=fun _=>⟨by kernel_rfl,by kernel_rfl⟩
theorem Nw:Ph Tryz.prog 101 137 2 16:=Ep Tryz.underlying101 rfl (by kernel_rfl)
theorem Qe9:En Tryz.prog 75:=fun _ _=>by kernel_rfl
theorem Qq8:En Tryz.prog 79:=fun _ _=>by kernel_rfl
theorem Qou {p0 p1 r}(hm:Aa p0 p1=some r){w:World}:
 Calls Tryz.prog 101 [.agg (Xl.cs p0).toArray,.int .i64 p1].toArray w fun e w'=>∃ v,e=.returned v∧(v=.bool r∧Gr w w'):=by
 unfold Aa at hm
 refine Xj 13 Tryz.func101 rfl rfl rfl<|qs 2 rfl<|qe rfl (Xq (cs:=Xl.cs p0) rfl rfl) ?_
 rintro _ w1 ⟨b1,rfl,f,c,G1⟩
 have z1:=G1.size
 have g:=c.lt
 refine qm rfl<|qd 9 rfl<|qm rfl<|qv rfl (Yq (a:=p1) (b:=0) rfl rfl)<|Jo hm rfl (Qt rfl) (fun c1 hm=>?_) (fun c1 hm=>?_)
 · refine qn 6 rfl<|Qa ?_
   refine Qp ?_
   have X5:=((Gr.refl w).trans G1)
   cases hm
   exact⟨_,_,rfl,Qr rfl (Ql rfl),rfl,X5⟩
 refine qm rfl<|qv rfl (Xm Jy rfl c rfl) ?_
 obtain⟨x1,d,hm⟩:=Qc hm
 refine qe rfl (eC Qe1 rfl (Qdu d)) ?_
 rintro _ w2 ⟨rfl,G2⟩
 have z3:=G2.size
 refine qv rfl (Zo (a:=p1) (b:=x1) rfl rfl)<|qn 2 rfl<|Qa<|Qp ?_
 have X4:=(((Gr.refl w).trans G1).trans G2)
 cases hm
 exact⟨_,_,rfl,Qr rfl (Ql rfl),rfl,X4⟩
theorem Qot {p0 p1 vp1 zp1 gp1 op1 r}(hm:Cr p0 p1=some r){w:World}(f:Rd w zp1 gp1 op1 1 vp1 (p1.map ic)):
 Calls Tryz.prog 73 [.agg (Xl.cs p0).toArray,vp1].toArray w fun e w'=>∃ v,e=.returned v∧(v=.bool r∧Gr w w'):=by
 have y:=f.lth
 unfold Cr at hm
 refine Xj 32 Tryz.func73 rfl rfl rfl<|qs 2 rfl<|qe rfl (Xq (cs:=Xl.cs p0) rfl rfl) ?_
 rintro _ w1 ⟨b1,rfl,x,g,G1⟩
 have z2:=G1.size
 have z:=g.lt
 refine qm rfl<|Qa<|Qh<|qs 3 rfl<|qm rfl ?_
 have B4:=(f.gr G1)
 refine qv rfl (Vm (l:=p1) (c:=ic) Tryz.underlying30 rfl B4)<|qm rfl<|Qa<|Xc ?_
 have X5:=((Gr.refl w).trans G1)
 refine Zv (α:=Nat × Int) ([4,5,6]++rg 9 23) (fun⟨n1,a2⟩=>[(4,.bool false),(9,.int .i64 a2)]) (fun⟨n1,a2⟩ wr=>(Qs (Rc p0 p1) n1 a2=some r)∧Kz [] w1 wr) (fun⟨n1,a2⟩=>n1) ⟨Qy,0⟩ ?_ ?_ ?_
 · exact Qi
 · exact⟨hm,Kz.refl _ _⟩
 clear hm;rintro⟨n1,a2⟩ w2 ⟨hm,K2⟩
 have z6:=K2.size
 have hb:=Zu hm;clear hm;obtain⟨n1,rfl,hm⟩:=hb
 generalize d:Qs (Rc p0 p1) n1=h at hm
 unfold Rc at hm
 try dsimp only at hm
 refine qs 1 rfl<|qv rfl (Zo (a:=a2) (b:=(p1.length:Int)) rfl rfl)<|Qa<|Qh<|Zy hm rfl (fun c1 hm=>?_) (fun c1 hm=>?_)
 · refine Zd<|Xh<|Xh<|Zc<|Xa<|qs 1 rfl ?_
   refine qm rfl<|Qa<|Qp ?_
   have o:=(X5.kz K2)
   cases hm
   exact⟨_,_,rfl,Qr rfl (Ql rfl),rfl,o⟩
 refine qu<|Qh<|Xc<|qs 5 rfl<|qm rfl ?_
 obtain⟨y3,j,hm⟩:=Qc hm
 have B7:=(B4.kz K2)
 refine qv rfl (Jl (i:=a2) Tryz.underlying30 (Qe).siz rfl B7 rfl j)<|qv rfl (Zt (q:=0) (u:=.int .i64 y3) Qe rfl B7 j (by first|rfl|omega) rfl)<|qn 2 rfl<|Qa ?_
 have X8:=(X5.kz K2)
 refine qj (β:=Bool) (rg 14 17) (fun a4=>[(30,.bool a4)]) (fun a4 wr=>(Cs a2 h a4=some r)∧Kz [] w2 wr) ?_ ?_
 · refine qg 17 rfl ?_
   have p:=(g.kz K2)
   refine qv rfl (Xm Jy rfl p rfl)<|qm rfl ?_
   obtain⟨x5,s,hm⟩:=Qc hm
   refine qe rfl (eC Qp4 rfl (Qou s)) ?_
   rintro _ w4 ⟨rfl,G4⟩
   have A:=G4.size
   refine qv rfl (Zr rfl)<|Hm hm rfl (Qt rfl) (fun c3 hm=>?_) (fun c3 hm=>?_)
   · refine qn 7 rfl ?_
     refine qn 5 rfl<|Qj ?_
     exact⟨rfl,true,Qi,hm,(Qw.gr G4)⟩
   refine qm rfl<|qv rfl (Ky (a:=a2) (b:=0) rfl rfl)<|Jo hm rfl (Qt rfl) (fun c4 hm=>?_) (fun c4 hm=>?_)
   · refine qn 7 rfl ?_
     refine qn 2 rfl<|Qj ?_
     exact⟨rfl,false,Qi,hm,(Qw.gr G4)⟩
   refine qn 3 rfl<|qv rfl (Js (k:=.i64) (a:=a2) (b:=1) rfl rfl) ?_
   obtain⟨y6,m,hm⟩:=Qc hm
   have n:=(B7.gr G4)
   refine qv rfl (Jl (i:=Qb (a2-1)) Tryz.underlying30 (Qe).siz rfl n rfl m)<|qv rfl (Zt (q:=0) (u:=.int .i64 y6) Qe rfl n m (by first|rfl|omega) rfl)<|qv rfl (Yr (a:=y3) (b:=y6) rfl rfl)<|qn 2 rfl<|Qj ?_
   exact⟨rfl,(decide (y3≤y6)),Qi,hm,(Qw.gr G4)⟩
 clear hm;rintro a4 w3 ⟨hm,K3⟩
 have z9:=K3.size
 unfold Cs at hm
 refine Zh hm rfl (fun c2 hm=>?_) (fun c2 hm=>?_)
 · refine qs 1 rfl<|qm rfl<|Qa<|Qp<|Zk<|Xp ?_
   refine Xp<|Zk<|Xp ?_
   have t:=(X8.kz K3)
   cases hm
   exact⟨_,_,rfl,Qr rfl (Ql rfl),rfl,t⟩
 refine Jb<|Xi<|Xa<|qg 2 rfl<|qv rfl (Xn (k:=.i64) (a:=a2) (b:=1) rfl rfl)<|qm rfl<|Qj ?_
 have K_11:Kz [] w1 w3:=(K2.kz K3)
 subst d
 exact⟨rfl,⟨n1,Qb (a2+1)⟩,Qi,⟨hm,K_11⟩,Nat.lt_succ_self _⟩
theorem Qdp {p0 p1 p2 bp2 vp2_0 zp2_0 gp2_0 r}(hm:Fq p0 p1 p2=some r){w:World}(hbp2:Bx w bp2 101 ([vp2_0]))(a:Qk w zp2_0 gp2_0 137 2 vp2_0 (p2.map Qm.cs))(d:Xb (zp2_0=0∨gp2_0≠bp2)):
 Calls Tryz.prog 75 [.int .i64 p0,.int .i64 p1,.pointer (some ⟨bp2,0,none⟩)].toArray w fun e w'=>∃ v,e=.returned v∧(∃ ub0_s zb0_s gb0_s,v=.tuple #[]∧Qk w' zb0_s gb0_s 137 2 ub0_s (r.map Qm.cs)∧Xb (zb0_s=0∨(gb0_s=gp2_0∧zp2_0≠0)∨w.heap.size≤gb0_s)∧Bx w' bp2 101 ([ub0_s])∧Kz [(zp2_0,gp2_0),(1,bp2)] w w'):=by
 have f:=a.lth
 have u:=hbp2.lt
 unfold Fq at hm
 refine Xj 11 Tryz.func75 rfl rfl rfl<|qg 7 rfl<|qv rfl (Qf (v:=vp2_0) Qbb rfl hbp2 rfl)<|qn 2 rfl<|qv rfl (Kl (cs:=Qm.cs (Qm.mk p0 p1)) Dn rfl rfl)<|qe rfl (Kt [(Qm.mk p0 p1)] Qm.cs Nz rfl rfl (Vj rfl) rfl rfl rfl) ?_
 rintro y w1 ⟨z,t,g,G1⟩
 have z3:=G1.size
 have B:=g.lth
 have B5:=(a.gr G1)
 obtain⟨l1,k,hm⟩:=Qc hm
 refine qe rfl (Ha (l:=p2) (m:=[(Qm.mk p0 p1)]) (c:=Qm.cs) Nw rfl rfl B5 (Qk.rd g) k (by decide)) ?_
 rintro h w2 ⟨n,p,i,b,C,j⟩
 have z6:=b.size
 have B7:=((hbp2.gr G1).ka b (Qd ((Jq f.o d.o):zp2_0=0∨gp2_0≠bp2)))
 refine qe rfl (Zs (cs':=[h]) (Qbb).siz rfl rfl (Qk.oneB i) B7 rfl rfl) ?_
 rintro _ w3 ⟨q,M3⟩
 have z8:=M3.size
 refine Qj ?_
 have B9:=(i.md M3 (Hz j (Jq f.o d.o)))
 have s:=((((Kz.refl [(zp2_0,gp2_0),(1,bp2)] w).gr G1).ka b (Qd (Qn:zp2_0=0∨(gp2_0=gp2_0∧zp2_0≠0)∨w.heap.size≤gp2_0))).md M3)
 cases hm
 exact⟨_,_,rfl,Ta rfl,h,n,p,rfl,B9,⟨(Kc (A:=(fun x=>(x=gp2_0∧zp2_0≠0)∨w.heap.size≤x)) j Qn)⟩,q,s⟩
theorem Qon {p0 p1 vp1 zp1 gp1 op1 r}(hm:Et p0 p1=some r){w:World}(aP:Rd w zp1 gp1 op1 1 vp1 (p1.map ic)):
 Calls Tryz.prog 41 [.agg (Qo.cs p0).toArray,vp1].toArray w fun e w'=>∃ v,e=.returned v∧(∃ ur0_s zr0_s gr0_s,v=.tuple [ur0_s,.int .i64 r.2].toArray∧Qk w' zr0_s gr0_s 137 2 ur0_s (r.1.map Qm.cs)∧Xb (zr0_s=0∨w.heap.size≤gr0_s)∧Gr w w'):=by
 have P:=aP.lth
 unfold Et at hm
 refine Xj 134 Tryz.func41 rfl rfl rfl<|qs 3 rfl<|qe rfl (Xq (cs:=Qo.cs p0) rfl rfl) ?_
 rintro _ w1 ⟨b1,rfl,cp,aQ,G1⟩
 have z2:=G1.size
 have cO:=aQ.lt
 refine qn 2 rfl<|qd 8 rfl<|qv rfl (Xm Zj rfl aQ rfl) ?_
 obtain⟨x1,bs,hm⟩:=Qc hm
 refine qe rfl (eC Qip rfl (Qhk bs (Qk.rd (Kx _ 0 137 2)))) ?_
 rintro _ w2 ⟨rfl,G2⟩
 have z4:=G2.size
 refine qn 3 rfl<|qe rfl (Zz (cs:=Xl.cs (Xl.mk 0#8 0 0)) Ff rfl) ?_
 rintro _ w3 ⟨b3,rfl,cq,aR,G3⟩
 have z5:=G3.size
 have cP:=aR.lt
 refine qe rfl (Jh Jy rfl rfl rfl aR rfl rfl) ?_
 rintro _ w4 ⟨az,M4⟩
 have z7:=M4.size
 refine qm rfl<|Qa<|Qh<|qs 2 rfl<|qm rfl<|qv rfl (Ke (a:=x1.2) (b:=0) rfl rfl) ?_
 refine Qa<|Zq hm rfl (fun c1 hm=>?_) (fun c1 hm=>?_)
 · refine qs 3 rfl<|qn 3 rfl<|Qa<|Qp ?_
   refine Xp ?_
   have Y1:=Gr.trans (Gr.trans G1 G2) G3
   have X8:=(((Gr.refl w).trans Y1).md M4)
   cases hm
   exact⟨_,_,rfl,Jk rfl (Ql rfl) (Ql rfl),(.slice none 0 0),0,0,rfl,(Kx _ 0 137 2),⟨.inl rfl⟩,X8⟩
 refine qu<|Qh<|qs 4 rfl<|qv rfl (Xm Jy rfl az rfl)<|qm rfl ?_
 have Y2:=Gr.trans (Gr.trans G1 G2) G3
 have B9:=((aP.gr Y2).md M4 (Xs P))
 obtain⟨x2,bu,hm⟩:=Qc hm
 refine qe rfl (eC Qq7 rfl (Qot bu B9)) ?_
 rintro _ w5 ⟨rfl,G5⟩
 have cQ:=G5.size
 refine qv rfl (Zr rfl)<|Qa<|Zh hm rfl (fun c2 hm=>?_) (fun c2 hm=>?_)
 · refine qs 2 rfl<|qn 2 rfl<|Qa<|Qp<|Xp ?_
   have bw:=((((Gr.refl w).trans Y2).md M4).trans G5)
   cases hm
   exact⟨_,_,rfl,Jk rfl (Ql rfl) (Ql rfl),(.slice none 0 0),0,0,rfl,(Kx _ 0 137 2),⟨.inl rfl⟩,bw⟩
 refine qu<|Qh<|qs 3 rfl<|qm rfl ?_
 have aS:=(B9.gr G5)
 refine qv rfl (Vm (l:=p1) (c:=ic) Tryz.underlying30 rfl aS)<|qv rfl (Xv (a:=(p1.length:Int)) (b:=0) rfl rfl)<|Qa<|Zq hm rfl (fun c3 hm=>?_) (fun c3 hm=>?_)
 · refine qs 4 rfl<|qv rfl (Kl (cs:=Qm.cs (Qm.mk 1 0)) Dn rfl rfl)<|qe rfl (Kt [(Qm.mk 1 0)] Qm.cs Nz rfl rfl (Vj rfl) rfl rfl rfl) ?_
   rintro bx w6 ⟨bz,cr,aT,G6⟩
   have cR:=G6.size
   have ct:=aT.lth
   refine qn 2 rfl<|qb ?_
   have bA:=(((((Gr.refl w).trans Y2).md M4).trans G5).trans G6)
   cases hm
   exact⟨_,_,rfl,Jk rfl (Ql rfl) (Ql rfl),bx,1,bz,rfl,aT,⟨(.inr Qn)⟩,bA⟩
 refine qu<|qs 2 rfl<|qe rfl (Qqy) ?_
 rintro _ w7 ⟨b7,rfl,cu,aU,G7⟩
 have cS:=G7.size
 have cv:=aU.lt
 refine qm rfl<|Qa<|Qh<|qs 3 rfl<|qm rfl ?_
 have aA:=(aS.gr G7)
 refine qv rfl (Vm (l:=p1) (c:=ic) Tryz.underlying30 rfl aA)<|qm rfl<|Qa<|Xc ?_
 have aV:=(((((Gr.refl w).trans Y2).md M4).trans G5).trans G7)
 refine Zv (α:=Nat × Int × List Int) ([10,11]++rg 37 14) (fun⟨n1,a5,a6⟩=>[(37,.int .i64 a5)]) (fun⟨n1,a5,a6⟩ wr=>(Qs (Ft p1 x1) n1 (a5,a6)=some r)∧Mo wr b7 a6∧Kz [(1,b7)] w7 wr) (fun⟨n1,a5,a6⟩=>n1) ⟨Qy,0,[]⟩ ?_ ?_ ?_
 · exact Qi
 · exact⟨hm,aU,Kz.refl _ _⟩
 clear hm;rintro⟨n1,a5,a6⟩ w8 ⟨hm,K,K8⟩
 have cT:=K8.size
 have cw:=K.lt
 have hb:=Zu hm;clear hm;obtain⟨n1,rfl,hm⟩:=hb
 generalize aB:Qs (Ft p1 x1) n1=au at hm
 unfold Ft at hm
 try dsimp only at hm
 refine qs 1 rfl<|qv rfl (Zo (a:=a5) (b:=(p1.length:Int)) rfl rfl)<|Qa<|Qh<|Zq hm rfl (fun c4 hm=>?_) (fun c4 hm=>?_)
 · refine qu<|Qh<|Xc<|qs 3 rfl ?_
   obtain⟨y7,aW,hm⟩:=Qc hm
   have aC:=(aA.kz K8 (Qd (Xs (b:=b7) P)))
   refine qv rfl (Jl (i:=a5) Tryz.underlying30 (Qe).siz rfl aC rfl aW)<|qv rfl (Zt (q:=0) (u:=.int .i64 y7) Qe rfl aC aW (by first|rfl|omega) rfl)<|qm rfl<|qd 4 rfl ?_
   have bB:=(((az.gr G5).gr G7).kz K8)
   refine qv rfl (Xm Jy rfl bB rfl)<|qm rfl ?_
   obtain⟨x8,bC,hm⟩:=Qc hm
   refine qe rfl (eC Qit rfl (Qhq bC)) ?_
   rintro _ w9 ⟨rfl,G9⟩
   have cU:=G9.size
   refine qm rfl<|Qa<|Xc ?_
   have cV:=((aV.kz K8).trans G9)
   have cW:=(aC.gr G9)
   have bD:=(K.gr G9)
   refine Zv (α:=Nat × Int × List Int) ([11]++rg 44 6) (fun⟨n2,C,L⟩=>[(11,.int .i64 C)]) (fun⟨n2,C,L⟩ wr=>(Qs (Fu a5 au) n2 (C,L)=some r)∧Mo wr b7 L∧Kz [(1,b7)] w9 wr) (fun⟨n2,C,L⟩=>n2) ⟨Qy,x8,a6⟩ ?_ ?_ ?_
   · exact Qi
   · exact⟨hm,bD,Kz.refl _ _⟩
   clear hm;rintro⟨n2,C,L⟩ bE ⟨hm,G,aD⟩
   have cX:=aD.size
   have cx:=G.lt
   have hb:=Zu hm;clear hm;obtain⟨n2,rfl,hm⟩:=hb
   generalize aE:Qs (Fu a5 au) n2=cy at hm
   unfold Fu at hm
   try dsimp only at hm
   refine Qh<|qs 2 rfl<|qm rfl<|qv rfl (Ky (a:=C) (b:=0) rfl rfl)<|Qa<|Zy hm rfl (fun c5 hm=>?_) (fun c5 hm=>?_)
   · refine Zd<|Xh<|Xh<|Zc<|Xi<|Xa<|qg 2 rfl ?_
     refine qv rfl (Xn (k:=.i64) (a:=a5) (b:=1) rfl rfl)<|qm rfl<|Qj ?_
     have K_32:Kz [(1,b7)] w7 bE:=((K8.gr G9).kz aD)
     subst aB
     exact⟨rfl,⟨n1,Qb (a5+1),L⟩,Qi,⟨hm,G,K_32⟩,Nat.lt_succ_self _⟩
   refine qu<|Qh<|Xc<|qg 3 rfl<|qn 2 rfl ?_
   refine qe rfl (Qqz (k:=C) Rn rfl rfl rfl G) ?_
   rintro _ bF ⟨aX,aY⟩
   have cY:=aY.size
   refine Qj<|Xi<|Xa<|qg 3 rfl<|qm rfl ?_
   obtain⟨nn13,hnn13,hm⟩:=Qc hm
   refine qv rfl (Qdb (a:=C) (b:=(un 1#64)) rfl rfl hnn13)<|qm rfl<|Qj ?_
   have K_31:Kz [(1,b7)] w9 bF:=(aD.md aY)
   subst aE
   exact⟨rfl,⟨n2,Ns C nn13,Hd L C⟩,Qi,⟨hm,aX,K_31⟩,Nat.lt_succ_self _⟩
 refine Zd<|Xh<|Xh<|Zc<|Xa<|qs 1 rfl ?_
 refine qe rfl (Zz (cs:=[(.slice none 0 0)]) Qxm rfl) ?_
 rintro _ cZ ⟨s,rfl,bG,av,ae⟩
 have c0:=ae.size
 have cz:=av.lt
 refine qd 2 rfl<|qv rfl (Tx rfl rfl)<|qm rfl<|Qa<|Qh ?_
 refine qs 2 rfl<|qm rfl ?_
 have aZ:=(K.gr ae)
 refine qe rfl (Qr2 Rn rfl aZ) ?_
 rintro _ h ⟨B,rfl,bH,aw,Q⟩
 have da:=Q.size
 have cA:=aw.lt
 refine Qa<|Xc ?_
 have aF:=(((aV.kz K8).trans ae).trans Q)
 have bI:=(((aA.kz K8 (Qd (Xs (b:=b7) P))).gr ae).gr Q)
 have bJ:=(aZ.gr Q)
 have bK:=(av.gr Q)
 refine Zv (α:=Nat × List Qm × Value × Nat × Nat × List Int) ([14,15,16]++rg 54 77) (fun⟨n3,t,vy17,zy17,gy17,rem⟩=>[]) (fun⟨n3,t,vy17,zy17,gy17,rem⟩ wr=>(Hg (Lg x1 a6) Fs n3 rem t=some r)∧Qk wr zy17 gy17 137 2 vy17 (t.map Qm.cs)∧Xb (zy17=0∨h.heap.size≤gy17)∧Bx wr s 101 [vy17]∧Mi wr B b7 a6 rem∧Kz [(1,s),(1,B)] h wr) (fun⟨n3,t,vy17,zy17,gy17,rem⟩=>n3) ⟨Qy,[],(.slice none 0 0),0,0,a6⟩ ?_ ?_ ?_
 · exact Qi
 · exact⟨hm,(Kx _ 0 137 2),⟨(.inl rfl)⟩,bK,aw,Kz.refl _ _⟩
 clear hm;rintro⟨n3,t,vy17,zy17,gy17,rem3⟩ db ⟨hm,n,d,f,ax,y⟩
 have dc:=y.size
 have cB:=n.lth
 have cC:=f.lt
 have cD:=ax.lt
 refine qs 2 rfl ?_
 have a0:=(bJ.kz y)
 refine qe rfl (Qr1 rfl a0 ax) ?_
 rintro _ a1 (⟨rfl,hr,ah⟩|⟨k18,hk,rfl,MKw15,g⟩)
 · have dd:=ah.size
   replace hm:=Qvb hm hr
   unfold Fs at hm
   try dsimp only at hm
   refine qm rfl<|Qa<|Qh<|Dj rfl<|Zd<|Xh<|Xh ?_
   refine Zc<|Xa<|qs 2 rfl ?_
   have a2:=(f.gr ah)
   refine qv rfl (Qf (v:=vy17) Qbb rfl a2 rfl) ?_
   have bL:=(n.gr ah)
   obtain⟨de,a3,hm⟩:=Qc hm
   refine qe rfl (eC Qq8 rfl (Qw8 a3 _ _ _ _ bL)) ?_
   rintro _ df ⟨a4,aG⟩
   have dg:=aG.size
   refine qd 3 rfl ?_
   have bM:=(a2.kz aG (Qd (Qu (b:=s) d)))
   refine qv rfl (Qf (v:=vy17) Qbb rfl bM rfl)<|qn 2 rfl<|Qa<|Qp ?_
   have bN:=(((aF.kz y).trans ah).kz aG (Qd (Xe (A:=(fun x=>w.heap.size≤x)) d)))
   cases hm
   exact⟨_,_,rfl,Jk rfl (Ql rfl) (Ql rfl),vy17,zy17,gy17,rfl,a4,⟨(Xe (A:=(fun x=>w.heap.size≤x)) d)⟩,bN⟩
 have di:=g.size
 have hb:=Qva hm hk;clear hm;obtain⟨n3,rfl,hm⟩:=hb
 generalize hnx3:Hg (Lg x1 a6) Fs n3 (rem3.filter (· ≠ k18))=R at hm
 unfold Lg at hm
 try dsimp only at hm
 refine qm rfl<|Qa<|Qh<|Nt rfl<|qu<|Xc ?_
 refine qs 3 rfl ?_
 have ai:=(a0.md g)
 refine qv rfl (Qwz rfl ai MKw15)<|qn 2 rfl<|Qa<|Qh<|qs 3 rfl ?_
 refine qv rfl (Qg Mc rfl) ?_
 have a7:=(((((((az.gr G5).gr G7).kz K8).gr ae).gr Q).kz y).md g)
 refine qv rfl (Qf (v:=bv x1.1.kind) Zb rfl a7 rfl)<|qv rfl (Jz (p:=x1.1.kind) (q:=1#8) rfl rfl)<|Qa<|Zq hm rfl (fun c6 hm=>?_) (fun c6 hm=>?_)
 · refine Qh ?_
   have dj:=((aF.kz y).md g)
   refine qj (β:=Bool) (rg 61 9) (fun aj=>[(69,.bool aj)]) (fun aj wr=>(Cj t R k18 aj=some r)∧Kz [] a1 wr) ?_ ?_
   · refine qg 9 rfl<|qm rfl<|qv rfl (Ky (a:=k18) (b:=1) rfl rfl)<|Jo hm rfl (Qt rfl) (fun c8 hm=>?_) (fun c8 hm=>?_)
     · refine qn 6 rfl<|Qj ?_
       exact⟨rfl,false,Qi,hm,Qw⟩
     refine qn 2 rfl ?_
     obtain⟨a8,a9,hm⟩:=Qc hm
     refine qe rfl (eC Qar rfl (Qad a9)) ?_
     rintro _ dk ⟨rfl,aH⟩
     have dl:=aH.size
     have bO:=(ai.gr aH)
     refine qv rfl (Qa0 (k:=a8) (ks:=a6) Rn rfl rfl bO)<|qv rfl (Qgu rfl)<|qm rfl<|Qj ?_
     exact⟨rfl,(decide (¬ (a8∈a6))),Qi,hm,(Qw.gr aH)⟩
   clear hm;rintro aj bP ⟨hm,H⟩
   have dp:=H.size
   unfold Cj at hm
   refine Wz hm rfl (fun c7 hm=>?_) (fun c7 hm=>?_)
   · refine qu<|Zd<|Xh<|Zc ?_
     have K_65:Kz [(1,s),(1,B)] h bP:=((y.md g).kz H)
     have bQ:=((n.md g (Qu d)).kz H)
     have bR:=((f.md g).kz H)
     have bS:=(Mi.kz (Mk.mi MKw15) H)
     subst hnx3
     exact⟨rfl,⟨n3,t,vy17,zy17,gy17,(rem3.filter (· ≠ k18))⟩,Qi,⟨hm,bQ,⟨(Xe (A:=(fun x=>h.heap.size≤x)) d)⟩,bR,bS,K_65⟩,Nat.lt_succ_self _⟩
   refine qg 4 rfl<|qn 2 rfl ?_
   obtain⟨dq,ba,hm⟩:=Qc hm
   refine qe rfl (eC Qar rfl (Qad ba)) ?_
   rintro _ dr ⟨rfl,af⟩
   have ds:=af.size
   have bT:=(((f.md g).kz H).gr af)
   have bU:=(((n.md g (Qu d)).kz H).gr af)
   obtain⟨bV,bb,hm⟩:=Qc hm
   refine qe rfl (Gp Qe9 rfl rfl (Qdp bb bT bU ⟨(Qd (Qu (b:=s) d))⟩)) ?_
   rintro _ bW ⟨S,T,U,rfl,D,V,ak,aI⟩
   have dt:=aI.size
   have cE:=D.lth
   refine Qa<|Zd<|Xh<|Zc ?_
   have K_63:Kz [(1,s),(1,B)] h bW:=((((y.md g).kz H).gr af).kz aI (Qd (Xe (A:=(fun x=>h.heap.size≤x)) d)))
   have bX:=(Mi.kz (Mi.gr (Mi.kz (Mk.mi MKw15) H) af) aI (Qd (Qu (b:=B) d)))
   subst hnx3
   exact⟨rfl,⟨n3,bV,S,T,U,(rem3.filter (· ≠ k18))⟩,Qi,⟨hm,D,⟨(Xu (A:=(fun x=>h.heap.size≤x)) V (Xe (A:=(fun x=>h.heap.size≤x)) d))⟩,ak,bX,K_63⟩,Nat.lt_succ_self _⟩
 refine qu<|Qh ?_
 have bY:=((aF.kz y).md g)
 refine qj (β:=Bool) (rg 74 9) (fun al=>[(82,.bool al)]) (fun al wr=>(Lf x1 a6 t R k18 al=some r)∧Kz [] a1 wr) ?_ ?_
 · refine qg 9 rfl<|qm rfl<|qv rfl (Ky (a:=k18) (b:=1) rfl rfl)<|Jo hm rfl (Qt rfl) (fun bZ hm=>?_) (fun bZ hm=>?_)
   · refine qn 6 rfl<|Qj ?_
     exact⟨rfl,false,Qi,hm,Qw⟩
   refine qn 2 rfl ?_
   obtain⟨bc,bd,hm⟩:=Qc hm
   refine qe rfl (eC Qar rfl (Qad bd)) ?_
   rintro _ du ⟨rfl,aJ⟩
   have cF:=aJ.size
   have be:=(ai.gr aJ)
   refine qv rfl (Qa0 (k:=bc) (ks:=a6) Rn rfl rfl be)<|qv rfl (Qgu rfl)<|qm rfl<|Qj ?_
   exact⟨rfl,(decide (¬ (bc∈a6))),Qi,hm,(Qw.gr aJ)⟩
 clear hm;rintro al am ⟨hm,m⟩
 have dv:=m.size
 unfold Lf at hm
 refine Zh hm rfl (fun c9 hm=>?_) (fun c9 hm=>?_)
 · refine Zd<|Xh<|Zc ?_
   have K_75:Kz [(1,s),(1,B)] h am:=((y.md g).kz m)
   have b0:=((n.md g (Qu d)).kz m)
   have b2:=((f.md g).kz m)
   have b4:=(Mi.kz (Mk.mi MKw15) m)
   subst hnx3
   exact⟨rfl,⟨n3,t,vy17,zy17,gy17,(rem3.filter (· ≠ k18))⟩,Qi,⟨hm,b0,⟨(Xe (A:=(fun x=>h.heap.size≤x)) d)⟩,b2,b4,K_75⟩,Nat.lt_succ_self _⟩
 refine qu<|qs 2 rfl<|qn 2 rfl<|Qa ?_
 refine Qh<|Xc ?_
 have b5:=(bY.kz m)
 have dy:=(((bI.kz y (Jq (Xs (b:=s) P) (Xs (b:=B) P))).md g (Xs P)).kz m)
 have aK:=((n.md g (Qu d)).kz m)
 refine Zv (α:=Nat × Int) ([15]++rg 84 18) (fun⟨n6,j⟩=>[(15,.int .i64 j)]) (fun⟨n6,j⟩ wr=>(Qs (Gm x1 a6 t R k18) n6 j=some r)∧Kz [] am wr) (fun⟨n6,j⟩=>n6) ⟨Qy,k18⟩ ?_ ?_ ?_
 · exact Qi
 · exact⟨hm,Kz.refl _ _⟩
 clear hm;rintro⟨n6,j⟩ J ⟨hm,o⟩
 have dz:=o.size
 have hb:=Zu hm;clear hm;obtain⟨n6,rfl,hm⟩:=hb
 generalize ag:Qs (Gm x1 a6 t R k18) n6=cG at hm
 unfold Gm at hm
 try dsimp only at hm
 refine Qh<|qs 10 rfl<|qn 2 rfl<|qv rfl (Kb (k:=.i64) (a:=2) (b:=j) rfl rfl) ?_
 have aL:=((ai.kz m).kz o)
 refine qv rfl (Qa0 (k:=Qb (2*j)) (ks:=a6) Rn rfl rfl aL)<|qn 2 rfl<|qv rfl (Kb (k:=.i64) (a:=2) (b:=j) rfl rfl)<|qv rfl (Xn (k:=.i64) (a:=Qb (2*j)) (b:=1) rfl rfl)<|qv rfl (Qa0 (k:=Qb ((Qb (2*j))+1)) (ks:=a6) Rn rfl rfl aL)<|qv rfl (Qni Tryz.underlying4 rfl rfl) ?_
 refine Qa<|Zh hm rfl (fun b6 hm=>?_) (fun b6 hm=>?_)
 · refine qu<|Xc<|qs 3 rfl<|qm rfl<|qv rfl (Kb (k:=.i64) (a:=j) (b:=2) rfl rfl) ?_
   refine qm rfl<|qd 4 rfl<|qn 2 rfl<|qv rfl (Qa0 (k:=Qb (j*2)) (ks:=a6) Rn rfl rfl aL) ?_
   refine qv rfl (Qgu rfl)<|Qa<|Zy hm rfl (fun b8 hm=>?_) (fun b8 hm=>?_)
   · refine Jb<|Xi ?_
     have K_85:Kz [] am J:=o
     subst ag
     exact⟨rfl,⟨n6,Qb (j*2)⟩,Qi,⟨hm,K_85⟩,Nat.lt_succ_self _⟩
   refine qg 3 rfl<|qm rfl<|qv rfl (Xn (k:=.i64) (a:=Qb (j*2)) (b:=1) rfl rfl)<|qm rfl<|Qj<|Xi ?_
   have K_84:Kz [] am J:=o
   subst ag
   exact⟨rfl,⟨n6,Qb ((Qb (j*2))+1)⟩,Qi,⟨hm,K_84⟩,Nat.lt_succ_self _⟩
 refine Zd<|Xh<|Xh<|Zc<|Xa<|Qh<|Qh ?_
 refine qg 3 rfl<|qn 2 rfl<|qv rfl (Xv (a:=j) (b:=k18) rfl rfl)<|Qa<|Zq hm rfl (fun b9 hm=>?_) (fun b9 hm=>?_)
 · refine Zd<|Xh<|Zc ?_
   have K_86:Kz [(1,s),(1,B)] h J:=(((y.md g).kz m).kz o)
   have ca:=(aK.kz o)
   have cb:=(((f.md g).kz m).kz o)
   have cc:=(Mi.kz (Mi.kz (Mk.mi MKw15) m) o)
   subst hnx3
   exact⟨rfl,⟨n3,t,vy17,zy17,gy17,(rem3.filter (· ≠ k18))⟩,Qi,⟨hm,ca,⟨(Xe (A:=(fun x=>h.heap.size≤x)) d)⟩,cb,cc,K_86⟩,Nat.lt_succ_self _⟩
 refine qu ?_
 have cd:=(b5.kz o)
 refine qj (β:=Int × List Qm × Value × Nat × Nat) ([14,16]++rg 105 22) (fun⟨an,ao,vy29,zy29,gy29⟩=>[(14,.int .i64 an)]) (fun⟨an,ao,vy29,zy29,gy29⟩ wr=>(Cl R j an ao=some r)∧Qk wr zy29 gy29 137 2 vy29 (ao.map Qm.cs)∧Xb (zy29=0∨(gy29=gy17∧zy17≠0)∨J.heap.size≤gy29)∧Bx wr s 101 [vy29]∧Kz [(1,s),(zy17,gy17)] J wr) ?_ ?_
 · refine qs 5 rfl ?_
   have bf:=((a7.kz m).kz o)
   refine qv rfl (Xm Jy rfl bf rfl)<|qn 2 rfl ?_
   obtain⟨aM,bg,hm⟩:=Qc hm
   refine qe rfl (eC Qiu rfl (Qho bg)) ?_
   rintro _ ce ⟨rfl,I⟩
   have dA:=I.size
   refine qm rfl<|Qa ?_
   have cH:=(cd.trans I)
   refine qj (β:=Bool) (rg 109 13) (fun ap=>[(121,.bool ap)]) (fun ap wr=>(Ps t R k18 j aM ap=some r)∧Kz [] ce wr) ?_ ?_
   · refine qg 13 rfl<|qm rfl<|qv rfl (Ke (a:=aM) (b:=0) rfl rfl)<|Jo hm rfl (Qt rfl) (fun cf hm=>?_) (fun cf hm=>?_)
     · refine qn 7 rfl ?_
       refine qn 3 rfl<|Qj ?_
       exact⟨rfl,false,Qi,hm,Qw⟩
     refine qv rfl (Qg Mc rfl) ?_
     have ay:=(bf.gr I)
     refine qv rfl (Qf (v:=bv x1.1.kind) Zb rfl ay rfl)<|qv rfl (Jz (p:=x1.1.kind) (q:=3#8) rfl rfl)<|qm rfl<|Jo hm rfl (Qt rfl) (fun cg hm=>?_) (fun cg hm=>?_)
     · refine qn 5 rfl<|Qj ?_
       exact⟨rfl,false,Qi,hm,Qw⟩
     refine qv rfl (Xm Jy rfl ay rfl)<|qm rfl ?_
     obtain⟨ch,bh,hm⟩:=Qc hm
     refine qe rfl (eC Qea rfl (Qdv bh)) ?_
     rintro _ dB ⟨rfl,bi⟩
     have cI:=bi.size
     refine qv rfl (Zr rfl)<|qm rfl<|Qj ?_
     exact⟨rfl,(!ch),Qi,hm,(Qw.gr bi)⟩
   clear hm;rintro ap ci ⟨hm,M⟩
   have cJ:=M.size
   unfold Ps at hm
   refine Wz hm rfl (fun cj hm=>?_) (fun cj hm=>?_)
   · refine Jb ?_
     have K_107:Kz [(1,s),(zy17,gy17)] J ci:=((Kz.gr (Kz.refl _ _) I).kz M)
     have bj:=(((aK.kz o).gr I).kz M)
     have bk:=(((((f.md g).kz m).kz o).gr I).kz M)
     exact⟨rfl,⟨k18,t,vy17,zy17,gy17⟩,Qi,hm,bj,⟨Qn⟩,bk,K_107⟩
   refine qs 4 rfl<|qn 3 rfl ?_
   have bm:=(((((f.md g).kz m).kz o).gr I).kz M)
   have bo:=(((aK.kz o).gr I).kz M)
   obtain⟨ck,bp,hm⟩:=Qc hm
   refine qe rfl (Gp Qe9 rfl rfl (Qdp bp bm bo ⟨(Qd (Qu (b:=s) d))⟩)) ?_
   rintro _ dC ⟨W,X,Y,rfl,E,Z,aq,bq⟩
   have cK:=bq.size
   have cl:=E.lth
   refine Qa<|qg 2 rfl<|qn 2 rfl<|Qj ?_
   exact⟨rfl,⟨aM,ck,W,X,Y⟩,Qi,hm,E,⟨(Xu (A:=(fun x=>(x=gy17∧zy17≠0)∨J.heap.size≤x)) Z Qn)⟩,aq,(((Kz.gr (Kz.refl _ _) I).kz M).kz bq (Qd (Qn:zy17=0∨(gy17=gy17∧zy17≠0)∨J.heap.size≤gy17)))⟩
 clear hm;rintro⟨an,ao,vy29,zy29,gy29⟩ dD ⟨hm,N,z,O,aN⟩
 have dE:=aN.size
 have cL:=N.lth
 have cM:=O.lt
 unfold Cl at hm
 refine qg 4 rfl<|qn 3 rfl ?_
 obtain⟨cm,br,hm⟩:=Qc hm
 refine qe rfl (Gp Qe9 rfl rfl (Qdp br O N ⟨(Qd (Xo (b:=s) z (Qu d)))⟩)) ?_
 rintro _ cn ⟨aa,ab,ac,rfl,F,ad,ar,aO⟩
 have dF:=aO.size
 have cN:=F.lth
 refine Qj<|Xi ?_
 have K_96:Kz [(1,s),(1,B)] h cn:=(((((y.md g).kz m).kz o).kz aN (Qd (Xe (A:=(fun x=>h.heap.size≤x)) d))).kz aO (Qd (Xu (A:=(fun x=>h.heap.size≤x)) z (Xe (A:=(fun x=>h.heap.size≤x)) d))))
 have co:=(Mi.kz (Mi.kz (Mi.kz (Mi.kz (Mk.mi MKw15) m) o) aN (Qd (Qu (b:=B) d))) aO (Qd (Xo (b:=B) z (Qu d))))
 subst hnx3
 exact⟨rfl,⟨n3,cm,aa,ab,ac,(rem3.filter (· ≠ k18))⟩,Qi,⟨hm,F,⟨(Xu (A:=(fun x=>h.heap.size≤x)) ad (Xu (A:=(fun x=>h.heap.size≤x)) z (Xe (A:=(fun x=>h.heap.size≤x)) d)))⟩,ar,co,K_96⟩,Nat.lt_succ_self _⟩
end Go.Proofs.YtopkalcefepilaaGreat.Mx
