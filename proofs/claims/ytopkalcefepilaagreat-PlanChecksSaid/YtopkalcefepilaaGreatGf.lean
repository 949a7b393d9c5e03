/- Walks that follow mirrors: Gf. Printed by mx.py. -/
import Derived.Test.YtopkalcefepilaaGreatGe
import Derived.Test.YtopkalcefepilaaGreatZd
set_option linter.unusedVariables false
set_option linter.unusedSimpArgs false
set_option maxRecDepth 100000
set_option maxHeartbeats 2000000
namespace Go.Proofs.YtopkalcefepilaaGreat.Mx
open Go Go.RowKit Go.Sx
theorem Qan:En Tryz.prog 25:=fun _ _=>by kernel_rfl
theorem Qil:En Tryz.prog 24:=fun _ _=>by kernel_rfl
theorem Qnt:ZV Tryz.prog 26 (.agg [.int .i64 0,.int .i64 0,.int .i64 0,.int .i64 0,.int .i64 0,.int .i64 0,.int .u64 0,.int .u64 0,.int .u64 0].toArray):=fun _=>by kernel_rfl
theorem Qod:BS Tryz.prog 26 (fun i=>[(0,1),(1,1),(2,1),(3,1),(4,1),(5,1),(6,3)][i]?) [.int .i64 0,.int .i64 0,.int .i64 0,.int .i64 0,.int .i64 0,.int .i64 0,.int .u64 0,.int .u64 0,.int .u64 0]:=Ny Tryz.underlying26 Qnt ⟨rfl,(Qe).siz,rfl,(Qe).siz,rfl,(Qe).siz,rfl,(Qe).siz,rfl,(Qe).siz,rfl,(Qe).siz,rfl,(Tc).siz,trivial⟩
theorem Qim:En Tryz.prog 26:=fun _ _=>by kernel_rfl
theorem Qia:En Tryz.prog 15:=fun _ _=>by kernel_rfl
theorem Qoi:Wt Tryz.prog 30 2 3 1 [.int .i64 0,.int .i64 0]:=La Tryz.underlying30 (Qe).siz Dm rfl rfl (by kernel_rfl)
theorem Qh7:Wt Tryz.prog 30 5 3 1 [.int .i64 0,.int .i64 0,.int .i64 0,.int .i64 0,.int .i64 0]:=La Tryz.underlying30 (Qe).siz Dm rfl rfl (by kernel_rfl)
theorem Qpy:En Tryz.prog 46:=fun _ _=>by kernel_rfl
theorem Qin:En Tryz.prog 28:=fun _ _=>by kernel_rfl
theorem Qe5:En Tryz.prog 23:=fun _ _=>by kernel_rfl
theorem Qb2 {p0 p1 r}(hm:Mj p0 p1=some r){w:World}:
 Calls Tryz.prog 25 [bv p0,.int .i64 p1].toArray w fun e w'=>∃ v,e=.returned v∧(v=.agg (Qo.cs r).toArray∧Gr w w'):=by
 unfold Mj at hm
 refine Xj 8 Tryz.func25 rfl rfl rfl<|qs 1 rfl<|qe rfl (Zz (cs:=Qo.cs (Qo.mk 0#8 0 0 (Xz.mk 0#64 0#64 0#64))) Bt rfl) ?_
 rintro _ w1 ⟨b1,rfl,c,a,G1⟩
 have z1:=G1.size
 have d:=a.lt
 refine qd 4 rfl<|qn 2 rfl<|qv rfl (Kl (cs:=Qo.cs (Qo.mk p0 p1 0 (Xz.mk 0#64 0#64 0#64))) Cf rfl rfl)<|qe rfl (Jh Zj rfl rfl rfl a rfl rfl) ?_
 rintro _ w2 ⟨b,M2⟩
 have z3:=M2.size
 refine Qa<|Qp ?_
 have X4:=(((Gr.refl w).trans G1).md M2)
 cases hm
 exact⟨_,_,rfl,Qr rfl (Wc Zj rfl b rfl),rfl,X4⟩
theorem Qjx {r}(hm:Qb1=some r){w:World}:
 Calls Tryz.prog 26 [].toArray w fun e w'=>∃ v,e=.returned v∧(v=.agg (Xg.cs r).toArray∧Gr w w'):=by
 unfold Qb1 at hm
 refine Xj 2 Tryz.func26 rfl rfl rfl<|qs 1 rfl<|qe rfl (Zz (cs:=Xg.cs (Xg.mk 0 0 0 0 0 0 (Xz.mk 0#64 0#64 0#64))) Qnt rfl) ?_
 rintro _ w1 ⟨b1,rfl,c,a,G1⟩
 have z1:=G1.size
 have d:=a.lt
 refine qd 2 rfl<|qv rfl (Kl (cs:=Xg.cs (Xg.mk 2 1 48 10 1 2 (Xz.mk 0#64 0#64 0#64))) Qod rfl rfl)<|qe rfl (Jh Wx rfl rfl rfl a rfl rfl) ?_
 rintro _ w2 ⟨b,M2⟩
 have z3:=M2.size
 refine Qa<|Qp ?_
 have X4:=(((Gr.refl w).trans G1).md M2)
 cases hm
 exact⟨_,_,rfl,Qr rfl (Wc Wx rfl b rfl),rfl,X4⟩
theorem Qjy {p0 p1 vp1 zp1 gp1 op1 r}(hm:Qb3 p0 p1=some r){w:World}(f:Rd w zp1 gp1 op1 1 vp1 (p1.map ic)):
 Calls Tryz.prog 28 [.agg (Qo.cs p0).toArray,vp1].toArray w fun e w'=>∃ v,e=.returned v∧(v=.bool r∧Gr w w'):=by
 have t:=f.lth
 unfold Qb3 at hm
 refine Xj 30 Tryz.func28 rfl rfl rfl<|qs 2 rfl<|qe rfl (Xq (cs:=Qo.cs p0) rfl rfl) ?_
 rintro _ w1 ⟨b1,rfl,s,g,G1⟩
 have z2:=G1.size
 have x:=g.lt
 refine qm rfl<|Qa<|Qh<|qs 3 rfl<|qm rfl ?_
 have B4:=(f.gr G1)
 refine qv rfl (Vm (l:=p1) (c:=ic) Tryz.underlying30 rfl B4)<|qm rfl<|Qa<|Xc ?_
 have X5:=((Gr.refl w).trans G1)
 refine Zv (α:=Nat × Int) ([4,5,6,7]++rg 10 20) (fun⟨n1,a2⟩=>[(4,.bool false),(10,.int .i64 a2)]) (fun⟨n1,a2⟩ wr=>(Qs (Qb5 p0 p1) n1 a2=some r)∧Kz [] w1 wr) (fun⟨n1,a2⟩=>n1) ⟨Qy,0⟩ ?_ ?_ ?_
 · exact Qi
 · exact⟨hm,Kz.refl _ _⟩
 clear hm;rintro⟨n1,a2⟩ w2 ⟨hm,K2⟩
 have z6:=K2.size
 have hb:=Zu hm;clear hm;obtain⟨n1,rfl,hm⟩:=hb
 generalize d:Qs (Qb5 p0 p1) n1=h at hm
 unfold Qb5 at hm
 try dsimp only at hm
 refine qs 1 rfl<|qv rfl (Zo (a:=a2) (b:=(p1.length:Int)) rfl rfl)<|Qa<|Qh<|Zy hm rfl (fun c1 hm=>?_) (fun c1 hm=>?_)
 · refine Zd<|Xh<|Xh<|Zc<|Xa<|qs 1 rfl ?_
   refine qm rfl<|Qa<|Qp ?_
   have n:=(X5.kz K2)
   cases hm
   exact⟨_,_,rfl,Qr rfl (Ql rfl),rfl,n⟩
 refine qu<|Qh<|Xc<|qs 2 rfl<|qm rfl ?_
 refine qm rfl<|qd 8 rfl ?_
 have B7:=(g.kz K2)
 refine qv rfl (Xm Zj rfl B7 rfl)<|qm rfl ?_
 obtain⟨x3,o,hm⟩:=Qc hm
 refine qe rfl (eC Qpy rfl (Qtj o)) ?_
 rintro _ w3 ⟨rfl,G3⟩
 have z8:=G3.size
 refine qn 5 rfl<|Qa ?_
 have X9:=((X5.kz K2).trans G3)
 refine qj (β:=Bool) (rg 19 10) (fun a4=>[(28,.bool a4)]) (fun a4 wr=>(Qb4 a2 h a4=some r)∧Kz [] w3 wr) ?_ ?_
 · refine qg 10 rfl<|qm rfl<|qv rfl (Ke (a:=x3.2) (b:=0) rfl rfl)<|Zm hm rfl (Qt rfl) (fun c3 hm=>?_) (fun c3 hm=>?_)
   · refine qn 7 rfl ?_
     refine Qj ?_
     exact⟨rfl,true,Qi,hm,Qw⟩
   refine qn 3 rfl ?_
   obtain⟨y5,j,hm⟩:=Qc hm
   have m:=((B4.kz K2).gr G3)
   refine qv rfl (Jl (i:=a2) Tryz.underlying30 (Qe).siz rfl m rfl j)<|qv rfl (Zt (q:=0) (u:=.int .i64 y5) Qe rfl m j (by first|rfl|omega) rfl)<|qv rfl (Ke (a:=x3.1) (b:=y5) rfl rfl)<|qm rfl<|Qj ?_
   exact⟨rfl,(decide (x3.1≠y5)),Qi,hm,Qw⟩
 clear hm;rintro a4 w4 ⟨hm,K4⟩
 have y:=K4.size
 unfold Qb4 at hm
 refine Zh hm rfl (fun c2 hm=>?_) (fun c2 hm=>?_)
 · refine qs 1 rfl<|qm rfl<|Qa<|Qp<|Zk<|Xp ?_
   refine Xp<|Zk<|Xp ?_
   have p:=(X9.kz K4)
   cases hm
   exact⟨_,_,rfl,Qr rfl (Ql rfl),rfl,p⟩
 refine Jb<|Xi<|Xa<|qg 2 rfl<|qv rfl (Xn (k:=.i64) (a:=a2) (b:=1) rfl rfl)<|qm rfl<|Qj ?_
 have K_12:Kz [] w1 w4:=((K2.gr G3).kz K4)
 subst d
 exact⟨rfl,⟨n1,Qb (a2+1)⟩,Qi,⟨hm,K_12⟩,Nat.lt_succ_self _⟩
theorem Qxs {r}(hm:Qjw=some r){w:World}:
 Calls Tryz.prog 8 [].toArray w fun e w'=>∃ v,e=.returned v∧(v=.bool r∧Gr w w'):=by
 unfold Qjw at hm
 refine Xj 82 Tryz.func8 rfl rfl rfl<|qs 1 rfl<|qm rfl<|qd 7 rfl ?_
 obtain⟨x1,aE,hm⟩:=Qc hm
 refine qe rfl (eC Qan rfl (Qb2 aE)) ?_
 rintro _ w1 ⟨rfl,G1⟩
 have z1:=G1.size
 obtain⟨x2,aF,hm⟩:=Qc hm
 refine qe rfl (eC Qil rfl (Qkp aF)) ?_
 rintro _ w2 ⟨W,X,Y,rfl,g,Z,G2⟩
 have z2:=G2.size
 have aa:=g.lth
 refine qn 5 rfl<|Qa<|Qh ?_
 refine qg 7 rfl ?_
 obtain⟨x3,aG,hm⟩:=Qc hm
 refine qe rfl (eC Qan rfl (Qb2 aG)) ?_
 rintro _ w3 ⟨rfl,G3⟩
 have z4:=G3.size
 obtain⟨x4,aH,hm⟩:=Qc hm
 refine qe rfl (eC Qil rfl (Qkp aH)) ?_
 rintro _ w4 ⟨ab,ac,ad,rfl,h,ae,G4⟩
 have z5:=G4.size
 have af:=h.lth
 refine qn 5 rfl<|Qa<|Qh ?_
 refine qg 8 rfl ?_
 obtain⟨x5,aI,hm⟩:=Qc hm
 refine qe rfl (eC Qim rfl (Qjx aI)) ?_
 rintro _ w5 ⟨rfl,G5⟩
 have z7:=G5.size
 obtain⟨x6,aJ,hm⟩:=Qc hm
 refine qe rfl (eC Qiv rfl (Qkn aJ)) ?_
 rintro _ w6 ⟨ag,ah,ai,rfl,i,aj,G6⟩
 have z8:=G6.size
 have K:=i.lth
 refine qn 3 rfl<|qe rfl (Zz (cs:=Qq.cs (Qq.mk 0#8 false 0 0 0 0 0 []) (.slice none 0 0)) Pf rfl) ?_
 rintro _ w7 ⟨b7,rfl,be,ak,G7⟩
 have bA:=G7.size
 have bf:=ak.lt
 have al:=(i.gr G7)
 refine qe rfl (Jh Zf rfl rfl (Qq.cs_ones _ _ (Qk.oneB al)) ak rfl rfl) ?_
 rintro _ w8 ⟨aK,M8⟩
 have bB:=M8.size
 refine qm rfl<|qd 8 rfl ?_
 obtain⟨x7,aL,hm⟩:=Qc hm
 refine qe rfl (eC Qim rfl (Qjx aL)) ?_
 rintro _ w9 ⟨rfl,G9⟩
 have bC:=G9.size
 obtain⟨x8,aM,hm⟩:=Qc hm
 refine qe rfl (eC Qia rfl (Qko aM)) ?_
 rintro _ bD ⟨k,R,S,T,rfl,c,U,V,am⟩
 have bE:=am.size
 have C:=c.flt
 have D:=c.lth
 refine qn 3 rfl<|qe rfl (Zz (cs:=Xk.cs (Xk.mk [] 0#8) (.slice none 0 0)) Nu rfl) ?_
 rintro _ bF ⟨aN,rfl,aO,E,L⟩
 have bG:=L.size
 have bg:=E.lt
 have an:=(c.gr L)
 refine qe rfl (Jh Wy rfl rfl (Xk.cs_ones _ _ (Xw.oneB an)) E rfl rfl) ?_
 rintro _ aP ⟨ao,j⟩
 have bH:=j.size
 refine qm rfl<|Qa<|Qh ?_
 have Y1:=Gr.trans (Gr.trans G9 am) L
 have m:=(((((((((((Gr.refl w).trans G1).trans G2).trans G3).trans G4).trans G5).trans G6).trans G7).md M8).trans Y1).md j)
 refine qj (β:=Bool) (rg 30 26) (fun a9=>[(55,.bool a9)]) (fun a9 wr=>(Ly x6 x8 a9=some r)∧Kz [] aP wr) ?_ ?_
 · refine qg 26 rfl<|qm rfl<|qv rfl (Ke (a:=x2.2) (b:=0) rfl rfl)<|Zm hm rfl (Qt rfl) (fun c6 hm=>?_) (fun c6 hm=>?_)
   · refine qn 7 rfl ?_
     refine qn 7 rfl ?_
     refine qn 7 rfl ?_
     refine qn 2 rfl<|Qj ?_
     exact⟨rfl,true,Qi,hm,Qw⟩
   refine qm rfl<|qv rfl (Ke (a:=x4.2) (b:=0) rfl rfl)<|qm rfl<|Zm hm rfl (Qt rfl) (fun c7 hm=>?_) (fun c7 hm=>?_)
   · refine qn 7 rfl ?_
     refine qn 7 rfl ?_
     refine qn 5 rfl<|Qj ?_
     exact⟨rfl,true,Qi,hm,Qw⟩
   refine qm rfl<|qv rfl (Ke (a:=x6.2) (b:=0) rfl rfl)<|qm rfl<|Zm hm rfl (Qt rfl) (fun c8 hm=>?_) (fun c8 hm=>?_)
   · refine qn 7 rfl ?_
     refine qn 7 rfl ?_
     refine qm rfl<|Qj ?_
     exact⟨rfl,true,Qi,hm,Qw⟩
   refine qm rfl<|qv rfl (Ke (a:=x8.2) (b:=0) rfl rfl)<|qm rfl<|Zm hm rfl (Qt rfl) (fun c9 hm=>?_) (fun c9 hm=>?_)
   · refine qn 7 rfl ?_
     refine qn 4 rfl<|Qj ?_
     exact⟨rfl,true,Qi,hm,Qw⟩
   refine qm rfl<|qe rfl (Kt [3] ic Gi rfl rfl (Vj rfl) rfl rfl rfl) ?_
   rintro bh bI ⟨bi,aQ,F,n⟩
   have bJ:=n.size
   have bj:=F.lth
   have Y2:=Gr.trans (Gr.trans (Gr.trans (Gr.trans G3 G4) G5) G6) G7
   have aR:=(((((g.gr Y2).md M8 (Xs aa)).gr Y1).md j (Xs aa)).gr n)
   obtain⟨bK,ap,hm⟩:=Qc hm
   refine qe rfl (eC Qe6 rfl (Qft ap (Qk.rd aR) (Qk.rd F))) ?_
   rintro _ bL ⟨rfl,t⟩
   have bM:=t.size
   refine qv rfl (Zr rfl)<|qm rfl<|Hm hm rfl (Qt rfl) (fun aS hm=>?_) (fun aS hm=>?_)
   · refine qn 5 rfl<|Qj ?_
     exact⟨rfl,true,Qi,hm,((Qw.gr n).gr t)⟩
   refine qm rfl<|qe rfl (Kt [1,3] ic Qoi rfl rfl (Vj rfl) rfl rfl rfl) ?_
   rintro bk bN ⟨bm,aT,G,M⟩
   have bO:=M.size
   have bo:=G.lth
   have Y3:=Gr.trans (Gr.trans G5 G6) G7
   have aU:=(((((((h.gr Y3).md M8 (Xs af)).gr Y1).md j (Xs af)).gr n).gr t).gr M)
   obtain⟨aV,aq,hm⟩:=Qc hm
   refine qe rfl (eC Qe6 rfl (Qft aq (Qk.rd aU) (Qk.rd G))) ?_
   rintro _ bP ⟨rfl,ar⟩
   have bQ:=ar.size
   refine qv rfl (Zr rfl)<|qm rfl<|Qj ?_
   exact⟨rfl,(!aV),Qi,hm,((((Qw.gr n).gr t).gr M).gr ar)⟩
 clear hm;rintro a9 bR ⟨hm,d⟩
 have bS:=d.size
 unfold Ly at hm
 refine Zh hm rfl (fun c1 hm=>?_) (fun c1 hm=>?_)
 · refine qs 1 rfl<|qm rfl<|qb ?_
   have aW:=(m.kz d)
   cases hm
   exact⟨_,_,rfl,Qr rfl (Ql rfl),rfl,aW⟩
 refine qu<|qs 4 rfl<|qe rfl (Kt [3] ic Gi rfl rfl (Vj rfl) rfl rfl rfl) ?_
 rintro au bT ⟨bp,aX,o,u⟩
 have bU:=u.size
 have av:=o.lth
 refine qv rfl (Kl (cs:=Qq.cs (Qq.mk 1#8 true 2 0 103 48 1414 [3]) au) Es rfl (Hu rfl rfl rfl (Hu rfl rfl rfl (Hu rfl rfl rfl (Hu rfl rfl rfl (Hu rfl rfl rfl (Hu rfl rfl rfl (Qjb rfl (Qk.oneB o) rfl rfl))))))))<|qe rfl (Zz (cs:=Qq.cs (Qq.mk 0#8 false 0 0 0 0 0 []) (.slice none 0 0)) Pf rfl) ?_
 rintro _ bV ⟨aY,rfl,aZ,H,s⟩
 have bW:=s.size
 have bq:=H.lt
 have aw:=(o.gr s)
 refine qe rfl (Jh Zf rfl rfl (Qq.cs_ones _ _ (Qk.oneB aw)) H rfl rfl) ?_
 rintro _ bX ⟨ax,f⟩
 have bY:=f.size
 refine qd 25 rfl ?_
 obtain⟨bZ,ay,hm⟩:=Qc hm
 refine qe rfl (eC Qan rfl (Qb2 ay)) ?_
 rintro _ b0 ⟨rfl,y⟩
 have b1:=y.size
 refine qe rfl (Kt [1,2,2,2,2] ic Qh7 rfl rfl (Vj rfl) rfl rfl rfl) ?_
 rintro br b2 ⟨bs,a0,I,z⟩
 have b3:=z.size
 have bu:=I.lth
 obtain⟨b4,az,hm⟩:=Qc hm
 refine qe rfl (eC Qin rfl (Qjy az (Qk.rd I))) ?_
 rintro _ b5 ⟨rfl,A⟩
 have b6:=A.size
 refine Ng hm rfl (Qt rfl) (fun c2 hm=>?_) (fun c2 hm=>?_)
 · refine qn 7 rfl ?_
   refine qn 7 rfl ?_
   refine qn 7 rfl ?_
   refine Qa<|Qp ?_
   have Y4:=Gr.trans u s
   have Y5:=Gr.trans (Gr.trans y z) A
   have a1:=((((m.kz d).trans Y4).md f).trans Y5)
   cases hm
   exact⟨_,_,rfl,Qr rfl (Ql rfl),rfl,a1⟩
 obtain⟨b8,aA,hm⟩:=Qc hm
 refine qe rfl (eC Qan rfl (Qb2 aA)) ?_
 rintro _ b9 ⟨rfl,N⟩
 have ca:=N.size
 refine qe rfl (Kt [1,1,2,2,2] ic Qh7 rfl rfl (Vj rfl) rfl rfl rfl) ?_
 rintro bw cb ⟨bx,a2,J,O⟩
 have cc:=O.size
 have bz:=J.lth
 obtain⟨cd,aB,hm⟩:=Qc hm
 refine qe rfl (eC Qin rfl (Qjy aB (Qk.rd J))) ?_
 rintro _ ce ⟨rfl,P⟩
 have cf:=P.size
 refine qm rfl<|Ng hm rfl (Qt rfl) (fun c3 hm=>?_) (fun c3 hm=>?_)
 · refine qn 7 rfl ?_
   refine qn 7 rfl ?_
   refine qn 2 rfl<|Qa<|Qp ?_
   have Y6:=Gr.trans u s
   have Y7:=Gr.trans (Gr.trans (Gr.trans (Gr.trans (Gr.trans y z) A) N) O) P
   have a3:=((((m.kz d).trans Y6).md f).trans Y7)
   cases hm
   exact⟨_,_,rfl,Qr rfl (Ql rfl),rfl,a3⟩
 have Y8:=Gr.trans u s
 have Y9:=Gr.trans (Gr.trans (Gr.trans (Gr.trans (Gr.trans y z) A) N) O) P
 have a4:=((((((aK.gr Y1).md j).kz d).gr Y8).md f).gr Y9)
 refine qv rfl (Xm Zf rfl a4 rfl) ?_
 have a5:=(ax.gr Y9)
 refine qv rfl (Xm Zf rfl a5 rfl) ?_
 have a6:=(((((((al.md M8 (Xs K)).gr Y1).md j (Xs K)).kz d).gr Y8).md f (Xs K)).gr Y9)
 have a7:=((aw.md f (Xs av)).gr Y9)
 obtain⟨cg,aC,hm⟩:=Qc hm
 refine qe rfl (eC Qe5 rfl (Qfw aC (Qk.rd a6) (Qk.rd a7))) ?_
 rintro _ ch ⟨rfl,Q⟩
 have ci:=Q.size
 refine qm rfl<|Ng hm rfl (Qt rfl) (fun c4 hm=>?_) (fun c4 hm=>?_)
 · refine qn 7 rfl ?_
   refine qn 4 rfl<|Qa<|Qp ?_
   have a8:=Gr.trans Y9 Q
   have ba:=((((m.kz d).trans Y8).md f).trans a8)
   cases hm
   exact⟨_,_,rfl,Qr rfl (Ql rfl),rfl,ba⟩
 refine qv rfl (Qg Hb rfl) ?_
 have B:=Gr.trans Y9 Q
 have aD:=((((ao.kz d).gr Y8).md f).gr B)
 refine qv rfl (Qf (v:=bv x8.1.Best) Zb rfl aD rfl)<|qv rfl (Jz (p:=x8.1.Best) (q:=1#8) rfl rfl)<|qm rfl<|Jo hm rfl (Qt rfl) (fun c5 hm=>?_) (fun c5 hm=>?_)
 · refine qn 6 rfl<|Qa ?_
   refine Qp ?_
   have bb:=((((m.kz d).trans Y8).md f).trans B)
   cases hm
   exact⟨_,_,rfl,Qr rfl (Ql rfl),rfl,bb⟩
 refine qv rfl (Qg Vc rfl)<|qv rfl (Qf (v:=k) Kw rfl aD rfl) ?_
 have bc:=(((((an.md j (Qd (Xs (b:=aN) D)) (fun x hx=>.inr (by have:=C x hx;omega))).kz d Qn (fun x hx=>Qn)).gr Y8).md f (Qd (Xs (b:=aY) D)) (fun x hx=>.inr (by have:=C x hx;omega))).gr B)
 refine qv rfl (Hq (l:=x8.1.Choices) Tryz.underlying27 rfl (Xw.rd bc))<|qv rfl (Xv (a:=(x8.1.Choices.length:Int)) (b:=4) rfl rfl)<|qn 2 rfl<|Qa<|Qp ?_
 have bd:=((((m.kz d).trans Y8).md f).trans B)
 cases hm
 exact⟨_,_,rfl,Qr rfl (Ql rfl),rfl,bd⟩
end Go.Proofs.YtopkalcefepilaaGreat.Mx
