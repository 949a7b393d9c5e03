/- Walks that follow mirrors: Gk. Printed by mx.py. -/
import Derived.Test.YtopkalcefepilaaGreatGd
import Derived.Test.YtopkalcefepilaaGreatZd
set_option linter.unusedVariables false
set_option linter.unusedSimpArgs false
set_option maxRecDepth 100000
set_option maxHeartbeats 2000000
namespace Go.Proofs.YtopkalcefepilaaGreat.Mx
open Go Go.RowKit Go.Sx
theorem Qxl:ZV Tryz.prog 100 (.agg [.int .i64 0,.int .i64 0,.int .i64 0,.int .i64 0,.int .i64 0].toArray):=fun _=>by kernel_rfl
theorem Qgz:BA Tryz.prog 100 1 [.int .i64 0,.int .i64 0,.int .i64 0,.int .i64 0,.int .i64 0]:=⟨_,_,Tryz.underlying100,(Qe).siz,Qxl⟩
theorem Qgx:Vz Tryz.prog 100 5:=fun _=>⟨by kernel_rfl,by kernel_rfl⟩
theorem Qqn:Wl Tryz.prog 2 100 [.i .i64,.i .i64,.i .i64,.i .i64,.i .i64]:=Qqq (ks:=[.i .i64]) Tryz.underlying100 (Qrb (by kernel_rfl)).choose_spec (by kernel_rfl) Qgx Qed
theorem Qqt:Ty Tryz.prog 100 [.i .i64,.i .i64,.i .i64,.i .i64,.i .i64]:=⟨by kernel_rfl,Qgx,2,by decide,Qqn⟩
theorem Qpv:En Tryz.prog 41:=fun _ _=>by kernel_rfl
theorem Qpn:En Tryz.prog 18:=fun _ _=>by kernel_rfl
theorem Qpg:En Tryz.prog 17:=fun _ _=>by kernel_rfl
theorem Qpf:En Tryz.prog 16:=fun _ _=>by kernel_rfl
theorem Qtk {p0 p1 p2 vp1_7 zp1_7 gp1_7 op1_7 vp2_7 zp2_7 gp2_7 op2_7 r}(hm:Ax p0 p1 p2=some r){w:World}(f:Rd w zp1_7 gp1_7 op1_7 1 vp1_7 (p1.Witness.map ic))(m:Rd w zp2_7 gp2_7 op2_7 1 vp2_7 (p2.Witness.map ic)):
 Calls Tryz.prog 18 [.agg (Xg.cs p0).toArray,.agg (Qq.cs p1 vp1_7).toArray,.agg (Qq.cs p2 vp2_7).toArray].toArray w fun e w'=>∃ v,e=.returned v∧(v=.bool r∧Gr w w'):=by
 have k:=f.lth
 have U:=m.lth
 unfold Ax at hm
 refine Xj 91 Tryz.func18 rfl rfl rfl<|qs 4 rfl<|qe rfl (Xq (cs:=Xg.cs p0) rfl rfl) ?_
 rintro _ w1 ⟨b1,rfl,Q,o,G1⟩
 have z3:=G1.size
 have V:=o.lt
 refine qe rfl (Xq (cs:=Qq.cs p1 vp1_7) rfl rfl) ?_
 rintro _ w2 ⟨b2,rfl,R,s,G2⟩
 have z5:=G2.size
 have W:=s.lt
 refine qe rfl (Xq (cs:=Qq.cs p2 vp2_7) rfl rfl) ?_
 rintro _ w3 ⟨b3,rfl,S,t,G3⟩
 have z7:=G3.size
 have X:=t.lt
 refine qm rfl<|qd 3 rfl<|qv rfl (Qg Ht rfl) ?_
 have B9:=(s.gr G3)
 refine qv rfl (Qf (v:=vp1_7) Zp rfl B9 rfl)<|qm rfl<|qd 4 rfl<|qv rfl (Qg Ht rfl)<|qe rfl (Zs (cs':=Qq.cs (Qq.mk p1.Kind p1.Fits p1.Items p1.Points p1.Header p1.Storage p1.Cost []) (.slice none 0 0)) (Zp).siz rfl rfl rfl B9 rfl rfl) ?_
 rintro _ w4 ⟨n,M4⟩
 have Y:=M4.size
 refine qv rfl (Qg Ht rfl) ?_
 have D:=(t.md M4)
 refine qe rfl (Zs (cs':=Qq.cs (Qq.mk p2.Kind p2.Fits p2.Items p2.Points p2.Header p2.Storage p2.Cost []) (.slice none 0 0)) (Zp).siz rfl rfl rfl D rfl rfl) ?_
 rintro _ w5 ⟨g,M5⟩
 have Z:=M5.size
 refine Qa ?_
 have Y1:=Gr.trans (Gr.trans G1 G2) G3
 have E:=((((Gr.refl w).trans Y1).md M4).md M5)
 refine qj (β:=Bool) ([8]++rg 15 37) (fun a1=>[(8,.bool a1)]) (fun a1 wr=>(Sh p0 p1 a1=some r)∧Kz [] w5 wr) ?_ ?_
 · refine qg 38 rfl<|qv rfl (Qg Lp rfl) ?_
   have i:=(n.md M5)
   refine qv rfl (Qf (v:=bv p1.Kind) Zb rfl i rfl)<|qv rfl (Qg Lp rfl)<|qv rfl (Qf (v:=bv p2.Kind) Zb rfl g rfl)<|qv rfl (Jz (p:=p1.Kind) (q:=p2.Kind) rfl rfl)<|Jo hm rfl (Qt rfl) (fun c6 hm=>?_) (fun c6 hm=>?_)
   · refine qn 7 rfl ?_
     refine qn 7 rfl ?_
     refine qn 7 rfl ?_
     refine qn 7 rfl ?_
     refine qn 4 rfl<|Qj ?_
     exact⟨rfl,false,Qi,hm,Qw⟩
   refine qv rfl (Qg Lq rfl)<|qv rfl (Qf (v:=.bool p1.Fits) He rfl i rfl)<|qv rfl (Qg Lq rfl)<|qv rfl (Qf (v:=.bool p2.Fits) He rfl g rfl)<|qv rfl (Qn9 Tryz.underlying4 rfl rfl)<|qm rfl<|Ng hm rfl (Qt rfl) (fun c7 hm=>?_) (fun c7 hm=>?_)
   · refine qn 7 rfl ?_
     refine qn 7 rfl ?_
     refine qn 7 rfl ?_
     refine qn 4 rfl<|Qj ?_
     exact⟨rfl,false,Qi,hm,Qw⟩
   refine qv rfl (Qg Ti rfl)<|qv rfl (Qf (v:=.int .i64 p1.Items) Qe rfl i rfl)<|qv rfl (Qg Lr rfl)<|qv rfl (Qf (v:=.int .i64 p1.Points) Qe rfl i rfl)<|qv rfl (Qg Lu rfl)<|qv rfl (Qf (v:=.int .i64 p1.Header) Qe rfl i rfl)<|qv rfl (Qg Py rfl) ?_
   refine qv rfl (Qf (v:=.int .i64 p1.Storage) Qe rfl i rfl)<|qv rfl (Qg Tj rfl)<|qv rfl (Qf (v:=.int .i64 p1.Cost) Qe rfl i rfl)<|qv rfl (Qgo (cs:=Va.cs (Va.mk p1.Items p1.Points p1.Header p1.Storage p1.Cost)) Qgz rfl rfl)<|qv rfl (Qg Ti rfl)<|qv rfl (Qf (v:=.int .i64 p2.Items) Qe rfl g rfl)<|qv rfl (Qg Lr rfl) ?_
   refine qv rfl (Qf (v:=.int .i64 p2.Points) Qe rfl g rfl)<|qv rfl (Qg Lu rfl)<|qv rfl (Qf (v:=.int .i64 p2.Header) Qe rfl g rfl)<|qv rfl (Qg Py rfl)<|qv rfl (Qf (v:=.int .i64 p2.Storage) Qe rfl g rfl)<|qv rfl (Qg Tj rfl)<|qv rfl (Qf (v:=.int .i64 p2.Cost) Qe rfl g rfl) ?_
   refine qv rfl (Qgo (cs:=Va.cs (Va.mk p2.Items p2.Points p2.Header p2.Storage p2.Cost)) Qgz rfl rfl)<|qv rfl (Qna (cf:=Va.cs) (a:=(Va.mk p1.Items p1.Points p1.Header p1.Storage p1.Cost)) (b:=(Va.mk p2.Items p2.Points p2.Header p2.Storage p2.Cost)) Qqt rfl rfl rfl rfl (fun h=>Va.cs_inj h))<|qn 2 rfl<|Qj ?_
   exact⟨rfl,(decide ((Va.mk p1.Items p1.Points p1.Header p1.Storage p1.Cost)=(Va.mk p2.Items p2.Points p2.Header p2.Storage p2.Cost))),Qi,hm,Qw⟩
 clear hm;rintro a1 w6 ⟨hm,K6⟩
 have aa:=K6.size
 unfold Sh at hm
 refine Qh ?_
 have j:=(E.kz K6)
 refine qj (β:=Bool) (rg 52 7) (fun a2=>[(58,.bool a2)]) (fun a2 wr=>(Ay p0 p1 a1 a2=some r)∧Kz [] w6 wr) ?_ ?_
 · refine qg 7 rfl<|qm rfl<|qv rfl (Zr rfl)<|Hm hm rfl (Qt rfl) (fun c5 hm=>?_) (fun c5 hm=>?_)
   · refine qn 4 rfl<|Qj ?_
     exact⟨rfl,true,Qi,hm,Qw⟩
   refine qv rfl (Qg Lp rfl) ?_
   have F:=((n.md M5).kz K6)
   refine qv rfl (Qf (v:=bv p1.Kind) Zb rfl F rfl)<|qv rfl (Jz (p:=p1.Kind) (q:=4#8) rfl rfl)<|qm rfl<|Qj ?_
   exact⟨rfl,(decide (p1.Kind=4#8)),Qi,hm,Qw⟩
 clear hm;rintro a2 w7 ⟨hm,K7⟩
 have ab:=K7.size
 unfold Ay at hm
 refine Zh hm rfl (fun c1 hm=>?_) (fun c1 hm=>?_)
 · refine qs 7 rfl<|qm rfl<|Ng hm rfl (Qt rfl) (fun c2 hm=>?_) (fun c2 hm=>?_)
   · refine qn 5 rfl<|Qa<|Qp ?_
     refine Xp ?_
     have G:=(j.kz K7)
     cases hm
     exact⟨_,_,rfl,Qr rfl (Ql rfl),rfl,G⟩
   refine qm rfl ?_
   have H:=(((((f.gr Y1).md M4 (Xs k)).md M5 (Xs k)).kz K6).kz K7)
   refine qv rfl (Vm (l:=p1.Witness) (c:=ic) Tryz.underlying30 rfl H)<|qv rfl (Xv (a:=(p1.Witness.length:Int)) (b:=0) rfl rfl)<|qn 2 rfl<|Qa<|Qp<|Xp ?_
   have I:=(j.kz K7)
   cases hm
   exact⟨_,_,rfl,Qr rfl (Ql rfl),rfl,I⟩
 refine qu<|qs 12 rfl<|qv rfl (Qg Lp rfl) ?_
 have u:=(((n.md M5).kz K6).kz K7)
 refine qv rfl (Qf (v:=bv p1.Kind) Zb rfl u rfl)<|qv rfl (Qg Du rfl) ?_
 have Y2:=Gr.trans G2 G3
 have x:=(((((o.gr Y2).md M4).md M5).kz K6).kz K7)
 refine qv rfl (Qf (v:=.int .i64 p0.Depth) Qe rfl x rfl)<|qv rfl (Kl (cs:=Qo.cs (Qo.mk p1.Kind p0.Depth 0 (Xz.mk 0#64 0#64 0#64))) Cf rfl rfl)<|qm rfl ?_
 have y:=(((((f.gr Y1).md M4 (Xs k)).md M5 (Xs k)).kz K6).kz K7)
 obtain⟨x3,J,hm⟩:=Qc hm
 refine qe rfl (eC Qpv rfl (Qon J y)) ?_
 rintro _ w8 ⟨z,A,B,rfl,d,C,G8⟩
 have ac:=G8.size
 have T:=d.lth
 refine qn 5 rfl<|Qa<|Qh ?_
 refine qg 17 rfl<|qm rfl<|qv rfl (Xv (a:=x3.2) (b:=0) rfl rfl)<|Jo hm rfl (Qt rfl) (fun c3 hm=>?_) (fun c3 hm=>?_)
 · refine qn 7 rfl ?_
   refine qn 7 rfl ?_
   refine Qa<|Qp ?_
   have K:=((j.kz K7).trans G8)
   cases hm
   exact⟨_,_,rfl,Qr rfl (Ql rfl),rfl,K⟩
 refine qm rfl ?_
 have L:=(y.gr G8)
 refine qv rfl (Vm (l:=p1.Witness) (c:=ic) Tryz.underlying30 rfl L)<|qv rfl (Qg Th rfl) ?_
 have M:=(x.gr G8)
 refine qv rfl (Qf (v:=.int .i64 p0.Revoked) Qe rfl M rfl)<|qv rfl (Yr (a:=(p1.Witness.length:Int)) (b:=p0.Revoked) rfl rfl)<|qm rfl<|Jo hm rfl (Qt rfl) (fun c4 hm=>?_) (fun c4 hm=>?_)
 · refine qn 7 rfl ?_
   refine Qa<|Qp ?_
   have N:=((j.kz K7).trans G8)
   cases hm
   exact⟨_,_,rfl,Qr rfl (Ql rfl),rfl,N⟩
 refine qm rfl<|qv rfl (Vm (l:=x3.1) (c:=Qm.cs) Tryz.underlying101 rfl (Qk.rd d))<|qv rfl (Qg Ti rfl) ?_
 have O:=(u.gr G8)
 refine qv rfl (Qf (v:=.int .i64 p1.Items) Qe rfl O rfl)<|qv rfl (Xv (a:=(x3.1.length:Int)) (b:=p1.Items) rfl rfl)<|qn 2 rfl<|Qa<|Qp ?_
 have P:=((j.kz K7).trans G8)
 cases hm
 exact⟨_,_,rfl,Qr rfl (Ql rfl),rfl,P⟩
theorem Qth {p0 p1 p2 vp0_7 zp0_7 gp0_7 op0_7 vp1_7 zp1_7 gp1_7 op1_7 bp2 r}(hm:Qbe p0 p1 p2=some r){w:World}(a:Rd w zp0_7 gp0_7 op0_7 1 vp0_7 (p0.Witness.map ic))(b:Rd w zp1_7 gp1_7 op1_7 1 vp1_7 (p1.Witness.map ic))(hbp2:Bx w bp2 26 (Xg.cs p2)):
 Calls Tryz.prog 17 [.agg (Qq.cs p0 vp0_7).toArray,.agg (Qq.cs p1 vp1_7).toArray,.pointer (some ⟨bp2,0,none⟩)].toArray w fun e w'=>∃ v,e=.returned v∧(v=.bool r∧Gr w w'):=by
 have l:=a.lth
 have m:=b.lth
 have n:=hbp2.lt
 unfold Qbe at hm
 refine Xj 10 Tryz.func17 rfl rfl rfl<|qs 3 rfl<|qe rfl (Xq (cs:=Qq.cs p0 vp0_7) rfl rfl) ?_
 rintro _ w1 ⟨b1,rfl,j,c,G1⟩
 have z4:=G1.size
 have o:=c.lt
 refine qe rfl (Xq (cs:=Qq.cs p1 vp1_7) rfl rfl) ?_
 rintro _ w2 ⟨b2,rfl,k,d,G2⟩
 have z6:=G2.size
 have p:=d.lt
 refine qm rfl<|qd 5 rfl ?_
 have Y1:=Gr.trans G1 G2
 have B8:=(hbp2.gr Y1)
 refine qv rfl (Xm Wx rfl B8 rfl) ?_
 have B9:=(c.gr G2)
 refine qv rfl (Xm Zf rfl B9 rfl)<|qv rfl (Xm Zf rfl d rfl) ?_
 have f:=(a.gr Y1)
 have g:=(b.gr Y1)
 obtain⟨x1,h,hm⟩:=Qc hm
 refine qe rfl (eC Qpn rfl (Qtk h f g)) ?_
 rintro _ w3 ⟨rfl,G3⟩
 have q:=G3.size
 refine qm rfl<|Qa<|Qp ?_
 have i:=(((Gr.refl w).trans Y1).trans G3)
 cases hm
 exact⟨_,_,rfl,Qr rfl (Ql rfl),rfl,i⟩
theorem Qw5 {p0 p1 d vp0 zp0 gp0 op0 Fp0 vp1 zp1 gp1 op1 Fp1 bp2_0 r}(hm:Ea p0 p1 d=some r){w:World}(f:Xx Yx w zp0 gp0 op0 vp0 Fp0 p0)(g:Xx Yx w zp1 gp1 op1 vp1 Fp1 p1)(hbp2_0:Bx w bp2_0 26 (Xg.cs d)):
 Calls Tryz.prog 16 [vp0,vp1,.func (.func 17) [].toArray [.pointer (some ⟨bp2_0,0,none⟩)].toArray].toArray w fun e w'=>∃ v,e=.returned v∧(v=.bool r∧Gr w w'):=by
 have j:=f.flt
 have ac:=f.lth
 have m:=g.flt
 have H:=g.lth
 have ad:=hbp2_0.lt
 unfold Ea at hm
 refine Xj 32 Tryz.func16 rfl rfl rfl<|qs 1 rfl<|qm rfl<|Qa<|Qh<|Qh ?_
 refine qg 5 rfl<|qm rfl<|qv rfl (Hq (l:=p0) Tryz.underlying27 rfl f)<|qm rfl<|qv rfl (Hq (l:=p1) Tryz.underlying27 rfl g)<|qv rfl (Ke (a:=(p0.length:Int)) (b:=(p1.length:Int)) rfl rfl)<|Qa ?_
 refine Zq hm rfl (fun c1 hm=>?_) (fun c1 hm=>?_)
 · refine qs 1 rfl<|qm rfl<|qb ?_
   cases hm
   exact⟨_,_,rfl,Qr rfl (Ql rfl),rfl,(Gr.refl w)⟩
 refine qu<|Qh<|qs 3 rfl<|qm rfl<|qv rfl (Hq (l:=p0) Tryz.underlying27 rfl f) ?_
 refine qm rfl<|Qa<|Xc<|Zv (α:=Nat × Int) ([6,7,8,9]++rg 17 15) (fun⟨n1,a2⟩=>[(6,.bool false),(17,.int .i64 a2)]) (fun⟨n1,a2⟩ wr=>(Qs (Eb p0 p1 d) n1 a2=some r)∧Kz [] w wr) (fun⟨n1,a2⟩=>n1) ⟨Qy,0⟩ ?_ ?_ ?_
 · exact Qi
 · exact⟨hm,Kz.refl _ _⟩
 clear hm;rintro⟨n1,a2⟩ w1 ⟨hm,K1⟩
 have z6:=K1.size
 have hb:=Zu hm;clear hm;obtain⟨n1,rfl,hm⟩:=hb
 generalize h:Qs (Eb p0 p1 d) n1=T at hm
 unfold Eb at hm
 try dsimp only at hm
 refine qs 1 rfl<|qv rfl (Zo (a:=a2) (b:=(p0.length:Int)) rfl rfl)<|Qa<|Qh<|Zy hm rfl (fun c2 hm=>?_) (fun c2 hm=>?_)
 · refine Zd<|Xh<|Xh<|Zc<|Xa<|qs 1 rfl ?_
   refine qm rfl<|Qa<|Qp ?_
   have I:=((Gr.refl w).kz K1)
   cases hm
   exact⟨_,_,rfl,Qr rfl (Ql rfl),rfl,I⟩
 refine qu<|Qh<|Xc<|qs 6 rfl<|qm rfl ?_
 obtain⟨y3,n,hm⟩:=Qc hm
 have B7:=(f.kz K1 Qn (fun x hx=>Qn))
 refine qv rfl (Vu (i:=a2) Tryz.underlying27 (Zf).siz rfl B7 rfl n) ?_
 obtain⟨ae,af,o,q,ag,R8,J,Q8,s⟩:=Hk B7 n
 have ah:=Q8.lth
 refine qv rfl (Hp (c:=(fun p=>Qq.cs p.1 p.2)) Zf rfl R8 J (by first|rfl|omega))<|qe rfl (Zz (cs:=Qq.cs (Qq.mk 0#8 false 0 0 0 0 0 []) (.slice none 0 0)) Pf rfl) ?_
 rintro _ w2 ⟨b2,rfl,U,t,G2⟩
 have ai:=G2.size
 have V:=t.lt
 refine qm rfl ?_
 have u:=(Q8.gr G2)
 refine qe rfl (Jh Zf rfl rfl (Qq.cs_ones _ _ (Rd.oneB u)) t rfl rfl) ?_
 rintro _ w3 ⟨K,M3⟩
 have aj:=M3.size
 refine qd 6 rfl<|qn 2 rfl ?_
 obtain⟨y4,y,hm⟩:=Qc hm
 have z:=(((g.kz K1 Qn (fun x hx=>Qn)).gr G2).md M3 (Qd (Xs (b:=b2) H)) (fun x hx=>.inr (by have:=m x hx;omega)))
 refine qv rfl (Vu (i:=a2) Tryz.underlying27 (Zf).siz rfl z rfl y) ?_
 obtain⟨W,X,A,B,Y,L,C,D,E⟩:=Hk z y
 have Z:=D.lth
 refine qv rfl (Hp (c:=(fun p=>Qq.cs p.1 p.2)) Zf rfl L C (by first|rfl|omega))<|qe rfl (Zz (cs:=Qq.cs (Qq.mk 0#8 false 0 0 0 0 0 []) (.slice none 0 0)) Pf rfl) ?_
 rintro _ w4 ⟨b4,rfl,aa,F,G4⟩
 have ak:=G4.size
 have ab:=F.lt
 have G:=(D.gr G4)
 refine qe rfl (Jh Zf rfl rfl (Qq.cs_ones _ _ (Rd.oneB G)) F rfl rfl) ?_
 rintro _ w5 ⟨M,M5⟩
 have al:=M5.size
 refine qd 5 rfl<|qm rfl ?_
 have N:=((K.gr G4).md M5)
 refine qv rfl (Xm Zf rfl N rfl)<|qv rfl (Xm Zf rfl M rfl) ?_
 have O:=(((u.md M3 (Qd ((Qat s (fun x hx=>.inr (by have:=j x hx;omega))):o=0∨q≠b2))).gr G4).md M5 (Qd ((Qat s (fun x hx=>.inr (by have:=j x hx;omega))):o=0∨q≠b4)))
 have P:=(G.md M5 (Qd ((Qat E (fun x hx=>.inr (by have:=m x hx;omega))):A=0∨B≠b4)))
 have Q:=(((((hbp2_0.kz K1).gr G2).md M3).gr G4).md M5)
 obtain⟨x5,R,hm⟩:=Qc hm
 refine qe rfl (Gp Qpg rfl rfl (Qth R O P Q)) ?_
 rintro _ w6 ⟨rfl,G6⟩
 have am:=G6.size
 refine qv rfl (Zr rfl)<|Qa<|Zh hm rfl (fun c3 hm=>?_) (fun c3 hm=>?_)
 · refine qs 1 rfl<|qm rfl<|Qa<|Qp<|Zk<|Xp ?_
   refine Xp<|Zk<|Xp ?_
   have S:=(((((((Gr.refl w).kz K1).trans G2).md M3).trans G4).md M5).trans G6)
   cases hm
   exact⟨_,_,rfl,Qr rfl (Ql rfl),rfl,S⟩
 refine Jb<|Xi<|Xa<|qg 2 rfl<|qv rfl (Xn (k:=.i64) (a:=a2) (b:=1) rfl rfl)<|qm rfl<|Qj ?_
 have K_27:Kz [] w w6:=(((((K1.gr G2).md M3).gr G4).md M5).gr G6)
 subst h
 exact⟨rfl,⟨n1,Qb (a2+1)⟩,Qi,⟨hm,K_27⟩,Nat.lt_succ_self _⟩
theorem Qti {p0 p1 vp1_0 zp1_0 gp1_0 op1_0 Fp1_0 r}(hm:Se p0 p1=some r){w:World}(d:Xx Yx w zp1_0 gp1_0 op1_0 vp1_0 Fp1_0 p1.Choices):
 Calls Tryz.prog 5 [.agg (Xg.cs p0).toArray,.agg (Xk.cs p1 vp1_0).toArray].toArray w fun e w'=>∃ v,e=.returned v∧(v=.int .i64 r∧Gr w w'):=by
 have z:=d.flt
 have A:=d.lth
 unfold Se at hm
 refine Xj 29 Tryz.func5 rfl rfl rfl<|qs 3 rfl<|qe rfl (Xq (cs:=Xg.cs p0) rfl rfl) ?_
 rintro _ w1 ⟨b1,rfl,K,g,G1⟩
 have z3:=G1.size
 have O:=g.lt
 refine qe rfl (Xq (cs:=Xk.cs p1 vp1_0) rfl rfl) ?_
 rintro _ w2 ⟨b2,rfl,L,h,G2⟩
 have z5:=G2.size
 have P:=h.lt
 refine qm rfl<|qd 8 rfl ?_
 have B7:=(g.gr G2)
 refine qv rfl (Xm Wx rfl B7 rfl) ?_
 obtain⟨x1,B,hm⟩:=Qc hm
 refine qe rfl (eC Qia rfl (Qko B)) ?_
 rintro _ w3 ⟨f,i,j,k,rfl,c,l,m,G3⟩
 have z8:=G3.size
 have C:=c.flt
 have n:=c.lth
 refine qn 3 rfl<|qe rfl (Zz (cs:=Xk.cs (Xk.mk [] 0#8) (.slice none 0 0)) Nu rfl) ?_
 rintro _ w4 ⟨b4,rfl,M,o,G4⟩
 have Q:=G4.size
 have N:=o.lt
 have s:=(c.gr G4)
 refine qe rfl (Jh Wy rfl rfl (Xk.cs_ones _ _ (Xw.oneB s)) o rfl rfl) ?_
 rintro _ w5 ⟨t,M5⟩
 have R:=M5.size
 refine qm rfl<|Qa<|Qh<|qs 2 rfl<|qm rfl<|qv rfl (Ke (a:=x1.2) (b:=0) rfl rfl) ?_
 refine Qa<|Zq hm rfl (fun c1 hm=>?_) (fun c1 hm=>?_)
 · refine qs 2 rfl<|qn 2 rfl<|Qa<|Qp<|Xp ?_
   have Y1:=Gr.trans (Gr.trans (Gr.trans G1 G2) G3) G4
   have D:=(((Gr.refl w).trans Y1).md M5)
   cases hm
   exact⟨_,_,rfl,Qr rfl (Ql rfl),rfl,D⟩
 refine qu<|Qh ?_
 have Y2:=Gr.trans (Gr.trans (Gr.trans G1 G2) G3) G4
 have u:=(((Gr.refl w).trans Y2).md M5)
 refine qj (β:=Bool) (rg 15 14) (fun a2=>[(28,.bool a2)]) (fun a2 wr=>(Av a2=some r)∧Kz [] w5 wr) ?_ ?_
 · refine qg 14 rfl<|qv rfl (Qg Hb rfl) ?_
   have Y3:=Gr.trans G3 G4
   have y:=((h.gr Y3).md M5)
   refine qv rfl (Qf (v:=bv p1.Best) Zb rfl y rfl)<|qv rfl (Qg Hb rfl)<|qv rfl (Qf (v:=bv x1.1.Best) Zb rfl t rfl)<|qv rfl (Bp (p:=p1.Best) (q:=x1.1.Best) rfl rfl)<|Zm hm rfl (Qt rfl) (fun c3 hm=>?_) (fun c3 hm=>?_)
   · refine qn 7 rfl ?_
     refine qm rfl<|Qj ?_
     exact⟨rfl,true,Qi,hm,Qw⟩
   refine qv rfl (Qg Vc rfl)<|qv rfl (Qf (v:=vp1_0) Kw rfl y rfl)<|qv rfl (Qg Vc rfl)<|qv rfl (Qf (v:=f) Kw rfl t rfl)<|qv rfl (Tx rfl rfl) ?_
   have E:=((d.gr Y2).md M5 (Qd (Xs (b:=b4) A)) (fun x hx=>.inr (by have:=z x hx;omega)))
   have F:=(s.md M5 (Qd (Xs (b:=b4) n)) (fun x hx=>.inr (by have:=C x hx;omega)))
   have G:=((B7.gr Y3).md M5)
   obtain⟨x3,H,hm⟩:=Qc hm
   refine qe rfl (eC Qpf rfl (Qw5 H E (Xw.rd F) G)) ?_
   rintro _ w7 ⟨rfl,G7⟩
   have S:=G7.size
   refine qv rfl (Zr rfl)<|qm rfl<|Qj ?_
   exact⟨rfl,(!x3),Qi,hm,(Qw.gr G7)⟩
 clear hm;rintro a2 w6 ⟨hm,K6⟩
 have T:=K6.size
 unfold Av at hm
 refine Zh hm rfl (fun c2 hm=>?_) (fun c2 hm=>?_)
 · refine qs 1 rfl<|qm rfl<|qb ?_
   have I:=(u.kz K6)
   cases hm
   exact⟨_,_,rfl,Qr rfl (Ql rfl),rfl,I⟩
 refine qu<|qs 1 rfl<|qm rfl<|Qa<|Qp ?_
 have J:=(u.kz K6)
 cases hm
 exact⟨_,_,rfl,Qr rfl (Ql rfl),rfl,J⟩
end Go.Proofs.YtopkalcefepilaaGreat.Mx
