/- Walks that follow mirrors: Ge. Printed by mx.py. -/
import Derived.Test.YtopkalcefepilaaGreatGc
import Derived.Test.YtopkalcefepilaaGreatZd
set_option linter.unusedVariables false
set_option linter.unusedSimpArgs false
set_option maxRecDepth 100000
set_option maxHeartbeats 2000000
namespace Go.Proofs.YtopkalcefepilaaGreat.Mx
open Go Go.RowKit Go.Sx
theorem Qqu:FA Tryz.prog 32 0 0:=fun _ _ _=>by kernel_rfl
theorem Qyw:En Tryz.prog 21:=fun _ _=>by kernel_rfl
theorem Qjt:En Tryz.prog 27:=fun _ _=>by kernel_rfl
theorem Qmk {p0 p1 vp0 zp0 gp0 op0 vp1 zp1 gp1 op1 r}(hm:Qdt p0 p1=some r){w:World}(d:Rd w zp0 gp0 op0 1 vp0 (p0.map ic))(f:Rd w zp1 gp1 op1 1 vp1 (p1.map ic)):
 Calls Tryz.prog 27 [vp0,vp1].toArray w fun e w'=>∃ v,e=.returned v∧(v=.bool r∧Gr w w'):=by
 have n:=d.lth
 have o:=f.lth
 unfold Qdt at hm
 refine Xi 26 Tryz.func27 rfl rfl rfl<|qs 1 rfl<|qm rfl<|Qa<|Qe<|Qe ?_
 refine qg 5 rfl<|qm rfl<|qv rfl (Kq (l:=p0) (c:=ic) Tryz.underlying30 rfl d)<|qm rfl<|qv rfl (Kq (l:=p1) (c:=ic) Tryz.underlying30 rfl f)<|qv rfl (Kg (a:=(p0.length:Int)) (b:=(p1.length:Int)) rfl rfl)<|Qa ?_
 refine Zv hm rfl (fun c1 hm=>?_) (fun c1 hm=>?_)
 · refine qs 1 rfl<|qm rfl<|qb ?_
   cases hm
   exact⟨_,_,rfl,Qz rfl (Qn rfl),rfl,(Gr.refl w)⟩
 refine qu<|Qe<|qs 1 rfl<|qm rfl<|Qa ?_
 refine Xn<|Kf (α:=Nat × Int) ([4,5]++rg 11 15) (fun⟨n1,a2⟩=>[(4,.bool false),(5,.int .i64 a2)]) (fun⟨n1,a2⟩ wr=>(Qv (Qhv p0 p1) n1 a2=some r)∧Kz [] w wr) (fun⟨n1,a2⟩=>n1) ⟨Xb,0⟩ ?_ ?_ ?_
 · exact Ql
 · exact⟨hm,Kz.refl _ _⟩
 clear hm;rintro⟨n1,a2⟩ w1 ⟨hm,K1⟩
 have z3:=K1.size
 have hb:=Kl hm;clear hm;obtain⟨n1,rfl,hm⟩:=hb
 generalize g:Qv (Qhv p0 p1) n1=m at hm
 unfold Qhv at hm
 try dsimp only at hm
 refine Qe<|qs 4 rfl<|qn 2 rfl ?_
 have B4:=(d.kz K1)
 refine qv rfl (Kq (l:=p0) (c:=ic) Tryz.underlying30 rfl B4)<|qv rfl (Jv (a:=a2) (b:=(p0.length:Int)) rfl rfl)<|Qa<|Kx hm rfl (fun c2 hm=>?_) (fun c2 hm=>?_)
 · refine Jl<|Xu<|Xu<|Jk<|Xl<|qs 1 rfl ?_
   refine qm rfl<|Qa<|Qq ?_
   have X9:=((Gr.refl w).kz K1)
   cases hm
   exact⟨_,_,rfl,Qz rfl (Qn rfl),rfl,X9⟩
 refine qu<|Qe<|Xn<|Qe<|dw [([])] [] (.leaf [(0,10),(1,10),(2,10),(3,10),(4,10),(5,10),(6,10),(7,10),(8,10)]) ?_
 intro w2 G2 p
 refine Zz<|dm 0 rfl rfl<|dm 0 rfl rfl ?_
 obtain⟨y3,h,hm⟩:=Qd hm
 have B5:=(B4.gr G2)
 refine dh 0 rfl rfl (fun w hS=>Yq (i:=a2) Tryz.underlying30 (Qm).siz rfl (Rd.kp B5 hS) rfl h)<|dh 0 rfl rfl (fun w hS=>Hl (q:=0) (u:=.int .i64 y3) Qm rfl (Rd.kp B5 hS) h (by first|rfl|omega) rfl)<|dm 0 rfl rfl<|dm 0 rfl rfl ?_
 obtain⟨y4,j,hm⟩:=Qd hm
 have B6:=((f.kz K1).gr G2)
 refine dh 0 rfl rfl (fun w hS=>Yq (i:=a2) Tryz.underlying30 (Qm).siz rfl (Rd.kp B6 hS) rfl j)<|dh 0 rfl rfl (fun w hS=>Hl (q:=0) (u:=.int .i64 y4) Qm rfl (Rd.kp B6 hS) j (by first|rfl|omega) rfl)<|dh 0 rfl rfl (fun w hS=>Kg (a:=y3) (b:=y4) rfl rfl)<|Qa<|Zv hm rfl (fun c3 hm=>?_) (fun c3 hm=>?_)
 · refine qs 1 rfl<|qm rfl<|Qa<|Qq<|Jf<|Xz ?_
   refine Xz<|Jf<|Xz ?_
   have X7:=(((Gr.refl w).kz K1).trans G2)
   cases hm
   exact⟨_,_,rfl,Qz rfl (Qn rfl),rfl,X7⟩
 refine Jn<|Xh<|Xl<|qg 3 rfl<|qm rfl<|qv rfl (Zd (k:=.i64) (a:=a2) (b:=1) rfl rfl)<|qm rfl ?_
 refine Qk ?_
 have K_8:Kz [] w w2:=(K1.gr G2)
 subst g
 exact⟨rfl,⟨n1,Qc (a2+1)⟩,Ql,⟨hm,K_8⟩,Nat.lt_succ_self _⟩
theorem Xes {p0 p1 vp0_7 zp0_7 gp0_7 op0_7 vp1_7 zp1_7 gp1_7 op1_7 r}(hm:Qmw p0 p1=some r){w:World}(d:Rd w zp0_7 gp0_7 op0_7 1 vp0_7 (p0.Witness.map ic))(f:Rd w zp1_7 gp1_7 op1_7 1 vp1_7 (p1.Witness.map ic)):
 Calls Tryz.prog 21 [.agg (Xs.cs p0 vp0_7).toArray,.agg (Xs.cs p1 vp1_7).toArray].toArray w fun e w'=>∃ v,e=.returned v∧(v=.bool r∧Gr w w'):=by
 have o:=d.lth
 have s:=f.lth
 unfold Qmw at hm
 refine Xi 52 Tryz.func21 rfl rfl rfl<|qs 3 rfl<|qe rfl (Xo (cs:=Xs.cs p0 vp0_7) rfl rfl) ?_
 rintro _ w1 ⟨b1,rfl,m,g,G1⟩
 have z3:=G1.size
 have t:=g.lt
 refine qe rfl (Xo (cs:=Xs.cs p1 vp1_7) rfl rfl) ?_
 rintro _ w2 ⟨b2,rfl,n,c,G2⟩
 have z5:=G2.size
 have u:=c.lt
 refine qm rfl<|qd 48 rfl<|qv rfl (Qh Qqu rfl) ?_
 have B7:=(g.gr G2)
 refine qv rfl (Qi (v:=bv p0.Kind) Zb rfl B7 rfl)<|qv rfl (Qh Qqu rfl)<|qv rfl (Qi (v:=bv p1.Kind) Zb rfl c rfl)<|qv rfl (Vt (p:=p0.Kind) (q:=p1.Kind) rfl rfl)<|Vc hm rfl (Qt rfl) (fun c1 hm=>?_) (fun c1 hm=>?_)
 · refine qn 7 rfl ?_
   refine qn 7 rfl ?_
   refine qn 7 rfl ?_
   refine qn 7 rfl ?_
   refine qn 7 rfl ?_
   refine qn 7 rfl ?_
   refine Qa<|Qq ?_
   have Y1:=Gr.trans G1 G2
   have h:=((Gr.refl w).trans Y1)
   cases hm
   exact⟨_,_,rfl,Qz rfl (Qn rfl),rfl,h⟩
 refine qv rfl (Qh Qfk rfl)<|qv rfl (Qi (v:=.bool p0.Fits) Ns rfl B7 rfl)<|qv rfl (Qh Qfk rfl)<|qv rfl (Qi (v:=.bool p1.Fits) Ns rfl c rfl)<|qv rfl (Xhd Tryz.underlying4 rfl rfl)<|qm rfl<|Ra hm rfl (Qt rfl) (fun c2 hm=>?_) (fun c2 hm=>?_)
 · refine qn 7 rfl ?_
   refine qn 7 rfl ?_
   refine qn 7 rfl ?_
   refine qn 7 rfl ?_
   refine qn 7 rfl ?_
   refine Qa<|Qq ?_
   have Y2:=Gr.trans G1 G2
   have i:=((Gr.refl w).trans Y2)
   cases hm
   exact⟨_,_,rfl,Qz rfl (Qn rfl),rfl,i⟩
 refine qv rfl (Qh Qfl rfl)<|qv rfl (Qi (v:=.int .i64 p0.Items) Qm rfl B7 rfl)<|qv rfl (Qh Qfl rfl)<|qv rfl (Qi (v:=.int .i64 p1.Items) Qm rfl c rfl)<|qv rfl (Zu (a:=p0.Items) (b:=p1.Items) rfl rfl)<|qm rfl<|Vc hm rfl (Qt rfl) (fun c3 hm=>?_) (fun c3 hm=>?_)
 · refine qn 7 rfl ?_
   refine qn 7 rfl ?_
   refine qn 7 rfl ?_
   refine qn 7 rfl ?_
   refine Qa<|Qq ?_
   have Y3:=Gr.trans G1 G2
   have j:=((Gr.refl w).trans Y3)
   cases hm
   exact⟨_,_,rfl,Qz rfl (Qn rfl),rfl,j⟩
 refine qv rfl (Qh Qfm rfl)<|qv rfl (Qi (v:=.int .i64 p0.Points) Qm rfl B7 rfl)<|qv rfl (Qh Qfm rfl)<|qv rfl (Qi (v:=.int .i64 p1.Points) Qm rfl c rfl)<|qv rfl (Zu (a:=p0.Points) (b:=p1.Points) rfl rfl)<|qm rfl<|Vc hm rfl (Qt rfl) (fun c4 hm=>?_) (fun c4 hm=>?_)
 · refine qn 7 rfl ?_
   refine qn 7 rfl ?_
   refine qn 7 rfl ?_
   refine Qa<|Qq ?_
   have Y4:=Gr.trans G1 G2
   have k:=((Gr.refl w).trans Y4)
   cases hm
   exact⟨_,_,rfl,Qz rfl (Qn rfl),rfl,k⟩
 refine qv rfl (Qh Uv rfl)<|qv rfl (Qi (v:=.int .i64 p0.Header) Qm rfl B7 rfl)<|qv rfl (Qh Uv rfl)<|qv rfl (Qi (v:=.int .i64 p1.Header) Qm rfl c rfl)<|qv rfl (Zu (a:=p0.Header) (b:=p1.Header) rfl rfl)<|qm rfl<|Vc hm rfl (Qt rfl) (fun c5 hm=>?_) (fun c5 hm=>?_)
 · refine qn 7 rfl ?_
   refine qn 7 rfl ?_
   refine Qa<|Qq ?_
   have Y5:=Gr.trans G1 G2
   have l:=((Gr.refl w).trans Y5)
   cases hm
   exact⟨_,_,rfl,Qz rfl (Qn rfl),rfl,l⟩
 refine qv rfl (Qh Uw rfl)<|qv rfl (Qi (v:=.int .i64 p0.Storage) Qm rfl B7 rfl)<|qv rfl (Qh Uw rfl)<|qv rfl (Qi (v:=.int .i64 p1.Storage) Qm rfl c rfl)<|qv rfl (Zu (a:=p0.Storage) (b:=p1.Storage) rfl rfl)<|qm rfl<|Vc hm rfl (Qt rfl) (fun c6 hm=>?_) (fun c6 hm=>?_)
 · refine qn 7 rfl ?_
   refine Qa<|Qq ?_
   have Y6:=Gr.trans G1 G2
   have X9:=((Gr.refl w).trans Y6)
   cases hm
   exact⟨_,_,rfl,Qz rfl (Qn rfl),rfl,X9⟩
 refine qv rfl (Qh Qcx rfl)<|qv rfl (Qi (v:=.int .i64 p0.Cost) Qm rfl B7 rfl)<|qv rfl (Qh Qcx rfl)<|qv rfl (Qi (v:=.int .i64 p1.Cost) Qm rfl c rfl)<|qv rfl (Zu (a:=p0.Cost) (b:=p1.Cost) rfl rfl)<|qn 2 rfl ?_
 refine Qa<|Qq ?_
 have Y7:=Gr.trans G1 G2
 have X8:=((Gr.refl w).trans Y7)
 cases hm
 exact⟨_,_,rfl,Qz rfl (Qn rfl),rfl,X8⟩
theorem Xer {p0 p1 vp0_7 zp0_7 gp0_7 op0_7 vp1_7 zp1_7 gp1_7 op1_7 r}(hm:Qmv p0 p1=some r){w:World}(a:Rd w zp0_7 gp0_7 op0_7 1 vp0_7 (p0.Witness.map ic))(b:Rd w zp1_7 gp1_7 op1_7 1 vp1_7 (p1.Witness.map ic)):
 Calls Tryz.prog 23 [.agg (Xs.cs p0 vp0_7).toArray,.agg (Xs.cs p1 vp1_7).toArray].toArray w fun e w'=>∃ v,e=.returned v∧(v=.bool r∧Gr w w'):=by
 have p:=a.lth
 have q:=b.lth
 unfold Qmv at hm
 refine Xi 15 Tryz.func23 rfl rfl rfl<|qs 3 rfl<|qe rfl (Xo (cs:=Xs.cs p0 vp0_7) rfl rfl) ?_
 rintro _ w1 ⟨b1,rfl,n,d,G1⟩
 have z3:=G1.size
 have s:=d.lt
 refine qe rfl (Xo (cs:=Xs.cs p1 vp1_7) rfl rfl) ?_
 rintro _ w2 ⟨b2,rfl,o,c,G2⟩
 have z5:=G2.size
 have t:=c.lt
 refine qm rfl<|qd 11 rfl ?_
 have B7:=(d.gr G2)
 refine qv rfl (Xa Wc rfl B7 rfl)<|qv rfl (Xa Wc rfl c rfl) ?_
 have Y1:=Gr.trans G1 G2
 have B8:=(a.gr Y1)
 have B9:=(b.gr Y1)
 obtain⟨x1,f,hm⟩:=Qd hm
 refine qe rfl (eC Qyw rfl (Xes f B8 B9)) ?_
 rintro _ w3 ⟨rfl,G3⟩
 have u:=G3.size
 refine Ra hm rfl (Qt rfl) (fun c1 hm=>?_) (fun c1 hm=>?_)
 · refine qn 7 rfl ?_
   refine Qa<|Qq ?_
   have g:=(((Gr.refl w).trans Y1).trans G3)
   cases hm
   exact⟨_,_,rfl,Qz rfl (Qn rfl),rfl,g⟩
 refine qv rfl (Qh Qfn rfl) ?_
 have h:=(B7.gr G3)
 refine qv rfl (Qi (v:=vp0_7) Vr rfl h rfl)<|qv rfl (Qh Qfn rfl) ?_
 have i:=(c.gr G3)
 refine qv rfl (Qi (v:=vp1_7) Vr rfl i rfl) ?_
 have j:=(B8.gr G3)
 have k:=(B9.gr G3)
 obtain⟨x2,l,hm⟩:=Qd hm
 refine qe rfl (eC Qjt rfl (Qmk l j k)) ?_
 rintro _ w4 ⟨rfl,G4⟩
 have x:=G4.size
 refine qn 2 rfl<|Qa<|Qq ?_
 have m:=((((Gr.refl w).trans Y1).trans G3).trans G4)
 cases hm
 exact⟨_,_,rfl,Qz rfl (Qn rfl),rfl,m⟩
end Go.Proofs.YtopkalcefepilaaGreat.Mx
