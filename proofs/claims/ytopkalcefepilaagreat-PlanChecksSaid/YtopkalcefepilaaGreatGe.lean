/- Walks that follow mirrors: Ge. Printed by mx.py. -/
import Derived.Test.YtopkalcefepilaaGreatGc
import Derived.Test.YtopkalcefepilaaGreatZd
set_option linter.unusedVariables false
set_option linter.unusedSimpArgs false
set_option maxRecDepth 100000
set_option maxHeartbeats 2000000
namespace Go.Proofs.YtopkalcefepilaaGreat.Mx
open Go Go.RowKit Go.Sx
theorem Lp:FA Tryz.prog 32 0 0:=fun _ _ _=>by kernel_rfl
theorem Qe4:En Tryz.prog 21:=fun _ _=>by kernel_rfl
theorem Qe6:En Tryz.prog 27:=fun _ _=>by kernel_rfl
theorem Qft {p0 p1 vp0 zp0 gp0 op0 vp1 zp1 gp1 op1 r}(hm:Bc p0 p1=some r){w:World}(d:Rd w zp0 gp0 op0 1 vp0 (p0.map ic))(f:Rd w zp1 gp1 op1 1 vp1 (p1.map ic)):
 Calls Tryz.prog 27 [vp0,vp1].toArray w fun e w'=>∃ v,e=.returned v∧(v=.bool r∧Gr w w'):=by
 have n:=d.lth
 have o:=f.lth
 unfold Bc at hm
 refine Xj 26 Tryz.func27 rfl rfl rfl<|qs 1 rfl<|qm rfl<|Qa<|Qh<|Qh ?_
 refine qg 5 rfl<|qm rfl<|qv rfl (Vm (l:=p0) (c:=ic) Tryz.underlying30 rfl d)<|qm rfl<|qv rfl (Vm (l:=p1) (c:=ic) Tryz.underlying30 rfl f)<|qv rfl (Ke (a:=(p0.length:Int)) (b:=(p1.length:Int)) rfl rfl)<|Qa ?_
 refine Zq hm rfl (fun c1 hm=>?_) (fun c1 hm=>?_)
 · refine qs 1 rfl<|qm rfl<|qb ?_
   cases hm
   exact⟨_,_,rfl,Qr rfl (Ql rfl),rfl,(Gr.refl w)⟩
 refine qu<|Qh<|qs 1 rfl<|qm rfl<|Qa ?_
 refine Xc<|Zv (α:=Nat × Int) ([4,5]++rg 11 15) (fun⟨n1,a2⟩=>[(4,.bool false),(5,.int .i64 a2)]) (fun⟨n1,a2⟩ wr=>(Qs (Ue p0 p1) n1 a2=some r)∧Kz [] w wr) (fun⟨n1,a2⟩=>n1) ⟨Qy,0⟩ ?_ ?_ ?_
 · exact Qi
 · exact⟨hm,Kz.refl _ _⟩
 clear hm;rintro⟨n1,a2⟩ w1 ⟨hm,K1⟩
 have z3:=K1.size
 have hb:=Zu hm;clear hm;obtain⟨n1,rfl,hm⟩:=hb
 generalize g:Qs (Ue p0 p1) n1=m at hm
 unfold Ue at hm
 try dsimp only at hm
 refine Qh<|qs 4 rfl<|qn 2 rfl ?_
 have B4:=(d.kz K1)
 refine qv rfl (Vm (l:=p0) (c:=ic) Tryz.underlying30 rfl B4)<|qv rfl (Zo (a:=a2) (b:=(p0.length:Int)) rfl rfl)<|Qa<|Zy hm rfl (fun c2 hm=>?_) (fun c2 hm=>?_)
 · refine Zd<|Xh<|Xh<|Zc<|Xa<|qs 1 rfl ?_
   refine qm rfl<|Qa<|Qp ?_
   have X9:=((Gr.refl w).kz K1)
   cases hm
   exact⟨_,_,rfl,Qr rfl (Ql rfl),rfl,X9⟩
 refine qu<|Qh<|Xc<|Qh<|dw [([])] [] (.leaf [(0,10),(1,10),(2,10),(3,10),(4,10),(5,10),(6,10),(7,10),(8,10)]) ?_
 intro w2 G2 p
 refine Jp<|dm 0 rfl rfl<|dm 0 rfl rfl ?_
 obtain⟨y3,h,hm⟩:=Qc hm
 have B5:=(B4.gr G2)
 refine dh 0 rfl rfl (fun w hS=>Jl (i:=a2) Tryz.underlying30 (Qe).siz rfl (Rd.kp B5 hS) rfl h)<|dh 0 rfl rfl (fun w hS=>Zt (q:=0) (u:=.int .i64 y3) Qe rfl (Rd.kp B5 hS) h (by first|rfl|omega) rfl)<|dm 0 rfl rfl<|dm 0 rfl rfl ?_
 obtain⟨y4,j,hm⟩:=Qc hm
 have B6:=((f.kz K1).gr G2)
 refine dh 0 rfl rfl (fun w hS=>Jl (i:=a2) Tryz.underlying30 (Qe).siz rfl (Rd.kp B6 hS) rfl j)<|dh 0 rfl rfl (fun w hS=>Zt (q:=0) (u:=.int .i64 y4) Qe rfl (Rd.kp B6 hS) j (by first|rfl|omega) rfl)<|dh 0 rfl rfl (fun w hS=>Ke (a:=y3) (b:=y4) rfl rfl)<|Qa<|Zq hm rfl (fun c3 hm=>?_) (fun c3 hm=>?_)
 · refine qs 1 rfl<|qm rfl<|Qa<|Qp<|Zk<|Xp ?_
   refine Xp<|Zk<|Xp ?_
   have X7:=(((Gr.refl w).kz K1).trans G2)
   cases hm
   exact⟨_,_,rfl,Qr rfl (Ql rfl),rfl,X7⟩
 refine Jb<|Xi<|Xa<|qg 3 rfl<|qm rfl<|qv rfl (Xn (k:=.i64) (a:=a2) (b:=1) rfl rfl)<|qm rfl ?_
 refine Qj ?_
 have K_8:Kz [] w w2:=(K1.gr G2)
 subst g
 exact⟨rfl,⟨n1,Qb (a2+1)⟩,Qi,⟨hm,K_8⟩,Nat.lt_succ_self _⟩
theorem Qfx {p0 p1 vp0_7 zp0_7 gp0_7 op0_7 vp1_7 zp1_7 gp1_7 op1_7 r}(hm:Bi p0 p1=some r){w:World}(d:Rd w zp0_7 gp0_7 op0_7 1 vp0_7 (p0.Witness.map ic))(f:Rd w zp1_7 gp1_7 op1_7 1 vp1_7 (p1.Witness.map ic)):
 Calls Tryz.prog 21 [.agg (Qq.cs p0 vp0_7).toArray,.agg (Qq.cs p1 vp1_7).toArray].toArray w fun e w'=>∃ v,e=.returned v∧(v=.bool r∧Gr w w'):=by
 have o:=d.lth
 have s:=f.lth
 unfold Bi at hm
 refine Xj 52 Tryz.func21 rfl rfl rfl<|qs 3 rfl<|qe rfl (Xq (cs:=Qq.cs p0 vp0_7) rfl rfl) ?_
 rintro _ w1 ⟨b1,rfl,m,g,G1⟩
 have z3:=G1.size
 have t:=g.lt
 refine qe rfl (Xq (cs:=Qq.cs p1 vp1_7) rfl rfl) ?_
 rintro _ w2 ⟨b2,rfl,n,c,G2⟩
 have z5:=G2.size
 have u:=c.lt
 refine qm rfl<|qd 48 rfl<|qv rfl (Qg Lp rfl) ?_
 have B7:=(g.gr G2)
 refine qv rfl (Qf (v:=bv p0.Kind) Zb rfl B7 rfl)<|qv rfl (Qg Lp rfl)<|qv rfl (Qf (v:=bv p1.Kind) Zb rfl c rfl)<|qv rfl (Jz (p:=p0.Kind) (q:=p1.Kind) rfl rfl)<|Jo hm rfl (Qt rfl) (fun c1 hm=>?_) (fun c1 hm=>?_)
 · refine qn 7 rfl ?_
   refine qn 7 rfl ?_
   refine qn 7 rfl ?_
   refine qn 7 rfl ?_
   refine qn 7 rfl ?_
   refine qn 7 rfl ?_
   refine Qa<|Qp ?_
   have Y1:=Gr.trans G1 G2
   have h:=((Gr.refl w).trans Y1)
   cases hm
   exact⟨_,_,rfl,Qr rfl (Ql rfl),rfl,h⟩
 refine qv rfl (Qg Lq rfl)<|qv rfl (Qf (v:=.bool p0.Fits) He rfl B7 rfl)<|qv rfl (Qg Lq rfl)<|qv rfl (Qf (v:=.bool p1.Fits) He rfl c rfl)<|qv rfl (Qn9 Tryz.underlying4 rfl rfl)<|qm rfl<|Ng hm rfl (Qt rfl) (fun c2 hm=>?_) (fun c2 hm=>?_)
 · refine qn 7 rfl ?_
   refine qn 7 rfl ?_
   refine qn 7 rfl ?_
   refine qn 7 rfl ?_
   refine qn 7 rfl ?_
   refine Qa<|Qp ?_
   have Y2:=Gr.trans G1 G2
   have i:=((Gr.refl w).trans Y2)
   cases hm
   exact⟨_,_,rfl,Qr rfl (Ql rfl),rfl,i⟩
 refine qv rfl (Qg Ti rfl)<|qv rfl (Qf (v:=.int .i64 p0.Items) Qe rfl B7 rfl)<|qv rfl (Qg Ti rfl)<|qv rfl (Qf (v:=.int .i64 p1.Items) Qe rfl c rfl)<|qv rfl (Xv (a:=p0.Items) (b:=p1.Items) rfl rfl)<|qm rfl<|Jo hm rfl (Qt rfl) (fun c3 hm=>?_) (fun c3 hm=>?_)
 · refine qn 7 rfl ?_
   refine qn 7 rfl ?_
   refine qn 7 rfl ?_
   refine qn 7 rfl ?_
   refine Qa<|Qp ?_
   have Y3:=Gr.trans G1 G2
   have j:=((Gr.refl w).trans Y3)
   cases hm
   exact⟨_,_,rfl,Qr rfl (Ql rfl),rfl,j⟩
 refine qv rfl (Qg Lr rfl)<|qv rfl (Qf (v:=.int .i64 p0.Points) Qe rfl B7 rfl)<|qv rfl (Qg Lr rfl)<|qv rfl (Qf (v:=.int .i64 p1.Points) Qe rfl c rfl)<|qv rfl (Xv (a:=p0.Points) (b:=p1.Points) rfl rfl)<|qm rfl<|Jo hm rfl (Qt rfl) (fun c4 hm=>?_) (fun c4 hm=>?_)
 · refine qn 7 rfl ?_
   refine qn 7 rfl ?_
   refine qn 7 rfl ?_
   refine Qa<|Qp ?_
   have Y4:=Gr.trans G1 G2
   have k:=((Gr.refl w).trans Y4)
   cases hm
   exact⟨_,_,rfl,Qr rfl (Ql rfl),rfl,k⟩
 refine qv rfl (Qg Lu rfl)<|qv rfl (Qf (v:=.int .i64 p0.Header) Qe rfl B7 rfl)<|qv rfl (Qg Lu rfl)<|qv rfl (Qf (v:=.int .i64 p1.Header) Qe rfl c rfl)<|qv rfl (Xv (a:=p0.Header) (b:=p1.Header) rfl rfl)<|qm rfl<|Jo hm rfl (Qt rfl) (fun c5 hm=>?_) (fun c5 hm=>?_)
 · refine qn 7 rfl ?_
   refine qn 7 rfl ?_
   refine Qa<|Qp ?_
   have Y5:=Gr.trans G1 G2
   have l:=((Gr.refl w).trans Y5)
   cases hm
   exact⟨_,_,rfl,Qr rfl (Ql rfl),rfl,l⟩
 refine qv rfl (Qg Py rfl)<|qv rfl (Qf (v:=.int .i64 p0.Storage) Qe rfl B7 rfl)<|qv rfl (Qg Py rfl)<|qv rfl (Qf (v:=.int .i64 p1.Storage) Qe rfl c rfl)<|qv rfl (Xv (a:=p0.Storage) (b:=p1.Storage) rfl rfl)<|qm rfl<|Jo hm rfl (Qt rfl) (fun c6 hm=>?_) (fun c6 hm=>?_)
 · refine qn 7 rfl ?_
   refine Qa<|Qp ?_
   have Y6:=Gr.trans G1 G2
   have X9:=((Gr.refl w).trans Y6)
   cases hm
   exact⟨_,_,rfl,Qr rfl (Ql rfl),rfl,X9⟩
 refine qv rfl (Qg Tj rfl)<|qv rfl (Qf (v:=.int .i64 p0.Cost) Qe rfl B7 rfl)<|qv rfl (Qg Tj rfl)<|qv rfl (Qf (v:=.int .i64 p1.Cost) Qe rfl c rfl)<|qv rfl (Xv (a:=p0.Cost) (b:=p1.Cost) rfl rfl)<|qn 2 rfl ?_
 refine Qa<|Qp ?_
 have Y7:=Gr.trans G1 G2
 have X8:=((Gr.refl w).trans Y7)
 cases hm
 exact⟨_,_,rfl,Qr rfl (Ql rfl),rfl,X8⟩
theorem Qfw {p0 p1 vp0_7 zp0_7 gp0_7 op0_7 vp1_7 zp1_7 gp1_7 op1_7 r}(hm:Up p0 p1=some r){w:World}(a:Rd w zp0_7 gp0_7 op0_7 1 vp0_7 (p0.Witness.map ic))(b:Rd w zp1_7 gp1_7 op1_7 1 vp1_7 (p1.Witness.map ic)):
 Calls Tryz.prog 23 [.agg (Qq.cs p0 vp0_7).toArray,.agg (Qq.cs p1 vp1_7).toArray].toArray w fun e w'=>∃ v,e=.returned v∧(v=.bool r∧Gr w w'):=by
 have p:=a.lth
 have q:=b.lth
 unfold Up at hm
 refine Xj 15 Tryz.func23 rfl rfl rfl<|qs 3 rfl<|qe rfl (Xq (cs:=Qq.cs p0 vp0_7) rfl rfl) ?_
 rintro _ w1 ⟨b1,rfl,n,d,G1⟩
 have z3:=G1.size
 have s:=d.lt
 refine qe rfl (Xq (cs:=Qq.cs p1 vp1_7) rfl rfl) ?_
 rintro _ w2 ⟨b2,rfl,o,c,G2⟩
 have z5:=G2.size
 have t:=c.lt
 refine qm rfl<|qd 11 rfl ?_
 have B7:=(d.gr G2)
 refine qv rfl (Xm Zf rfl B7 rfl)<|qv rfl (Xm Zf rfl c rfl) ?_
 have Y1:=Gr.trans G1 G2
 have B8:=(a.gr Y1)
 have B9:=(b.gr Y1)
 obtain⟨x1,f,hm⟩:=Qc hm
 refine qe rfl (eC Qe4 rfl (Qfx f B8 B9)) ?_
 rintro _ w3 ⟨rfl,G3⟩
 have u:=G3.size
 refine Ng hm rfl (Qt rfl) (fun c1 hm=>?_) (fun c1 hm=>?_)
 · refine qn 7 rfl ?_
   refine Qa<|Qp ?_
   have g:=(((Gr.refl w).trans Y1).trans G3)
   cases hm
   exact⟨_,_,rfl,Qr rfl (Ql rfl),rfl,g⟩
 refine qv rfl (Qg Ht rfl) ?_
 have h:=(B7.gr G3)
 refine qv rfl (Qf (v:=vp0_7) Zp rfl h rfl)<|qv rfl (Qg Ht rfl) ?_
 have i:=(c.gr G3)
 refine qv rfl (Qf (v:=vp1_7) Zp rfl i rfl) ?_
 have j:=(B8.gr G3)
 have k:=(B9.gr G3)
 obtain⟨x2,l,hm⟩:=Qc hm
 refine qe rfl (eC Qe6 rfl (Qft l j k)) ?_
 rintro _ w4 ⟨rfl,G4⟩
 have x:=G4.size
 refine qn 2 rfl<|Qa<|Qp ?_
 have m:=((((Gr.refl w).trans Y1).trans G3).trans G4)
 cases hm
 exact⟨_,_,rfl,Qr rfl (Ql rfl),rfl,m⟩
end Go.Proofs.YtopkalcefepilaaGreat.Mx
