/- Walks that follow mirrors: Gw. Printed by mx.py. -/
import Derived.Test.YtopkalcefepilaaGreatGt
import Derived.Test.YtopkalcefepilaaGreatZd
set_option linter.unusedVariables false
set_option linter.unusedSimpArgs false
set_option maxRecDepth 100000
set_option maxHeartbeats 2000000
namespace Go.Proofs.YtopkalcefepilaaGreat.Mx
open Go Go.RowKit Go.Sx
theorem Qpj:En Tryz.prog 176:=fun _ _=>by kernel_rfl
theorem Dq:En Tryz.prog 42:=fun _ _=>by kernel_rfl
theorem Qp9:En Tryz.prog 134:=fun _ _=>by kernel_rfl
theorem Qpk:En Tryz.prog 177:=fun _ _=>by kernel_rfl
theorem Qi4:En Tryz.prog 136:=fun _ _=>by kernel_rfl
theorem Qi3:En Tryz.prog 135:=fun _ _=>by kernel_rfl
theorem Qe2:En Tryz.prog 137:=fun _ _=>by kernel_rfl
theorem Dz {p0 r}(hm:Yo p0=some r){w:World}:
 Calls Tryz.prog 42 [.int .i64 p0].toArray w fun e w'=>∃ v,e=.returned v∧(v=.int .i64 r∧Gr w w'):=by
 unfold Yo at hm
 refine Xj 13 Tryz.func42 rfl rfl rfl<|qs 1 rfl<|qm rfl<|qd 1 rfl ?_
 refine qm rfl<|Qa<|Qh<|qs 1 rfl<|qm rfl<|Qa ?_
 refine Xc<|Zv (α:=Nat × Int × Int) (rg 3 9) (fun⟨n1,a3,a4⟩=>[(3,.int .i64 a3),(4,.int .i64 a4)]) (fun⟨n1,a3,a4⟩ wr=>(Qs (Qcj p0) n1 (a3,a4)=some r)∧Kz [] w wr) (fun⟨n1,a3,a4⟩=>n1) ⟨Qy,1,0⟩ ?_ ?_ ?_
 · exact Qi
 · exact⟨hm,Kz.refl _ _⟩
 clear hm;rintro⟨n1,a3,a4⟩ w1 ⟨hm,K1⟩
 have z1:=K1.size
 have hb:=Zu hm;clear hm;obtain⟨n1,rfl,hm⟩:=hb
 generalize c:Qs (Qcj p0) n1=d at hm
 unfold Qcj at hm
 try dsimp only at hm
 refine Qh<|qs 3 rfl<|qn 2 rfl<|qv rfl (Zo (a:=a4) (b:=p0) rfl rfl)<|Qa ?_
 refine Zy hm rfl (fun c1 hm=>?_) (fun c1 hm=>?_)
 · refine Zd<|Xh<|Xh<|Zc<|Xa<|qs 2 rfl ?_
   refine qn 2 rfl<|Qa<|Qp ?_
   have X3:=((Gr.refl w).kz K1)
   cases hm
   exact⟨_,_,rfl,Qr rfl (Ql rfl),rfl,X3⟩
 refine qu<|Qh<|Xc<|qg 3 rfl<|qm rfl<|qv rfl (Kb (k:=.i64) (a:=2) (b:=a3) rfl rfl) ?_
 refine qm rfl<|Qj<|Xi<|Xa<|qg 3 rfl<|qm rfl<|qv rfl (Xn (k:=.i64) (a:=a4) (b:=1) rfl rfl) ?_
 refine qm rfl<|Qj ?_
 have K_2:Kz [] w w1:=K1
 subst c
 exact⟨rfl,⟨n1,Qb (2*a3),Qb (a4+1)⟩,Qi,⟨hm,K_2⟩,Nat.lt_succ_self _⟩
theorem Quu {p0 p1 r}(hm:Oo p0 p1=some r){w:World}:
 Calls Tryz.prog 134 [.agg (Qo.cs p0).toArray,.int .i64 p1].toArray w fun e w'=>∃ v,e=.returned v∧(v=.int .i64 r∧Gr w w'):=by
 unfold Oo at hm
 refine Xj 20 Tryz.func134 rfl rfl rfl<|qs 2 rfl<|qe rfl (Xq (cs:=Qo.cs p0) rfl rfl) ?_
 rintro _ w1 ⟨b1,rfl,h,c,G1⟩
 have z1:=G1.size
 have i:=c.lt
 refine qm rfl<|Qa<|Qh<|qs 3 rfl<|qv rfl (Xm Zj rfl c rfl) ?_
 obtain⟨x1,d,hm⟩:=Qc hm
 refine qe rfl (eC Qpj rfl (Que d)) ?_
 rintro _ w2 ⟨rfl,G2⟩
 have z3:=G2.size
 refine qm rfl<|qd 2 rfl<|qm rfl<|qv rfl (Ke (a:=x1) (b:=0) rfl rfl)<|Qa ?_
 refine Zq hm rfl (fun c1 hm=>?_) (fun c1 hm=>?_)
 · refine qs 2 rfl<|qn 2 rfl<|Qa<|Qp<|Xp ?_
   have X4:=(((Gr.refl w).trans G1).trans G2)
   cases hm
   exact⟨_,_,rfl,Qr rfl (Ql rfl),rfl,X4⟩
 refine qu<|Qh ?_
 have X5:=(((Gr.refl w).trans G1).trans G2)
 refine qj (β:=Bool) (rg 11 9) (fun a2=>[(19,.bool a2)]) (fun a2 wr=>(Uu a2=some r)∧Kz [] w2 wr) ?_ ?_
 · refine qg 9 rfl<|qm rfl<|qv rfl (Zo (a:=p1) (b:=0) rfl rfl)<|Zm hm rfl (Qt rfl) (fun c3 hm=>?_) (fun c3 hm=>?_)
   · refine qn 6 rfl<|Qj ?_
     exact⟨rfl,true,Qi,hm,Qw⟩
   refine qm rfl<|qv rfl (Qg Ji rfl) ?_
   have f:=(c.gr G2)
   refine qv rfl (Qf (v:=.int .i64 p0.Depth) Qe rfl f rfl) ?_
   obtain⟨x3,g,hm⟩:=Qc hm
   refine qe rfl (eC Dq rfl (Dz g)) ?_
   rintro _ w4 ⟨rfl,G4⟩
   have j:=G4.size
   refine qv rfl (Ky (a:=p1) (b:=x3) rfl rfl)<|qm rfl<|Qj ?_
   exact⟨rfl,(decide (x3<p1)),Qi,hm,(Qw.gr G4)⟩
 clear hm;rintro a2 w3 ⟨hm,K3⟩
 have z6:=K3.size
 unfold Uu at hm
 refine Zh hm rfl (fun c2 hm=>?_) (fun c2 hm=>?_)
 · refine qs 1 rfl<|qm rfl<|qb ?_
   have X7:=(X5.kz K3)
   cases hm
   exact⟨_,_,rfl,Qr rfl (Ql rfl),rfl,X7⟩
 refine qu<|qs 1 rfl<|qm rfl<|Qa<|Qp ?_
 have X8:=(X5.kz K3)
 cases hm
 exact⟨_,_,rfl,Qr rfl (Ql rfl),rfl,X8⟩
theorem Quv (p0:Qo)(p1:List (List (List Int)))(p2:Int)(vp1:Value)(zp1 gp1 op1:Nat)(Fp1:List Nat)(r:Int)(hm:Qfy p0 p1 p2=some r)(w:World)(d:Xx (Hn (Pb 1 ic)) w zp1 gp1 op1 vp1 Fp1 p1)  :
 Calls Tryz.prog 177 [.agg (Qo.cs p0).toArray,vp1,.int .i64 p2].toArray w fun e w'=>∃ v,e=.returned v∧(v=.int .i64 r∧Gr w w'):=by
 have E:=d.flt
 have F:=d.lth
 unfold Qfy at hm
 refine Xj 19 Tryz.func177 rfl rfl rfl<|qs 2 rfl<|qe rfl (Xq (cs:=Qo.cs p0) rfl rfl) ?_
 rintro _ w1 ⟨b1,rfl,x,g,G1⟩
 have z3:=G1.size
 have G:=g.lt
 refine qm rfl<|Qa<|Qh<|qs 2 rfl<|qm rfl<|qv rfl (Xv (a:=p2) (b:=0) rfl rfl) ?_
 refine Qa<|Zq hm rfl (fun c1 hm=>?_) (fun c1 hm=>?_)
 · refine qs 1 rfl<|qm rfl<|qb ?_
   have X5:=((Gr.refl w).trans G1)
   cases hm
   exact⟨_,_,rfl,Qr rfl (Ql rfl),rfl,X5⟩
 refine qu<|Qh<|dw [([])] [] (.leaf [(0,10),(1,10),(2,10),(3,10),(4,10),(5,10),(6,10),(7,10),(8,10),(9,10),(10,10)]) ?_
 intro w2 G2 H
 refine Jp<|dm 0 rfl rfl ?_
 obtain⟨y1,h,hm⟩:=Qc hm
 have B6:=((d.gr G1).gr G2)
 refine dh 0 rfl rfl (fun w hS=>Vu (i:=0) Tryz.underlying209 (Yn).siz rfl (Xx.kp B6 hS (.inr List.not_mem_nil) (fun _ _=>List.not_mem_nil)) rfl h) ?_
 obtain⟨I,n,J,K,L,R7,o,Q7,M⟩:=Ca B6 h
 have N:=Q7.lth
 refine dh 0 rfl rfl (fun w hS=>Zt (c:=(fun p=>[p.2])) (q:=0) (u:=n) Yn rfl (Rd.kp R7 hS (.inr List.not_mem_nil)) o (by first|rfl|omega) rfl)<|dh 0 rfl rfl (fun w hS=>Qg Ji rfl) ?_
 have B9:=(g.gr G2)
 refine dh 0 rfl rfl (fun w hS=>Qf (v:=.int .i64 p0.Depth) Qe rfl (Bx.kp B9 hS) rfl) ?_
 obtain⟨y2,j,hm⟩:=Qc hm
 refine dh 0 rfl rfl (fun w hS=>Vu (i:=p0.Depth) Tryz.underlying252 (Zp).siz rfl (Xx.kp Q7 hS (.inr List.not_mem_nil) (fun _ _=>List.not_mem_nil)) rfl j) ?_
 obtain⟨y,k,z,A,B,s,l,f,C⟩:=Cb Q7 j
 have D:=f.lth
 refine dh 0 rfl rfl (fun w hS=>Zt (c:=(fun p=>[p.2])) (q:=0) (u:=k) Zp rfl (Rd.kp s hS (.inr List.not_mem_nil)) l (by first|rfl|omega) rfl)<|dm 0 rfl rfl ?_
 obtain⟨y3,m,hm⟩:=Qc hm
 refine dh 0 rfl rfl (fun w hS=>Jl (i:=p2) Tryz.underlying30 (Qe).siz rfl (Rd.kp f hS) rfl m)<|dh 0 rfl rfl (fun w hS=>Zt (q:=0) (u:=.int .i64 y3) Qe rfl (Rd.kp f hS) m (by first|rfl|omega) rfl)<|dm 0 rfl rfl<|Qa<|Qp ?_
 have t:=(((Gr.refl w).trans G1).trans G2)
 cases hm
 exact⟨_,_,rfl,Qr rfl (Ql rfl),rfl,t⟩
theorem Qlf (p0:Qo)(p1:List (List (List Int)))(p2:Int)(vp1:Value)(zp1 gp1 op1:Nat)(Fp1:List Nat)(r:Int × Int)(hm:Uv p0 p1 p2=some r)(w:World)(d:Xx (Hn (Pb 1 ic)) w zp1 gp1 op1 vp1 Fp1 p1)  :
 Calls Tryz.prog 135 [.agg (Qo.cs p0).toArray,vp1,.int .i64 p2].toArray w fun e w'=>∃ v,e=.returned v∧(v=.tuple [.int .i64 r.1,.int .i64 r.2].toArray∧Gr w w'):=by
 have l:=d.flt
 have m:=d.lth
 unfold Uv at hm
 refine Xj 28 Tryz.func135 rfl rfl rfl<|qs 3 rfl<|qe rfl (Xq (cs:=Qo.cs p0) rfl rfl) ?_
 rintro _ w1 ⟨b1,rfl,i,f,G1⟩
 have z3:=G1.size
 have n:=f.lt
 refine qn 2 rfl<|qd 2 rfl<|qn 2 rfl ?_
 refine Qa<|Qh<|qs 1 rfl<|qm rfl<|Qa<|Xc ?_
 have X5:=((Gr.refl w).trans G1)
 have B6:=(d.gr G1)
 refine Zv (α:=Nat × Int × Int × Int) (rg 8 18) (fun⟨n1,a4,a5,a6⟩=>[(8,.int .i64 a4),(9,.int .i64 a5),(10,.int .i64 a6)]) (fun⟨n1,a4,a5,a6⟩ wr=>(Qs (Qcv p0 p1 p2) n1 (a4,a5,a6)=some r)∧Kz [] w1 wr) (fun⟨n1,a4,a5,a6⟩=>n1) ⟨Qy,(-1),(-1),0⟩ ?_ ?_ ?_
 · exact Qi
 · exact⟨hm,Kz.refl _ _⟩
 clear hm;rintro⟨n1,a4,a5,a6⟩ w2 ⟨hm,K2⟩
 have z7:=K2.size
 have hb:=Zu hm;clear hm;obtain⟨n1,rfl,hm⟩:=hb
 generalize c:Qs (Qcv p0 p1 p2) n1=j at hm
 unfold Qcv at hm
 try dsimp only at hm
 refine Qh<|qs 3 rfl<|qn 2 rfl<|qv rfl (Yr (a:=a6) (b:=p2) rfl rfl)<|Qa ?_
 refine Zy hm rfl (fun c1 hm=>?_) (fun c1 hm=>?_)
 · refine Zd<|Xh<|Xh<|Zc<|Xa<|qs 4 rfl ?_
   refine qn 4 rfl<|Qa<|Qp ?_
   have g:=(X5.kz K2)
   cases hm
   exact⟨_,_,rfl,Jk rfl (Ql rfl) (Ql rfl),rfl,g⟩
 refine qu<|Qh<|Xc<|qs 5 rfl ?_
 have B8:=(f.kz K2)
 refine qv rfl (Xm Zj rfl B8 rfl)<|qn 2 rfl ?_
 have B9:=(B6.kz K2 Qn (fun x hx=>Qn))
 obtain⟨x7,h,hm⟩:=Qc hm
 refine qe rfl (eC Qpk rfl (Quv p0 p1 a6 _ _ _ _ _ _ h _ B9)) ?_
 rintro _ w3 ⟨rfl,G3⟩
 have o:=G3.size
 refine qm rfl<|qd 3 rfl<|qn 2 rfl<|qv rfl (Ky (a:=x7) (b:=a4) rfl rfl) ?_
 refine Qa<|Zy hm rfl (fun c2 hm=>?_) (fun c2 hm=>?_)
 · refine Jb<|Xi<|Xa<|qg 3 rfl<|qm rfl<|qv rfl (Xn (k:=.i64) (a:=a6) (b:=1) rfl rfl)<|qm rfl ?_
   refine Qj ?_
   have K_12:Kz [] w1 w3:=(K2.gr G3)
   subst c
   exact⟨rfl,⟨n1,a4,a5,Qb (a6+1)⟩,Qi,⟨hm,K_12⟩,Nat.lt_succ_self _⟩
 refine qg 4 rfl<|qn 4 rfl<|Qj<|Xi ?_
 refine Xa<|qg 3 rfl<|qm rfl<|qv rfl (Xn (k:=.i64) (a:=a6) (b:=1) rfl rfl)<|qm rfl<|Qj ?_
 have K_11:Kz [] w1 w3:=(K2.gr G3)
 subst c
 exact⟨rfl,⟨n1,x7,a6,Qb (a6+1)⟩,Qi,⟨hm,K_11⟩,Nat.lt_succ_self _⟩
theorem Qut {p0 p1 r}(hm:Om p0 p1=some r){w:World}:
 Calls Tryz.prog 83 [.agg (Qo.cs p0).toArray,.int .i64 p1].toArray w fun e w'=>∃ v,e=.returned v∧(v=.tuple [.int .i64 r.1,.int .i64 r.2].toArray∧Gr w w'):=by
 unfold Om at hm
 refine Xj 24 Tryz.func83 rfl rfl rfl<|qs 3 rfl<|qe rfl (Xq (cs:=Qo.cs p0) rfl rfl) ?_
 rintro _ w1 ⟨b1,rfl,q,f,G1⟩
 have z1:=G1.size
 have s:=f.lt
 refine qn 2 rfl<|Qa<|Qh<|qs 4 rfl<|qv rfl (Xm Zj rfl f rfl) ?_
 refine qm rfl ?_
 obtain⟨x1,m,hm⟩:=Qc hm
 refine qe rfl (eC Qp9 rfl (Quu m)) ?_
 rintro _ w2 ⟨rfl,G2⟩
 have z3:=G2.size
 refine qm rfl<|qd 2 rfl<|qm rfl<|qv rfl (Ke (a:=x1) (b:=0) rfl rfl)<|Qa ?_
 refine Zq hm rfl (fun c1 hm=>?_) (fun c1 hm=>?_)
 · refine qs 3 rfl<|qn 3 rfl<|Qa<|Qp ?_
   refine Xp ?_
   have X4:=(((Gr.refl w).trans G1).trans G2)
   cases hm
   exact⟨_,_,rfl,Jk rfl (Ql rfl) (Ql rfl),rfl,X4⟩
 refine qu<|Qh<|dw [([])] [] (.leaf [(0,10),(1,10),(3,10),(2,0),(4,0),(5,10),(6,10),(7,10),(8,10),(9,10)]) ?_
 intro w3 G3 t
 refine Jp ?_
 have B5:=((f.gr G2).gr G3)
 refine dh 0 rfl rfl (fun w hS=>Xm Zj rfl (Bx.kp B5 hS) rfl)<|dh 0 rfl rfl (fun w hS=>Xm Zj rfl (Bx.kp B5 hS) rfl)<|dm 0 rfl rfl ?_
 obtain⟨x2,n,hm⟩:=Qc hm
 refine qz [] rfl (eC Qi4 rfl (Qlc p0 _ n _)) ⟨fun _=>Qn,trivial⟩ ?_
 rintro g w4 ⟨_,h,i,j,rfl,c,k,l,G4⟩
 have z6:=G4.size
 have u:=c.flt
 have x:=c.lth
 refine kG G4 ?_
 obtain⟨x3,o,hm⟩:=Qc hm
 refine qz [] rfl (eC Qi3 rfl (Qlf p0 x2 p1 _ _ _ _ _ _ o _ (Xw.rd c))) ⟨fun _=>Qn,trivial⟩ ?_
 rintro _ w5 ⟨rfl,G5⟩
 have z9:=G5.size
 refine kG G5 ?_
 have d:=(((Kp.refl ([]) w3).gr G4).gr G5)
 refine dn 0 rfl rfl d<|dn 0 rfl rfl d<|dn 0 rfl rfl d<|dn 0 rfl rfl d<|dn 0 rfl rfl d<|Qa<|Qh ?_
 refine qg 3 rfl<|qn 3 rfl<|Qa<|Qp ?_
 have p:=((((((Gr.refl w).trans G1).trans G2).trans G3).trans G4).trans G5)
 cases hm
 exact⟨_,_,rfl,Jk rfl (Ql rfl) (Ql rfl),rfl,p⟩
theorem Quw (n:Nat):∀ (p0:Qo) (p1:List (List (List Int))) (p2:Int) (p3:Int) (p4:Int) (p5:Int) (vp1:Value) (zp1 gp1 op1:Nat) (Fp1:List Nat) (r:List Int) (hm:Qs Qcx n (p0,p1,p2,p3,p4,p5)=some r) (w:World) (i:Xx (Hn (Pb 1 ic)) w zp1 gp1 op1 vp1 Fp1 p1) ,
 Calls Tryz.prog 137 [.agg (Qo.cs p0).toArray,vp1,.int .i64 p2,.int .i64 p3,.int .i64 p4,.int .i64 p5].toArray w fun e w'=>∃ v,e=.returned v∧(∃ (ur0_s:Value) (zr0_s:Nat) (gr0_s:Nat),v=ur0_s∧Qk w' zr0_s gr0_s 3 1 ur0_s (r.map ic)∧Xb (zr0_s=0∨w.heap.size≤gr0_s)∧Gr w w'):=by
 induction n with
 | zero=>intro p0 p1 p2 p3 p4 p5 vp1 zp1 gp1 op1 Fp1 r hm w i;cases hm
 | succ n ih=>
 intro p0 p1 p2 p3 p4 p5 vp1 zp1 gp1 op1 Fp1 r hm w i
 replace hm:Qfz (Qs Qcx n) p0 p1 p2 p3 p4 p5=some r:=hm
 generalize Qs Qcx n=j at hm ih
 have ag:=i.flt
 have ah:=i.lth
 unfold Qfz at hm
 refine Xj 75 Tryz.func137 rfl rfl rfl<|qs 2 rfl<|qe rfl (Xq (cs:=Qo.cs p0) rfl rfl) ?_
 rintro _ w1 ⟨b1,rfl,ac,h,G1⟩
 have z3:=G1.size
 have ai:=h.lt
 refine qm rfl<|Qa<|Qh<|qs 2 rfl<|qm rfl<|qv rfl (Xv (a:=p5) (b:=0) rfl rfl) ?_
 refine Qa<|Zq hm rfl (fun c1 hm=>?_) (fun c1 hm=>?_)
 · refine qs 1 rfl<|qm rfl<|qb ?_
   have X5:=((Gr.refl w).trans G1)
   cases hm
   exact⟨_,_,rfl,Qr rfl (Ql rfl),(.slice none 0 0),0,0,rfl,(Kx _ 0 3 1),⟨.inl rfl⟩,X5⟩
 refine qu<|Qh<|qs 2 rfl<|qm rfl<|qv rfl (Xv (a:=p4) (b:=0) rfl rfl) ?_
 refine Qa<|Zq hm rfl (fun c2 hm=>?_) (fun c2 hm=>?_)
 · refine qs 7 rfl<|qm rfl<|qv rfl (Qg Ji rfl)<|qv rfl (Qf (v:=.int .i64 p0.Depth) Qe rfl h rfl) ?_
   obtain⟨x1,I,hm⟩:=Qc hm
   refine qe rfl (eC Dq rfl (Dz I)) ?_
   rintro _ w2 ⟨rfl,G2⟩
   have z6:=G2.size
   refine qv rfl (Js (k:=.i64) (a:=p2) (b:=x1) rfl rfl)<|qe rfl (Kt [Qb (p2-x1)] ic Gi rfl rfl (Vj rfl) rfl rfl rfl) ?_
   rintro J w3 ⟨K,ad,o,G3⟩
   have z7:=G3.size
   have aj:=o.lth
   refine qm rfl<|qb ?_
   have X9:=((((Gr.refl w).trans G1).trans G2).trans G3)
   cases hm
   exact⟨_,_,rfl,Qr rfl (Ql rfl),J,1,K,rfl,o,⟨(.inr Qn)⟩,X9⟩
 refine qu<|qs 11 rfl<|qv rfl (Xm Zj rfl h rfl)<|qn 2 rfl ?_
 refine qn 2 rfl ?_
 have s:=(i.gr G1)
 obtain⟨x2,L,hm⟩:=Qc hm
 refine qe rfl (eC Qid rfl (Qle p0 p1 p3 p4 p5 _ _ _ _ _ _ L _ s)) ?_
 rintro _ w4 ⟨rfl,G4⟩
 have ak:=G4.size
 refine qn 5 rfl<|Qa<|Qh ?_
 refine qg 1 rfl<|qm rfl<|Qa ?_
 have M:=(((Gr.refl w).trans G1).trans G4)
 refine qj (β:=Int) ([15]++rg 36 16) (fun a3=>[(15,.int .i64 a3)]) (fun a3 wr=>(Qcy p0 p1 p2 p4 p5 j x2 a3=some r)∧Kz [] w4 wr) ?_ ?_
 · refine qj (β:=Bool) (rg 36 12) (fun a7=>[(47,.bool a7)]) (fun a7 wr=>(Ot p0 p1 p2 p3 p4 p5 j x2 a7=some r)∧Kz [] w4 wr) ?_ ?_
   · refine qg 12 rfl<|qv rfl (Qg Kj rfl) ?_
     have N:=(h.gr G4)
     refine qv rfl (Qf (v:=bv p0.Kind) Zb rfl N rfl)<|qv rfl (Bp (p:=p0.Kind) (q:=1#8) rfl rfl)<|Jo hm rfl (Qt rfl) (fun c4 hm=>?_) (fun c4 hm=>?_)
     · refine qn 7 rfl ?_
       refine qm rfl<|Qj ?_
       exact⟨rfl,false,Qi,hm,Qw⟩
     refine qm rfl<|qv rfl (Xv (a:=x2.2) (b:=0) rfl rfl)<|Zm hm rfl (Qt rfl) (fun c5 hm=>?_) (fun c5 hm=>?_)
     · refine qn 5 rfl<|Qj ?_
       exact⟨rfl,true,Qi,hm,Qw⟩
     refine qn 2 rfl<|qv rfl (Xv (a:=x2.2) (b:=p5) rfl rfl)<|qn 2 rfl<|Qj ?_
     exact⟨rfl,(decide (x2.2=p5)),Qi,hm,Qw⟩
   clear hm;rintro a7 w9 ⟨hm,K9⟩
   have al:=K9.size
   unfold Ot at hm
   refine Wz hm rfl (fun c3 hm=>?_) (fun c3 hm=>?_)
   · refine Jb ?_
     exact⟨rfl,0,Qi,hm,(Qw.kz K9)⟩
   refine qg 5 rfl ?_
   have O:=((h.gr G4).kz K9)
   refine qv rfl (Xm Zj rfl O rfl)<|qn 2 rfl ?_
   obtain⟨x8,P,hm⟩:=Qc hm
   refine qe rfl (eC Qie rfl (Qld P)) ?_
   rintro _ am ⟨rfl,t⟩
   have an:=t.size
   refine qm rfl<|Qj ?_
   exact⟨rfl,x8,Qi,hm,((Qw.kz K9).gr t)⟩
 clear hm;rintro a3 w5 ⟨hm,K5⟩
 have ao:=K5.size
 unfold Qcy at hm
 refine qs 10 rfl ?_
 have u:=((h.gr G4).kz K5)
 refine qv rfl (Xm Zj rfl u rfl)<|qn 2 rfl<|qv rfl (Kb (k:=.i64) (a:=2) (b:=p2) rfl rfl)<|qn 2 rfl<|qv rfl (Js (k:=.i64) (a:=p4) (b:=1) rfl rfl) ?_
 refine qm rfl ?_
 have y:=((s.gr G4).kz K5 Qn (fun x hx=>Qn))
 obtain⟨x4,Q,hm⟩:=Qc hm
 refine qe rfl (eC Qe2 rfl (ih p0 p1 (Qb (2*p2)) a3 (Qb (p4-1)) x2.2 _ _ _ _ _ _ Q _ y)) ?_
 rintro z w6 ⟨_,B,C,rfl,d,f,G6⟩
 have ap:=G6.size
 have ae:=d.lth
 refine qm rfl<|qd 15 rfl<|qm rfl ?_
 have R:=(u.gr G6)
 refine qv rfl (Xm Zj rfl R rfl)<|qn 2 rfl<|qv rfl (Kb (k:=.i64) (a:=2) (b:=p2) rfl rfl)<|qv rfl (Xn (k:=.i64) (a:=Qb (2*p2)) (b:=1) rfl rfl)<|qn 2 rfl ?_
 refine qv rfl (Js (k:=.i64) (a:=p4) (b:=1) rfl rfl)<|qn 2 rfl<|qv rfl (Js (k:=.i64) (a:=p5) (b:=x2.2) rfl rfl) ?_
 have S:=(y.gr G6)
 obtain⟨x5,T,hm⟩:=Qc hm
 refine qe rfl (eC Qe2 rfl (ih p0 p1 (Qb ((Qb (2*p2))+1)) a3 (Qb (p4-1)) (Qb (p5-x2.2)) _ _ _ _ _ _ T _ S)) ?_
 rintro D w7 ⟨_,E,F,rfl,g,G,G7⟩
 have aq:=G7.size
 have af:=g.lth
 have U:=(d.gr G7)
 obtain⟨l6,V,hm⟩:=Qc hm
 refine qe rfl (Ha (l:=x4) (m:=x5) (c:=ic) Fj rfl rfl U (Qk.rd g) V (by decide)) ?_
 rintro W w8 ⟨X,Y,Z,H,ar,aa⟩
 have au:=H.size
 refine qm rfl<|Qa<|Qp ?_
 have ab:=((((M.kz K5).trans G6).trans G7).ka H (Qd (Xe (A:=(fun x=>w.heap.size≤x)) f)))
 cases hm
 exact⟨_,_,rfl,Qr rfl (Ql rfl),W,X,Y,rfl,Z,⟨(Kc (A:=(fun x=>w.heap.size≤x)) aa (Xe (A:=(fun x=>w.heap.size≤x)) f))⟩,ab⟩
theorem Qux (p0:Qo)(p1:List (List (List Int)))(p2:Int)(p3:Int)(p4:Int)(p5:Int)(vp1:Value)(zp1 gp1 op1:Nat)(Fp1:List Nat)(r:List Int)(hm:Qcw p0 p1 p2 p3 p4 p5=some r)(w:World)(a:Xx (Hn (Pb 1 ic)) w zp1 gp1 op1 vp1 Fp1 p1)  :
 Calls Tryz.prog 137 [.agg (Qo.cs p0).toArray,vp1,.int .i64 p2,.int .i64 p3,.int .i64 p4,.int .i64 p5].toArray w fun e w'=>∃ v,e=.returned v∧(∃ (ur0_s:Value) (zr0_s:Nat) (gr0_s:Nat),v=ur0_s∧Qk w' zr0_s gr0_s 3 1 ur0_s (r.map ic)∧Xb (zr0_s=0∨w.heap.size≤gr0_s)∧Gr w w'):=
 Quw Qy p0 p1 p2 p3 p4 p5 vp1 zp1 gp1 op1 Fp1 r hm w a
theorem Qus {p0 p1 r}(hm:Ol p0 p1=some r){w:World}:
 Calls Tryz.prog 84 [.agg (Qo.cs p0).toArray,.int .i64 p1].toArray w fun e w'=>∃ v,e=.returned v∧(∃ ur0_s zr0_s gr0_s,v=ur0_s∧Qk w' zr0_s gr0_s 3 1 ur0_s (r.map ic)∧Xb (zr0_s=0∨w.heap.size≤gr0_s)∧Gr w w'):=by
 unfold Ol at hm
 refine Xj 23 Tryz.func84 rfl rfl rfl<|qs 2 rfl<|qe rfl (Xq (cs:=Qo.cs p0) rfl rfl) ?_
 rintro _ w1 ⟨b1,rfl,t,h,G1⟩
 have z1:=G1.size
 have y:=h.lt
 refine qm rfl<|qd 3 rfl<|qv rfl (Xm Zj rfl h rfl) ?_
 obtain⟨x1,o,hm⟩:=Qc hm
 refine qe rfl (eC Qi4 rfl (Qlc p0 _ o _)) ?_
 rintro i w2 ⟨_,j,k,l,rfl,a,m,n,G2⟩
 have z3:=G2.size
 have z:=a.flt
 have B:=a.lth
 refine qm rfl<|qd 9 rfl ?_
 have B6:=(h.gr G2)
 refine qv rfl (Xm Zj rfl B6 rfl)<|qn 2 rfl ?_
 obtain⟨x2,p,hm⟩:=Qc hm
 refine qe rfl (eC Qi3 rfl (Qlf p0 x1 p1 _ _ _ _ _ _ p _ (Xw.rd a))) ?_
 rintro _ w3 ⟨rfl,G3⟩
 have z7:=G3.size
 refine qn 5 rfl<|Qa<|Qh ?_
 refine qg 7 rfl ?_
 have B8:=(B6.gr G3)
 refine qv rfl (Xm Zj rfl B8 rfl)<|qm rfl<|qv rfl (Qg Ji rfl)<|qv rfl (Qf (v:=.int .i64 p0.Depth) Qe rfl B8 rfl)<|qm rfl ?_
 have B9:=(a.gr G3)
 obtain⟨x3,q,hm⟩:=Qc hm
 refine qe rfl (eC Qe2 rfl (Qux p0 x1 1 0 p0.Depth x2.2 _ _ _ _ _ _ q _ (Xw.rd B9))) ?_
 rintro c w4 ⟨_,d,f,rfl,b,g,G4⟩
 have C:=G4.size
 have u:=b.lth
 refine qm rfl<|Qa<|Qp ?_
 have s:=(((((Gr.refl w).trans G1).trans G2).trans G3).trans G4)
 cases hm
 exact⟨_,_,rfl,Qr rfl (Ql rfl),c,d,f,rfl,b,⟨(Xe (A:=(fun x=>w.heap.size≤x)) g)⟩,s⟩
end Go.Proofs.YtopkalcefepilaaGreat.Mx
